import PyProof.Rows.All
import Wide.All
import OpenK.AllK
import Wide.FinOn
import KE.DataMinMax
import KE.KStateDown
import HandS.ForMost
import HandS.More
import HandS.IsInst
import HandS.SetFor
import HandS.Defaults
import HandS.HeadHook1
import HandS.HeadHook2
import HandS.Head0
import HandS.Head1
import HandS.Head2
import HandS.HeadEnd
import HandS.ForExc
import HandS.ExcIs
import HandS.ExcValue
import PySem.Challenge.RW_lastfew_k02_refused
set_option Elab.async false
set_option linter.all false
set_option maxRecDepth 100000
set_option maxHeartbeats 4000000
/-! Plain mathematics of the program lastfew: sorted rows, wrong pairs, rising runs, commonest things. -/
namespace LF

/-! ### sorted rows -/
def srt (l : List Int) : List Int := l.mergeSort (fun a b => decide (a ≤ b))
theorem srt_perm (l : List Int) : (srt l).Perm l := List.mergeSort_perm l _
theorem srt_sorted (l : List Int) : (srt l).Pairwise (· ≤ ·) := by
  have h := List.pairwise_mergeSort (le := fun a b : Int => decide (a ≤ b)) (fun a b c h1 h2 => by simp at *; omega) (fun a b => by simp; omega) l
  exact h.imp (fun h => by simpa using h)
theorem srt_unique {a l : List Int} (p : a.Perm l) (s : a.Pairwise (· ≤ ·)) : a = srt l :=
  List.Perm.eq_of_pairwise (le := (· ≤ ·)) (fun x y _ _ h1 h2 => Int.le_antisymm h1 h2) s (srt_sorted l) (p.trans (srt_perm l).symm)
theorem srt_length (l : List Int) : (srt l).length = l.length := (srt_perm l).length_eq
theorem srt_nil : srt [] = [] := List.mergeSort_nil

/-- how many of a row are below x -/
def below (x : Int) (l : List Int) : Nat := l.countP (fun y => decide (y < x))
theorem below_perm {a b : List Int} (x : Int) (p : a.Perm b) : below x a = below x b := p.countP_eq _
theorem below_le (x : Int) (l : List Int) : below x l ≤ l.length := List.countP_le_length
theorem below_cut {l : List Int} {x : Int} {k : Nat} (hk : k ≤ l.length) (h1 : ∀ i (h : i < l.length), i < k → l[i] < x) (h2 : ∀ i (h : i < l.length), k ≤ i → x ≤ l[i]) : below x l = k := by
  unfold below
  have e : l = l.take k ++ l.drop k := (List.take_append_drop k l).symm
  rw [e, List.countP_append]
  have a : (l.take k).countP (fun y => decide (y < x)) = k := by
    have q : (l.take k).countP (fun y => decide (y < x)) = (l.take k).length := List.countP_eq_length.mpr fun y hy => by
      obtain ⟨i, hi, rfl⟩ := List.mem_iff_getElem.mp hy
      rw [List.length_take] at hi
      rw [List.getElem_take]
      exact decide_eq_true (h1 i (by omega) (by omega))
    rw [q, List.length_take]
    omega
  have b : (l.drop k).countP (fun y => decide (y < x)) = 0 := List.countP_eq_zero.mpr fun y hy => by
    obtain ⟨i, hi, rfl⟩ := List.mem_iff_getElem.mp hy
    rw [List.length_drop] at hi
    rw [List.getElem_drop]
    have q := h2 (k + i) (by omega) (by omega)
    simp
    omega
  rw [a, b]
  rfl
/-- a rising row, its first below x -/
theorem below_iff {l : List Int} (s : l.Pairwise (· ≤ ·)) (x : Int) : ∀ i (h : i < l.length), (l[i] < x ↔ i < below x l) := by
  have key : ∀ (l : List Int), l.Pairwise (· ≤ ·) → ∀ i (h : i < l.length), (l[i] < x ↔ i < below x l) := by
    intro l
    induction l with
    | nil => intro _ i h; exact absurd h (Nat.not_lt_zero _)
    | cons a r ih =>
      intro s i h
      obtain ⟨s1, s2⟩ := List.pairwise_cons.mp s
      unfold below
      rw [List.countP_cons]
      by_cases ha : a < x
      · rw [if_pos (decide_eq_true ha)]
        cases i with
        | zero =>
          show a < x ↔ _
          constructor
          · intro _; omega
          · intro _; exact ha
        | succ j =>
          have q := ih s2 j (by simpa using h)
          unfold below at q
          rw [List.getElem_cons_succ, q]
          omega
      · rw [if_neg (by simpa using ha)]
        have z : r.countP (fun y => decide (y < x)) = 0 := List.countP_eq_zero.mpr fun y hy => by
          have := s1 y hy
          simp
          omega
        rw [z]
        cases i with
        | zero =>
          show a < x ↔ _
          constructor
          · intro q; exact absurd q ha
          · intro q; omega
        | succ j =>
          rw [List.getElem_cons_succ]
          have hm : r[j]'(by simpa using h) ∈ r := List.getElem_mem _
          have := s1 _ hm
          constructor
          · intro q; omega
          · intro q; omega
  exact key l s

/-- what add makes of the ranks -/
theorem ranks_add {l r : List Int} (e : r = srt l) (x : Int) : r.take (below (x + 1) r) ++ [x] ++ r.drop (below (x + 1) r) = srt (l ++ [x]) := by
  have s : r.Pairwise (· ≤ ·) := by rw [e]; exact srt_sorted l
  have p : r.Perm l := by rw [e]; exact srt_perm l
  apply srt_unique
  · have q : (r.take (below (x + 1) r) ++ [x] ++ r.drop (below (x + 1) r)).Perm (r.take (below (x + 1) r) ++ r.drop (below (x + 1) r) ++ [x]) := by
      rw [List.append_assoc, List.append_assoc]
      exact List.Perm.append_left _ List.perm_append_comm
    rw [List.take_append_drop] at q
    exact q.trans (p.append_right _)
  · have b := below_iff s (x + 1)
    have hk := below_le (x + 1) r
    generalize hkk : below (x + 1) r = k at b hk
    have ht : ∀ a ∈ r.take k, a ≤ x := fun a ha => by
      obtain ⟨i, hi, rfl⟩ := List.mem_iff_getElem.mp ha
      rw [List.length_take] at hi
      rw [List.getElem_take]
      have := (b i (by omega)).mpr (by omega)
      omega
    have hd : ∀ a ∈ r.drop k, x ≤ a := fun a ha => by
      obtain ⟨i, hi, rfl⟩ := List.mem_iff_getElem.mp ha
      rw [List.length_drop] at hi
      rw [List.getElem_drop]
      have h1 := b (k + i) (by omega)
      by_cases hlt : r[k + i]'(by omega) < x + 1
      · have := h1.mp hlt
        omega
      · omega
    have s1 : (r.take k).Pairwise (· ≤ ·) := s.sublist (List.take_sublist k r)
    have s2 : (r.drop k).Pairwise (· ≤ ·) := s.sublist (List.drop_sublist k r)
    rw [List.append_assoc]
    refine List.pairwise_append.mpr ⟨s1, ?_, ?_⟩
    · refine List.pairwise_append.mpr ⟨List.pairwise_singleton _ _, s2, ?_⟩
      intro a ha c hc
      rw [List.mem_singleton.mp ha]
      exact hd c hc
    · intro a ha c hc
      have h1 := ht a ha
      rcases List.mem_append.mp hc with hc | hc
      · rw [List.mem_singleton.mp hc]; exact h1
      · have := hd c hc
        omega
/-- what drop makes of the ranks: at that place stands x -/
theorem ranks_at {l r : List Int} {x : Int} (e : r = srt (x :: l)) : r[below x r]? = some x := by
  have s : r.Pairwise (· ≤ ·) := by rw [e]; exact srt_sorted _
  have p : r.Perm (x :: l) := by rw [e]; exact srt_perm _
  have hx : x ∈ r := p.mem_iff.mpr List.mem_cons_self
  obtain ⟨i, hi, ei⟩ := List.mem_iff_getElem.mp hx
  have b := below_iff s x
  have h1 : ¬ i < below x r := fun q => by
    have := (b i hi).mpr q
    omega
  have hlt : below x r < r.length := by omega
  rw [List.getElem?_eq_getElem hlt]
  have h2 : ¬ r[below x r] < x := fun q => absurd ((b _ hlt).mp q) (Nat.lt_irrefl _)
  have h3 : r[below x r] ≤ r[i] := by
    by_cases hq : below x r = i
    · have : r[below x r] = r[i] := by congr 1
      omega
    · exact List.pairwise_iff_getElem.mp s _ _ hlt hi (by omega)
  congr 1
  omega
theorem ranks_drop {l r : List Int} {x : Int} (e : r = srt (x :: l)) : r.eraseIdx (below x r) = srt l := by
  have s : r.Pairwise (· ≤ ·) := by rw [e]; exact srt_sorted _
  have p : r.Perm (x :: l) := by rw [e]; exact srt_perm _
  have h := ranks_at e
  obtain ⟨hlt, ha⟩ := List.getElem?_eq_some_iff.mp h
  apply srt_unique
  · have q : r.Perm (x :: r.eraseIdx (below x r)) := by
      have e1 : r = r.take (below x r) ++ r[below x r] :: r.drop (below x r + 1) := by
        rw [List.getElem_cons_drop, List.take_append_drop]
      have e2 : r.eraseIdx (below x r) = r.take (below x r) ++ r.drop (below x r + 1) := List.eraseIdx_eq_take_drop_succ _ _
      rw [e2]
      rw [ha] at e1
      generalize below x r = k at e1
      have e3 : r.Perm (r.take k ++ x :: r.drop (k + 1)) := by rw [← e1]
      exact e3.trans List.perm_middle
    exact List.Perm.cons_inv (q.symm.trans p)
  · exact s.sublist (List.eraseIdx_sublist _ _)

/-! ### wrong pairs -/
def inv : List Int → Nat
  | [] => 0
  | x :: r => below x r + inv r
theorem inv_snoc (x : Int) : ∀ l : List Int, inv (l ++ [x]) = inv l + (l.length - below (x + 1) l)
  | [] => by simp [inv, below]
  | a :: r => by
    have ih := inv_snoc x r
    have h := below_le (x + 1) r
    show below a (r ++ [x]) + inv (r ++ [x]) = below a r + inv r + ((a :: r).length - below (x + 1) (a :: r))
    rw [ih]
    unfold below at *
    simp only [List.countP_append, List.countP_cons, List.countP_nil, List.length_cons]
    by_cases hx : x < a
    · rw [if_pos (decide_eq_true hx), if_neg (show ¬ decide (a < x + 1) = true by simp; omega)]
      omega
    · rw [if_neg (show ¬ decide (x < a) = true by simpa using hx), if_pos (show decide (a < x + 1) = true from decide_eq_true (by omega))]
      omega

/-! ### how long it rises -/
/-- from the first on, how many stand none below the one ahead -/
def up : List Int → Nat
  | [] => 0
  | [_] => 1
  | x :: y :: r => if x ≤ y then up (y :: r) + 1 else 1
def ris : List Int → Nat
  | [] => 0
  | x :: r => max (up (x :: r)) (ris r)
theorem up_pos (x : Int) (r : List Int) : 1 ≤ up (x :: r) := by
  cases r with
  | nil => exact Nat.le_refl _
  | cons y r =>
    unfold up
    split
    · omega
    · omega
/-- the program's loop: run so far, ending in x; r to come -/
theorem ris_step (run best : Nat) (x y : Int) (r : List Int) (_hr : 1 ≤ run) (_hb : run ≤ best) :
    max best (max (run + (up (x :: y :: r) - 1)) (ris (y :: r))) =
      max (max best (if x ≤ y then run + 1 else 1)) (max ((if x ≤ y then run + 1 else 1) + (up (y :: r) - 1)) (ris r)) := by
  have h1 := up_pos y r
  have e : ris (y :: r) = max (up (y :: r)) (ris r) := rfl
  have e2 : up (x :: y :: r) = if x ≤ y then up (y :: r) + 1 else 1 := rfl
  rw [e, e2]
  by_cases h : x ≤ y
  · rw [if_pos h, if_pos h]
    omega
  · rw [if_neg h, if_neg h]
    omega

theorem drop_two {α : Type} {l : List α} {i : Nat} (h : i + 1 < l.length) : l.drop i = l[i] :: l[i + 1] :: l.drop (i + 2) := by
  rw [← List.getElem_cons_drop (by omega : i < l.length), ← List.getElem_cons_drop h]
theorem drop_one {α : Type} {l : List α} {i : Nat} (h : i < l.length) : l.drop i = l[i] :: l.drop (i + 1) := by
  rw [← List.getElem_cons_drop h]
/-- between two turns of the program's loop -/
def RisInv (row : List Int) (i best run : Nat) : Prop :=
  (i = 0 ∧ best = 0) ∨ (1 ≤ i ∧ 1 ≤ run ∧ run ≤ best ∧ max best (max (run + (up (row.drop (i - 1)) - 1)) (ris (row.drop i))) = ris row)
theorem RisInv.first {row : List Int} {best run : Nat} (h : RisInv row 0 best run) (hr : 0 < row.length) : RisInv row 1 (max best 1) 1 := by
  rcases h with ⟨_, rfl⟩ | ⟨h, _⟩
  · refine .inr ⟨Nat.le_refl _, Nat.le_refl _, by omega, ?_⟩
    cases row with
    | nil => exact absurd hr (Nat.not_lt_zero _)
    | cons x r =>
      have h1 := up_pos x r
      have e : ris (x :: r) = max (up (x :: r)) (ris r) := rfl
      show max (max 0 1) (max (1 + (up (x :: r) - 1)) (ris r)) = ris (x :: r)
      rw [e]
      omega
  · omega
theorem RisInv.next {row : List Int} {i best run : Nat} (h : RisInv row i best run) (h0 : 0 < i) (hi : i < row.length) (h1 : i - 1 < row.length) :
    RisInv row (i + 1) (max best (if row[i - 1] ≤ row[i] then run + 1 else 1)) (if row[i - 1] ≤ row[i] then run + 1 else 1) := by
  rcases h with ⟨h, _⟩ | ⟨_, a, b, c⟩
  · omega
  · have hd : row.drop (i - 1) = row[i - 1] :: row[i] :: row.drop (i + 1) := by
      have q := drop_two (l := row) (i := i - 1) (by omega)
      have e1 : i - 1 + 1 = i := by omega
      have e2 : i - 1 + 2 = i + 1 := by omega
      simp only [e1, e2] at q
      exact q
    have hd2 : row.drop i = row[i] :: row.drop (i + 1) := drop_one hi
    rw [hd, hd2, ris_step run best _ _ _ a b] at c
    refine .inr ⟨by omega, ?_, by omega, ?_⟩
    · split <;> omega
    · show max _ (max (_ + (up (row.drop i) - 1)) (ris (row.drop (i + 1)))) = _
      rw [hd2]
      exact c
theorem RisInv.done {row : List Int} {best run : Nat} (h : RisInv row row.length best run) : best = ris row := by
  rcases h with ⟨h, rfl⟩ | ⟨h0, a, b, c⟩
  · rw [List.eq_nil_of_length_eq_zero h]
    rfl
  · have hd : row.drop (row.length - 1) = [row[row.length - 1]] := by
      rw [drop_one (by omega)]
      have e1 : row.length - 1 + 1 = row.length := by omega
      rw [e1, List.drop_length]
    rw [hd, List.drop_length] at c
    have e : up [row[row.length - 1]] = 1 := rfl
    have e2 : ris ([] : List Int) = 0 := rfl
    rw [e, e2] at c
    omega
/-- between two turns of the law's loop -/
def LrInv (row : List Int) (k best : Nat) : Prop := max best (ris (row.drop k)) = ris row
theorem LrInv.start (row : List Int) : LrInv row 0 0 := by
  unfold LrInv
  rw [List.drop_zero]
  omega
theorem LrInv.next {row : List Int} {k best : Nat} (h : LrInv row k best) (hk : k < row.length) : LrInv row (k + 1) (max best (up (row.drop k))) := by
  unfold LrInv at *
  have e : ris (row.drop k) = max (up (row.drop k)) (ris (row.drop (k + 1))) := by
    rw [drop_one hk]
    rfl
  omega
theorem LrInv.done {row : List Int} {best : Nat} (h : LrInv row row.length best) : best = ris row := by
  unfold LrInv at h
  rw [List.drop_length] at h
  have e2 : ris ([] : List Int) = 0 := rfl
  omega
/-- of its inner loop -/
def LeInv (row : List Int) (k e : Nat) : Prop := k + 1 ≤ e ∧ e ≤ row.length ∧ (e - k) + (up (row.drop (e - 1)) - 1) = up (row.drop k)
theorem LeInv.start {row : List Int} {k : Nat} (hk : k < row.length) : LeInv row k (k + 1) := by
  refine ⟨Nat.le_refl _, hk, ?_⟩
  have h1 : 1 ≤ up (row.drop k) := by
    rw [drop_one hk]
    exact up_pos _ _
  have e : k + 1 - 1 = k := by omega
  rw [e]
  omega
theorem LeInv.next {row : List Int} {k e : Nat} (h : LeInv row k e) (he : e < row.length) (h1 : e - 1 < row.length) (hle : row[e - 1] ≤ row[e]) : LeInv row k (e + 1) := by
  obtain ⟨a, b, c⟩ := h
  refine ⟨by omega, he, ?_⟩
  have hd : row.drop (e - 1) = row[e - 1] :: row[e] :: row.drop (e + 1) := by
    have q := drop_two (l := row) (i := e - 1) (by omega)
    have e1 : e - 1 + 1 = e := by omega
    have e2 : e - 1 + 2 = e + 1 := by omega
    simp only [e1, e2] at q
    exact q
  have hd2 : row.drop e = row[e] :: row.drop (e + 1) := drop_one he
  have u1 := up_pos row[e] (row.drop (e + 1))
  have eu : up (row[e - 1] :: row[e] :: row.drop (e + 1)) = up (row[e] :: row.drop (e + 1)) + 1 := if_pos hle
  rw [hd, eu] at c
  have e3 : e + 1 - 1 = e := by omega
  rw [e3, hd2]
  omega
theorem LeInv.done {row : List Int} {k e : Nat} (h : LeInv row k e) (h1 : e - 1 < row.length) (hs : ∀ he : e < row.length, ¬ row[e - 1] ≤ row[e]) : e - k = up (row.drop k) := by
  obtain ⟨a, b, c⟩ := h
  have u : up (row.drop (e - 1)) = 1 := by
    by_cases he : e < row.length
    · have hd : row.drop (e - 1) = row[e - 1] :: row[e] :: row.drop (e + 1) := by
        have q := drop_two (l := row) (i := e - 1) (by omega)
        have e1 : e - 1 + 1 = e := by omega
        have e2 : e - 1 + 2 = e + 1 := by omega
        simp only [e1, e2] at q
        exact q
      rw [hd]
      exact if_neg (hs he)
    · have hd : row.drop (e - 1) = [row[e - 1]] := by
        rw [drop_one (by omega)]
        have e1 : e - 1 + 1 = row.length := by omega
        rw [e1, List.drop_length]
      rw [hd]
      rfl
  omega

/-! ### how many different ones -/
def dd : List Int → List Int
  | [] => []
  | x :: r => if x ∈ r then dd r else x :: dd r
theorem mem_dd : ∀ (l : List Int) (x : Int), x ∈ dd l ↔ x ∈ l
  | [], x => Iff.rfl
  | a :: r, x => by
    have ih := mem_dd r x
    unfold dd
    by_cases h : a ∈ r
    · rw [if_pos h, ih]
      constructor
      · exact fun q => List.mem_cons_of_mem _ q
      · intro q
        rcases List.mem_cons.mp q with rfl | q
        · exact h
        · exact q
    · rw [if_neg h, List.mem_cons, List.mem_cons, ih]
theorem nodup_dd : ∀ (l : List Int), (dd l).Nodup
  | [] => List.nodup_nil
  | a :: r => by
    have ih := nodup_dd r
    unfold dd
    by_cases h : a ∈ r
    · rw [if_pos h]; exact ih
    · rw [if_neg h]
      exact List.nodup_cons.mpr ⟨fun q => h ((mem_dd r a).mp q), ih⟩
def unlike (l : List Int) : Nat := (dd l).length
theorem unlike_of {l ks : List Int} (n : ks.Nodup) (m : ∀ x, x ∈ ks ↔ x ∈ l) : ks.length = unlike l :=
  ((List.perm_ext_iff_of_nodup n (nodup_dd l)).mpr fun x => (m x).trans (mem_dd l x).symm).length_eq

/-! ### the commonest -/
/-- (-how often, thing) a at most b -/
def ple (a b : Int × Int) : Prop := a.1 < b.1 ∨ (a.1 = b.1 ∧ a.2 ≤ b.2)
instance (a b : Int × Int) : Decidable (ple a b) := by unfold ple; infer_instance
theorem ple_antisymm {a b : Int × Int} (h1 : ple a b) (h2 : ple b a) : a = b := by
  unfold ple at *
  have e1 : a.1 = b.1 := by omega
  have e2 : a.2 = b.2 := by omega
  exact Prod.ext e1 e2
def pmin (x : Int × Int) : List (Int × Int) → Int × Int
  | [] => x
  | y :: r => pmin (if ple x y then x else y) r
theorem pmin_spec : ∀ (r : List (Int × Int)) (x : Int × Int), pmin x r ∈ x :: r ∧ ∀ y ∈ x :: r, ple (pmin x r) y
  | [], x => ⟨List.mem_cons_self, fun y hy => by
      have e : y = x := by simpa using hy
      rw [e]
      exact .inr ⟨rfl, Int.le_refl _⟩⟩
  | a :: r, x => by
    by_cases h : ple x a
    · obtain ⟨i1, i2⟩ := pmin_spec r x
      have e : pmin x (a :: r) = pmin x r := by show pmin (if ple x a then x else a) r = _; rw [if_pos h]
      rw [e]
      refine ⟨?_, fun y hy => ?_⟩
      · rcases List.mem_cons.mp i1 with q | q
        · rw [q]; exact List.mem_cons_self
        · exact List.mem_cons_of_mem _ (List.mem_cons_of_mem _ q)
      · rcases List.mem_cons.mp hy with rfl | hy
        · exact i2 _ List.mem_cons_self
        · rcases List.mem_cons.mp hy with rfl | hy
          · have q := i2 x List.mem_cons_self
            unfold ple at *
            omega
          · exact i2 _ (List.mem_cons_of_mem _ hy)
    · obtain ⟨i1, i2⟩ := pmin_spec r a
      have e : pmin x (a :: r) = pmin a r := by show pmin (if ple x a then x else a) r = _; rw [if_neg h]
      rw [e]
      refine ⟨List.mem_cons_of_mem _ i1, fun y hy => ?_⟩
      rcases List.mem_cons.mp hy with rfl | hy
      · have q := i2 a List.mem_cons_self
        unfold ple at *
        omega
      · exact i2 _ hy
def pairOf (l : List Int) (x : Int) : Int × Int := (-(l.count x : Int), x)
/-- the commonest of a row, of several the least -/
def common : List Int → Int
  | [] => 0
  | x :: r => (pmin (pairOf (x :: r) x) (r.map (pairOf (x :: r)))).2
theorem common_of {l : List Int} (hl : l ≠ []) {p : Int × Int} (h1 : ∃ x ∈ l, p = pairOf l x) (h2 : ∀ x ∈ l, ple p (pairOf l x)) : p.2 = common l := by
  cases l with
  | nil => exact absurd rfl hl
  | cons a r =>
    obtain ⟨s1, s2⟩ := pmin_spec (r.map (pairOf (a :: r))) (pairOf (a :: r) a)
    have e : pairOf (a :: r) a :: r.map (pairOf (a :: r)) = (a :: r).map (pairOf (a :: r)) := rfl
    rw [e] at s1 s2
    obtain ⟨x, hx, rfl⟩ := h1
    obtain ⟨y, hy, ey⟩ := List.mem_map.mp s1
    have q1 := s2 _ (List.mem_map.mpr ⟨x, hx, rfl⟩)
    have q2 := h2 y hy
    rw [ey] at q2
    rw [ple_antisymm q2 q1]
    rfl
/-- how often one is there, kept by adding and by dropping -/
theorem count_snoc (l : List Int) (x y : Int) : (l ++ [x]).count y = l.count y + (if x = y then 1 else 0) := by
  rw [List.count_append, List.count_singleton]
  by_cases h : x = y
  · rw [if_pos h, if_pos (by simpa using h)]
  · rw [if_neg h, if_neg (by simpa using h)]
theorem count_cons' (l : List Int) (x y : Int) : (x :: l).count y = l.count y + (if x = y then 1 else 0) := by
  rw [List.count_cons]
  by_cases h : x = y
  · rw [if_pos h, if_pos (by simpa using h)]
  · rw [if_neg h, if_neg (by simpa using h)]

/-! ### the mark -/
def mark (l : List Int) : Int := l.foldl (fun f x => (f * 31 + x) % 1000003) 0
theorem mark_snoc (l : List Int) (x : Int) : (l ++ [x]).foldl (fun f x => (f * 31 + x) % 1000003) 0 = ((l.foldl (fun f x => (f * 31 + x) % 1000003) 0) * 31 + x) % 1000003 := by
  rw [List.foldl_append]
  rfl
theorem foldmark_nn : ∀ (l : List Int) (z : Int), 0 ≤ z → 0 ≤ l.foldl (fun f x => (f * 31 + x) % 1000003) z ∧ (z < 1000003 → l.foldl (fun f x => (f * 31 + x) % 1000003) z < 1000003)
  | [], z, h => ⟨h, fun q => q⟩
  | x :: r, z, _ => by
    have ih := foldmark_nn r ((z * 31 + x) % 1000003) (Int.emod_nonneg _ (by decide))
    exact ⟨ih.1, fun _ => ih.2 (Int.emod_lt_of_pos _ (by decide))⟩

/-! ### sums, ends -/
theorem inv_sum : ∀ l : List Int, ((List.range l.length).map (fun k => ((below (l.getD k 0) (l.drop (k + 1)) : Nat) : Int))).sum = (inv l : Nat)
  | [] => rfl
  | x :: r => by
    have ih := inv_sum r
    rw [List.length_cons, List.range_succ_eq_map, List.map_cons, List.map_map, List.sum_cons]
    have e : ((fun k => ((below ((x :: r).getD k 0) ((x :: r).drop (k + 1)) : Nat) : Int)) ∘ Nat.succ) = fun k => ((below (r.getD k 0) (r.drop (k + 1)) : Nat) : Int) := by
      funext k
      simp
    rw [e, ih]
    have e2 : inv (x :: r) = below x r + inv r := rfl
    rw [e2]
    simp
theorem least_of {l : List Int} {m : Int} (h1 : m ∈ l) (h2 : ∀ y ∈ l, m ≤ y) : m = (srt l).getD 0 0 := by
  have hl := srt_length l
  have hm : m ∈ srt l := (srt_perm l).mem_iff.mpr h1
  obtain ⟨i, hi, rfl⟩ := List.mem_iff_getElem.mp hm
  rw [List.getD_eq_getElem?_getD, List.getElem?_eq_getElem (by omega)]
  show _ = (srt l)[0]
  have h3 := h2 _ ((srt_perm l).mem_iff.mp (List.getElem_mem (show 0 < (srt l).length by omega)))
  by_cases e : i = 0
  · subst e; rfl
  · have := List.pairwise_iff_getElem.mp (srt_sorted l) 0 i (by omega) hi (by omega)
    omega
theorem greatest_of {l : List Int} {m : Int} (n : Nat) (hn : l.length = n + 1) (h1 : m ∈ l) (h2 : ∀ y ∈ l, y ≤ m) : m = (srt l).getD n 0 := by
  have hl := srt_length l
  have hm : m ∈ srt l := (srt_perm l).mem_iff.mpr h1
  obtain ⟨i, hi, rfl⟩ := List.mem_iff_getElem.mp hm
  rw [List.getD_eq_getElem?_getD, List.getElem?_eq_getElem (by omega)]
  show _ = (srt l)[n]
  have h3 := h2 _ ((srt_perm l).mem_iff.mp (List.getElem_mem (show n < (srt l).length by omega)))
  by_cases e : i = n
  · subst e; rfl
  · have := List.pairwise_iff_getElem.mp (srt_sorted l) i n hi (by omega) (by omega)
    omega
end LF

set_option maxRecDepth 100000
set_option maxHeartbeats 4000000
/-! Rules of my own over the hand layer: a global int, min of pairs, len of a set of ints; steps of readings. -/
namespace LF
open PySem PySem.Spec PyProof.Rows L2

/-! ### how the top's defs and classes stand -/
structure FnAt (K : PySem.W.Frag) (mg : Str → Option Value) (D : Str × Option Str → FuncData) (x : Str) (st : Stmt) (ps : List Str) : Prop where
  F : FunD K x x (defArgs st) (defBody st) (defScope st) [] [] (He.ga K x) (D (x, none))
  g : mg x = some (.ref (He.ga K x))
  b : L2.Binds K (D (x, none)) ps []
structure MtAt (K : PySem.W.Frag) (D : Str × Option Str → FuncData) (C m q : Str) (st : Stmt) (ps : List Str) : Prop where
  F : FunD K m q (defArgs st) (defBody st) (defScope st) [] [] (He.ma K (He.ga K C) m) (D (C, some m))
  me : Meth K (He.ga K C) m (He.ma K (He.ga K C) m)
  b : L2.Binds K (D (C, some m)) ps []
structure ClAt (K : PySem.W.Frag) (mg : Str → Option Value) (C : Str) : Prop where
  cl : Cls K (He.ga K C)
  mkr : Mk K (He.ga K C) (He.ma K (He.ga K C) "__init__")
  g : mg C = some (.ref (He.ga K C))

section
variable {X : Cx}
theorem pe_globI {x : Str} {i : Int} {pos : Pos} (hg : Gl X x) (hm : ∃ t, X.mg x = some (.int i t)) (hd : (x == ("__debug__" : Str)) = false := by decide) : PE X (.Name x pos) (tC (.int i)) := by
  obtain ⟨t, h⟩ := hm
  exact pe_glob hg h ⟨t, rfl⟩ hd

/-! ### min of a list of pairs of ints -/
theorem toks_pair (a b : Int) : PySem.W.keyToks (.tuple [.int a, .int b]) = [Sum.inl 1, Sum.inl a, Sum.inl 1, Sum.inl b, Sum.inl 0] := by
  simp [PySem.W.keyToks, PySem.W.keyToksAll]
theorem lex_one (a b : Int) : PyProof.Rows.lexLt itemOrd [Sum.inl a] [Sum.inl b] = decide (a < b) := by
  have h := PySem.W.dataLt_int a b
  unfold PySem.W.dataLt at h
  simpa [PySem.W.keyToks] using h
theorem lt_pair (a b c d : Int) : PySem.W.dataLt (.tuple [.int a, .int b]) (.tuple [.int c, .int d]) = decide (a < c ∨ (a = c ∧ b < d)) := by
  unfold PySem.W.dataLt
  rw [toks_pair, toks_pair]
  refine (lex_self (O := itemOrd) _ _ _).trans ?_
  by_cases h : a = c
  · subst h
    refine (lex_self (O := itemOrd) _ _ _).trans ?_
    refine (lex_self (O := itemOrd) _ _ _).trans ?_
    by_cases h2 : b = d
    · subst h2
      refine (lex_self (O := itemOrd) _ _ _).trans ?_
      refine (lex_self (O := itemOrd) _ _ _).trans ?_
      simp [PyProof.Rows.lexLt]
    · refine (PySem.W.lex_atom (fun q => h2 (Sum.inl.inj q)) _ _).trans ?_
      rw [lex_one]
      simp
  · refine (PySem.W.lex_atom (fun q => h (Sum.inl.inj q)) _ _).trans ?_
    rw [lex_one]
    simp [h]

def rMinP (K : PySem.W.Frag) : List V → Hp → VK → Prop := fun vs H Q => ∃ (a : Addr) (ps : List (Addr × Int × Int)), vs = [V.ref a] ∧ SqL K H a (ps.map fun p => V.ref p.1) ∧ (∀ p ∈ ps, SqT K H p.1 [.int p.2.1, .int p.2.2]) ∧ ps ≠ [] ∧
  ∀ p, p ∈ ps → (∀ q ∈ ps, ple p.2 q.2) → Q (.ref p.1) H
theorem dpAll_pairs {K : PySem.W.Frag} {H : Hp} : ∀ ps : List (Addr × Int × Int), (∀ p ∈ ps, SqT K H p.1 [.int p.2.1, .int p.2.2]) → DpAll K H (ps.map fun p => V.ref p.1) (ps.map fun p => PyData.tuple [.int p.2.1, .int p.2.2])
  | [], _ => .nil
  | p :: r, h => .cons (.tup (h p List.mem_cons_self) (.cons (.int _) (.cons (.int _) .nil))) (dpAll_pairs r fun q hq => h q (List.mem_cons_of_mem _ hq))
def dOf (p : Addr × Int × Int) : PyData := .tuple [.int p.2.1, .int p.2.2]
theorem minD_pairs : ∀ (r : List (Addr × Int × Int)) (p : Addr × Int × Int), ∃ q ∈ p :: r, PySem.W.minD (dOf p) (r.map dOf) = dOf q ∧ ∀ z ∈ p :: r, ple q.2 z.2
  | [], p => ⟨p, List.mem_cons_self, rfl, fun z hz => by
      have e : z = p := by simpa using hz
      rw [e]
      exact .inr ⟨rfl, Int.le_refl _⟩⟩
  | y :: r, p => by
    have st : PySem.W.minD (dOf p) ((y :: r).map dOf) = PySem.W.minD (if PySem.W.dataLt (dOf y) (dOf p) then dOf y else dOf p) (r.map dOf) := rfl
    have ed : PySem.W.dataLt (dOf y) (dOf p) = decide (y.2.1 < p.2.1 ∨ (y.2.1 = p.2.1 ∧ y.2.2 < p.2.2)) := lt_pair _ _ _ _
    by_cases h : y.2.1 < p.2.1 ∨ (y.2.1 = p.2.1 ∧ y.2.2 < p.2.2)
    · rw [st, ed, if_pos (decide_eq_true h)]
      obtain ⟨q, hq, e, hle⟩ := minD_pairs r y
      refine ⟨q, List.mem_cons_of_mem _ hq, e, fun z hz => ?_⟩
      rcases List.mem_cons.mp hz with rfl | hz
      · have q1 := hle y List.mem_cons_self
        unfold ple at *
        omega
      · exact hle z hz
    · rw [st, ed, if_neg (by simpa using h)]
      obtain ⟨q, hq, e, hle⟩ := minD_pairs r p
      refine ⟨q, ?_, e, fun z hz => ?_⟩
      · rcases List.mem_cons.mp hq with rfl | hq
        · exact List.mem_cons_self
        · exact List.mem_cons_of_mem _ (List.mem_cons_of_mem _ hq)
      · rcases List.mem_cons.mp hz with rfl | hz
        · exact hle _ List.mem_cons_self
        · rcases List.mem_cons.mp hz with rfl | hz
          · have q1 := hle p List.mem_cons_self
            unfold ple at *
            omega
          · exact hle z (List.mem_cons_of_mem _ hz)
theorem depth_pairs : ∀ ps : List (Addr × Int × Int), PyData.depthAll (ps.map dOf) ≤ 1
  | [] => by simp [PyData.depthAll]
  | p :: r => by
    have ih := depth_pairs r
    rw [List.map_cons]
    simp only [PyData.depthAll, dOf, PyData.depth] at *
    omega
theorem alike_pairs (ps : List (Addr × Int × Int)) : PySem.W.AlikeAll (ps.map dOf) := by
  refine ⟨fun x hx y hy => ?_, fun x hx => ?_⟩
  · obtain ⟨p, _, rfl⟩ := List.mem_map.mp hx
    obtain ⟨q, _, rfl⟩ := List.mem_map.mp hy
    simp [dOf, PySem.W.alike, PySem.W.alikeAll]
  · obtain ⟨p, _, rfl⟩ := List.mem_map.mp hx
    intro z
    cases z
theorem reads_pair {h : Heap} {T : Addr} {u : Value} {a b : Int} {bs : List Addr} (e : u = .ref T) (r : Reads h u (.tuple [.int a, .int b]) bs) {i j : Int} {as : List Addr} (r2 : Reads h (.ref T) (.tuple [.int i, .int j]) as) : i = a ∧ j = b := by
  subst e
  cases r with
  | tuple h1 h2 h3 h4 =>
    cases r2 with
    | tuple g1 g2 g3 g4 =>
      rw [h1] at g1
      cases g1
      rw [h3] at g3
      injection g3 with g5 g6
      subst g5
      generalize Array.toList _ = l at h4 g4
      cases h4 with
      | cons x1 x2 =>
        cases g4 with
        | cons y1 y2 =>
          cases x1
          cases y1
          cases x2 with
          | cons z1 z2 =>
            cases y2 with
            | cons w1 w2 =>
              cases z1
              cases w1
              exact ⟨rfl, rfl⟩
theorem vals_ref {ps : List (Addr × Int × Int)} {its : List Value} (rv : Vals (ps.map fun p => V.ref p.1) its) {i : Nat} {v : Value} (h : its[i]? = some v) : ∃ p, ps[i]? = some p ∧ v = .ref p.1 := by
  have hl := rv.length
  rw [List.length_map] at hl
  have hi : i < its.length := (List.getElem?_eq_some_iff.mp h).1
  have hp : i < ps.length := by omega
  have e : (ps.map fun p => V.ref p.1)[i]? = some (.ref (ps[i]).1) := by rw [List.getElem?_map, List.getElem?_eq_getElem hp]; rfl
  obtain ⟨u, hu, ru⟩ := rv.get e
  rw [h] at hu
  cases hu
  exact ⟨ps[i], List.getElem?_eq_getElem hp, ru⟩
theorem cr_minP (hc : X.calm = true) (hu : X.A.units + 64 < cLine) : CallR X (.builtin "min") (rMinP X.K) := by
  intro pins s σ H vs us Q I r h
  obtain ⟨a, ps, rfl, hs, ht, hne, q⟩ := h
  obtain ⟨its, rv, hl, _⟩ := I.list hs
  rw [Vals.ref1 r]
  obtain ⟨as, hr⟩ := Dp.readsAll I _ _ its (dpAll_pairs ps ht) rv
  cases ps with
  | nil => exact absurd rfl hne
  | cons p0 r0 =>
    have hr' : ReadsAll s.heap its.toArray.toList (dOf p0 :: r0.map dOf) as := by
      have e : (fun p : Addr × Int × Int => PyData.tuple [.int p.2.1, .int p.2.2]) = dOf := rfl
      rw [e] at hr
      simpa using hr
    have hd := depth_pairs (p0 :: r0)
    rw [List.map_cons] at hd
    refine PySem.W.min_list_data (I.ok.hd hc) hl.isList hr' (alike_pairs (p0 :: r0)) (by omega) fun i v h' tk bs hv hrd hk => ?_
    obtain ⟨p, hp, rfl⟩ := vals_ref rv (by simpa using hv)
    obtain ⟨z, hz, ez, hle⟩ := minD_pairs r0 p0
    rw [ez] at hrd
    have I2 : Inv X pins σ H { s with heap := h', toks := tk } := I.kept hk
    have hpm : p ∈ p0 :: r0 := List.mem_of_getElem? hp
    obtain ⟨as2, hr2⟩ := Dp.reads I2 (.tuple [.int p.2.1, .int p.2.2]) (.ref p.1) (.ref p.1) (.tup (ht p hpm) (.cons (.int _) (.cons (.int _) .nil))) rfl
    obtain ⟨e1, e2⟩ := reads_pair rfl hrd hr2
    refine ⟨.ref p.1, H, I2, rfl, q p hpm fun y hy => ?_⟩
    have := hle y hy
    unfold ple at *
    omega

/-! ### len(set(xs)), xs a list of ints -/
theorem fm_succ (f : Nat → Int) (n : Nat) : PyProof.Rows.firstMet f (n + 1) = if (PyProof.Rows.firstMet f n).any (· == f n) = true then PyProof.Rows.firstMet f n else PyProof.Rows.firstMet f n ++ [f n] := by
  rw [PyProof.Rows.firstMet_succ]
  rfl
theorem firstMet_mem (f : Nat → Int) : ∀ n x, x ∈ PyProof.Rows.firstMet f n ↔ ∃ i, i < n ∧ f i = x
  | 0, x => by
    constructor
    · intro h
      cases h
    · rintro ⟨i, h, _⟩
      exact absurd h (Nat.not_lt_zero _)
  | n + 1, x => by
    have ih := firstMet_mem f n
    rw [fm_succ]
    by_cases h : (PyProof.Rows.firstMet f n).any (· == f n) = true
    · rw [if_pos h, ih x]
      constructor
      · rintro ⟨i, h1, h2⟩
        exact ⟨i, by omega, h2⟩
      · rintro ⟨i, h1, h2⟩
        by_cases e : i = n
        · subst e
          obtain ⟨y, hy, ey⟩ := List.any_eq_true.mp h
          have ey2 : y = f i := eq_of_beq ey
          rw [← h2, ← ey2]
          exact (ih y).mp hy
        · exact ⟨i, by omega, h2⟩
    · rw [if_neg h, List.mem_append, ih x, List.mem_singleton]
      constructor
      · rintro (⟨i, h1, h2⟩ | h2)
        · exact ⟨i, by omega, h2⟩
        · exact ⟨n, by omega, h2.symm⟩
      · rintro ⟨i, h1, h2⟩
        by_cases e : i = n
        · subst e
          exact .inr h2.symm
        · exact .inl ⟨i, by omega, h2⟩
theorem firstMet_nd (f : Nat → Int) : ∀ n, (PyProof.Rows.firstMet f n).Nodup
  | 0 => List.nodup_nil
  | n + 1 => by
    have ih := firstMet_nd f n
    rw [fm_succ]
    by_cases h : (PyProof.Rows.firstMet f n).any (· == f n) = true
    · rw [if_pos h]
      exact ih
    · rw [if_neg h]
      refine nd_snoc ih fun hm => h (List.any_eq_true.mpr ⟨f n, hm, by simp⟩)
theorem firstMet_unlike (ns : List Int) : (PyProof.Rows.firstMet (fun i => ns.getD i 0) ns.length).length = unlike ns := by
  refine unlike_of (firstMet_nd _ _) fun x => ?_
  rw [firstMet_mem]
  constructor
  · rintro ⟨i, h1, h2⟩
    rw [List.getD_eq_getElem?_getD, List.getElem?_eq_getElem h1] at h2
    rw [← h2]
    exact List.getElem_mem h1
  · intro h
    obtain ⟨i, h1, h2⟩ := List.mem_iff_getElem.mp h
    refine ⟨i, h1, ?_⟩
    rw [List.getD_eq_getElem?_getD, List.getElem?_eq_getElem h1]
    exact h2
theorem intsAre_vals : ∀ {ns : List Int} {us : List Value}, Vals (ns.map V.int) us → PyProof.Rows.IntsAre us ns
  | [], _, .nil => .nil
  | n :: ns, _, .cons r t => by
    obtain ⟨k, rfl⟩ := r
    exact .cons n k (intsAre_vals t)
def tLenSetD (K : PySem.W.Frag) (ta : TE) : TE := fun σ H Q => ta σ H fun x H1 => ∃ (l : Addr) (ns : List Int), x = .ref l ∧ SqL K H1 l (ns.map V.int) ∧ ns.length ≤ 4000 ∧ Q (.int (unlike ns : Nat)) H1
theorem unlike_le (ns : List Int) : unlike ns ≤ ns.length := by
  rw [← firstMet_unlike]
  have h : ∀ (f : Nat → Int) n, (PyProof.Rows.firstMet f n).length ≤ n := by
    intro f n
    induction n with
    | zero => exact Nat.le_refl 0
    | succ n ih =>
      rw [fm_succ]
      split
      · omega
      · rw [List.length_append, List.length_singleton]
        omega
  exact h _ _
theorem pe_lenSetD {a : Expr} {ta : TE} {p p2 q pos : Pos} (hg : Gl X "len") (hm : X.mg "len" = none) (hg2 : Gl X "set") (hm2 : X.mg "set" = none) (ha : PE X a ta) (hc : X.calm = true := by rfl)
    (na : starEach [a] X.env = (false, eval a X.env) :: starEach [] X.env := by rfl) : PE X (.Call (.Name "len" p) [.Call (.Name "set" p2) [a] [] q] [] pos) (tLenSetD X.K ta) := by
  refine ⟨fun pins s σ H Q I h => ?_⟩
  refine Call_ (ld_blt I hg hm boot_len ?_)
  refine PyProof.Rows.callWith_builtin1 (PyProof.Rows.args_cons ?_ rfl) rfl rfl
  refine Call_ (ld_blt I hg2 hm2 boot_set ?_)
  refine PyProof.Rows.callWith_type1 (PyProof.Rows.args_cons (thn (ha.run pins s σ H _ I h) fun v s1 ⟨x, H1, I1, r1, q1⟩ => PyProof.Rows.args_nil ?_) na) na rfl
  obtain ⟨l, ns, rfl, hq, hl, q1⟩ := q1
  cases r1
  obtain ⟨its, r, pl, hz⟩ := I1.list hq
  have hlen : its.toArray.size = ns.length := by rw [List.size_toArray, ← r.length, List.length_map]
  refine call_set_list (I1.ok.hd hc) pl.isList (by simpa using intsAre_vals r) (by rw [hlen]; unfold scanBound; omega) fun h' tk hS hk => ?_
  refine PyProof.Rows.args_nil ?_
  rw [hlen] at hS
  have hu := firstMet_unlike ns
  have hul := unlike_le ns
  obtain ⟨o, es, ep, t, ho, hex, hd, _, _, _, hf, hn⟩ := hS
  have I2 : Inv X pins σ H1 { s1 with heap := h', toks := tk } := I1.kept fun b o e => hk b o (Heap.lt_size e) e
  rw [hu] at hn
  exact call_len_set ho hex hd hf (by rw [hn] <;> omega) ⟨.int (unlike ns : Nat), H1, I2.tok _, ⟨_, by rw [hn]⟩, q1⟩
end
end LF

set_option maxRecDepth 100000
set_option maxHeartbeats 4000000
/-! Steps of a reading: each says what is asked next. -/
namespace LF
open PySem PySem.Spec PyProof.Rows L2
section
variable {K : PySem.W.Frag} {σ : L2.St} {H : Hp} {Q : VK} {QT : Bool → Hp → Prop} {QA : List V → Hp → Prop} {D : Ends} {t u : TS} {ta tb te tv td ty tx : TE} {c ct cu : TT} {i : Nat} {v x y : V} {r : R2} {f m : Str} {p dx C : Addr} {fs : List (Str × V)} {tr : TA} {sp : Sp} {dvs vs : List V} {E : XK}
theorem S_seq (h : t { D with nx := u D } σ H) : tSeq t u D σ H := h
theorem S_asg (h : te σ H fun x H1 => D.nx (σ.set i (some x)) H1) : tAsg te (gName i) D σ H := h
theorem S_drop (h : te σ H fun _ H1 => D.nx σ H1) : tDrop te D σ H := h
theorem S_ret (h : te σ H D.rt) : tRet te D σ H := h
theorem S_if (h : c σ H fun b H1 => if b = true then t D σ H1 else u D σ H1) : tIfS c t u D σ H := h
theorem S_next (h : D.nx σ H) : tNext D σ H := h
def RSet (K : PySem.W.Frag) (f : Str) (y x : V) (H2 : Hp) (k : Hp → Prop) : Prop := ∃ a C dx fs, x = .ref a ∧ H2 a = some (.ins C dx fs) ∧ Cls K C ∧ NoAttr K C f ∧ fs.length < 1000 ∧ k (upd H2 a (.ins C dx (putF f y fs)))
theorem S_fld (h : tv σ H fun y H1 => ta σ H1 fun x H2 => RSet K f y x H2 fun H3 => D.nx σ H3) : sFld K ta tv f D σ H := h
theorem R_set {k : Hp → Prop} (h1 : H p = some (.ins C dx fs)) (h2 : Cls K C) (h3 : NoAttr K C f) (h4 : fs.length < 1000) {gs : List (Str × V)} (h5 : putF f y fs = gs) (h : k (upd H p (.ins C dx gs))) : RSet K f y (.ref p) H k :=
  ⟨p, C, dx, fs, rfl, h1, h2, h3, h4, by rw [h5]; exact h⟩
def RDPut (y v x : V) (H3 : Hp) (k : Hp → Prop) : Prop := ∃ a H4, x = .ref a ∧ DPut H3 a y v H4 ∧ k H4
theorem S_dput (h : tv σ H fun v H1 => td σ H1 fun x H2 => ty σ H2 fun y H3 => RDPut y v x H3 fun H4 => D.nx σ H4) : sDPut td ty tv D σ H := h
theorem R_dput {k : Hp → Prop} {kvs : List (Key × V)} {n : Int} (h1 : H p = some (.dK kvs)) (h2 : kvs.length < sizeLine) (h : k (upd H p (.dK (putK kvs (.inl n) v)))) : RDPut (.int n) v (.ref p) H k := ⟨p, _, rfl, DPut.k (k := .inl n) h1 h2, h⟩
theorem E_var (e : σ[i]? = some (some v)) (h : Q v H) : tVar i σ H Q := ⟨v, e, h⟩
theorem E_c (h : Q v H) : tC v σ H Q := h
theorem E_op (h : ta σ H fun x H1 => tb σ H1 fun y H2 => r x y H2 Q) : tOp r ta tb σ H Q := h
theorem E_un {r : V → Hp → VK → Prop} (h : ta σ H fun x H1 => r x H1 Q) : tUn r ta σ H Q := h
def RTst (x : V) (H : Hp) (QT : Bool → Hp → Prop) : Prop := ∃ k, x = .bl k ∧ QT k H
theorem E_test (h : te σ H fun x H' => RTst x H' QT) : tTest te σ H QT := h
theorem E_tB (h : te σ H fun x H' => RTst x H' QT) : tB te σ H QT := h
theorem R_tst {b : Bool} (h : QT b H) : RTst (.bl b) H QT := ⟨b, rfl, h⟩
theorem E_and (h : ct σ H fun c H1 => if c = true then cu σ H1 QT else QT false H1) : tAnd ct cu σ H QT := h
theorem E_or (h : ct σ H fun c H1 => if c = true then QT true H1 else cu σ H1 QT) : tOr ct cu σ H QT := h
theorem E_not (h : ct σ H fun c H1 => QT (!c) H1) : tNot ct σ H QT := h
def RBl (x : V) (k : Bool → Prop) : Prop := ∃ c, x = .bl c ∧ k c
theorem R_bl {k : Bool → Prop} {b : Bool} (h : k b) : RBl (.bl b) k := ⟨b, rfl, h⟩
theorem E_andV (h : ta σ H fun x H1 => RBl x fun c => if c = true then tb σ H1 Q else Q (.bl false) H1) : tAndV ta tb σ H Q := h
theorem E_orV (h : ta σ H fun x H1 => RBl x fun c => if c = true then Q (.bl true) H1 else tb σ H1 Q) : tOrV ta tb σ H Q := h
theorem E_notV (h : ta σ H fun x H1 => RBl x fun c => Q (.bl (!c)) H1) : tNotV ta σ H Q := h
theorem E_ifx (h : c σ H fun c H1 => if c = true then ta σ H1 Q else tb σ H1 Q) : tIf c ta tb σ H Q := h
def RFld (K : PySem.W.Frag) (f : Str) (x : V) (H1 : Hp) (Q : VK) : Prop := ∃ a C dx fs v, x = .ref a ∧ H1 a = some (.ins C dx fs) ∧ Cls K C ∧ NoAttr K C f ∧ fs.lookup f = some v ∧ Q v H1
theorem E_fld (h : ta σ H fun x H1 => RFld K f x H1 Q) : tFld K ta f σ H Q := h
theorem R_fld (h1 : H p = some (.ins C dx fs)) (h2 : Cls K C) (h3 : NoAttr K C f) (h4 : fs.lookup f = some v) (h : Q v H) : RFld K f (.ref p) H Q := ⟨p, C, dx, fs, v, rfl, h1, h2, h3, h4, h⟩
theorem E_call (h : tr σ H fun vs H1 => sp (vs ++ dvs) H1 Q E) : tCall sp dvs E tr σ H Q := h
theorem E_nil (h : QA [] H) : tNil σ H QA := h
theorem E_cons (h : ta σ H fun x H1 => tr σ H1 fun xs H2 => QA (x :: xs) H2) : tCons ta tr σ H QA := h
def RMeth (C : Addr) (m : Str) (x : V) (H1 : Hp) (k : Prop) : Prop := ∃ a dx fs, x = .ref a ∧ H1 a = some (.ins C dx fs) ∧ fs.lookup m = none ∧ k
theorem E_meth (h : ta σ H fun x H1 => RMeth C m x H1 (tr σ H1 fun vs H2 => sp (x :: (vs ++ dvs)) H2 Q E)) : tMeth C m sp dvs E ta tr σ H Q := h
theorem R_meth {k : Prop} (h1 : H p = some (.ins C dx fs)) (h2 : fs.lookup m = none) (h : k) : RMeth C m (.ref p) H k := ⟨p, dx, fs, rfl, h1, h2, h⟩
theorem E_make (h : tr σ H fun vs H1 => ∀ x dx, H1 x = none → H1 dx = none → dx ≠ x → sp (.ref x :: (vs ++ dvs)) (upd (upd H1 dx (.own x)) x (.ins C dx [])) (fun v H2 => v = .non ∧ Q (.ref x) H2) E) : tMake C sp dvs E tr σ H Q := h
theorem E_cb {r : List V → Hp → VK → Prop} (h : tr σ H fun vs H1 => r vs H1 Q) : tCB r tr σ H Q := h
theorem E_tup (h : tr σ H fun xs H1 => xs.length ≤ sizeLine ∧ ∀ p, H1 p = none → Q (.ref p) (upd H1 p (.tup xs))) : tTup tr σ H Q := h
theorem E_lst (h : tr σ H fun xs H1 => xs.length ≤ sizeLine ∧ ∀ p, H1 p = none → Q (.ref p) (upd H1 p (.lst xs))) : tLst tr σ H Q := h
theorem R_I0 {g : Int → Int → V} {a b : Int} (h : Q (g a b) H) : rI0 g (.int a) (.int b) H Q := ⟨a, b, rfl, rfl, h⟩
theorem R_I {P : Int → Int → Prop} {g : Int → Int → V} {a b : Int} (h0 : P a b) (h : Q (g a b) H) : rI P g (.int a) (.int b) H Q := ⟨a, b, rfl, rfl, h0, h⟩
theorem R_U {g : Int → V} {a : Int} (h : Q (g a) H) : rU g (.int a) H Q := ⟨a, rfl, h⟩
theorem R_eq (h0 : scal x y = true) (h : Q (.bl (decide (x = y))) H) : rEq x y H Q := ⟨h0, h⟩
theorem R_ne (h0 : scal x y = true) (h : Q (.bl (!decide (x = y))) H) : rNe x y H Q := ⟨h0, h⟩
def RTy (K : PySem.W.Frag) (T : String) (x : V) (H1 : Hp) (k : Prop) : Prop := tyV K T x H1 ∧ k
theorem R_tyL {k : Prop} {xs : List V} (h1 : SqL K H p xs) (h : k) : RTy K "list" (.ref p) H k := ⟨.inl ⟨rfl, xs, h1⟩, h⟩
theorem E_bm {T : String} {r : V → List V → Hp → VK → Prop} (h : te σ H fun x H1 => RTy K T x H1 (tr σ H1 fun xs H2 => r x xs H2 Q)) : tBM K T r te tr σ H Q := h
theorem E_bm0 {T : String} {r : V → List V → Hp → VK → Prop} (h : te σ H fun x H1 => RTy K T x H1 (r x [] H1 Q)) : tBM0 K T r te σ H Q := h
theorem R_app {xs : List V} (h1 : H p = some (.lst xs)) (h2 : xs.length < sizeLine) (h : Q .non (upd H p (.lst (xs ++ [y])))) : rAppend (.ref p) [y] H Q := ⟨p, xs, y, rfl, rfl, h1, h2, h⟩
theorem R_ixL {xs : List V} {z : Int} (h1 : SqL K H p xs) (h2 : atI xs z = some v) (h : Q v H) : rIxL K (.ref p) (.int z) H Q := ⟨p, xs, z, v, rfl, rfl, h1, h2, h⟩
theorem R_ixT {xs : List V} {z : Int} (h1 : SqT K H p xs) (h2 : atI xs z = some v) (h : Q v H) : rIxT K (.ref p) (.int z) H Q := ⟨p, xs, z, v, rfl, rfl, h1, h2, h⟩
def rLenQ (K : PySem.W.Frag) : List V → Hp → VK → Prop := fun xs H Q => ∃ p ys, xs = [.ref p] ∧ (SqL K H p ys ∨ SqT K H p ys) ∧ Q (.int ys.length) H
theorem call_lenQ {X : Cx} : CallR X (.builtin "len") (rLenQ X.K) := call_len_seq
theorem R_lenL {xs : List V} (h1 : SqL K H p xs) (h : Q (.int xs.length) H) : rLenQ K [.ref p] H Q := ⟨p, xs, rfl, .inl h1, h⟩
theorem R_lenT {xs : List V} (h1 : SqT K H p xs) (h : Q (.int xs.length) H) : rLenQ K [.ref p] H Q := ⟨p, xs, rfl, .inr h1, h⟩
def rListQ (K : PySem.W.Frag) : List V → Hp → VK → Prop := fun xs H Q => ∃ p ys, xs = [.ref p] ∧ (SqL K H p ys ∨ SqT K H p ys) ∧ ∀ l, H l = none → Q (.ref l) (upd H l (.lst ys))
theorem call_listQ {X : Cx} : CallR X (.type "list") (rListQ X.K) := call_list_of
theorem R_listL {xs : List V} (h1 : SqL K H p xs) (h : ∀ l, H l = none → Q (.ref l) (upd H l (.lst xs))) : rListQ K [.ref p] H Q := ⟨p, xs, rfl, .inl h1, h⟩
def RTru (K : PySem.W.Frag) (x : V) (H : Hp) (QT : Bool → Hp → Prop) : Prop := ∃ k, TruV K x H k ∧ QT k H
def tTruQ (K : PySem.W.Frag) (ta : TE) : TT := fun σ H Q => ta σ H fun x H' => RTru K x H' Q
theorem pt_truQ {X : Cx} {a : Expr} (ha : PE X a ta) (he : ∀ whole, isTrue a X.env whole = (do let v ← whole; standAt a.pos; holding [v] (truthy v))) : PT X a (tTruQ X.K ta) := pt_truth ha he
theorem E_tru (h : ta σ H fun x H' => RTru K x H' QT) : tTruQ K ta σ H QT := h
theorem R_truL {xs : List V} (h1 : SqL K H p xs) (h : QT (!xs.isEmpty) H) : RTru K (.ref p) H QT := ⟨_, .inl ⟨xs, h1, rfl⟩, h⟩
theorem R_max2 {a b : Int} (h : Q (.int (if b > a then b else a)) H) : (fun xs H Q => ∃ i j, xs = [V.int i, V.int j] ∧ Q (.int (if j > i then j else i)) H : List V → Hp → VK → Prop) [.int a, .int b] H Q := ⟨a, b, rfl, h⟩
def rMax2Q : List V → Hp → VK → Prop := fun xs H Q => ∃ i j, xs = [V.int i, V.int j] ∧ Q (.int (if j > i then j else i)) H
theorem call_max2Q {X : Cx} (hc : X.calm = true) : CallR X (.builtin "max") rMax2Q := call_max2 hc
theorem R_max2Q {a b : Int} (h : Q (.int (if b > a then b else a)) H) : rMax2Q [.int a, .int b] H Q := ⟨a, b, rfl, h⟩
def RPart (x : V) (k : Int → Prop) : Prop := ∃ i, x = .int i ∧ k i
theorem R_part {a : Int} {k : Int → Prop} (h : k a) : RPart (.int a) k := ⟨a, rfl, h⟩
theorem E_sl {r : V → Option Int → Option Int → Hp → VK → Prop} {tl th : TO} (h : te σ H fun x H1 => tl σ H1 fun l H2 => th σ H2 fun u H3 => r x l u H3 Q) : tSl r te tl th σ H Q := h
theorem E_part {QO : Option Int → Hp → Prop} (h : te σ H fun x H1 => RPart x fun i => QO (some i) H1) : tPart te σ H QO := h
theorem E_noPart {QO : Option Int → Hp → Prop} (h : QO none H) : tNoPart σ H QO := h
theorem R_slL {xs : List V} {lo hi : Option Int} (h1 : SqL K H p xs) (h : ∀ q, H q = none → Q (.ref q) (upd H q (.lst (cutV xs lo hi)))) : rSlL K (.ref p) lo hi H Q := ⟨p, xs, rfl, h1, h⟩
theorem R_cat {a b : Addr} {xs zs : List V} (h1 : H a = some (.lst xs)) (h2 : H b = some (.lst zs)) (h3 : xs.length + zs.length ≤ sizeLine) (h : ∀ q, H q = none → Q (.ref q) (upd H q (.lst (xs ++ zs)))) : rCat (.ref a) (.ref b) H Q := ⟨a, b, xs, zs, rfl, rfl, h1, h2, h3, h⟩
def RIsD (x : V) (H : Hp) (k : Addr → Prop) : Prop := ∃ a, x = .ref a ∧ IsD H a ∧ k a
theorem R_isD {kvs : List (Key × V)} {k : Addr → Prop} (h1 : H p = some (.dK kvs)) (h : k p) : RIsD (.ref p) H k := ⟨p, rfl, .inl ⟨kvs, .inl h1⟩, h⟩
def RGetD (a : Addr) (y z : V) (H : Hp) (Q : VK) : Prop := ∃ o, DGet H a y o ∧ Q (o.getD z) H
theorem E_dget2 (h : td σ H fun x H1 => RIsD x H1 fun a => ty σ H1 fun y H2 => tx σ H2 fun z H3 => RGetD a y z H3 Q) : tDGet2 td ty tx σ H Q := h
theorem R_getD {kvs : List (Key × V)} {n : Int} {z : V} (h1 : H p = some (.dK kvs)) (h : Q ((valV kvs (.inl n)).getD z) H) : RGetD p (.int n) z H Q := ⟨_, DGet.k (k := .inl n) h1, h⟩
def RGet (y x : V) (H : Hp) (Q : VK) : Prop := ∃ a v, x = .ref a ∧ DGet H a y (some v) ∧ Q v H
theorem E_dget (h : td σ H fun x H1 => ty σ H1 fun y H2 => RGet y x H2 Q) : tDGet td ty σ H Q := h
theorem R_get {kvs : List (Key × V)} {n : Int} (h1 : H p = some (.dK kvs)) (h2 : valV kvs (.inl n) = some v) (h : Q v H) : RGet (.int n) (.ref p) H Q := ⟨p, v, rfl, by rw [← h2]; exact DGet.k (k := .inl n) h1, h⟩
def RPop1 (a : Addr) (y : V) (H : Hp) (Q : VK) : Prop := ∃ kvs k v, H a = some (.dK kvs) ∧ y = kV k ∧ valV kvs k = some v ∧ Q v (upd H a (.dK (dropK kvs k)))
theorem E_dpop1 (h : td σ H fun x H1 => RIsD x H1 fun a => ty σ H1 fun y H2 => RPop1 a y H2 Q) : tDPop1 td ty σ H Q := h
theorem R_pop1 {kvs : List (Key × V)} {n : Int} (h1 : H p = some (.dK kvs)) (h2 : valV kvs (.inl n) = some v) (h : Q v (upd H p (.dK (dropK kvs (.inl n))))) : RPop1 p (.int n) H Q := ⟨kvs, .inl n, v, h1, rfl, h2, h⟩
def RIn (y x : V) (H : Hp) (neg : Bool) (Q : VK) : Prop := ∃ a o, x = .ref a ∧ DGet H a y o ∧ Q (.bl (if neg then !o.isSome else o.isSome)) H
theorem E_din (h : ty σ H fun y H1 => td σ H1 fun x H2 => RIn y x H2 false Q) : tDIn ty td σ H Q := h
theorem E_dnin (h : ty σ H fun y H1 => td σ H1 fun x H2 => RIn y x H2 true Q) : tDNotIn ty td σ H Q := h
theorem R_in {kvs : List (Key × V)} {n : Int} {neg : Bool} (h1 : H p = some (.dK kvs)) (h : Q (.bl (if neg then !(valV kvs (.inl n)).isSome else (valV kvs (.inl n)).isSome)) H) : RIn (.int n) (.ref p) H neg Q := ⟨p, _, rfl, DGet.k (k := .inl n) h1, h⟩
theorem E_dnew (h : ∀ p, H p = none → Q (.ref p) (upd H p (.dK []))) : tDNewK σ H Q := h
end


section
variable {H : Hp} {Q : VK} {p : Addr} {y : V} {xs : List V}
def rInsQ : V → List V → Hp → VK → Prop := fun x vs H Q => ∃ (l : Addr) (xs : List V) (i : Int) (y : V), x = .ref l ∧ vs = [.int i, y] ∧ H l = some (.lst xs) ∧ xs.length < sizeLine ∧ 0 ≤ i ∧ i < 2 ^ 63 ∧ Q .non (upd H l (.lst (xs.take i.toNat ++ [y] ++ xs.drop i.toNat)))
theorem mt_insQ {X : Cx} : MtR X "list.insert" rInsQ := mt_insert
theorem R_ins {i : Nat} (h1 : H p = some (.lst xs)) (h2 : xs.length < sizeLine) (h3 : i ≤ 100000) (h : Q .non (upd H p (.lst (xs.take i ++ [y] ++ xs.drop i)))) : rInsQ (.ref p) [.int (i : Int), y] H Q :=
  ⟨p, xs, i, y, rfl, rfl, h1, h2, by omega, by omega, by rw [Int.toNat_natCast]; exact h⟩
theorem R_popAt {i : Nat} (h1 : H p = some (.lst xs)) (h2 : xs[i]? = some y) (h3 : i ≤ 100000) (h : Q y (upd H p (.lst (xs.eraseIdx i)))) : rPopAt (.ref p) [.int (i : Int)] H Q := by
  have hi : i < xs.length := (List.getElem?_eq_some_iff.mp h2).1
  refine ⟨p, xs, i, i, y, rfl, rfl, h1, by omega, by omega, ?_, h2, h⟩
  rw [seqIndex_of (by omega) (by omega), Int.toNat_natCast]
theorem R_pop0 {r : List V} (h1 : H p = some (.lst (y :: r))) (h : Q y (upd H p (.lst r))) : rPopAt (.ref p) [.int 0] H Q :=
  R_popAt (i := 0) h1 rfl (by omega) h
end
section
variable {K : PySem.W.Frag} {H H' : Hp} {Q : VK} {p q : Addr} {x y : V} {xs : List V} {o : HO}
theorem ne_nn (h' : H q = none) (h : H p = some o) : p ≠ q := ne_of_none h h'
theorem ne_nn2 (h' : H q = none) (h : H p = some o) : q ≠ p := (ne_of_none h h').symm
theorem same_upd (hn : H' p = none) (e : Same H H') : Same H (upd H' p o) := fun b u h => by
  rw [upd_ne (ne_of_none (e b u h) hn)]
  exact e b u h
def RTupA (xs : List V) (H1 : Hp) (Q : VK) : Prop := xs.length ≤ sizeLine ∧ ∀ p, H1 p = none → Q (.ref p) (L2.upd H1 p (.tup xs))
theorem E_tupA {σ : L2.St} {tr : TA} (h : tr σ H fun xs H1 => RTupA xs H1 Q) : tTup tr σ H Q := h
theorem R_tupA (h1 : xs.length ≤ 1000) (h : ∀ p, H p = none → Q (.ref p) (L2.upd H p (.tup xs))) : RTupA xs H Q := ⟨Nat.le_trans h1 (by decide), h⟩
theorem R_inT {neg : Bool} (h1 : SqT K H p xs) (h2 : flatV x = true) (h3 : xs.all flatV = true) (h : Q (.bl (if neg then !inV x xs else inV x xs)) H) : rIn K neg x (.ref p) H Q := ⟨p, xs, rfl, .inr h1, h2, h3, h⟩
theorem R_inL {neg : Bool} (h1 : SqL K H p xs) (h2 : flatV x = true) (h3 : xs.all flatV = true) (h : Q (.bl (if neg then !inV x xs else inV x xs)) H) : rIn K neg x (.ref p) H Q := ⟨p, xs, rfl, .inl h1, h2, h3, h⟩
theorem iteBT {b : Bool} {A B : Prop} (h : b = true) (k : A) : if b = true then A else B := by rw [if_pos h]; exact k
theorem iteBF {b : Bool} {A B : Prop} (h : b = false) (k : B) : if b = true then A else B := by rw [if_neg (by rw [h]; exact Bool.false_ne_true)]; exact k
theorem iteD {p : Prop} [Decidable p] {A B : Prop} (h1 : p → A) (h2 : ¬ p → B) : if decide p = true then A else B := by
  by_cases h : p
  · rw [decide_eq_true h]; exact h1 h
  · rw [decide_eq_false h]; exact h2 h
end
section
variable {σ : L2.St} {H : Hp} {Q : VK} {ta tb tc : TE} {r r' : R2}
theorem E_chain (h : ta σ H fun x H1 => tb σ H1 fun y H2 => r x y H2 fun z H3 => RBl z fun k => if k = true then tc σ H3 fun w' H4 => r' y w' H4 Q else Q (.bl false) H3) : tChain r r' ta tb tc σ H Q := h
end
/-! ### a statement, a word of one's own, the rest -/
def tCutQ (t u : TS) : TS := fun D σ H => ∃ M : L2.St → Hp → Prop, t { D with nx := M } σ H ∧ ∀ σ' H', M σ' H' → u D σ' H'
theorem pss_cutQ {X : Cx} {st : Stmt} {more : List Stmt} {t u : TS} (h1 : PS X st t) (h2 : PSs X more u) : PSs X (st :: more) (tCutQ t u) := by
  refine ⟨fun pins s σ H D I h => ?_⟩
  obtain ⟨M, hm, hu⟩ := h
  refine wpAny_execs_cons (thn (h1.run pins s σ H { D with nx := M } I hm) fun fl s1 q => ?_)
  cases fl with
  | next =>
    obtain ⟨σ', H', I', q⟩ := q
    exact h2.run pins s1 σ' H' D I' (hu σ' H' q)
  | ret v => exact q
  | brk => exact q
  | cont => exact q
theorem S_cut {t u : TS} {D : Ends} {σ : L2.St} {H : Hp} (M : L2.St → Hp → Prop) (h1 : t { D with nx := M } σ H) (h2 : ∀ σ' H', M σ' H' → u D σ' H') : tCutQ t u D σ H := ⟨M, h1, h2⟩
/-! ### the rules, their written part told -/
section
variable {X : Cx} {K : PySem.W.Frag} {e o : Expr} {es : List Expr} {f : Str} {pos pos' apos cpos : Pos} {value : Expr} {ta tv to : TE} {t : TA} {T : String} {name : Str} {id : String} {r : V → List V → Hp → VK → Prop} {tg : Expr}
theorem pe_fldK (hK : X.K = K) (he : PE X e ta) (hb : attributeBase e f X.env (eval e X.env) = eval e X.env) : PE X (.Attribute e f pos) (tFld K ta f) := by subst hK; exact pe_fld he hb
theorem ps_fldK (hK : X.K = K) (ha : PE X o ta) (hv : PE X value tv) (hs : swapsWith value (some (.Attribute o f pos')) pos.line X.env = pure false) : PS X (.Assign [.Attribute o f pos'] value pos) (sFld K ta tv f) := by subst hK; exact ps_fld ha hv hs
theorem pe_bm0K (hK : X.K = K) (pa : PlainAttrs T) (slot : Slot T name id) (hty : typeOf (.builtin id) = pure (.type "method_descriptor")) (hm : MtR X id r) (ho : PE X o to)
    (hbase : attributeBase o name X.env (eval o X.env) = eval o X.env := by rfl) (hline : (apos.endLine == cpos.line) = true := by rfl) : PE X (.Call (.Attribute o name apos) [] [] cpos) (tBM0 K T r to) := by subst hK; exact pe_bm0 pa slot hty hm ho hbase hline
theorem pe_bmK (hK : X.K = K) (pa : PlainAttrs T) (slot : Slot T name id) (hty : typeOf (.builtin id) = pure (.type "method_descriptor")) (hm : MtR X id r) (ho : PE X o to) (ha : PA X (e :: es) t)
    (hbase : attributeBase o name X.env (eval o X.env) = eval o X.env := by rfl)
    (hfew : ((backTo cpos (starEach (e :: es) X.env)).all (fun x => !x.1) && (backToKw cpos (keywordEach [] X.env)).all (fun x => x.1.isSome)
      && decide ((e :: es).length + ([] : List Keyword).length + (if ([] : List Keyword).isEmpty then 0 else 1) < 30)) = true := by rfl)
    (hline : (apos.endLine == cpos.line) = true := by rfl) (hs : starEach (e :: es) X.env = (false, eval e X.env) :: starEach es X.env := by rfl) (hplain : (backTo cpos (starEach es X.env)).any (·.1) = false := by rfl) :
    PE X (.Call (.Attribute o name apos) (e :: es) [] cpos) (tBM K T r to t) := by subst hK; exact pe_bm pa slot hty hm ho ha hbase hfew hline hs hplain
theorem ix_listK (hK : X.K = K) : IxR X (rIxL K) := by subst hK; exact ix_list
theorem ix_tupK (hK : X.K = K) : IxR X (rIxT K) := by subst hK; exact ix_tup
theorem sl_listK (hK : X.K = K) : SlR X (rSlL K) := by subst hK; exact sl_list
theorem pi_listK (hK : X.K = K) (hl : PE X e ta) : PI X tg e (iList K ta) := by subst hK; exact pi_list hl
theorem call_lenK (hK : X.K = K) : CallR X (.builtin "len") (rLenQ K) := by subst hK; exact call_lenQ
theorem call_listK (hK : X.K = K) : CallR X (.type "list") (rListQ K) := by subst hK; exact call_listQ
theorem cr_sumK (hK : X.K = K) (hc : X.calm = true) : CallR X (.builtin "sum") (rSum K) := by subst hK; exact cr_sum hc
theorem cr_minK (hK : X.K = K) (hc : X.calm = true) : CallR X (.builtin "min") (rMin K) := by subst hK; exact cr_min hc
theorem cr_maxK (hK : X.K = K) (hc : X.calm = true) : CallR X (.builtin "max") (rMax K) := by subst hK; exact cr_max hc
theorem cr_allK (hK : X.K = K) (hc : X.calm = true) : CallR X (.builtin "all") (rAll K) := by subst hK; exact cr_all hc
theorem cr_sortedK (hK : X.K = K) : CallR X (.builtin "sorted") (rSorted K) := by subst hK; exact cr_sorted
theorem cr_minPK (hK : X.K = K) (hc : X.calm = true) (hu : X.A.units + 64 < cLine) : CallR X (.builtin "min") (rMinP K) := by subst hK; exact cr_minP hc hu
theorem op_in_seqK (hK : X.K = K) : OpR X (compareOp .In) (rIn K false) := by subst hK; exact op_in_seq
theorem op_notIn_seqK (hK : X.K = K) : OpR X (compareOp .NotIn) (rIn K true) := by subst hK; exact op_notIn_seq
theorem op_eqDK (hK : X.K = K) (hu : X.A.units + 64 < cLine) : OpR X (compareOp .Eq) (rEqD K) := by subst hK; exact op_eqD hu
theorem op_neDK (hK : X.K = K) (hu : X.A.units + 64 < cLine) : OpR X (compareOp .NotEq) (rNeD K) := by subst hK; exact op_neD hu
theorem mt_lcountK (hK : X.K = K) : MtR X "list.count" (rCntI K) := by subst hK; exact mt_lcount
theorem pt_truK (hK : X.K = K) (ha : PE X e ta) (he : ∀ whole, isTrue e X.env whole = (do let v ← whole; standAt e.pos; holding [v] (truthy v))) : PT X e (tTruQ K ta) := by subst hK; exact pt_truQ ha he
theorem call_isiK (hK : X.K = K) : CallR X (.builtin "isinstance") (rIsi K) := by subst hK; exact call_isi
theorem pe_lenSetK (hK : X.K = K) {a : Expr} {p p2 q : Pos} (hg : Gl X "len") (hm : X.mg "len" = none) (hg2 : Gl X "set") (hm2 : X.mg "set" = none) (ha : PE X a ta) (hc : X.calm = true := by rfl)
    (na : starEach [a] X.env = (false, eval a X.env) :: starEach [] X.env := by rfl) : PE X (.Call (.Name "len" p) [.Call (.Name "set" p2) [a] [] q] [] pos) (tLenSetD K ta) := by subst hK; exact pe_lenSetD hg hm hg2 hm2 ha hc na
end
/-! ### loops -/
section
variable {K : PySem.W.Frag} {σ : L2.St} {H : Hp} {D : Ends} {t u tb : TS} {c : TT} {te tl : TE} {ta : TA} {wi : TI} {g : TG} {j : Nat} {a : Addr} {R : It → Hp → Prop} {Q : VK}
def tWhileQ (c : TT) (tb : TS) : TS := fun D σ H => ∃ W : Nat → L2.St → Hp → Prop, (∃ m, W m σ H) ∧ ∀ m σ H, W m σ H →
  c σ H fun b H1 => if b = true then tb { D with nx := fun σ' H' => ∃ m', m' < m ∧ W m' σ' H', ct := fun σ' H' => ∃ m', m' < m ∧ W m' σ' H', bk := D.nx } σ H1 else D.nx σ H1
theorem ps_whileQ {X : Cx} {pos : Pos} {c : Expr} {body : List Stmt} {tc : TT} {tb : TS} (hp : PassesOwn (model X.prog X.w) X.A X.env X.xe) (hc : PT X c tc) (hb : PSs X body tb) : PS X (.While c body [] pos) (tWhileQ tc tb) := by
  refine ⟨fun pins s σ H D I h => ?_⟩
  obtain ⟨W, ⟨m0, w0⟩, turn⟩ := h
  refine wpAny_While (codeAny_whileLoop (fun n s' => ∃ σ' H', Inv X pins σ' H' s' ∧ W n σ' H') ?_ m0 ⟨σ, H, I, w0⟩)
  rintro n s1 ⟨σ1, H1, I1, w1⟩
  refine wpAny_passesOwn hp (thn (hc.run pins s1 σ1 H1 _ I1 (turn n σ1 H1 w1)) fun b s2 ⟨H2, I2, q2⟩ => ?_)
  cases b with
  | true =>
    rw [if_pos rfl]
    refine wpAny_passesOwn hp (thn (hb.run pins s2 σ1 H2 _ I2 q2) fun f s3 q3 => ?_)
    cases f with
    | next =>
      obtain ⟨σ3, H3, I3, m', hm, w3⟩ := q3
      exact ⟨m', hm, σ3, H3, I3, w3⟩
    | cont =>
      obtain ⟨σ3, H3, I3, m', hm, w3⟩ := q3
      exact ⟨m', hm, σ3, H3, I3, w3⟩
    | brk => exact q3
    | ret v => exact q3
  | false =>
    rw [if_neg Bool.false_ne_true]
    exact wpAny_execs_nil ⟨σ1, H2, I2, q2⟩
theorem S_while (W : Nat → L2.St → Hp → Prop) (m0 : Nat) (h0 : W m0 σ H)
    (hs : ∀ m σ H, W m σ H → c σ H fun b H1 => if b = true then tb { D with nx := fun σ' H' => ∃ m', m' < m ∧ W m' σ' H', ct := fun σ' H' => ∃ m', m' < m ∧ W m' σ' H', bk := D.nx } σ H1 else D.nx σ H1) : tWhileQ c tb D σ H := ⟨W, ⟨m0, h0⟩, hs⟩
def RFor (J : It) (g : TG) (tb : TS) (D : Ends) (σ : L2.St) (H1 : Hp) : Prop := ∃ W : Nat → Nat → L2.St → Hp → Prop, (∃ m, W 0 m σ H1) ∧ ∀ i m σ H, W i m σ H →
  (J.stop i H ∧ D.nx σ H) ∨ (J.go i H ∧ ∃ N : L2.St → Hp → Prop, (∀ σ' H', N σ' H' → ∃ m', m' < m ∧ W (i + 1) m' σ' H') ∧ ∀ x H', J.yld i H x H' → g x σ H' fun σ2 H2 => tb { D with nx := N, ct := N, bk := D.nx } σ2 H2)
theorem S_for (h : wi σ H fun J H1 => RFor J g tb D σ H1) : tFor wi g tb D σ H := h
theorem R_forL {xs : List V} (Pv : Nat → L2.St → Hp → Prop) (h0 : Pv 0 σ H) (hl : ∀ i σ H, i ≤ xs.length → Pv i σ H → SqL K H a xs)
    (hs : ∀ i x σ H, xs[i]? = some x → Pv i σ H → tb { D with nx := Pv (i + 1), ct := Pv (i + 1), bk := D.nx } (σ.set j (some x)) H) (hd : ∀ σ H, Pv xs.length σ H → D.nx σ H) : RFor (Itl K a) (gName j) tb D σ H :=
  for_list Pv h0 hl hs hd
theorem R_forR {lo : Int} {n : Nat} (Pv : Nat → L2.St → Hp → Prop) (h0 : Pv 0 σ H)
    (hs : ∀ i σ H, i < n → Pv i σ H → tb { D with nx := Pv (i + 1), ct := Pv (i + 1), bk := D.nx } (σ.set j (some (.int (lo + i)))) H) (hd : ∀ σ H, Pv n σ H → D.nx σ H) : RFor (Itr lo n) (gName j) tb D σ H :=
  for_range Pv h0 hs hd
def RIl (K : PySem.W.Frag) (x : V) (H1 : Hp) (R : It → Hp → Prop) : Prop := ∃ a, x = .ref a ∧ (∃ xs, SqL K H1 a xs) ∧ R (Itl K a) H1
theorem E_il (h : tl σ H fun x H1 => RIl K x H1 R) : iList K tl σ H R := h
theorem R_il {xs : List V} (h1 : SqL K H a xs) (h : R (Itl K a) H) : RIl K (.ref a) H R := ⟨a, rfl, ⟨xs, h1⟩, h⟩
def RR1 (vs : List V) (H1 : Hp) (R : It → Hp → Prop) : Prop := ∃ j : Int, vs = [.int j] ∧ -(2 ^ 62) ≤ j ∧ j < 2 ^ 62 ∧ R (Itr 0 j.toNat) H1
theorem E_rng1 (h : ta σ H fun vs H1 => RR1 vs H1 R) : iRng1 ta σ H R := h
theorem R_rng1 {n : Int} (h1 : 0 ≤ n) (h2 : n < 2 ^ 62) (h : R (Itr 0 n.toNat) H) : RR1 [.int n] H R := ⟨n, rfl, by omega, h2, h⟩
/-! ### comprehensions -/
def RLc (J : It) (g : TG) (tt : TT) (te : TE) (vs : List Nat) (σ : L2.St) (H1 : Hp) (Q : VK) : Prop := ∀ D, H1 D = none → ∃ W : Nat → Nat → Hp → Prop, (∃ m, W 0 m (upd H1 D (.lst []))) ∧ ∀ i m H, W i m H →
  (J.stop i H ∧ Q (.ref D) H) ∨ (J.go i H ∧ ∃ Nx : Hp → Prop, (∀ H', Nx H' → ∃ m', m' < m ∧ W (i + 1) m' H') ∧ ∀ x H', J.yld i H x H' → g x (wipe σ vs) H' fun σ2 H2 => wipe σ2 vs = wipe σ vs ∧ tt σ2 H2 fun b H3 =>
    if b = true then te σ2 H3 fun y H4 => ∃ acc, H4 D = some (.lst acc) ∧ acc.length < sizeLine ∧ Nx (upd H4 D (.lst (acc ++ [y]))) else Nx H3)
theorem E_lc {tt : TT} {vs : List Nat} (h : wi σ H fun J H1 => RLc J g tt te vs σ H1 Q) : tLc wi g tt te vs σ H Q := h
theorem E_yes {QT : Bool → Hp → Prop} (h : QT true H) : tYes σ H QT := h
theorem wipe_set {σ : L2.St} {j : Nat} {x : Option V} : wipe (((wipe σ [j])).set j x) [j] = wipe σ [j] := by
  show ((σ.set j none).set j x).set j none = σ.set j none
  rw [List.set_set, List.set_set]
/-- each item made into a value, what stood stays -/
theorem R_lcMap {xs ys : List V} (hq : SqL K H a xs) (hlen : ys.length = xs.length) (hz : xs.length ≤ 100000)
    (hs : ∀ (i : Nat) (x y : V) (H' : Hp), xs[i]? = some x → ys[i]? = some y → Same H H' → ∀ Q' : VK, (∀ H4, Same H' H4 → Q' y H4) → te ((wipe σ [j]).set j (some x)) H' Q')
    (hd : ∀ D H', H D = none → Same H H' → H' D = some (.lst ys) → Q (.ref D) H') : RLc (Itl K a) (gName j) tYes te [j] σ H Q := by
  intro D hD
  refine lc_list (xs := xs) (fun i H' => Same H H' ∧ H' D = some (.lst (ys.take i))) ⟨fun b u e => by rw [upd_ne (ne_of_none e hD)]; exact e, by rw [upd_same, List.take_zero]⟩ (fun i H' _ p => p.1.seq hq) (fun i x H' hx p => ?_) (fun H' p => hd D H' hD p.1 (by rw [p.2, ← hlen, List.take_length]))
  have hi : i < ys.length := by rw [hlen]; exact (List.getElem?_eq_some_iff.mp hx).1
  refine ⟨wipe_set, ?_⟩
  refine E_yes ?_
  refine iteT ?_
  refine hs i x ys[i] H' hx (List.getElem?_eq_getElem hi) p.1 _ (fun H4 q => ?_)
  refine ⟨ys.take i, q _ _ p.2, ?_, ⟨fun b u e => ?_, ?_⟩⟩
  · rw [List.length_take]
    exact Nat.lt_of_le_of_lt (m := 100000) (by omega) (by decide)
  · rw [upd_ne (ne_of_none e hD)]
    exact q b u (p.1 b u e)
  · rw [upd_same, List.take_add_one, List.getElem?_eq_getElem hi]
    rfl
end


/-! ### comprehensions that make pairs of ints -/
section
variable {K : PySem.W.Frag} {σ : L2.St} {H H' H4 : Hp} {te : TE} {j : Nat} {a D q d : Addr} {Q : VK}
def PairInv (H : Hp) (D : Addr) (l : List (Int × Int)) (H' : Hp) : Prop := Same H H' ∧ ∃ ps : List (Addr × Int × Int), H' D = some (.lst (ps.map fun p => V.ref p.1)) ∧ (∀ p ∈ ps, H' p.1 = some (.tup [.int p.2.1, .int p.2.2])) ∧ ps.map (·.2) = l
theorem PairInv.start (hD : H D = none) : PairInv H D [] (upd H D (.lst [])) := ⟨fun b u e => by rw [upd_ne (ne_of_none e hD)]; exact e, [], upd_same, (fun p hp => by cases hp), rfl⟩
theorem PairInv.step {l : List (Int × Int)} {x y : Int} (h : PairInv H D l H') (hD : H D = none) (hq : H' q = none) (e : Same H' H4) (h4 : H4 q = some (.tup [.int x, .int y])) (hz : l.length ≤ 100000) :
    ∃ acc, H4 D = some (.lst acc) ∧ acc.length < sizeLine ∧ PairInv H D (l ++ [(x, y)]) (upd H4 D (.lst (acc ++ [.ref q]))) := by
  obtain ⟨s, ps, h1, h2, h3⟩ := h
  refine ⟨_, e _ _ h1, ?_, fun b u eb => ?_, ps ++ [(q, x, y)], ?_, fun p hp => ?_, ?_⟩
  · rw [List.length_map]
    have : ps.length = l.length := by rw [← h3, List.length_map]
    exact Nat.lt_of_le_of_lt (m := 100000) (by omega) (by decide)
  · rw [upd_ne (ne_of_none eb hD)]
    exact e _ _ (s _ _ eb)
  · rw [upd_same, List.map_append]
    rfl
  · rcases List.mem_append.mp hp with hp | hp
    · have t := e _ _ (h2 p hp)
      rw [upd_ne (ne_of t (e _ _ h1) (by intro z; cases z))]
      exact t
    · rw [List.mem_singleton.mp hp]
      show upd H4 D _ q = _
      rw [upd_ne (ne_of h4 (e _ _ h1) (by intro z; cases z))]
      exact h4
  · rw [List.map_append, h3]
    rfl
theorem R_lcPairL {ns : List Int} (f : Int → Int × Int) (hq : SqL K H a (ns.map V.int)) (hz : ns.length ≤ 100000)
    (hs : ∀ (x : Int) (H' : Hp), x ∈ ns → Same H H' → ∀ Q' : VK, (∀ q H4, H' q = none → Same H' H4 → H4 q = some (.tup [.int (f x).1, .int (f x).2]) → Q' (.ref q) H4) → te ((wipe σ [j]).set j (some (.int x))) H' Q')
    (hd : ∀ D H', H D = none → PairInv H D (ns.map f) H' → Q (.ref D) H') : RLc (Itl K a) (gName j) tYes te [j] σ H Q := by
  intro D hD
  refine lc_list (xs := ns.map V.int) (fun i H' => PairInv H D ((ns.take i).map f) H') (PairInv.start hD) (fun i H' _ p => p.1.seq hq) (fun i x H' hx p => ?_) (fun H' p => hd D H' hD (by rw [List.length_map, List.take_length] at p; exact p))
  obtain ⟨z, hz2, rfl⟩ : ∃ z, ns[i]? = some z ∧ x = V.int z := by
    rw [List.getElem?_map] at hx
    cases e : ns[i]? with
    | none => rw [e] at hx; cases hx
    | some z => rw [e] at hx; exact ⟨z, rfl, (Option.some.inj hx).symm⟩
  refine ⟨wipe_set, ?_⟩
  refine E_yes ?_
  refine iteT ?_
  refine hs z H' (List.mem_of_getElem? hz2) p.1 _ (fun q H4 hq e h4 => ?_)
  obtain ⟨acc, h5, h6, h7⟩ := p.step hD hq e h4 (by rw [List.length_map, List.length_take]; omega)
  refine ⟨acc, h5, h6, ?_⟩
  rw [List.take_add_one, hz2, List.map_append]
  exact h7
theorem R_lcPairK {ns : List Int} {kvs : List (Key × V)} {o : Obj} (f : Int → Int × Int) (hk : kvs.map (·.1) = ns.map Sum.inl) (hq : H d = some (.frz o (.dK kvs))) (hz : ns.length ≤ 100000)
    (hs : ∀ (x : Int) (H' : Hp), x ∈ ns → Same H H' → ∀ Q' : VK, (∀ q H4, H' q = none → Same H' H4 → H4 q = some (.tup [.int (f x).1, .int (f x).2]) → Q' (.ref q) H4) → te ((wipe σ [j]).set j (some (.int x))) H' Q')
    (hd : ∀ D H', H D = none → PairInv H D (ns.map f) H' → Q (.ref D) H') : RLc (Itk d o kvs) (gName j) tYes te [j] σ H Q := by
  intro D hD
  have hl : kvs.length = ns.length := by
    have := congrArg List.length hk
    rw [List.length_map, List.length_map] at this
    exact this
  refine ⟨fun i m H' => m = ns.length - i ∧ i ≤ ns.length ∧ PairInv H D ((ns.take i).map f) H', ⟨ns.length, by simp, Nat.zero_le _, PairInv.start hD⟩, ?_⟩
  rintro i m H' ⟨rfl, hi, p⟩
  have q0 := p.1 _ _ hq
  by_cases hlt : i < ns.length
  · refine .inr ⟨⟨q0, by omega⟩, fun H' => PairInv H D ((ns.take (i + 1)).map f) H', fun H' p' => ⟨ns.length - (i + 1), by omega, rfl, hlt, p'⟩, fun x H2 y => ?_⟩
    obtain ⟨rfl, k, v, hkv, rfl⟩ := y
    have ek : k = Sum.inl ns[i] := by
      have e1 : (kvs.map (·.1))[i]? = some k := by rw [List.getElem?_map, hkv]; rfl
      rw [hk, List.getElem?_map, List.getElem?_eq_getElem hlt] at e1
      exact (Option.some.inj e1).symm
    subst ek
    refine ⟨wipe_set, ?_⟩
    refine E_yes ?_
    refine iteT ?_
    refine hs ns[i] H2 (List.getElem_mem hlt) p.1 _ (fun q H4 hq e h4 => ?_)
    obtain ⟨acc, h5, h6, h7⟩ := p.step hD hq e h4 (by rw [List.length_map, List.length_take]; omega)
    refine ⟨acc, h5, h6, ?_⟩
    show PairInv H D ((ns.take (i + 1)).map f) _
    rw [List.take_add_one, List.getElem?_eq_getElem hlt, Option.toList_some, List.map_append]
    exact h7
  · have e : i = ns.length := by omega
    subst e
    rw [List.take_length] at p
    exact .inl ⟨⟨q0, by omega⟩, hd D H' hD p⟩
def RLock (t : L2.St → Hp → VK → Prop) (σ : L2.St) (H : Hp) (Q : VK) : Prop := tLockE t σ H Q
theorem E_lock {t : TE} {u : HO} (h1 : H d = some u) (h2 : Mut (some u)) (h : ∀ od, t σ (upd H d (.frz od u)) fun v H' => H' d = some (.frz od u) ∧ Q v (upd H' d u)) : tLockE t σ H Q := ⟨d, u, h1, h2, h⟩
theorem same_lock {u : HO} {od : Obj} (h1 : H d = some u) (e : Same (upd H d (.frz od u)) H') : Same H (upd H' d u) := fun b v h => by
  by_cases hb : b = d
  · subst hb
    rw [upd_same, ← h, h1]
  · rw [upd_ne hb]
    exact e b v (by rw [upd_ne hb]; exact h)
def RIk (x : V) (H1 : Hp) (R : It → Hp → Prop) : Prop := ∃ d o, x = .ref d ∧ ((∃ kvs, H1 d = some (.frz o (.dK kvs)) ∧ R (Itk d o kvs) H1) ∨ ∃ kvs, H1 d = some (.frz o (.dT kvs)) ∧ R (Itkt d o kvs) H1)
theorem E_ik {td : TE} {R : It → Hp → Prop} (h : td σ H fun x H1 => RIk x H1 R) : iKeys td σ H R := h
theorem R_ik {R : It → Hp → Prop} {o : Obj} {kvs : List (Key × V)} (h1 : H d = some (.frz o (.dK kvs))) (h : R (Itk d o kvs) H) : RIk (.ref d) H R := ⟨d, o, rfl, .inl ⟨kvs, h1, h⟩⟩
theorem R_getF {v : V} {o : Obj} {kvs : List (Key × V)} {n : Int} (h1 : H d = some (.frz o (.dK kvs))) (h2 : valV kvs (.inl n) = some v) (h : Q v H) : RGet (.int n) (.ref d) H Q := ⟨d, v, rfl, by rw [← h2]; exact .inl ⟨kvs, .inl n, .inr ⟨o, h1⟩, rfl, rfl⟩, h⟩
theorem R_minP {l : List (Int × Int)} (h1 : PairInv H D l H') (hne : l ≠ []) (h : ∀ q x y, H' q = some (.tup [.int x, .int y]) → (x, y) ∈ l → (∀ z ∈ l, ple (x, y) z) → Q (.ref q) H') : rMinP K [.ref D] H' Q := by
  obtain ⟨s, ps, h2, h3, h4⟩ := h1
  refine ⟨D, ps, rfl, SqL.of h2, fun p hp => SqT.of (h3 p hp), fun e => hne (by rw [← h4, e]; rfl), fun p hp hle => h p.1 p.2.1 p.2.2 (h3 p hp) (by rw [← h4]; exact List.mem_map.mpr ⟨p, hp, rfl⟩) fun z hz => ?_⟩
  rw [← h4] at hz
  obtain ⟨p2, hp2, rfl⟩ := List.mem_map.mp hz
  exact hle p2 hp2
theorem PairInv.same {l : List (Int × Int)} (h : PairInv H D l H') (e : ∀ b u, H' b = some u → (b = D ∨ ∃ x y, u = .tup [.int x, .int y]) → H4 b = some u) {H0 : Hp} (e0 : Same H0 H4) : PairInv H0 D l H4 := by
  obtain ⟨s, ps, h2, h3, h4⟩ := h
  exact ⟨e0, ps, e _ _ h2 (.inl rfl), fun p hp => e _ _ (h3 p hp) (.inr ⟨_, _, rfl⟩), h4⟩
end

/-! ### slices, sums, more comprehensions -/
theorem cut_from (xs : List V) (k : Nat) : cutV xs (some (k : Int)) none = xs.drop k := by
  unfold cutV
  rw [HT.sIx_none, HT.sIx_nat]
  by_cases h : k ≤ xs.length
  · rw [Nat.min_eq_left h, List.take_of_length_le (by rw [List.length_drop]; omega)]
  · rw [Nat.min_eq_right (by omega), List.drop_length, List.drop_eq_nil_of_le (by omega)]
    simp
theorem cut_last (xs : List V) (n : Nat) (hn : 1 ≤ n) : cutV xs (some (-(n : Int))) none = xs.drop (xs.length - n) := by
  unfold cutV
  have e : HT.sIx xs.length 0 (some (-(n : Int))) = xs.length - n := by
    show (if -(n : Int) < 0 then (-(n : Int) + (xs.length : Int)).toNat else min (-(n : Int)).toNat xs.length) = _
    rw [if_pos (by omega)]
    omega
  rw [HT.sIx_none, e, List.take_of_length_le (by rw [List.length_drop]; omega)]
theorem cut_to (xs : List V) (k : Nat) : cutV xs none (some (k : Int)) = xs.take k := by
  unfold cutV
  rw [HT.sIx_none, HT.sIx_nat, List.drop_zero, Nat.sub_zero]
  by_cases h : k ≤ xs.length
  · rw [Nat.min_eq_left h]
  · rw [Nat.min_eq_right (by omega), List.take_length, List.take_of_length_le (by omega)]
section
variable {K : PySem.W.Frag} {σ : L2.St} {H H' H4 : Hp} {te ta : TE} {tt : TT} {j : Nat} {a D q d : Addr} {Q : VK}
theorem R_sum {ns : List Int} (h1 : SqL K H a (ns.map V.int)) (h : Q (.int ns.sum) H) : rSum K [.ref a] H Q := ⟨a, ns, rfl, h1, h⟩
def RLenSet (K : PySem.W.Frag) (x : V) (H1 : Hp) (Q : VK) : Prop := ∃ (l : Addr) (ns : List Int), x = .ref l ∧ SqL K H1 l (ns.map V.int) ∧ ns.length ≤ 4000 ∧ Q (.int (unlike ns : Nat)) H1
theorem E_lenSet (h : ta σ H fun x H1 => RLenSet K x H1 Q) : tLenSetD K ta σ H Q := h
theorem R_lenSet {ns : List Int} (h1 : SqL K H a (ns.map V.int)) (h2 : ns.length ≤ 4000) (h : Q (.int (unlike ns : Nat)) H) : RLenSet K (.ref a) H Q := ⟨a, ns, rfl, h1, h2, h⟩
theorem R_lcMapR {lo : Int} {n : Nat} (ys : List V) (hlen : ys.length = n) (hz : n ≤ 100000)
    (hs : ∀ (i : Nat) (y : V) (H' : Hp), ys[i]? = some y → Same H H' → ∀ Q' : VK, (∀ H4, Same H' H4 → Q' y H4) → te ((wipe σ [j]).set j (some (.int (lo + i)))) H' Q')
    (hd : ∀ D H', H D = none → Same H H' → H' D = some (.lst ys) → Q (.ref D) H') : RLc (Itr lo n) (gName j) tYes te [j] σ H Q := by
  intro D hD
  refine lc_range (fun i H' => Same H H' ∧ H' D = some (.lst (ys.take i))) ⟨fun b u e => by rw [upd_ne (ne_of_none e hD)]; exact e, by rw [upd_same, List.take_zero]⟩ (fun i H' hi p => ?_) (fun H' p => hd D H' hD p.1 (by rw [p.2, ← hlen, List.take_length]))
  have hi : i < ys.length := by omega
  refine ⟨wipe_set, ?_⟩
  refine E_yes ?_
  refine iteT ?_
  refine hs i ys[i] H' (List.getElem?_eq_getElem hi) p.1 _ (fun H4 q => ?_)
  refine ⟨ys.take i, q _ _ p.2, ?_, ⟨fun b u e => ?_, ?_⟩⟩
  · rw [List.length_take]
    exact Nat.lt_of_le_of_lt (m := 100000) (by omega) (by decide)
  · rw [upd_ne (ne_of_none e hD)]
    exact q b u (p.1 b u e)
  · rw [upd_same, List.take_add_one, List.getElem?_eq_getElem hi]
    rfl
/-- those of a list that pass a test; what is made of each -/
theorem R_lcFilter {xs : List V} (f : V → Bool) (g : V → V) (hq : SqL K H a xs) (hz : xs.length ≤ 100000)
    (ht : ∀ (x : V) (H' : Hp), x ∈ xs → Same H H' → ∀ Q' : Bool → Hp → Prop, (∀ H4, Same H' H4 → Q' (f x) H4) → tt ((wipe σ [j]).set j (some x)) H' Q')
    (hs : ∀ (x : V) (H' : Hp), x ∈ xs → f x = true → Same H H' → ∀ Q' : VK, (∀ H4, Same H' H4 → Q' (g x) H4) → te ((wipe σ [j]).set j (some x)) H' Q')
    (hd : ∀ D H', H D = none → Same H H' → H' D = some (.lst ((xs.filter f).map g)) → Q (.ref D) H') : RLc (Itl K a) (gName j) tt te [j] σ H Q := by
  intro D hD
  refine lc_list (xs := xs) (fun i H' => Same H H' ∧ H' D = some (.lst (((xs.take i).filter f).map g))) ⟨fun b u e => by rw [upd_ne (ne_of_none e hD)]; exact e, by rw [upd_same, List.take_zero]; rfl⟩ (fun i H' _ p => p.1.seq hq) (fun i x H' hx p => ?_) (fun H' p => hd D H' hD p.1 (by rw [p.2, List.take_length]))
  have hi : i < xs.length := (List.getElem?_eq_some_iff.mp hx).1
  have hm : x ∈ xs := List.mem_of_getElem? hx
  refine ⟨wipe_set, ?_⟩
  refine ht x H' hm p.1 _ (fun H2 s2 => ?_)
  have et : xs.take (i + 1) = xs.take i ++ [x] := by rw [List.take_add_one, hx]; rfl
  cases ef : f x with
  | false =>
    refine iteF ?_
    refine ⟨p.1.trans s2, ?_⟩
    rw [et, List.filter_append, List.filter_cons, if_neg (by rw [ef]; exact Bool.false_ne_true), List.filter_nil, List.append_nil]
    exact s2 _ _ p.2
  | true =>
    refine iteT ?_
    refine hs x H2 hm ef (p.1.trans s2) _ (fun H4 s4 => ?_)
    refine ⟨_, s4 _ _ (s2 _ _ p.2), ?_, ⟨fun b u e => ?_, ?_⟩⟩
    · have h1 : ((xs.take i).filter f).length ≤ (xs.take i).length := List.length_filter_le _ _
      rw [List.length_take] at h1
      rw [List.length_map]
      exact Nat.lt_of_le_of_lt (m := 100000) (by omega) (by decide)
    · rw [upd_ne (ne_of_none e hD)]
      exact s4 b u (s2 b u (p.1 b u e))
    · rw [upd_same, et, List.filter_append, List.filter_cons, if_pos ef, List.filter_nil, List.map_append]
      rfl
/-- [x[1] for x in xs], xs a list of pairs of ints -/
theorem R_lcSnd {qs : List (Addr × Int × Int)} (hq : SqL K H a (qs.map fun q => V.ref q.1)) (ht : ∀ q ∈ qs, H q.1 = some (.tup [.int q.2.1, .int q.2.2])) (hz : qs.length ≤ 100000) (hj : j < σ.length)
    (hd : ∀ D H', H D = none → Same H H' → H' D = some (.lst ((qs.map (·.2.2)).map V.int)) → Q (.ref D) H') : RLc (Itl K a) (gName j) tYes (tOp (rIxT K) (tVar j) (tC (.int 1))) [j] σ H Q := by
  refine R_lcMap hq (ys := (qs.map (·.2.2)).map V.int) (by rw [List.length_map, List.length_map, List.length_map]) (by rw [List.length_map]; exact hz) (fun i x y H' hx hy sm Q' kQ => ?_) hd
  rw [List.getElem?_map] at hx hy
  rw [List.getElem?_map] at hy
  cases e : qs[i]? with
  | none => rw [e] at hx; cases hx
  | some q =>
    rw [e] at hx hy
    have ex := Option.some.inj hx
    have ey := Option.some.inj hy
    subst ex ey
    refine ⟨.ref q.1, ?_, ?_⟩
    · rw [List.getElem?_set_self]
      show j < (σ.set j none).length
      rw [List.length_set]
      exact hj
    · exact ⟨q.1, _, 1, .int q.2.2, rfl, rfl, SqT.of (sm _ _ (ht q (List.mem_of_getElem? e))), rfl, kQ H' (Same.refl H')⟩
/-- the data of a list of ints -/
theorem dp_intsA : ∀ ns : List Int, DpAll K H (ns.map V.int) (ns.map PyData.int)
  | [] => .nil
  | n :: r => .cons (.int n) (dp_intsA r)
theorem dp_ints {ns : List Int} (h : SqL K H a (ns.map V.int)) : Dp K H (.ref a) (.list (ns.map PyData.int)) := .lst h (dp_intsA ns)
theorem ints_lay : ∀ ns : List Int, PyData.canLayAll0 (ns.map PyData.int) = true ∧ PyData.depthAll (ns.map PyData.int) = 0
  | [] => ⟨rfl, rfl⟩
  | n :: r => by
    obtain ⟨h1, h2⟩ := ints_lay r
    refine ⟨?_, ?_⟩
    · rw [List.map_cons, PyData.canLayAll0, h1]
      rfl
    · rw [List.map_cons, PyData.depthAll, h2]
      rfl
theorem shaped_ints (ns : List Int) : SeqAt.shaped (.list (ns.map PyData.int)) = true := by
  obtain ⟨h1, h2⟩ := ints_lay ns
  unfold SeqAt.shaped
  rw [PyData.canLay0, h1, PyData.depth, h2]
  rfl
theorem eqv_ints (ns : List Int) : PyData.eqv (.list (ns.map PyData.int)) (.list (ns.map PyData.int)) = true := SeqAt.eqv_refl _ (by rw [PyData.canLay0]; exact (ints_lay ns).1)
theorem R_neInts {b : Addr} {ns : List Int} (h1 : SqL K H a (ns.map V.int)) (h2 : SqL K H b (ns.map V.int)) (h : Q (.bl false) H) : rNeD K (.ref a) (.ref b) H Q :=
  ⟨_, _, dp_ints h1, dp_ints h2, shaped_ints ns, shaped_ints ns, by rw [eqv_ints]; exact h⟩
theorem R_all {bs : List Bool} (h1 : SqL K H a (bs.map V.bl)) (h : Q (.bl (bs.all id)) H) : rAll K [.ref a] H Q := ⟨a, bs, rfl, h1, h⟩
theorem R_cnt {ns : List Int} {z : Int} (h1 : SqL K H a (ns.map V.int)) (h : Q (.int (ns.count z : Nat)) H) : rCntI K (.ref a) [.int z] H Q := ⟨a, ns, z, rfl, rfl, h1, h⟩
end

/-! ### reversed(list) -/
section
variable {K : PySem.W.Frag} {σ : L2.St} {H : Hp} {D : Ends} {tb : TS} {te : TE} {ta : TA} {j : Nat} {a : Addr} {R : It → Hp → Prop} {Q : VK}
theorem pi_reversedK {X : Cx} (hK : X.K = K) {tg e : Expr} {p pos : Pos} (hg : Gl X "reversed") (hm : X.mg "reversed" = none) (ha : PA X [e] ta) (hs : starEach [e] X.env = [(false, eval e X.env)] := by rfl) : PI X tg (.Call (.Name "reversed" p) [e] [] pos) (iRev K ta) := by subst hK; exact pi_reversed hg hm ha hs
def RIv (K : PySem.W.Frag) (vs : List V) (H1 : Hp) (R : It → Hp → Prop) : Prop := ∃ (a : Addr) (xs : List V), vs = [.ref a] ∧ SqL K H1 a xs ∧ R (Itv K a xs.length) H1
theorem E_iv (h : ta σ H fun vs H1 => RIv K vs H1 R) : iRev K ta σ H R := h
theorem R_iv {xs : List V} (h1 : SqL K H a xs) (h : R (Itv K a xs.length) H) : RIv K [.ref a] H R := ⟨a, xs, rfl, h1, h⟩
theorem R_forV {xs : List V} (Pv : Nat → L2.St → Hp → Prop) (h0 : Pv 0 σ H) (hl : ∀ i σ H, i ≤ xs.length → Pv i σ H → SqL K H a xs)
    (hs : ∀ i x σ H, i < xs.length → xs[xs.length - 1 - i]? = some x → Pv i σ H → tb { D with nx := Pv (i + 1), ct := Pv (i + 1), bk := D.nx } (σ.set j (some x)) H) (hd : ∀ σ H, Pv xs.length σ H → D.nx σ H) : RFor (Itv K a xs.length) (gName j) tb D σ H := by
  refine ⟨fun i m σ H => m = xs.length - i ∧ i ≤ xs.length ∧ Pv i σ H, ⟨xs.length, by simp, Nat.zero_le _, h0⟩, ?_⟩
  rintro i m σ H ⟨rfl, hi, p⟩
  have q := hl i σ H hi p
  by_cases hlt : i < xs.length
  · refine .inr ⟨⟨hlt, xs, xs[xs.length - 1 - i], q, List.getElem?_eq_getElem (by omega)⟩, Pv (i + 1), fun σ' H' p' => ⟨xs.length - (i + 1), by omega, rfl, hlt, p'⟩, fun x H' y => ?_⟩
    obtain ⟨e, y⟩ := y
    subst e
    exact hs i x σ _ hlt (y xs q) p
  · have e : i = xs.length := by omega
    subst e
    exact .inl ⟨Nat.le_refl _, hd σ H p⟩
theorem R_lcMapV {xs ys : List V} (hq : SqL K H a xs) (hlen : ys.length = xs.length) (hz : xs.length ≤ 100000)
    (hs : ∀ (i : Nat) (x y : V) (H' : Hp), xs[xs.length - 1 - i]? = some x → ys[i]? = some y → Same H H' → ∀ Q' : VK, (∀ H4, Same H' H4 → Q' y H4) → te ((wipe σ [j]).set j (some x)) H' Q')
    (hd : ∀ D H', H D = none → Same H H' → H' D = some (.lst ys) → Q (.ref D) H') : RLc (Itv K a xs.length) (gName j) tYes te [j] σ H Q := by
  intro D hD
  refine ⟨fun i m H' => m = xs.length - i ∧ i ≤ xs.length ∧ Same H H' ∧ H' D = some (.lst (ys.take i)), ⟨xs.length, by simp, Nat.zero_le _, fun b u e => by rw [upd_ne (ne_of_none e hD)]; exact e, by rw [upd_same, List.take_zero]⟩, ?_⟩
  rintro i m H' ⟨rfl, hi, p1, p2⟩
  have q := p1.seq hq
  by_cases hlt : i < xs.length
  · refine .inr ⟨⟨hlt, xs, xs[xs.length - 1 - i], q, List.getElem?_eq_getElem (by omega)⟩, fun H2 => Same H H2 ∧ H2 D = some (.lst (ys.take (i + 1))), fun H2 p' => ⟨xs.length - (i + 1), by omega, rfl, hlt, p'⟩, fun x H2 y => ?_⟩
    obtain ⟨rfl, y⟩ := y
    refine ⟨wipe_set, ?_⟩
    refine E_yes ?_
    refine iteT ?_
    refine hs i x ys[i] H2 (y xs q) (List.getElem?_eq_getElem (by omega)) p1 _ (fun H4 s4 => ?_)
    refine ⟨ys.take i, s4 _ _ p2, ?_, ⟨fun b u e => ?_, ?_⟩⟩
    · rw [List.length_take]
      exact Nat.lt_of_le_of_lt (m := 100000) (by omega) (by decide)
    · rw [upd_ne (ne_of_none e hD)]
      exact s4 b u (p1 b u e)
    · rw [upd_same, List.take_add_one, List.getElem?_eq_getElem (show i < ys.length by omega)]
      rfl
  · have e : i = xs.length := by omega
    subst e
    exact .inl ⟨Nat.le_refl _, hd D H' hD p1 (by rw [p2, ← hlen, List.take_length])⟩
theorem R_pop {p : Addr} {xs : List V} {y : V} (h1 : H p = some (.lst xs)) (h2 : xs[xs.length - 1]? = some y) (h : Q y (upd H p (.lst xs.dropLast))) : rPop (.ref p) [] H Q := ⟨p, xs, y, rfl, rfl, h1, h2, h⟩
theorem R_notN {x : V} (h : Q (.bl (!decide (x = .non))) H) : (fun x y H Q => y = V.non ∧ Q (.bl (!decide (x = .non))) H : R2) x .non H Q := ⟨rfl, h⟩
end
end LF

set_option maxRecDepth 100000
set_option maxHeartbeats 4000000
/-! Rules of my own for refusals: calls that may raise, a caught exception that is kept in a name behind the try, isinstance of it. -/
namespace LF
open PySem PySem.Spec PyProof.Rows L2

/-! ### an exception that was caught and is kept -/
/-- at a stands an exception object of the class cls, without a dict of its own -/
def heldO (cls : Value) (a : Addr) : HO := .ext fun h => ∃ (ob : Obj) (fv : Array Value), h.get? a = some ob ∧ Zc cls none ob ∧ ob.data = .fields fv
section
variable {X : Cx} {pins : List (Addr × Obj)} {σ : L2.St} {H : Hp} {s : Shared}
theorem heldO_ok {P : Program} {w : World} {G : Hp} {h : Heap} {a : Addr} {cls : Value} {ob : Obj} {fv : Array Value} (e : h.get? a = some ob) (z : Zc cls none ob) (d : ob.data = .fields fv) : ObjOk P w G h a (heldO cls a) :=
  ⟨⟨ob, fv, e, z, d⟩, ⟨ob, e⟩, fun _ _ ⟨o1, f1, e1, r1⟩ k => ⟨o1, f1, k o1 e1, r1⟩⟩
/-- a pinned object, new since the entry, is let go into the told heap -/
theorem inv_hold {a : Addr} {cls : Value} {ob : Obj} {fv : Array Value} (I : Inv X ((a, ob) :: pins) σ H s) (new : X.s_0.heap.get? a = none) (alone : ∀ p ∈ X.pn ++ pins, p.1 ≠ a) (z : Zc cls none ob) (d : ob.data = .fields fv) :
    Inv X pins σ (L2.upd H a (heldO cls a)) s := by
  obtain ⟨here, na, nl, nf, nc⟩ := I.pin (a, ob) (List.mem_append_right _ List.mem_cons_self)
  have here : s.heap.get? a = some ob := here
  have na : H a = none := na
  have old : ∀ b o, X.s_0.heap.get? b = some o → b ≠ a := fun b o e q => by rw [q, new] at e; cases e
  have tell : ∀ b u, H b = some u → L2.upd H a (heldO cls a) b = some u := fun b u e => by rw [upd_ne (ne_of_none e na)]; exact e
  have B := I.base
  constructor
  · exact I.ok
  · exact I.os
  · exact I.bare
  · exact { keep := B.keep, slot := B.slot, there := B.there
            free := fun b o e n hx => by rw [upd_ne (old b o e)]; exact B.free b o e n hx
            tups := fun b xs e => tell b _ (B.tups b xs e)
            frzs := fun b o u e => tell b _ (B.frzs b o u e)
            tbls := fun b ps e => by obtain ⟨m, q⟩ := B.tbls b ps e; exact ⟨m, tell b _ q⟩ }
  · exact I.loc
  · exact I.cell
  · rw [upd_ne (Ne.symm nl)]
    exact I.free
  · intro x c e
    have ne : c ≠ a := fun q => by
      obtain ⟨val, ob2, there, isc⟩ := I.cell x c e
      have same : ob2 = ob := Option.some.inj (there.symm.trans (q ▸ here))
      exact nc val (same ▸ isc)
    rw [upd_ne ne]
    exact I.freeC x c e
  · intro p hp
    have hp' : p ∈ X.pn ++ (a, ob) :: pins := List.mem_append.mpr ((List.mem_append.mp hp).imp_right (List.mem_cons_of_mem _))
    obtain ⟨p1, p2, p3⟩ := I.pin p hp'
    exact ⟨p1, by rw [upd_ne (alone p hp)]; exact p2, p3⟩
  · exact I.hok.laidN (fun _ _ e => e) na (heldO_ok here z d)
  · exact I.len
/-- the end of a try's body is an end of the def's -/
theorem sp_untry {D : Ends} {f : Flow} {xe : Value → Shared → Prop} (ok : X.Ok) (h : SP (X.tr (X.pn ++ pins) xe) [] D f s) : SP X pins D f s := by
  cases f with
  | next => obtain ⟨a, b, c, d⟩ := h; exact ⟨a, b, c.ofTry ok, d⟩
  | brk => obtain ⟨a, b, c, d⟩ := h; exact ⟨a, b, c.ofTry ok, d⟩
  | cont => obtain ⟨a, b, c, d⟩ := h; exact ⟨a, b, c.ofTry ok, d⟩
  | ret u => obtain ⟨v, a, b, c, d⟩ := h; exact ⟨v, a, b, c.ofTry ok, d⟩
/-- a suite's state, the held exception pinned beside -/
theorem inv_unsuite {a : Addr} {q : Addr × Obj} (I : Inv (X.suite a (q :: (X.pn ++ pins))) [] σ H s) (ok : X.Ok) : Inv X (q :: pins) σ H s := by
  have pin : ∀ p ∈ X.pn ++ q :: pins, p ∈ (X.suite a (q :: (X.pn ++ pins))).pn ++ [] := fun p hp => by
    show p ∈ (q :: (X.pn ++ pins)) ++ []
    rw [List.append_nil]
    simp only [List.mem_append, List.mem_cons] at hp ⊢
    rcases hp with in1 | is | in2
    · exact .inr (.inl in1)
    · exact .inl is
    · exact .inr (.inr in2)
  exact ⟨ok, I.os, I.bare, I.base, I.loc, I.cell, I.free, I.freeC, fun p hp => I.pin p (pin p hp), I.hok, I.len⟩
end
/-- what such a clause wishes of an exception: it is the clause's; the suite runs through; behind it the exception is told, the clause's name is empty -/
def wHeld (K : PySem.W.Frag) (c : Value) (i : Nat) (ts : Addr → Value → Option Addr → TS) (D : Ends) : WX := fun cls d σ H => d = none ∧ PySem.W.exmOne K cls c = some true ∧
  ∀ a, H a = none → ts a cls d { nx := fun σ1 H1 => D.nx (σ1.set i none) (L2.upd H1 a (heldO cls a)), rt := fun _ _ => False } (σ.set i (some (.ref a))) H
section
variable {X : Cx} {x n : Str} {c : Value} {i : Nat} {body suite : List Stmt} {st : Stmt} {np pos pos2 : Pos} {tb : WX → TS} {ts : Addr → Value → Option Addr → TS}
/-- try: body, except x as n: suite; every exception of the body is the clause's, and stays known -/
theorem ps_try_held (hst : X.stack = X.env :: X.outer) (hfm : X.env.frame = some X.env.locals) (hex : X.ex = []) (hN : X.N.Nodup) (hi : X.N[i]? = some n) (hk : X.env.kindOf n = some .local) (hc : Names X x c)
    (hb : ∀ (W : WX) (ps : List (Addr × Obj)) (xe : Value → Shared → Prop), Takes (X.tr ps xe) W → PassesOwn (model X.prog X.w) X.A X.env xe → PSs (X.tr ps xe) body (tb W))
    (hs : ∀ (a : Addr) (oe : Obj) (cls : Value) (d : Option Addr) (pn : List (Addr × Obj)), Zc cls d oe → (∃ vs, oe.data = .fields vs) → PSs (X.suite a ((a, oe) :: pn)) (st :: suite) (ts a cls d)) :
    PS X (.Try body [.ExceptHandler (some (.Name x np)) (some n) (st :: suite) pos2] [] [] pos) (fun D σ H => tb (wHeld X.K c i ts D) D σ H) := by
  constructor
  intro pins s σ H D I h
  have ok := I.ok
  have frm : X.A.frames = some (X.env :: X.outer) := ok.frames.trans (congrArg some hst)
  refine wpAny_Try_except ?_
  refine wpAny_mono ((hb (wHeld X.K c i ts D) (X.pn ++ pins) _ (fun u s1 air => ?_) PassesOwn.looking).run [] s σ H D (I.toTry _) h) ?_ (fun _ _ q => q)
  · obtain ⟨a, B, sI, pins1, σ1, H1, cls, d, rfl, J1, nb, up, sky, na, os, ag, rfl, hm, ht⟩ := air
    have J : Inv X pins σ1 H1 sI := J1.ofTry ok
    have sky1 : Sky B (X.env :: X.outer) a (Zc cls none) X.env.locals s1.heap := hst ▸ sky
    refine Sky.land Zc.steady frm hfm sky1 fun h2 fl2 up2 => ?_
    have J2 : Inv X pins σ1 H1 { s1 with heap := h2 } := J.landed nb fl2.1 (up.trans up2) os ag
    obtain ⟨o2, v2, e2, z2, d2⟩ := fl2.there
    have nfr : a ∉ frs (X.env :: X.outer) := fun hm2 => by
      obtain ⟨_, o3, e3, n3⟩ := fl2.2.2.1.mem hm2
      have e4 : o2 = o3 := Option.some.inj (e2.symm.trans e3)
      exact n3 v2 (e4 ▸ d2)
    have na0 : sI.heap.get? a = none := by
      cases q : sI.heap.get? a with
      | none => rfl
      | some o =>
        have q2 := nb a o q (by rw [show (X.tr (X.pn ++ pins) _).stack = X.env :: X.outer from hst]; exact nfr)
        rw [fl2.2.1] at q2
        cases q2
    have new : X.s_0.heap.get? a = none := by
      cases q : X.s_0.heap.get? a with
      | none => rfl
      | some o =>
        obtain ⟨o3, e3⟩ := J.base.there a o q (by rw [hex]; exact fun z => nomatch z)
        rw [na0] at e3
        cases e3
    have alone : ∀ p ∈ X.pn ++ pins, p.1 ≠ a := fun p hp q => by
      have e3 := (J.pin p hp).1
      rw [q, na0] at e3
      cases e3
    have nL : a ≠ X.env.locals := fun q => nfr (List.mem_filterMap.mpr ⟨X.env, List.mem_cons_self, hfm.trans (congrArg some q.symm)⟩)
    have nF : a ∉ X.fs := fun q => by
      obtain ⟨e, he, q2⟩ := List.mem_filterMap.mp q
      exact nfr (List.mem_filterMap.mpr ⟨e, List.mem_cons_of_mem _ he, q2⟩)
    have S2 := J2.suite e2 d2 na nL nF
    refine wpAny_handleBy_cons (codeAny_handlers_test ?_) fun none_ => nomatch none_
    have lt : PySem.W.Looks (model X.prog X.w) h2 (typeOf (.ref a)) cls := fun A Q E s3 k q => by
      refine wpAny_typeOf_ref (k _ _ e2) ?_
      rw [z2.1]
      exact q
    have lm := PySem.W.exm_one (M := model X.prog X.w) J2.kIn lt hm
    have named : ∀ {Q : Value → Shared → Prop} {E : Value → Shared → Prop}, Q c { s1 with heap := h2 } → wpAny (model X.prog X.w) (X.A.mark (some (.ref a))) (eval (.Name x np) X.env) Q E { s1 with heap := h2 } := fun {Q E} q => by
      rcases hc with ⟨hg, hd, e | ⟨e, b, nn⟩⟩
      · exact ld_glob (X := X.suite a ((a, o2) :: (X.pn ++ pins))) S2 hg e q hd
      · exact ld_blt (X := X.suite a ((a, o2) :: (X.pn ++ pins))) S2 hg e b q nn hd
    refine named (lm.here (codeAny_handlers_suite_as ?_))
    refine HandSPX.lands_againZ fl2 fun h3 fl3 up3 => ?_
    have J3 : Inv X pins σ1 H1 { s1 with heap := h3 } := J.landed nb fl3.1 ((up.trans up2).trans up3) os ag
    obtain ⟨o3, v3, e3, z3, d3⟩ := fl3.there
    have S3 := J3.suite e3 d3 na nL nF
    refine store_ok (X := X.suite a ((a, o3) :: (X.pn ++ pins))) (v := .ref a) S3 hN hi (.inl hk) rfl (fun s4 S4 => ?_) (.inr hk)
    refine wpAny_mono ((hs a o3 cls none (X.pn ++ pins) z3 ⟨_, d3⟩).run [] s4 _ H1 _ S4 (ht a na)) (fun f s5 e => ?_) (fun _ _ q => q.elim)
    cases f with
    | next =>
      obtain ⟨σ5, H5, S5, q5⟩ := e
      exact gone_ok (inv_unsuite S5 ok) hN hi hk fun s6 J6 => ⟨_, _, inv_hold J6 new alone z3 d3, q5⟩
    | brk => obtain ⟨_, _, _, q5⟩ := e; exact q5.elim
    | cont => obtain ⟨_, _, _, q5⟩ := e; exact q5.elim
    | ret u => obtain ⟨_, _, _, _, _, q5⟩ := e; exact q5.elim
  · intro f s1 e
    have e := sp_untry ok e
    cases f with
    | next =>
      obtain ⟨σ1, H1, J1, q⟩ := e
      exact wpAny_execs_nil ⟨σ1, H1, J1, q⟩
    | brk => exact e
    | cont => exact e
    | ret u => exact e
end

/-! ### isinstance of a kept exception -/
def rIsH (K : PySem.W.Frag) : List V → Hp → VK → Prop := fun xs H Q => ∃ (a C : Addr) (c : V) (u : Value) (b : Bool), xs = [.ref a, c] ∧ H a = some (heldO (.ref C) a) ∧ ExcC K C ∧ ClsV c u ∧ PySem.W.kitOne K (.ref C) u = some b ∧ Q (.bl b) H
theorem call_isH {X : Cx} : CallR X (.builtin "isinstance") (rIsH X.K) := by
  intro pins s σ H args vals Q I rel h
  obtain ⟨a, C, c, u, b, rfl, ha, ec, k, e, q⟩ := h
  obtain ⟨w1, w2, rfl, rel1, rel2⟩ := vals2 rel
  obtain rfl : w2 = u := k.eq rel2
  obtain rfl : w1 = .ref a := rel1
  obtain ⟨⟨⟨oc, od, dt, sl⟩, fv, e1, ⟨z1, z2⟩, d1⟩, _, _⟩ := I.hok a _ ha
  dsimp only at z1 z2 d1
  subst z1 z2 d1
  have J : PySem.W.InstAt s.heap a ⟨.ref C, none, .fields fv, sl⟩ C none := ⟨e1, rfl, rfl, trivial⟩
  exact PySem.W.kia_one (PySem.W.handS_kitx_exc ec.hg ec.hk ec.hs ec.hd ec.ha ec.hn ec.ht ec.hm) I.kIn J e (fun z => nomatch z) fun tk => ⟨.bl b, H, I.tok tk, rfl, q⟩
def rIsU (K : PySem.W.Frag) : List V → Hp → VK → Prop := fun xs H Q => rIsi K xs H Q ∨ rIsH K xs H Q
theorem call_isU {X : Cx} {K : PySem.W.Frag} (hK : X.K = K) : CallR X (.builtin "isinstance") (rIsU K) := by
  subst hK
  exact fun pins s σ H args vals Q I rel h => h.elim (call_isi pins s σ H args vals Q I rel) (call_isH pins s σ H args vals Q I rel)

/-! ### xs.count(y), flat items -/
def rCntF (K : PySem.W.Frag) : V → List V → Hp → VK → Prop := fun x xs H Q => ∃ (p : Addr) (ys : List V) (y : V), x = .ref p ∧ xs = [y] ∧ SqL K H p ys ∧ flatV y = true ∧ ys.all flatV = true ∧ Q (.int (ys.countP fun z => eqV z y : Nat)) H
theorem count_flat {y : V} : ∀ {ys : List V} {us : List Value}, Vals ys us → ys.all flatV = true → us.countP (eqU y) = ys.countP fun z => eqV z y
  | _, _, .nil, _ => rfl
  | z :: ys, u :: us, .cons r t, f => by
    have f1 : flatV z = true := List.all_eq_true.mp f z List.mem_cons_self
    have f2 : ys.all flatV = true := List.all_eq_true.mpr fun p hp => List.all_eq_true.mp f p (List.mem_cons_of_mem _ hp)
    rw [List.countP_cons, List.countP_cons, count_flat t f2, eqU_of r f1]
theorem mt_cntF {X : Cx} {K : PySem.W.Frag} (hK : X.K = K) : MtR X "list.count" (rCntF K) := by
  subst hK
  intro pins s σ H own args v vals Q I ro ra h
  obtain ⟨p, ys, y, rfl, rfl, at_, fy, fys, q⟩ := h
  obtain rfl : v = .ref p := ro
  obtain ⟨u, rfl, ru⟩ := ra.one
  obtain ⟨its, rv, ⟨ob, m, here, cl, _, dat⟩, _⟩ := I.list at_
  obtain ⟨oc, od, dt, sl⟩ := ob
  obtain rfl : oc = .type "list" := cl
  obtain rfl : dt = .seq its.toArray m := dat
  have each : ∀ w, w ∈ its.toArray → SeqAt.EqAt X.A.in1 s w u (eqU y w) := fun w hw => mem_eqAt ru fy rv fys w (by simpa using hw)
  have all : its.toArray.toList.countP (eqU y) = ys.countP fun z => eqV z y := count_flat (y := y) rv fys
  refine call_meets PySem.F.slot_list_count ⟨_, here, rfl⟩ PySem.F.entry_list_count (PySem.F.args_list_count_2 _ _) (SeqAt.list_countAt p its.toArray m od sl u (eqU y)) ⟨here, each, ?_⟩
  refine ⟨.int (ys.countP fun z => eqV z y : Nat), H, I.tok _, ⟨s.toks, ?_⟩, q⟩
  rw [← all]

/-! ### calls that may raise -/
section
variable {X : Cx} {CX : CXT} {k : Nat} {f C : Addr} {fd : FuncData} {ps : List Str} {sp : Sp} {E : L2.St → XK} {x m : Str} {p pos apos : Pos} {e o : Expr} {es : List Expr} {ta : TE} {t : TA}
def tMethW (C : Addr) (m : Str) (sp : Sp) (E : L2.St → XK) (ta : TE) (t : TA) : TE := fun σ H Q => ta σ H fun x H1 => RMeth C m x H1 (t σ H1 fun vs H2 => sp (x :: vs) H2 Q (E σ))
/-- o.m(e, ..), m may raise -/
theorem pe_methW {pl : Sem Bool} (ho : PE X o ta) (cl : Cls X.K C) (hm : Meth X.K C m f) (F : FnOk X.prog X.w X.K X.mg X.base CX k f fd ps sp) (hr : Room k X.A) (hb : Binds X.K fd ps []) (hx : ∀ σ, PassesAt CX X σ (E σ)) (ha : PA X (e :: es) t)
    (h1 : starEach (e :: es) X.env = (false, eval e X.env) :: starEach es X.env := by rfl) (h2 : (backTo pos (starEach es X.env)).any (·.1) = false := by rfl)
    (h3 : eval (.Call (.Attribute o m apos) (e :: es) [] pos) X.env = (do
      let it ← eval o X.env
      standAt apos.atName
      let (g, first) ← holding [it] (getMethod it m pl)
      callWith pos g first (backTo pos (starEach (e :: es) X.env)) (backToKw pos (keywordEach [] X.env))) := by rfl) :
    PE X (.Call (.Attribute o m apos) (e :: es) [] pos) (tMethW C m sp E ta t) := by
  constructor
  intro pins s σ H Q I h
  refine PySem.W.methodCall_KW (pl := pl) (thn (ho.run pins s σ H _ I h) fun u s1 z => ?_) h3
  obtain ⟨y, H1, I1, ry, a, dx, fs, rfl, at_, no, q⟩ := z
  obtain rfl : u = .ref a := ry
  refine getmeth_ok I1 at_ cl hm no ?_
  refine PySem.W.callWith_K (first := [.ref a]) (h₀ := X.base) I.ok.mod.kin hm.kp (thn (ha.run pos pins s1 σ H1 _ I1 q) fun us s2 z => ?_) h1 h2
  obtain ⟨vs, H2, I2, rv, q2⟩ := z
  exact ⟨I2.kIn, run_fnS (us := .ref a :: us) (vs := .ref a :: vs) F hr hb (hx σ) I2 (.cons rfl rv) q2⟩
def tMakeW (C : Addr) (sp : Sp) (E : L2.St → XK) (t : TA) : TE := fun σ H Q => t σ H fun vs H1 => ∀ x dx, H1 x = none → H1 dx = none → dx ≠ x →
  sp (.ref x :: vs) (L2.upd (L2.upd H1 dx (.own x)) x (.ins C dx [])) (fun v H2 => v = .non ∧ Q (.ref x) H2) (E σ)
/-- C(e, ..), its __init__ may raise -/
theorem pe_makeW (M : Mk X.K C f) (F : FnOk X.prog X.w X.K X.mg X.base CX k f fd ps sp) (hr : Room (k + 1) X.A) (hg : Gl X x) (hm : X.mg x = some (.ref C)) (hb : Binds X.K fd ps []) (hx : ∀ σ, PassesAt CX X σ (E σ)) (ha : PA X (e :: es) t)
    (hd : (x == ("__debug__" : Str)) = false := by decide) (h1 : starEach (e :: es) X.env = (false, eval e X.env) :: starEach es X.env := by rfl) (h2 : (backTo pos (starEach es X.env)).any (·.1) = false := by rfl) :
    PE X (.Call (.Name x p) (e :: es) [] pos) (tMakeW C sp E t) := by
  constructor
  intro pins s σ H Q I h
  refine wpAny_Call_Name_kw (ld_glob I hg hm (PySem.W.callWith_K (h₀ := X.base) I.ok.mod.kin M.kp (thn (ha.run pos pins s σ H _ I h) fun us s1 z => ?_) h1 h2) hd)
  obtain ⟨vs, H1, I1, rv, q⟩ := z
  refine ⟨I1.kIn, ?_⟩
  have hx1 : H1 (s1.heap.objs.size + 1) = none := I1.hok.fresh (Nat.le_succ _)
  have hx2 : H1 s1.heap.objs.size = none := I1.hok.fresh (Nat.le_refl _)
  have q2 := q _ _ hx1 hx2 (Nat.ne_of_lt (Nat.lt_succ_self _))
  have I2 := Inv.made (C := C) I1
  have rv2 : Vals (V.ref (s1.heap.objs.size + 1) :: vs) (Value.ref (s1.heap.objs.size + 1) :: us) := .cons rfl rv
  have hl : (Value.ref (s1.heap.objs.size + 1) :: us).length = ps.length := rv2.length.symm.trans (F.len _ _ _ _ q2)
  have bd := hb _ (Value.ref (s1.heap.objs.size + 1) :: us) I2.kIn (by rw [List.append_nil]; exact hl)
  rw [List.append_nil] at bd
  refine wpAny_call (make_map (f := f) I1.kIn M.makes M.init (beq_iff_eq.mp M.fn) (codeAny_mono (F.run _ X.stack _ _ ⟨Value.ref (s1.heap.objs.size + 1) :: us, []⟩ _ _ _ (E σ) (hr.make C us []) (I2.env0.make C us []) bd rv2 q2) fun r s' z => ?_))
  cases r with
  | error e => exact hx σ pins _ _ e s' I2 z
  | ok fl =>
    cases fl with
    | ret u =>
      obtain ⟨v, H3, I3, rw3, rfl, q3⟩ := I2.after z
      exact ⟨rw3, ⟨V.ref (s1.heap.objs.size + 1), H3, I3, rfl, q3⟩⟩
    | next => exact z.elim
    | brk => exact z.elim
    | cont => exact z.elim
end
theorem mt_indexK {X : Cx} {K : PySem.W.Frag} (hK : X.K = K) : MtR X "list.index" (rIndex K) := by subst hK; exact mt_index
/-! ### what the top says of the refusals' classes -/
/-- a refusal: an own exception of the class of that name -/
abbrev exC (K : PySem.W.Frag) (C : Str) : Value := .ref (He.ga K C)
def excN : List Str := ["BadWindow", "NoWord", "Late", "NoKey"]
def xtraE (K : PySem.W.Frag) : Bool := (excN.all fun C => PySem.W.excIn K (He.ga K C) He.veBase "ValueError.__new__" && (PySem.W.keepIn K (.ref (He.ga K C)) && (decide (PySem.W.subIn K (.ref (He.ga K C)) (.type "BaseException") = some true) && (decide (PySem.W.typeIn K (.ref (He.ga K C)) = some (.type "type")) &&
    (He.eqO (PySem.W.findIn K (.ref (He.ga K C)) "__getattribute__") (some (some (.builtin "BaseException.__getattribute__"))) && (He.eqO (PySem.W.findIn K (.ref (He.ga K C)) "__getattr__") (some none) && (PySem.W.hasDictIn K (He.ga K C) && (He.eqO (PySem.W.findIn K (.ref (He.ga K C)) "__class__") (some (some (.builtin "object.__class__"))) &&
    (decide (PySem.W.mroIn K (He.ga K C) (.type "object") = some true) && (decide (PySem.W.exmOne K (.ref (He.ga K C)) (.ref (He.ga K "FewError")) = some true) && (decide (PySem.W.kitOne K (.ref (He.ga K C)) (.type "ValueError") = some true) && (decide (PySem.W.kitOne K (.type "NoneType") (.ref (He.ga K C)) = some false) &&
    excN.all fun D => decide (PySem.W.kitOne K (.ref (He.ga K C)) (.ref (He.ga K D)) = some (decide (C = D)))))))))))))))  &&
  (He.eqO (PySem.W.specialIn K (.builtin "object.__class__") "__get__") (some (some (.builtin "getset_descriptor.__get__"))) && decide (PySem.W.takesIn K (.builtin "object.__class__") = some true))
structure ExAt (K : PySem.W.Frag) (mg : Str → Option Value) (C : Str) : Prop where
  g : mg C = some (.ref (He.ga K C))
  e : PySem.W.excIn K (He.ga K C) He.veBase "ValueError.__new__" = true
  k : PySem.W.keepIn K (.ref (He.ga K C)) = true
  s : PySem.W.subIn K (.ref (He.ga K C)) (.type "BaseException") = some true
  t : PySem.W.typeIn K (.ref (He.ga K C)) = some (.type "type")
  c : ExcC K (He.ga K C)
  few : PySem.W.exmOne K (.ref (He.ga K C)) (.ref (He.ga K "FewError")) = some true
  ve : PySem.W.kitOne K (.ref (He.ga K C)) (.type "ValueError") = some true
  non : PySem.W.kitOne K (.type "NoneType") (.ref (He.ga K C)) = some false
  two : ∀ D ∈ excN, PySem.W.kitOne K (.ref (He.ga K C)) (.ref (He.ga K D)) = some (decide (C = D))
theorem ExAt.of {K : PySem.W.Frag} {mg : Str → Option Value} {C : Str} (x : xtraE K = true) (hC : C ∈ excN) (g : mg C = some (.ref (He.ga K C))) : ExAt K mg C := by
  obtain ⟨x1, x2⟩ := He.ba x
  obtain ⟨y1, y2⟩ := He.ba x2
  obtain ⟨a1, b1⟩ := He.ba (List.all_eq_true.mp x1 C hC)
  obtain ⟨a2, b2⟩ := He.ba b1
  obtain ⟨a3, b3⟩ := He.ba b2
  obtain ⟨a4, b4⟩ := He.ba b3
  obtain ⟨a5, b5⟩ := He.ba b4
  obtain ⟨a6, b6⟩ := He.ba b5
  obtain ⟨a7, b7⟩ := He.ba b6
  obtain ⟨a8, b8⟩ := He.ba b7
  obtain ⟨a9, b9⟩ := He.ba b8
  obtain ⟨a10, b10⟩ := He.ba b9
  obtain ⟨a11, b11⟩ := He.ba b10
  obtain ⟨a12, b12⟩ := He.ba b11
  exact ⟨g, a1, a2, of_decide_eq_true a3, of_decide_eq_true a4, ⟨He.eqO_ok a5, He.eqO_ok a6, of_decide_eq_true a3, a7, He.eqO_ok a8, He.eqO_ok y1, of_decide_eq_true y2, of_decide_eq_true a9⟩, of_decide_eq_true a10, of_decide_eq_true a11, of_decide_eq_true a12, fun D hD => of_decide_eq_true (List.all_eq_true.mp b12 D hD)⟩
/-! ### steps -/
section
variable {K : PySem.W.Frag} {σ : L2.St} {H : Hp} {Q : VK} {D : Ends} {ta te : TE} {tr : TA} {sp : Sp} {E : L2.St → XK} {m : Str} {p C : Addr}
theorem E_callS (h : tr σ H fun vs H1 => sp vs H1 Q (E σ)) : tCallS sp E tr σ H Q := h
theorem E_methW (h : ta σ H fun x H1 => RMeth C m x H1 (tr σ H1 fun vs H2 => sp (x :: vs) H2 Q (E σ))) : tMethW C m sp E ta tr σ H Q := h
theorem E_makeW (h : tr σ H fun vs H1 => ∀ x dx, H1 x = none → H1 dx = none → dx ≠ x → sp (.ref x :: vs) (L2.upd (L2.upd H1 dx (.own x)) x (.ins C dx [])) (fun v H2 => v = .non ∧ Q (.ref x) H2) (E σ)) : tMakeW C sp E tr σ H Q := h
theorem R_cntF {ys : List V} {y : V} {n : Nat} (h1 : SqL K H p ys) (h2 : flatV y = true) (h3 : ys.all flatV = true) (h4 : (ys.countP fun z => eqV z y) = n) (h : Q (.int (n : Nat)) H) : rCntF K (.ref p) [y] H Q := ⟨p, ys, y, rfl, rfl, h1, h2, h3, by rw [h4]; exact h⟩
end
end LF

set_option maxRecDepth 100000
set_option maxHeartbeats 4000000
namespace LF
open PySem PySem.Spec PyProof.Rows L2
/-! ### the text by places -/
def top (i : Nat) : Stmt := PySem.Challenge.pw_lastfew_k02_refused.main.body.getD i (.Pass ⟨0, 0, 0, 0⟩)
abbrev s_placed : Stmt := top 9
abbrev s_Tally_init : Stmt := inClass (top 10) 0
abbrev s_Tally_add : Stmt := inClass (top 10) 1
abbrev s_Tally_drop : Stmt := inClass (top 10) 2
abbrev s_Tally_word : Stmt := inClass (top 10) 3
abbrev s_Tally_one : Stmt := inClass (top 10) 4
abbrev s_Tally_rising : Stmt := inClass (top 10) 5
abbrev s_Tally_mark : Stmt := inClass (top 10) 6
abbrev s_look_size : Stmt := top 14
abbrev s_Window_init : Stmt := inClass (top 15) 0
abbrev s_Window_put : Stmt := inClass (top 15) 1
abbrev s_Window_things : Stmt := inClass (top 15) 2
abbrev s_Window_word : Stmt := inClass (top 15) 3
abbrev s_Timed_init : Stmt := inClass (top 16) 0
abbrev s_Timed_time : Stmt := inClass (top 16) 1
abbrev s_Timed_go_on : Stmt := inClass (top 16) 2
abbrev s_Timed_put : Stmt := inClass (top 16) 3
abbrev s_Timed_things : Stmt := inClass (top 16) 4
abbrev s_Timed_word : Stmt := inClass (top 16) 5
abbrev s_behind : Stmt := top 17
abbrev s_Maps_init : Stmt := inClass (top 18) 0
abbrev s_Maps_put : Stmt := inClass (top 18) 1
abbrev s_Maps_turn : Stmt := inClass (top 18) 2
abbrev s_Maps_whole : Stmt := inClass (top 18) 3
abbrev s_Maps_maps : Stmt := inClass (top 18) 4
abbrev s_Maps_at : Stmt := inClass (top 18) 5
abbrev s_Groups_init : Stmt := inClass (top 20) 0
abbrev s_Groups_put : Stmt := inClass (top 20) 1
abbrev s_Groups_used : Stmt := inClass (top 20) 2
abbrev s_Groups_need : Stmt := inClass (top 20) 3
abbrev s_Groups_things : Stmt := inClass (top 20) 4
abbrev s_Groups_word : Stmt := inClass (top 20) 5
abbrev s_l_cell : Stmt := top 22
abbrev s_l_mix : Stmt := top 23
abbrev s_l_names : Stmt := top 24
abbrev s_l_word : Stmt := top 25
abbrev s_l_rising : Stmt := top 26
abbrev s_l_is : Stmt := top 27
abbrev s_l_all : Stmt := top 28
abbrev s_l_refusal : Stmt := top 29
abbrev s_l_made : Stmt := top 30
abbrev s_l_asked : Stmt := top 31
abbrev s_law : Stmt := top 32
theorem sc_placed : FnScope ["ranks", "thing", "low", "high", "middle"] ["ranks", "thing"] (defScope s_placed) := ⟨rfl, rfl, rfl, by decide +kernel, rfl, by decide +kernel, by decide +kernel⟩
theorem sc_Tally_init : FnScope ["self"] ["self"] (defScope s_Tally_init) := ⟨rfl, rfl, rfl, by decide +kernel, rfl, by decide +kernel, by decide +kernel⟩
theorem sc_Tally_add : FnScope ["self", "thing", "place"] ["self", "thing"] (defScope s_Tally_add) := ⟨rfl, rfl, rfl, by decide +kernel, rfl, by decide +kernel, by decide +kernel⟩
theorem sc_Tally_drop : FnScope ["self", "thing", "place"] ["self"] (defScope s_Tally_drop) := ⟨rfl, rfl, rfl, by decide +kernel, rfl, by decide +kernel, by decide +kernel⟩
theorem sc_Tally_word : FnScope ["self", "name"] ["self", "name"] (defScope s_Tally_word) := ⟨rfl, rfl, rfl, by decide +kernel, rfl, by decide +kernel, by decide +kernel⟩
theorem sc_Tally_one : FnScope ["self", "name", "thing"] ["self", "name"] (defScope s_Tally_one) := ⟨rfl, rfl, rfl, by decide +kernel, rfl, by decide +kernel, by decide +kernel⟩
theorem sc_Tally_rising : FnScope ["self", "best", "run", "k"] ["self"] (defScope s_Tally_rising) := ⟨rfl, rfl, rfl, by decide +kernel, rfl, by decide +kernel, by decide +kernel⟩
theorem sc_Tally_mark : FnScope ["self", "found", "thing"] ["self"] (defScope s_Tally_mark) := ⟨rfl, rfl, rfl, by decide +kernel, rfl, by decide +kernel, by decide +kernel⟩
theorem sc_look_size : FnScope ["size"] ["size"] (defScope s_look_size) := ⟨rfl, rfl, rfl, by decide +kernel, rfl, by decide +kernel, by decide +kernel⟩
theorem sc_Window_init : FnScope ["self", "size"] ["self", "size"] (defScope s_Window_init) := ⟨rfl, rfl, rfl, by decide +kernel, rfl, by decide +kernel, by decide +kernel⟩
theorem sc_Window_put : FnScope ["self", "thing", "gone"] ["self", "thing"] (defScope s_Window_put) := ⟨rfl, rfl, rfl, by decide +kernel, rfl, by decide +kernel, by decide +kernel⟩
theorem sc_Window_things : FnScope ["self"] ["self"] (defScope s_Window_things) := ⟨rfl, rfl, rfl, by decide +kernel, rfl, by decide +kernel, by decide +kernel⟩
theorem sc_Window_word : FnScope ["self", "name"] ["self", "name"] (defScope s_Window_word) := ⟨rfl, rfl, rfl, by decide +kernel, rfl, by decide +kernel, by decide +kernel⟩
theorem sc_Timed_init : FnScope ["self", "span"] ["self", "span"] (defScope s_Timed_init) := ⟨rfl, rfl, rfl, by decide +kernel, rfl, by decide +kernel, by decide +kernel⟩
theorem sc_Timed_time : FnScope ["self"] ["self"] (defScope s_Timed_time) := ⟨rfl, rfl, rfl, by decide +kernel, rfl, by decide +kernel, by decide +kernel⟩
theorem sc_Timed_go_on : FnScope ["self", "time", "gone"] ["self", "time"] (defScope s_Timed_go_on) := ⟨rfl, rfl, rfl, by decide +kernel, rfl, by decide +kernel, by decide +kernel⟩
theorem sc_Timed_put : FnScope ["self", "time", "thing", "gone"] ["self", "time", "thing"] (defScope s_Timed_put) := ⟨rfl, rfl, rfl, by decide +kernel, rfl, by decide +kernel, by decide +kernel⟩
theorem sc_Timed_things : FnScope ["self"] ["self"] (defScope s_Timed_things) := ⟨rfl, rfl, rfl, by decide +kernel, rfl, by decide +kernel, by decide +kernel⟩
theorem sc_Timed_word : FnScope ["self", "name"] ["self", "name"] (defScope s_Timed_word) := ⟨rfl, rfl, rfl, by decide +kernel, rfl, by decide +kernel, by decide +kernel⟩
theorem sc_behind : FnScope ["one", "other"] ["one", "other"] (defScope s_behind) := ⟨rfl, rfl, rfl, by decide +kernel, rfl, by decide +kernel, by decide +kernel⟩
theorem sc_Maps_init : FnScope ["self", "size"] ["self", "size"] (defScope s_Maps_init) := ⟨rfl, rfl, rfl, by decide +kernel, rfl, by decide +kernel, by decide +kernel⟩
theorem sc_Maps_put : FnScope ["self", "times", "more", "one"] ["self", "times", "more"] (defScope s_Maps_put) := ⟨rfl, rfl, rfl, by decide +kernel, rfl, by decide +kernel, by decide +kernel⟩
theorem sc_Maps_turn : FnScope ["self", "found", "one"] ["self"] (defScope s_Maps_turn) := ⟨rfl, rfl, rfl, by decide +kernel, rfl, by decide +kernel, by decide +kernel⟩
theorem sc_Maps_whole : FnScope ["self"] ["self"] (defScope s_Maps_whole) := ⟨rfl, rfl, rfl, by decide +kernel, rfl, by decide +kernel, by decide +kernel⟩
theorem sc_Maps_maps : FnScope ["self", "pair"] ["self"] (defScope s_Maps_maps) := ⟨rfl, rfl, rfl, by decide +kernel, rfl, by decide +kernel, by decide +kernel⟩
theorem sc_Maps_at : FnScope ["self", "number", "one"] ["self", "number"] (defScope s_Maps_at) := ⟨rfl, rfl, rfl, by decide +kernel, rfl, by decide +kernel, by decide +kernel⟩
theorem sc_Groups_init : FnScope ["self", "size", "most"] ["self", "size", "most"] (defScope s_Groups_init) := ⟨rfl, rfl, rfl, by decide +kernel, rfl, by decide +kernel, by decide +kernel⟩
theorem sc_Groups_put : FnScope ["self", "key", "thing", "gone"] ["self", "key", "thing"] (defScope s_Groups_put) := ⟨rfl, rfl, rfl, by decide +kernel, rfl, by decide +kernel, by decide +kernel⟩
theorem sc_Groups_used : FnScope ["self"] ["self"] (defScope s_Groups_used) := ⟨rfl, rfl, rfl, by decide +kernel, rfl, by decide +kernel, by decide +kernel⟩
theorem sc_Groups_need : FnScope ["self", "key"] ["self", "key"] (defScope s_Groups_need) := ⟨rfl, rfl, rfl, by decide +kernel, rfl, by decide +kernel, by decide +kernel⟩
theorem sc_Groups_things : FnScope ["self", "key"] ["self", "key"] (defScope s_Groups_things) := ⟨rfl, rfl, rfl, by decide +kernel, rfl, by decide +kernel, by decide +kernel⟩
theorem sc_Groups_word : FnScope ["self", "key", "name"] ["self", "key", "name"] (defScope s_Groups_word) := ⟨rfl, rfl, rfl, by decide +kernel, rfl, by decide +kernel, by decide +kernel⟩
theorem sc_l_cell : FnScope ["_law_script", "_law_k"] ["_law_script", "_law_k"] (defScope s_l_cell) := ⟨rfl, rfl, rfl, by decide +kernel, rfl, by decide +kernel, by decide +kernel⟩
theorem sc_l_mix : FnScope ["_law_script", "_law_k", "_law_number"] ["_law_script", "_law_k"] (defScope s_l_mix) := ⟨rfl, rfl, rfl, by decide +kernel, rfl, by decide +kernel, by decide +kernel⟩
theorem sc_l_names : FnScope ["_law_found"] [] (defScope s_l_names) := ⟨rfl, rfl, rfl, by decide +kernel, rfl, by decide +kernel, by decide +kernel⟩
theorem sc_l_word : FnScope ["_law_row", "_law_name", "_law_other", "_law_k", "_law_found", "_law_thing"] ["_law_row", "_law_name"] (defScope s_l_word) := ⟨rfl, rfl, rfl, by decide +kernel, rfl, by decide +kernel, by decide +kernel⟩
theorem sc_l_rising : FnScope ["_law_row", "_law_best", "_law_k", "_law_end"] ["_law_row"] (defScope s_l_rising) := ⟨rfl, rfl, rfl, by decide +kernel, rfl, by decide +kernel, by decide +kernel⟩
theorem sc_l_is : FnScope ["_law_found", "_law_due"] ["_law_found", "_law_due"] (defScope s_l_is) := ⟨rfl, rfl, rfl, by decide +kernel, rfl, by decide +kernel, by decide +kernel⟩
theorem sc_l_all : FnScope ["_law_kept", "_law_row", "_law_name"] ["_law_kept", "_law_row"] (defScope s_l_all) := ⟨rfl, rfl, rfl, by decide +kernel, rfl, by decide +kernel, by decide +kernel⟩
theorem sc_l_refusal : FnScope ["_law_kept", "_law_kinds"] ["_law_kept"] (defScope s_l_refusal) := ⟨rfl, rfl, rfl, by decide +kernel, rfl, by decide +kernel, by decide +kernel⟩
theorem sc_l_made : FnScope ["_law_way", "_law_size", "_law_most", "_law_kept", "e"] ["_law_way", "_law_size", "_law_most"] (defScope s_l_made) := ⟨rfl, rfl, rfl, by decide +kernel, rfl, by decide +kernel, by decide +kernel⟩
theorem sc_l_asked : FnScope ["_law_way", "_law_timed", "_law_groups", "_law_number", "_law_name", "_law_kept", "e"] ["_law_way", "_law_timed", "_law_groups", "_law_number", "_law_name"] (defScope s_l_asked) := ⟨rfl, rfl, rfl, by decide +kernel, rfl, by decide +kernel, by decide +kernel⟩
theorem sc_law : FnScope ["_law_script", "_law_sizes", "_law_way", "_law_size", "_law_most", "_law_good", "_law_timed", "_law_groups", "_law_name", "_law_word_here", "_law_number", "_law_key", "_law_late", "_law_due", "_law_many"] ["_law_script"] (defScope s_law) := ⟨rfl, rfl, rfl, by decide +kernel, rfl, by decide +kernel, by decide +kernel⟩
abbrev xtra (K : PySem.W.Frag) : Bool := xtraE K
/-- what the top has written -/
structure Txt (K : PySem.W.Frag) (mg : Str → Option Value) (D : Str × Option Str → FuncData) : Prop where
  cTally : ClAt K mg "Tally"
  cWindow : ClAt K mg "Window"
  cTimed : ClAt K mg "Timed"
  cMaps : ClAt K mg "Maps"
  cGroups : ClAt K mg "Groups"
  placed : FnAt K mg D "placed" s_placed ["ranks", "thing"]
  Tally_init : MtAt K D "Tally" "__init__" "Tally.__init__" s_Tally_init ["self"]
  Tally_add : MtAt K D "Tally" "add" "Tally.add" s_Tally_add ["self", "thing"]
  Tally_drop : MtAt K D "Tally" "drop" "Tally.drop" s_Tally_drop ["self"]
  Tally_word : MtAt K D "Tally" "word" "Tally.word" s_Tally_word ["self", "name"]
  Tally_one : MtAt K D "Tally" "one" "Tally.one" s_Tally_one ["self", "name"]
  Tally_rising : MtAt K D "Tally" "rising" "Tally.rising" s_Tally_rising ["self"]
  Tally_mark : MtAt K D "Tally" "mark" "Tally.mark" s_Tally_mark ["self"]
  look_size : FnAt K mg D "look_size" s_look_size ["size"]
  Window_init : MtAt K D "Window" "__init__" "Window.__init__" s_Window_init ["self", "size"]
  Window_put : MtAt K D "Window" "put" "Window.put" s_Window_put ["self", "thing"]
  Window_things : MtAt K D "Window" "things" "Window.things" s_Window_things ["self"]
  Window_word : MtAt K D "Window" "word" "Window.word" s_Window_word ["self", "name"]
  Timed_init : MtAt K D "Timed" "__init__" "Timed.__init__" s_Timed_init ["self", "span"]
  Timed_time : MtAt K D "Timed" "time" "Timed.time" s_Timed_time ["self"]
  Timed_go_on : MtAt K D "Timed" "go_on" "Timed.go_on" s_Timed_go_on ["self", "time"]
  Timed_put : MtAt K D "Timed" "put" "Timed.put" s_Timed_put ["self", "time", "thing"]
  Timed_things : MtAt K D "Timed" "things" "Timed.things" s_Timed_things ["self"]
  Timed_word : MtAt K D "Timed" "word" "Timed.word" s_Timed_word ["self", "name"]
  behind : FnAt K mg D "behind" s_behind ["one", "other"]
  Maps_init : MtAt K D "Maps" "__init__" "Maps.__init__" s_Maps_init ["self", "size"]
  Maps_put : MtAt K D "Maps" "put" "Maps.put" s_Maps_put ["self", "times", "more"]
  Maps_turn : MtAt K D "Maps" "turn" "Maps.turn" s_Maps_turn ["self"]
  Maps_whole : MtAt K D "Maps" "whole" "Maps.whole" s_Maps_whole ["self"]
  Maps_maps : MtAt K D "Maps" "maps" "Maps.maps" s_Maps_maps ["self"]
  Maps_at : MtAt K D "Maps" "at" "Maps.at" s_Maps_at ["self", "number"]
  Groups_init : MtAt K D "Groups" "__init__" "Groups.__init__" s_Groups_init ["self", "size", "most"]
  Groups_put : MtAt K D "Groups" "put" "Groups.put" s_Groups_put ["self", "key", "thing"]
  Groups_used : MtAt K D "Groups" "used" "Groups.used" s_Groups_used ["self"]
  Groups_need : MtAt K D "Groups" "need" "Groups.need" s_Groups_need ["self", "key"]
  Groups_things : MtAt K D "Groups" "things" "Groups.things" s_Groups_things ["self", "key"]
  Groups_word : MtAt K D "Groups" "word" "Groups.word" s_Groups_word ["self", "key", "name"]
  l_cell : FnAt K mg D "_law_cell" s_l_cell ["_law_script", "_law_k"]
  l_mix : FnAt K mg D "_law_mix" s_l_mix ["_law_script", "_law_k"]
  l_names : FnAt K mg D "_law_names" s_l_names []
  l_word : FnAt K mg D "_law_word" s_l_word ["_law_row", "_law_name"]
  l_rising : FnAt K mg D "_law_rising" s_l_rising ["_law_row"]
  l_is : FnAt K mg D "_law_is" s_l_is ["_law_found", "_law_due"]
  l_all : FnAt K mg D "_law_all" s_l_all ["_law_kept", "_law_row"]
  l_refusal : FnAt K mg D "_law_refusal" s_l_refusal ["_law_kept"]
  l_made : FnAt K mg D "_law_made" s_l_made ["_law_way", "_law_size", "_law_most"]
  l_asked : FnAt K mg D "_law_asked" s_l_asked ["_law_way", "_law_timed", "_law_groups", "_law_number", "_law_name"]
  law : FnAt K mg D "law" s_law ["_law_script"]
  n_Tally_row : NoAttr K (He.ga K "Tally") "row"
  n_Tally_ranks : NoAttr K (He.ga K "Tally") "ranks"
  n_Tally_often : NoAttr K (He.ga K "Tally") "often"
  n_Tally_total : NoAttr K (He.ga K "Tally") "total"
  n_Tally_pairs : NoAttr K (He.ga K "Tally") "pairs"
  n_Window_size : NoAttr K (He.ga K "Window") "size"
  n_Window_tally : NoAttr K (He.ga K "Window") "tally"
  n_Timed_span : NoAttr K (He.ga K "Timed") "span"
  n_Timed_now : NoAttr K (He.ga K "Timed") "now"
  n_Timed_times : NoAttr K (He.ga K "Timed") "times"
  n_Timed_tally : NoAttr K (He.ga K "Timed") "tally"
  n_Maps_size : NoAttr K (He.ga K "Maps") "size"
  n_Maps_old : NoAttr K (He.ga K "Maps") "old"
  n_Maps_new : NoAttr K (He.ga K "Maps") "new"
  n_Maps_last : NoAttr K (He.ga K "Maps") "last"
  n_Groups_size : NoAttr K (He.ga K "Groups") "size"
  n_Groups_most : NoAttr K (He.ga K "Groups") "most"
  n_Groups_order : NoAttr K (He.ga K "Groups") "order"
  n_Groups_windows : NoAttr K (He.ga K "Groups") "windows"
  c_MARK_TIMES : ∃ t, mg "MARK_TIMES" = some (.int 31 t)
  c_MARK_ROUND : ∃ t, mg "MARK_ROUND" = some (.int 1000003 t)
  c_MOST : ∃ t, mg "MOST" = some (.int 1000 t)
  c_ROUND : ∃ t, mg "ROUND" = some (.int 1000003 t)
  z_len : mg "len" = none
  z_max : mg "max" = none
  z_min : mg "min" = none
  z_sum : mg "sum" = none
  z_all : mg "all" = none
  z_sorted : mg "sorted" = none
  z_isinstance : mg "isinstance" = none
  z_list : mg "list" = none
  z_int : mg "int" = none
  z_set : mg "set" = none
  z_range : mg "range" = none
  z_reversed : mg "reversed" = none
  z_bool : mg "bool" = none
  z_ValueError : mg "ValueError" = none
  g_FewError : mg "FewError" = some (.ref (He.ga K "FewError"))
  x_BadWindow : ExAt K mg "BadWindow"
  x_NoWord : ExAt K mg "NoWord"
  x_Late : ExAt K mg "Late"
  x_NoKey : ExAt K mg "NoKey"
  x : xtra K = true
end LF

set_option maxRecDepth 100000
set_option maxHeartbeats 4000000
namespace LF
open PySem PySem.Spec PyProof.Rows L2

/-! ### a Tally's fields -/
theorem lk_eq {x : Str} {v : V} {l : List (Str × V)} : ((x, v) :: l).lookup x = some v := by simp [List.lookup]
theorem lk_ne {x y : Str} {v : V} {l : List (Str × V)} (h : x ≠ y) : ((y, v) :: l).lookup x = l.lookup x := by
  have e : (x == y) = false := by simpa using h
  simp [List.lookup, e]
theorem pf_eq {f : Str} {y v : V} {l : List (Str × V)} : putF f y ((f, v) :: l) = (f, y) :: l := if_pos rfl
theorem pf_ne {f g : Str} {y v : V} {l : List (Str × V)} (h : g ≠ f) : putF f y ((g, v) :: l) = (g, v) :: putF f y l := if_neg h
theorem pf_cons {f g : Str} {y v : V} {l l' : List (Str × V)} (h : g ≠ f) (e : putF f y l = l') : putF f y ((g, v) :: l) = (g, v) :: l' := by rw [pf_ne h, e]
theorem pf_nil {f : Str} {y : V} : putF f y [] = [(f, y)] := rfl
def tfl (r k o : Addr) (T P : Int) : List (Str × V) := [("row", .ref r), ("ranks", .ref k), ("often", .ref o), ("total", .int T), ("pairs", .int P)]
theorem tfl_row (r k o : Addr) (T P : Int) : (tfl r k o T P).lookup ("row" : Str) = some (.ref r) := lk_eq
theorem tfl_ranks (r k o : Addr) (T P : Int) : (tfl r k o T P).lookup ("ranks" : Str) = some (.ref k) := (lk_ne (by decide +kernel)).trans lk_eq
theorem tfl_often (r k o : Addr) (T P : Int) : (tfl r k o T P).lookup ("often" : Str) = some (.ref o) := (lk_ne (by decide +kernel)).trans ((lk_ne (by decide +kernel)).trans lk_eq)
theorem tfl_total (r k o : Addr) (T P : Int) : (tfl r k o T P).lookup ("total" : Str) = some (.int T) := (lk_ne (by decide +kernel)).trans ((lk_ne (by decide +kernel)).trans ((lk_ne (by decide +kernel)).trans lk_eq))
theorem tfl_pairs (r k o : Addr) (T P : Int) : (tfl r k o T P).lookup ("pairs" : Str) = some (.int P) := (lk_ne (by decide +kernel)).trans ((lk_ne (by decide +kernel)).trans ((lk_ne (by decide +kernel)).trans ((lk_ne (by decide +kernel)).trans lk_eq)))
theorem tfl_no (r k o : Addr) (T P : Int) {m : Str} (h : m ∉ ([("row" : Str), "ranks", "often", "total", "pairs"] : List Str)) : (tfl r k o T P).lookup m = none := by
  simp only [List.mem_cons, not_or] at h
  obtain ⟨h1, h2, h3, h4, h5, _⟩ := h
  exact (lk_ne h1).trans ((lk_ne h2).trans ((lk_ne h3).trans ((lk_ne h4).trans ((lk_ne h5).trans rfl))))
theorem tfl_setT (r k o : Addr) (T P y : Int) : putF "total" (.int y) (tfl r k o T P) = tfl r k o y P := by
  unfold tfl
  rw [pf_ne (by decide +kernel), pf_ne (by decide +kernel), pf_ne (by decide +kernel), pf_eq]
theorem tfl_setP (r k o : Addr) (T P y : Int) : putF "pairs" (.int y) (tfl r k o T P) = tfl r k o T y := by
  unfold tfl
  rw [pf_ne (by decide +kernel), pf_ne (by decide +kernel), pf_ne (by decide +kernel), pf_ne (by decide +kernel), pf_eq]

def wfl (n : Int) (t : Addr) : List (Str × V) := [("size", .int n), ("tally", .ref t)]
theorem wfl_size (n : Int) (t : Addr) : (wfl n t).lookup ("size" : Str) = some (.int n) := lk_eq
theorem wfl_tally (n : Int) (t : Addr) : (wfl n t).lookup ("tally" : Str) = some (.ref t) := (lk_ne (by decide +kernel)).trans lk_eq
theorem wfl_no (n : Int) (t : Addr) {m : Str} (h : m ∉ ([("size" : Str), "tally"] : List Str)) : (wfl n t).lookup m = none := by
  simp only [List.mem_cons, not_or] at h
  obtain ⟨h1, h2, _⟩ := h
  exact (lk_ne h1).trans ((lk_ne h2).trans rfl)

def zfl (n now : Int) (tm t : Addr) : List (Str × V) := [("span", .int n), ("now", .int now), ("times", .ref tm), ("tally", .ref t)]
theorem zfl_span (n now : Int) (tm t : Addr) : (zfl n now tm t).lookup ("span" : Str) = some (.int n) := lk_eq
theorem zfl_now (n now : Int) (tm t : Addr) : (zfl n now tm t).lookup ("now" : Str) = some (.int now) := (lk_ne (by decide +kernel)).trans lk_eq
theorem zfl_times (n now : Int) (tm t : Addr) : (zfl n now tm t).lookup ("times" : Str) = some (.ref tm) := (lk_ne (by decide +kernel)).trans ((lk_ne (by decide +kernel)).trans lk_eq)
theorem zfl_tally (n now : Int) (tm t : Addr) : (zfl n now tm t).lookup ("tally" : Str) = some (.ref t) := (lk_ne (by decide +kernel)).trans ((lk_ne (by decide +kernel)).trans ((lk_ne (by decide +kernel)).trans lk_eq))
theorem zfl_no (n now : Int) (tm t : Addr) {m : Str} (h : m ∉ ([("span" : Str), "now", "times", "tally"] : List Str)) : (zfl n now tm t).lookup m = none := by
  simp only [List.mem_cons, not_or] at h
  obtain ⟨h1, h2, h3, h4, _⟩ := h
  exact (lk_ne h1).trans ((lk_ne h2).trans ((lk_ne h3).trans ((lk_ne h4).trans rfl)))
theorem zfl_set (n now x : Int) (tm t : Addr) : putF "now" (.int x) (zfl n now tm t) = zfl n x tm t := by
  unfold zfl
  rw [pf_ne (by decide +kernel), pf_eq]

def mfl (n : Int) (oa : Addr) (na : Addr) (la : Addr) : List (Str × V) := [("size", .int n), ("old", .ref oa), ("new", .ref na), ("last", .ref la)]
theorem mfl_size (n : Int) (oa : Addr) (na : Addr) (la : Addr) : (mfl n oa na la).lookup ("size" : Str) = some (.int n) := lk_eq
theorem mfl_old (n : Int) (oa : Addr) (na : Addr) (la : Addr) : (mfl n oa na la).lookup ("old" : Str) = some (.ref oa) := (lk_ne (by decide +kernel)).trans lk_eq
theorem mfl_new (n : Int) (oa : Addr) (na : Addr) (la : Addr) : (mfl n oa na la).lookup ("new" : Str) = some (.ref na) := (lk_ne (by decide +kernel)).trans ((lk_ne (by decide +kernel)).trans lk_eq)
theorem mfl_last (n : Int) (oa : Addr) (na : Addr) (la : Addr) : (mfl n oa na la).lookup ("last" : Str) = some (.ref la) := (lk_ne (by decide +kernel)).trans ((lk_ne (by decide +kernel)).trans ((lk_ne (by decide +kernel)).trans lk_eq))
theorem mfl_no (n : Int) (oa : Addr) (na : Addr) (la : Addr) {m : Str} (h : m ∉ ([("size" : Str), "old", "new", "last"] : List Str)) : (mfl n oa na la).lookup m = none := by
  simp only [List.mem_cons, not_or] at h
  obtain ⟨h1, h2, h3, h4, _⟩ := h
  exact (lk_ne h1).trans ((lk_ne h2).trans ((lk_ne h3).trans ((lk_ne h4).trans (rfl))))
theorem mfl_set_new (n : Int) (oa : Addr) (na : Addr) (la : Addr) (y : Addr) : putF "new" (.ref y) (mfl n oa na la) = mfl n oa y la := by
  unfold mfl
  rw [pf_ne (by decide +kernel), pf_ne (by decide +kernel), pf_eq]
theorem mfl_set_last (n : Int) (oa : Addr) (na : Addr) (la : Addr) (y : Addr) : putF "last" (.ref y) (mfl n oa na la) = mfl n oa na y := by
  unfold mfl
  rw [pf_ne (by decide +kernel), pf_ne (by decide +kernel), pf_ne (by decide +kernel), pf_eq]
def gfl (n : Int) (mo : Int) (oa : Addr) (wa : Addr) : List (Str × V) := [("size", .int n), ("most", .int mo), ("order", .ref oa), ("windows", .ref wa)]
theorem gfl_size (n : Int) (mo : Int) (oa : Addr) (wa : Addr) : (gfl n mo oa wa).lookup ("size" : Str) = some (.int n) := lk_eq
theorem gfl_most (n : Int) (mo : Int) (oa : Addr) (wa : Addr) : (gfl n mo oa wa).lookup ("most" : Str) = some (.int mo) := (lk_ne (by decide +kernel)).trans lk_eq
theorem gfl_order (n : Int) (mo : Int) (oa : Addr) (wa : Addr) : (gfl n mo oa wa).lookup ("order" : Str) = some (.ref oa) := (lk_ne (by decide +kernel)).trans ((lk_ne (by decide +kernel)).trans lk_eq)
theorem gfl_windows (n : Int) (mo : Int) (oa : Addr) (wa : Addr) : (gfl n mo oa wa).lookup ("windows" : Str) = some (.ref wa) := (lk_ne (by decide +kernel)).trans ((lk_ne (by decide +kernel)).trans ((lk_ne (by decide +kernel)).trans lk_eq))
theorem gfl_no (n : Int) (mo : Int) (oa : Addr) (wa : Addr) {m : Str} (h : m ∉ ([("size" : Str), "most", "order", "windows"] : List Str)) : (gfl n mo oa wa).lookup m = none := by
  simp only [List.mem_cons, not_or] at h
  obtain ⟨h1, h2, h3, h4, _⟩ := h
  exact (lk_ne h1).trans ((lk_ne h2).trans ((lk_ne h3).trans ((lk_ne h4).trans (rfl))))

/-! ### how often each is there -/
structure OftenOk (kvs : List (Key × V)) (row : List Int) : Prop where
  nd : (kvs.map (·.1)).Nodup
  at_ : ∀ n : Int, valV kvs (.inl n) = if row.count n = 0 then none else some (.int (row.count n : Nat))
  no : ∀ z : Str, valV kvs (.inr z) = none
theorem OftenOk.keys {kvs : List (Key × V)} {row : List Int} (h : OftenOk kvs row) : ∀ q ∈ kvs, ∃ n : Int, q = (.inl n, .int (row.count n : Nat)) ∧ n ∈ row := by
  intro q hq
  have e := val_nodup h.nd q hq
  obtain ⟨a, v⟩ := q
  cases a with
  | inl n =>
    have e2 : valV kvs (Sum.inl n) = some v := e
    rw [h.at_ n] at e2
    by_cases hc : row.count n = 0
    · rw [if_pos hc] at e2
      cases e2
    · rw [if_neg hc] at e2
      have e3 := Option.some.inj e2
      subst e3
      exact ⟨n, rfl, List.count_pos_iff.mp (by omega)⟩
  | inr z =>
    have e2 : valV kvs (Sum.inr z) = some v := e
    rw [h.no z] at e2
    cases e2
def kInt : Key → Int
  | .inl n => n
  | .inr _ => 0
theorem OftenOk.names {kvs : List (Key × V)} {row : List Int} (h : OftenOk kvs row) : kvs.map (·.1) = (kvs.map fun q => kInt q.1).map Sum.inl := by
  rw [List.map_map]
  refine List.map_congr_left fun q hq => ?_
  obtain ⟨n, rfl, _⟩ := h.keys q hq
  rfl
theorem nodup_of_map {α β : Type} (f : α → β) : ∀ {l : List α}, (l.map f).Nodup → l.Nodup
  | [], _ => List.nodup_nil
  | a :: r, h => by
    obtain ⟨h1, h2⟩ := List.nodup_cons.mp h
    exact List.nodup_cons.mpr ⟨fun m => h1 (List.mem_map.mpr ⟨a, m, rfl⟩), nodup_of_map f h2⟩
theorem OftenOk.ints_nd {kvs : List (Key × V)} {row : List Int} (h : OftenOk kvs row) : (kvs.map fun q => kInt q.1).Nodup := by
  have n := h.nd
  rw [h.names] at n
  exact nodup_of_map _ n
theorem OftenOk.ints_mem {kvs : List (Key × V)} {row : List Int} (h : OftenOk kvs row) (x : Int) : x ∈ (kvs.map fun q => kInt q.1) ↔ x ∈ row := by
  constructor
  · intro hx
    obtain ⟨q, hq, rfl⟩ := List.mem_map.mp hx
    obtain ⟨n, rfl, hn⟩ := h.keys q hq
    exact hn
  · intro hx
    have e := h.at_ x
    have hc : ¬ row.count x = 0 := by
      have := List.count_pos_iff.mpr hx
      omega
    rw [if_neg hc] at e
    have m := valV_in e
    rw [h.names] at m
    obtain ⟨y, hy, ey⟩ := List.mem_map.mp m
    cases ey
    exact hy
theorem OftenOk.len {kvs : List (Key × V)} {row : List Int} (h : OftenOk kvs row) : kvs.length = unlike row := by
  rw [← unlike_of h.ints_nd h.ints_mem, List.length_map]
theorem OftenOk.nil : OftenOk [] [] := ⟨List.nodup_nil, fun n => by simp [valV_nil], fun z => valV_nil⟩
theorem OftenOk.get0 {kvs : List (Key × V)} {row : List Int} (h : OftenOk kvs row) (x : Int) : (valV kvs (.inl x)).getD (.int 0) = .int (row.count x : Nat) := by
  rw [h.at_ x]
  by_cases e : row.count x = 0
  · rw [if_pos e, e]
    rfl
  · rw [if_neg e]
    rfl
theorem putK_old {kvs : List (Key × V)} {k : Key} {v w : V} (h : valV kvs k = some w) : (putK kvs k v).map (·.1) = kvs.map (·.1) := by
  unfold putK
  rw [valV_any, h]
  simp only [Option.isSome_some, if_true, List.map_map]
  refine List.map_congr_left fun q _ => ?_
  show (if q.1 = k then (q.1, v) else q).1 = q.1
  split <;> rfl
theorem OftenOk.nd_put {kvs : List (Key × V)} {k : Key} {v : V} (n : (kvs.map (·.1)).Nodup) : ((putK kvs k v).map (·.1)).Nodup := by
  cases e : valV kvs k with
  | none => exact nd_putK v n e
  | some w => rw [putK_old e]; exact n
theorem OftenOk.add {kvs : List (Key × V)} {row : List Int} (h : OftenOk kvs row) (x : Int) : OftenOk (putK kvs (.inl x) (.int ((row.count x : Nat) + 1))) (row ++ [x]) := by
  refine ⟨OftenOk.nd_put h.nd, fun n => ?_, fun z => ?_⟩
  · rw [valV_put, count_snoc, h.at_ n]
    by_cases e : n = x
    · subst e
      rw [if_pos rfl, if_pos rfl, if_neg (by omega)]
      rfl
    · have e0 : (if x = n then 1 else 0 : Nat) = 0 := if_neg fun q => e q.symm
      rw [if_neg (fun q => e (Sum.inl.inj q)), e0]
      rfl
  · rw [valV_put, if_neg (by intro q; cases q)]
    exact h.no z
theorem valV_drop {kvs : List (Key × V)} {k j : Key} : valV (dropK kvs k) j = if j = k then none else valV kvs j := by
  induction kvs with
  | nil =>
    unfold dropK
    rw [List.filter_nil, valV_nil]
    split <;> rfl
  | cons p r ih =>
    by_cases e : p.1 = k
    · rw [dropK_pos e, ih]
      by_cases ej : j = k
      · rw [if_pos ej, if_pos ej]
      · rw [if_neg ej, if_neg ej, valV_neg (fun q => ej (q.symm.trans e))]
    · rw [dropK_neg e]
      by_cases ep : p.1 = j
      · rw [valV_pos ep, if_neg (fun q => e (ep.trans q)), valV_pos ep]
      · rw [valV_neg ep, ih, valV_neg ep]
/-- the first goes: the count is lessened, or the key goes -/
theorem OftenOk.less {kvs : List (Key × V)} {row : List Int} {x : Int} (h : OftenOk kvs (x :: row)) (hr : x ∈ row) : OftenOk (putK kvs (.inl x) (.int (((x :: row).count x : Nat) - 1))) row := by
  refine ⟨OftenOk.nd_put h.nd, fun n => ?_, fun z => ?_⟩
  · rw [valV_put, h.at_ n, count_cons', count_cons']
    by_cases e : n = x
    · subst e
      have := List.count_pos_iff.mpr hr
      rw [if_pos rfl, if_pos rfl, if_neg (by omega)]
      congr 1
      congr 1
      omega
    · have e0 : (if x = n then 1 else 0 : Nat) = 0 := if_neg fun q => e q.symm
      rw [if_neg (fun q => e (Sum.inl.inj q)), e0]
      rfl
  · rw [valV_put, if_neg (by intro q; cases q)]
    exact h.no z
theorem OftenOk.gone {kvs : List (Key × V)} {row : List Int} {x : Int} {v : V} (h : OftenOk kvs (x :: row)) (hr : x ∉ row) : OftenOk (dropK (putK kvs (.inl x) v) (.inl x)) row := by
  refine ⟨nd_dropK (OftenOk.nd_put h.nd), fun n => ?_, fun z => ?_⟩
  · rw [valV_drop]
    by_cases e : n = x
    · subst e
      rw [if_pos rfl, if_pos (List.count_eq_zero.mpr hr)]
    · have e0 : (if x = n then 1 else 0 : Nat) = 0 := if_neg fun q => e q.symm
      rw [if_neg (fun q => e (Sum.inl.inj q)), valV_put, if_neg (fun q => e (Sum.inl.inj q)), h.at_ n, count_cons', e0]
      rfl
  · rw [valV_drop, if_neg (by intro q; cases q), valV_put, if_neg (by intro q; cases q)]
    exact h.no z

theorem at_int {ns : List Int} {z : Int} (j : Nat) (e : z = (j : Int)) (h : j < ns.length) : atI (ns.map V.int) z = some (.int ns[j]) := at_of e (by rw [List.getElem?_map, List.getElem?_eq_getElem h]; rfl)
theorem map_snoc (l : List Int) (x : Int) : (l ++ [x]).map V.int = l.map V.int ++ [V.int x] := by rw [List.map_append]; rfl
theorem map_erase (l : List Int) (i : Nat) : (l.map V.int).eraseIdx i = (l.eraseIdx i).map V.int := by
  rw [List.eraseIdx_eq_take_drop_succ, List.eraseIdx_eq_take_drop_succ, List.map_append, List.map_take, List.map_drop]
theorem mapint_len (l : List Int) : (l.map V.int).length = l.length := List.length_map ..
/-- a list of pairs of ints, each its own tuple -/
def RowAt (H : Hp) (a : Addr) (ps : List (Int × Int)) : Prop := ∃ qs : List (Addr × Int × Int), H a = some (.lst (qs.map fun q => V.ref q.1)) ∧ (∀ q ∈ qs, H q.1 = some (.tup [.int q.2.1, .int q.2.2])) ∧ qs.map (·.2) = ps
theorem RowAt.keep {H H' : Hp} {a : Addr} {ps : List (Int × Int)} (h : RowAt H a ps) (e : ∀ b u, H b = some u → (b = a ∨ ∃ x y, u = .tup [.int x, .int y]) → H' b = some u) : RowAt H' a ps := by
  obtain ⟨qs, h1, h2, h3⟩ := h
  exact ⟨qs, e _ _ h1 (.inl rfl), fun q hq => e _ _ (h2 q hq) (.inr ⟨_, _, rfl⟩), h3⟩
theorem RowAt.ex {H H' : Hp} {a : Addr} {ps : List (Int × Int)} (h : RowAt H a ps) (e : Same H H') : RowAt H' a ps := h.keep fun b u hb _ => e b u hb
/-! ### a Tally in the heap -/
structure TAt (K : PySem.W.Frag) (H : Hp) (t r k o : Addr) (row : List Int) : Prop where
  ob : ∃ dx, H t = some (.ins (He.ga K "Tally") dx (tfl r k o row.sum (inv row : Nat)))
  ro : H r = some (.lst (row.map V.int))
  ra : H k = some (.lst ((srt row).map V.int))
  of : ∃ kvs, H o = some (.dK kvs) ∧ OftenOk kvs row
  ne : r ≠ k
/-- all but the Tally's four objects is as it was -/
def Keep (H H' : Hp) (t r k o : Addr) : Prop := ∀ b u, H b = some u → b ≠ t → b ≠ r → b ≠ k → b ≠ o → H' b = some u
theorem TAt.apart {K : PySem.W.Frag} {H : Hp} {t r k o : Addr} {row : List Int} (T : TAt K H t r k o row) : t ≠ r ∧ t ≠ k ∧ t ≠ o ∧ r ≠ k ∧ r ≠ o ∧ k ≠ o := by
  obtain ⟨⟨dx, h1⟩, h2, h3, ⟨kvs, h4, _⟩, ne⟩ := T
  exact ⟨ne_of h1 h2 (by intro z; cases z), ne_of h1 h3 (by intro z; cases z), ne_of h1 h4 (by intro z; cases z), ne, ne_of h2 h4 (by intro z; cases z), ne_of h3 h4 (by intro z; cases z)⟩
theorem TAt.same {K : PySem.W.Frag} {H H' : Hp} {t r k o : Addr} {row : List Int} (T : TAt K H t r k o row) (e1 : ∀ b u, (b = t ∨ b = r ∨ b = k ∨ b = o) → H b = some u → H' b = some u) : TAt K H' t r k o row := by
  obtain ⟨⟨dx, h1⟩, h2, h3, ⟨kvs, h4, h5⟩, ne⟩ := T
  exact ⟨⟨dx, e1 _ _ (.inl rfl) h1⟩, e1 _ _ (.inr (.inl rfl)) h2, e1 _ _ (.inr (.inr (.inl rfl))) h3, ⟨kvs, e1 _ _ (.inr (.inr (.inr rfl))) h4, h5⟩, ne⟩
theorem TAt.ex {K : PySem.W.Frag} {H H' : Hp} {t r k o : Addr} {row : List Int} (T : TAt K H t r k o row) (e : Same H H') : TAt K H' t r k o row := T.same fun b u _ h => e b u h

/-! ### the words, as plain functions -/
/-- the word nm of a row -/
def wordV (row : List Int) (nm : Str) : V :=
  if nm = "many" then .int (row.length : Nat) else if nm = "sum" then .int row.sum else if nm = "unlike" then .int (unlike row : Nat) else if nm = "wrong" then .int (inv row : Nat)
  else if nm = "rising" then .int (ris row : Nat) else if nm = "mark" then .int (mark row) else
  match row with
  | [] => .non
  | x :: r => if nm = "first" then .int x else if nm = "last" then .int ((x :: r).getLast (List.cons_ne_nil _ _)) else if nm = "commonest" then .int (common (x :: r))
    else if nm = "middle" then .int ((srt (x :: r)).getD (r.length / 2) 0) else if nm = "least" then .int ((srt (x :: r)).getD 0 0) else .int ((srt (x :: r)).getD r.length 0)
def names6 : List Str := ["first", "last", "least", "greatest", "middle", "commonest"]
def names12 : List Str := ["many", "sum", "unlike", "wrong", "rising", "mark", "first", "last", "least", "greatest", "middle", "commonest"]

/-! ### the promises -/
def spPlaced (K : PySem.W.Frag) : Sp := fun vs H Q _ => ∃ (a : Addr) (ns : List Int) (x : Int), vs = [.ref a, .int x] ∧ SqL K H a (ns.map V.int) ∧ ns.Pairwise (· ≤ ·) ∧ ns.length ≤ 1000 ∧ Q (.int (below x ns : Nat)) H
def spTInit (K : PySem.W.Frag) : Sp := fun vs H Q _ => ∃ (t dx : Addr), vs = [.ref t] ∧ H t = some (.ins (He.ga K "Tally") dx []) ∧
  ∀ (r k o : Addr) (H' : Hp), H r = none → H k = none → H o = none → TAt K H' t r k o [] → (∀ b u, H b = some u → b ≠ t → H' b = some u) → Q .non H'
def spAdd (K : PySem.W.Frag) : Sp := fun vs H Q _ => ∃ (t r k o : Addr) (row : List Int) (x : Int), vs = [.ref t, .int x] ∧ TAt K H t r k o row ∧ row.length ≤ 999 ∧ ∀ H', TAt K H' t r k o (row ++ [x]) → Keep H H' t r k o → Q .non H'
def spDrop (K : PySem.W.Frag) : Sp := fun vs H Q _ => ∃ (t r k o : Addr) (row : List Int) (x : Int), vs = [.ref t] ∧ TAt K H t r k o (x :: row) ∧ row.length ≤ 999 ∧ ∀ H', TAt K H' t r k o row → Keep H H' t r k o → Q (.int x) H'
def spRising (K : PySem.W.Frag) : Sp := fun vs H Q _ => ∃ (t r k o : Addr) (row : List Int), vs = [.ref t] ∧ TAt K H t r k o row ∧ row.length ≤ 1000 ∧ Q (.int (ris row : Nat)) H
def spMark (K : PySem.W.Frag) : Sp := fun vs H Q _ => ∃ (t r k o : Addr) (row : List Int), vs = [.ref t] ∧ TAt K H t r k o row ∧ row.length ≤ 1000 ∧ Q (.int (mark row)) H
def spOne (K : PySem.W.Frag) : Sp := fun vs H Q _ => ∃ (t r k o : Addr) (row : List Int) (nm : Str), vs = [.ref t, .str nm] ∧ TAt K H t r k o row ∧ row.length ≤ 1000 ∧ nm ∈ names6 ∧ ∀ H', Same H H' → Q (wordV row nm) H'
def spWord (K : PySem.W.Frag) : Sp := fun vs H Q _ => ∃ (t r k o : Addr) (row : List Int) (nm : Str), vs = [.ref t, .str nm] ∧ TAt K H t r k o row ∧ row.length ≤ 1000 ∧ nm ∈ names12 ∧ ∀ H', Same H H' → Q (wordV row nm) H'
end LF

set_option maxRecDepth 100000
set_option maxHeartbeats 4000000
namespace LF
open PySem PySem.Spec PyProof.Rows L2
end LF
open PySem PySem.Spec PyProof.Rows L2 LF
local macro_rules | `(tactic| walk_at "ne") => `(tactic| first
  | assumption
  | (with_reducible refine Ne.symm ?_; assumption)
  | ((with_reducible refine' ne_nn ?ka ?kb); (case ka => with_reducible assumption); (case kb => walk_at "hp"))
  | ((with_reducible refine' ne_nn2 ?ka ?kb); (case ka => with_reducible assumption); (case kb => walk_at "hp")))
local macro_rules | `(tactic| walk_at "hp") => `(tactic| first
  | with_reducible assumption
  | with_reducible exact upd_same
  | ((with_reducible refine' Eq.trans (upd_ne ?kne) ?_); (case kne => walk_at "ne"); walk_at "hp"))
local macro_rules | `(tactic| walk_at "sm") => `(tactic| first | with_reducible exact Same.refl _ | with_reducible assumption | ((with_reducible refine' same_upd ?kn ?_); (case kn => with_reducible assumption); walk_at "sm"))
local macro_rules | `(tactic| walk_at "tst") => `(tactic| first | refine iteBT (by decide +kernel) ?_ | refine iteBF (by decide +kernel) ?_)
local macro_rules | `(tactic| walk_at "tup") => `(tactic| ((with_reducible refine' E_tupA ?_); walk_at "go"; (with_reducible refine' R_tupA ?k1 ?_); (case k1 => exact Nat.le_of_ble_eq_true rfl); intro _ _))
local macro_rules | `(tactic| walk_at "st") => `(tactic| first
  | with_reducible refine S_seq ?_ | with_reducible refine S_asg ?_ | with_reducible refine S_drop ?_ | with_reducible refine S_ret ?_ | with_reducible refine S_if ?_ | with_reducible refine S_next ?_
  | with_reducible refine S_fld ?_ | with_reducible refine S_dput ?_
  | ((with_reducible refine' E_var ?k1 ?_); (case k1 => rfl))
  | with_reducible refine E_c ?_ | with_reducible refine E_op ?_ | with_reducible refine E_un ?_ | with_reducible refine E_test ?_ | with_reducible refine E_tB ?_ | with_reducible refine R_tst ?_
  | with_reducible refine E_and ?_ | with_reducible refine E_or ?_ | with_reducible refine E_not ?_ | with_reducible refine E_andV ?_ | with_reducible refine E_orV ?_ | with_reducible refine E_notV ?_ | with_reducible refine R_bl ?_ | with_reducible refine E_ifx ?_
  | with_reducible refine E_fld ?_ | ((with_reducible refine' R_fld ?k1 ?k2 ?k3 ?k4 ?_); (case k1 => walk_at "hp"); (case k2 => assumption); (case k3 => assumption); (case k4 => walk_at "lk"))
  | ((with_reducible refine' R_set ?k1 ?k2 ?k3 ?k4 ?k5 ?_); (case k1 => walk_at "hp"); (case k2 => assumption); (case k3 => assumption); (case k4 => walk_at "fl"); (case k5 => walk_at "pf"))
  | with_reducible refine E_call ?_ | with_reducible refine E_nil ?_ | with_reducible refine E_cons ?_ | with_reducible refine E_meth ?_
  | ((with_reducible refine' R_meth ?k1 ?k2 ?_); (case k1 => walk_at "hp"); (case k2 => walk_at "lm"))
  | with_reducible refine E_make ?_ | with_reducible refine E_cb ?_ | with_reducible refine E_lst ?_
  | ((with_reducible refine' R_inT ?k1 ?k2 ?k3 ?_); (case k1 => walk_at "sT"); (case k2 => rfl); (case k3 => rfl))
  | with_reducible refine R_I0 ?_ | with_reducible refine R_U ?_
  | ((with_reducible refine' R_I ?k1 ?_); (case k1 => walk_at "ok"))
  | ((with_reducible refine' R_eq ?k1 ?_); (case k1 => rfl)) | ((with_reducible refine' R_ne ?k1 ?_); (case k1 => rfl))
  | with_reducible refine E_bm ?_ | with_reducible refine E_bm0 ?_ | ((with_reducible refine' R_tyL ?k1 ?_); (case k1 => walk_at "sq"))
  | ((with_reducible refine' R_app ?k1 ?k2 ?_); (case k1 => walk_at "hp"); (case k2 => walk_at "sz"))
  | ((with_reducible refine' R_lenL ?k1 ?_); (case k1 => walk_at "sq"))
  | ((with_reducible refine' R_listL ?k1 ?_); (case k1 => walk_at "sq"))
  | with_reducible refine E_tru ?_ | ((with_reducible refine' R_truL ?k1 ?_); (case k1 => walk_at "sq"))
  | with_reducible refine R_max2Q ?_ | with_reducible refine R_part ?_ | with_reducible refine E_sl ?_ | with_reducible refine E_part ?_ | with_reducible refine E_noPart ?_
  | ((with_reducible refine' R_slL ?k1 ?_); (case k1 => walk_at "sq"))
  | with_reducible refine E_dget2 ?_ | ((with_reducible refine' R_isD ?k1 ?_); (case k1 => walk_at "hp")) | ((with_reducible refine' R_getD ?k1 ?_); (case k1 => walk_at "hp"))
  | with_reducible refine E_dget ?_ | with_reducible refine E_dpop1 ?_ | with_reducible refine E_din ?_ | with_reducible refine E_dnin ?_ | ((with_reducible refine' R_in ?k1 ?_); (case k1 => walk_at "hp"))
  | ((with_reducible refine' R_sum ?k1 ?_); (case k1 => walk_at "sq")) | with_reducible refine E_lenSet ?_
  | ((with_reducible refine' R_cnt ?k1 ?_); (case k1 => walk_at "sq")) | with_reducible refine E_chain ?_ | with_reducible refine E_dnew ?_ | with_reducible refine S_for ?_ | with_reducible refine E_il ?_ | ((with_reducible refine' R_il ?k1 ?_); (case k1 => walk_at "sq")) | with_reducible refine E_rng1 ?_ | with_reducible refine E_lc ?_ | with_reducible refine E_ik ?_ | with_reducible refine E_iv ?_ | ((with_reducible refine' R_iv ?k1 ?_); (case k1 => walk_at "sq"))
  | ((with_reducible refine' R_dput ?k1 ?k2 ?_); (case k1 => walk_at "hp"); (case k2 => walk_at "sz"))
  | dsimp only)
local macro_rules | `(tactic| walk_at "go") => `(tactic| repeat (walk_at "st"))
local macro_rules | `(tactic| walk_at "sq") => `(tactic| first | with_reducible assumption | ((with_reducible refine' SqL.of ?k1); (case k1 => walk_at "hp")) | ((with_reducible refine' Same.seq ?k1 ?k2); (case k2 => with_reducible assumption); (case k1 => walk_at "sm")))
local macro_rules | `(tactic| walk_at "sT") => `(tactic| first | with_reducible assumption | ((with_reducible refine' SqT.of ?k1); (case k1 => walk_at "hp")))
local macro_rules | `(tactic| walk_at "ok") => `(tactic| first | exact ⟨by decide, by decide⟩ | (show (0 : Int) < _; omega) | exact Or.inl ⟨by omega, by omega⟩ | exact Or.inr ⟨by omega, by omega⟩)
local macro_rules | `(tactic| walk_at "sz") => `(tactic| first | assumption | (refine Nat.lt_of_lt_of_le (m := 100000) ?_ (by decide); (try simp only [List.length_map, List.length_append, List.length_cons, List.length_nil, List.length_reverse]); omega))
local macro_rules | `(tactic| walk_at "fl") => `(tactic| first | (show 5 < 1000; decide) | (show 0 < 1000; decide) | (show 1 < 1000; decide) | (show 3 < 1000; decide) | (show 2 < 1000; decide) | (show 4 < 1000; decide) | (simp only [List.length_cons, List.length_nil]; omega))
local macro_rules | `(tactic| walk_at "pf") => `(tactic| first | with_reducible exact mfl_set_new .. | with_reducible exact mfl_set_last .. | with_reducible exact zfl_set .. | with_reducible exact tfl_setT .. | with_reducible exact tfl_setP .. | with_reducible exact pf_nil | with_reducible exact pf_eq | ((with_reducible refine' pf_cons ?kn ?ke); (case kn => decide +kernel); (case ke => walk_at "pf")))
local macro_rules | `(tactic| walk_at "lk") => `(tactic| first | with_reducible exact tfl_row .. | with_reducible exact tfl_ranks .. | with_reducible exact tfl_often .. | with_reducible exact tfl_total .. | with_reducible exact tfl_pairs .. | with_reducible exact wfl_size .. | with_reducible exact wfl_tally .. | with_reducible exact zfl_span .. | with_reducible exact zfl_now .. | with_reducible exact zfl_times .. | with_reducible exact zfl_tally .. | with_reducible exact mfl_size .. | with_reducible exact mfl_old .. | with_reducible exact mfl_new .. | with_reducible exact mfl_last .. | with_reducible exact gfl_size .. | with_reducible exact gfl_most .. | with_reducible exact gfl_order .. | with_reducible exact gfl_windows ..)
local macro_rules | `(tactic| walk_at "lm") => `(tactic| first | with_reducible exact tfl_no _ _ _ _ _ (by decide +kernel) | with_reducible exact wfl_no _ _ (by decide +kernel) | with_reducible exact zfl_no _ _ _ _ (by decide +kernel) | with_reducible exact mfl_no _ _ _ _ (by decide +kernel) | with_reducible exact gfl_no _ _ _ _ (by decide +kernel))
local macro_rules | `(tactic| walk_at "in") => `(tactic| (try dsimp only [cxOf, Cx.nox, Cx.wish]); walk_at "go")
local macro_rules | `(tactic| walk_at "go2") => `(tactic| repeat (first | walk_at "st" | walk_at "tst" | walk_at "tup"))
namespace LF
open PySem PySem.Spec PyProof.Rows L2
section
variable {P : Program} {w : World} {K : PySem.W.Frag} {mg : Str → Option Value} {base : Heap} {D : Str × Option Str → FuncData}
theorem ok_placed (T : Txt K mg D) : FnOk P w K mg base CX0 1 (He.ga K "placed") (D ("placed", none)) ["ranks", "thing"] (spPlaced K) := by
  refine T.placed.F.ok sc_placed (fun vs H Q E h => ?_) (fun cdv A outer s H vs Q E hr h => ?_)
  · obtain ⟨a, ns, x, rfl, _⟩ := h
    rfl
  · obtain ⟨a, ns, x, rfl, hS, hs, hl, k⟩ := h
    refine ⟨_, PSs.nox (pss_cons (ps_set (i := 2) sc_placed.nd rfl (Or.inl rfl) pe_int)
      (pss_cons (ps_set (i := 3) sc_placed.nd rfl (Or.inl rfl) (pe_callB (call_lenK (K := K) rfl) (by rfl) T.z_len PySem.boot_len (pa_cons (pv 0) pa_nil)))
      (pss_cons (ps_whileQ PassesOwn.never (pt_cmpR op_lt (pv 2) (pv 3) (nomark _))
      (pss_cons (ps_set (i := 4) sc_placed.nd rfl (Or.inl rfl) (pe_op op_fdiv (pe_op op_add (pv 2) (pv 3)) pe_int))
      (pss_one (ps_if (pt_cmpR op_lt (pe_ix (ix_listK (K := K) rfl) (pv 0) (pv 4) (fun _ _ => rfl)) (pv 1) (nomark _)) (pss_one (ps_set (i := 2) sc_placed.nd rfl (Or.inl rfl) (pe_op op_add (pv 4) pe_int))) (pss_one (ps_set (i := 3) sc_placed.nd rfl (Or.inl rfl) (pv 4)))))))
      (pss_one (ps_ret (pv 2)))))), ?_⟩
    walk_at "in"
    refine S_while (fun m σ' H' => ∃ (lo hi : Nat) (v : Option V), σ' = [some (.ref a), some (.int x), some (.int lo), some (.int hi), v] ∧ H' = H ∧ m = hi - lo ∧ lo ≤ hi ∧ hi ≤ ns.length ∧
      (∀ i (h : i < ns.length), i < lo → ns[i] < x) ∧ (∀ i (h : i < ns.length), hi ≤ i → x ≤ ns[i])) ns.length ⟨0, ns.length, none, by rw [List.length_map]; rfl, rfl, rfl, Nat.zero_le _, Nat.le_refl _, fun i _ q => absurd q (Nat.not_lt_zero _), fun i h q => absurd h (Nat.not_lt.mpr q)⟩ ?_
    rintro m σ' H' ⟨lo, hi, v, rfl, rfl, rfl, h1, h2, h3, h4⟩
    walk_at "go"
    refine iteD (fun hlt => ?_) (fun hge => ?_)
    · walk_at "go"
      have hm : (lo + hi) / 2 < ns.length := by omega
      refine R_ixL hS (at_int ((lo + hi) / 2) (by omega) hm) ?_
      walk_at "go"
      have ez : ((lo : Int) + (hi : Int)) / 2 = (((lo + hi) / 2 : Nat) : Int) := by omega
      refine iteD (fun hx => ?_) (fun hx => ?_)
      · walk_at "go"
        refine ⟨hi - ((lo + hi) / 2 + 1), by omega, (lo + hi) / 2 + 1, hi, some (.int (((lo + hi) / 2 : Nat) : Int)), by rw [ez]; rfl, rfl, rfl, by omega, h2, fun i h q => ?_, h4⟩
        have q2 : i ≤ (lo + hi) / 2 := by omega
        by_cases e : i = (lo + hi) / 2
        · subst e; exact hx
        · have := List.pairwise_iff_getElem.mp hs i _ h hm (by omega)
          omega
      · walk_at "go"
        refine ⟨(lo + hi) / 2 - lo, by omega, lo, (lo + hi) / 2, some (.int (((lo + hi) / 2 : Nat) : Int)), by rw [ez]; rfl, rfl, rfl, by omega, by omega, h3, fun i h q => ?_⟩
        by_cases e : i = (lo + hi) / 2
        · subst e; omega
        · have := List.pairwise_iff_getElem.mp hs _ i hm h (by omega)
          omega
    · walk_at "go"
      have e : lo = hi := by omega
      subst e
      rw [below_cut h2 h3 h4] at k
      exact k
theorem ok_Tally_init (T : Txt K mg D) : FnOk P w K mg base CX0 1 (He.ma K (He.ga K "Tally") "__init__") (D ("Tally", some "__init__")) ["self"] (spTInit K) := by
  refine T.Tally_init.F.ok sc_Tally_init (fun vs H Q E h => ?_) (fun cdv A outer s H vs Q E hr h => ?_)
  · obtain ⟨t, dx, rfl, _⟩ := h
    rfl
  · obtain ⟨t, dx, rfl, ht, kq⟩ := h
    have fcTally := T.cTally.cl; have fnTallyrow := T.n_Tally_row; have fnTallyranks := T.n_Tally_ranks; have fnTallyoften := T.n_Tally_often; have fnTallytotal := T.n_Tally_total; have fnTallypairs := T.n_Tally_pairs
    refine ⟨_, PSs.nox (pss_cons (ps_fldK (K := K) rfl (pv 0) (pe_lst pa_nil) rfl)
      (pss_cons (ps_fldK (K := K) rfl (pv 0) (pe_lst pa_nil) rfl)
      (pss_cons (ps_fldK (K := K) rfl (pv 0) pe_dnewK rfl)
      (pss_cons (ps_fldK (K := K) rfl (pv 0) pe_int rfl)
      (pss_one (ps_fldK (K := K) rfl (pv 0) pe_int rfl)))))), ?_⟩
    walk_at "in"
    refine ⟨Nat.zero_le _, fun r nr => ?_⟩
    have a1 : t ≠ r := ne_of_none ht nr
    walk_at "go"
    refine ⟨Nat.zero_le _, fun k nk => ?_⟩
    have a2 : t ≠ k := ne_of_none (by walk_at "hp") nk
    have a3 : r ≠ k := ne_of_none (by walk_at "hp") nk
    walk_at "go"
    intro o no
    have a4 : t ≠ o := ne_of_none (by walk_at "hp") no
    have a5 : r ≠ o := ne_of_none (by walk_at "hp") no
    have a6 : k ≠ o := ne_of_none (by walk_at "hp") no
    walk_at "go"
    have nk' : H k = none := by rw [upd_ne a2.symm, upd_ne a3.symm] at nk; exact nk
    have no' : H o = none := by rw [upd_ne a4.symm, upd_ne a6.symm, upd_ne a4.symm, upd_ne a5.symm] at no; exact no
    refine kq r k o _ nr nk' no' ⟨⟨dx, upd_same⟩, ?_, ?_, ⟨[], by walk_at "hp", OftenOk.nil⟩, a3⟩ fun b u e hb => ?_
    · show _ = some (HO.lst [])
      walk_at "hp"
    · rw [srt_nil]
      show _ = some (HO.lst [])
      walk_at "hp"
    have b1 : b ≠ r := ne_of_none e nr
    have b2 : b ≠ k := ne_of_none e nk'
    have b3 : b ≠ o := ne_of_none e no'
    walk_at "hp"
theorem ok_Tally_add (T : Txt K mg D) : FnOk P w K mg base CX0 2 (He.ma K (He.ga K "Tally") "add") (D ("Tally", some "add")) ["self", "thing"] (spAdd K) := by
  refine T.Tally_add.F.ok sc_Tally_add (fun vs H Q E h => ?_) (fun cdv A outer s H vs Q E hr h => ?_)
  · obtain ⟨t, r, k, o, row, x, rfl, _⟩ := h
    rfl
  · obtain ⟨t, r, k, o, row, x, rfl, S, hl, kq⟩ := h
    have hu := hu_of hr
    have fcTally := T.cTally.cl; have fnTallyrow := T.n_Tally_row; have fnTallyranks := T.n_Tally_ranks; have fnTallyoften := T.n_Tally_often; have fnTallytotal := T.n_Tally_total; have fnTallypairs := T.n_Tally_pairs
    obtain ⟨a1, a2, a3, a4, a5, a6⟩ := S.apart
    obtain ⟨⟨dx, h1⟩, h2, h3, ⟨kvs, h4, h5⟩, _⟩ := id S
    have hlk : kvs.length ≤ 1000 := by rw [h5.len]; exact Nat.le_trans (unlike_le _) (by omega)
    have hs := srt_length row
    refine ⟨_, PSs.nox (pss_cons (ps_set (i := 2) sc_Tally_add.nd rfl (Or.inl rfl) (pe_call (ok_placed T) (by exact hr.mono (by decide)) (by rfl) T.placed.g T.placed.F.kp T.placed.b .nil pass0 (pa_cons (pe_fldK (K := K) rfl (pv 0) rfl) (pa_cons (pe_op op_add (pv 1) pe_int) pa_nil))))
      (pss_cons (ps_fldK (K := K) rfl (pv 0) (pe_op op_sub (pe_op op_add (pe_fldK (K := K) rfl (pv 0) rfl) (pe_callB (call_lenK (K := K) rfl) (by rfl) T.z_len PySem.boot_len (pa_cons (pe_fldK (K := K) rfl (pv 0) rfl) pa_nil))) (pv 2)) rfl)
      (pss_cons (ps_expr (pe_bmK (K := K) rfl PySem.F.plainAttrs_list PySem.F.slot_list_insert PySem.F.type_list_insert mt_insQ (pe_fldK (K := K) rfl (pv 0) rfl) (pa_cons (pv 2) (pa_cons (pv 1) pa_nil))))
      (pss_cons (ps_expr (pe_bmK (K := K) rfl PySem.F.plainAttrs_list PySem.F.slot_list_append PySem.F.type_list_append mt_append (pe_fldK (K := K) rfl (pv 0) rfl) (pa_cons (pv 1) pa_nil)))
      (pss_cons (ps_dput (by exact hu) (pe_fldK (K := K) rfl (pv 0) rfl) (pv 1) (pe_op op_add (pe_dget2 (by exact hu) (pe_fldK (K := K) rfl (pv 0) rfl) (pv 1) pe_int ⟨rfl, rfl, rfl, rfl⟩) pe_int) rfl)
      (pss_one (ps_fldK (K := K) rfl (pv 0) (pe_op op_add (pe_fldK (K := K) rfl (pv 0) rfl) (pv 1)) rfl))))))), ?_⟩
    walk_at "in"
    refine ⟨k, srt row, x + 1, rfl, SqL.of h3, srt_sorted _, by omega, ?_⟩
    have hb := below_le (x + 1) (srt row)
    walk_at "go"
    refine R_ins (by walk_at "hp") (by walk_at "sz") (by omega) ?_
    walk_at "go"
    rw [h5.get0]
    walk_at "go"
    refine kq _ ⟨⟨dx, ?_⟩, ?_, ?_, ⟨putK kvs (.inl x) (.int (((row.count x : Nat) : Int) + 1)), by walk_at "hp", h5.add x⟩, a4⟩ fun b u e b1 b2 b3 b4 => ?_
    · refine upd_same.trans ?_
      rw [List.sum_append, inv_snoc, List.sum_singleton, mapint_len, hs, below_perm _ (srt_perm row)]
      have hb2 := below_le (x + 1) row
      congr 3
      omega
    · rw [map_snoc]
      walk_at "hp"
    · rw [← ranks_add rfl, List.map_append, map_snoc, List.map_take, List.map_drop]
      walk_at "hp"
    · walk_at "hp"
theorem ok_Tally_drop (T : Txt K mg D) : FnOk P w K mg base CX0 2 (He.ma K (He.ga K "Tally") "drop") (D ("Tally", some "drop")) ["self"] (spDrop K) := by
  refine T.Tally_drop.F.ok sc_Tally_drop (fun vs H Q E h => ?_) (fun cdv A outer s H vs Q E hr h => ?_)
  · obtain ⟨t, r, k, o, row, x, rfl, _⟩ := h
    rfl
  · obtain ⟨t, r, k, o, row, x, rfl, S, hl, kq⟩ := h
    have hu := hu_of hr
    have fcTally := T.cTally.cl; have fnTallyrow := T.n_Tally_row; have fnTallyranks := T.n_Tally_ranks; have fnTallyoften := T.n_Tally_often; have fnTallytotal := T.n_Tally_total; have fnTallypairs := T.n_Tally_pairs
    obtain ⟨a1, a2, a3, a4, a5, a6⟩ := S.apart
    obtain ⟨⟨dx, h1⟩, h2, h3, ⟨kvs, h4, h5⟩, _⟩ := id S
    have hlk : kvs.length ≤ 1000 := by rw [h5.len]; exact Nat.le_trans (unlike_le _) (by rw [List.length_cons]; omega)
    have h2 : H r = some (HO.lst (V.int x :: row.map V.int)) := h2
    have hs := srt_length (x :: row)
    rw [List.length_cons] at hs
    refine ⟨_, PSs.nox (pss_cons (ps_set (i := 1) sc_Tally_drop.nd rfl (Or.inl rfl) (pe_bmK (K := K) rfl PySem.F.plainAttrs_list PySem.F.slot_list_pop PySem.F.type_list_pop mt_popAt (pe_fldK (K := K) rfl (pv 0) rfl) (pa_cons pe_int pa_nil)))
      (pss_cons (ps_set (i := 2) sc_Tally_drop.nd rfl (Or.inl rfl) (pe_call (ok_placed T) (by exact hr.mono (by decide)) (by rfl) T.placed.g T.placed.F.kp T.placed.b .nil pass0 (pa_cons (pe_fldK (K := K) rfl (pv 0) rfl) (pa_cons (pv 1) pa_nil))))
      (pss_cons (ps_expr (pe_bmK (K := K) rfl PySem.F.plainAttrs_list PySem.F.slot_list_pop PySem.F.type_list_pop mt_popAt (pe_fldK (K := K) rfl (pv 0) rfl) (pa_cons (pv 2) pa_nil)))
      (pss_cons (ps_fldK (K := K) rfl (pv 0) (pe_op op_sub (pe_fldK (K := K) rfl (pv 0) rfl) (pv 2)) rfl)
      (pss_cons (ps_dput (by exact hu) (pe_fldK (K := K) rfl (pv 0) rfl) (pv 1) (pe_op op_sub (pe_dget (by exact hu) (pe_fldK (K := K) rfl (pv 0) rfl) (pv 1) (fun _ _ => rfl)) pe_int) rfl)
      (pss_cons (ps_if (pt_cmpR op_eq (pe_dget (by exact hu) (pe_fldK (K := K) rfl (pv 0) rfl) (pv 1) (fun _ _ => rfl)) pe_int (nomark _)) (pss_one (ps_expr (pe_dpop1 (pe_fldK (K := K) rfl (pv 0) rfl) (pv 1) ⟨rfl, rfl, rfl, rfl⟩))) pss_nil)
      (pss_cons (ps_fldK (K := K) rfl (pv 0) (pe_op op_sub (pe_fldK (K := K) rfl (pv 0) rfl) (pv 1)) rfl)
      (pss_one (ps_ret (pv 1)))))))))), ?_⟩
    walk_at "in"
    refine R_pop0 (by walk_at "hp") ?_
    walk_at "go"
    refine ⟨k, srt (x :: row), x, rfl, SqL.of (by walk_at "hp"), srt_sorted _, by omega, ?_⟩
    have hb := below_le x (srt (x :: row))
    walk_at "go"
    refine R_popAt (by walk_at "hp") (by rw [List.getElem?_map, ranks_at rfl]; rfl) (by omega) ?_
    walk_at "go"
    have ec : valV kvs (Sum.inl x : Key) = some (.int ((x :: row).count x : Nat)) := by
      rw [h5.at_ x, if_neg (by rw [count_cons', if_pos rfl]; omega)]
    have ecc : (x :: row).count x = row.count x + 1 := by rw [count_cons', if_pos rfl]
    refine R_get (by walk_at "hp") ec ?_
    walk_at "go"
    refine R_get (kvs := putK kvs (.inl x) (.int (((x :: row).count x : Nat) - 1))) (by walk_at "hp") (by rw [valV_put, if_pos rfl]) ?_
    walk_at "go"
    have einv : ((inv (x :: row) : Nat) : Int) - (below x (srt (x :: row)) : Nat) = (inv row : Nat) := by
      have e1 : below x (srt (x :: row)) = below x row := by
        rw [below_perm x (srt_perm (x :: row))]
        unfold below
        rw [List.countP_cons, if_neg (by simp)]
        rfl
      have e2 : inv (x :: row) = below x row + inv row := rfl
      rw [e1, e2]
      omega
    have esum : (x :: row).sum - x = row.sum := by rw [List.sum_cons]; omega
    refine iteD (fun hz => ?_) (fun hz => ?_)
    · walk_at "go"
      refine R_pop1 (kvs := putK kvs (.inl x) (.int (((x :: row).count x : Nat) - 1))) (by walk_at "hp") (by rw [valV_put, if_pos rfl]) ?_
      walk_at "go"
      have hx : x ∉ row := fun m => by
        have := List.count_pos_iff.mpr m
        have e := V.int.inj hz
        omega
      refine kq _ ⟨⟨dx, ?_⟩, by walk_at "hp", ?_, ⟨_, by walk_at "hp", h5.gone hx⟩, a4⟩ fun b u e b1 b2 b3 b4 => ?_
      · rw [einv, esum]
        exact upd_same
      · rw [← ranks_drop (l := row) (x := x) rfl, ← map_erase]
        walk_at "hp"
      · walk_at "hp"
    · walk_at "go"
      have hx : x ∈ row := by
        apply Classical.byContradiction
        intro m
        have := List.count_eq_zero.mpr m
        refine hz (congrArg V.int ?_)
        omega
      refine kq _ ⟨⟨dx, ?_⟩, by walk_at "hp", ?_, ⟨_, by walk_at "hp", h5.less hx⟩, a4⟩ fun b u e b1 b2 b3 b4 => ?_
      · rw [einv, esum]
        exact upd_same
      · rw [← ranks_drop (l := row) (x := x) rfl, ← map_erase]
        walk_at "hp"
      · walk_at "hp"
end
end LF

set_option maxRecDepth 100000
set_option maxHeartbeats 4000000
namespace LF
open PySem PySem.Spec PyProof.Rows L2

section
variable {P : Program} {w : World} {K : PySem.W.Frag} {mg : Str → Option Value} {base : Heap} {D : Str × Option Str → FuncData}
theorem ok_Tally_rising (T : Txt K mg D) : FnOk P w K mg base CX0 1 (He.ma K (He.ga K "Tally") "rising") (D ("Tally", some "rising")) ["self"] (spRising K) := by
  refine T.Tally_rising.F.ok sc_Tally_rising (fun vs H Q E h => ?_) (fun cdv A outer s H vs Q E hr h => ?_)
  · obtain ⟨t, r, k, o, row, rfl, _⟩ := h
    rfl
  · obtain ⟨t, r, k, o, row, rfl, S, hl, kq⟩ := h
    have fcTally := T.cTally.cl; have fnTallyrow := T.n_Tally_row; have fnTallyranks := T.n_Tally_ranks; have fnTallyoften := T.n_Tally_often; have fnTallytotal := T.n_Tally_total; have fnTallypairs := T.n_Tally_pairs
    obtain ⟨⟨dx, h1⟩, h2, h3, ⟨kvs, h4, h5⟩, _⟩ := id S
    refine ⟨_, PSs.nox (pss_cons (ps_set (i := 1) sc_Tally_rising.nd rfl (Or.inl rfl) pe_int)
      (pss_cons (ps_set (i := 2) sc_Tally_rising.nd rfl (Or.inl rfl) pe_int)
      (pss_cons (ps_for PassesOwn.never rfl (pi_range1 (by rfl) T.z_range (pa_cons (pe_callB (call_lenK (K := K) rfl) (by rfl) T.z_len PySem.boot_len (pa_cons (pe_fldK (K := K) rfl (pv 0) rfl) pa_nil)) pa_nil)) (pg_name (i := 3) sc_Tally_rising.nd rfl (Or.inl rfl))
      (pss_cons (ps_set (i := 2) sc_Tally_rising.nd rfl (Or.inl rfl) (pe_ifExp (PW.pt (pw_and (pt_cmpR op_gt (pv 3) pe_int (nomark _)) (pw_and1 (pt_cmpR op_le (pe_ix (ix_listK (K := K) rfl) (pe_fldK (K := K) rfl (pv 0) rfl) (pe_op op_sub (pv 3) pe_int) (fun _ _ => rfl)) (pe_ix (ix_listK (K := K) rfl) (pe_fldK (K := K) rfl (pv 0) rfl) (pv 3) (fun _ _ => rfl)) (nomark _))))) (pe_op op_add (pv 2) pe_int) pe_int))
      (pss_one (ps_set (i := 1) sc_Tally_rising.nd rfl (Or.inl rfl) (pe_callB (call_max2Q rfl) (by rfl) T.z_max (by decide +kernel) (pa_cons (pv 1) (pa_cons (pv 2) pa_nil)))))))
      (pss_one (ps_ret (pv 1)))))), ?_⟩
    walk_at "in"
    rw [mapint_len]
    refine R_rng1 (by omega) (by omega) ?_
    rw [Int.toNat_natCast]
    refine R_forR (fun i σ' H' => ∃ (best run : Nat) (v : Option V), σ' = [some (.ref t), some (.int best), some (.int run), v] ∧ H' = H ∧ RisInv row i best run) ⟨0, 0, none, rfl, rfl, .inl ⟨rfl, rfl⟩⟩ ?_ ?_
    · rintro i σ' H' hi ⟨best, run, v, rfl, rfl, inv⟩
      walk_at "go"
      refine iteD (fun h0 => ?_) (fun h0 => ?_)
      · have hi0 : 0 < i := by omega
        walk_at "go"
        refine R_ixL (by walk_at "sq") (at_int (i - 1) (by omega) (by omega)) ?_
        walk_at "go"
        refine R_ixL (by walk_at "sq") (at_int i (by omega) hi) ?_
        have nx := inv.next hi0 hi (by omega)
        walk_at "go"
        refine iteD (fun hle => ?_) (fun hle => ?_)
        · rw [if_pos hle] at nx
          walk_at "go"
          have eb : (if (run : Int) + 1 > (best : Int) then (run : Int) + 1 else (best : Int)) = ((max best (run + 1) : Nat) : Int) := by split <;> omega
          refine ⟨_, _, some (.int (0 + (i : Int))), ?_, rfl, nx⟩
          rw [eb]
          rfl
        · rw [if_neg hle] at nx
          walk_at "go"
          have eb : (if (1 : Int) > (best : Int) then (1 : Int) else (best : Int)) = ((max best 1 : Nat) : Int) := by split <;> omega
          refine ⟨_, _, some (.int (0 + (i : Int))), ?_, rfl, nx⟩
          rw [eb]
          rfl
      · have hi0 : i = 0 := by omega
        subst hi0
        have nx := inv.first hi
        walk_at "go"
        refine iteBF rfl ?_
        walk_at "go"
        have eb : (if (1 : Int) > (best : Int) then (1 : Int) else (best : Int)) = ((max best 1 : Nat) : Int) := by split <;> omega
        refine ⟨_, _, some (.int (0 + ((0 : Nat) : Int))), ?_, rfl, nx⟩
        rw [eb]
        rfl
    · rintro σ' H' ⟨best, run, v, rfl, rfl, inv⟩
      walk_at "go"
      rw [inv.done]
      exact kq
theorem ok_Tally_mark (T : Txt K mg D) : FnOk P w K mg base CX0 1 (He.ma K (He.ga K "Tally") "mark") (D ("Tally", some "mark")) ["self"] (spMark K) := by
  refine T.Tally_mark.F.ok sc_Tally_mark (fun vs H Q E h => ?_) (fun cdv A outer s H vs Q E hr h => ?_)
  · obtain ⟨t, r, k, o, row, rfl, _⟩ := h
    rfl
  · obtain ⟨t, r, k, o, row, rfl, S, hl, kq⟩ := h
    have fcTally := T.cTally.cl; have fnTallyrow := T.n_Tally_row; have fnTallyranks := T.n_Tally_ranks; have fnTallyoften := T.n_Tally_often; have fnTallytotal := T.n_Tally_total; have fnTallypairs := T.n_Tally_pairs
    obtain ⟨⟨dx, h1⟩, h2, h3, ⟨kvs, h4, h5⟩, _⟩ := id S
    refine ⟨_, PSs.nox (pss_cons (ps_set (i := 1) sc_Tally_mark.nd rfl (Or.inl rfl) pe_int)
      (pss_cons (ps_for PassesOwn.never rfl (pi_listK (K := K) rfl (pe_fldK (K := K) rfl (pv 0) rfl)) (pg_name (i := 2) sc_Tally_mark.nd rfl (Or.inl rfl))
      (pss_one (ps_set (i := 1) sc_Tally_mark.nd rfl (Or.inl rfl) (pe_op op_mod (pe_op op_add (pe_op op_mul (pv 1) (pe_globI (by rfl) T.c_MARK_TIMES)) (pv 2)) (pe_globI (by rfl) T.c_MARK_ROUND)))))
      (pss_one (ps_ret (pv 1))))), ?_⟩
    walk_at "in"
    refine R_forL (xs := row.map V.int) (fun i σ' H' => ∃ (v : Option V), σ' = [some (.ref t), some (.int (mark (row.take i))), v] ∧ H' = H) ⟨none, rfl, rfl⟩ (fun i σ' H' _ ⟨v, _, e⟩ => by rw [e]; exact SqL.of h2) ?_ ?_
    · rintro i x σ' H' hx ⟨v, rfl, rfl⟩
      obtain ⟨z, hz, rfl⟩ : ∃ z, row[i]? = some z ∧ x = V.int z := by
        rw [List.getElem?_map] at hx
        cases e : row[i]? with
        | none => rw [e] at hx; cases hx
        | some z => rw [e] at hx; exact ⟨z, rfl, (Option.some.inj hx).symm⟩
      walk_at "go"
      refine ⟨some (.int z), ?_, rfl⟩
      have e : mark (row.take (i + 1)) = (mark (row.take i) * 31 + z) % 1000003 := by
        rw [List.take_add_one, hz]
        exact mark_snoc _ _
      rw [e]
      rfl
    · rintro σ' H' ⟨v, rfl, rfl⟩
      walk_at "go"
      rw [mapint_len, List.take_length]
      exact kq
end
end LF

set_option maxRecDepth 100000
set_option maxHeartbeats 4000000
namespace LF
open PySem PySem.Spec PyProof.Rows L2

end LF
open PySem PySem.Spec PyProof.Rows L2 LF
local macro_rules | `(tactic| walk_at "st") => `(tactic| first | with_reducible refine E_callS ?_ | with_reducible refine E_methW ?_ | with_reducible refine E_makeW ?_)
namespace LF
open PySem PySem.Spec PyProof.Rows L2

local macro_rules | `(tactic| walk_at "wv") => `(tactic| (unfold wordV; (repeat (first | rw [if_neg (by decide +kernel)] | rw [if_pos rfl] | dsimp only))))
theorem wv_many (row : List Int) : wordV row "many" = .int (row.length : Nat) := by walk_at "wv"
theorem wv_sum (row : List Int) : wordV row "sum" = .int row.sum := by walk_at "wv"
theorem wv_unlike (row : List Int) : wordV row "unlike" = .int (unlike row : Nat) := by walk_at "wv"
theorem wv_wrong (row : List Int) : wordV row "wrong" = .int (inv row : Nat) := by walk_at "wv"
theorem wv_rising (row : List Int) : wordV row "rising" = .int (ris row : Nat) := by walk_at "wv"
theorem wv_mark (row : List Int) : wordV row "mark" = .int (mark row) := by walk_at "wv"
theorem wv_first (x : Int) (r : List Int) : wordV (x :: r) "first" = .int x := by walk_at "wv"
theorem wv_last (x : Int) (r : List Int) : wordV (x :: r) "last" = .int ((x :: r).getLast (List.cons_ne_nil _ _)) := by walk_at "wv"
theorem wv_commonest (x : Int) (r : List Int) : wordV (x :: r) "commonest" = .int (common (x :: r)) := by walk_at "wv"
theorem wv_middle (x : Int) (r : List Int) : wordV (x :: r) "middle" = .int ((srt (x :: r)).getD (r.length / 2) 0) := by walk_at "wv"
theorem wv_least (x : Int) (r : List Int) : wordV (x :: r) "least" = .int ((srt (x :: r)).getD 0 0) := by walk_at "wv"
theorem wv_greatest (x : Int) (r : List Int) : wordV (x :: r) "greatest" = .int ((srt (x :: r)).getD r.length 0) := by walk_at "wv"
theorem wv_nil {nm : Str} (h : nm ∈ names6) : wordV [] nm = .non := by
  simp only [names6, List.mem_cons, List.not_mem_nil, or_false] at h
  rcases h with rfl | rfl | rfl | rfl | rfl | rfl <;> walk_at "wv"
theorem in6 {nm : Str} (h : nm ∈ names6) : inV (.str nm) [.str "first", .str "last", .str "least", .str "greatest", .str "middle", .str "commonest"] = true := by
  simp only [names6, List.mem_cons, List.not_mem_nil, or_false] at h
  rcases h with rfl | rfl | rfl | rfl | rfl | rfl <;> decide +kernel
theorem at_neg1 (l : List Int) (h : l ≠ []) : atI (l.map V.int) (-1) = some (.int (l.getLast h)) := by
  have e : l = l.dropLast ++ [l.getLast h] := (List.dropLast_concat_getLast h).symm
  have q := atI_last (l.dropLast.map V.int) (.int (l.getLast h))
  rw [← map_snoc, ← e] at q
  exact q
theorem getLast_srt {l : List Int} (n : Nat) (hn : l.length = n + 1) (h : srt l ≠ []) : (srt l).getLast h = (srt l).getD n 0 := by
  have hl := srt_length l
  rw [List.getLast_eq_getElem, List.getD_eq_getElem?_getD, List.getElem?_eq_getElem (by omega)]
  show _ = (srt l)[n]
  congr 1
  omega
theorem inV_strs {nm : Str} : ∀ l : List Str, inV (.str nm) (l.map V.str) = decide (nm ∈ l)
  | [] => rfl
  | a :: r => by
    have ih := inV_strs (nm := nm) r
    have e : inV (.str nm) ((a :: r).map V.str) = ((a == nm) || inV (.str nm) (r.map V.str)) := rfl
    rw [e, ih]
    by_cases h : a = nm
    · subst h
      simp
    · have h2 : ¬ nm = a := fun q => h q.symm
      simp [h, h2]
theorem out6 {nm : Str} (h : nm ∉ names6) : inV (.str nm) [.str "first", .str "last", .str "least", .str "greatest", .str "middle", .str "commonest"] = false := (inV_strs names6).trans (decide_eq_false h)
def spOneX (K : PySem.W.Frag) : Sp := fun vs H Q E => ∃ (t r k o : Addr) (row : List Int) (nm : Str), vs = [.ref t, .str nm] ∧ TAt K H t r k o row ∧ row.length ≤ 1000 ∧ (nm ∈ names6 → ∀ H', Same H H' → Q (wordV row nm) H') ∧ (nm ∉ names6 → ∀ H', Same H H' → E (exC K "NoWord") none H')
def spWordX (K : PySem.W.Frag) : Sp := fun vs H Q E => ∃ (t r k o : Addr) (row : List Int) (nm : Str), vs = [.ref t, .str nm] ∧ TAt K H t r k o row ∧ row.length ≤ 1000 ∧ (nm ∈ names12 → ∀ H', Same H H' → Q (wordV row nm) H') ∧ (nm ∉ names12 → ∀ H', Same H H' → E (exC K "NoWord") none H')
section
variable {P : Program} {w : World} {K : PySem.W.Frag} {mg : Str → Option Value} {base : Heap} {D : Str × Option Str → FuncData}
theorem ok_Tally_one (T : Txt K mg D) : FnOk P w K mg base (L2.CX P w) 1 (He.ma K (He.ga K "Tally") "one") (D ("Tally", some "one")) ["self", "name"] (spOneX K) := by
  refine T.Tally_one.F.ok sc_Tally_one (fun vs H Q E h => ?_) (fun cdv A outer s H vs Q E hr h => ?_)
  · obtain ⟨t, r, k, o, row, nm, rfl, _⟩ := h
    rfl
  · obtain ⟨t, r, k, o, row, nm, rfl, S, hl, kq, kx⟩ := h
    have hu := hu_of hr
    have fcTally := T.cTally.cl; have fnTallyrow := T.n_Tally_row; have fnTallyranks := T.n_Tally_ranks; have fnTallyoften := T.n_Tally_often; have fnTallytotal := T.n_Tally_total; have fnTallypairs := T.n_Tally_pairs
    obtain ⟨a1, a2, a3, a4, a5, a6⟩ := S.apart
    obtain ⟨⟨dx, h1⟩, h2, h3, ⟨kvs, h4, h5⟩, _⟩ := id S
    have hs := srt_length row
    refine ⟨_, (pss_cons (ps_if (pt_cmpR (op_notIn_seqK (K := K) rfl) (pv 1) (pe_tup (pa_cons pe_str (pa_cons pe_str (pa_cons pe_str (pa_cons pe_str (pa_cons pe_str (pa_cons pe_str pa_nil))))))) (by rfl)) (pss_one (ps_raise rfl (takes_of rfl rfl rfl rfl) (pmk_own PySem.F.excBase_ValueError T.x_NoWord.e T.x_NoWord.g T.x_NoWord.k (raises_own T.x_NoWord.s T.x_NoWord.t) (by rfl)))) pss_nil)
      (pss_cons (ps_if (pt_not (pt_truK (K := K) rfl (pe_fldK (K := K) rfl (pv 0) rfl) (by intro _; rfl))) (pss_one (ps_ret pe_non)) pss_nil)
      (pss_cons (ps_if (pt_cmpR (op_in_seqK (K := K) rfl) (pv 1) (pe_tup (pa_cons pe_str (pa_cons pe_str pa_nil))) (by rfl)) (pss_one (ps_ret (pe_ix (ix_listK (K := K) rfl) (pe_fldK (K := K) rfl (pv 0) rfl) (pe_ifExp (pt_cmpR op_eq (pv 1) pe_str (nomark _)) pe_int (pe_un un_neg pe_int)) (fun _ _ => rfl)))) pss_nil)
      (pss_cons (ps_if (pt_cmpR op_eq (pv 1) pe_str (nomark _)) (pss_one (ps_ret (pe_ix (ix_tupK (K := K) rfl) (pe_callB (cr_minPK (K := K) rfl rfl (by exact hr.units)) (by rfl) T.z_min (by decide +kernel) (pa_cons (pe_lock (pe_lc (own := [("thing", 2)]) (g := gName 2) (tt := tYes) (by rfl) sc_Tally_one.nd (pi_keys (pe_fldK (K := K) rfl (pv 0) rfl)) (blkOk_by (by kernel_rfl)) (fun _ _ _ _ _ => pg_name (i := 2) sc_Tally_one.nd rfl (Or.inl rfl)) (fun _ _ _ _ _ => pts_nil) (fun _ _ _ _ _ => (pe_tup (pa_cons (pe_un un_neg (pe_dget (by exact hu) (pe_fldK (K := K) rfl (pv 0) rfl) (pv 2) (fun _ _ => rfl))) (pa_cons (pv 2) pa_nil)))))) pa_nil)) pe_int (fun _ _ => rfl)))) pss_nil)
      (pss_cons (ps_if (pt_cmpR op_eq (pv 1) pe_str (nomark _)) (pss_one (ps_ret (pe_ix (ix_listK (K := K) rfl) (pe_fldK (K := K) rfl (pv 0) rfl) (pe_op op_fdiv (pe_op op_sub (pe_callB (call_lenK (K := K) rfl) (by rfl) T.z_len PySem.boot_len (pa_cons (pe_fldK (K := K) rfl (pv 0) rfl) pa_nil)) pe_int) pe_int) (fun _ _ => rfl)))) pss_nil)
      (pss_one (ps_ret (pe_ix (ix_listK (K := K) rfl) (pe_fldK (K := K) rfl (pv 0) rfl) (pe_ifExp (pt_cmpR op_eq (pv 1) pe_str (nomark _)) pe_int (pe_un un_neg pe_int)) (fun _ _ => rfl))))))))), ?_⟩
    walk_at "in"
    walk_at "tup"
    walk_at "go"
    by_cases hn : nm ∈ names6
    rotate_left
    · rw [if_pos rfl, out6 hn]
      refine iteT ?_
      walk_at "go"
      exact kx hn _ (by walk_at "sm")
    have kq := kq hn
    rw [if_pos rfl, in6 hn]
    refine iteF ?_
    walk_at "go"
    cases row with
    | nil =>
      refine iteT ?_
      walk_at "go"
      rw [← wv_nil hn]
      exact kq _ (by walk_at "sm")
    | cons x r0 =>
      refine iteF ?_
      walk_at "go"
      simp only [names6, List.mem_cons, List.not_mem_nil, or_false] at hn
      have h2 : H r = some (HO.lst (V.int x :: r0.map V.int)) := h2
      rw [List.length_cons] at hs hl
      have hsn : srt (x :: r0) ≠ [] := fun e => by rw [e] at hs; cases hs
      rcases hn with rfl | rfl | rfl | rfl | rfl | rfl
      · walk_at "go2"
        refine R_ixL (by walk_at "sq") (at_of (j := 0) rfl rfl) ?_
        rw [← wv_first x r0]
        exact kq _ (by walk_at "sm")
      · walk_at "go2"
        refine R_ixL (xs := (x :: r0).map V.int) (by walk_at "sq") (at_neg1 _ (List.cons_ne_nil _ _)) ?_
        rw [← wv_last x r0]
        exact kq _ (by walk_at "sm")
      · walk_at "go2"
        refine R_ixL (by walk_at "sq") (at_int 0 rfl (by omega)) ?_
        have e := wv_least x r0
        rw [List.getD_eq_getElem?_getD, List.getElem?_eq_getElem (by omega)] at e
        have e : wordV (x :: r0) "least" = .int ((srt (x :: r0))[0]'(by omega)) := e
        rw [← e]
        exact kq _ (by walk_at "sm")
      · walk_at "go2"
        refine R_ixL (by walk_at "sq") (at_neg1 _ hsn) ?_
        rw [getLast_srt r0.length rfl, ← wv_greatest x r0]
        exact kq _ (by walk_at "sm")
      · walk_at "go2"
        refine R_ixL (by walk_at "sq") (at_int (r0.length / 2) (by rw [mapint_len, hs]; omega) (by omega)) ?_
        have e := wv_middle x r0
        rw [List.getD_eq_getElem?_getD, List.getElem?_eq_getElem (by omega)] at e
        have e : wordV (x :: r0) "middle" = .int ((srt (x :: r0))[r0.length / 2]'(by omega)) := e
        rw [← e]
        exact kq _ (by walk_at "sm")
      · walk_at "go2"
        have ho : ∀ {Hx : Hp}, Same H Hx → Hx o = some (.dK kvs) := fun e => e _ _ h4
        refine E_lock (d := o) (u := .dK kvs) (ho (by walk_at "sm")) True.intro fun od => ?_
        walk_at "go"
        refine R_ik upd_same ?_
        refine R_lcPairK (ns := kvs.map fun q => kInt q.1) (pairOf (x :: r0)) h5.names upd_same (by rw [List.length_map, h5.len]; exact Nat.le_trans (unlike_le _) (by rw [List.length_cons]; omega)) (fun y H' hy sm Q' kQ => ?_) (fun D H' hD PI => ?_)
        · have g1 := sm t _ (show _ = some (HO.ins (He.ga K "Tally") dx (tfl r k o (x :: r0).sum (inv (x :: r0) : Nat))) by walk_at "hp")
          have g2 := sm o _ upd_same
          have hc : valV kvs (Sum.inl y : Key) = some (.int ((x :: r0).count y : Nat)) := by
            have := List.count_pos_iff.mpr ((h5.ints_mem y).mp hy)
            rw [h5.at_ y, if_neg (by omega)]
          refine E_tupA ?_
          walk_at "go"
          refine R_getF g2 hc ?_
          walk_at "go"
          refine R_tupA (Nat.le_of_ble_eq_true rfl) fun q nq => ?_
          exact kQ q _ nq (by walk_at "sm") upd_same
        · refine ⟨PI.1 _ _ upd_same, ?_⟩
          have g2 := PI.1 o _ upd_same
          have nD : D ≠ o := ne_nn2 hD upd_same
          have sx := same_lock (ho (by walk_at "sm")) PI.1
          have PJ := PI.same (H4 := upd H' o (.dK kvs)) (fun b u e z => by
            have hb : b ≠ o := by
              rcases z with rfl | ⟨_, _, rfl⟩
              · exact nD
              · exact ne_of e g2 (by intro z; cases z)
            rw [upd_ne hb]
            exact e) sx
          walk_at "go"
          have hne : (kvs.map fun q => kInt q.1).map (pairOf (x :: r0)) ≠ [] := fun e => by
            have m := (h5.ints_mem x).mpr List.mem_cons_self
            rw [List.map_eq_nil_iff.mp e] at m
            cases m
          refine R_minP PJ hne fun q a b hq hm hle => ?_
          walk_at "go"
          refine R_ixT (SqT.of hq) (v := .int b) rfl ?_
          have eb : b = common (x :: r0) := by
            refine common_of (p := (a, b)) (List.cons_ne_nil _ _) ?_ fun z hz => hle _ (List.mem_map.mpr ⟨z, (h5.ints_mem z).mpr hz, rfl⟩)
            obtain ⟨z, hz, ez⟩ := List.mem_map.mp hm
            exact ⟨z, (h5.ints_mem z).mp hz, ez.symm⟩
          rw [eb, ← wv_commonest x r0]
          exact kq _ (Same.trans (by walk_at "sm") sx)
theorem ok_Tally_word (T : Txt K mg D) : FnOk P w K mg base (L2.CX P w) 2 (He.ma K (He.ga K "Tally") "word") (D ("Tally", some "word")) ["self", "name"] (spWordX K) := by
  refine T.Tally_word.F.ok sc_Tally_word (fun vs H Q E h => ?_) (fun cdv A outer s H vs Q E hr h => ?_)
  · obtain ⟨t, r, k, o, row, nm, rfl, _⟩ := h
    rfl
  · obtain ⟨t, r, k, o, row, nm, rfl, S, hl, kq, kx⟩ := h
    have hu := hu_of hr
    have fcTally := T.cTally.cl; have fnTallyrow := T.n_Tally_row; have fnTallyranks := T.n_Tally_ranks; have fnTallyoften := T.n_Tally_often; have fnTallytotal := T.n_Tally_total; have fnTallypairs := T.n_Tally_pairs
    obtain ⟨a1, a2, a3, a4, a5, a6⟩ := S.apart
    obtain ⟨⟨dx, h1⟩, h2, h3, ⟨kvs, h4, h5⟩, _⟩ := id S
    have h4' := h4
    refine ⟨_, (pss_cons (ps_if (pt_cmpR op_eq (pv 1) pe_str (nomark _)) (pss_one (ps_ret (pe_callB (call_lenK (K := K) rfl) (by rfl) T.z_len PySem.boot_len (pa_cons (pe_fldK (K := K) rfl (pv 0) rfl) pa_nil)))) pss_nil)
      (pss_cons (ps_if (pt_cmpR op_eq (pv 1) pe_str (nomark _)) (pss_one (ps_ret (pe_fldK (K := K) rfl (pv 0) rfl))) pss_nil)
      (pss_cons (ps_if (pt_cmpR op_eq (pv 1) pe_str (nomark _)) (pss_one (ps_ret (pe_callB call_lenD (by rfl) T.z_len PySem.boot_len (pa_cons (pe_fldK (K := K) rfl (pv 0) rfl) pa_nil)))) pss_nil)
      (pss_cons (ps_if (pt_cmpR op_eq (pv 1) pe_str (nomark _)) (pss_one (ps_ret (pe_fldK (K := K) rfl (pv 0) rfl))) pss_nil)
      (pss_cons (ps_if (pt_cmpR op_eq (pv 1) pe_str (nomark _)) (pss_one (ps_ret (pe_meth0 (pv 0) T.cTally.cl T.Tally_rising.me (ok_Tally_rising T) (by exact hr.mono (by decide)) T.Tally_rising.b .nil pass0))) pss_nil)
      (pss_cons (ps_if (pt_cmpR op_eq (pv 1) pe_str (nomark _)) (pss_one (ps_ret (pe_meth0 (pv 0) T.cTally.cl T.Tally_mark.me (ok_Tally_mark T) (by exact hr.mono (by decide)) T.Tally_mark.b .nil pass0))) pss_nil)
      (pss_one (ps_ret (pe_methW (pv 0) T.cTally.cl T.Tally_one.me (ok_Tally_one T) (by exact hr.mono (by decide)) T.Tally_one.b (fun σ => passAt (takes_of rfl rfl rfl rfl) σ) (pa_cons (pv 1) pa_nil)))))))))), ?_⟩
    walk_at "in"
    have hv : ∀ {a b : Str}, a ≠ b → ¬ V.str a = V.str b := fun h e => h (V.str.inj e)
    by_cases e1 : nm = "many"
    · subst e1
      refine iteBT (decide_eq_true rfl) ?_
      walk_at "go"
      rw [mapint_len, ← wv_many row]
      exact kq (by decide +kernel) _ (Same.refl _)
    refine iteBF (decide_eq_false (hv e1)) ?_
    walk_at "go"
    by_cases e2 : nm = "sum"
    · subst e2
      refine iteBT (decide_eq_true rfl) ?_
      walk_at "go"
      rw [← wv_sum row]
      exact kq (by decide +kernel) _ (Same.refl _)
    refine iteBF (decide_eq_false (hv e2)) ?_
    walk_at "go"
    by_cases e3 : nm = "unlike"
    · subst e3
      refine iteBT (decide_eq_true rfl) ?_
      walk_at "go"
      refine ⟨o, kvs, rfl, h4, ?_⟩
      rw [h5.len, ← wv_unlike row]
      exact kq (by decide +kernel) _ (Same.refl _)
    refine iteBF (decide_eq_false (hv e3)) ?_
    walk_at "go"
    by_cases e4 : nm = "wrong"
    · subst e4
      refine iteBT (decide_eq_true rfl) ?_
      walk_at "go"
      rw [← wv_wrong row]
      exact kq (by decide +kernel) _ (Same.refl _)
    refine iteBF (decide_eq_false (hv e4)) ?_
    walk_at "go"
    by_cases e5 : nm = "rising"
    · subst e5
      refine iteBT (decide_eq_true rfl) ?_
      walk_at "go"
      refine ⟨t, r, k, o, row, rfl, S, hl, ?_⟩
      walk_at "go"
      rw [← wv_rising row]
      exact kq (by decide +kernel) _ (Same.refl _)
    refine iteBF (decide_eq_false (hv e5)) ?_
    walk_at "go"
    by_cases e6 : nm = "mark"
    · subst e6
      refine iteBT (decide_eq_true rfl) ?_
      walk_at "go"
      refine ⟨t, r, k, o, row, rfl, S, hl, ?_⟩
      walk_at "go"
      rw [← wv_mark row]
      exact kq (by decide +kernel) _ (Same.refl _)
    refine iteBF (decide_eq_false (hv e6)) ?_
    walk_at "go"
    have hn6 : nm ∈ names12 ↔ nm ∈ names6 := by
      simp only [names12, names6, List.mem_cons, List.not_mem_nil, or_false, e1, e2, e3, e4, e5, e6, false_or]
    exact ⟨t, r, k, o, row, nm, rfl, S, hl, fun q => kq (hn6.mpr q), fun q => kx fun z => q (hn6.mp z)⟩
end
end LF


set_option maxRecDepth 100000
set_option maxHeartbeats 4000000
namespace LF
open PySem PySem.Spec PyProof.Rows L2



def okSz (z : Int) : Prop := 1 ≤ z ∧ z ≤ 1000
def spLookX (K : PySem.W.Frag) : Sp := fun vs H Q E => ∃ z : Int, vs = [.int z] ∧ (okSz z → Q .non H) ∧ (¬ okSz z → E (exC K "BadWindow") none H)
theorem okSz.nat {z : Int} (h : okSz z) : ∃ n : Nat, z = (n : Int) ∧ 1 ≤ n ∧ n ≤ 1000 := by
  obtain ⟨h1, h2⟩ := h
  exact ⟨z.toNat, by omega, by omega, by omega⟩
theorem okSz.of {n : Nat} (h1 : 1 ≤ n) (h2 : n ≤ 1000) : okSz (n : Int) := ⟨by omega, by omega⟩
section
variable {P : Program} {w : World} {K : PySem.W.Frag} {mg : Str → Option Value} {base : Heap} {D : Str × Option Str → FuncData}
theorem ok_look_size (T : Txt K mg D) : FnOk P w K mg base (L2.CX P w) 1 (He.ga K "look_size") (D ("look_size", none)) ["size"] (spLookX K) := by
  refine T.look_size.F.ok sc_look_size (fun vs H Q E h => ?_) (fun cdv A outer s H vs Q E hr h => ?_)
  · obtain ⟨n, rfl, _⟩ := h
    rfl
  · obtain ⟨n, rfl, kq, kx⟩ := h
    refine ⟨_, (pss_one (ps_if (pt_not (pt_chain op_le op_le pe_int (pv 0) (pe_globI (by rfl) T.c_MOST))) (pss_one (ps_raise rfl (takes_of rfl rfl rfl rfl) (pmk_own PySem.F.excBase_ValueError T.x_BadWindow.e T.x_BadWindow.g T.x_BadWindow.k (raises_own T.x_BadWindow.s T.x_BadWindow.t) (by rfl)))) pss_nil)), ?_⟩
    walk_at "in"
    by_cases h1 : 1 ≤ n
    · refine iteBT (decide_eq_true h1) ?_
      walk_at "go"
      by_cases h2 : n ≤ 1000
      · refine iteBF (by rw [decide_eq_true h2]; rfl) ?_
        walk_at "go"
        exact kq ⟨h1, h2⟩
      · refine iteBT (by rw [decide_eq_false h2]; rfl) ?_
        walk_at "go"
        exact kx fun q => h2 q.2
    · refine iteBF (decide_eq_false h1) ?_
      walk_at "go"
      refine iteBT rfl ?_
      walk_at "go"
      exact kx fun q => h1 q.1
end
end LF

set_option maxRecDepth 100000
set_option maxHeartbeats 4000000
namespace LF
open PySem PySem.Spec PyProof.Rows L2


/-! ### a Window in the heap -/
structure WAt (K : PySem.W.Frag) (H : Hp) (wi t r k o : Addr) (n : Nat) (row : List Int) : Prop where
  ob : ∃ dx, H wi = some (.ins (He.ga K "Window") dx (wfl n t))
  ta : TAt K H t r k o row
  n1 : 1 ≤ n
  n2 : n ≤ 1000
  le : row.length ≤ n
def wput (n : Nat) (row : List Int) (x : Int) : List Int := if row.length = n then row.tail ++ [x] else row ++ [x]
def wgone (n : Nat) (row : List Int) : V := if row.length = n then .int (row.headD 0) else .non
theorem WAt.same {K : PySem.W.Frag} {H H' : Hp} {wi t r k o : Addr} {n : Nat} {row : List Int} (S : WAt K H wi t r k o n row) (e1 : ∀ b u, (b = wi ∨ b = t ∨ b = r ∨ b = k ∨ b = o) → H b = some u → H' b = some u) : WAt K H' wi t r k o n row := by
  obtain ⟨⟨dx, h1⟩, h2, h3, h4, h5⟩ := S
  exact ⟨⟨dx, e1 _ _ (.inl rfl) h1⟩, h2.same fun b u h => e1 b u (.inr h), h3, h4, h5⟩
theorem WAt.ex {K : PySem.W.Frag} {H H' : Hp} {wi t r k o : Addr} {n : Nat} {row : List Int} (S : WAt K H wi t r k o n row) (e : Same H H') : WAt K H' wi t r k o n row := S.same fun b u _ h => e b u h
theorem WAt.apart {K : PySem.W.Frag} {H : Hp} {wi t r k o : Addr} {n : Nat} {row : List Int} (S : WAt K H wi t r k o n row) : wi ≠ t ∧ wi ≠ r ∧ wi ≠ k ∧ wi ≠ o := by
  obtain ⟨⟨dx, h1⟩, ⟨⟨dy, g1⟩, g2, g3, ⟨kvs, g4, _⟩, _⟩, _⟩ := S
  refine ⟨ne_of h1 g1 fun z => ?_, ne_of h1 g2 (by intro z; cases z), ne_of h1 g3 (by intro z; cases z), ne_of h1 g4 (by intro z; cases z)⟩
  injection z with _ _ z3
  unfold wfl tfl at z3
  injection z3 with z4 z5
  injection z5 with z6 z7
  cases z7
def spWInitX (K : PySem.W.Frag) : Sp := fun vs H Q E => ∃ (wi dx : Addr) (z : Int), vs = [.ref wi, .int z] ∧ H wi = some (.ins (He.ga K "Window") dx []) ∧ (¬ okSz z → E (exC K "BadWindow") none H) ∧ (∀ n : Nat, z = n → 1 ≤ n → n ≤ 1000 →
  ∀ (t r k o : Addr) (H' : Hp), H t = none → H r = none → H k = none → H o = none → WAt K H' wi t r k o n [] → (∀ b u, H b = some u → b ≠ wi → H' b = some u) → Q .non H')
def spWPut (K : PySem.W.Frag) : Sp := fun vs H Q _ => ∃ (wi t r k o : Addr) (n : Nat) (row : List Int) (x : Int), vs = [.ref wi, .int x] ∧ WAt K H wi t r k o n row ∧
  ∀ H', WAt K H' wi t r k o n (wput n row x) → Keep H H' t r k o → Q (wgone n row) H'
def spWThings (K : PySem.W.Frag) : Sp := fun vs H Q _ => ∃ (wi t r k o : Addr) (n : Nat) (row : List Int), vs = [.ref wi] ∧ WAt K H wi t r k o n row ∧
  ∀ l H', H l = none → Same H H' → H' l = some (.lst (row.map V.int)) → Q (.ref l) H'
def spWWordX (K : PySem.W.Frag) : Sp := fun vs H Q E => ∃ (wi t r k o : Addr) (n : Nat) (row : List Int) (nm : Str), vs = [.ref wi, .str nm] ∧ WAt K H wi t r k o n row ∧ (nm ∈ names12 →
  ∀ H', Same H H' → Q (wordV row nm) H') ∧ (nm ∉ names12 → ∀ H', Same H H' → E (exC K "NoWord") none H')
section
variable {P : Program} {w : World} {K : PySem.W.Frag} {mg : Str → Option Value} {base : Heap} {D : Str × Option Str → FuncData}
theorem ok_Window_init (T : Txt K mg D) : FnOk P w K mg base (L2.CX P w) 3 (He.ma K (He.ga K "Window") "__init__") (D ("Window", some "__init__")) ["self", "size"] (spWInitX K) := by
  refine T.Window_init.F.ok sc_Window_init (fun vs H Q E h => ?_) (fun cdv A outer s H vs Q E hr h => ?_)
  · obtain ⟨wi, dx, n, rfl, _⟩ := h
    rfl
  · obtain ⟨wi, dx, z, rfl, h1, kx, kq⟩ := h
    have fcWindow := T.cWindow.cl; have fnWindowsize := T.n_Window_size; have fnWindowtally := T.n_Window_tally
    by_cases hz : okSz z
    rotate_left
    · refine ⟨_, (pss_cons (ps_expr (pe_callS (ok_look_size T) (by exact hr.mono (by decide)) (by rfl) T.look_size.g T.look_size.F.kp T.look_size.b (fun σ => passAt (takes_of rfl rfl rfl rfl) σ) (pa_cons (pv 1) pa_nil)))
      (pss_cons (ps_fldK (K := K) rfl (pv 0) (pv 1) rfl)
      (pss_one (ps_fldK (K := K) rfl (pv 0) (pe_make0 T.cTally.mkr (ok_Tally_init T) (by exact hr.mono (by decide)) (by rfl) T.cTally.g T.Tally_init.b .nil pass0) rfl)))), ?_⟩
      walk_at "in"
      exact ⟨z, rfl, fun q => absurd q hz, fun _ => kx hz⟩
    obtain ⟨n, rfl, n1, n2⟩ := hz.nat
    have kq := kq n rfl n1 n2
    refine ⟨_, (pss_cons (ps_expr (pe_callS (ok_look_size T) (by exact hr.mono (by decide)) (by rfl) T.look_size.g T.look_size.F.kp T.look_size.b (fun σ => passAt (takes_of rfl rfl rfl rfl) σ) (pa_cons (pv 1) pa_nil)))
      (pss_cons (ps_fldK (K := K) rfl (pv 0) (pv 1) rfl)
      (pss_one (ps_fldK (K := K) rfl (pv 0) (pe_make0 T.cTally.mkr (ok_Tally_init T) (by exact hr.mono (by decide)) (by rfl) T.cTally.g T.Tally_init.b .nil pass0) rfl)))), ?_⟩
    walk_at "in"
    refine ⟨n, rfl, fun _ => ?_, fun q => absurd hz q⟩
    walk_at "go"
    intro t dy nt ndy ne
    have a1 : wi ≠ t := ne_of_none (by walk_at "hp") nt
    have a2 : wi ≠ dy := ne_of_none (by walk_at "hp") ndy
    refine ⟨t, dy, rfl, upd_same, fun r k o H1 nr nk no TA kp => ⟨rfl, ?_⟩⟩
    have g1 := kp wi (.ins (He.ga K "Window") dx [("size", .int n)]) (by walk_at "hp") a1
    walk_at "go"
    have ndo : dy ≠ wi := a2.symm
    -- what is new
    have fr : ∀ b, (upd (upd (upd H wi (.ins (He.ga K "Window") dx [("size", .int n)])) dy (.own t)) t (.ins (He.ga K "Tally") dy [])) b = none → H b = none := fun b hb => by
      by_cases e1 : b = t
      · subst e1; rw [upd_same] at hb; cases hb
      rw [upd_ne e1] at hb
      by_cases e2 : b = dy
      · subst e2; rw [upd_same] at hb; cases hb
      rw [upd_ne e2] at hb
      by_cases e3 : b = wi
      · subst e3; rw [upd_same] at hb; cases hb
      rw [upd_ne e3] at hb
      exact hb
    have nt' : H t = none := by rw [upd_ne a1.symm] at nt; exact nt
    have ndy' : H dy = none := by rw [upd_ne a2.symm] at ndy; exact ndy
    have b2 : wi ≠ r := ne_of_none h1 (fr _ nr)
    have b3 : wi ≠ k := ne_of_none h1 (fr _ nk)
    have b4 : wi ≠ o := ne_of_none h1 (fr _ no)
    refine kq t r k o _ nt' (fr _ nr) (fr _ nk) (fr _ no) ⟨⟨dx, upd_same⟩, TA.same fun b u z e => ?_, n1, n2, Nat.zero_le _⟩ fun b u e hb => ?_
    · have hb : b ≠ wi := by
        rcases z with rfl | rfl | rfl | rfl
        · exact a1.symm
        · exact b2.symm
        · exact b3.symm
        · exact b4.symm
      walk_at "hp"
    · rw [upd_ne hb]
      have c1 : b ≠ t := ne_of_none e nt'
      have c2 : b ≠ dy := ne_of_none e ndy'
      exact kp b u (by walk_at "hp") c1
theorem ok_Window_put (T : Txt K mg D) : FnOk P w K mg base CX0 3 (He.ma K (He.ga K "Window") "put") (D ("Window", some "put")) ["self", "thing"] (spWPut K) := by
  refine T.Window_put.F.ok sc_Window_put (fun vs H Q E h => ?_) (fun cdv A outer s H vs Q E hr h => ?_)
  · obtain ⟨wi, t, r, k, o, n, row, x, rfl, _⟩ := h
    rfl
  · obtain ⟨wi, t, r, k, o, n, row, x, rfl, S, kq⟩ := h
    have fcWindow := T.cWindow.cl; have fnWindowsize := T.n_Window_size; have fnWindowtally := T.n_Window_tally; have fcTally := T.cTally.cl; have fnTallyrow := T.n_Tally_row; have fnTallyranks := T.n_Tally_ranks; have fnTallyoften := T.n_Tally_often; have fnTallytotal := T.n_Tally_total; have fnTallypairs := T.n_Tally_pairs
    obtain ⟨⟨dx, h1⟩, TA, n1, n2, hle⟩ := id S
    obtain ⟨⟨dy, g1⟩, g2, g3, ⟨kvs, g4, g5⟩, _⟩ := id TA
    obtain ⟨a1, a2, a3, a4⟩ := S.apart
    refine ⟨_, PSs.nox (pss_cons (ps_set (i := 2) sc_Window_put.nd rfl (Or.inl rfl) pe_non)
      (pss_cons (ps_if (pt_cmpR op_eq (pe_callB (call_lenK (K := K) rfl) (by rfl) T.z_len PySem.boot_len (pa_cons (pe_fldK (K := K) rfl (pe_fldK (K := K) rfl (pv 0) rfl) rfl) pa_nil)) (pe_fldK (K := K) rfl (pv 0) rfl) (nomark _)) (pss_one (ps_set (i := 2) sc_Window_put.nd rfl (Or.inl rfl) (pe_meth0 (pe_fldK (K := K) rfl (pv 0) rfl) T.cTally.cl T.Tally_drop.me (ok_Tally_drop T) (by exact hr.mono (by decide)) T.Tally_drop.b .nil pass0))) pss_nil)
      (pss_cons (ps_expr (pe_meth (pe_fldK (K := K) rfl (pv 0) rfl) T.cTally.cl T.Tally_add.me (ok_Tally_add T) (by exact hr.mono (by decide)) T.Tally_add.b .nil pass0 (pa_cons (pv 1) pa_nil)))
      (pss_one (ps_ret (pv 2)))))), ?_⟩
    walk_at "in"
    rw [mapint_len]
    by_cases hf : row.length = n
    · refine iteBT (decide_eq_true (by rw [hf])) ?_
      walk_at "go"
      cases row with
      | nil => exact absurd hf (by rw [List.length_nil]; omega)
      | cons y r0 =>
        rw [List.length_cons] at hf
        refine ⟨t, r, k, o, r0, y, rfl, TA, by omega, fun H1 TA1 kp1 => ?_⟩
        obtain ⟨⟨dz, f1⟩, _⟩ := id TA1
        have f2 := kp1 wi _ h1 a1 a2 a3 a4
        walk_at "go"
        refine ⟨t, r, k, o, r0, x, rfl, TA1, by omega, fun H2 TA2 kp2 => ?_⟩
        walk_at "go"
        have f3 := kp2 wi _ f2 a1 a2 a3 a4
        have e1 : wput n (y :: r0) x = r0 ++ [x] := if_pos hf
        have e2 : wgone n (y :: r0) = .int y := if_pos hf
        rw [← e2]
        exact kq H2 ⟨⟨dx, f3⟩, by rw [e1]; exact TA2, n1, n2, by rw [e1, List.length_append]; exact Nat.le_of_eq hf⟩ fun b u e b1 b2 b3 b4 => kp2 b u (kp1 b u e b1 b2 b3 b4) b1 b2 b3 b4
    · refine iteBF (decide_eq_false (fun e => hf (by have := V.int.inj e; omega))) ?_
      walk_at "go"
      refine ⟨t, r, k, o, row, x, rfl, TA, by omega, fun H2 TA2 kp2 => ?_⟩
      walk_at "go"
      have f3 := kp2 wi _ h1 a1 a2 a3 a4
      have e1 : wput n row x = row ++ [x] := if_neg hf
      have e2 : wgone n row = .non := if_neg hf
      rw [← e2]
      exact kq H2 ⟨⟨dx, f3⟩, by rw [e1]; exact TA2, n1, n2, by rw [e1, List.length_append, List.length_singleton]; omega⟩ kp2
theorem ok_Window_things (T : Txt K mg D) : FnOk P w K mg base CX0 1 (He.ma K (He.ga K "Window") "things") (D ("Window", some "things")) ["self"] (spWThings K) := by
  refine T.Window_things.F.ok sc_Window_things (fun vs H Q E h => ?_) (fun cdv A outer s H vs Q E hr h => ?_)
  · obtain ⟨wi, t, r, k, o, n, row, rfl, _⟩ := h
    rfl
  · obtain ⟨wi, t, r, k, o, n, row, rfl, S, kq⟩ := h
    have fcWindow := T.cWindow.cl; have fnWindowsize := T.n_Window_size; have fnWindowtally := T.n_Window_tally; have fcTally := T.cTally.cl; have fnTallyrow := T.n_Tally_row; have fnTallyranks := T.n_Tally_ranks; have fnTallyoften := T.n_Tally_often; have fnTallytotal := T.n_Tally_total; have fnTallypairs := T.n_Tally_pairs
    obtain ⟨⟨dx, h1⟩, TA, n1, n2, hle⟩ := id S
    obtain ⟨⟨dy, g1⟩, g2, g3, ⟨kvs, g4, g5⟩, _⟩ := id TA
    refine ⟨_, PSs.nox (pss_one (ps_ret (pe_callTy (call_listK (K := K) rfl) (by rfl) T.z_list (by decide +kernel) (pa_cons (pe_fldK (K := K) rfl (pe_fldK (K := K) rfl (pv 0) rfl) rfl) pa_nil)))), ?_⟩
    walk_at "in"
    intro l nl
    exact kq l _ nl (same_upd nl (Same.refl _)) upd_same
theorem ok_Window_word (T : Txt K mg D) : FnOk P w K mg base (L2.CX P w) 3 (He.ma K (He.ga K "Window") "word") (D ("Window", some "word")) ["self", "name"] (spWWordX K) := by
  refine T.Window_word.F.ok sc_Window_word (fun vs H Q E h => ?_) (fun cdv A outer s H vs Q E hr h => ?_)
  · obtain ⟨wi, t, r, k, o, n, row, nm, rfl, _⟩ := h
    rfl
  · obtain ⟨wi, t, r, k, o, n, row, nm, rfl, S, kq, kx⟩ := h
    have fcWindow := T.cWindow.cl; have fnWindowsize := T.n_Window_size; have fnWindowtally := T.n_Window_tally; have fcTally := T.cTally.cl; have fnTallyrow := T.n_Tally_row; have fnTallyranks := T.n_Tally_ranks; have fnTallyoften := T.n_Tally_often; have fnTallytotal := T.n_Tally_total; have fnTallypairs := T.n_Tally_pairs
    obtain ⟨⟨dx, h1⟩, TA, n1, n2, hle⟩ := id S
    obtain ⟨⟨dy, g1⟩, g2, g3, ⟨kvs, g4, g5⟩, _⟩ := id TA
    refine ⟨_, (pss_one (ps_ret (pe_methW (pe_fldK (K := K) rfl (pv 0) rfl) T.cTally.cl T.Tally_word.me (ok_Tally_word T) (by exact hr.mono (by decide)) T.Tally_word.b (fun σ => passAt (takes_of rfl rfl rfl rfl) σ) (pa_cons (pv 1) pa_nil)))), ?_⟩
    walk_at "in"
    exact ⟨t, r, k, o, row, nm, rfl, TA, by omega, kq, kx⟩
end
end LF


set_option maxRecDepth 100000
set_option maxHeartbeats 4000000
namespace LF
open PySem PySem.Spec PyProof.Rows L2



/-! ### a Timed in the heap -/
structure ZAt (K : PySem.W.Frag) (H : Hp) (zi tm t r k o : Addr) (n : Nat) (now : Int) (ps : List (Int × Int)) : Prop where
  ob : ∃ dx, H zi = some (.ins (He.ga K "Timed") dx (zfl n now tm t))
  tl : H tm = some (.lst ((ps.map (·.1)).map V.int))
  ta : TAt K H t r k o (ps.map (·.2))
  n1 : 1 ≤ n
  n2 : n ≤ 1000
  mr : tm ≠ r
  mk_ : tm ≠ k
def KeepZ (H H' : Hp) (zi tm t r k o : Addr) : Prop := ∀ b u, H b = some u → b ≠ zi → b ≠ tm → b ≠ t → b ≠ r → b ≠ k → b ≠ o → H' b = some u
theorem zt_ne {n now : Int} {tm t r k o : Addr} {T P : Int} : zfl n now tm t ≠ tfl r k o T P := fun e => absurd (show (4 : Nat) = 5 from congrArg List.length e) (by decide)
theorem ZAt.same {K : PySem.W.Frag} {H H' : Hp} {zi tm t r k o : Addr} {n : Nat} {now : Int} {ps : List (Int × Int)} (S : ZAt K H zi tm t r k o n now ps)
    (e1 : ∀ b u, (b = zi ∨ b = tm ∨ b = t ∨ b = r ∨ b = k ∨ b = o) → H b = some u → H' b = some u) : ZAt K H' zi tm t r k o n now ps := by
  obtain ⟨⟨dx, h1⟩, h2, h3, h4, h5, h6, h7⟩ := S
  exact ⟨⟨dx, e1 _ _ (.inl rfl) h1⟩, e1 _ _ (.inr (.inl rfl)) h2, h3.same fun b u h => e1 b u (.inr (.inr h)), h4, h5, h6, h7⟩
theorem ZAt.ex {K : PySem.W.Frag} {H H' : Hp} {zi tm t r k o : Addr} {n : Nat} {now : Int} {ps : List (Int × Int)} (S : ZAt K H zi tm t r k o n now ps) (e : Same H H') : ZAt K H' zi tm t r k o n now ps := S.same fun b u _ h => e b u h
theorem ZAt.apart {K : PySem.W.Frag} {H : Hp} {zi tm t r k o : Addr} {n : Nat} {now : Int} {ps : List (Int × Int)} (S : ZAt K H zi tm t r k o n now ps) :
    zi ≠ tm ∧ zi ≠ t ∧ zi ≠ r ∧ zi ≠ k ∧ zi ≠ o ∧ tm ≠ t ∧ tm ≠ r ∧ tm ≠ k ∧ tm ≠ o := by
  obtain ⟨⟨dx, h1⟩, h2, ⟨⟨dy, g1⟩, g2, g3, ⟨kvs, g4, _⟩, _⟩, _, _, h6, h7⟩ := S
  exact ⟨ne_of h1 h2 (by intro z; cases z), ne_of h1 g1 (fun z => by injection z with _ _ z3; exact zt_ne z3), ne_of h1 g2 (by intro z; cases z), ne_of h1 g3 (by intro z; cases z), ne_of h1 g4 (by intro z; cases z),
    ne_of h2 g1 (by intro z; cases z), h6, h7, ne_of h2 g4 (by intro z; cases z)⟩
def old (lim : Int) (p : Int × Int) : Bool := decide (p.1 ≤ lim)
def spZInitX (K : PySem.W.Frag) : Sp := fun vs H Q E => ∃ (zi dx : Addr) (z : Int), vs = [.ref zi, .int z] ∧ H zi = some (.ins (He.ga K "Timed") dx []) ∧ (¬ okSz z → E (exC K "BadWindow") none H) ∧ (∀ n : Nat, z = n → 1 ≤ n → n ≤ 1000 →
  ∀ (tm t r k o : Addr) (H' : Hp), H tm = none → H t = none → H r = none → H k = none → H o = none → ZAt K H' zi tm t r k o n 0 [] → (∀ b u, H b = some u → b ≠ zi → H' b = some u) → Q .non H')
def spZTime (K : PySem.W.Frag) : Sp := fun vs H Q _ => ∃ (zi tm t r k o : Addr) (n : Nat) (now : Int) (ps : List (Int × Int)), vs = [.ref zi] ∧ ZAt K H zi tm t r k o n now ps ∧ Q (.int now) H
def spZGoX (K : PySem.W.Frag) : Sp := fun vs H Q E => ∃ (zi tm t r k o : Addr) (n : Nat) (now : Int) (ps : List (Int × Int)) (x : Int), vs = [.ref zi, .int x] ∧ ZAt K H zi tm t r k o n now ps ∧ ps.length ≤ 900 ∧ (x < now → E (exC K "Late") none H) ∧ (now ≤ x →
  ∀ g H', H g = none → ZAt K H' zi tm t r k o n x (ps.dropWhile (old (x - n))) → KeepZ H H' zi tm t r k o → H' g = some (.lst (((ps.takeWhile (old (x - n))).map (·.2)).map V.int)) → Q (.ref g) H')
def spZPutX (K : PySem.W.Frag) : Sp := fun vs H Q E => ∃ (zi tm t r k o : Addr) (n : Nat) (now : Int) (ps : List (Int × Int)) (x y : Int), vs = [.ref zi, .int x, .int y] ∧ ZAt K H zi tm t r k o n now ps ∧ ps.length ≤ 900 ∧ (x < now → E (exC K "Late") none H) ∧ (now ≤ x →
  ∀ g H', H g = none → ZAt K H' zi tm t r k o n x (ps.dropWhile (old (x - n)) ++ [(x, y)]) → KeepZ H H' zi tm t r k o → H' g = some (.lst (((ps.takeWhile (old (x - n))).map (·.2)).map V.int)) → Q (.ref g) H')
def spZThings (K : PySem.W.Frag) : Sp := fun vs H Q _ => ∃ (zi tm t r k o : Addr) (n : Nat) (now : Int) (ps : List (Int × Int)), vs = [.ref zi] ∧ ZAt K H zi tm t r k o n now ps ∧
  ∀ l H', H l = none → Same H H' → H' l = some (.lst ((ps.map (·.2)).map V.int)) → Q (.ref l) H'
def spZWordX (K : PySem.W.Frag) : Sp := fun vs H Q E => ∃ (zi tm t r k o : Addr) (n : Nat) (now : Int) (ps : List (Int × Int)) (nm : Str), vs = [.ref zi, .str nm] ∧ ZAt K H zi tm t r k o n now ps ∧ ps.length ≤ 1000 ∧ (nm ∈ names12 →
  ∀ H', Same H H' → Q (wordV (ps.map (·.2)) nm) H') ∧ (nm ∉ names12 → ∀ H', Same H H' → E (exC K "NoWord") none H')
theorem span_of {α : Type} {f : α → Bool} : ∀ {a b : List α}, (∀ p ∈ a, f p = true) → (∀ p r, b = p :: r → f p = false) → (a ++ b).takeWhile f = a ∧ (a ++ b).dropWhile f = b
  | [], [], _, _ => ⟨rfl, rfl⟩
  | [], p :: r, _, h => by
    have e := h p r rfl
    simp [e]
  | q :: a, b, h1, h2 => by
    obtain ⟨i1, i2⟩ := span_of (a := a) (b := b) (fun p hp => h1 p (List.mem_cons_of_mem _ hp)) h2
    have e := h1 q List.mem_cons_self
    simp [e, i1, i2]
section
variable {P : Program} {w : World} {K : PySem.W.Frag} {mg : Str → Option Value} {base : Heap} {D : Str × Option Str → FuncData}
theorem ok_Timed_init (T : Txt K mg D) : FnOk P w K mg base (L2.CX P w) 3 (He.ma K (He.ga K "Timed") "__init__") (D ("Timed", some "__init__")) ["self", "span"] (spZInitX K) := by
  refine T.Timed_init.F.ok sc_Timed_init (fun vs H Q E h => ?_) (fun cdv A outer s H vs Q E hr h => ?_)
  · obtain ⟨zi, dx, n, rfl, _⟩ := h
    rfl
  · obtain ⟨zi, dx, z, rfl, h1, kx, kq⟩ := h
    have fcTimed := T.cTimed.cl; have fnTimedspan := T.n_Timed_span; have fnTimednow := T.n_Timed_now; have fnTimedtimes := T.n_Timed_times; have fnTimedtally := T.n_Timed_tally
    by_cases hz : okSz z
    rotate_left
    · refine ⟨_, (pss_cons (ps_expr (pe_callS (ok_look_size T) (by exact hr.mono (by decide)) (by rfl) T.look_size.g T.look_size.F.kp T.look_size.b (fun σ => passAt (takes_of rfl rfl rfl rfl) σ) (pa_cons (pv 1) pa_nil)))
      (pss_cons (ps_fldK (K := K) rfl (pv 0) (pv 1) rfl)
      (pss_cons (ps_fldK (K := K) rfl (pv 0) pe_int rfl)
      (pss_cons (ps_fldK (K := K) rfl (pv 0) (pe_lst pa_nil) rfl)
      (pss_one (ps_fldK (K := K) rfl (pv 0) (pe_make0 T.cTally.mkr (ok_Tally_init T) (by exact hr.mono (by decide)) (by rfl) T.cTally.g T.Tally_init.b .nil pass0) rfl)))))), ?_⟩
      walk_at "in"
      exact ⟨z, rfl, fun q => absurd q hz, fun _ => kx hz⟩
    obtain ⟨n, rfl, n1, n2⟩ := hz.nat
    have kq := kq n rfl n1 n2
    refine ⟨_, (pss_cons (ps_expr (pe_callS (ok_look_size T) (by exact hr.mono (by decide)) (by rfl) T.look_size.g T.look_size.F.kp T.look_size.b (fun σ => passAt (takes_of rfl rfl rfl rfl) σ) (pa_cons (pv 1) pa_nil)))
      (pss_cons (ps_fldK (K := K) rfl (pv 0) (pv 1) rfl)
      (pss_cons (ps_fldK (K := K) rfl (pv 0) pe_int rfl)
      (pss_cons (ps_fldK (K := K) rfl (pv 0) (pe_lst pa_nil) rfl)
      (pss_one (ps_fldK (K := K) rfl (pv 0) (pe_make0 T.cTally.mkr (ok_Tally_init T) (by exact hr.mono (by decide)) (by rfl) T.cTally.g T.Tally_init.b .nil pass0) rfl)))))), ?_⟩
    walk_at "in"
    refine ⟨n, rfl, fun _ => ?_, fun q => absurd hz q⟩
    walk_at "go"
    refine ⟨Nat.zero_le _, fun tm ntm => ?_⟩
    have a0 : zi ≠ tm := ne_of_none (by walk_at "hp") ntm
    walk_at "go"
    intro t dy nt ndy ne
    have a1 : zi ≠ t := ne_of_none (by walk_at "hp") nt
    have a2 : zi ≠ dy := ne_of_none (by walk_at "hp") ndy
    have a3 : tm ≠ t := ne_of_none (by walk_at "hp") nt
    have a4 : tm ≠ dy := ne_of_none (by walk_at "hp") ndy
    refine ⟨t, dy, rfl, upd_same, fun r k o H1 nr nk no TA kp => ⟨rfl, ?_⟩⟩
    have g1 := kp zi (.ins (He.ga K "Timed") dx [("span", .int n), ("now", .int 0), ("times", .ref tm)]) (by walk_at "hp") a1
    have g2 := kp tm (.lst []) (by walk_at "hp") a3
    walk_at "go"
    have fr0 : ∀ b, (upd (upd (upd (upd (upd H zi (.ins (He.ga K "Timed") dx [("span", .int n), ("now", .int 0)])) tm (.lst [])) zi (.ins (He.ga K "Timed") dx [("span", .int n), ("now", .int 0), ("times", .ref tm)])) dy (.own t)) t (.ins (He.ga K "Tally") dy [])) b = none → H b = none ∧ b ≠ zi ∧ b ≠ tm := fun b hb => by
      have e1 : b ≠ t := fun e => by subst e; rw [upd_same] at hb; cases hb
      rw [upd_ne e1] at hb
      have e2 : b ≠ dy := fun e => by subst e; rw [upd_same] at hb; cases hb
      rw [upd_ne e2] at hb
      have e3 : b ≠ zi := fun e => by subst e; rw [upd_same] at hb; cases hb
      rw [upd_ne e3] at hb
      have e4 : b ≠ tm := fun e => by subst e; rw [upd_same] at hb; cases hb
      rw [upd_ne e4, upd_ne e3] at hb
      exact ⟨hb, e3, e4⟩
    have fr : ∀ b, (upd (upd (upd (upd (upd (upd H zi (.ins (He.ga K "Timed") dx [("span", .int n)])) zi (.ins (He.ga K "Timed") dx [("span", .int n), ("now", .int 0)])) tm (.lst [])) zi (.ins (He.ga K "Timed") dx [("span", .int n), ("now", .int 0), ("times", .ref tm)])) dy (.own t)) t (.ins (He.ga K "Tally") dy [])) b = none → H b = none ∧ b ≠ zi ∧ b ≠ tm := fun b hb => fr0 b (by rw [upd_upd] at hb; exact hb)
    have nt' : H t = none := by rw [upd_ne a1.symm, upd_ne a3.symm, upd_ne a1.symm, upd_ne a1.symm] at nt; exact nt
    have ndy' : H dy = none := by rw [upd_ne a2.symm, upd_ne a4.symm, upd_ne a2.symm, upd_ne a2.symm] at ndy; exact ndy
    have ntm' : H tm = none := by rw [upd_ne a0.symm, upd_ne a0.symm] at ntm; exact ntm
    obtain ⟨fr1, b2, c2⟩ := fr _ nr
    obtain ⟨fk1, b3, c3⟩ := fr _ nk
    obtain ⟨fo1, b4, c4⟩ := fr _ no
    refine kq tm t r k o _ ntm' nt' fr1 fk1 fo1 ⟨⟨dx, upd_same⟩, (show _ = some (HO.lst []) by walk_at "hp"), TA.same fun b u z e => ?_, n1, n2, c2.symm, c3.symm⟩ fun b u e hb => ?_
    · have hb : b ≠ zi := by
        rcases z with rfl | rfl | rfl | rfl
        · exact a1.symm
        · exact b2
        · exact b3
        · exact b4
      walk_at "hp"
    · rw [upd_ne hb]
      have c1 : b ≠ t := ne_of_none e nt'
      have c2 : b ≠ dy := ne_of_none e ndy'
      have c5 : b ≠ tm := ne_of_none e ntm'
      exact kp b u (by walk_at "hp") c1
theorem ok_Timed_time (T : Txt K mg D) : FnOk P w K mg base CX0 1 (He.ma K (He.ga K "Timed") "time") (D ("Timed", some "time")) ["self"] (spZTime K) := by
  refine T.Timed_time.F.ok sc_Timed_time (fun vs H Q E h => ?_) (fun cdv A outer s H vs Q E hr h => ?_)
  · obtain ⟨zi, tm, t, r, k, o, n, now, ps, rfl, _⟩ := h
    rfl
  · obtain ⟨zi, tm, t, r, k, o, n, now, ps, rfl, S, kq⟩ := h
    have fcTimed := T.cTimed.cl; have fnTimedspan := T.n_Timed_span; have fnTimednow := T.n_Timed_now; have fnTimedtimes := T.n_Timed_times; have fnTimedtally := T.n_Timed_tally
    obtain ⟨⟨dx, h1⟩, _⟩ := id S
    refine ⟨_, PSs.nox (pss_one (ps_ret (pe_fldK (K := K) rfl (pv 0) rfl))), ?_⟩
    walk_at "in"
    exact kq
theorem ok_Timed_things (T : Txt K mg D) : FnOk P w K mg base CX0 1 (He.ma K (He.ga K "Timed") "things") (D ("Timed", some "things")) ["self"] (spZThings K) := by
  refine T.Timed_things.F.ok sc_Timed_things (fun vs H Q E h => ?_) (fun cdv A outer s H vs Q E hr h => ?_)
  · obtain ⟨zi, tm, t, r, k, o, n, now, ps, rfl, _⟩ := h
    rfl
  · obtain ⟨zi, tm, t, r, k, o, n, now, ps, rfl, S, kq⟩ := h
    have fcTimed := T.cTimed.cl; have fnTimedspan := T.n_Timed_span; have fnTimednow := T.n_Timed_now; have fnTimedtimes := T.n_Timed_times; have fnTimedtally := T.n_Timed_tally; have fcTally := T.cTally.cl; have fnTallyrow := T.n_Tally_row; have fnTallyranks := T.n_Tally_ranks; have fnTallyoften := T.n_Tally_often; have fnTallytotal := T.n_Tally_total; have fnTallypairs := T.n_Tally_pairs
    obtain ⟨⟨dx, h1⟩, h2, TA, _⟩ := id S
    obtain ⟨⟨dy, g1⟩, g2, g3, ⟨kvs, g4, g5⟩, _⟩ := id TA
    refine ⟨_, PSs.nox (pss_one (ps_ret (pe_callTy (call_listK (K := K) rfl) (by rfl) T.z_list (by decide +kernel) (pa_cons (pe_fldK (K := K) rfl (pe_fldK (K := K) rfl (pv 0) rfl) rfl) pa_nil)))), ?_⟩
    walk_at "in"
    intro l nl
    exact kq l _ nl (same_upd nl (Same.refl _)) upd_same
theorem ok_Timed_word (T : Txt K mg D) : FnOk P w K mg base (L2.CX P w) 3 (He.ma K (He.ga K "Timed") "word") (D ("Timed", some "word")) ["self", "name"] (spZWordX K) := by
  refine T.Timed_word.F.ok sc_Timed_word (fun vs H Q E h => ?_) (fun cdv A outer s H vs Q E hr h => ?_)
  · obtain ⟨zi, tm, t, r, k, o, n, now, ps, nm, rfl, _⟩ := h
    rfl
  · obtain ⟨zi, tm, t, r, k, o, n, now, ps, nm, rfl, S, hl, kq, kx⟩ := h
    have fcTimed := T.cTimed.cl; have fnTimedspan := T.n_Timed_span; have fnTimednow := T.n_Timed_now; have fnTimedtimes := T.n_Timed_times; have fnTimedtally := T.n_Timed_tally; have fcTally := T.cTally.cl; have fnTallyrow := T.n_Tally_row; have fnTallyranks := T.n_Tally_ranks; have fnTallyoften := T.n_Tally_often; have fnTallytotal := T.n_Tally_total; have fnTallypairs := T.n_Tally_pairs
    obtain ⟨⟨dx, h1⟩, h2, TA, _⟩ := id S
    obtain ⟨⟨dy, g1⟩, g2, g3, ⟨kvs, g4, g5⟩, _⟩ := id TA
    refine ⟨_, (pss_one (ps_ret (pe_methW (pe_fldK (K := K) rfl (pv 0) rfl) T.cTally.cl T.Tally_word.me (ok_Tally_word T) (by exact hr.mono (by decide)) T.Tally_word.b (fun σ => passAt (takes_of rfl rfl rfl rfl) σ) (pa_cons (pv 1) pa_nil)))), ?_⟩
    walk_at "in"
    exact ⟨t, r, k, o, _, nm, rfl, TA, by rw [List.length_map]; exact hl, kq, kx⟩
theorem ok_Timed_go_on (T : Txt K mg D) : FnOk P w K mg base (L2.CX P w) 3 (He.ma K (He.ga K "Timed") "go_on") (D ("Timed", some "go_on")) ["self", "time"] (spZGoX K) := by
  refine T.Timed_go_on.F.ok sc_Timed_go_on (fun vs H Q E h => ?_) (fun cdv A outer s H vs Q E hr h => ?_)
  · obtain ⟨zi, tm, t, r, k, o, n, now, ps, x, rfl, _⟩ := h
    rfl
  · obtain ⟨zi, tm, t, r, k, o, n, now, ps, x, rfl, S, hl, kx, kq⟩ := h
    have fcTimed := T.cTimed.cl; have fnTimedspan := T.n_Timed_span; have fnTimednow := T.n_Timed_now; have fnTimedtimes := T.n_Timed_times; have fnTimedtally := T.n_Timed_tally; have fcTally := T.cTally.cl; have fnTallyrow := T.n_Tally_row; have fnTallyranks := T.n_Tally_ranks; have fnTallyoften := T.n_Tally_often; have fnTallytotal := T.n_Tally_total; have fnTallypairs := T.n_Tally_pairs
    obtain ⟨⟨dx, h1⟩, h2, TA, n1, n2, _, _⟩ := id S
    obtain ⟨a1, a2, a3, a4, a5, a6, a7, a8, a9⟩ := S.apart
    refine ⟨_, (pss_cons (ps_if (pt_cmpR op_lt (pv 1) (pe_fldK (K := K) rfl (pv 0) rfl) (nomark _)) (pss_one (ps_raise rfl (takes_of rfl rfl rfl rfl) (pmk_own PySem.F.excBase_ValueError T.x_Late.e T.x_Late.g T.x_Late.k (raises_own T.x_Late.s T.x_Late.t) (by rfl)))) pss_nil)
      (pss_cons (ps_fldK (K := K) rfl (pv 0) (pv 1) rfl)
      (pss_cons (ps_set (i := 2) sc_Timed_go_on.nd rfl (Or.inl rfl) (pe_lst pa_nil))
      (pss_cons (ps_whileQ (passes_of rfl) (PW.pt (pw_and (pt_truK (K := K) rfl (pe_fldK (K := K) rfl (pv 0) rfl) (by intro _; rfl)) (pw_and1 (pt_cmpR op_le (pe_ix (ix_listK (K := K) rfl) (pe_fldK (K := K) rfl (pv 0) rfl) pe_int (fun _ _ => rfl)) (pe_op op_sub (pv 1) (pe_fldK (K := K) rfl (pv 0) rfl)) (nomark _)))))
      (pss_cons (ps_expr (pe_bmK (K := K) rfl PySem.F.plainAttrs_list PySem.F.slot_list_pop PySem.F.type_list_pop mt_popAt (pe_fldK (K := K) rfl (pv 0) rfl) (pa_cons pe_int pa_nil)))
      (pss_one (ps_expr (pe_bmK (K := K) rfl PySem.F.plainAttrs_list PySem.F.slot_list_append PySem.F.type_list_append mt_append (pv 2) (pa_cons (pe_meth0 (pe_fldK (K := K) rfl (pv 0) rfl) T.cTally.cl T.Tally_drop.me (ok_Tally_drop T) (by exact hr.mono (by decide)) T.Tally_drop.b .nil pass0) pa_nil))))))
      (pss_one (ps_ret (pv 2))))))), ?_⟩
    walk_at "in"
    by_cases hx : now ≤ x
    rotate_left
    · refine iteBT (decide_eq_true (by omega)) ?_
      walk_at "go"
      exact kx (by omega)
    have kq := kq hx
    refine iteBF (decide_eq_false (by omega)) ?_
    walk_at "go"
    refine ⟨Nat.zero_le _, fun g ng => ?_⟩
    have b1 : zi ≠ g := ne_nn ng upd_same
    have ng' : H g = none := by rw [upd_ne b1.symm] at ng; exact ng
    obtain ⟨⟨dt, c1⟩, c2, c3, ⟨kvs, c4, c5⟩, _⟩ := id TA
    have b2 : tm ≠ g := ne_of_none h2 ng'
    have b3 : t ≠ g := ne_of_none c1 ng'
    have b4 : r ≠ g := ne_of_none c2 ng'
    have b5 : k ≠ g := ne_of_none c3 ng'
    have b6 : o ≠ g := ne_of_none c4 ng'
    walk_at "go"
    refine S_while (fun m σ' H' => ∃ (a b : List (Int × Int)), ps = a ++ b ∧ (∀ p ∈ a, old (x - n) p = true) ∧ m = b.length ∧ σ' = [some (.ref zi), some (.int x), some (.ref g)] ∧ ZAt K H' zi tm t r k o n x b ∧ H' g = some (.lst ((a.map (·.2)).map V.int)) ∧ KeepZ H H' zi tm t r k o)
      ps.length ⟨[], ps, rfl, (fun p hp => by cases hp), rfl, rfl, ?_, upd_same, ?_⟩ ?_
    · refine ⟨⟨dx, by walk_at "hp"⟩, by walk_at "hp", TA.same fun b u z e => ?_, n1, n2, a7, a8⟩
      have hb1 : b ≠ zi := by rcases z with rfl | rfl | rfl | rfl <;> first | exact a2.symm | exact a3.symm | exact a4.symm | exact a5.symm
      have hb2 : b ≠ g := by rcases z with rfl | rfl | rfl | rfl <;> assumption
      walk_at "hp"
    · intro b u e d1 d2 d3 d4 d5 d6
      have hb2 : b ≠ g := ne_of_none e ng'
      walk_at "hp"
    · rintro m σ' H' ⟨a, b, rfl, ha, rfl, rfl, Z, hg, kp⟩
      obtain ⟨⟨dz, z1⟩, z2, TZ, _⟩ := id Z
      obtain ⟨⟨dt2, y1⟩, y2, y3, ⟨kv2, y4, y5⟩, _⟩ := id TZ
      walk_at "go"
      cases b with
      | nil =>
        refine iteF ?_
        refine iteF ?_
        walk_at "go"
        obtain ⟨e1, e2⟩ := span_of (b := []) ha (fun _ _ e => by cases e)
        exact kq g H' ng' (by rw [e2]; exact Z) kp (by rw [e1]; exact hg)
      | cons p b' =>
        refine iteT ?_
        have z2 : H' tm = some (HO.lst (V.int p.1 :: (b'.map (·.1)).map V.int)) := z2
        walk_at "go"
        refine R_ixL (SqL.of z2) (v := .int p.1) (at_of (j := 0) rfl rfl) ?_
        walk_at "go"
        refine iteD (fun hle => ?_) (fun hgt => ?_)
        · walk_at "go"
          refine R_pop0 z2 ?_
          walk_at "go"
          have hlen : b'.length ≤ 900 := by rw [List.length_append, List.length_cons] at hl; omega
          have TY : TAt K (upd H' tm (.lst ((b'.map (·.1)).map V.int))) t r k o (p.2 :: b'.map (·.2)) := TZ.same fun b u z e => by
            have hb1 : b ≠ tm := by rcases z with rfl | rfl | rfl | rfl <;> first | exact a6.symm | exact a7.symm | exact a8.symm | exact a9.symm
            rw [upd_ne hb1]
            exact e
          refine ⟨t, r, k, o, b'.map (·.2), p.2, rfl, TY, by rw [List.length_map]; omega, fun H2 TA2 kp2 => ?_⟩
          have w1 := kp2 zi _ (show _ = some (HO.ins (He.ga K "Timed") dz (zfl n x tm t)) by walk_at "hp") a2 a3 a4 a5
          have w2 := kp2 tm _ upd_same a6 a7 a8 a9
          have w3 := kp2 g _ (show _ = some (HO.lst ((a.map (·.2)).map V.int)) by walk_at "hp") b3.symm b4.symm b5.symm b6.symm
          have hal : a.length ≤ 900 := by rw [List.length_append] at hl; omega
          walk_at "go"
          refine ⟨b'.length, by rw [List.length_cons]; omega, a ++ [p], b', by rw [List.append_assoc]; rfl, fun q hq => ?_, rfl, rfl, ⟨⟨dz, by walk_at "hp"⟩, by walk_at "hp", TA2.same fun b u z e => ?_, n1, n2, a7, a8⟩, ?_, fun b u e d1 d2 d3 d4 d5 d6 => ?_⟩
          · rcases List.mem_append.mp hq with hq | hq
            · exact ha q hq
            · rw [List.mem_singleton.mp hq]
              exact decide_eq_true hle
          · have hb1 : b ≠ g := by rcases z with rfl | rfl | rfl | rfl <;> assumption
            walk_at "hp"
          · rw [List.map_append, List.map_append]
            exact upd_same
          · have hb2 : b ≠ g := ne_of_none e ng'
            rw [upd_ne hb2]
            exact kp2 b u (by rw [upd_ne d2]; exact kp b u e d1 d2 d3 d4 d5 d6) d3 d4 d5 d6
        · walk_at "go"
          obtain ⟨e1, e2⟩ := span_of (b := p :: b') ha (fun q r2 e => by cases e; exact decide_eq_false hgt)
          exact kq g H' ng' (by rw [e2]; exact Z) kp (by rw [e1]; exact hg)
theorem ok_Timed_put (T : Txt K mg D) : FnOk P w K mg base (L2.CX P w) 4 (He.ma K (He.ga K "Timed") "put") (D ("Timed", some "put")) ["self", "time", "thing"] (spZPutX K) := by
  refine T.Timed_put.F.ok sc_Timed_put (fun vs H Q E h => ?_) (fun cdv A outer s H vs Q E hr h => ?_)
  · obtain ⟨zi, tm, t, r, k, o, n, now, ps, x, y, rfl, _⟩ := h
    rfl
  · obtain ⟨zi, tm, t, r, k, o, n, now, ps, x, y, rfl, S, hl, kx, kq⟩ := h
    have fcTimed := T.cTimed.cl; have fnTimedspan := T.n_Timed_span; have fnTimednow := T.n_Timed_now; have fnTimedtimes := T.n_Timed_times; have fnTimedtally := T.n_Timed_tally; have fcTally := T.cTally.cl; have fnTallyrow := T.n_Tally_row; have fnTallyranks := T.n_Tally_ranks; have fnTallyoften := T.n_Tally_often; have fnTallytotal := T.n_Tally_total; have fnTallypairs := T.n_Tally_pairs
    obtain ⟨⟨dx, h1⟩, h2, TA, n1, n2, _, _⟩ := id S
    obtain ⟨a1, a2, a3, a4, a5, a6, a7, a8, a9⟩ := S.apart
    obtain ⟨⟨dt, c1⟩, c2, c3, ⟨kvs, c4, c5⟩, _⟩ := id TA
    refine ⟨_, (pss_cons (ps_set (i := 3) sc_Timed_put.nd rfl (Or.inl rfl) (pe_methW (pv 0) T.cTimed.cl T.Timed_go_on.me (ok_Timed_go_on T) (by exact hr.mono (by decide)) T.Timed_go_on.b (fun σ => passAt (takes_of rfl rfl rfl rfl) σ) (pa_cons (pv 1) pa_nil)))
      (pss_cons (ps_expr (pe_bmK (K := K) rfl PySem.F.plainAttrs_list PySem.F.slot_list_append PySem.F.type_list_append mt_append (pe_fldK (K := K) rfl (pv 0) rfl) (pa_cons (pv 1) pa_nil)))
      (pss_cons (ps_expr (pe_meth (pe_fldK (K := K) rfl (pv 0) rfl) T.cTally.cl T.Tally_add.me (ok_Tally_add T) (by exact hr.mono (by decide)) T.Tally_add.b .nil pass0 (pa_cons (pv 2) pa_nil)))
      (pss_one (ps_ret (pv 3)))))), ?_⟩
    walk_at "in"
    refine ⟨zi, tm, t, r, k, o, n, now, ps, x, rfl, S, hl, kx, fun hx g H1 ng Z kp hg => ?_⟩
    have kq := kq hx
    have b1 : zi ≠ g := ne_of_none h1 ng
    have b2 : tm ≠ g := ne_of_none h2 ng
    have b3 : t ≠ g := ne_of_none c1 ng
    have b4 : r ≠ g := ne_of_none c2 ng
    have b5 : k ≠ g := ne_of_none c3 ng
    have b6 : o ≠ g := ne_of_none c4 ng
    have hdl : (ps.dropWhile (old (x - n))).length ≤ 900 := Nat.le_trans (List.dropWhile_sublist _).length_le hl
    generalize ps.dropWhile (old (x - n)) = b at Z kq hdl
    obtain ⟨⟨dz, z1⟩, z2, TZ, _⟩ := id Z
    obtain ⟨⟨dt2, y1⟩, y2, y3, ⟨kv2, y4, y5⟩, _⟩ := id TZ
    walk_at "go"
    have TY : TAt K (upd H1 tm (.lst ((b.map (·.1)).map V.int ++ [.int x]))) t r k o (b.map (·.2)) := TZ.same fun b u z e => by
      have hb1 : b ≠ tm := by rcases z with rfl | rfl | rfl | rfl <;> first | exact a6.symm | exact a7.symm | exact a8.symm | exact a9.symm
      rw [upd_ne hb1]
      exact e
    refine ⟨t, r, k, o, b.map (·.2), y, rfl, TY, by rw [List.length_map]; omega, fun H2 TA2 kp2 => ?_⟩
    have w1 := kp2 zi _ (show _ = some (HO.ins (He.ga K "Timed") dz (zfl n x tm t)) by walk_at "hp") a2 a3 a4 a5
    have w2 := kp2 tm _ upd_same a6 a7 a8 a9
    have w3 := kp2 g _ (show _ = some (HO.lst (((ps.takeWhile (old (x - n))).map (·.2)).map V.int)) by walk_at "hp") b3.symm b4.symm b5.symm b6.symm
    walk_at "go"
    refine kq g H2 ng ⟨⟨dz, w1⟩, ?_, by rw [List.map_append]; exact TA2, n1, n2, a7, a8⟩ (fun b u e d1 d2 d3 d4 d5 d6 => ?_) w3
    · rw [List.map_append, List.map_append]
      exact w2
    · exact kp2 b u (by rw [upd_ne d2]; exact kp b u e d1 d2 d3 d4 d5 d6) d3 d4 d5 d6
end
end LF


set_option maxRecDepth 100000
set_option maxHeartbeats 4000000
namespace LF
open PySem PySem.Spec PyProof.Rows L2



def spMInitX (K : PySem.W.Frag) : Sp := fun vs H Q E => ∃ (m dx : Addr) (z : Int), vs = [.ref m, .int z] ∧ H m = some (.ins (He.ga K "Maps") dx []) ∧ (okSz z → ∀ H', (∀ b u, H b = some u → b ≠ m → H' b = some u) → Q .non H') ∧ (¬ okSz z → E (exC K "BadWindow") none H)
section
variable {P : Program} {w : World} {K : PySem.W.Frag} {mg : Str → Option Value} {base : Heap} {D : Str × Option Str → FuncData}
theorem ok_Maps_init (T : Txt K mg D) : FnOk P w K mg base (L2.CX P w) 2 (He.ma K (He.ga K "Maps") "__init__") (D ("Maps", some "__init__")) ["self", "size"] (spMInitX K) := by
  refine T.Maps_init.F.ok sc_Maps_init (fun vs H Q E h => ?_) (fun cdv A outer s H vs Q E hr h => ?_)
  · obtain ⟨m, dx, z, rfl, _⟩ := h
    rfl
  · obtain ⟨m, dx, z, rfl, h1, kq, kx⟩ := h
    have fcMaps := T.cMaps.cl; have fnMapssize := T.n_Maps_size; have fnMapsold := T.n_Maps_old; have fnMapsnew := T.n_Maps_new; have fnMapslast := T.n_Maps_last
    refine ⟨_, (pss_cons (ps_expr (pe_callS (ok_look_size T) (by exact hr.mono (by decide)) (by rfl) T.look_size.g T.look_size.F.kp T.look_size.b (fun σ => passAt (takes_of rfl rfl rfl rfl) σ) (pa_cons (pv 1) pa_nil)))
      (pss_cons (ps_fldK (K := K) rfl (pv 0) (pv 1) rfl)
      (pss_cons (ps_fldK (K := K) rfl (pv 0) (pe_lst pa_nil) rfl)
      (pss_cons (ps_fldK (K := K) rfl (pv 0) (pe_lst pa_nil) rfl)
      (pss_one (ps_fldK (K := K) rfl (pv 0) (pe_tup (pa_cons pe_int (pa_cons pe_int pa_nil))) rfl)))))), ?_⟩
    walk_at "in"
    refine ⟨z, rfl, fun hz => ?_, kx⟩
    have kq := kq hz
    walk_at "go"
    refine ⟨Nat.zero_le _, fun oa noa => ?_⟩
    have a0 : m ≠ oa := ne_of_none (by walk_at "hp") noa
    walk_at "go"
    refine ⟨Nat.zero_le _, fun na nna => ?_⟩
    have a1 : m ≠ na := ne_of_none (by walk_at "hp") nna
    have a2 : oa ≠ na := ne_of_none (by walk_at "hp") nna
    walk_at "go"
    refine E_tupA ?_
    walk_at "go"
    refine R_tupA (Nat.le_of_ble_eq_true rfl) fun la nla => ?_
    have a3 : m ≠ la := ne_of_none (by walk_at "hp") nla
    have a4 : oa ≠ la := ne_of_none (by walk_at "hp") nla
    have a5 : na ≠ la := ne_of_none (by walk_at "hp") nla
    walk_at "go"
    have f1 : H oa = none := by rw [upd_ne a0.symm] at noa; exact noa
    have f2 : H na = none := by rw [upd_ne a1.symm, upd_ne a2.symm, upd_ne a1.symm] at nna; exact nna
    have f3 : H la = none := by rw [upd_ne a3.symm, upd_ne a5.symm, upd_ne a3.symm, upd_ne a4.symm, upd_ne a3.symm] at nla; exact nla
    refine kq _ fun b u e hb => ?_
    have b1 : b ≠ oa := ne_of_none e f1
    have b2 : b ≠ na := ne_of_none e f2
    have b3 : b ≠ la := ne_of_none e f3
    walk_at "hp"
end
end LF


set_option maxRecDepth 100000
set_option maxHeartbeats 4000000
namespace LF
open PySem PySem.Spec PyProof.Rows L2



/-! ### Groups in the heap -/
structure GE where
  key : Int
  wi : Addr
  t : Addr
  r : Addr
  k : Addr
  o : Addr
  row : List Int
def GE.fp (e : GE) : List Addr := [e.wi, e.t, e.r, e.k, e.o]
def GE.abs (e : GE) : Int × List Int := (e.key, e.row)
def GE.dj (e e' : GE) : Prop := ∀ x ∈ e.fp, x ∉ e'.fp
theorem GE.dj_symm {e e' : GE} (h : e.dj e') : e'.dj e := fun x hx hx' => h x hx' hx
def EAt (K : PySem.W.Frag) (H : Hp) (n : Nat) (e : GE) : Prop := WAt K H e.wi e.t e.r e.k e.o n e.row
theorem GE.mem {e : GE} {b : Addr} (h : b = e.wi ∨ b = e.t ∨ b = e.r ∨ b = e.k ∨ b = e.o) : b ∈ e.fp := by
  unfold GE.fp
  rcases h with rfl | rfl | rfl | rfl | rfl <;> simp
theorem GE.cases {e : GE} {b : Addr} (h : b ∈ e.fp) : b = e.wi ∨ b = e.t ∨ b = e.r ∨ b = e.k ∨ b = e.o := by
  unfold GE.fp at h
  simpa using h
theorem EAt.same {K : PySem.W.Frag} {H H' : Hp} {n : Nat} {e : GE} (S : EAt K H n e) (h : ∀ b u, b ∈ e.fp → H b = some u → H' b = some u) : EAt K H' n e := WAt.same S fun b u hb => h b u (GE.mem hb)
theorem EAt.some {K : PySem.W.Frag} {H : Hp} {n : Nat} {e : GE} (S : EAt K H n e) {x : Addr} (hx : x ∈ e.fp) : ∃ u, H x = some u := by
  obtain ⟨⟨dx, h1⟩, ⟨⟨dy, g1⟩, g2, g3, ⟨kvs, g4, _⟩, _⟩, _⟩ := S
  rcases GE.cases hx with rfl | rfl | rfl | rfl | rfl
  · exact ⟨_, h1⟩
  · exact ⟨_, g1⟩
  · exact ⟨_, g2⟩
  · exact ⟨_, g3⟩
  · exact ⟨_, g4⟩
structure GAtK (K : PySem.W.Frag) (H : Hp) (g oa wa : Addr) (n mo c : Nat) (ks : List Int) (es : List GE) : Prop where
  ob : ∃ dx, H g = some (.ins (He.ga K "Groups") dx (gfl n mo oa wa))
  ol : H oa = some (.lst (ks.map V.int))
  wd : ∃ kvs, H wa = some (.dK kvs) ∧ kvs.length ≤ c ∧ (∀ e ∈ es, valV kvs (.inl e.key) = some (.ref e.wi)) ∧ ∀ z : Int, z ∉ es.map (·.key) → valV kvs (.inl z) = none
  ws : ∀ e ∈ es, EAt K H n e
  nd : (es.map (·.key)).Nodup
  dj : es.Pairwise GE.dj
  ap : ∀ e ∈ es, g ∉ e.fp ∧ oa ∉ e.fp ∧ wa ∉ e.fp
  n1 : 1 ≤ n
  n2 : n ≤ 1000
  m1 : 1 ≤ mo
  m2 : mo ≤ 1000
  le : es.length ≤ mo
def GAt (K : PySem.W.Frag) (H : Hp) (g oa wa : Addr) (n mo c : Nat) (es : List GE) : Prop := GAtK K H g oa wa n mo c (es.map (·.key)) es
def Off (oa wa : Addr) (es : List GE) (b : Addr) : Prop := b ≠ oa ∧ b ≠ wa ∧ ∀ e ∈ es, b ∉ e.fp
def KeepG (H H' : Hp) (oa wa : Addr) (es es' : List GE) : Prop := ∀ b u, H b = some u → Off oa wa es b → H' b = some u ∧ Off oa wa es' b
section
variable {K : PySem.W.Frag} {H H' H2 : Hp} {g oa wa : Addr} {n mo c c' : Nat} {ks : List Int} {es es' A B : List GE} {e : GE}
theorem GAtK.ex (S : GAtK K H g oa wa n mo c ks es) (s : Same H H') : GAtK K H' g oa wa n mo c ks es := by
  obtain ⟨⟨dx, h1⟩, h2, ⟨kvs, h3, h4⟩, h5, h6, h7, h8, n1, n2, m1, m2, le⟩ := S
  exact ⟨⟨dx, s _ _ h1⟩, s _ _ h2, ⟨kvs, s _ _ h3, h4⟩, fun e he => (h5 e he).same fun b u _ hb => s b u hb, h6, h7, h8, n1, n2, m1, m2, le⟩
theorem GAtK.more (S : GAtK K H g oa wa n mo c ks es) (h : c ≤ c') : GAtK K H g oa wa n mo c' ks es := by
  obtain ⟨h1, h2, ⟨kvs, h3, h4, h5⟩, g5, g6, g7, g8, n1, n2, m1, m2, le⟩ := S
  exact ⟨h1, h2, ⟨kvs, h3, Nat.le_trans h4 h, h5⟩, g5, g6, g7, g8, n1, n2, m1, m2, le⟩
theorem GAtK.apart (S : GAtK K H g oa wa n mo c ks es) : g ≠ oa ∧ g ≠ wa ∧ oa ≠ wa := by
  obtain ⟨⟨dx, h1⟩, h2, ⟨kvs, h3, _⟩, _⟩ := S
  exact ⟨ne_of h1 h2 (by intro z; cases z), ne_of h1 h3 (by intro z; cases z), ne_of h2 h3 (by intro z; cases z)⟩
theorem GAtK.off (S : GAtK K H g oa wa n mo c ks es) {p : Addr} (hp : H p = none) : Off oa wa es p := by
  obtain ⟨_, h2, ⟨kvs, h3, _⟩, h5, _⟩ := S
  refine ⟨(ne_of_none h2 hp).symm, (ne_of_none h3 hp).symm, fun e he hx => ?_⟩
  obtain ⟨u, hu⟩ := (h5 e he).some hx
  rw [hp] at hu
  cases hu
/-- the list of keys is another -/
theorem GAtK.order (S : GAtK K H g oa wa n mo c ks es) (ks' : List Int) : GAtK K (upd H oa (.lst (ks'.map V.int))) g oa wa n mo c ks' es := by
  obtain ⟨a1, a2, a3⟩ := S.apart
  obtain ⟨⟨dx, h1⟩, h2, ⟨kvs, h3, h4⟩, h5, h6, h7, h8, n1, n2, m1, m2, le⟩ := S
  refine ⟨⟨dx, by rw [upd_ne a1]; exact h1⟩, upd_same, ⟨kvs, by rw [upd_ne a3.symm]; exact h3, h4⟩, fun e he => (h5 e he).same fun b u hb hH => ?_, h6, h7, h8, n1, n2, m1, m2, le⟩
  rw [upd_ne (fun z : b = oa => (h8 e he).2.1 (z ▸ hb))]
  exact hH
theorem GAtK.perm (S : GAtK K H g oa wa n mo c ks es) (p : es.Perm es') : GAtK K H g oa wa n mo c ks es' := by
  obtain ⟨h1, h2, ⟨kvs, h3, h4, h5, h6⟩, h7, h8, h9, h10, n1, n2, m1, m2, le⟩ := S
  exact ⟨h1, h2, ⟨kvs, h3, h4, fun e he => h5 e (p.mem_iff.mpr he), fun z hz => h6 z fun hz' => hz ((p.map _).mem_iff.mp hz')⟩, fun e he => h7 e (p.mem_iff.mpr he), (p.map _).nodup_iff.mp h8, p.pairwise h9 GE.dj_symm, fun e he => h10 e (p.mem_iff.mpr he), n1, n2, m1, m2, by rw [← p.length_eq]; exact le⟩
theorem putK_len {kvs : List (Key × V)} {k : Key} {v : V} : (putK kvs k v).length ≤ kvs.length + 1 := by
  unfold putK
  split
  · rw [List.length_map]
    omega
  · rw [List.length_append, List.length_singleton]
    omega
theorem dropK_len {kvs : List (Key × V)} {k : Key} : (dropK kvs k).length ≤ kvs.length := List.length_filter_le _ _
/-- the first goes from the dict -/
theorem GAtK.less (S : GAtK K H g oa wa n mo c ks (e :: es)) {kvs : List (Key × V)} (hw : H wa = some (.dK kvs)) : GAtK K (upd H wa (.dK (dropK kvs (.inl e.key)))) g oa wa n mo c ks es := by
  obtain ⟨a1, a2, a3⟩ := S.apart
  obtain ⟨⟨dx, h1⟩, h2, ⟨kvs', h3, h4, h5, h6⟩, h7, h8, h9, h10, n1, n2, m1, m2, le⟩ := S
  rw [hw] at h3
  cases h3
  rw [List.map_cons, List.nodup_cons] at h8
  refine ⟨⟨dx, by rw [upd_ne a2]; exact h1⟩, by rw [upd_ne a3]; exact h2, ⟨_, upd_same, Nat.le_trans dropK_len h4, fun e' he => ?_, fun z hz => ?_⟩, fun e' he => (h7 e' (List.mem_cons_of_mem _ he)).same fun b u hb hH => ?_, h8.2, (List.pairwise_cons.mp h9).2, fun e' he => h10 e' (List.mem_cons_of_mem _ he), n1, n2, m1, m2, Nat.le_of_succ_le le⟩
  · rw [valV_drop, if_neg (fun z => h8.1 (List.mem_map.mpr ⟨e', he, Sum.inl.inj z⟩))]
    exact h5 e' (List.mem_cons_of_mem _ he)
  · rw [valV_drop]
    split
    · rfl
    · rename_i hne
      exact h6 z fun hz' => by
        rw [List.map_cons, List.mem_cons] at hz'
        rcases hz' with rfl | hz'
        · exact hne rfl
        · exact hz hz'
  · rw [upd_ne (fun z : b = wa => (h10 e' (List.mem_cons_of_mem _ he)).2.2 (z ▸ hb))]
    exact hH
/-- a new one comes into the dict -/
theorem GAtK.new (S : GAtK K H g oa wa n mo c ks es) {kvs : List (Key × V)} (hw : H wa = some (.dK kvs)) (E : EAt K H n e) (hg : g ∉ e.fp ∧ oa ∉ e.fp ∧ wa ∉ e.fp) (hk : e.key ∉ es.map (·.key)) (hd : ∀ e' ∈ es, e'.dj e) (hl : es.length < mo) :
    GAtK K (upd H wa (.dK (putK kvs (.inl e.key) (.ref e.wi)))) g oa wa n mo (c + 1) ks (es ++ [e]) := by
  obtain ⟨a1, a2, a3⟩ := S.apart
  obtain ⟨⟨dx, h1⟩, h2, ⟨kvs', h3, h4, h5, h6⟩, h7, h8, h9, h10, n1, n2, m1, m2, le⟩ := S
  rw [hw] at h3
  cases h3
  have hp : ∀ z : Int, valV (putK kvs (.inl e.key) (.ref e.wi)) (.inl z) = if z = e.key then some (.ref e.wi) else valV kvs (.inl z) := fun z => by
    rw [valV_put]
    by_cases hz : z = e.key
    · rw [if_pos hz, if_pos (by rw [hz])]
    · rw [if_neg hz, if_neg (fun q => hz (Sum.inl.inj q))]
  refine ⟨⟨dx, by rw [upd_ne a2]; exact h1⟩, by rw [upd_ne a3]; exact h2, ⟨_, upd_same, Nat.le_trans putK_len (Nat.succ_le_succ h4), fun e' he => ?_, fun z hz => ?_⟩, fun e' he => ?_, ?_, ?_, fun e' he => ?_, n1, n2, m1, m2, by rw [List.length_append, List.length_singleton]; exact hl⟩
  · rw [hp]
    rcases List.mem_append.mp he with he | he
    · rw [if_neg (fun z => hk (List.mem_map.mpr ⟨e', he, z⟩))]
      exact h5 e' he
    · rw [List.mem_singleton.mp he, if_pos rfl]
  · rw [List.map_append, List.mem_append] at hz
    rw [hp, if_neg (fun q => hz (.inr (by rw [q]; exact List.mem_singleton.mpr rfl)))]
    exact h6 z fun q => hz (.inl q)
  · rcases List.mem_append.mp he with he | he
    · refine (h7 e' he).same fun b u hb hH => ?_
      rw [upd_ne (fun z : b = wa => (h10 e' he).2.2 (z ▸ hb))]
      exact hH
    · rw [List.mem_singleton.mp he]
      refine E.same fun b u hb hH => ?_
      rw [upd_ne (fun z : b = wa => hg.2.2 (z ▸ hb))]
      exact hH
  · rw [List.map_append]
    refine List.nodup_append.mpr ⟨h8, by simp, fun x hx y hy z => ?_⟩
    rw [List.map_singleton, List.mem_singleton] at hy
    rw [z, hy] at hx
    exact hk hx
  · exact List.pairwise_append.mpr ⟨h9, List.pairwise_singleton _ _, fun e1 h1' e2 h2' => by rw [List.mem_singleton.mp h2']; exact hd e1 h1'⟩
  · rcases List.mem_append.mp he with he | he
    · exact h10 e' he
    · rw [List.mem_singleton.mp he]
      exact hg
/-- the last one's window takes a thing -/
theorem GAtK.put {row' : List Int} (S : GAtK K H g oa wa n mo c ks (es ++ [e])) (kp : Keep H H' e.t e.r e.k e.o) (E : WAt K H' e.wi e.t e.r e.k e.o n row') : GAtK K H' g oa wa n mo c ks (es ++ [{ e with row := row' }]) := by
  obtain ⟨⟨dx, h1⟩, h2, ⟨kvs, h3, h4, h5, h6⟩, h7, h8, h9, h10, n1, n2, m1, m2, le⟩ := S
  have kp' : ∀ b u, H b = some u → b ∉ e.fp → H' b = some u := fun b u hb hn => kp b u hb (fun z => hn (GE.mem (.inr (.inl z)))) (fun z => hn (GE.mem (.inr (.inr (.inl z))))) (fun z => hn (GE.mem (.inr (.inr (.inr (.inl z)))))) (fun z => hn (GE.mem (.inr (.inr (.inr (.inr z))))))
  obtain ⟨b1, b2, b3⟩ := h10 e (List.mem_append_right _ (List.mem_singleton.mpr rfl))
  obtain ⟨p1, p2, p3⟩ := List.pairwise_append.mp h9
  have ek : (es ++ [{ e with row := row' }]).map GE.key = (es ++ [e]).map GE.key := by rw [List.map_append, List.map_append]; rfl
  refine ⟨⟨dx, kp' _ _ h1 b1⟩, kp' _ _ h2 b2, ⟨kvs, kp' _ _ h3 b3, h4, fun e' he => ?_, fun z hz => h6 z (by rw [← ek]; exact hz)⟩, fun e' he => ?_, by rw [ek]; exact h8, ?_, fun e' he => ?_, n1, n2, m1, m2, by rw [List.length_append] at le ⊢; exact le⟩
  · rcases List.mem_append.mp he with he | he
    · exact h5 e' (List.mem_append_left _ he)
    · rw [List.mem_singleton.mp he]
      exact h5 e (List.mem_append_right _ (List.mem_singleton.mpr rfl))
  · rcases List.mem_append.mp he with he | he
    · exact (h7 e' (List.mem_append_left _ he)).same fun b u hb hH => kp' b u hH (p3 e' he e (List.mem_singleton.mpr rfl) b hb)
    · rw [List.mem_singleton.mp he]
      exact E
  · exact List.pairwise_append.mpr ⟨p1, List.pairwise_singleton _ _, fun e1 h1' e2 h2' => by rw [List.mem_singleton.mp h2']; exact p3 e1 h1' e (List.mem_singleton.mpr rfl)⟩
  · rcases List.mem_append.mp he with he | he
    · exact h10 e' (List.mem_append_left _ he)
    · rw [List.mem_singleton.mp he]
      exact ⟨b1, b2, b3⟩
/-- where those of another list come from -/
def Sub (H : Hp) (es es' : List GE) : Prop := ∀ e' ∈ es', (∃ e ∈ es, e'.fp = e.fp) ∨ ∀ x ∈ e'.fp, H x = none
theorem Sub.off {b : Addr} {u : HO} (h : Sub H es es') (hb : H b = some u) (o : Off oa wa es b) : Off oa wa es' b := by
  refine ⟨o.1, o.2.1, fun e' he hx => ?_⟩
  rcases h e' he with ⟨e, he2, eq⟩ | h
  · rw [eq] at hx
    exact o.2.2 e he2 hx
  · rw [h b hx] at hb
    cases hb
end
def look (rows : List (Int × List Int)) (key : Int) : List Int := ((rows.find? fun p => decide (p.1 = key)).map (·.2)).getD []
def gkept (mo : Nat) (rows : List (Int × List Int)) (key : Int) : List (Int × List Int) :=
  if key ∈ rows.map (·.1) then rows.filter (fun p => decide (p.1 ≠ key)) else if rows.length = mo then rows.tail else rows
def gput (n mo : Nat) (rows : List (Int × List Int)) (key x : Int) : List (Int × List Int) := gkept mo rows key ++ [(key, wput n (look rows key) x)]
def ggone (mo : Nat) (rows : List (Int × List Int)) (key : Int) : V := if key ∈ rows.map (·.1) then .non else if rows.length = mo then .int (rows.headD (0, [])).1 else .non
theorem abs_keys (es : List GE) : (es.map GE.abs).map (·.1) = es.map (·.key) := by rw [List.map_map]; rfl
theorem look_at {A B : List GE} {e : GE} (nd : ((A ++ e :: B).map (·.key)).Nodup) : look ((A ++ e :: B).map GE.abs) e.key = e.row := by
  have hA : ∀ p ∈ A.map GE.abs, ¬ decide (p.1 = e.key) = true := fun p hp hq => by
    obtain ⟨e', he, rfl⟩ := List.mem_map.mp hp
    rw [List.map_append, List.map_cons] at nd
    obtain ⟨_, _, h3⟩ := List.nodup_append.mp nd
    exact h3 e'.key (List.mem_map.mpr ⟨e', he, rfl⟩) e.key List.mem_cons_self (of_decide_eq_true hq)
  unfold look
  rw [List.map_append, List.find?_append, List.find?_eq_none.mpr hA, List.map_cons, List.find?_cons_of_pos (by exact decide_eq_true rfl)]
  rfl
theorem look_no {es : List GE} {key : Int} (h : key ∉ es.map (·.key)) : look (es.map GE.abs) key = [] := by
  unfold look
  rw [List.find?_eq_none.mpr]
  · rfl
  · intro p hp hq
    obtain ⟨e', he, rfl⟩ := List.mem_map.mp hp
    exact h (List.mem_map.mpr ⟨e', he, of_decide_eq_true hq⟩)
theorem gkept_at {mo : Nat} {A B : List GE} {e : GE} (nd : ((A ++ e :: B).map (·.key)).Nodup) : gkept mo ((A ++ e :: B).map GE.abs) e.key = (A ++ B).map GE.abs := by
  unfold gkept
  rw [if_pos (by rw [abs_keys, List.map_append, List.map_cons]; exact List.mem_append_right _ List.mem_cons_self)]
  rw [List.map_append, List.map_cons] at nd
  obtain ⟨_, h2, h3⟩ := List.nodup_append.mp nd
  rw [List.nodup_cons] at h2
  rw [List.map_append, List.map_append, List.filter_append, List.map_cons, List.filter_cons_of_neg (by intro q; exact (of_decide_eq_true q) rfl), List.filter_eq_self.mpr, List.filter_eq_self.mpr]
  · intro p hp
    obtain ⟨e', he, rfl⟩ := List.mem_map.mp hp
    exact decide_eq_true fun q => h2.1 (List.mem_map.mpr ⟨e', he, q⟩)
  · intro p hp
    obtain ⟨e', he, rfl⟩ := List.mem_map.mp hp
    exact decide_eq_true fun q => h3 e'.key (List.mem_map.mpr ⟨e', he, rfl⟩) e.key List.mem_cons_self q
def spGInitX (K : PySem.W.Frag) : Sp := fun vs H Q E => ∃ (g dx : Addr) (z y : Int), vs = [.ref g, .int z, .int y] ∧ H g = some (.ins (He.ga K "Groups") dx []) ∧ (¬ (okSz z ∧ okSz y) → E (exC K "BadWindow") none H) ∧ (∀ n mo : Nat, z = n → y = mo → 1 ≤ n → n ≤ 1000 → 1 ≤ mo → mo ≤ 1000 →
  ∀ (oa wa : Addr) (H' : Hp), H oa = none → H wa = none → GAt K H' g oa wa n mo 0 [] → (∀ b u, H b = some u → b ≠ g → H' b = some u) → Q .non H')
def spGPut (K : PySem.W.Frag) : Sp := fun vs H Q _ => ∃ (g oa wa : Addr) (n mo c : Nat) (es : List GE) (key x : Int), vs = [.ref g, .int key, .int x] ∧ GAt K H g oa wa n mo c es ∧ c < 1000 ∧
  ∀ es' H', es'.map GE.abs = gput n mo (es.map GE.abs) key x → GAt K H' g oa wa n mo (c + 1) es' → KeepG H H' oa wa es es' → Q (ggone mo (es.map GE.abs) key) H'
def spGUsed (K : PySem.W.Frag) : Sp := fun vs H Q _ => ∃ (g oa wa : Addr) (n mo c : Nat) (es : List GE), vs = [.ref g] ∧ GAt K H g oa wa n mo c es ∧
  ∀ l H', H l = none → Same H H' → H' l = some (.lst ((es.map (·.key)).map V.int)) → Q (.ref l) H'
def spGNeedX (K : PySem.W.Frag) : Sp := fun vs H Q E => ∃ (g oa wa : Addr) (n mo c : Nat) (es : List GE) (key : Int), vs = [.ref g, .int key] ∧ GAt K H g oa wa n mo c es ∧ (∀ e ∈ es, e.key = key → Q (.ref e.wi) H) ∧ (key ∉ es.map (·.key) → E (exC K "NoKey") none H)
def spGThingsX (K : PySem.W.Frag) : Sp := fun vs H Q E => ∃ (g oa wa : Addr) (n mo c : Nat) (es : List GE) (key : Int), vs = [.ref g, .int key] ∧ GAt K H g oa wa n mo c es ∧ (∀ e ∈ es, e.key = key → ∀ l H', H l = none → Same H H' → H' l = some (.lst (e.row.map V.int)) → Q (.ref l) H') ∧ (key ∉ es.map (·.key) → E (exC K "NoKey") none H)
def spGWordX (K : PySem.W.Frag) : Sp := fun vs H Q E => ∃ (g oa wa : Addr) (n mo c : Nat) (es : List GE) (key : Int) (nm : Str), vs = [.ref g, .int key, .str nm] ∧ GAt K H g oa wa n mo c es ∧ (∀ e ∈ es, e.key = key → nm ∈ names12 → ∀ H', Same H H' → Q (wordV e.row nm) H') ∧
  (∀ e ∈ es, e.key = key → nm ∉ names12 → ∀ H', Same H H' → E (exC K "NoWord") none H') ∧ (key ∉ es.map (·.key) → E (exC K "NoKey") none H)
section
variable {P : Program} {w : World} {K : PySem.W.Frag} {mg : Str → Option Value} {base : Heap} {D : Str × Option Str → FuncData}
theorem ok_Groups_init (T : Txt K mg D) : FnOk P w K mg base (L2.CX P w) 3 (He.ma K (He.ga K "Groups") "__init__") (D ("Groups", some "__init__")) ["self", "size", "most"] (spGInitX K) := by
  refine T.Groups_init.F.ok sc_Groups_init (fun vs H Q E h => ?_) (fun cdv A outer s H vs Q E hr h => ?_)
  · obtain ⟨g, dx, n, mo, rfl, _⟩ := h
    rfl
  · obtain ⟨g, dx, z, y, rfl, h1, kx, kq⟩ := h
    have fcGroups := T.cGroups.cl; have fnGroupssize := T.n_Groups_size; have fnGroupsmost := T.n_Groups_most; have fnGroupsorder := T.n_Groups_order; have fnGroupswindows := T.n_Groups_windows
    by_cases hz : okSz z ∧ okSz y
    rotate_left
    · refine ⟨_, (pss_cons (ps_expr (pe_callS (ok_look_size T) (by exact hr.mono (by decide)) (by rfl) T.look_size.g T.look_size.F.kp T.look_size.b (fun σ => passAt (takes_of rfl rfl rfl rfl) σ) (pa_cons (pv 1) pa_nil)))
      (pss_cons (ps_expr (pe_callS (ok_look_size T) (by exact hr.mono (by decide)) (by rfl) T.look_size.g T.look_size.F.kp T.look_size.b (fun σ => passAt (takes_of rfl rfl rfl rfl) σ) (pa_cons (pv 2) pa_nil)))
      (pss_cons (ps_fldK (K := K) rfl (pv 0) (pv 1) rfl)
      (pss_cons (ps_fldK (K := K) rfl (pv 0) (pv 2) rfl)
      (pss_cons (ps_fldK (K := K) rfl (pv 0) (pe_lst pa_nil) rfl)
      (pss_one (ps_fldK (K := K) rfl (pv 0) pe_dnewK rfl))))))), ?_⟩
      walk_at "in"
      refine ⟨z, rfl, fun q => ?_, fun q => kx fun r => q r.1⟩
      walk_at "go"
      exact ⟨y, rfl, fun r => absurd ⟨q, r⟩ hz, fun _ => kx hz⟩
    obtain ⟨hz, hy⟩ := hz
    obtain ⟨n, rfl, n1, n2⟩ := hz.nat
    obtain ⟨mo, rfl, m1, m2⟩ := hy.nat
    have kq := kq n mo rfl rfl n1 n2 m1 m2
    refine ⟨_, (pss_cons (ps_expr (pe_callS (ok_look_size T) (by exact hr.mono (by decide)) (by rfl) T.look_size.g T.look_size.F.kp T.look_size.b (fun σ => passAt (takes_of rfl rfl rfl rfl) σ) (pa_cons (pv 1) pa_nil)))
      (pss_cons (ps_expr (pe_callS (ok_look_size T) (by exact hr.mono (by decide)) (by rfl) T.look_size.g T.look_size.F.kp T.look_size.b (fun σ => passAt (takes_of rfl rfl rfl rfl) σ) (pa_cons (pv 2) pa_nil)))
      (pss_cons (ps_fldK (K := K) rfl (pv 0) (pv 1) rfl)
      (pss_cons (ps_fldK (K := K) rfl (pv 0) (pv 2) rfl)
      (pss_cons (ps_fldK (K := K) rfl (pv 0) (pe_lst pa_nil) rfl)
      (pss_one (ps_fldK (K := K) rfl (pv 0) pe_dnewK rfl))))))), ?_⟩
    walk_at "in"
    refine ⟨n, rfl, fun _ => ?_, fun q => absurd hz q⟩
    walk_at "go"
    refine ⟨mo, rfl, fun _ => ?_, fun q => absurd hy q⟩
    walk_at "go"
    refine ⟨Nat.zero_le _, fun oa noa => ?_⟩
    have a0 : g ≠ oa := ne_of_none (by walk_at "hp") noa
    walk_at "go"
    intro wa nwa
    have a1 : g ≠ wa := ne_of_none (by walk_at "hp") nwa
    have a2 : oa ≠ wa := ne_of_none (o := HO.lst []) (by walk_at "hp") nwa
    walk_at "go"
    have f1 : H oa = none := by rw [upd_ne a0.symm, upd_ne a0.symm] at noa; exact noa
    have f2 : H wa = none := by rw [upd_ne a1.symm, upd_ne a2.symm, upd_ne a1.symm, upd_ne a1.symm] at nwa; exact nwa
    refine kq oa wa _ f1 f2 ⟨⟨dx, upd_same⟩, (show _ = some (HO.lst []) by walk_at "hp"), ⟨[], by walk_at "hp", Nat.le_refl _, (fun e he => by cases he), fun z _ => valV_nil⟩, (fun e he => by cases he), List.nodup_nil, List.Pairwise.nil, (fun e he => by cases he), n1, n2, m1, m2, Nat.zero_le _⟩ fun b u e hb => ?_
    have b1 : b ≠ oa := ne_of_none e f1
    have b2 : b ≠ wa := ne_of_none e f2
    walk_at "hp"
theorem ok_Groups_used (T : Txt K mg D) : FnOk P w K mg base CX0 1 (He.ma K (He.ga K "Groups") "used") (D ("Groups", some "used")) ["self"] (spGUsed K) := by
  refine T.Groups_used.F.ok sc_Groups_used (fun vs H Q E h => ?_) (fun cdv A outer s H vs Q E hr h => ?_)
  · obtain ⟨g, oa, wa, n, mo, c, es, rfl, _⟩ := h
    rfl
  · obtain ⟨g, oa, wa, n, mo, c, es, rfl, S, kq⟩ := h
    have fcGroups := T.cGroups.cl; have fnGroupssize := T.n_Groups_size; have fnGroupsmost := T.n_Groups_most; have fnGroupsorder := T.n_Groups_order; have fnGroupswindows := T.n_Groups_windows
    obtain ⟨⟨dx, h1⟩, h2, _⟩ := id S
    refine ⟨_, PSs.nox (pss_one (ps_ret (pe_callTy (call_listK (K := K) rfl) (by rfl) T.z_list (by decide +kernel) (pa_cons (pe_fldK (K := K) rfl (pv 0) rfl) pa_nil)))), ?_⟩
    walk_at "in"
    intro l nl
    exact kq l _ nl (same_upd nl (Same.refl H)) upd_same
theorem ok_Groups_need (T : Txt K mg D) : FnOk P w K mg base (L2.CX P w) 1 (He.ma K (He.ga K "Groups") "need") (D ("Groups", some "need")) ["self", "key"] (spGNeedX K) := by
  refine T.Groups_need.F.ok sc_Groups_need (fun vs H Q E h => ?_) (fun cdv A outer s H vs Q E hr h => ?_)
  · obtain ⟨g, oa, wa, n, mo, c, es, key, rfl, _⟩ := h
    rfl
  · obtain ⟨g, oa, wa, n, mo, c, es, key, rfl, S, kq, kx⟩ := h
    have fcGroups := T.cGroups.cl; have fnGroupssize := T.n_Groups_size; have fnGroupsmost := T.n_Groups_most; have fnGroupsorder := T.n_Groups_order; have fnGroupswindows := T.n_Groups_windows
    have hu := hu_of hr
    obtain ⟨⟨dx, h1⟩, h2, ⟨kvs, h3, _, h5, h6⟩, _⟩ := id S
    refine ⟨_, (pss_cons (ps_if (pt_cmp (pc_dnotin (by exact hu) (pv 1) (pe_fldK (K := K) rfl (pv 0) rfl))) (pss_one (ps_raise rfl (takes_of rfl rfl rfl rfl) (pmk_own PySem.F.excBase_ValueError T.x_NoKey.e T.x_NoKey.g T.x_NoKey.k (raises_own T.x_NoKey.s T.x_NoKey.t) (by rfl)))) pss_nil)
      (pss_one (ps_ret (pe_dget (by exact hu) (pe_fldK (K := K) rfl (pv 0) rfl) (pv 1) (fun _ _ => rfl))))), ?_⟩
    walk_at "in"
    by_cases hk : key ∈ es.map (·.key)
    · obtain ⟨e, he, rfl⟩ := List.mem_map.mp hk
      rw [h5 e he]
      refine iteBF rfl ?_
      walk_at "go"
      refine R_get (by walk_at "hp") (h5 e he) ?_
      exact kq e he rfl
    · rw [h6 key hk]
      refine iteBT rfl ?_
      walk_at "go"
      exact kx hk
theorem ok_Groups_things (T : Txt K mg D) : FnOk P w K mg base (L2.CX P w) 2 (He.ma K (He.ga K "Groups") "things") (D ("Groups", some "things")) ["self", "key"] (spGThingsX K) := by
  refine T.Groups_things.F.ok sc_Groups_things (fun vs H Q E h => ?_) (fun cdv A outer s H vs Q E hr h => ?_)
  · obtain ⟨g, oa, wa, n, mo, c, es, key, rfl, _⟩ := h
    rfl
  · obtain ⟨g, oa, wa, n, mo, c, es, key, rfl, S, kq, kx⟩ := h
    have fcGroups := T.cGroups.cl; have fnGroupssize := T.n_Groups_size; have fnGroupsmost := T.n_Groups_most; have fnGroupsorder := T.n_Groups_order; have fnGroupswindows := T.n_Groups_windows
    obtain ⟨⟨dx, h1⟩, h2, ⟨kvs, h3, _, h5, _⟩, hw, _⟩ := id S
    refine ⟨_, (pss_one (ps_ret (pe_meth0 (pe_methW (pv 0) T.cGroups.cl T.Groups_need.me (ok_Groups_need T) (by exact hr.mono (by decide)) T.Groups_need.b (fun σ => passAt (takes_of rfl rfl rfl rfl) σ) (pa_cons (pv 1) pa_nil)) T.cWindow.cl T.Window_things.me (ok_Window_things T) (by exact hr.mono (by decide)) T.Window_things.b .nil pass0))), ?_⟩
    walk_at "in"
    refine ⟨g, oa, wa, n, mo, c, es, key, rfl, S, fun e he ek => ?_, kx⟩
    obtain ⟨⟨dw, g1⟩, _⟩ := id (hw e he)
    walk_at "go"
    exact ⟨e.wi, e.t, e.r, e.k, e.o, n, e.row, rfl, hw e he, kq e he ek⟩
theorem ok_Groups_word (T : Txt K mg D) : FnOk P w K mg base (L2.CX P w) 6 (He.ma K (He.ga K "Groups") "word") (D ("Groups", some "word")) ["self", "key", "name"] (spGWordX K) := by
  refine T.Groups_word.F.ok sc_Groups_word (fun vs H Q E h => ?_) (fun cdv A outer s H vs Q E hr h => ?_)
  · obtain ⟨g, oa, wa, n, mo, c, es, key, nm, rfl, _⟩ := h
    rfl
  · obtain ⟨g, oa, wa, n, mo, c, es, key, nm, rfl, S, kq, kn, kx⟩ := h
    have fcGroups := T.cGroups.cl; have fnGroupssize := T.n_Groups_size; have fnGroupsmost := T.n_Groups_most; have fnGroupsorder := T.n_Groups_order; have fnGroupswindows := T.n_Groups_windows
    obtain ⟨⟨dx, h1⟩, h2, ⟨kvs, h3, _, h5, _⟩, hw, _⟩ := id S
    refine ⟨_, (pss_one (ps_ret (pe_methW (pe_methW (pv 0) T.cGroups.cl T.Groups_need.me (ok_Groups_need T) (by exact hr.mono (by decide)) T.Groups_need.b (fun σ => passAt (takes_of rfl rfl rfl rfl) σ) (pa_cons (pv 1) pa_nil)) T.cWindow.cl T.Window_word.me (ok_Window_word T) (by exact hr.mono (by decide)) T.Window_word.b (fun σ => passAt (takes_of rfl rfl rfl rfl) σ) (pa_cons (pv 2) pa_nil)))), ?_⟩
    walk_at "in"
    refine ⟨g, oa, wa, n, mo, c, es, key, rfl, S, fun e he ek => ?_, kx⟩
    obtain ⟨⟨dw, g1⟩, _⟩ := id (hw e he)
    walk_at "go"
    exact ⟨e.wi, e.t, e.r, e.k, e.o, n, e.row, nm, rfl, hw e he, kq e he ek, kn e he ek⟩
theorem ok_Groups_put (T : Txt K mg D) : FnOk P w K mg base CX0 5 (He.ma K (He.ga K "Groups") "put") (D ("Groups", some "put")) ["self", "key", "thing"] (spGPut K) := by
  refine T.Groups_put.F.ok sc_Groups_put (fun vs H Q E h => ?_) (fun cdv A outer s H vs Q E hr h => ?_)
  · obtain ⟨g, oa, wa, n, mo, c, es, key, x, rfl, _⟩ := h
    rfl
  · obtain ⟨g, oa, wa, n, mo, c, es, key, x, rfl, S, hc, kq⟩ := h
    have fcGroups := T.cGroups.cl; have fnGroupssize := T.n_Groups_size; have fnGroupsmost := T.n_Groups_most; have fnGroupsorder := T.n_Groups_order; have fnGroupswindows := T.n_Groups_windows; have fcWindow := T.cWindow.cl; have fnWindowsize := T.n_Window_size; have fnWindowtally := T.n_Window_tally
    have hu := hu_of hr
    obtain ⟨⟨dx, h1⟩, h2, ⟨kvs, h3, hcl, h5, h6⟩, hw, nd, hdj, hap, n1, n2, m1, m2, hle⟩ := id S
    obtain ⟨a1, a2, a3⟩ := GAtK.apart S
    refine ⟨_, PSs.nox (pss_cons (ps_set (i := 3) sc_Groups_put.nd rfl (Or.inl rfl) pe_non)
      (pss_cutQ (ps_if (pt_cmp (pc_din (by exact hu) (pv 1) (pe_fldK (K := K) rfl (pv 0) rfl))) (pss_one (ps_expr (pe_bmK (K := K) rfl PySem.F.plainAttrs_list PySem.F.slot_list_remove PySem.F.type_list_remove mt_remove (pe_fldK (K := K) rfl (pv 0) rfl) (pa_cons (pv 1) pa_nil)))) (pss_cutQ (ps_if (pt_cmpR op_eq (pe_callB (call_lenK (K := K) rfl) (by rfl) T.z_len PySem.boot_len (pa_cons (pe_fldK (K := K) rfl (pv 0) rfl) pa_nil)) (pe_fldK (K := K) rfl (pv 0) rfl) (nomark _)) (pss_cons (ps_set (i := 3) sc_Groups_put.nd rfl (Or.inl rfl) (pe_bmK (K := K) rfl PySem.F.plainAttrs_list PySem.F.slot_list_pop PySem.F.type_list_pop mt_popAt (pe_fldK (K := K) rfl (pv 0) rfl) (pa_cons pe_int pa_nil)))
      (pss_one (ps_expr (pe_dpop1 (pe_fldK (K := K) rfl (pv 0) rfl) (pv 3) ⟨rfl, rfl, rfl, rfl⟩)))) pss_nil)
      (pss_one (ps_dput (by exact hu) (pe_fldK (K := K) rfl (pv 0) rfl) (pv 1) (pe_make T.cWindow.mkr (ok_Window_init T) (by exact hr.mono (by decide)) (by rfl) T.cWindow.g T.Window_init.b .nil passL (pa_cons (pe_fldK (K := K) rfl (pv 0) rfl) pa_nil)) rfl))))
      (pss_cons (ps_expr (pe_bmK (K := K) rfl PySem.F.plainAttrs_list PySem.F.slot_list_append PySem.F.type_list_append mt_append (pe_fldK (K := K) rfl (pv 0) rfl) (pa_cons (pv 1) pa_nil)))
      (pss_cons (ps_expr (pe_meth (pe_dget (by exact hu) (pe_fldK (K := K) rfl (pv 0) rfl) (pv 1) (fun _ _ => rfl)) T.cWindow.cl T.Window_put.me (ok_Window_put T) (by exact hr.mono (by decide)) T.Window_put.b .nil pass0 (pa_cons (pv 2) pa_nil)))
      (pss_one (ps_ret (pv 3))))))), ?_⟩
    walk_at "in"
    refine S_cut (fun σ' H' => σ' = [some (.ref g), some (.int key), some (.int x), some (ggone mo (es.map GE.abs) key)] ∧ ∃ (es1 : List GE) (ek : GE), GAtK K H' g oa wa n mo (c + 1) (es1.map (·.key)) (es1 ++ [ek]) ∧ es1.map GE.abs = gkept mo (es.map GE.abs) key ∧ ek.key = key ∧ ek.row = look (es.map GE.abs) key ∧ Sub H es (es1 ++ [ek]) ∧ (∀ b u, H b = some u → Off oa wa es b → H' b = some u)) ?_ ?_
    · walk_at "go"
      by_cases hk : key ∈ es.map (·.key)
      · have eg : ggone mo (es.map GE.abs) key = .non := if_pos (by rw [abs_keys]; exact hk)
        rw [eg]
        obtain ⟨e, he, rfl⟩ := List.mem_map.mp hk
        obtain ⟨A, B, rfl⟩ := List.append_of_mem he
        rw [h5 e he]
        refine iteBT rfl ?_
        walk_at "go"
        refine ⟨oa, (A ++ e :: B).map (·.key), e.key, A.length, rfl, rfl, by walk_at "hp", ?_, ?_, ?_⟩
        · rw [List.getElem?_map, List.getElem?_append_right (Nat.le_refl _), Nat.sub_self]
          rfl
        · intro m hm q
          rw [List.getElem?_map, List.getElem?_append_left hm] at q
          cases em : A[m]? with
          | none => rw [em] at q; cases q
          | some e' =>
            rw [em] at q
            rw [List.map_append, List.map_cons] at nd
            exact (List.nodup_append.mp nd).2.2 e'.key (List.mem_map.mpr ⟨e', List.mem_of_getElem? em, rfl⟩) e.key List.mem_cons_self (Option.some.inj q)
        · walk_at "go"
          have eo : ((A ++ e :: B).map (·.key)).eraseIdx A.length = (A ++ B).map (·.key) := by
            rw [List.map_append, List.map_cons, List.eraseIdx_append_of_length_le (by rw [List.length_map]; exact Nat.le_refl _), List.length_map, Nat.sub_self, List.map_append]
            rfl
          rw [eo]
          have hp : (A ++ e :: B).Perm ((A ++ B) ++ [e]) := by
            rw [List.append_assoc]
            exact (List.perm_append_left_iff A).mpr (List.perm_append_singleton e B).symm
          refine ⟨rfl, A ++ B, e, ((GAtK.order S _).perm hp).more (Nat.le_succ _), (gkept_at nd).symm, rfl, (look_at nd).symm, fun e' he' => .inl ⟨e', hp.mem_iff.mpr he', rfl⟩, fun b u hb ho => ?_⟩
          rw [upd_ne ho.1]
          exact hb
      · have hk2 : key ∉ (es.map GE.abs).map (·.1) := by rw [abs_keys]; exact hk
        rw [h6 key hk]
        refine iteBF rfl ?_
        walk_at "go"
        refine S_cut (fun σ' H' => σ' = [some (.ref g), some (.int key), some (.int x), some (ggone mo (es.map GE.abs) key)] ∧ ∃ es1 : List GE, GAtK K H' g oa wa n mo c (es1.map (·.key)) es1 ∧ es1.map GE.abs = gkept mo (es.map GE.abs) key ∧ key ∉ es1.map (·.key) ∧ es1.length < mo ∧ (∀ e ∈ es1, e ∈ es) ∧ (∀ b u, H b = some u → Off oa wa es b → H' b = some u) ∧ ∀ b, H' b = none → H b = none) ?_ ?_
        · walk_at "go"
          rw [List.length_map, List.length_map]
          by_cases hf : es.length = mo
          · refine iteBT (decide_eq_true (by rw [hf])) ?_
            walk_at "go"
            cases es with
            | nil => exact absurd hf (by rw [List.length_nil]; omega)
            | cons e0 r =>
              have eg : ggone mo ((e0 :: r).map GE.abs) key = .int e0.key := (if_neg hk2).trans (if_pos (by rw [List.length_map]; exact hf))
              rw [eg]
              refine R_pop0 (y := .int e0.key) (r := (r.map GE.key).map V.int) h2 ?_
              walk_at "go"
              refine R_pop1 (kvs := kvs) (v := .ref e0.wi) (by walk_at "hp") (h5 e0 List.mem_cons_self) ?_
              walk_at "go"
              have S2 := (GAtK.order S (r.map (·.key))).less (kvs := kvs) (by rw [upd_ne a3.symm]; exact h3)
              refine ⟨rfl, r, S2, ?_, fun q => hk (List.mem_cons_of_mem _ q), by rw [List.length_cons] at hf; omega, fun e he => List.mem_cons_of_mem _ he, fun b u hb ho => by rw [upd_ne ho.2.1, upd_ne ho.1]; exact hb, fun b hb => ?_⟩
              · exact ((if_neg hk2).trans (if_pos (by rw [List.length_map]; exact hf))).symm
              · by_cases z1 : b = wa
                · rw [z1, upd_same] at hb
                  cases hb
                · rw [upd_ne z1] at hb
                  by_cases z2 : b = oa
                  · rw [z2, upd_same] at hb
                    cases hb
                  · rw [upd_ne z2] at hb
                    exact hb
          · have eg : ggone mo (es.map GE.abs) key = .non := (if_neg hk2).trans (if_neg (by rw [List.length_map]; exact hf))
            rw [eg]
            refine iteBF (decide_eq_false (fun e => hf (by have := V.int.inj e; omega))) ?_
            walk_at "go"
            exact ⟨rfl, es, S, ((if_neg hk2).trans (if_neg (by rw [List.length_map]; exact hf))).symm, hk, by omega, fun e he => he, fun b u hb _ => hb, fun b hb => hb⟩
        · rintro σ' H' ⟨rfl, es1, S1, e1, hk1, hl1, hsub, kp, hfr⟩
          obtain ⟨⟨dx', g1⟩, g2, ⟨kvs1, g3, gcl, _⟩, _⟩ := id S1
          walk_at "go"
          intro wi dw nwi ndw ne
          have sB : Same H' (upd (upd H' dw (.own wi)) wi (.ins (He.ga K "Window") dw [])) := fun b u e => by
            rw [upd_ne (ne_of_none e nwi), upd_ne (ne_of_none e ndw)]
            exact e
          refine ⟨wi, dw, n, rfl, upd_same, fun q => absurd (okSz.of n1 n2) q, fun n' en _ _ t r k o H2 nt nr nk no W kp2 => ⟨rfl, ?_⟩⟩
          have en : n' = n := by omega
          have W : WAt K H2 wi t r k o n [] := by rw [← en]; exact W
          have s2 : Same H' H2 := Same.made nwi ndw kp2
          have S2 := S1.ex s2
          have fe : ∀ x ∈ (GE.mk key wi t r k o []).fp, H' x = none := fun x hx => by
            rcases GE.cases hx with rfl | rfl | rfl | rfl | rfl
            · exact nwi
            · exact sB.free nt
            · exact sB.free nr
            · exact sB.free nk
            · exact sB.free no
          have off : ∀ y, (∃ u, H' y = some u) → y ∉ (GE.mk key wi t r k o []).fp := fun y ⟨u, hu⟩ hx => by
            rw [fe y hx] at hu
            cases hu
          have q1 := s2 _ _ g1
          have q3 := s2 _ _ g3
          walk_at "go"
          refine ⟨rfl, es1, GE.mk key wi t r k o [], S2.new (e := GE.mk key wi t r k o []) q3 W ⟨off g ⟨_, g1⟩, off oa ⟨_, g2⟩, off wa ⟨_, g3⟩⟩ hk1 (fun e' he' x hx => off x ((S1.ws e' he').some hx)) hl1, e1, rfl, (look_no hk).symm, fun e' he' => ?_, fun b u hb ho => ?_⟩
          · rcases List.mem_append.mp he' with he' | he'
            · exact .inl ⟨e', hsub e' he', rfl⟩
            · rw [List.mem_singleton.mp he']
              exact .inr fun x hx => hfr x (fe x hx)
          · rw [upd_ne ho.2.1]
            exact s2 _ _ (kp b u hb ho)
    · rintro σ' H' ⟨rfl, es1, ek, S1, e1, ekk, er, hs, kp⟩
      have hmem : ek ∈ es1 ++ [ek] := List.mem_append_right _ (List.mem_singleton.mpr rfl)
      obtain ⟨⟨dx', g1⟩, g2, ⟨kvs1, g3, gcl, g5, _⟩, gw, _, _, gap, _, _, _, _, gle⟩ := id S1
      obtain ⟨⟨dw, w1⟩, _⟩ := id (gw ek hmem)
      have d1 : ek.wi ≠ oa := fun z => (gap ek hmem).2.1 (by rw [← z]; exact GE.mem (.inl rfl))
      have hlen : es1.length ≤ 1000 := by rw [List.length_append, List.length_singleton] at gle; omega
      walk_at "go"
      have S2 : GAtK K (upd H' oa (.lst ((es1.map (·.key)).map V.int ++ [.int key]))) g oa wa n mo (c + 1) ((es1 ++ [ek]).map GE.key) (es1 ++ [ek]) := by
        have q := GAtK.order S1 ((es1 ++ [ek]).map GE.key)
        have e : ((es1 ++ [ek]).map GE.key).map V.int = (es1.map (·.key)).map V.int ++ [.int key] := by
          rw [List.map_append, List.map_append, ← ekk]
          rfl
        rw [e] at q
        exact q
      refine R_get (v := .ref ek.wi) (by walk_at "hp") (by rw [← ekk]; exact g5 ek hmem) ?_
      walk_at "go"
      refine ⟨ek.wi, ek.t, ek.r, ek.k, ek.o, n, ek.row, x, rfl, S2.ws ek hmem, fun H3 W kp3 => ?_⟩
      walk_at "go"
      have S3 := S2.put kp3 W
      have ek3 : (es1 ++ [{ ek with row := wput n ek.row x }]).map GE.key = (es1 ++ [ek]).map GE.key := by rw [List.map_append, List.map_append]; rfl
      refine kq (es1 ++ [{ ek with row := wput n ek.row x }]) H3 ?_ ?_ ?_
      · rw [List.map_append, e1]
        unfold gput
        rw [← er, ← ekk]
        rfl
      · show GAtK _ _ _ _ _ _ _ _ _ _
        rw [ek3]
        exact S3
      · intro b u hb ho
        have o2 := hs.off hb ho
        have hn := o2.2.2 ek hmem
        refine ⟨kp3 b u (by rw [upd_ne ho.1]; exact kp b u hb ho) (fun z => hn (GE.mem (.inr (.inl z)))) (fun z => hn (GE.mem (.inr (.inr (.inl z))))) (fun z => hn (GE.mem (.inr (.inr (.inr (.inl z)))))) (fun z => hn (GE.mem (.inr (.inr (.inr (.inr z)))))), o2.1, o2.2.1, fun e' he' => ?_⟩
        rcases List.mem_append.mp he' with he' | he'
        · exact o2.2.2 e' (List.mem_append_left _ he')
        · rw [List.mem_singleton.mp he']
          exact hn
end
end LF


set_option maxRecDepth 100000
set_option maxHeartbeats 4000000
namespace LF
open PySem PySem.Spec PyProof.Rows L2



/-! ### the law's own helpers -/
def cellF (ns : List Int) (k : Int) : Int := if ns = [] then 0 else ns.getD (k % (ns.length : Int)).toNat 0
def mixF (ns : List Int) (k : Int) : Int :=
  (((cellF ns k + 104729 * (k + 1)) % 4294967291 * 48271 % 4294967279) / 64 * 69621 + (cellF ns k + 104729 * (k + 1)) % 4294967291 * 48271 % 4294967279) % 4294967231
theorem mixF_nn (ns : List Int) (k : Int) : 0 ≤ mixF ns k := Int.emod_nonneg _ (by decide)
theorem mixF_lt (ns : List Int) (k : Int) : mixF ns k < 4294967231 := Int.emod_lt_of_pos _ (by decide)
def spCell (K : PySem.W.Frag) : Sp := fun vs H Q _ => ∃ (a : Addr) (ns : List Int) (i : Int), vs = [.ref a, .int i] ∧ SqL K H a (ns.map V.int) ∧ ns.length ≤ 63 ∧ 0 ≤ i ∧ Q (.int (cellF ns i)) H
def spMix (K : PySem.W.Frag) : Sp := fun vs H Q _ => ∃ (a : Addr) (ns : List Int) (i : Int), vs = [.ref a, .int i] ∧ SqL K H a (ns.map V.int) ∧ ns.length ≤ 63 ∧ 0 ≤ i ∧ Q (.int (mixF ns i)) H
def spNames : Sp := fun vs H Q _ => vs = [] ∧ ∀ l H', H l = none → Same H H' → H' l = some (.lst (names12.map V.str)) → Q (.ref l) H'
section
variable {P : Program} {w : World} {K : PySem.W.Frag} {mg : Str → Option Value} {base : Heap} {D : Str × Option Str → FuncData}
theorem ok_l_cell (T : Txt K mg D) : FnOk P w K mg base CX0 1 (He.ga K "_law_cell") (D ("_law_cell", none)) ["_law_script", "_law_k"] (spCell K) := by
  refine T.l_cell.F.ok sc_l_cell (fun vs H Q E h => ?_) (fun cdv A outer s H vs Q E hr h => ?_)
  · obtain ⟨a, ns, i, rfl, _⟩ := h
    rfl
  · obtain ⟨a, ns, i, rfl, hS, hl, hi, kq⟩ := h
    refine ⟨_, PSs.nox (pss_cons (ps_if (pt_truK (K := K) rfl (pv 0) (by intro _; rfl)) (pss_one (ps_ret (pe_ix (ix_listK (K := K) rfl) (pv 0) (pe_op op_mod (pv 1) (pe_callB (call_lenK (K := K) rfl) (by rfl) T.z_len PySem.boot_len (pa_cons (pv 0) pa_nil))) (fun _ _ => rfl)))) pss_nil)
      (pss_one (ps_ret pe_int))), ?_⟩
    walk_at "in"
    cases ns with
    | nil =>
      refine iteBF rfl ?_
      walk_at "go"
      exact kq
    | cons x r =>
      refine iteBT rfl ?_
      have hpos : (0 : Int) < ((List.map V.int (x :: r)).length : Nat) := by rw [mapint_len, List.length_cons]; omega
      walk_at "go"
      have h1 := Int.emod_nonneg i (b := (((x :: r).length : Nat) : Int)) (by rw [List.length_cons]; omega)
      have h2 := Int.emod_lt_of_pos i (b := (((x :: r).length : Nat) : Int)) (by rw [List.length_cons]; omega)
      refine R_ixL hS (at_int (i % (((x :: r).length : Nat) : Int)).toNat (by rw [mapint_len]; omega) (by omega)) ?_
      have e : cellF (x :: r) i = (x :: r)[(i % (((x :: r).length : Nat) : Int)).toNat]'(by omega) := by
        unfold cellF
        rw [if_neg (List.cons_ne_nil _ _), List.getD_eq_getElem?_getD, List.getElem?_eq_getElem (by omega)]
        rfl
      rw [← e]
      exact kq
theorem ok_l_mix (T : Txt K mg D) : FnOk P w K mg base CX0 2 (He.ga K "_law_mix") (D ("_law_mix", none)) ["_law_script", "_law_k"] (spMix K) := by
  refine T.l_mix.F.ok sc_l_mix (fun vs H Q E h => ?_) (fun cdv A outer s H vs Q E hr h => ?_)
  · obtain ⟨a, ns, i, rfl, _⟩ := h
    rfl
  · obtain ⟨a, ns, i, rfl, hS, hl, hi, kq⟩ := h
    refine ⟨_, PSs.nox (pss_cons (ps_set (i := 2) sc_l_mix.nd rfl (Or.inl rfl) (pe_op op_mod (pe_op op_add (pe_call (ok_l_cell T) (by exact hr.mono (by decide)) (by rfl) T.l_cell.g T.l_cell.F.kp T.l_cell.b .nil pass0 (pa_cons (pv 0) (pa_cons (pv 1) pa_nil))) (pe_op op_mul pe_int (pe_op op_add (pv 1) pe_int))) pe_int))
      (pss_cons (ps_set (i := 2) sc_l_mix.nd rfl (Or.inl rfl) (pe_op op_mod (pe_op op_mul (pv 2) pe_int) pe_int))
      (pss_one (ps_ret (pe_op op_mod (pe_op op_add (pe_op op_mul (pe_op op_fdiv (pv 2) pe_int) pe_int) (pv 2)) pe_int))))), ?_⟩
    walk_at "in"
    refine ⟨a, ns, i, rfl, hS, hl, hi, ?_⟩
    walk_at "go"
    exact kq
theorem ok_l_names (T : Txt K mg D) : FnOk P w K mg base CX0 1 (He.ga K "_law_names") (D ("_law_names", none)) [] spNames := by
  refine T.l_names.F.ok sc_l_names (fun vs H Q E h => ?_) (fun cdv A outer s H vs Q E hr h => ?_)
  · obtain ⟨rfl, _⟩ := h
    rfl
  · obtain ⟨rfl, kq⟩ := h
    refine ⟨_, PSs.nox (pss_cons (ps_set (i := 0) sc_l_names.nd rfl (Or.inl rfl) (pe_lst (pa_cons pe_str (pa_cons pe_str (pa_cons pe_str (pa_cons pe_str (pa_cons pe_str (pa_cons pe_str pa_nil))))))))
      (pss_one (ps_ret (pe_op op_cat (pv 0) (pe_lst (pa_cons pe_str (pa_cons pe_str (pa_cons pe_str (pa_cons pe_str (pa_cons pe_str (pa_cons pe_str pa_nil))))))))))), ?_⟩
    walk_at "in"
    refine ⟨Nat.le_of_ble_eq_true rfl, fun p np => ?_⟩
    walk_at "go"
    refine ⟨Nat.le_of_ble_eq_true rfl, fun q nq => ?_⟩
    have hpq : p ≠ q := ne_of_none upd_same nq
    walk_at "go"
    refine R_cat (by walk_at "hp") (by walk_at "hp") (Nat.le_of_ble_eq_true rfl) fun l nl => ?_
    walk_at "go"
    have s2 := same_upd (o := HO.lst [.str "first", .str "last", .str "least", .str "greatest", .str "middle", .str "commonest"]) nq (same_upd np (Same.refl H))
    exact kq l _ (s2.free nl) (same_upd nl s2) upd_same
end
end LF


set_option maxRecDepth 100000
set_option maxHeartbeats 4000000
namespace LF
open PySem PySem.Spec PyProof.Rows L2



/-! ### which refusal it is -/
def kindOf (C : Str) : Str := if C = "BadWindow" then "window" else if C = "NoWord" then "word" else if C = "Late" then "late" else "key"
def spRefuse (K : PySem.W.Frag) : Sp := fun vs H Q _ => ∃ v : V, vs = [v] ∧ ((v = .non ∧ ∀ H', Same H H' → Q (.str "ok") H') ∨ (∃ (a : Addr) (C : Str), v = .ref a ∧ C ∈ excN ∧ H a = some (heldO (exC K C) a) ∧ ∀ H', Same H H' → Q (.str (kindOf C)) H'))
section
variable {P : Program} {w : World} {K : PySem.W.Frag} {mg : Str → Option Value} {base : Heap} {D : Str × Option Str → FuncData} {H : Hp} {Q : VK} {a : Addr} {C E : Str}
theorem R_isNo (x : ExAt K mg E) (h : Q (.bl false) H) : rIsU K [.non, .ref (He.ga K E)] H Q := .inl ⟨.non, .ref _, _, _, _, rfl, .own _, .base .non, x.non, h⟩
theorem R_isHe (x : ExAt K mg C) (hE : E ∈ excN) {b : Bool} (hb : decide (C = E) = b) (ha : H a = some (heldO (exC K C) a)) (h : Q (.bl b) H) : rIsU K [.ref a, .ref (He.ga K E)] H Q :=
  .inr ⟨a, _, .ref _, _, b, rfl, ha, x.c, .own _, by rw [x.two E hE, hb], h⟩
theorem R_isVe (x : ExAt K mg C) (ha : H a = some (heldO (exC K C) a)) (h : Q (.bl true) H) : rIsU K [.ref a, .ty "ValueError"] H Q :=
  .inr ⟨a, _, .ty _, _, true, rfl, ha, x.c, .ty _, x.ve, h⟩
theorem Txt.exc (T : Txt K mg D) (h : C ∈ excN) : ExAt K mg C := by
  simp only [excN, List.mem_cons, List.not_mem_nil, or_false] at h
  rcases h with rfl | rfl | rfl | rfl
  · exact T.x_BadWindow
  · exact T.x_NoWord
  · exact T.x_Late
  · exact T.x_NoKey
/-- the four answers -/
def kindsOf (C : Str) : List V := [.bl (decide (C = "BadWindow")), .bl (decide (C = "NoWord")), .bl (decide (C = "Late")), .bl (decide (C = "NoKey"))]
theorem kinds_one (h : C ∈ excN) : ((kindsOf C).countP fun z => eqV z (.bl true)) = 1 := by
  simp only [excN, List.mem_cons, List.not_mem_nil, or_false] at h
  rcases h with rfl | rfl | rfl | rfl <;> decide +kernel
theorem kinds_at (h : C ∈ excN) : ∃ j : Nat, (kindsOf C)[j]? = some (.bl true) ∧ (∀ (m : Nat) (z : V), m < j → (kindsOf C)[m]? = some z → eqV z (.bl true) = false) ∧ atI [V.str "window", .str "word", .str "late", .str "key"] (j : Int) = some (.str (kindOf C)) := by
  simp only [excN, List.mem_cons, List.not_mem_nil, or_false] at h
  have no : ∀ (m j : Nat) (z : V) (l : List V), j ≤ 3 → m < j → l[m]? = some z → eqV (l.getD 0 .non) (.bl true) = false ∨ j = 0 → eqV (l.getD 1 .non) (.bl true) = false ∨ j ≤ 1 → eqV (l.getD 2 .non) (.bl true) = false ∨ j ≤ 2 → eqV z (.bl true) = false := by
    intro m j z l hj hm hz h0 h1 h2
    have e : l.getD m .non = z := by rw [List.getD_eq_getElem?_getD, hz]; rfl
    have hm3 : m = 0 ∨ m = 1 ∨ m = 2 := by omega
    rcases hm3 with rfl | rfl | rfl
    · rw [← e]; exact h0.resolve_right (by omega)
    · rw [← e]; exact h1.resolve_right (by omega)
    · rw [← e]; exact h2.resolve_right (by omega)
  rcases h with rfl | rfl | rfl | rfl
  · exact ⟨0, by decide +kernel, fun m z hm => absurd hm (Nat.not_lt_zero _), rfl⟩
  · exact ⟨1, by decide +kernel, fun m z hm hz => no m 1 z _ (by decide) hm hz (.inl (by decide +kernel)) (.inr (by decide)) (.inr (by decide)), rfl⟩
  · exact ⟨2, by decide +kernel, fun m z hm hz => no m 2 z _ (by decide) hm hz (.inl (by decide +kernel)) (.inl (by decide +kernel)) (.inr (by decide)), rfl⟩
  · exact ⟨3, by decide +kernel, fun m z hm hz => no m 3 z _ (by decide) hm hz (.inl (by decide +kernel)) (.inl (by decide +kernel)) (.inl (by decide +kernel)), rfl⟩
theorem ok_l_refusal (T : Txt K mg D) : FnOk P w K mg base CX0 1 (He.ga K "_law_refusal") (D ("_law_refusal", none)) ["_law_kept"] (spRefuse K) := by
  refine T.l_refusal.F.ok sc_l_refusal (fun vs H Q E h => ?_) (fun cdv A outer s H vs Q E hr h => ?_)
  · obtain ⟨v, rfl, _⟩ := h
    rfl
  · obtain ⟨v, rfl, h⟩ := h
    refine ⟨_, PSs.nox (pss_cons (ps_set (i := 1) sc_l_refusal.nd rfl (Or.inl rfl) (pe_lst (pa_cons (pe_callB (call_isU (K := K) rfl) (by rfl) T.z_isinstance (by decide +kernel) (pa_cons (pv 0) (pa_cons (pe_glob (v := .ref (He.ga K "BadWindow")) (by rfl) T.x_BadWindow.g rfl) pa_nil))) (pa_cons (pe_callB (call_isU (K := K) rfl) (by rfl) T.z_isinstance (by decide +kernel) (pa_cons (pv 0) (pa_cons (pe_glob (v := .ref (He.ga K "NoWord")) (by rfl) T.x_NoWord.g rfl) pa_nil))) (pa_cons (pe_callB (call_isU (K := K) rfl) (by rfl) T.z_isinstance (by decide +kernel) (pa_cons (pv 0) (pa_cons (pe_glob (v := .ref (He.ga K "Late")) (by rfl) T.x_Late.g rfl) pa_nil))) (pa_cons (pe_callB (call_isU (K := K) rfl) (by rfl) T.z_isinstance (by decide +kernel) (pa_cons (pv 0) (pa_cons (pe_glob (v := .ref (He.ga K "NoKey")) (by rfl) T.x_NoKey.g rfl) pa_nil))) pa_nil))))))
      (pss_cons (ps_if (pt_cmpR op_isN (pv 0) pe_non (nomark _)) (pss_one (ps_ret pe_str)) pss_nil)
      (pss_cons (ps_if (PW.pt (pw_or (pt_cmpR op_ne (pe_bmK (K := K) rfl PySem.F.plainAttrs_list PySem.F.slot_list_count PySem.F.type_list_count (mt_cntF (K := K) rfl) (pv 1) (pa_cons pe_bl pa_nil)) pe_int (nomark _)) (pw_or1 (pt_not (pt_val (pe_callB (call_isU (K := K) rfl) (by rfl) T.z_isinstance (by decide +kernel) (pa_cons (pv 0) (pa_cons (pe_bltn (v := .ty "ValueError") (by rfl) T.z_ValueError (by decide +kernel) rfl) pa_nil)))))))) (pss_one (ps_ret pe_str)) pss_nil)
      (pss_one (ps_ret (pe_ix (ix_listK (K := K) rfl) (pe_lst (pa_cons pe_str (pa_cons pe_str (pa_cons pe_str (pa_cons pe_str pa_nil))))) (pe_bmK (K := K) rfl PySem.F.plainAttrs_list PySem.F.slot_list_index PySem.F.type_list_index (mt_indexK (K := K) rfl) (pv 1) (pa_cons pe_bl pa_nil)) (fun _ _ => rfl))))))), ?_⟩
    rcases h with ⟨rfl, kq⟩ | ⟨a, C, rfl, hC, ha, kq⟩
    · walk_at "in"
      refine R_isNo T.x_BadWindow ?_
      walk_at "go"
      refine R_isNo T.x_NoWord ?_
      walk_at "go"
      refine R_isNo T.x_Late ?_
      walk_at "go"
      refine R_isNo T.x_NoKey ?_
      walk_at "go"
      refine ⟨Nat.le_of_ble_eq_true rfl, fun l nl => ?_⟩
      walk_at "go"
      refine ⟨rfl, ?_⟩
      walk_at "go"
      refine iteBT (decide_eq_true rfl) ?_
      walk_at "go"
      exact kq _ (same_upd nl (Same.refl _))
    · have x := T.exc hC
      walk_at "in"
      refine R_isHe x (by decide +kernel) rfl ha ?_
      walk_at "go"
      refine R_isHe x (by decide +kernel) rfl ha ?_
      walk_at "go"
      refine R_isHe x (by decide +kernel) rfl ha ?_
      walk_at "go"
      refine R_isHe x (by decide +kernel) rfl ha ?_
      walk_at "go"
      refine ⟨Nat.le_of_ble_eq_true rfl, fun l nl => ?_⟩
      have ha2 : ∀ {b}, L2.upd H l b a = some (heldO (exC K C) a) := fun {b} => by rw [upd_ne (ne_of_none ha nl)]; exact ha
      walk_at "go"
      refine ⟨rfl, ?_⟩
      walk_at "go"
      refine iteBF (decide_eq_false (by intro z; cases z)) ?_
      walk_at "go"
      refine R_cntF (ys := kindsOf C) (n := 1) (SqL.of upd_same) rfl rfl (kinds_one hC) ?_
      walk_at "go"
      refine iteBF rfl ?_
      walk_at "go"
      refine R_isVe x ha2 ?_
      walk_at "go"
      refine iteBF rfl ?_
      walk_at "go"
      refine ⟨Nat.le_of_ble_eq_true rfl, fun p np => ?_⟩
      walk_at "go"
      obtain ⟨j, j1, j2, j3⟩ := kinds_at hC
      refine ⟨l, kindsOf C, .bl true, j, .bl true, rfl, rfl, SqL.of (by rw [upd_ne (ne_of_none upd_same np)]; exact upd_same), rfl, rfl, j1, rfl, j2, ?_⟩
      refine R_ixL (SqL.of upd_same) j3 ?_
      exact kq _ (same_upd np (same_upd nl (Same.refl _)))
end
end LF


set_option maxRecDepth 100000
set_option maxHeartbeats 4000000
namespace LF
open PySem PySem.Spec PyProof.Rows L2



/-! ### making one of any size -/
instance (z : Int) : Decidable (okSz z) := by unfold okSz; infer_instance
def madeS (way z y : Int) : Str := if okSz z ∧ (way < 3 ∨ okSz y) then "ok" else "window"
def spMade : Sp := fun vs H Q _ => ∃ (way z y : Int), vs = [.int way, .int z, .int y] ∧ 0 ≤ way ∧ way < 4 ∧ ∀ H', Same H H' → Q (.str (madeS way z y)) H'
section
variable {P : Program} {w : World} {K : PySem.W.Frag} {mg : Str → Option Value} {base : Heap} {D : Str × Option Str → FuncData} {H H1 : Hp} {Q : VK} {a : Addr} {C E : Str} {σ : L2.St} {i j : Nat}
/-- behind the try: the kept one goes to _law_refusal -/
abbrev dRef (K : PySem.W.Frag) (j : Nat) (Q : VK) : Ends := { nx := tRet (tCall (spRefuse K) [] E0 (tCons (tVar j) tNil)) { nx := fun _ H' => Q V.non H', rt := Q }, rt := Q }
theorem held_out (T : Txt K mg D) (hC : C ∈ excN) (hi : i < σ.length) (hj : j < σ.length) (hij : i ≠ j) (kq : ∀ H', Same H1 H' → Q (.str (kindOf C)) H') :
    WE (wHeld K (.ref (He.ga K "FewError")) i (fun a cls d => tAsg (tVar i) (gName j)) (dRef K j Q)) σ (exC K C) none H1 := by
  refine ⟨rfl, (T.exc hC).few, fun a na => ?_⟩
  refine S_asg (E_var (List.getElem?_set_self hi) ?_)
  refine S_ret (E_call (E_cons (E_var (v := .ref a) ?_ (E_nil ?_))))
  · rw [List.getElem?_set_ne hij, List.getElem?_set_self (by rw [List.length_set]; exact hj)]
  · exact ⟨.ref a, rfl, .inr ⟨a, C, rfl, hC, upd_same, fun H2 s2 => kq H2 ((same_upd na (Same.refl _)).trans s2)⟩⟩
theorem ok_out (hj : σ[j]? = some (some .non)) (kq : ∀ H', Same H1 H' → Q (.str "ok") H') : (dRef K j Q).nx σ H1 :=
  S_ret (E_call (E_cons (E_var hj (E_nil ⟨.non, rfl, .inl ⟨rfl, kq⟩⟩))))
theorem made_same {x dx : Addr} {o : HO} {H2 : Hp} (nx : H x = none) (nd : H dx = none) (kp : ∀ b u, L2.upd (L2.upd H dx (.own x)) x o b = some u → b ≠ x → H2 b = some u) : Same H H2 := fun b u e => by
  have b1 : b ≠ x := ne_of_none e nx
  have b2 : b ≠ dx := ne_of_none e nd
  exact kp b u (by rw [upd_ne b1, upd_ne b2]; exact e) b1
theorem made_two {x dx : Addr} {o : HO} (nx : H x = none) (nd : H dx = none) : Same H (L2.upd (L2.upd H dx (.own x)) x o) := fun b u e => by
  rw [upd_ne (ne_of_none e nx), upd_ne (ne_of_none e nd)]
  exact e
theorem ok_l_made (T : Txt K mg D) : FnOk P w K mg base CX0 5 (He.ga K "_law_made") (D ("_law_made", none)) ["_law_way", "_law_size", "_law_most"] spMade := by
  refine T.l_made.F.ok sc_l_made (fun vs H Q E h => ?_) (fun cdv A outer s H vs Q E hr h => ?_)
  · obtain ⟨way, z, y, rfl, _⟩ := h
    rfl
  · obtain ⟨way, z, y, rfl, w0, w1, kq⟩ := h
    refine ⟨_, PSs.nox (pss_cons (ps_set (i := 3) sc_l_made.nd rfl (Or.inl rfl) pe_non)
      (pss_cons (ps_try_held (i := 4) (c := .ref (He.ga K "FewError")) rfl rfl rfl sc_l_made.nd rfl rfl ⟨by rfl, by decide, .inl T.g_FewError⟩
      (fun W pn xe tk _ => (pss_one (ps_if (pt_cmpR op_eq (pv 0) pe_int (nomark _)) (pss_one (ps_expr (pe_makeW T.cWindow.mkr (ok_Window_init T) (by exact hr.mono (by decide)) (by rfl) T.cWindow.g T.Window_init.b (fun σ => passAt tk σ) (pa_cons (pv 1) pa_nil)))) (pss_one (ps_if (pt_cmpR op_eq (pv 0) pe_int (nomark _)) (pss_one (ps_expr (pe_makeW T.cTimed.mkr (ok_Timed_init T) (by exact hr.mono (by decide)) (by rfl) T.cTimed.g T.Timed_init.b (fun σ => passAt tk σ) (pa_cons (pv 1) pa_nil)))) (pss_one (ps_if (pt_cmpR op_eq (pv 0) pe_int (nomark _)) (pss_one (ps_expr (pe_makeW T.cMaps.mkr (ok_Maps_init T) (by exact hr.mono (by decide)) (by rfl) T.cMaps.g T.Maps_init.b (fun σ => passAt tk σ) (pa_cons (pv 1) pa_nil)))) (pss_one (ps_expr (pe_makeW T.cGroups.mkr (ok_Groups_init T) (by exact hr.mono (by decide)) (by rfl) T.cGroups.g T.Groups_init.b (fun σ => passAt tk σ) (pa_cons (pv 1) (pa_cons (pv 2) pa_nil))))))))))))
      (fun a oe cls d pn hz hf => (pss_one (ps_set (i := 3) sc_l_made.nd rfl (Or.inl rfl) (pv 4)))))
      (pss_one (ps_ret (pe_call (ok_l_refusal T) (by exact hr.mono (by decide)) (by rfl) T.l_refusal.g T.l_refusal.F.kp T.l_refusal.b .nil pass0 (pa_cons (pv 3) pa_nil)))))), ?_⟩
    walk_at "in"
    have hv : ∀ {i j : Int}, i ≠ j → ¬ V.int i = V.int j := fun h e => h (V.int.inj e)
    have bad : ¬ okSz z → ∀ {H1 : Hp}, Same H H1 → ∀ H', Same H1 H' → Q (.str (kindOf "BadWindow")) H' := fun hz H1 s1 H' s2 => by
      have e : madeS way z y = kindOf "BadWindow" := (if_neg (fun q => hz q.1)).trans (by decide +kernel)
      rw [← e]
      exact kq H' (s1.trans s2)
    have good : okSz z → (way < 3 ∨ okSz y) → ∀ {H1 : Hp}, Same H H1 → ∀ H', Same H1 H' → Q (.str "ok") H' := fun hz hw H1 s1 H' s2 => by
      have e : madeS way z y = "ok" := if_pos ⟨hz, hw⟩
      rw [← e]
      exact kq H' (s1.trans s2)
    by_cases e0 : way = 0
    · subst e0
      refine iteBT (decide_eq_true rfl) ?_
      walk_at "go"
      intro x dx nx nd ne
      refine ⟨x, dx, z, rfl, upd_same, fun hz => held_out T (by decide +kernel) (Nat.le_of_ble_eq_true rfl) (Nat.le_of_ble_eq_true rfl) (by decide) (bad hz (made_two nx nd)), fun n hn n1 n2 t r k o H2 nt nr nk no W kp => ⟨rfl, ?_⟩⟩
      exact ok_out rfl (good (hn ▸ okSz.of n1 n2) (.inl (by decide)) (made_same nx nd kp))
    refine iteBF (decide_eq_false (hv e0)) ?_
    walk_at "go"
    by_cases e1 : way = 1
    · subst e1
      refine iteBT (decide_eq_true rfl) ?_
      walk_at "go"
      intro x dx nx nd ne
      refine ⟨x, dx, z, rfl, upd_same, fun hz => held_out T (by decide +kernel) (Nat.le_of_ble_eq_true rfl) (Nat.le_of_ble_eq_true rfl) (by decide) (bad hz (made_two nx nd)), fun n hn n1 n2 tm t r k o H2 ntm nt nr nk no W kp => ⟨rfl, ?_⟩⟩
      exact ok_out rfl (good (hn ▸ okSz.of n1 n2) (.inl (by decide)) (made_same nx nd kp))
    refine iteBF (decide_eq_false (hv e1)) ?_
    walk_at "go"
    by_cases e2 : way = 2
    · subst e2
      refine iteBT (decide_eq_true rfl) ?_
      walk_at "go"
      intro x dx nx nd ne
      refine ⟨x, dx, z, rfl, upd_same, fun hz H2 kp => ⟨rfl, ?_⟩, fun hz => held_out T (by decide +kernel) (Nat.le_of_ble_eq_true rfl) (Nat.le_of_ble_eq_true rfl) (by decide) (bad hz (made_two nx nd))⟩
      exact ok_out rfl (good hz (.inl (by decide)) (made_same nx nd kp))
    refine iteBF (decide_eq_false (hv e2)) ?_
    walk_at "go"
    intro x dx nx nd ne
    have e3 : way = 3 := by omega
    subst e3
    refine ⟨x, dx, z, y, rfl, upd_same, fun hz => held_out T (by decide +kernel) (Nat.le_of_ble_eq_true rfl) (Nat.le_of_ble_eq_true rfl) (by decide) (fun H' s2 => ?_), fun n mo hn hm n1 n2 m1 m2 oa wa H2 noa nwa G kp => ⟨rfl, ?_⟩⟩
    · have e : madeS 3 z y = kindOf "BadWindow" := (if_neg (fun q => hz ⟨q.1, q.2.resolve_left (by decide)⟩)).trans (by decide +kernel)
      rw [← e]
      exact kq H' ((made_two nx nd).trans s2)
    · exact ok_out rfl (good (hn ▸ okSz.of n1 n2) (.inr (hm ▸ okSz.of m1 m2)) (made_same nx nd kp))
end
end LF


set_option maxRecDepth 100000
set_option maxHeartbeats 4000000
namespace LF
open PySem PySem.Spec PyProof.Rows L2



/-! ### asking -/
def wordS (nm : Str) : Str := if nm ∈ names12 then "ok" else "word"
def spAsked (K : PySem.W.Frag) : Sp := fun vs H Q _ => ∃ (way number : Int) (nm : Str) (zi tm t r k o : Addr) (n : Nat) (now : Int) (ps : List (Int × Int)) (g oa wa : Addr) (gn gmo c : Nat) (es : List GE),
  vs = [.int way, .ref zi, .ref g, .int number, .str nm] ∧ 0 ≤ way ∧ way < 5 ∧ ZAt K H zi tm t r k o n now ps ∧ ps.length ≤ 900 ∧ GAt K H g oa wa gn gmo c es ∧
  (way = 0 → ∀ H', Same H H' → Q (.str (wordS nm)) H') ∧
  (way = 1 → ∀ H', Same H H' → Q (.str (if number ∈ es.map (·.key) then wordS nm else "key")) H') ∧
  (way = 2 → ∀ H', Same H H' → Q (.str (if number ∈ es.map (·.key) then "ok" else "key")) H') ∧
  (3 ≤ way → number < now → ∀ H', Same H H' → Q (.str "late") H') ∧
  (way = 3 → now ≤ number → ∀ H', ZAt K H' zi tm t r k o n number (ps.dropWhile (old (number - n))) → KeepZ H H' zi tm t r k o → Q (.str "ok") H') ∧
  (way = 4 → now ≤ number → ∀ H', ZAt K H' zi tm t r k o n number (ps.dropWhile (old (number - n)) ++ [(number, 5)]) → KeepZ H H' zi tm t r k o → Q (.str "ok") H')
section
variable {P : Program} {w : World} {K : PySem.W.Frag} {mg : Str → Option Value} {base : Heap} {D : Str × Option Str → FuncData} {H H1 : Hp} {Q : VK} {a : Addr} {C E : Str} {σ : L2.St} {i j : Nat}
theorem KeepZ.then {H H1 H2 : Hp} {zi tm t r k o : Addr} (kp : KeepZ H H1 zi tm t r k o) (s : Same H1 H2) : KeepZ H H2 zi tm t r k o := fun b u e d1 d2 d3 d4 d5 d6 => s b u (kp b u e d1 d2 d3 d4 d5 d6)
theorem ok_l_asked (T : Txt K mg D) : FnOk P w K mg base CX0 7 (He.ga K "_law_asked") (D ("_law_asked", none)) ["_law_way", "_law_timed", "_law_groups", "_law_number", "_law_name"] (spAsked K) := by
  refine T.l_asked.F.ok sc_l_asked (fun vs H Q E h => ?_) (fun cdv A outer s H vs Q E hr h => ?_)
  · obtain ⟨way, number, nm, zi, tm, t, r, k, o, n, now, ps, g, oa, wa, gn, gmo, c, es, rfl, _⟩ := h
    rfl
  · obtain ⟨way, number, nm, zi, tm, t, r, k, o, n, now, ps, g, oa, wa, gn, gmo, c, es, rfl, w0, w1, Z, hl, G, k0, k1, k2, k3, k4, k5⟩ := h
    obtain ⟨⟨dz, z1⟩, _⟩ := id Z
    obtain ⟨⟨dg, g1⟩, _⟩ := id G
    refine ⟨_, PSs.nox (pss_cons (ps_set (i := 5) sc_l_asked.nd rfl (Or.inl rfl) pe_non)
      (pss_cons (ps_try_held (i := 6) (c := .ref (He.ga K "FewError")) rfl rfl rfl sc_l_asked.nd rfl rfl ⟨by rfl, by decide, .inl T.g_FewError⟩
      (fun W pn xe tk _ => (pss_one (ps_if (pt_cmpR op_eq (pv 0) pe_int (nomark _)) (pss_one (ps_expr (pe_methW (pv 1) T.cTimed.cl T.Timed_word.me (ok_Timed_word T) (by exact hr.mono (by decide)) T.Timed_word.b (fun σ => passAt tk σ) (pa_cons (pv 4) pa_nil)))) (pss_one (ps_if (pt_cmpR op_eq (pv 0) pe_int (nomark _)) (pss_one (ps_expr (pe_methW (pv 2) T.cGroups.cl T.Groups_word.me (ok_Groups_word T) (by exact hr.mono (by decide)) T.Groups_word.b (fun σ => passAt tk σ) (pa_cons (pv 3) (pa_cons (pv 4) pa_nil))))) (pss_one (ps_if (pt_cmpR op_eq (pv 0) pe_int (nomark _)) (pss_one (ps_expr (pe_methW (pv 2) T.cGroups.cl T.Groups_things.me (ok_Groups_things T) (by exact hr.mono (by decide)) T.Groups_things.b (fun σ => passAt tk σ) (pa_cons (pv 3) pa_nil)))) (pss_one (ps_if (pt_cmpR op_eq (pv 0) pe_int (nomark _)) (pss_one (ps_expr (pe_methW (pv 1) T.cTimed.cl T.Timed_go_on.me (ok_Timed_go_on T) (by exact hr.mono (by decide)) T.Timed_go_on.b (fun σ => passAt tk σ) (pa_cons (pv 3) pa_nil)))) (pss_one (ps_expr (pe_methW (pv 1) T.cTimed.cl T.Timed_put.me (ok_Timed_put T) (by exact hr.mono (by decide)) T.Timed_put.b (fun σ => passAt tk σ) (pa_cons (pv 3) (pa_cons pe_int pa_nil))))))))))))))
      (fun a oe cls d pn hz hf => (pss_one (ps_set (i := 5) sc_l_asked.nd rfl (Or.inl rfl) (pv 6)))))
      (pss_one (ps_ret (pe_call (ok_l_refusal T) (by exact hr.mono (by decide)) (by rfl) T.l_refusal.g T.l_refusal.F.kp T.l_refusal.b .nil pass0 (pa_cons (pv 5) pa_nil)))))), ?_⟩
    walk_at "in"
    have hv : ∀ {i j : Int}, i ≠ j → ¬ V.int i = V.int j := fun h e => h (V.int.inj e)
    by_cases e0 : way = 0
    · subst e0
      refine iteBT (decide_eq_true rfl) ?_
      walk_at "go"
      refine ⟨zi, tm, t, r, k, o, n, now, ps, nm, rfl, Z, by omega, fun hn H1 s1 => ok_out rfl fun H2 s2 => ?_, fun hn H1 s1 => held_out T (by decide +kernel) (Nat.le_of_ble_eq_true rfl) (Nat.le_of_ble_eq_true rfl) (by decide) fun H2 s2 => ?_⟩
      · have q := k0 rfl H2 (s1.trans s2)
        rw [show wordS nm = "ok" from if_pos hn] at q
        exact q
      · have q := k0 rfl H2 (s1.trans s2)
        rw [show wordS nm = "word" from if_neg hn] at q
        exact q
    refine iteBF (decide_eq_false (hv e0)) ?_
    walk_at "go"
    by_cases e1 : way = 1
    · subst e1
      refine iteBT (decide_eq_true rfl) ?_
      walk_at "go"
      refine ⟨g, oa, wa, gn, gmo, c, es, number, nm, rfl, G, fun e he ek hn H1 s1 => ok_out rfl fun H2 s2 => ?_, fun e he ek hn H1 s1 => held_out T (by decide +kernel) (Nat.le_of_ble_eq_true rfl) (Nat.le_of_ble_eq_true rfl) (by decide) fun H2 s2 => ?_, fun hk => held_out T (by decide +kernel) (Nat.le_of_ble_eq_true rfl) (Nat.le_of_ble_eq_true rfl) (by decide) fun H2 s2 => ?_⟩
      · have q := k1 rfl H2 (s1.trans s2)
        rw [if_pos (List.mem_map.mpr ⟨e, he, ek⟩), show wordS nm = "ok" from if_pos hn] at q
        exact q
      · have q := k1 rfl H2 (s1.trans s2)
        rw [if_pos (List.mem_map.mpr ⟨e, he, ek⟩), show wordS nm = "word" from if_neg hn] at q
        exact q
      · have q := k1 rfl H2 s2
        rw [if_neg hk] at q
        exact q
    refine iteBF (decide_eq_false (hv e1)) ?_
    walk_at "go"
    by_cases e2 : way = 2
    · subst e2
      refine iteBT (decide_eq_true rfl) ?_
      walk_at "go"
      refine ⟨g, oa, wa, gn, gmo, c, es, number, rfl, G, fun e he ek l H1 nl s1 hl => ok_out rfl fun H2 s2 => ?_, fun hk => held_out T (by decide +kernel) (Nat.le_of_ble_eq_true rfl) (Nat.le_of_ble_eq_true rfl) (by decide) fun H2 s2 => ?_⟩
      · have q := k2 rfl H2 (s1.trans s2)
        rw [if_pos (List.mem_map.mpr ⟨e, he, ek⟩)] at q
        exact q
      · have q := k2 rfl H2 s2
        rw [if_neg hk] at q
        exact q
    refine iteBF (decide_eq_false (hv e2)) ?_
    walk_at "go"
    by_cases e3 : way = 3
    · subst e3
      refine iteBT (decide_eq_true rfl) ?_
      walk_at "go"
      refine ⟨zi, tm, t, r, k, o, n, now, ps, number, rfl, Z, hl, fun hx => held_out T (by decide +kernel) (Nat.le_of_ble_eq_true rfl) (Nat.le_of_ble_eq_true rfl) (by decide) fun H2 s2 => ?_, fun hx gl H1 ng Z1 kp hg => ok_out rfl fun H2 s2 => ?_⟩
      · exact k3 (by decide) hx H2 s2
      · exact k4 rfl hx H2 (Z1.ex s2) (kp.then s2)
    refine iteBF (decide_eq_false (hv e3)) ?_
    walk_at "go"
    have e4 : way = 4 := by omega
    subst e4
    refine ⟨zi, tm, t, r, k, o, n, now, ps, number, 5, rfl, Z, hl, fun hx => held_out T (by decide +kernel) (Nat.le_of_ble_eq_true rfl) (Nat.le_of_ble_eq_true rfl) (by decide) fun H2 s2 => ?_, fun hx gl H1 ng Z1 kp hg => ok_out rfl fun H2 s2 => ?_⟩
    · exact k3 (by decide) hx H2 s2
    · exact k5 rfl hx H2 (Z1.ex s2) (kp.then s2)
end
end LF


set_option maxRecDepth 100000
set_option maxHeartbeats 4000000
namespace LF
open PySem PySem.Spec PyProof.Rows L2



def spLaw (K : PySem.W.Frag) : Sp := fun vs H Q _ => ∃ (a : Addr) (ns : List Int), vs = [.ref a] ∧ SqL K H a (ns.map V.int) ∧ ns.length ≤ 63 ∧ ∀ H', Q (.bl true) H'
def sizesV : List V := [.int 1, .int 2, .int 1000, .int 1001, .int 0, .int (-1), .int 7]
theorem pick7 (x : Int) (h0 : 0 ≤ x) (h1 : x < 7) : ∃ z : Int, atI sizesV x = some (.int z) := by
  have h : x = 0 ∨ x = 1 ∨ x = 2 ∨ x = 3 ∨ x = 4 ∨ x = 5 ∨ x = 6 := by omega
  rcases h with rfl | rfl | rfl | rfl | rfl | rfl | rfl
  · exact ⟨1, rfl⟩
  · exact ⟨2, rfl⟩
  · exact ⟨1000, rfl⟩
  · exact ⟨1001, rfl⟩
  · exact ⟨0, rfl⟩
  · exact ⟨-1, rfl⟩
  · exact ⟨7, rfl⟩
def numV : List V := [.int 7, .int 8, .int 9, .int 10, .int 11, .int (-7)]
theorem pick6 (x : Int) (h0 : 0 ≤ x) (h1 : x < 6) : ∃ z : Int, atI numV x = some (.int z) ∧ z ≤ 11 := by
  have h : x = 0 ∨ x = 1 ∨ x = 2 ∨ x = 3 ∨ x = 4 ∨ x = 5 := by omega
  rcases h with rfl | rfl | rfl | rfl | rfl | rfl
  · exact ⟨7, rfl, by decide⟩
  · exact ⟨8, rfl, by decide⟩
  · exact ⟨9, rfl, by decide⟩
  · exact ⟨10, rfl, by decide⟩
  · exact ⟨11, rfl, by decide⟩
  · exact ⟨-7, rfl, by decide⟩
def wordsV : List V := names12.map V.str ++ [.str "", .str "Sum", .str "mean", .str "summ"]
theorem str_at (l : List Str) (x : Int) (h0 : 0 ≤ x) (h1 : x < (l.length : Int)) : ∃ nm : Str, atI (l.map V.str) x = some (.str nm) := by
  obtain ⟨j, rfl⟩ : ∃ j : Nat, x = (j : Int) := ⟨x.toNat, by omega⟩
  have hj : j < l.length := by omega
  exact ⟨l[j], at_of rfl (by rw [List.getElem?_map, List.getElem?_eq_getElem hj]; rfl)⟩
theorem pick16 (x : Int) (h0 : 0 ≤ x) (h1 : x < 16) : ∃ nm : Str, atI wordsV x = some (.str nm) := by
  have e : wordsV = (names12 ++ (["", "Sum", "mean", "summ"] : List Str)).map V.str := by
    unfold wordsV
    rw [List.map_append]
    rfl
  rw [e]
  exact str_at _ x h0 (show x < 16 from h1)
theorem made_at (way z y : Int) : atI [V.str "window", .str "ok"] (if decide (okSz z ∧ (way < 3 ∨ okSz y)) = true then 1 else 0) = some (.str (madeS way z y)) := by
  unfold madeS
  by_cases h : okSz z ∧ (way < 3 ∨ okSz y)
  · rw [decide_eq_true h, if_pos rfl, if_pos h]
    rfl
  · rw [decide_eq_false h, if_neg Bool.false_ne_true, if_neg h]
    rfl
section
variable {K : PySem.W.Frag} {σ : L2.St} {H : Hp} {Q : VK} {z way y : Int} {j : Nat}
theorem chain_ok (e : σ[j]? = some (some (.int z))) (h : Q (.bl (decide (okSz z))) H) : tChain (rI0 fun i j => V.bl (decide (i ≤ j))) (rI0 fun i j => V.bl (decide (i ≤ j))) (tC (.int 1)) (tVar j) (tC (.int 1000)) σ H Q := by
  refine E_chain (E_c (E_var e (R_I0 (R_bl ?_))))
  by_cases h1 : 1 ≤ z
  · refine iteBT (decide_eq_true h1) (E_c (R_I0 ?_))
    have e2 : decide (okSz z) = decide (z ≤ 1000) := by unfold okSz; simp [h1]
    rw [← e2]
    exact h
  · refine iteBF (decide_eq_false h1) ?_
    rw [decide_eq_false (fun q => h1 q.1)] at h
    exact h
theorem good_of (e2 : σ[2]? = some (some (.int way))) (e3 : σ[3]? = some (some (.int z))) (e4 : σ[4]? = some (some (.int y))) (h : Q (.bl (decide (okSz z ∧ (way < 3 ∨ okSz y)))) H) :
    tAndV (tChain (rI0 fun i j => V.bl (decide (i ≤ j))) (rI0 fun i j => V.bl (decide (i ≤ j))) (tC (.int 1)) (tVar 3) (tC (.int 1000)))
      (tOrV (tOp (rI0 fun i j => V.bl (decide (i < j))) (tVar 2) (tC (.int 3))) (tChain (rI0 fun i j => V.bl (decide (i ≤ j))) (rI0 fun i j => V.bl (decide (i ≤ j))) (tC (.int 1)) (tVar 4) (tC (.int 1000)))) σ H Q := by
  refine E_andV (chain_ok e3 (R_bl ?_))
  by_cases hz : okSz z
  · refine iteBT (decide_eq_true hz) (E_orV (E_op (E_var e2 (E_c (R_I0 (R_bl ?_))))))
    by_cases hw : way < 3
    · refine iteBT (decide_eq_true hw) ?_
      rw [decide_eq_true (⟨hz, .inl hw⟩ : okSz z ∧ (way < 3 ∨ okSz y))] at h
      exact h
    · refine iteBF (decide_eq_false hw) (chain_ok e4 ?_)
      have e : decide (okSz y) = decide (okSz z ∧ (way < 3 ∨ okSz y)) := by simp [hz, hw]
      rw [e]
      exact h
  · refine iteBF (decide_eq_false hz) ?_
    rw [decide_eq_false (fun q => hz q.1)] at h
    exact h
theorem ite_str {p : Prop} [Decidable p] {A B : Str} (h : Q (.str (if p then A else B)) H) : if decide p = true then tC (.str A) σ H Q else tC (.str B) σ H Q := by
  by_cases hp : p
  · rw [if_pos (decide_eq_true hp)]
    rw [if_pos hp] at h
    exact h
  · rw [if_neg (by rw [decide_eq_false hp]; exact Bool.false_ne_true)]
    rw [if_neg hp] at h
    exact h
theorem ite_strV {p : Prop} [Decidable p] {A B : Str} (e : σ[j]? = some (some (.str A))) (h : Q (.str (if p then A else B)) H) : if decide p = true then tVar j σ H Q else tC (.str B) σ H Q := by
  by_cases hp : p
  · rw [if_pos (decide_eq_true hp)]
    rw [if_pos hp] at h
    exact E_var e h
  · rw [if_neg (by rw [decide_eq_false hp]; exact Bool.false_ne_true)]
    rw [if_neg hp] at h
    exact h
end
theorem R_eqInts {K : PySem.W.Frag} {H : Hp} {Q : VK} {a b : Addr} {ns : List Int} (h1 : SqL K H a (ns.map V.int)) (h2 : SqL K H b (ns.map V.int)) (h : Q (.bl true) H) : rEqD K (.ref a) (.ref b) H Q :=
  ⟨_, _, dp_ints h1, dp_ints h2, shaped_ints ns, shaped_ints ns, by rw [eqv_ints]; exact h⟩
/-! the timed one and the groups, by turns -/
def nowA (number : Int) (i : Nat) : Int := if number < 10 ∨ i ≤ 3 then 10 else number
def psA (number : Int) (i : Nat) : List (Int × Int) := if number < 10 ∨ i ≤ 4 then [(10, 3)] else [(10, 3), (number, 5)]
def keyS (number : Int) : Str := if V.int number = V.int 7 then "ok" else "key"
def lateS (number : Int) : Str := if number < 10 then "late" else "ok"
def dueL (number : Int) (nm : Str) : List Str := [wordS nm, if V.str (keyS number) = V.str "ok" then wordS nm else "key", keyS number, lateS number, lateS number]
theorem key_is (number : Int) : keyS number = if number = 7 then ("ok" : Str) else "key" := by
  unfold keyS
  by_cases h : number = 7
  · rw [if_pos h, if_pos (by rw [h])]
  · rw [if_neg h, if_neg (fun e => h (V.int.inj e))]
theorem key_ok (number : Int) (A : Str) : (if V.str (keyS number) = V.str "ok" then A else "key") = if number = 7 then A else "key" := by
  rw [key_is]
  by_cases h : number = 7
  · rw [if_pos h, if_pos rfl, if_pos h]
  · rw [if_neg h, if_neg (fun e => absurd (V.str.inj e) (by decide +kernel)), if_neg h]
theorem GAtK.same {K : PySem.W.Frag} {H H' : Hp} {g oa wa : Addr} {n mo c : Nat} {ks : List Int} {es : List GE} (S : GAtK K H g oa wa n mo c ks es) (s : ∀ b u, (b = g ∨ b = oa ∨ b = wa ∨ ∃ e ∈ es, b ∈ e.fp) → H b = some u → H' b = some u) : GAtK K H' g oa wa n mo c ks es := by
  obtain ⟨⟨dx, h1⟩, h2, ⟨kvs, h3, h4⟩, h5, h6, h7, h8, n1, n2, m1, m2, le⟩ := S
  exact ⟨⟨dx, s _ _ (.inl rfl) h1⟩, s _ _ (.inr (.inl rfl)) h2, ⟨kvs, s _ _ (.inr (.inr (.inl rfl))) h3, h4⟩, fun e he => (h5 e he).same fun b u hb e' => s b u (.inr (.inr (.inr ⟨e, he, hb⟩))) e', h6, h7, h8, n1, n2, m1, m2, le⟩
theorem ZAt.some {K : PySem.W.Frag} {H : Hp} {zi tm t r k o b : Addr} {n : Nat} {now : Int} {ps : List (Int × Int)} (S : ZAt K H zi tm t r k o n now ps) (hb : b = zi ∨ b = tm ∨ b = t ∨ b = r ∨ b = k ∨ b = o) : ∃ u, H b = some u := by
  obtain ⟨⟨dx, h1⟩, h2, ⟨⟨dy, g1⟩, g2, g3, ⟨kvs, g4, _⟩, _⟩, _⟩ := S
  rcases hb with rfl | rfl | rfl | rfl | rfl | rfl
  · exact ⟨_, h1⟩
  · exact ⟨_, h2⟩
  · exact ⟨_, g1⟩
  · exact ⟨_, g2⟩
  · exact ⟨_, g3⟩
  · exact ⟨_, g4⟩
/-- the two stand apart -/
def Apart (zi tm t r k o g oa wa : Addr) (es : List GE) : Prop := ∀ b, (b = zi ∨ b = tm ∨ b = t ∨ b = r ∨ b = k ∨ b = o) → b ≠ g ∧ Off oa wa es b
theorem GAtK.keepZ {K : PySem.W.Frag} {H H' : Hp} {zi tm t r k o g oa wa : Addr} {n mo c : Nat} {ks : List Int} {es : List GE} (S : GAtK K H g oa wa n mo c ks es) (ap : Apart zi tm t r k o g oa wa es) (kp : KeepZ H H' zi tm t r k o) : GAtK K H' g oa wa n mo c ks es := by
  refine GAtK.same S fun b u hb e => ?_
  have ne : ∀ x, (x = zi ∨ x = tm ∨ x = t ∨ x = r ∨ x = k ∨ x = o) → b ≠ x := fun x hx q => by
    obtain ⟨a1, a2, a3, a4⟩ := ap x hx
    rw [← q] at a1 a2 a3 a4
    rcases hb with h | h | h | ⟨e, he, h⟩
    · exact a1 h
    · exact a2 h
    · exact a3 h
    · exact a4 e he h
  exact kp b u e (ne _ (.inl rfl)) (ne _ (.inr (.inl rfl))) (ne _ (.inr (.inr (.inl rfl)))) (ne _ (.inr (.inr (.inr (.inl rfl))))) (ne _ (.inr (.inr (.inr (.inr (.inl rfl)))))) (ne _ (.inr (.inr (.inr (.inr (.inr rfl))))))
/-- one turn's question is answered as is due -/
theorem asked_turn {K : PySem.W.Frag} {H : Hp} {Q : VK} {E : XK} {number : Int} {nm : Str} {zi tm t r k o g oa wa dl : Addr} {c i : Nat} {es : List GE} (hi : i < 5) (hn : number ≤ 11) (Z : ZAt K H zi tm t r k o 5 (nowA number i) (psA number i)) (G : GAt K H g oa wa 2 2 c es) (hk : es.map (·.key) = [7])
    (ap : Apart zi tm t r k o g oa wa es) (hd : H dl = some (.lst ((dueL number nm).map V.str))) (hdz : ∀ b, (b = zi ∨ b = tm ∨ b = t ∨ b = r ∨ b = k ∨ b = o) → b ≠ dl)
    (fin : ∀ H', ZAt K H' zi tm t r k o 5 (nowA number (i + 1)) (psA number (i + 1)) → GAt K H' g oa wa 2 2 c es → H' dl = some (.lst ((dueL number nm).map V.str)) → Q (.str ((dueL number nm).getD i "")) H') :
    spAsked K [.int (0 + (i : Int)), .ref zi, .ref g, .int number, .str nm] H Q E := by
  have hlen : (psA number i).length ≤ 900 := by unfold psA; split <;> exact Nat.le_of_ble_eq_true rfl
  have stay : (number < 10 ∨ i < 3) → ∀ H', Same H H' → Q (.str ((dueL number nm).getD i "")) H' := fun hs H' s => by
    refine fin H' ?_ (GAtK.ex G s) (s _ _ hd)
    have e1 : nowA number (i + 1) = nowA number i := by
      unfold nowA
      rw [if_pos (hs.imp_right fun q => by omega), if_pos (hs.imp_right fun q => by omega)]
    have e2 : psA number (i + 1) = psA number i := by
      unfold psA
      rw [if_pos (hs.imp_right fun q => by omega), if_pos (hs.imp_right fun q => by omega)]
    rw [e1, e2]
    exact Z.ex s
  have keep : ∀ H', KeepZ H H' zi tm t r k o → H' dl = some (.lst ((dueL number nm).map V.str)) := fun H' kp =>
    kp dl _ hd (hdz _ (.inl rfl)).symm (hdz _ (.inr (.inl rfl))).symm (hdz _ (.inr (.inr (.inl rfl)))).symm (hdz _ (.inr (.inr (.inr (.inl rfl))))).symm (hdz _ (.inr (.inr (.inr (.inr (.inl rfl)))))).symm (hdz _ (.inr (.inr (.inr (.inr (.inr rfl)))))).symm
  have mem7 : number ∈ es.map (·.key) ↔ number = 7 := by rw [hk]; simp
  refine ⟨0 + (i : Int), number, nm, zi, tm, t, r, k, o, 5, nowA number i, psA number i, g, oa, wa, 2, 2, c, es, rfl, by omega, by omega, Z, hlen, G, fun e H' s => ?_, fun e H' s => ?_, fun e H' s => ?_, fun e hx H' s => ?_, fun e hx H' Z1 kp => ?_, fun e hx H' Z1 kp => ?_⟩
  · have ei : i = 0 := by omega
    subst ei
    exact stay (.inr (by decide)) H' s
  · have ei : i = 1 := by omega
    subst ei
    have q := stay (.inr (by decide)) H' s
    have e2 : (dueL number nm).getD 1 "" = if number ∈ es.map (·.key) then wordS nm else "key" := by
      show (if V.str (keyS number) = V.str "ok" then wordS nm else "key") = _
      rw [key_ok]
      simp only [mem7]
    rw [e2] at q
    exact q
  · have ei : i = 2 := by omega
    subst ei
    have q := stay (.inr (by decide)) H' s
    have e2 : (dueL number nm).getD 2 "" = if number ∈ es.map (·.key) then ("ok" : Str) else "key" := by
      show keyS number = _
      rw [key_is]
      simp only [mem7]
    rw [e2] at q
    exact q
  · have hx2 : number < 10 := by
      unfold nowA at hx
      split at hx
      · exact hx
      · omega
    have q := stay (.inl hx2) H' s
    have ei : i = 3 ∨ i = 4 := by omega
    have e2 : (dueL number nm).getD i "" = "late" := by
      rcases ei with rfl | rfl
      · exact if_pos hx2
      · exact if_pos hx2
    rw [e2] at q
    exact q
  · have ei : i = 3 := by omega
    subst ei
    have hx2 : 10 ≤ number := by
      unfold nowA at hx
      rw [if_pos (.inr (by decide))] at hx
      exact hx
    have e2 : (dueL number nm).getD 3 "" = "ok" := if_neg (by omega)
    rw [← e2]
    refine fin H' ?_ (GAtK.keepZ G ap kp) (keep H' kp)
    have e3 : nowA number (3 + 1) = number := if_neg (by omega)
    have e4 : psA number (3 + 1) = (psA number 3).dropWhile (old (number - (5 : Nat))) := by
      have q1 : psA number (3 + 1) = [(10, 3)] := if_pos (.inr (by decide))
      have q2 : psA number 3 = [(10, 3)] := if_pos (.inr (by decide))
      rw [q1, q2, List.dropWhile_cons_of_neg (by unfold old; simp; omega)]
    rw [e3, e4]
    exact Z1
  · have ei : i = 4 := by omega
    subst ei
    have hx2 : 10 ≤ number := by
      unfold nowA at hx
      split at hx
      · exact hx
      · omega
    have e2 : (dueL number nm).getD 4 "" = "ok" := if_neg (by omega)
    rw [← e2]
    refine fin H' ?_ (GAtK.keepZ G ap kp) (keep H' kp)
    have e3 : nowA number (4 + 1) = number := if_neg (by omega)
    have e4 : psA number (4 + 1) = (psA number 4).dropWhile (old (number - (5 : Nat))) ++ [(number, 5)] := by
      have q1 : psA number (4 + 1) = [(10, 3), (number, 5)] := if_neg (by omega)
      have q2 : psA number 4 = [(10, 3)] := if_pos (.inr (by decide))
      rw [q1, q2, List.dropWhile_cons_of_neg (by unfold old; simp; omega)]
      rfl
    rw [e3, e4]
    exact Z1
theorem due_at (number : Int) (nm : Str) {i : Nat} (hi : i < 5) : atI ((dueL number nm).map V.str) (0 + (i : Int)) = some (.str ((dueL number nm).getD i "")) := by
  refine at_of (j := i) (by omega) ?_
  rw [List.getElem?_map, List.getElem?_eq_getElem (show i < (dueL number nm).length from hi), List.getD_eq_getElem?_getD, List.getElem?_eq_getElem (show i < (dueL number nm).length from hi)]
  rfl
section
variable {P : Program} {w : World} {K : PySem.W.Frag} {mg : Str → Option Value} {base : Heap} {D : Str × Option Str → FuncData} {H H1 : Hp} {Q : VK} {a : Addr} {C E : Str} {σ : L2.St} {i j : Nat}
theorem ok_law (T : Txt K mg D) : FnOk P w K mg base CX0 8 (He.ga K "law") (D ("law", none)) ["_law_script"] (spLaw K) := by
  refine T.law.F.ok sc_law (fun vs H Q E h => ?_) (fun cdv A outer s H vs Q E hr h => ?_)
  · obtain ⟨a, ns, rfl, _⟩ := h
    rfl
  · obtain ⟨a, ns, rfl, hS, hl, kq⟩ := h
    have fcTimed := T.cTimed.cl; have fnTimedspan := T.n_Timed_span; have fnTimednow := T.n_Timed_now; have fnTimedtimes := T.n_Timed_times; have fnTimedtally := T.n_Timed_tally; have fcGroups := T.cGroups.cl; have fnGroupssize := T.n_Groups_size; have fnGroupsmost := T.n_Groups_most; have fnGroupsorder := T.n_Groups_order; have fnGroupswindows := T.n_Groups_windows
    refine ⟨_, PSs.nox (pss_cons (ps_set (i := 1) sc_law.nd rfl (Or.inl rfl) (pe_lst (pa_cons pe_int (pa_cons pe_int (pa_cons pe_int (pa_cons pe_int (pa_cons pe_int (pa_cons (pe_un un_neg pe_int) (pa_cons pe_int pa_nil)))))))))
      (pss_cons (ps_for PassesOwn.never rfl (pi_range1 (by rfl) T.z_range (pa_cons pe_int pa_nil)) (pg_name (i := 2) sc_law.nd rfl (Or.inl rfl))
      (pss_cons (ps_set (i := 3) sc_law.nd rfl (Or.inl rfl) (pe_ix (ix_listK (K := K) rfl) (pv 1) (pe_op op_mod (pe_call (ok_l_mix T) (by exact hr.mono (by decide)) (by rfl) T.l_mix.g T.l_mix.F.kp T.l_mix.b .nil pass0 (pa_cons (pv 0) (pa_cons (pv 2) pa_nil))) pe_int) (fun _ _ => rfl)))
      (pss_cons (ps_set (i := 4) sc_law.nd rfl (Or.inl rfl) (pe_ix (ix_listK (K := K) rfl) (pv 1) (pe_op op_mod (pe_call (ok_l_mix T) (by exact hr.mono (by decide)) (by rfl) T.l_mix.g T.l_mix.F.kp T.l_mix.b .nil pass0 (pa_cons (pv 0) (pa_cons (pe_op op_add pe_int (pv 2)) pa_nil))) pe_int) (fun _ _ => rfl)))
      (pss_cons (ps_set (i := 5) sc_law.nd rfl (Or.inl rfl) (pe_and (pe_chain op_le op_le pe_int (pv 3) pe_int) (pe_one (pe_or (pe_cmpR op_lt (pv 2) pe_int (nomark _)) (pe_one (pe_chain op_le op_le pe_int (pv 4) pe_int))))))
      (pss_one (ps_if (pt_cmpR op_ne (pe_call (ok_l_made T) (by exact hr.mono (by decide)) (by rfl) T.l_made.g T.l_made.F.kp T.l_made.b .nil pass0 (pa_cons (pv 2) (pa_cons (pv 3) (pa_cons (pv 4) pa_nil)))) (pe_ix (ix_listK (K := K) rfl) (pe_lst (pa_cons pe_str (pa_cons pe_str pa_nil))) (pe_callTy call_int1 (by rfl) T.z_int (by decide +kernel) (pa_cons (pv 5) pa_nil)) (fun _ _ => rfl)) (nomark _)) (pss_one (ps_ret pe_bl)) pss_nil))))))
      (pss_cons (ps_set (i := 6) sc_law.nd rfl (Or.inl rfl) (pe_make T.cTimed.mkr (ok_Timed_init T) (by exact hr.mono (by decide)) (by rfl) T.cTimed.g T.Timed_init.b .nil passL (pa_cons pe_int pa_nil)))
      (pss_cons (ps_set (i := 7) sc_law.nd rfl (Or.inl rfl) (pe_make T.cGroups.mkr (ok_Groups_init T) (by exact hr.mono (by decide)) (by rfl) T.cGroups.g T.Groups_init.b .nil passL (pa_cons pe_int (pa_cons pe_int pa_nil))))
      (pss_cons (ps_expr (pe_meth (pv 6) T.cTimed.cl T.Timed_put.me (ok_Timed_put T) (by exact hr.mono (by decide)) T.Timed_put.b .nil passL (pa_cons pe_int (pa_cons pe_int pa_nil))))
      (pss_cons (ps_expr (pe_meth (pv 7) T.cGroups.cl T.Groups_put.me (ok_Groups_put T) (by exact hr.mono (by decide)) T.Groups_put.b .nil pass0 (pa_cons pe_int (pa_cons pe_int pa_nil))))
      (pss_cons (ps_set (i := 8) sc_law.nd rfl (Or.inl rfl) (pe_ix (ix_listK (K := K) rfl) (pe_op op_cat (pe_call0 (ok_l_names T) (by exact hr.mono (by decide)) (by rfl) T.l_names.g T.l_names.F.kp T.l_names.b .nil pass0) (pe_lst (pa_cons pe_str (pa_cons pe_str (pa_cons pe_str (pa_cons pe_str pa_nil)))))) (pe_op op_mod (pe_call (ok_l_mix T) (by exact hr.mono (by decide)) (by rfl) T.l_mix.g T.l_mix.F.kp T.l_mix.b .nil pass0 (pa_cons (pv 0) (pa_cons pe_int pa_nil))) pe_int) (fun _ _ => rfl)))
      (pss_cons (ps_set (i := 9) sc_law.nd rfl (Or.inl rfl) (pe_ifExp (pt_cmpR (op_in_seqK (K := K) rfl) (pv 8) (pe_call0 (ok_l_names T) (by exact hr.mono (by decide)) (by rfl) T.l_names.g T.l_names.F.kp T.l_names.b .nil pass0) (by rfl)) pe_str pe_str))
      (pss_cons (ps_set (i := 10) sc_law.nd rfl (Or.inl rfl) (pe_ix (ix_listK (K := K) rfl) (pe_lst (pa_cons pe_int (pa_cons pe_int (pa_cons pe_int (pa_cons pe_int (pa_cons pe_int (pa_cons (pe_un un_neg pe_int) pa_nil))))))) (pe_op op_mod (pe_call (ok_l_mix T) (by exact hr.mono (by decide)) (by rfl) T.l_mix.g T.l_mix.F.kp T.l_mix.b .nil pass0 (pa_cons (pv 0) (pa_cons pe_int pa_nil))) pe_int) (fun _ _ => rfl)))
      (pss_cons (ps_set (i := 11) sc_law.nd rfl (Or.inl rfl) (pe_ifExp (pt_cmpR op_eq (pv 10) pe_int (nomark _)) pe_str pe_str))
      (pss_cons (ps_set (i := 12) sc_law.nd rfl (Or.inl rfl) (pe_ifExp (pt_cmpR op_lt (pv 10) pe_int (nomark _)) pe_str pe_str))
      (pss_cons (ps_set (i := 13) sc_law.nd rfl (Or.inl rfl) (pe_lst (pa_cons (pv 9) (pa_cons (pe_ifExp (pt_cmpR op_eq (pv 11) pe_str (nomark _)) (pv 9) pe_str) (pa_cons (pv 11) (pa_cons (pv 12) (pa_cons (pv 12) pa_nil)))))))
      (pss_cons (ps_for PassesOwn.never rfl (pi_range1 (by rfl) T.z_range (pa_cons pe_int pa_nil)) (pg_name (i := 2) sc_law.nd rfl (Or.inl rfl))
      (pss_one (ps_if (pt_cmpR op_ne (pe_call (ok_l_asked T) (by exact hr.mono (by decide)) (by rfl) T.l_asked.g T.l_asked.F.kp T.l_asked.b .nil pass0 (pa_cons (pv 2) (pa_cons (pv 6) (pa_cons (pv 7) (pa_cons (pv 10) (pa_cons (pv 8) pa_nil)))))) (pe_ix (ix_listK (K := K) rfl) (pv 13) (pv 2) (fun _ _ => rfl)) (nomark _)) (pss_one (ps_ret pe_bl)) pss_nil)))
      (pss_cons (ps_set (i := 14) sc_law.nd rfl (Or.inl rfl) (pe_op op_add pe_int (pe_callTy call_int1 (by rfl) T.z_int (by decide +kernel) (pa_cons (pe_cmpR op_ge (pv 10) pe_int (nomark _)) pa_nil))))
      (pss_one (ps_ret (pe_and (pe_cmpR op_eq (pe_meth (pv 6) T.cTimed.cl T.Timed_word.me (ok_Timed_word T) (by exact hr.mono (by decide)) T.Timed_word.b .nil passL (pa_cons pe_str pa_nil)) (pv 14) (nomark _)) (pe_and (pe_cmpR op_eq (pe_meth0 (pv 6) T.cTimed.cl T.Timed_time.me (ok_Timed_time T) (by exact hr.mono (by decide)) T.Timed_time.b .nil pass0) (pe_callB (call_max2Q rfl) (by rfl) T.z_max (by decide +kernel) (pa_cons pe_int (pa_cons (pv 10) pa_nil))) (nomark _)) (pe_one (pe_cmpR (op_eqDK (K := K) rfl (by exact hr.units)) (pe_meth0 (pv 7) T.cGroups.cl T.Groups_used.me (ok_Groups_used T) (by exact hr.mono (by decide)) T.Groups_used.b .nil pass0) (pe_lst (pa_cons pe_int pa_nil)) (nomark _))))))))))))))))))))), ?_⟩
    walk_at "in"
    refine ⟨Nat.le_of_ble_eq_true rfl, fun l nl => ?_⟩
    walk_at "go"
    refine R_rng1 (by decide) (by decide) ?_
    refine R_forR (lo := 0) (n := 4) (fun i σ' H' => ∃ v2 v3 v4 v5 : Option V, σ' = [some (.ref a), some (.ref l), v2, v3, v4, v5, none, none, none, none, none, none, none, none, none] ∧ Same H H' ∧ H' l = some (.lst sizesV)) ⟨none, none, none, none, rfl, same_upd nl (Same.refl _), upd_same⟩ ?_ ?_
    · rintro i σ' H' hi ⟨v2, v3, v4, v5, rfl, s1, hL⟩
      walk_at "go"
      refine ⟨a, ns, 0 + (i : Int), rfl, s1.seq hS, hl, by omega, ?_⟩
      walk_at "go"
      obtain ⟨z, hz⟩ := pick7 (mixF ns (0 + (i : Int)) % 7) (Int.emod_nonneg _ (by decide)) (Int.emod_lt_of_pos _ (by decide))
      refine R_ixL (SqL.of hL) hz ?_
      walk_at "go"
      refine ⟨a, ns, 4 + (0 + (i : Int)), rfl, s1.seq hS, hl, by omega, ?_⟩
      walk_at "go"
      obtain ⟨y, hy⟩ := pick7 (mixF ns (4 + (0 + (i : Int))) % 7) (Int.emod_nonneg _ (by decide)) (Int.emod_lt_of_pos _ (by decide))
      refine R_ixL (SqL.of hL) hy ?_
      refine S_seq (S_asg (good_of (way := 0 + (i : Int)) (z := z) (y := y) rfl rfl rfl ?_))
      walk_at "go"
      refine ⟨0 + (i : Int), z, y, rfl, by omega, by omega, fun H2 s2 => ?_⟩
      walk_at "go"
      refine ⟨Nat.le_of_ble_eq_true rfl, fun p np => ?_⟩
      walk_at "go"
      refine .inr ⟨_, rfl, ?_⟩
      refine R_ixL (SqL.of upd_same) (made_at _ _ _) ?_
      walk_at "go"
      refine iteBF (by rw [decide_eq_true rfl]; rfl) ?_
      walk_at "go"
      have s3 := same_upd (o := HO.lst [V.str "window", V.str "ok"]) np (s1.trans s2)
      refine ⟨_, _, _, _, rfl, s3, ?_⟩
      rw [upd_ne (ne_of_none (s2 _ _ hL) np)]
      exact s2 _ _ hL
    · rintro σ' H' ⟨v2, v3, v4, v5, rfl, s1, hL⟩
      walk_at "go"
      intro zi dzx nzi ndz ne1
      refine ⟨zi, dzx, 5, rfl, upd_same, fun q => absurd (by decide) q, fun n hn n1 n2 tm t r k o H2 ntm nt nr nk no Z kp => ⟨rfl, ?_⟩⟩
      have en : n = 5 := by omega
      subst en
      have s2 : Same H H2 := s1.trans (made_same nzi ndz kp)
      walk_at "go"
      intro g dgx ng ndg ne2
      refine ⟨g, dgx, 2, 2, rfl, upd_same, fun q => absurd ⟨by decide, by decide⟩ q, fun gn gmo hgn hgm gn1 gn2 gm1 gm2 oa wa H3 noa nwa G kp2 => ⟨rfl, ?_⟩⟩
      have en : gn = 2 := by omega
      subst en
      have en : gmo = 2 := by omega
      subst en
      have t3 : Same H2 H3 := made_same ng ndg kp2
      have two : ∀ {x : Addr}, L2.upd (L2.upd H2 dgx (.own g)) g (.ins (He.ga K "Groups") dgx []) x = none → H2 x = none := fun {x} hx => (made_two ng ndg).free hx
      have ap0 : Apart zi tm t r k o g oa wa [] := fun b hb => by
        obtain ⟨u, hu⟩ := Z.some hb
        exact ⟨ne_of_none hu ng, ne_of_none hu (two noa), ne_of_none hu (two nwa), fun e he => by cases he⟩
      have Z2 := Z.ex t3
      obtain ⟨⟨dz, z1⟩, _⟩ := id Z2
      have s3 := s2.trans t3
      walk_at "go"
      refine ⟨zi, tm, t, r, k, o, 5, 0, [], 10, 3, rfl, Z2, Nat.zero_le _, fun hx => absurd hx (by decide), fun hx gl H4 ngl Z3 kpz hgl => ?_⟩
      have Z3 : ZAt K H4 zi tm t r k o 5 10 [(10, 3)] := Z3
      have G4 := GAtK.keepZ G ap0 kpz
      obtain ⟨⟨dg, g1⟩, _⟩ := id G4
      walk_at "go"
      refine ⟨g, oa, wa, 2, 2, 0, [], 7, 1, rfl, G4, by decide, fun es H5 e5 G5 kpg => ?_⟩
      have hk : es.map (·.key) = [7] := by
        rw [← abs_keys, e5]
        rfl
      have ap : Apart zi tm t r k o g oa wa es := fun b hb => by
        obtain ⟨u, hu⟩ := Z3.some hb
        exact ⟨(ap0 b hb).1, (kpg b u hu (ap0 b hb).2).2⟩
      have Z5 : ZAt K H5 zi tm t r k o 5 10 [(10, 3)] := Z3.same fun b u hb e => (kpg b u e (ap0 b hb).2).1
      have sz : Same H' H5 := fun b u hb => by
        have hb2 := made_same nzi ndz kp b u hb
        have hb3 := t3 b u hb2
        have old1 : ∀ {x : Addr}, L2.upd (L2.upd H' dzx (.own zi)) zi (.ins (He.ga K "Timed") dzx []) x = none → b ≠ x := fun {x} hx => ne_of_none hb ((made_two nzi ndz).free hx)
        have hb4 := kpz b u hb3 (ne_of_none hb nzi) (old1 ntm) (old1 nt) (old1 nr) (old1 nk) (old1 no)
        exact (kpg b u hb4 ⟨ne_of_none hb2 (two noa), ne_of_none hb2 (two nwa), fun e he => by cases he⟩).1
      have s5 := s1.trans sz
      walk_at "go"
      refine ⟨rfl, fun p H6 np s6 hp => ?_⟩
      walk_at "go"
      refine ⟨Nat.le_of_ble_eq_true rfl, fun q nq => ?_⟩
      walk_at "go"
      refine R_cat (by rw [upd_ne (ne_of_none hp nq)]; exact hp) upd_same (Nat.le_of_ble_eq_true rfl) fun p2 np2 => ?_
      walk_at "go"
      have t6 : Same H5 (L2.upd (L2.upd H6 q (.lst [.str "", .str "Sum", .str "mean", .str "summ"])) p2 (.lst wordsV)) := same_upd np2 (same_upd nq s6)
      refine ⟨a, ns, 8, rfl, (s5.trans t6).seq hS, hl, by decide, ?_⟩
      walk_at "go"
      obtain ⟨nm, hnm⟩ := pick16 (mixF ns 8 % 16) (Int.emod_nonneg _ (by decide)) (Int.emod_lt_of_pos _ (by decide))
      refine R_ixL (xs := wordsV) (SqL.of upd_same) hnm ?_
      walk_at "go"
      refine ⟨rfl, fun p3 H7 np3 s7 hp3 => ?_⟩
      walk_at "go"
      refine R_inL (neg := false) (SqL.of hp3) rfl rfl ?_
      walk_at "go"
      rw [if_neg Bool.false_ne_true, inV_strs]
      refine ite_str ?_
      have t7 := t6.trans s7
      walk_at "go"
      refine ⟨Nat.le_of_ble_eq_true rfl, fun p4 np4 => ?_⟩
      have t8 := same_upd (o := HO.lst [.int 7, .int 8, .int 9, .int 10, .int 11, .int (-7)]) np4 t7
      walk_at "go"
      refine ⟨a, ns, 9, rfl, (s5.trans t8).seq hS, hl, by decide, ?_⟩
      walk_at "go"
      obtain ⟨number, hnum, hn11⟩ := pick6 (mixF ns 9 % 6) (Int.emod_nonneg _ (by decide)) (Int.emod_lt_of_pos _ (by decide))
      refine R_ixL (xs := numV) (SqL.of upd_same) hnum ?_
      walk_at "go"
      refine ite_str ?_
      walk_at "go"
      refine ite_str ?_
      walk_at "go"
      refine ite_strV (A := wordS nm) rfl ?_
      walk_at "go"
      refine ⟨Nat.le_of_ble_eq_true rfl, fun dl ndl => ?_⟩
      walk_at "go"
      have t9 := same_upd (o := HO.lst ((dueL number nm).map V.str)) ndl t8
      have hdz : ∀ b, (b = zi ∨ b = tm ∨ b = t ∨ b = r ∨ b = k ∨ b = o) → b ≠ dl := fun b hb => by
        obtain ⟨u, hu⟩ := Z5.some hb
        exact ne_of_none (t8 b u hu) ndl
      refine R_rng1 (by decide) (by decide) ?_
      refine R_forR (lo := 0) (n := 5) (fun i σ' H' => ∃ v2 : Option V, σ' = [some (.ref a), some (.ref l), v2, v3, v4, v5, some (.ref zi), some (.ref g), some (.str nm), some (.str (wordS nm)), some (.int number), some (.str (keyS number)), some (.str (lateS number)), some (.ref dl), none] ∧
        ZAt K H' zi tm t r k o 5 (nowA number i) (psA number i) ∧ GAt K H' g oa wa 2 2 1 es ∧ H' dl = some (.lst ((dueL number nm).map V.str))) ⟨v2, rfl, ?_, GAtK.ex G5 t9, upd_same⟩ ?_ ?_
      · rw [show nowA number 0 = 10 from if_pos (.inr (by decide)), show psA number 0 = [(10, 3)] from if_pos (.inr (by decide))]
        exact Z5.ex t9
      · rintro i σ' H8 hi ⟨v2, rfl, Z, G, hd⟩
        walk_at "go"
        refine asked_turn hi hn11 Z G hk ap hd hdz fun H9 Z9 G9 hd9 => ?_
        walk_at "go"
        refine R_ixL (SqL.of hd9) (due_at number nm hi) ?_
        walk_at "go"
        refine iteBF (by rw [decide_eq_true rfl]; rfl) ?_
        walk_at "go"
        exact ⟨_, rfl, Z9, G9, hd9⟩
      · rintro σ' H8 ⟨v2, rfl, Z, G, hd⟩
        obtain ⟨⟨dz8, z8⟩, _⟩ := id Z
        obtain ⟨⟨dg8, g8⟩, _⟩ := id G
        have hlen : (psA number 5).length ≤ 900 := by unfold psA; split <;> exact Nat.le_of_ble_eq_true rfl
        walk_at "go"
        refine .inr ⟨_, rfl, ?_⟩
        walk_at "go"
        refine ⟨zi, tm, t, r, k, o, 5, nowA number 5, psA number 5, "many", rfl, Z, by omega, fun hn H9 s9 => ?_, fun hn => absurd (by decide +kernel) hn⟩
        rw [wv_many]
        have Z9 := Z.ex s9
        have G9 := GAtK.ex G s9
        obtain ⟨⟨dz9, z9⟩, _⟩ := id Z9
        obtain ⟨⟨dg9, g9⟩, _⟩ := id G9
        walk_at "go"
        refine iteBT (decide_eq_true (congrArg V.int ?_)) ?_
        · unfold psA
          by_cases hx : number < 10
          · rw [if_pos (.inl hx), if_neg (by rw [decide_eq_true_eq]; omega)]
            rfl
          · rw [if_neg (by omega), if_pos (by rw [decide_eq_true_eq]; omega)]
            rfl
        walk_at "go"
        refine ⟨zi, tm, t, r, k, o, 5, nowA number 5, psA number 5, rfl, Z9, ?_⟩
        walk_at "go"
        refine iteBT (decide_eq_true (congrArg V.int ?_)) ?_
        · unfold nowA
          by_cases hx : number < 10
          · rw [if_pos (.inl hx), if_neg (by omega)]
          · rw [if_neg (by omega)]
            split <;> omega
        walk_at "go"
        refine ⟨g, oa, wa, 2, 2, 1, es, rfl, G9, fun u H10 nu s10 hu => ?_⟩
        walk_at "go"
        refine ⟨Nat.le_of_ble_eq_true rfl, fun p5 np5 => ?_⟩
        rw [hk] at hu
        walk_at "go"
        refine R_eqInts (ns := [7]) (SqL.of (by rw [upd_ne (ne_of_none hu np5)]; exact hu)) (SqL.of upd_same) ?_
        exact kq _
end
end LF

set_option maxRecDepth 100000
set_option maxHeartbeats 4000000
namespace LF
open PySem PySem.Spec PyProof.Rows L2

/-! ### the head: facts by names, the run -/
def fn : List He.DefD := [
  ⟨("placed", none), "placed", "placed", defArgs s_placed, defBody s_placed, defScope s_placed, [], []⟩,
  ⟨("Tally", some "__init__"), "__init__", "Tally.__init__", defArgs s_Tally_init, defBody s_Tally_init, defScope s_Tally_init, [], []⟩,
  ⟨("Tally", some "add"), "add", "Tally.add", defArgs s_Tally_add, defBody s_Tally_add, defScope s_Tally_add, [], []⟩,
  ⟨("Tally", some "drop"), "drop", "Tally.drop", defArgs s_Tally_drop, defBody s_Tally_drop, defScope s_Tally_drop, [], []⟩,
  ⟨("Tally", some "word"), "word", "Tally.word", defArgs s_Tally_word, defBody s_Tally_word, defScope s_Tally_word, [], []⟩,
  ⟨("Tally", some "one"), "one", "Tally.one", defArgs s_Tally_one, defBody s_Tally_one, defScope s_Tally_one, [], []⟩,
  ⟨("Tally", some "rising"), "rising", "Tally.rising", defArgs s_Tally_rising, defBody s_Tally_rising, defScope s_Tally_rising, [], []⟩,
  ⟨("Tally", some "mark"), "mark", "Tally.mark", defArgs s_Tally_mark, defBody s_Tally_mark, defScope s_Tally_mark, [], []⟩,
  ⟨("look_size", none), "look_size", "look_size", defArgs s_look_size, defBody s_look_size, defScope s_look_size, [], []⟩,
  ⟨("Window", some "__init__"), "__init__", "Window.__init__", defArgs s_Window_init, defBody s_Window_init, defScope s_Window_init, [], []⟩,
  ⟨("Window", some "put"), "put", "Window.put", defArgs s_Window_put, defBody s_Window_put, defScope s_Window_put, [], []⟩,
  ⟨("Window", some "things"), "things", "Window.things", defArgs s_Window_things, defBody s_Window_things, defScope s_Window_things, [], []⟩,
  ⟨("Window", some "word"), "word", "Window.word", defArgs s_Window_word, defBody s_Window_word, defScope s_Window_word, [], []⟩,
  ⟨("Timed", some "__init__"), "__init__", "Timed.__init__", defArgs s_Timed_init, defBody s_Timed_init, defScope s_Timed_init, [], []⟩,
  ⟨("Timed", some "time"), "time", "Timed.time", defArgs s_Timed_time, defBody s_Timed_time, defScope s_Timed_time, [], []⟩,
  ⟨("Timed", some "go_on"), "go_on", "Timed.go_on", defArgs s_Timed_go_on, defBody s_Timed_go_on, defScope s_Timed_go_on, [], []⟩,
  ⟨("Timed", some "put"), "put", "Timed.put", defArgs s_Timed_put, defBody s_Timed_put, defScope s_Timed_put, [], []⟩,
  ⟨("Timed", some "things"), "things", "Timed.things", defArgs s_Timed_things, defBody s_Timed_things, defScope s_Timed_things, [], []⟩,
  ⟨("Timed", some "word"), "word", "Timed.word", defArgs s_Timed_word, defBody s_Timed_word, defScope s_Timed_word, [], []⟩,
  ⟨("behind", none), "behind", "behind", defArgs s_behind, defBody s_behind, defScope s_behind, [], []⟩,
  ⟨("Maps", some "__init__"), "__init__", "Maps.__init__", defArgs s_Maps_init, defBody s_Maps_init, defScope s_Maps_init, [], []⟩,
  ⟨("Maps", some "put"), "put", "Maps.put", defArgs s_Maps_put, defBody s_Maps_put, defScope s_Maps_put, [], []⟩,
  ⟨("Maps", some "turn"), "turn", "Maps.turn", defArgs s_Maps_turn, defBody s_Maps_turn, defScope s_Maps_turn, [], []⟩,
  ⟨("Maps", some "whole"), "whole", "Maps.whole", defArgs s_Maps_whole, defBody s_Maps_whole, defScope s_Maps_whole, [], []⟩,
  ⟨("Maps", some "maps"), "maps", "Maps.maps", defArgs s_Maps_maps, defBody s_Maps_maps, defScope s_Maps_maps, [], []⟩,
  ⟨("Maps", some "at"), "at", "Maps.at", defArgs s_Maps_at, defBody s_Maps_at, defScope s_Maps_at, [], []⟩,
  ⟨("Groups", some "__init__"), "__init__", "Groups.__init__", defArgs s_Groups_init, defBody s_Groups_init, defScope s_Groups_init, [], []⟩,
  ⟨("Groups", some "put"), "put", "Groups.put", defArgs s_Groups_put, defBody s_Groups_put, defScope s_Groups_put, [], []⟩,
  ⟨("Groups", some "used"), "used", "Groups.used", defArgs s_Groups_used, defBody s_Groups_used, defScope s_Groups_used, [], []⟩,
  ⟨("Groups", some "need"), "need", "Groups.need", defArgs s_Groups_need, defBody s_Groups_need, defScope s_Groups_need, [], []⟩,
  ⟨("Groups", some "things"), "things", "Groups.things", defArgs s_Groups_things, defBody s_Groups_things, defScope s_Groups_things, [], []⟩,
  ⟨("Groups", some "word"), "word", "Groups.word", defArgs s_Groups_word, defBody s_Groups_word, defScope s_Groups_word, [], []⟩,
  ⟨("_law_cell", none), "_law_cell", "_law_cell", defArgs s_l_cell, defBody s_l_cell, defScope s_l_cell, [], []⟩,
  ⟨("_law_mix", none), "_law_mix", "_law_mix", defArgs s_l_mix, defBody s_l_mix, defScope s_l_mix, [], []⟩,
  ⟨("_law_names", none), "_law_names", "_law_names", defArgs s_l_names, defBody s_l_names, defScope s_l_names, [], []⟩,
  ⟨("_law_word", none), "_law_word", "_law_word", defArgs s_l_word, defBody s_l_word, defScope s_l_word, [], []⟩,
  ⟨("_law_rising", none), "_law_rising", "_law_rising", defArgs s_l_rising, defBody s_l_rising, defScope s_l_rising, [], []⟩,
  ⟨("_law_is", none), "_law_is", "_law_is", defArgs s_l_is, defBody s_l_is, defScope s_l_is, [], []⟩,
  ⟨("_law_all", none), "_law_all", "_law_all", defArgs s_l_all, defBody s_l_all, defScope s_l_all, [], []⟩,
  ⟨("_law_refusal", none), "_law_refusal", "_law_refusal", defArgs s_l_refusal, defBody s_l_refusal, defScope s_l_refusal, [], []⟩,
  ⟨("_law_made", none), "_law_made", "_law_made", defArgs s_l_made, defBody s_l_made, defScope s_l_made, [], []⟩,
  ⟨("_law_asked", none), "_law_asked", "_law_asked", defArgs s_l_asked, defBody s_l_asked, defScope s_l_asked, [], []⟩,
  ⟨("law", none), "law", "law", defArgs s_law, defBody s_law, defScope s_law, [], []⟩]
def fa : List He.Fa := [
  .cls "Tally",
  .mkr "Tally",
  .glo "Tally",
  .cls "Window",
  .mkr "Window",
  .glo "Window",
  .cls "Timed",
  .mkr "Timed",
  .glo "Timed",
  .cls "Maps",
  .mkr "Maps",
  .glo "Maps",
  .cls "Groups",
  .mkr "Groups",
  .glo "Groups",
  .glo "placed",
  .meth "Tally" "__init__",
  .meth "Tally" "add",
  .meth "Tally" "drop",
  .meth "Tally" "word",
  .meth "Tally" "one",
  .meth "Tally" "rising",
  .meth "Tally" "mark",
  .glo "look_size",
  .meth "Window" "__init__",
  .meth "Window" "put",
  .meth "Window" "things",
  .meth "Window" "word",
  .meth "Timed" "__init__",
  .meth "Timed" "time",
  .meth "Timed" "go_on",
  .meth "Timed" "put",
  .meth "Timed" "things",
  .meth "Timed" "word",
  .glo "behind",
  .meth "Maps" "__init__",
  .meth "Maps" "put",
  .meth "Maps" "turn",
  .meth "Maps" "whole",
  .meth "Maps" "maps",
  .meth "Maps" "at",
  .meth "Groups" "__init__",
  .meth "Groups" "put",
  .meth "Groups" "used",
  .meth "Groups" "need",
  .meth "Groups" "things",
  .meth "Groups" "word",
  .glo "_law_cell",
  .glo "_law_mix",
  .glo "_law_names",
  .glo "_law_word",
  .glo "_law_rising",
  .glo "_law_is",
  .glo "_law_all",
  .glo "_law_refusal",
  .glo "_law_made",
  .glo "_law_asked",
  .glo "law",
  .noat "Tally" "row",
  .noat "Tally" "ranks",
  .noat "Tally" "often",
  .noat "Tally" "total",
  .noat "Tally" "pairs",
  .noat "Window" "size",
  .noat "Window" "tally",
  .noat "Timed" "span",
  .noat "Timed" "now",
  .noat "Timed" "times",
  .noat "Timed" "tally",
  .noat "Maps" "size",
  .noat "Maps" "old",
  .noat "Maps" "new",
  .noat "Maps" "last",
  .noat "Groups" "size",
  .noat "Groups" "most",
  .noat "Groups" "order",
  .noat "Groups" "windows",
  .int "MARK_TIMES" 31,
  .int "MARK_ROUND" 1000003,
  .int "MOST" 1000,
  .int "ROUND" 1000003,
  .free "len",
  .free "max",
  .free "min",
  .free "sum",
  .free "all",
  .free "sorted",
  .free "isinstance",
  .free "list",
  .free "int",
  .free "set",
  .free "range",
  .free "reversed",
  .free "bool",
  .free "ValueError",
  .glo "FewError",
  .glo "BadWindow",
  .glo "NoWord",
  .glo "Late",
  .glo "NoKey"]
theorem fn_keys : (fn.map (·.at_)).Nodup := by decide +kernel
theorem fn_one (i j : Nat) {d e : He.DefD} (hi : fn[i]? = some d) (hj : fn[j]? = some e) (h : d.at_ = e.at_) : e = d := by
  have hi2 : (fn.map (·.at_))[i]? = some d.at_ := by rw [List.getElem?_map, hi]; rfl
  have hj2 : (fn.map (·.at_))[j]? = some d.at_ := by rw [List.getElem?_map, hj, h]; rfl
  have q := nd_ix fn_keys hi2 hj2
  subst q
  rw [hi] at hj
  exact (Option.some.inj hj).symm
theorem txt_of {K : PySem.W.Frag} {h : Heap} {mg : Str → Option Value} (X : K.In h) (G : h.Ns mainGlobals mg) (c : He.SaysD fa fn K) (x : xtra K = true) : ∃ D : Str × Option Str → FuncData, Txt K mg D := by
  obtain ⟨D, hD⟩ : ∃ D : Str × Option Str → FuncData, ∀ (i : Nat) {d : He.DefD}, fn[i]? = some d → FunD K d.name d.qual d.params d.body d.scope (d.dvs K) (d.kws K) (He.fAd K d.at_) (D d.at_) := by
    classical
    refine ⟨fun p => if h : ∃ fd, ∃ (i : Nat) (d : He.DefD), fn[i]? = some d ∧ d.at_ = p ∧ FunD K d.name d.qual d.params d.body d.scope (d.dvs K) (d.kws K) (He.fAd K d.at_) fd then Classical.choose h else Classical.choose (c.def_ 0 (d := fn.head (by unfold fn; exact List.cons_ne_nil _ _)) rfl), fun i d hd => ?_⟩
    obtain ⟨fd, hfd⟩ := c.def_ i hd
    have hx : ∃ fd, ∃ (i : Nat) (e : He.DefD), fn[i]? = some e ∧ e.at_ = d.at_ ∧ FunD K e.name e.qual e.params e.body e.scope (e.dvs K) (e.kws K) (He.fAd K e.at_) fd := ⟨fd, i, d, hd, rfl, hfd⟩
    dsimp only
    rw [dif_pos hx]
    obtain ⟨j, e, he, ea, q⟩ := Classical.choose_spec hx
    have ed : e = d := fn_one i j hd he ea.symm
    subst ed
    exact q
  have cTally : ClAt K mg "Tally" := ⟨He.cls_ok (c.fact 0 rfl), He.mkr_ok (c.fact 1 rfl), He.glo_ok X G (c.fact 2 rfl)⟩
  have cWindow : ClAt K mg "Window" := ⟨He.cls_ok (c.fact 3 rfl), He.mkr_ok (c.fact 4 rfl), He.glo_ok X G (c.fact 5 rfl)⟩
  have cTimed : ClAt K mg "Timed" := ⟨He.cls_ok (c.fact 6 rfl), He.mkr_ok (c.fact 7 rfl), He.glo_ok X G (c.fact 8 rfl)⟩
  have cMaps : ClAt K mg "Maps" := ⟨He.cls_ok (c.fact 9 rfl), He.mkr_ok (c.fact 10 rfl), He.glo_ok X G (c.fact 11 rfl)⟩
  have cGroups : ClAt K mg "Groups" := ⟨He.cls_ok (c.fact 12 rfl), He.mkr_ok (c.fact 13 rfl), He.glo_ok X G (c.fact 14 rfl)⟩
  have F0 : FunD K "placed" "placed" (defArgs s_placed) (defBody s_placed) (defScope s_placed) [] [] (He.ga K "placed") (D ("placed", none)) := hD 0 rfl
  have m_placed : FnAt K mg D "placed" s_placed ["ranks", "thing"] := ⟨F0, He.glo_ok X G (c.fact 15 rfl), F0.bindsN (fun _ _ _ _ _ _ us hl => match us, hl with | [_, _], _ => rfl)⟩
  have F1 : FunD K "__init__" "Tally.__init__" (defArgs s_Tally_init) (defBody s_Tally_init) (defScope s_Tally_init) [] [] (He.ma K (He.ga K "Tally") "__init__") (D ("Tally", some "__init__")) := hD 1 rfl
  have m_Tally_init : MtAt K D "Tally" "__init__" "Tally.__init__" s_Tally_init ["self"] := ⟨F1, He.meth_ok (c.fact 16 rfl), F1.bindsN (fun _ _ _ _ _ _ us hl => match us, hl with | [_], _ => rfl)⟩
  have F2 : FunD K "add" "Tally.add" (defArgs s_Tally_add) (defBody s_Tally_add) (defScope s_Tally_add) [] [] (He.ma K (He.ga K "Tally") "add") (D ("Tally", some "add")) := hD 2 rfl
  have m_Tally_add : MtAt K D "Tally" "add" "Tally.add" s_Tally_add ["self", "thing"] := ⟨F2, He.meth_ok (c.fact 17 rfl), F2.bindsN (fun _ _ _ _ _ _ us hl => match us, hl with | [_, _], _ => rfl)⟩
  have F3 : FunD K "drop" "Tally.drop" (defArgs s_Tally_drop) (defBody s_Tally_drop) (defScope s_Tally_drop) [] [] (He.ma K (He.ga K "Tally") "drop") (D ("Tally", some "drop")) := hD 3 rfl
  have m_Tally_drop : MtAt K D "Tally" "drop" "Tally.drop" s_Tally_drop ["self"] := ⟨F3, He.meth_ok (c.fact 18 rfl), F3.bindsN (fun _ _ _ _ _ _ us hl => match us, hl with | [_], _ => rfl)⟩
  have F4 : FunD K "word" "Tally.word" (defArgs s_Tally_word) (defBody s_Tally_word) (defScope s_Tally_word) [] [] (He.ma K (He.ga K "Tally") "word") (D ("Tally", some "word")) := hD 4 rfl
  have m_Tally_word : MtAt K D "Tally" "word" "Tally.word" s_Tally_word ["self", "name"] := ⟨F4, He.meth_ok (c.fact 19 rfl), F4.bindsN (fun _ _ _ _ _ _ us hl => match us, hl with | [_, _], _ => rfl)⟩
  have F5 : FunD K "one" "Tally.one" (defArgs s_Tally_one) (defBody s_Tally_one) (defScope s_Tally_one) [] [] (He.ma K (He.ga K "Tally") "one") (D ("Tally", some "one")) := hD 5 rfl
  have m_Tally_one : MtAt K D "Tally" "one" "Tally.one" s_Tally_one ["self", "name"] := ⟨F5, He.meth_ok (c.fact 20 rfl), F5.bindsN (fun _ _ _ _ _ _ us hl => match us, hl with | [_, _], _ => rfl)⟩
  have F6 : FunD K "rising" "Tally.rising" (defArgs s_Tally_rising) (defBody s_Tally_rising) (defScope s_Tally_rising) [] [] (He.ma K (He.ga K "Tally") "rising") (D ("Tally", some "rising")) := hD 6 rfl
  have m_Tally_rising : MtAt K D "Tally" "rising" "Tally.rising" s_Tally_rising ["self"] := ⟨F6, He.meth_ok (c.fact 21 rfl), F6.bindsN (fun _ _ _ _ _ _ us hl => match us, hl with | [_], _ => rfl)⟩
  have F7 : FunD K "mark" "Tally.mark" (defArgs s_Tally_mark) (defBody s_Tally_mark) (defScope s_Tally_mark) [] [] (He.ma K (He.ga K "Tally") "mark") (D ("Tally", some "mark")) := hD 7 rfl
  have m_Tally_mark : MtAt K D "Tally" "mark" "Tally.mark" s_Tally_mark ["self"] := ⟨F7, He.meth_ok (c.fact 22 rfl), F7.bindsN (fun _ _ _ _ _ _ us hl => match us, hl with | [_], _ => rfl)⟩
  have F8 : FunD K "look_size" "look_size" (defArgs s_look_size) (defBody s_look_size) (defScope s_look_size) [] [] (He.ga K "look_size") (D ("look_size", none)) := hD 8 rfl
  have m_look_size : FnAt K mg D "look_size" s_look_size ["size"] := ⟨F8, He.glo_ok X G (c.fact 23 rfl), F8.bindsN (fun _ _ _ _ _ _ us hl => match us, hl with | [_], _ => rfl)⟩
  have F9 : FunD K "__init__" "Window.__init__" (defArgs s_Window_init) (defBody s_Window_init) (defScope s_Window_init) [] [] (He.ma K (He.ga K "Window") "__init__") (D ("Window", some "__init__")) := hD 9 rfl
  have m_Window_init : MtAt K D "Window" "__init__" "Window.__init__" s_Window_init ["self", "size"] := ⟨F9, He.meth_ok (c.fact 24 rfl), F9.bindsN (fun _ _ _ _ _ _ us hl => match us, hl with | [_, _], _ => rfl)⟩
  have F10 : FunD K "put" "Window.put" (defArgs s_Window_put) (defBody s_Window_put) (defScope s_Window_put) [] [] (He.ma K (He.ga K "Window") "put") (D ("Window", some "put")) := hD 10 rfl
  have m_Window_put : MtAt K D "Window" "put" "Window.put" s_Window_put ["self", "thing"] := ⟨F10, He.meth_ok (c.fact 25 rfl), F10.bindsN (fun _ _ _ _ _ _ us hl => match us, hl with | [_, _], _ => rfl)⟩
  have F11 : FunD K "things" "Window.things" (defArgs s_Window_things) (defBody s_Window_things) (defScope s_Window_things) [] [] (He.ma K (He.ga K "Window") "things") (D ("Window", some "things")) := hD 11 rfl
  have m_Window_things : MtAt K D "Window" "things" "Window.things" s_Window_things ["self"] := ⟨F11, He.meth_ok (c.fact 26 rfl), F11.bindsN (fun _ _ _ _ _ _ us hl => match us, hl with | [_], _ => rfl)⟩
  have F12 : FunD K "word" "Window.word" (defArgs s_Window_word) (defBody s_Window_word) (defScope s_Window_word) [] [] (He.ma K (He.ga K "Window") "word") (D ("Window", some "word")) := hD 12 rfl
  have m_Window_word : MtAt K D "Window" "word" "Window.word" s_Window_word ["self", "name"] := ⟨F12, He.meth_ok (c.fact 27 rfl), F12.bindsN (fun _ _ _ _ _ _ us hl => match us, hl with | [_, _], _ => rfl)⟩
  have F13 : FunD K "__init__" "Timed.__init__" (defArgs s_Timed_init) (defBody s_Timed_init) (defScope s_Timed_init) [] [] (He.ma K (He.ga K "Timed") "__init__") (D ("Timed", some "__init__")) := hD 13 rfl
  have m_Timed_init : MtAt K D "Timed" "__init__" "Timed.__init__" s_Timed_init ["self", "span"] := ⟨F13, He.meth_ok (c.fact 28 rfl), F13.bindsN (fun _ _ _ _ _ _ us hl => match us, hl with | [_, _], _ => rfl)⟩
  have F14 : FunD K "time" "Timed.time" (defArgs s_Timed_time) (defBody s_Timed_time) (defScope s_Timed_time) [] [] (He.ma K (He.ga K "Timed") "time") (D ("Timed", some "time")) := hD 14 rfl
  have m_Timed_time : MtAt K D "Timed" "time" "Timed.time" s_Timed_time ["self"] := ⟨F14, He.meth_ok (c.fact 29 rfl), F14.bindsN (fun _ _ _ _ _ _ us hl => match us, hl with | [_], _ => rfl)⟩
  have F15 : FunD K "go_on" "Timed.go_on" (defArgs s_Timed_go_on) (defBody s_Timed_go_on) (defScope s_Timed_go_on) [] [] (He.ma K (He.ga K "Timed") "go_on") (D ("Timed", some "go_on")) := hD 15 rfl
  have m_Timed_go_on : MtAt K D "Timed" "go_on" "Timed.go_on" s_Timed_go_on ["self", "time"] := ⟨F15, He.meth_ok (c.fact 30 rfl), F15.bindsN (fun _ _ _ _ _ _ us hl => match us, hl with | [_, _], _ => rfl)⟩
  have F16 : FunD K "put" "Timed.put" (defArgs s_Timed_put) (defBody s_Timed_put) (defScope s_Timed_put) [] [] (He.ma K (He.ga K "Timed") "put") (D ("Timed", some "put")) := hD 16 rfl
  have m_Timed_put : MtAt K D "Timed" "put" "Timed.put" s_Timed_put ["self", "time", "thing"] := ⟨F16, He.meth_ok (c.fact 31 rfl), F16.bindsN (fun _ _ _ _ _ _ us hl => match us, hl with | [_, _, _], _ => rfl)⟩
  have F17 : FunD K "things" "Timed.things" (defArgs s_Timed_things) (defBody s_Timed_things) (defScope s_Timed_things) [] [] (He.ma K (He.ga K "Timed") "things") (D ("Timed", some "things")) := hD 17 rfl
  have m_Timed_things : MtAt K D "Timed" "things" "Timed.things" s_Timed_things ["self"] := ⟨F17, He.meth_ok (c.fact 32 rfl), F17.bindsN (fun _ _ _ _ _ _ us hl => match us, hl with | [_], _ => rfl)⟩
  have F18 : FunD K "word" "Timed.word" (defArgs s_Timed_word) (defBody s_Timed_word) (defScope s_Timed_word) [] [] (He.ma K (He.ga K "Timed") "word") (D ("Timed", some "word")) := hD 18 rfl
  have m_Timed_word : MtAt K D "Timed" "word" "Timed.word" s_Timed_word ["self", "name"] := ⟨F18, He.meth_ok (c.fact 33 rfl), F18.bindsN (fun _ _ _ _ _ _ us hl => match us, hl with | [_, _], _ => rfl)⟩
  have F19 : FunD K "behind" "behind" (defArgs s_behind) (defBody s_behind) (defScope s_behind) [] [] (He.ga K "behind") (D ("behind", none)) := hD 19 rfl
  have m_behind : FnAt K mg D "behind" s_behind ["one", "other"] := ⟨F19, He.glo_ok X G (c.fact 34 rfl), F19.bindsN (fun _ _ _ _ _ _ us hl => match us, hl with | [_, _], _ => rfl)⟩
  have F20 : FunD K "__init__" "Maps.__init__" (defArgs s_Maps_init) (defBody s_Maps_init) (defScope s_Maps_init) [] [] (He.ma K (He.ga K "Maps") "__init__") (D ("Maps", some "__init__")) := hD 20 rfl
  have m_Maps_init : MtAt K D "Maps" "__init__" "Maps.__init__" s_Maps_init ["self", "size"] := ⟨F20, He.meth_ok (c.fact 35 rfl), F20.bindsN (fun _ _ _ _ _ _ us hl => match us, hl with | [_, _], _ => rfl)⟩
  have F21 : FunD K "put" "Maps.put" (defArgs s_Maps_put) (defBody s_Maps_put) (defScope s_Maps_put) [] [] (He.ma K (He.ga K "Maps") "put") (D ("Maps", some "put")) := hD 21 rfl
  have m_Maps_put : MtAt K D "Maps" "put" "Maps.put" s_Maps_put ["self", "times", "more"] := ⟨F21, He.meth_ok (c.fact 36 rfl), F21.bindsN (fun _ _ _ _ _ _ us hl => match us, hl with | [_, _, _], _ => rfl)⟩
  have F22 : FunD K "turn" "Maps.turn" (defArgs s_Maps_turn) (defBody s_Maps_turn) (defScope s_Maps_turn) [] [] (He.ma K (He.ga K "Maps") "turn") (D ("Maps", some "turn")) := hD 22 rfl
  have m_Maps_turn : MtAt K D "Maps" "turn" "Maps.turn" s_Maps_turn ["self"] := ⟨F22, He.meth_ok (c.fact 37 rfl), F22.bindsN (fun _ _ _ _ _ _ us hl => match us, hl with | [_], _ => rfl)⟩
  have F23 : FunD K "whole" "Maps.whole" (defArgs s_Maps_whole) (defBody s_Maps_whole) (defScope s_Maps_whole) [] [] (He.ma K (He.ga K "Maps") "whole") (D ("Maps", some "whole")) := hD 23 rfl
  have m_Maps_whole : MtAt K D "Maps" "whole" "Maps.whole" s_Maps_whole ["self"] := ⟨F23, He.meth_ok (c.fact 38 rfl), F23.bindsN (fun _ _ _ _ _ _ us hl => match us, hl with | [_], _ => rfl)⟩
  have F24 : FunD K "maps" "Maps.maps" (defArgs s_Maps_maps) (defBody s_Maps_maps) (defScope s_Maps_maps) [] [] (He.ma K (He.ga K "Maps") "maps") (D ("Maps", some "maps")) := hD 24 rfl
  have m_Maps_maps : MtAt K D "Maps" "maps" "Maps.maps" s_Maps_maps ["self"] := ⟨F24, He.meth_ok (c.fact 39 rfl), F24.bindsN (fun _ _ _ _ _ _ us hl => match us, hl with | [_], _ => rfl)⟩
  have F25 : FunD K "at" "Maps.at" (defArgs s_Maps_at) (defBody s_Maps_at) (defScope s_Maps_at) [] [] (He.ma K (He.ga K "Maps") "at") (D ("Maps", some "at")) := hD 25 rfl
  have m_Maps_at : MtAt K D "Maps" "at" "Maps.at" s_Maps_at ["self", "number"] := ⟨F25, He.meth_ok (c.fact 40 rfl), F25.bindsN (fun _ _ _ _ _ _ us hl => match us, hl with | [_, _], _ => rfl)⟩
  have F26 : FunD K "__init__" "Groups.__init__" (defArgs s_Groups_init) (defBody s_Groups_init) (defScope s_Groups_init) [] [] (He.ma K (He.ga K "Groups") "__init__") (D ("Groups", some "__init__")) := hD 26 rfl
  have m_Groups_init : MtAt K D "Groups" "__init__" "Groups.__init__" s_Groups_init ["self", "size", "most"] := ⟨F26, He.meth_ok (c.fact 41 rfl), F26.bindsN (fun _ _ _ _ _ _ us hl => match us, hl with | [_, _, _], _ => rfl)⟩
  have F27 : FunD K "put" "Groups.put" (defArgs s_Groups_put) (defBody s_Groups_put) (defScope s_Groups_put) [] [] (He.ma K (He.ga K "Groups") "put") (D ("Groups", some "put")) := hD 27 rfl
  have m_Groups_put : MtAt K D "Groups" "put" "Groups.put" s_Groups_put ["self", "key", "thing"] := ⟨F27, He.meth_ok (c.fact 42 rfl), F27.bindsN (fun _ _ _ _ _ _ us hl => match us, hl with | [_, _, _], _ => rfl)⟩
  have F28 : FunD K "used" "Groups.used" (defArgs s_Groups_used) (defBody s_Groups_used) (defScope s_Groups_used) [] [] (He.ma K (He.ga K "Groups") "used") (D ("Groups", some "used")) := hD 28 rfl
  have m_Groups_used : MtAt K D "Groups" "used" "Groups.used" s_Groups_used ["self"] := ⟨F28, He.meth_ok (c.fact 43 rfl), F28.bindsN (fun _ _ _ _ _ _ us hl => match us, hl with | [_], _ => rfl)⟩
  have F29 : FunD K "need" "Groups.need" (defArgs s_Groups_need) (defBody s_Groups_need) (defScope s_Groups_need) [] [] (He.ma K (He.ga K "Groups") "need") (D ("Groups", some "need")) := hD 29 rfl
  have m_Groups_need : MtAt K D "Groups" "need" "Groups.need" s_Groups_need ["self", "key"] := ⟨F29, He.meth_ok (c.fact 44 rfl), F29.bindsN (fun _ _ _ _ _ _ us hl => match us, hl with | [_, _], _ => rfl)⟩
  have F30 : FunD K "things" "Groups.things" (defArgs s_Groups_things) (defBody s_Groups_things) (defScope s_Groups_things) [] [] (He.ma K (He.ga K "Groups") "things") (D ("Groups", some "things")) := hD 30 rfl
  have m_Groups_things : MtAt K D "Groups" "things" "Groups.things" s_Groups_things ["self", "key"] := ⟨F30, He.meth_ok (c.fact 45 rfl), F30.bindsN (fun _ _ _ _ _ _ us hl => match us, hl with | [_, _], _ => rfl)⟩
  have F31 : FunD K "word" "Groups.word" (defArgs s_Groups_word) (defBody s_Groups_word) (defScope s_Groups_word) [] [] (He.ma K (He.ga K "Groups") "word") (D ("Groups", some "word")) := hD 31 rfl
  have m_Groups_word : MtAt K D "Groups" "word" "Groups.word" s_Groups_word ["self", "key", "name"] := ⟨F31, He.meth_ok (c.fact 46 rfl), F31.bindsN (fun _ _ _ _ _ _ us hl => match us, hl with | [_, _, _], _ => rfl)⟩
  have F32 : FunD K "_law_cell" "_law_cell" (defArgs s_l_cell) (defBody s_l_cell) (defScope s_l_cell) [] [] (He.ga K "_law_cell") (D ("_law_cell", none)) := hD 32 rfl
  have m_l_cell : FnAt K mg D "_law_cell" s_l_cell ["_law_script", "_law_k"] := ⟨F32, He.glo_ok X G (c.fact 47 rfl), F32.bindsN (fun _ _ _ _ _ _ us hl => match us, hl with | [_, _], _ => rfl)⟩
  have F33 : FunD K "_law_mix" "_law_mix" (defArgs s_l_mix) (defBody s_l_mix) (defScope s_l_mix) [] [] (He.ga K "_law_mix") (D ("_law_mix", none)) := hD 33 rfl
  have m_l_mix : FnAt K mg D "_law_mix" s_l_mix ["_law_script", "_law_k"] := ⟨F33, He.glo_ok X G (c.fact 48 rfl), F33.bindsN (fun _ _ _ _ _ _ us hl => match us, hl with | [_, _], _ => rfl)⟩
  have F34 : FunD K "_law_names" "_law_names" (defArgs s_l_names) (defBody s_l_names) (defScope s_l_names) [] [] (He.ga K "_law_names") (D ("_law_names", none)) := hD 34 rfl
  have m_l_names : FnAt K mg D "_law_names" s_l_names [] := ⟨F34, He.glo_ok X G (c.fact 49 rfl), F34.bindsN (fun _ _ _ _ _ _ us hl => match us, hl with | [], _ => rfl)⟩
  have F35 : FunD K "_law_word" "_law_word" (defArgs s_l_word) (defBody s_l_word) (defScope s_l_word) [] [] (He.ga K "_law_word") (D ("_law_word", none)) := hD 35 rfl
  have m_l_word : FnAt K mg D "_law_word" s_l_word ["_law_row", "_law_name"] := ⟨F35, He.glo_ok X G (c.fact 50 rfl), F35.bindsN (fun _ _ _ _ _ _ us hl => match us, hl with | [_, _], _ => rfl)⟩
  have F36 : FunD K "_law_rising" "_law_rising" (defArgs s_l_rising) (defBody s_l_rising) (defScope s_l_rising) [] [] (He.ga K "_law_rising") (D ("_law_rising", none)) := hD 36 rfl
  have m_l_rising : FnAt K mg D "_law_rising" s_l_rising ["_law_row"] := ⟨F36, He.glo_ok X G (c.fact 51 rfl), F36.bindsN (fun _ _ _ _ _ _ us hl => match us, hl with | [_], _ => rfl)⟩
  have F37 : FunD K "_law_is" "_law_is" (defArgs s_l_is) (defBody s_l_is) (defScope s_l_is) [] [] (He.ga K "_law_is") (D ("_law_is", none)) := hD 37 rfl
  have m_l_is : FnAt K mg D "_law_is" s_l_is ["_law_found", "_law_due"] := ⟨F37, He.glo_ok X G (c.fact 52 rfl), F37.bindsN (fun _ _ _ _ _ _ us hl => match us, hl with | [_, _], _ => rfl)⟩
  have F38 : FunD K "_law_all" "_law_all" (defArgs s_l_all) (defBody s_l_all) (defScope s_l_all) [] [] (He.ga K "_law_all") (D ("_law_all", none)) := hD 38 rfl
  have m_l_all : FnAt K mg D "_law_all" s_l_all ["_law_kept", "_law_row"] := ⟨F38, He.glo_ok X G (c.fact 53 rfl), F38.bindsN (fun _ _ _ _ _ _ us hl => match us, hl with | [_, _], _ => rfl)⟩
  have F39 : FunD K "_law_refusal" "_law_refusal" (defArgs s_l_refusal) (defBody s_l_refusal) (defScope s_l_refusal) [] [] (He.ga K "_law_refusal") (D ("_law_refusal", none)) := hD 39 rfl
  have m_l_refusal : FnAt K mg D "_law_refusal" s_l_refusal ["_law_kept"] := ⟨F39, He.glo_ok X G (c.fact 54 rfl), F39.bindsN (fun _ _ _ _ _ _ us hl => match us, hl with | [_], _ => rfl)⟩
  have F40 : FunD K "_law_made" "_law_made" (defArgs s_l_made) (defBody s_l_made) (defScope s_l_made) [] [] (He.ga K "_law_made") (D ("_law_made", none)) := hD 40 rfl
  have m_l_made : FnAt K mg D "_law_made" s_l_made ["_law_way", "_law_size", "_law_most"] := ⟨F40, He.glo_ok X G (c.fact 55 rfl), F40.bindsN (fun _ _ _ _ _ _ us hl => match us, hl with | [_, _, _], _ => rfl)⟩
  have F41 : FunD K "_law_asked" "_law_asked" (defArgs s_l_asked) (defBody s_l_asked) (defScope s_l_asked) [] [] (He.ga K "_law_asked") (D ("_law_asked", none)) := hD 41 rfl
  have m_l_asked : FnAt K mg D "_law_asked" s_l_asked ["_law_way", "_law_timed", "_law_groups", "_law_number", "_law_name"] := ⟨F41, He.glo_ok X G (c.fact 56 rfl), F41.bindsN (fun _ _ _ _ _ _ us hl => match us, hl with | [_, _, _, _, _], _ => rfl)⟩
  have F42 : FunD K "law" "law" (defArgs s_law) (defBody s_law) (defScope s_law) [] [] (He.ga K "law") (D ("law", none)) := hD 42 rfl
  have m_law : FnAt K mg D "law" s_law ["_law_script"] := ⟨F42, He.glo_ok X G (c.fact 57 rfl), F42.bindsN (fun _ _ _ _ _ _ us hl => match us, hl with | [_], _ => rfl)⟩
  exact ⟨D, ⟨cTally, cWindow, cTimed, cMaps, cGroups, m_placed, m_Tally_init, m_Tally_add, m_Tally_drop, m_Tally_word, m_Tally_one, m_Tally_rising, m_Tally_mark, m_look_size, m_Window_init, m_Window_put, m_Window_things, m_Window_word, m_Timed_init, m_Timed_time, m_Timed_go_on, m_Timed_put, m_Timed_things, m_Timed_word, m_behind, m_Maps_init, m_Maps_put, m_Maps_turn, m_Maps_whole, m_Maps_maps, m_Maps_at, m_Groups_init, m_Groups_put, m_Groups_used, m_Groups_need, m_Groups_things, m_Groups_word, m_l_cell, m_l_mix, m_l_names, m_l_word, m_l_rising, m_l_is, m_l_all, m_l_refusal, m_l_made, m_l_asked, m_law, He.noat_ok (c.fact 58 rfl), He.noat_ok (c.fact 59 rfl), He.noat_ok (c.fact 60 rfl), He.noat_ok (c.fact 61 rfl), He.noat_ok (c.fact 62 rfl), He.noat_ok (c.fact 63 rfl), He.noat_ok (c.fact 64 rfl), He.noat_ok (c.fact 65 rfl), He.noat_ok (c.fact 66 rfl), He.noat_ok (c.fact 67 rfl), He.noat_ok (c.fact 68 rfl), He.noat_ok (c.fact 69 rfl), He.noat_ok (c.fact 70 rfl), He.noat_ok (c.fact 71 rfl), He.noat_ok (c.fact 72 rfl), He.noat_ok (c.fact 73 rfl), He.noat_ok (c.fact 74 rfl), He.noat_ok (c.fact 75 rfl), He.noat_ok (c.fact 76 rfl), He.int_ok X G (c.fact 77 rfl), He.int_ok X G (c.fact 78 rfl), He.int_ok X G (c.fact 79 rfl), He.int_ok X G (c.fact 80 rfl), He.free_ok X G (c.fact 81 rfl), He.free_ok X G (c.fact 82 rfl), He.free_ok X G (c.fact 83 rfl), He.free_ok X G (c.fact 84 rfl), He.free_ok X G (c.fact 85 rfl), He.free_ok X G (c.fact 86 rfl), He.free_ok X G (c.fact 87 rfl), He.free_ok X G (c.fact 88 rfl), He.free_ok X G (c.fact 89 rfl), He.free_ok X G (c.fact 90 rfl), He.free_ok X G (c.fact 91 rfl), He.free_ok X G (c.fact 92 rfl), He.free_ok X G (c.fact 93 rfl), He.free_ok X G (c.fact 94 rfl), He.glo_ok X G (c.fact 95 rfl), ExAt.of x (by decide +kernel) (He.glo_ok X G (c.fact 96 rfl)), ExAt.of x (by decide +kernel) (He.glo_ok X G (c.fact 97 rfl)), ExAt.of x (by decide +kernel) (He.glo_ok X G (c.fact 98 rfl)), ExAt.of x (by decide +kernel) (He.glo_ok X G (c.fact 99 rfl)), x⟩⟩
abbrev R : PySem.W.OpenRow := PySem.W.OpenLaw.row PySem.Challenge.rw_lastfew_k02_refused
def obX (g : Addr → Option Obj) : He.AlD × Bool := (He.obsDG 5 fa fn g, xtra (He.frG g (He.asD g 5)))
def hk : PySem.W.Hook where
  α := He.AlD × Bool
  obs := fun s => obX s.heap.get?
  val := fun _ => (He.valD fn, true)
  says := fun _ h => ∃ K : PySem.W.Frag, K.In h ∧ He.SaysD fa fn K ∧ xtra K = true
  of := fun _ _ e => ⟨_, He.frG_in, congrArg (fun z : He.AlD × Bool => z.1) e, congrArg (fun z : He.AlD × Bool => z.2) e⟩
  keeps := fun _ _ _ ⟨K, hK, c⟩ k => ⟨K, PySem.W.Frag.In.keeps hK k, c⟩
def ob (s : PySem.W.SharedT) : He.AlD × Bool := obX (HandSHeadRun.getT s)
theorem ob_eq (s : PySem.W.SharedT) : ob s = hk.obs s.abs := by
  have e : HandSHeadRun.getT s = s.abs.heap.get? := funext (HandSHeadRun.getT_eq s)
  show obX _ = obX _
  rw [e]
abbrev topM : Nat := 4000
set_option maxHeartbeats 0 in
theorem run (w : World) : HandSHeadRun.RunEq R (PySem.W.view R.prog [32]) hk ob topM ["FewError", "BadWindow", "NoWord", "Late", "NoKey", "MARK_TIMES", "MARK_ROUND", "placed", "Tally", "MOST", "ROUND", "look_size", "Window", "Timed", "behind", "Maps", "Groups", "_law_cell", "_law_mix", "_law_names", "_law_word", "_law_rising", "_law_is", "_law_all", "_law_refusal", "_law_made", "_law_asked"] w := by
  intro os
  kernel_rfl

end LF
open PySem PySem.W PySem.Calls PyProof.Rows
set_option maxHeartbeats 0 in
theorem PySem.Challenge.cw_lastfew_k02_refused_holds : PySem.Challenge.rw_lastfew_k02_refused.Holds := by
  w_on; o_law
  refine HandSHeadRun.head_any (r := OpenLaw.row PySem.Challenge.rw_lastfew_k02_refused) (q := view (OpenLaw.row PySem.Challenge.rw_lastfew_k02_refused).prog [32]) (H := LF.hk) (ob := LF.ob) (M := LF.topM) (loose := ["FewError", "BadWindow", "NoWord", "Late", "NoKey", "MARK_TIMES", "MARK_ROUND", "placed", "Tally", "MOST", "ROUND", "look_size", "Window", "Timed", "behind", "Maps", "Groups", "_law_cell", "_law_mix", "_law_names", "_law_word", "_law_rising", "_law_is", "_law_all", "_law_refusal", "_law_made", "_law_asked"]) (d := HandSHeadRun.topDef (OpenLaw.row PySem.Challenge.rw_lastfew_k02_refused).prog 32) (kwd := []) LF.ob_eq
    (by kernel_rfl) (fun s => by kernel_rfl) LF.run (by kernel_rfl) (by kernel_rfl) (by kernel_rfl) (by rfl) (by first | assumption | decide +kernel) (by decide +kernel) ⟨rfl, rfl, rfl, rfl, rfl, by decide +kernel⟩ ?hw ?hc
  case hw => w_witness2
  case hc =>
    refine L2.walk_ofE (l := PySem.Challenge.rw_lastfew_k02_refused) (n := 63) (k := 8) (x := "_law_script") (CX := L2.CX0) rfl (by decide) (by kernel_rfl) ⟨rfl, by decide, by decide⟩ ?F (fun _ _ _ _ z => z)
    intro w mg fa h Y G hmg0
    obtain ⟨K, KX, c, x⟩ := Y
    have hmg : mg ("law" : PySem.Str) = some (.ref fa) := by
      have e : (HandSHeadRun.topDef (OpenLaw.row PySem.Challenge.rw_lastfew_k02_refused).prog 32).name = ("law" : PySem.Str) := by kernel_rfl
      rw [← e]
      exact hmg0
    obtain ⟨D, T⟩ := LF.txt_of KX G c x
    have e := hmg.symm.trans T.law.g
    cases e
    exact ⟨K, D ("law", none), LF.spLaw K, KX, fun s v => (T.law.F.bindsA (ps := ["_law_script"]) fun _ _ _ _ _ _ us hl => match us, hl with | [_], _ => rfl) s [v] rfl, fun H a ns hl _ hS => ⟨a, ns, rfl, hS, hl, fun _ => rfl⟩, fun base _ _ => LF.ok_law T⟩
#print axioms PySem.Challenge.cw_lastfew_k02_refused_holds

