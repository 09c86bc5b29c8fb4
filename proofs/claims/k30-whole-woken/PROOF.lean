import PyProof.Rows.All
import Wide.All
import OpenK.AllK
import Wide.FinOn
import KE.DataMinMax
import KE.KStateDown
import HandS.ForMost
import HandS.More
import HandS.IsInst
import HandS.SetFor
import HandS.Defaults
import HandS.HeadHook1
import HandS.HeadHook2
import HandS.Head0
import HandS.Head1
import HandS.Head2
import HandS.HeadEnd
import PySem.Challenge.RW_lastfew_k30_whole_woken
set_option Elab.async false
set_option linter.all false
set_option maxRecDepth 100000
set_option maxHeartbeats 4000000
/-! Plain mathematics of the program lastfew: sorted rows, wrong pairs, rising runs, commonest things. -/
namespace LF

/-! ### sorted rows -/
def srt (l : List Int) : List Int := l.mergeSort (fun a b => decide (a ≤ b))
theorem srt_perm (l : List Int) : (srt l).Perm l := List.mergeSort_perm l _
theorem srt_sorted (l : List Int) : (srt l).Pairwise (· ≤ ·) := by
  have h := List.pairwise_mergeSort (le := fun a b : Int => decide (a ≤ b)) (fun a b c h1 h2 => by simp at *; omega) (fun a b => by simp; omega) l
  exact h.imp (fun h => by simpa using h)
theorem srt_unique {a l : List Int} (p : a.Perm l) (s : a.Pairwise (· ≤ ·)) : a = srt l :=
  List.Perm.eq_of_pairwise (le := (· ≤ ·)) (fun x y _ _ h1 h2 => Int.le_antisymm h1 h2) s (srt_sorted l) (p.trans (srt_perm l).symm)
theorem srt_length (l : List Int) : (srt l).length = l.length := (srt_perm l).length_eq
theorem srt_nil : srt [] = [] := List.mergeSort_nil

/-- how many of a row are below x -/
def below (x : Int) (l : List Int) : Nat := l.countP (fun y => decide (y < x))
theorem below_perm {a b : List Int} (x : Int) (p : a.Perm b) : below x a = below x b := p.countP_eq _
theorem below_le (x : Int) (l : List Int) : below x l ≤ l.length := List.countP_le_length
theorem below_cut {l : List Int} {x : Int} {k : Nat} (hk : k ≤ l.length) (h1 : ∀ i (h : i < l.length), i < k → l[i] < x) (h2 : ∀ i (h : i < l.length), k ≤ i → x ≤ l[i]) : below x l = k := by
  unfold below
  have e : l = l.take k ++ l.drop k := (List.take_append_drop k l).symm
  rw [e, List.countP_append]
  have a : (l.take k).countP (fun y => decide (y < x)) = k := by
    have q : (l.take k).countP (fun y => decide (y < x)) = (l.take k).length := List.countP_eq_length.mpr fun y hy => by
      obtain ⟨i, hi, rfl⟩ := List.mem_iff_getElem.mp hy
      rw [List.length_take] at hi
      rw [List.getElem_take]
      exact decide_eq_true (h1 i (by omega) (by omega))
    rw [q, List.length_take]
    omega
  have b : (l.drop k).countP (fun y => decide (y < x)) = 0 := List.countP_eq_zero.mpr fun y hy => by
    obtain ⟨i, hi, rfl⟩ := List.mem_iff_getElem.mp hy
    rw [List.length_drop] at hi
    rw [List.getElem_drop]
    have q := h2 (k + i) (by omega) (by omega)
    simp
    omega
  rw [a, b]
  rfl
/-- a rising row, its first below x -/
theorem below_iff {l : List Int} (s : l.Pairwise (· ≤ ·)) (x : Int) : ∀ i (h : i < l.length), (l[i] < x ↔ i < below x l) := by
  have key : ∀ (l : List Int), l.Pairwise (· ≤ ·) → ∀ i (h : i < l.length), (l[i] < x ↔ i < below x l) := by
    intro l
    induction l with
    | nil => intro _ i h; exact absurd h (Nat.not_lt_zero _)
    | cons a r ih =>
      intro s i h
      obtain ⟨s1, s2⟩ := List.pairwise_cons.mp s
      unfold below
      rw [List.countP_cons]
      by_cases ha : a < x
      · rw [if_pos (decide_eq_true ha)]
        cases i with
        | zero =>
          show a < x ↔ _
          constructor
          · intro _; omega
          · intro _; exact ha
        | succ j =>
          have q := ih s2 j (by simpa using h)
          unfold below at q
          rw [List.getElem_cons_succ, q]
          omega
      · rw [if_neg (by simpa using ha)]
        have z : r.countP (fun y => decide (y < x)) = 0 := List.countP_eq_zero.mpr fun y hy => by
          have := s1 y hy
          simp
          omega
        rw [z]
        cases i with
        | zero =>
          show a < x ↔ _
          constructor
          · intro q; exact absurd q ha
          · intro q; omega
        | succ j =>
          rw [List.getElem_cons_succ]
          have hm : r[j]'(by simpa using h) ∈ r := List.getElem_mem _
          have := s1 _ hm
          constructor
          · intro q; omega
          · intro q; omega
  exact key l s

/-- what add makes of the ranks -/
theorem ranks_add {l r : List Int} (e : r = srt l) (x : Int) : r.take (below (x + 1) r) ++ [x] ++ r.drop (below (x + 1) r) = srt (l ++ [x]) := by
  have s : r.Pairwise (· ≤ ·) := by rw [e]; exact srt_sorted l
  have p : r.Perm l := by rw [e]; exact srt_perm l
  apply srt_unique
  · have q : (r.take (below (x + 1) r) ++ [x] ++ r.drop (below (x + 1) r)).Perm (r.take (below (x + 1) r) ++ r.drop (below (x + 1) r) ++ [x]) := by
      rw [List.append_assoc, List.append_assoc]
      exact List.Perm.append_left _ List.perm_append_comm
    rw [List.take_append_drop] at q
    exact q.trans (p.append_right _)
  · have b := below_iff s (x + 1)
    have hk := below_le (x + 1) r
    generalize hkk : below (x + 1) r = k at b hk
    have ht : ∀ a ∈ r.take k, a ≤ x := fun a ha => by
      obtain ⟨i, hi, rfl⟩ := List.mem_iff_getElem.mp ha
      rw [List.length_take] at hi
      rw [List.getElem_take]
      have := (b i (by omega)).mpr (by omega)
      omega
    have hd : ∀ a ∈ r.drop k, x ≤ a := fun a ha => by
      obtain ⟨i, hi, rfl⟩ := List.mem_iff_getElem.mp ha
      rw [List.length_drop] at hi
      rw [List.getElem_drop]
      have h1 := b (k + i) (by omega)
      by_cases hlt : r[k + i]'(by omega) < x + 1
      · have := h1.mp hlt
        omega
      · omega
    have s1 : (r.take k).Pairwise (· ≤ ·) := s.sublist (List.take_sublist k r)
    have s2 : (r.drop k).Pairwise (· ≤ ·) := s.sublist (List.drop_sublist k r)
    rw [List.append_assoc]
    refine List.pairwise_append.mpr ⟨s1, ?_, ?_⟩
    · refine List.pairwise_append.mpr ⟨List.pairwise_singleton _ _, s2, ?_⟩
      intro a ha c hc
      rw [List.mem_singleton.mp ha]
      exact hd c hc
    · intro a ha c hc
      have h1 := ht a ha
      rcases List.mem_append.mp hc with hc | hc
      · rw [List.mem_singleton.mp hc]; exact h1
      · have := hd c hc
        omega
/-- what drop makes of the ranks: at that place stands x -/
theorem ranks_at {l r : List Int} {x : Int} (e : r = srt (x :: l)) : r[below x r]? = some x := by
  have s : r.Pairwise (· ≤ ·) := by rw [e]; exact srt_sorted _
  have p : r.Perm (x :: l) := by rw [e]; exact srt_perm _
  have hx : x ∈ r := p.mem_iff.mpr List.mem_cons_self
  obtain ⟨i, hi, ei⟩ := List.mem_iff_getElem.mp hx
  have b := below_iff s x
  have h1 : ¬ i < below x r := fun q => by
    have := (b i hi).mpr q
    omega
  have hlt : below x r < r.length := by omega
  rw [List.getElem?_eq_getElem hlt]
  have h2 : ¬ r[below x r] < x := fun q => absurd ((b _ hlt).mp q) (Nat.lt_irrefl _)
  have h3 : r[below x r] ≤ r[i] := by
    by_cases hq : below x r = i
    · have : r[below x r] = r[i] := by congr 1
      omega
    · exact List.pairwise_iff_getElem.mp s _ _ hlt hi (by omega)
  congr 1
  omega
theorem ranks_drop {l r : List Int} {x : Int} (e : r = srt (x :: l)) : r.eraseIdx (below x r) = srt l := by
  have s : r.Pairwise (· ≤ ·) := by rw [e]; exact srt_sorted _
  have p : r.Perm (x :: l) := by rw [e]; exact srt_perm _
  have h := ranks_at e
  obtain ⟨hlt, ha⟩ := List.getElem?_eq_some_iff.mp h
  apply srt_unique
  · have q : r.Perm (x :: r.eraseIdx (below x r)) := by
      have e1 : r = r.take (below x r) ++ r[below x r] :: r.drop (below x r + 1) := by
        rw [List.getElem_cons_drop, List.take_append_drop]
      have e2 : r.eraseIdx (below x r) = r.take (below x r) ++ r.drop (below x r + 1) := List.eraseIdx_eq_take_drop_succ _ _
      rw [e2]
      rw [ha] at e1
      generalize below x r = k at e1
      have e3 : r.Perm (r.take k ++ x :: r.drop (k + 1)) := by rw [← e1]
      exact e3.trans List.perm_middle
    exact List.Perm.cons_inv (q.symm.trans p)
  · exact s.sublist (List.eraseIdx_sublist _ _)

/-! ### wrong pairs -/
def inv : List Int → Nat
  | [] => 0
  | x :: r => below x r + inv r
theorem inv_snoc (x : Int) : ∀ l : List Int, inv (l ++ [x]) = inv l + (l.length - below (x + 1) l)
  | [] => by simp [inv, below]
  | a :: r => by
    have ih := inv_snoc x r
    have h := below_le (x + 1) r
    show below a (r ++ [x]) + inv (r ++ [x]) = below a r + inv r + ((a :: r).length - below (x + 1) (a :: r))
    rw [ih]
    unfold below at *
    simp only [List.countP_append, List.countP_cons, List.countP_nil, List.length_cons]
    by_cases hx : x < a
    · rw [if_pos (decide_eq_true hx), if_neg (show ¬ decide (a < x + 1) = true by simp; omega)]
      omega
    · rw [if_neg (show ¬ decide (x < a) = true by simpa using hx), if_pos (show decide (a < x + 1) = true from decide_eq_true (by omega))]
      omega

/-! ### how long it rises -/
/-- from the first on, how many stand none below the one ahead -/
def up : List Int → Nat
  | [] => 0
  | [_] => 1
  | x :: y :: r => if x ≤ y then up (y :: r) + 1 else 1
def ris : List Int → Nat
  | [] => 0
  | x :: r => max (up (x :: r)) (ris r)
theorem up_pos (x : Int) (r : List Int) : 1 ≤ up (x :: r) := by
  cases r with
  | nil => exact Nat.le_refl _
  | cons y r =>
    unfold up
    split
    · omega
    · omega
/-- the program's loop: run so far, ending in x; r to come -/
theorem ris_step (run best : Nat) (x y : Int) (r : List Int) (_hr : 1 ≤ run) (_hb : run ≤ best) :
    max best (max (run + (up (x :: y :: r) - 1)) (ris (y :: r))) =
      max (max best (if x ≤ y then run + 1 else 1)) (max ((if x ≤ y then run + 1 else 1) + (up (y :: r) - 1)) (ris r)) := by
  have h1 := up_pos y r
  have e : ris (y :: r) = max (up (y :: r)) (ris r) := rfl
  have e2 : up (x :: y :: r) = if x ≤ y then up (y :: r) + 1 else 1 := rfl
  rw [e, e2]
  by_cases h : x ≤ y
  · rw [if_pos h, if_pos h]
    omega
  · rw [if_neg h, if_neg h]
    omega

theorem drop_two {α : Type} {l : List α} {i : Nat} (h : i + 1 < l.length) : l.drop i = l[i] :: l[i + 1] :: l.drop (i + 2) := by
  rw [← List.getElem_cons_drop (by omega : i < l.length), ← List.getElem_cons_drop h]
theorem drop_one {α : Type} {l : List α} {i : Nat} (h : i < l.length) : l.drop i = l[i] :: l.drop (i + 1) := by
  rw [← List.getElem_cons_drop h]
/-- between two turns of the program's loop -/
def RisInv (row : List Int) (i best run : Nat) : Prop :=
  (i = 0 ∧ best = 0) ∨ (1 ≤ i ∧ 1 ≤ run ∧ run ≤ best ∧ max best (max (run + (up (row.drop (i - 1)) - 1)) (ris (row.drop i))) = ris row)
theorem RisInv.first {row : List Int} {best run : Nat} (h : RisInv row 0 best run) (hr : 0 < row.length) : RisInv row 1 (max best 1) 1 := by
  rcases h with ⟨_, rfl⟩ | ⟨h, _⟩
  · refine .inr ⟨Nat.le_refl _, Nat.le_refl _, by omega, ?_⟩
    cases row with
    | nil => exact absurd hr (Nat.not_lt_zero _)
    | cons x r =>
      have h1 := up_pos x r
      have e : ris (x :: r) = max (up (x :: r)) (ris r) := rfl
      show max (max 0 1) (max (1 + (up (x :: r) - 1)) (ris r)) = ris (x :: r)
      rw [e]
      omega
  · omega
theorem RisInv.next {row : List Int} {i best run : Nat} (h : RisInv row i best run) (h0 : 0 < i) (hi : i < row.length) (h1 : i - 1 < row.length) :
    RisInv row (i + 1) (max best (if row[i - 1] ≤ row[i] then run + 1 else 1)) (if row[i - 1] ≤ row[i] then run + 1 else 1) := by
  rcases h with ⟨h, _⟩ | ⟨_, a, b, c⟩
  · omega
  · have hd : row.drop (i - 1) = row[i - 1] :: row[i] :: row.drop (i + 1) := by
      have q := drop_two (l := row) (i := i - 1) (by omega)
      have e1 : i - 1 + 1 = i := by omega
      have e2 : i - 1 + 2 = i + 1 := by omega
      simp only [e1, e2] at q
      exact q
    have hd2 : row.drop i = row[i] :: row.drop (i + 1) := drop_one hi
    rw [hd, hd2, ris_step run best _ _ _ a b] at c
    refine .inr ⟨by omega, ?_, by omega, ?_⟩
    · split <;> omega
    · show max _ (max (_ + (up (row.drop i) - 1)) (ris (row.drop (i + 1)))) = _
      rw [hd2]
      exact c
theorem RisInv.done {row : List Int} {best run : Nat} (h : RisInv row row.length best run) : best = ris row := by
  rcases h with ⟨h, rfl⟩ | ⟨h0, a, b, c⟩
  · rw [List.eq_nil_of_length_eq_zero h]
    rfl
  · have hd : row.drop (row.length - 1) = [row[row.length - 1]] := by
      rw [drop_one (by omega)]
      have e1 : row.length - 1 + 1 = row.length := by omega
      rw [e1, List.drop_length]
    rw [hd, List.drop_length] at c
    have e : up [row[row.length - 1]] = 1 := rfl
    have e2 : ris ([] : List Int) = 0 := rfl
    rw [e, e2] at c
    omega
/-- between two turns of the law's loop -/
def LrInv (row : List Int) (k best : Nat) : Prop := max best (ris (row.drop k)) = ris row
theorem LrInv.start (row : List Int) : LrInv row 0 0 := by
  unfold LrInv
  rw [List.drop_zero]
  omega
theorem LrInv.next {row : List Int} {k best : Nat} (h : LrInv row k best) (hk : k < row.length) : LrInv row (k + 1) (max best (up (row.drop k))) := by
  unfold LrInv at *
  have e : ris (row.drop k) = max (up (row.drop k)) (ris (row.drop (k + 1))) := by
    rw [drop_one hk]
    rfl
  omega
theorem LrInv.done {row : List Int} {best : Nat} (h : LrInv row row.length best) : best = ris row := by
  unfold LrInv at h
  rw [List.drop_length] at h
  have e2 : ris ([] : List Int) = 0 := rfl
  omega
/-- of its inner loop -/
def LeInv (row : List Int) (k e : Nat) : Prop := k + 1 ≤ e ∧ e ≤ row.length ∧ (e - k) + (up (row.drop (e - 1)) - 1) = up (row.drop k)
theorem LeInv.start {row : List Int} {k : Nat} (hk : k < row.length) : LeInv row k (k + 1) := by
  refine ⟨Nat.le_refl _, hk, ?_⟩
  have h1 : 1 ≤ up (row.drop k) := by
    rw [drop_one hk]
    exact up_pos _ _
  have e : k + 1 - 1 = k := by omega
  rw [e]
  omega
theorem LeInv.next {row : List Int} {k e : Nat} (h : LeInv row k e) (he : e < row.length) (h1 : e - 1 < row.length) (hle : row[e - 1] ≤ row[e]) : LeInv row k (e + 1) := by
  obtain ⟨a, b, c⟩ := h
  refine ⟨by omega, he, ?_⟩
  have hd : row.drop (e - 1) = row[e - 1] :: row[e] :: row.drop (e + 1) := by
    have q := drop_two (l := row) (i := e - 1) (by omega)
    have e1 : e - 1 + 1 = e := by omega
    have e2 : e - 1 + 2 = e + 1 := by omega
    simp only [e1, e2] at q
    exact q
  have hd2 : row.drop e = row[e] :: row.drop (e + 1) := drop_one he
  have u1 := up_pos row[e] (row.drop (e + 1))
  have eu : up (row[e - 1] :: row[e] :: row.drop (e + 1)) = up (row[e] :: row.drop (e + 1)) + 1 := if_pos hle
  rw [hd, eu] at c
  have e3 : e + 1 - 1 = e := by omega
  rw [e3, hd2]
  omega
theorem LeInv.done {row : List Int} {k e : Nat} (h : LeInv row k e) (h1 : e - 1 < row.length) (hs : ∀ he : e < row.length, ¬ row[e - 1] ≤ row[e]) : e - k = up (row.drop k) := by
  obtain ⟨a, b, c⟩ := h
  have u : up (row.drop (e - 1)) = 1 := by
    by_cases he : e < row.length
    · have hd : row.drop (e - 1) = row[e - 1] :: row[e] :: row.drop (e + 1) := by
        have q := drop_two (l := row) (i := e - 1) (by omega)
        have e1 : e - 1 + 1 = e := by omega
        have e2 : e - 1 + 2 = e + 1 := by omega
        simp only [e1, e2] at q
        exact q
      rw [hd]
      exact if_neg (hs he)
    · have hd : row.drop (e - 1) = [row[e - 1]] := by
        rw [drop_one (by omega)]
        have e1 : e - 1 + 1 = row.length := by omega
        rw [e1, List.drop_length]
      rw [hd]
      rfl
  omega

/-! ### how many different ones -/
def dd : List Int → List Int
  | [] => []
  | x :: r => if x ∈ r then dd r else x :: dd r
theorem mem_dd : ∀ (l : List Int) (x : Int), x ∈ dd l ↔ x ∈ l
  | [], x => Iff.rfl
  | a :: r, x => by
    have ih := mem_dd r x
    unfold dd
    by_cases h : a ∈ r
    · rw [if_pos h, ih]
      constructor
      · exact fun q => List.mem_cons_of_mem _ q
      · intro q
        rcases List.mem_cons.mp q with rfl | q
        · exact h
        · exact q
    · rw [if_neg h, List.mem_cons, List.mem_cons, ih]
theorem nodup_dd : ∀ (l : List Int), (dd l).Nodup
  | [] => List.nodup_nil
  | a :: r => by
    have ih := nodup_dd r
    unfold dd
    by_cases h : a ∈ r
    · rw [if_pos h]; exact ih
    · rw [if_neg h]
      exact List.nodup_cons.mpr ⟨fun q => h ((mem_dd r a).mp q), ih⟩
def unlike (l : List Int) : Nat := (dd l).length
theorem unlike_of {l ks : List Int} (n : ks.Nodup) (m : ∀ x, x ∈ ks ↔ x ∈ l) : ks.length = unlike l :=
  ((List.perm_ext_iff_of_nodup n (nodup_dd l)).mpr fun x => (m x).trans (mem_dd l x).symm).length_eq

/-! ### the commonest -/
/-- (-how often, thing) a at most b -/
def ple (a b : Int × Int) : Prop := a.1 < b.1 ∨ (a.1 = b.1 ∧ a.2 ≤ b.2)
instance (a b : Int × Int) : Decidable (ple a b) := by unfold ple; infer_instance
theorem ple_antisymm {a b : Int × Int} (h1 : ple a b) (h2 : ple b a) : a = b := by
  unfold ple at *
  have e1 : a.1 = b.1 := by omega
  have e2 : a.2 = b.2 := by omega
  exact Prod.ext e1 e2
def pmin (x : Int × Int) : List (Int × Int) → Int × Int
  | [] => x
  | y :: r => pmin (if ple x y then x else y) r
theorem pmin_spec : ∀ (r : List (Int × Int)) (x : Int × Int), pmin x r ∈ x :: r ∧ ∀ y ∈ x :: r, ple (pmin x r) y
  | [], x => ⟨List.mem_cons_self, fun y hy => by
      have e : y = x := by simpa using hy
      rw [e]
      exact .inr ⟨rfl, Int.le_refl _⟩⟩
  | a :: r, x => by
    by_cases h : ple x a
    · obtain ⟨i1, i2⟩ := pmin_spec r x
      have e : pmin x (a :: r) = pmin x r := by show pmin (if ple x a then x else a) r = _; rw [if_pos h]
      rw [e]
      refine ⟨?_, fun y hy => ?_⟩
      · rcases List.mem_cons.mp i1 with q | q
        · rw [q]; exact List.mem_cons_self
        · exact List.mem_cons_of_mem _ (List.mem_cons_of_mem _ q)
      · rcases List.mem_cons.mp hy with rfl | hy
        · exact i2 _ List.mem_cons_self
        · rcases List.mem_cons.mp hy with rfl | hy
          · have q := i2 x List.mem_cons_self
            unfold ple at *
            omega
          · exact i2 _ (List.mem_cons_of_mem _ hy)
    · obtain ⟨i1, i2⟩ := pmin_spec r a
      have e : pmin x (a :: r) = pmin a r := by show pmin (if ple x a then x else a) r = _; rw [if_neg h]
      rw [e]
      refine ⟨List.mem_cons_of_mem _ i1, fun y hy => ?_⟩
      rcases List.mem_cons.mp hy with rfl | hy
      · have q := i2 a List.mem_cons_self
        unfold ple at *
        omega
      · exact i2 _ hy
def pairOf (l : List Int) (x : Int) : Int × Int := (-(l.count x : Int), x)
/-- the commonest of a row, of several the least -/
def common : List Int → Int
  | [] => 0
  | x :: r => (pmin (pairOf (x :: r) x) (r.map (pairOf (x :: r)))).2
theorem common_of {l : List Int} (hl : l ≠ []) {p : Int × Int} (h1 : ∃ x ∈ l, p = pairOf l x) (h2 : ∀ x ∈ l, ple p (pairOf l x)) : p.2 = common l := by
  cases l with
  | nil => exact absurd rfl hl
  | cons a r =>
    obtain ⟨s1, s2⟩ := pmin_spec (r.map (pairOf (a :: r))) (pairOf (a :: r) a)
    have e : pairOf (a :: r) a :: r.map (pairOf (a :: r)) = (a :: r).map (pairOf (a :: r)) := rfl
    rw [e] at s1 s2
    obtain ⟨x, hx, rfl⟩ := h1
    obtain ⟨y, hy, ey⟩ := List.mem_map.mp s1
    have q1 := s2 _ (List.mem_map.mpr ⟨x, hx, rfl⟩)
    have q2 := h2 y hy
    rw [ey] at q2
    rw [ple_antisymm q2 q1]
    rfl
/-- how often one is there, kept by adding and by dropping -/
theorem count_snoc (l : List Int) (x y : Int) : (l ++ [x]).count y = l.count y + (if x = y then 1 else 0) := by
  rw [List.count_append, List.count_singleton]
  by_cases h : x = y
  · rw [if_pos h, if_pos (by simpa using h)]
  · rw [if_neg h, if_neg (by simpa using h)]
theorem count_cons' (l : List Int) (x y : Int) : (x :: l).count y = l.count y + (if x = y then 1 else 0) := by
  rw [List.count_cons]
  by_cases h : x = y
  · rw [if_pos h, if_pos (by simpa using h)]
  · rw [if_neg h, if_neg (by simpa using h)]

/-! ### the mark -/
def mark (l : List Int) : Int := l.foldl (fun f x => (f * 31 + x) % 1000003) 0
theorem mark_snoc (l : List Int) (x : Int) : (l ++ [x]).foldl (fun f x => (f * 31 + x) % 1000003) 0 = ((l.foldl (fun f x => (f * 31 + x) % 1000003) 0) * 31 + x) % 1000003 := by
  rw [List.foldl_append]
  rfl
theorem foldmark_nn : ∀ (l : List Int) (z : Int), 0 ≤ z → 0 ≤ l.foldl (fun f x => (f * 31 + x) % 1000003) z ∧ (z < 1000003 → l.foldl (fun f x => (f * 31 + x) % 1000003) z < 1000003)
  | [], z, h => ⟨h, fun q => q⟩
  | x :: r, z, _ => by
    have ih := foldmark_nn r ((z * 31 + x) % 1000003) (Int.emod_nonneg _ (by decide))
    exact ⟨ih.1, fun _ => ih.2 (Int.emod_lt_of_pos _ (by decide))⟩

/-! ### sums, ends -/
theorem inv_sum : ∀ l : List Int, ((List.range l.length).map (fun k => ((below (l.getD k 0) (l.drop (k + 1)) : Nat) : Int))).sum = (inv l : Nat)
  | [] => rfl
  | x :: r => by
    have ih := inv_sum r
    rw [List.length_cons, List.range_succ_eq_map, List.map_cons, List.map_map, List.sum_cons]
    have e : ((fun k => ((below ((x :: r).getD k 0) ((x :: r).drop (k + 1)) : Nat) : Int)) ∘ Nat.succ) = fun k => ((below (r.getD k 0) (r.drop (k + 1)) : Nat) : Int) := by
      funext k
      simp
    rw [e, ih]
    have e2 : inv (x :: r) = below x r + inv r := rfl
    rw [e2]
    simp
theorem least_of {l : List Int} {m : Int} (h1 : m ∈ l) (h2 : ∀ y ∈ l, m ≤ y) : m = (srt l).getD 0 0 := by
  have hl := srt_length l
  have hm : m ∈ srt l := (srt_perm l).mem_iff.mpr h1
  obtain ⟨i, hi, rfl⟩ := List.mem_iff_getElem.mp hm
  rw [List.getD_eq_getElem?_getD, List.getElem?_eq_getElem (by omega)]
  show _ = (srt l)[0]
  have h3 := h2 _ ((srt_perm l).mem_iff.mp (List.getElem_mem (show 0 < (srt l).length by omega)))
  by_cases e : i = 0
  · subst e; rfl
  · have := List.pairwise_iff_getElem.mp (srt_sorted l) 0 i (by omega) hi (by omega)
    omega
theorem greatest_of {l : List Int} {m : Int} (n : Nat) (hn : l.length = n + 1) (h1 : m ∈ l) (h2 : ∀ y ∈ l, y ≤ m) : m = (srt l).getD n 0 := by
  have hl := srt_length l
  have hm : m ∈ srt l := (srt_perm l).mem_iff.mpr h1
  obtain ⟨i, hi, rfl⟩ := List.mem_iff_getElem.mp hm
  rw [List.getD_eq_getElem?_getD, List.getElem?_eq_getElem (by omega)]
  show _ = (srt l)[n]
  have h3 := h2 _ ((srt_perm l).mem_iff.mp (List.getElem_mem (show n < (srt l).length by omega)))
  by_cases e : i = n
  · subst e; rfl
  · have := List.pairwise_iff_getElem.mp (srt_sorted l) i n hi (by omega) (by omega)
    omega
end LF

/-! Plain mathematics of maps one behind the other. -/
namespace LF
def MR : Int := 1000003
def comp (f g : Int × Int) : Int × Int := (f.1 * g.1 % 1000003, (f.2 * g.1 + g.2) % 1000003)
def made (row : List (Int × Int)) (x : Int) : Int := row.foldl (fun x p => (p.1 * x + p.2) % 1000003) x % 1000003
def InR (c : Int × Int) : Prop := 0 ≤ c.1 ∧ c.1 < 1000003 ∧ 0 ≤ c.2 ∧ c.2 < 1000003
structure Rep (c : Int × Int) (row : List (Int × Int)) : Prop where
  r : InR c
  v : ∀ x, (c.1 * x + c.2) % 1000003 = made row x
theorem comp_in (f g : Int × Int) : InR (comp f g) := ⟨Int.emod_nonneg _ (by decide), Int.emod_lt_of_pos _ (by decide), Int.emod_nonneg _ (by decide), Int.emod_lt_of_pos _ (by decide)⟩
theorem emod_cong {a b : Int} (h : ∃ k, a = b + 1000003 * k) : a % 1000003 = b % 1000003 := by
  obtain ⟨k, rfl⟩ := h
  exact Int.add_mul_emod_self_left _ _ _
theorem emod_self (a : Int) : ∃ k, a % 1000003 = a + 1000003 * k := ⟨-(a / 1000003), by have := Int.emod_add_mul_ediv a 1000003; omega⟩
theorem made_emod (row : List (Int × Int)) (x : Int) : made row (x % 1000003) = made row x := by
  unfold made
  cases row with
  | nil => exact Int.emod_emod _ _
  | cons p r =>
    rw [List.foldl_cons, List.foldl_cons]
    have e : (p.1 * (x % 1000003) + p.2) % 1000003 = (p.1 * x + p.2) % 1000003 := by
      obtain ⟨k, hk⟩ := emod_self x
      rw [hk]
      refine emod_cong ⟨p.1 * k, ?_⟩
      rw [Int.mul_add, Int.mul_left_comm]
      omega
    rw [e]
theorem made_append (a b : List (Int × Int)) (x : Int) : made (a ++ b) x = made b (made a x) := by
  have h : made b (made a x) = made b (a.foldl (fun x p => (p.1 * x + p.2) % 1000003) x) := by
    unfold made
    exact made_emod b _
  rw [h]
  unfold made
  rw [List.foldl_append]
theorem Rep.nil : Rep (1, 0) [] := ⟨⟨by decide, by decide, by decide, by decide⟩, fun x => by show (1 * x + 0) % 1000003 = x % 1000003; rw [Int.one_mul, Int.add_zero]⟩
theorem Rep.one {c : Int × Int} (h : InR c) : Rep c [c] := ⟨h, fun x => by
  show _ = ((c.1 * x + c.2) % 1000003) % 1000003
  rw [Int.emod_emod]⟩
theorem Rep.comp {c d : Int × Int} {a b : List (Int × Int)} (h1 : Rep c a) (h2 : Rep d b) : Rep (comp c d) (a ++ b) := by
  refine ⟨comp_in _ _, fun x => ?_⟩
  rw [made_append, ← h2.v, ← h1.v]
  unfold LF.comp
  obtain ⟨k1, e1⟩ := emod_self (c.1 * d.1)
  obtain ⟨k2, e2⟩ := emod_self (c.2 * d.1 + d.2)
  obtain ⟨k3, e3⟩ := emod_self (c.1 * x + c.2)
  show (c.1 * d.1 % 1000003 * x + (c.2 * d.1 + d.2) % 1000003) % 1000003 = (d.1 * ((c.1 * x + c.2) % 1000003) + d.2) % 1000003
  rw [e1, e2, e3]
  refine emod_cong ⟨k1 * x + k2 - d.1 * k3, ?_⟩
  have m1 : (c.1 * d.1 + 1000003 * k1) * x = c.1 * d.1 * x + 1000003 * (k1 * x) := by rw [Int.add_mul, Int.mul_assoc 1000003]
  have m2 : d.1 * (c.1 * x + c.2 + 1000003 * k3) = c.1 * d.1 * x + c.2 * d.1 + 1000003 * (d.1 * k3) := by
    rw [Int.mul_add, Int.mul_add, Int.mul_left_comm d.1 1000003, ← Int.mul_assoc, Int.mul_comm d.1 c.1, Int.mul_comm d.1 c.2]
  rw [m1, m2]
  have m3 : 1000003 * (k1 * x + k2 - d.1 * k3) = 1000003 * (k1 * x) + 1000003 * k2 - 1000003 * (d.1 * k3) := by rw [Int.mul_sub, Int.mul_add]
  rw [m3]
  omega
theorem Rep.pair {c : Int × Int} {row : List (Int × Int)} (h : Rep c row) : c = ((made row 1 - made row 0) % 1000003, made row 0) := by
  obtain ⟨⟨a1, a2, a3, a4⟩, v⟩ := h
  have h0 := v 0
  have h1 := v 1
  rw [Int.mul_zero, Int.zero_add, Int.emod_eq_of_lt a3 a4] at h0
  rw [Int.mul_one] at h1
  refine Prod.ext ?_ h0
  show c.1 = (made row 1 - made row 0) % 1000003
  rw [← h1, ← h0]
  obtain ⟨k, e⟩ := emod_self (c.1 + c.2)
  rw [e]
  have e2 : (c.1 + c.2 + 1000003 * k - c.2) % 1000003 = c.1 % 1000003 := emod_cong ⟨k, by omega⟩
  rw [e2, Int.emod_eq_of_lt a1 a2]
/-- the old ones, the earliest first, each with what lies above it -/
def topF : List ((Int × Int) × (Int × Int)) → Int × Int
  | [] => (1, 0)
  | q :: _ => q.2
def OldOk : List ((Int × Int) × (Int × Int)) → Prop
  | [] => True
  | q :: r => InR q.1 ∧ q.2 = comp q.1 (topF r) ∧ OldOk r
theorem OldOk.rep : ∀ {st : List ((Int × Int) × (Int × Int))}, OldOk st → Rep (topF st) (st.map (·.1))
  | [], _ => Rep.nil
  | q :: r, h => by
    obtain ⟨h1, h2, h3⟩ := h
    have e : topF (q :: r) = comp q.1 (topF r) := h2
    rw [e]
    exact (Rep.one h1).comp h3.rep
theorem made_of {c : Int × Int} {row : List (Int × Int)} (h : Rep c row) (x : Int) : (c.1 * x + c.2) % 1000003 = made row x := h.v x
end LF

set_option maxRecDepth 100000
set_option maxHeartbeats 4000000
/-! Rules of my own over the hand layer: a global int, min of pairs, len of a set of ints; steps of readings. -/
namespace LF
open PySem PySem.Spec PyProof.Rows L2

/-! ### how the top's defs and classes stand -/
structure FnAt (K : PySem.W.Frag) (mg : Str → Option Value) (D : Str × Option Str → FuncData) (x : Str) (st : Stmt) (ps : List Str) : Prop where
  F : FunD K x x (defArgs st) (defBody st) (defScope st) [] [] (He.ga K x) (D (x, none))
  g : mg x = some (.ref (He.ga K x))
  b : L2.Binds K (D (x, none)) ps []
structure MtAt (K : PySem.W.Frag) (D : Str × Option Str → FuncData) (C m q : Str) (st : Stmt) (ps : List Str) : Prop where
  F : FunD K m q (defArgs st) (defBody st) (defScope st) [] [] (He.ma K (He.ga K C) m) (D (C, some m))
  me : Meth K (He.ga K C) m (He.ma K (He.ga K C) m)
  b : L2.Binds K (D (C, some m)) ps []
structure ClAt (K : PySem.W.Frag) (mg : Str → Option Value) (C : Str) : Prop where
  cl : Cls K (He.ga K C)
  mkr : Mk K (He.ga K C) (He.ma K (He.ga K C) "__init__")
  g : mg C = some (.ref (He.ga K C))

section
variable {X : Cx}
theorem pe_globI {x : Str} {i : Int} {pos : Pos} (hg : Gl X x) (hm : ∃ t, X.mg x = some (.int i t)) (hd : (x == ("__debug__" : Str)) = false := by decide) : PE X (.Name x pos) (tC (.int i)) := by
  obtain ⟨t, h⟩ := hm
  exact pe_glob hg h ⟨t, rfl⟩ hd

/-! ### min of a list of pairs of ints -/
theorem toks_pair (a b : Int) : PySem.W.keyToks (.tuple [.int a, .int b]) = [Sum.inl 1, Sum.inl a, Sum.inl 1, Sum.inl b, Sum.inl 0] := by
  simp [PySem.W.keyToks, PySem.W.keyToksAll]
theorem lex_one (a b : Int) : PyProof.Rows.lexLt itemOrd [Sum.inl a] [Sum.inl b] = decide (a < b) := by
  have h := PySem.W.dataLt_int a b
  unfold PySem.W.dataLt at h
  simpa [PySem.W.keyToks] using h
theorem lt_pair (a b c d : Int) : PySem.W.dataLt (.tuple [.int a, .int b]) (.tuple [.int c, .int d]) = decide (a < c ∨ (a = c ∧ b < d)) := by
  unfold PySem.W.dataLt
  rw [toks_pair, toks_pair]
  refine (lex_self (O := itemOrd) _ _ _).trans ?_
  by_cases h : a = c
  · subst h
    refine (lex_self (O := itemOrd) _ _ _).trans ?_
    refine (lex_self (O := itemOrd) _ _ _).trans ?_
    by_cases h2 : b = d
    · subst h2
      refine (lex_self (O := itemOrd) _ _ _).trans ?_
      refine (lex_self (O := itemOrd) _ _ _).trans ?_
      simp [PyProof.Rows.lexLt]
    · refine (PySem.W.lex_atom (fun q => h2 (Sum.inl.inj q)) _ _).trans ?_
      rw [lex_one]
      simp
  · refine (PySem.W.lex_atom (fun q => h (Sum.inl.inj q)) _ _).trans ?_
    rw [lex_one]
    simp [h]

def rMinP (K : PySem.W.Frag) : List V → Hp → VK → Prop := fun vs H Q => ∃ (a : Addr) (ps : List (Addr × Int × Int)), vs = [V.ref a] ∧ SqL K H a (ps.map fun p => V.ref p.1) ∧ (∀ p ∈ ps, SqT K H p.1 [.int p.2.1, .int p.2.2]) ∧ ps ≠ [] ∧
  ∀ p, p ∈ ps → (∀ q ∈ ps, ple p.2 q.2) → Q (.ref p.1) H
theorem dpAll_pairs {K : PySem.W.Frag} {H : Hp} : ∀ ps : List (Addr × Int × Int), (∀ p ∈ ps, SqT K H p.1 [.int p.2.1, .int p.2.2]) → DpAll K H (ps.map fun p => V.ref p.1) (ps.map fun p => PyData.tuple [.int p.2.1, .int p.2.2])
  | [], _ => .nil
  | p :: r, h => .cons (.tup (h p List.mem_cons_self) (.cons (.int _) (.cons (.int _) .nil))) (dpAll_pairs r fun q hq => h q (List.mem_cons_of_mem _ hq))
def dOf (p : Addr × Int × Int) : PyData := .tuple [.int p.2.1, .int p.2.2]
theorem minD_pairs : ∀ (r : List (Addr × Int × Int)) (p : Addr × Int × Int), ∃ q ∈ p :: r, PySem.W.minD (dOf p) (r.map dOf) = dOf q ∧ ∀ z ∈ p :: r, ple q.2 z.2
  | [], p => ⟨p, List.mem_cons_self, rfl, fun z hz => by
      have e : z = p := by simpa using hz
      rw [e]
      exact .inr ⟨rfl, Int.le_refl _⟩⟩
  | y :: r, p => by
    have st : PySem.W.minD (dOf p) ((y :: r).map dOf) = PySem.W.minD (if PySem.W.dataLt (dOf y) (dOf p) then dOf y else dOf p) (r.map dOf) := rfl
    have ed : PySem.W.dataLt (dOf y) (dOf p) = decide (y.2.1 < p.2.1 ∨ (y.2.1 = p.2.1 ∧ y.2.2 < p.2.2)) := lt_pair _ _ _ _
    by_cases h : y.2.1 < p.2.1 ∨ (y.2.1 = p.2.1 ∧ y.2.2 < p.2.2)
    · rw [st, ed, if_pos (decide_eq_true h)]
      obtain ⟨q, hq, e, hle⟩ := minD_pairs r y
      refine ⟨q, List.mem_cons_of_mem _ hq, e, fun z hz => ?_⟩
      rcases List.mem_cons.mp hz with rfl | hz
      · have q1 := hle y List.mem_cons_self
        unfold ple at *
        omega
      · exact hle z hz
    · rw [st, ed, if_neg (by simpa using h)]
      obtain ⟨q, hq, e, hle⟩ := minD_pairs r p
      refine ⟨q, ?_, e, fun z hz => ?_⟩
      · rcases List.mem_cons.mp hq with rfl | hq
        · exact List.mem_cons_self
        · exact List.mem_cons_of_mem _ (List.mem_cons_of_mem _ hq)
      · rcases List.mem_cons.mp hz with rfl | hz
        · exact hle _ List.mem_cons_self
        · rcases List.mem_cons.mp hz with rfl | hz
          · have q1 := hle p List.mem_cons_self
            unfold ple at *
            omega
          · exact hle z (List.mem_cons_of_mem _ hz)
theorem depth_pairs : ∀ ps : List (Addr × Int × Int), PyData.depthAll (ps.map dOf) ≤ 1
  | [] => by simp [PyData.depthAll]
  | p :: r => by
    have ih := depth_pairs r
    rw [List.map_cons]
    simp only [PyData.depthAll, dOf, PyData.depth] at *
    omega
theorem alike_pairs (ps : List (Addr × Int × Int)) : PySem.W.AlikeAll (ps.map dOf) := by
  refine ⟨fun x hx y hy => ?_, fun x hx => ?_⟩
  · obtain ⟨p, _, rfl⟩ := List.mem_map.mp hx
    obtain ⟨q, _, rfl⟩ := List.mem_map.mp hy
    simp [dOf, PySem.W.alike, PySem.W.alikeAll]
  · obtain ⟨p, _, rfl⟩ := List.mem_map.mp hx
    intro z
    cases z
theorem reads_pair {h : Heap} {T : Addr} {u : Value} {a b : Int} {bs : List Addr} (e : u = .ref T) (r : Reads h u (.tuple [.int a, .int b]) bs) {i j : Int} {as : List Addr} (r2 : Reads h (.ref T) (.tuple [.int i, .int j]) as) : i = a ∧ j = b := by
  subst e
  cases r with
  | tuple h1 h2 h3 h4 =>
    cases r2 with
    | tuple g1 g2 g3 g4 =>
      rw [h1] at g1
      cases g1
      rw [h3] at g3
      injection g3 with g5 g6
      subst g5
      generalize Array.toList _ = l at h4 g4
      cases h4 with
      | cons x1 x2 =>
        cases g4 with
        | cons y1 y2 =>
          cases x1
          cases y1
          cases x2 with
          | cons z1 z2 =>
            cases y2 with
            | cons w1 w2 =>
              cases z1
              cases w1
              exact ⟨rfl, rfl⟩
theorem vals_ref {ps : List (Addr × Int × Int)} {its : List Value} (rv : Vals (ps.map fun p => V.ref p.1) its) {i : Nat} {v : Value} (h : its[i]? = some v) : ∃ p, ps[i]? = some p ∧ v = .ref p.1 := by
  have hl := rv.length
  rw [List.length_map] at hl
  have hi : i < its.length := (List.getElem?_eq_some_iff.mp h).1
  have hp : i < ps.length := by omega
  have e : (ps.map fun p => V.ref p.1)[i]? = some (.ref (ps[i]).1) := by rw [List.getElem?_map, List.getElem?_eq_getElem hp]; rfl
  obtain ⟨u, hu, ru⟩ := rv.get e
  rw [h] at hu
  cases hu
  exact ⟨ps[i], List.getElem?_eq_getElem hp, ru⟩
theorem cr_minP (hc : X.calm = true) (hu : X.A.units + 64 < cLine) : CallR X (.builtin "min") (rMinP X.K) := by
  intro pins s σ H vs us Q I r h
  obtain ⟨a, ps, rfl, hs, ht, hne, q⟩ := h
  obtain ⟨its, rv, hl, _⟩ := I.list hs
  rw [Vals.ref1 r]
  obtain ⟨as, hr⟩ := Dp.readsAll I _ _ its (dpAll_pairs ps ht) rv
  cases ps with
  | nil => exact absurd rfl hne
  | cons p0 r0 =>
    have hr' : ReadsAll s.heap its.toArray.toList (dOf p0 :: r0.map dOf) as := by
      have e : (fun p : Addr × Int × Int => PyData.tuple [.int p.2.1, .int p.2.2]) = dOf := rfl
      rw [e] at hr
      simpa using hr
    have hd := depth_pairs (p0 :: r0)
    rw [List.map_cons] at hd
    refine PySem.W.min_list_data (I.ok.hd hc) hl.isList hr' (alike_pairs (p0 :: r0)) (by omega) fun i v h' tk bs hv hrd hk => ?_
    obtain ⟨p, hp, rfl⟩ := vals_ref rv (by simpa using hv)
    obtain ⟨z, hz, ez, hle⟩ := minD_pairs r0 p0
    rw [ez] at hrd
    have I2 : Inv X pins σ H { s with heap := h', toks := tk } := I.kept hk
    have hpm : p ∈ p0 :: r0 := List.mem_of_getElem? hp
    obtain ⟨as2, hr2⟩ := Dp.reads I2 (.tuple [.int p.2.1, .int p.2.2]) (.ref p.1) (.ref p.1) (.tup (ht p hpm) (.cons (.int _) (.cons (.int _) .nil))) rfl
    obtain ⟨e1, e2⟩ := reads_pair rfl hrd hr2
    refine ⟨.ref p.1, H, I2, rfl, q p hpm fun y hy => ?_⟩
    have := hle y hy
    unfold ple at *
    omega

/-! ### len(set(xs)), xs a list of ints -/
theorem fm_succ (f : Nat → Int) (n : Nat) : PyProof.Rows.firstMet f (n + 1) = if (PyProof.Rows.firstMet f n).any (· == f n) = true then PyProof.Rows.firstMet f n else PyProof.Rows.firstMet f n ++ [f n] := by
  rw [PyProof.Rows.firstMet_succ]
  rfl
theorem firstMet_mem (f : Nat → Int) : ∀ n x, x ∈ PyProof.Rows.firstMet f n ↔ ∃ i, i < n ∧ f i = x
  | 0, x => by
    constructor
    · intro h
      cases h
    · rintro ⟨i, h, _⟩
      exact absurd h (Nat.not_lt_zero _)
  | n + 1, x => by
    have ih := firstMet_mem f n
    rw [fm_succ]
    by_cases h : (PyProof.Rows.firstMet f n).any (· == f n) = true
    · rw [if_pos h, ih x]
      constructor
      · rintro ⟨i, h1, h2⟩
        exact ⟨i, by omega, h2⟩
      · rintro ⟨i, h1, h2⟩
        by_cases e : i = n
        · subst e
          obtain ⟨y, hy, ey⟩ := List.any_eq_true.mp h
          have ey2 : y = f i := eq_of_beq ey
          rw [← h2, ← ey2]
          exact (ih y).mp hy
        · exact ⟨i, by omega, h2⟩
    · rw [if_neg h, List.mem_append, ih x, List.mem_singleton]
      constructor
      · rintro (⟨i, h1, h2⟩ | h2)
        · exact ⟨i, by omega, h2⟩
        · exact ⟨n, by omega, h2.symm⟩
      · rintro ⟨i, h1, h2⟩
        by_cases e : i = n
        · subst e
          exact .inr h2.symm
        · exact .inl ⟨i, by omega, h2⟩
theorem firstMet_nd (f : Nat → Int) : ∀ n, (PyProof.Rows.firstMet f n).Nodup
  | 0 => List.nodup_nil
  | n + 1 => by
    have ih := firstMet_nd f n
    rw [fm_succ]
    by_cases h : (PyProof.Rows.firstMet f n).any (· == f n) = true
    · rw [if_pos h]
      exact ih
    · rw [if_neg h]
      refine nd_snoc ih fun hm => h (List.any_eq_true.mpr ⟨f n, hm, by simp⟩)
theorem firstMet_unlike (ns : List Int) : (PyProof.Rows.firstMet (fun i => ns.getD i 0) ns.length).length = unlike ns := by
  refine unlike_of (firstMet_nd _ _) fun x => ?_
  rw [firstMet_mem]
  constructor
  · rintro ⟨i, h1, h2⟩
    rw [List.getD_eq_getElem?_getD, List.getElem?_eq_getElem h1] at h2
    rw [← h2]
    exact List.getElem_mem h1
  · intro h
    obtain ⟨i, h1, h2⟩ := List.mem_iff_getElem.mp h
    refine ⟨i, h1, ?_⟩
    rw [List.getD_eq_getElem?_getD, List.getElem?_eq_getElem h1]
    exact h2
theorem intsAre_vals : ∀ {ns : List Int} {us : List Value}, Vals (ns.map V.int) us → PyProof.Rows.IntsAre us ns
  | [], _, .nil => .nil
  | n :: ns, _, .cons r t => by
    obtain ⟨k, rfl⟩ := r
    exact .cons n k (intsAre_vals t)
def tLenSetD (K : PySem.W.Frag) (ta : TE) : TE := fun σ H Q => ta σ H fun x H1 => ∃ (l : Addr) (ns : List Int), x = .ref l ∧ SqL K H1 l (ns.map V.int) ∧ ns.length ≤ 4000 ∧ Q (.int (unlike ns : Nat)) H1
theorem unlike_le (ns : List Int) : unlike ns ≤ ns.length := by
  rw [← firstMet_unlike]
  have h : ∀ (f : Nat → Int) n, (PyProof.Rows.firstMet f n).length ≤ n := by
    intro f n
    induction n with
    | zero => exact Nat.le_refl 0
    | succ n ih =>
      rw [fm_succ]
      split
      · omega
      · rw [List.length_append, List.length_singleton]
        omega
  exact h _ _
theorem pe_lenSetD {a : Expr} {ta : TE} {p p2 q pos : Pos} (hg : Gl X "len") (hm : X.mg "len" = none) (hg2 : Gl X "set") (hm2 : X.mg "set" = none) (ha : PE X a ta) (hc : X.calm = true := by rfl)
    (na : starEach [a] X.env = (false, eval a X.env) :: starEach [] X.env := by rfl) : PE X (.Call (.Name "len" p) [.Call (.Name "set" p2) [a] [] q] [] pos) (tLenSetD X.K ta) := by
  refine ⟨fun pins s σ H Q I h => ?_⟩
  refine Call_ (ld_blt I hg hm boot_len ?_)
  refine PyProof.Rows.callWith_builtin1 (PyProof.Rows.args_cons ?_ rfl) rfl rfl
  refine Call_ (ld_blt I hg2 hm2 boot_set ?_)
  refine PyProof.Rows.callWith_type1 (PyProof.Rows.args_cons (thn (ha.run pins s σ H _ I h) fun v s1 ⟨x, H1, I1, r1, q1⟩ => PyProof.Rows.args_nil ?_) na) na rfl
  obtain ⟨l, ns, rfl, hq, hl, q1⟩ := q1
  cases r1
  obtain ⟨its, r, pl, hz⟩ := I1.list hq
  have hlen : its.toArray.size = ns.length := by rw [List.size_toArray, ← r.length, List.length_map]
  refine call_set_list (I1.ok.hd hc) pl.isList (by simpa using intsAre_vals r) (by rw [hlen]; unfold scanBound; omega) fun h' tk hS hk => ?_
  refine PyProof.Rows.args_nil ?_
  rw [hlen] at hS
  have hu := firstMet_unlike ns
  have hul := unlike_le ns
  obtain ⟨o, es, ep, t, ho, hex, hd, _, _, _, hf, hn⟩ := hS
  have I2 : Inv X pins σ H1 { s1 with heap := h', toks := tk } := I1.kept fun b o e => hk b o (Heap.lt_size e) e
  rw [hu] at hn
  exact call_len_set ho hex hd hf (by rw [hn] <;> omega) ⟨.int (unlike ns : Nat), H1, I2.tok _, ⟨_, by rw [hn]⟩, q1⟩
end
end LF

set_option maxRecDepth 100000
set_option maxHeartbeats 4000000
/-! Steps of a reading: each says what is asked next. -/
namespace LF
open PySem PySem.Spec PyProof.Rows L2
section
variable {K : PySem.W.Frag} {σ : L2.St} {H : Hp} {Q : VK} {QT : Bool → Hp → Prop} {QA : List V → Hp → Prop} {D : Ends} {t u : TS} {ta tb te tv td ty tx : TE} {c ct cu : TT} {i : Nat} {v x y : V} {r : R2} {f m : Str} {p dx C : Addr} {fs : List (Str × V)} {tr : TA} {sp : Sp} {dvs vs : List V} {E : XK}
theorem S_seq (h : t { D with nx := u D } σ H) : tSeq t u D σ H := h
theorem S_asg (h : te σ H fun x H1 => D.nx (σ.set i (some x)) H1) : tAsg te (gName i) D σ H := h
theorem S_drop (h : te σ H fun _ H1 => D.nx σ H1) : tDrop te D σ H := h
theorem S_ret (h : te σ H D.rt) : tRet te D σ H := h
theorem S_if (h : c σ H fun b H1 => if b = true then t D σ H1 else u D σ H1) : tIfS c t u D σ H := h
theorem S_next (h : D.nx σ H) : tNext D σ H := h
def RSet (K : PySem.W.Frag) (f : Str) (y x : V) (H2 : Hp) (k : Hp → Prop) : Prop := ∃ a C dx fs, x = .ref a ∧ H2 a = some (.ins C dx fs) ∧ Cls K C ∧ NoAttr K C f ∧ fs.length < 1000 ∧ k (upd H2 a (.ins C dx (putF f y fs)))
theorem S_fld (h : tv σ H fun y H1 => ta σ H1 fun x H2 => RSet K f y x H2 fun H3 => D.nx σ H3) : sFld K ta tv f D σ H := h
theorem R_set {k : Hp → Prop} (h1 : H p = some (.ins C dx fs)) (h2 : Cls K C) (h3 : NoAttr K C f) (h4 : fs.length < 1000) {gs : List (Str × V)} (h5 : putF f y fs = gs) (h : k (upd H p (.ins C dx gs))) : RSet K f y (.ref p) H k :=
  ⟨p, C, dx, fs, rfl, h1, h2, h3, h4, by rw [h5]; exact h⟩
def RDPut (y v x : V) (H3 : Hp) (k : Hp → Prop) : Prop := ∃ a H4, x = .ref a ∧ DPut H3 a y v H4 ∧ k H4
theorem S_dput (h : tv σ H fun v H1 => td σ H1 fun x H2 => ty σ H2 fun y H3 => RDPut y v x H3 fun H4 => D.nx σ H4) : sDPut td ty tv D σ H := h
theorem R_dput {k : Hp → Prop} {kvs : List (Key × V)} {n : Int} (h1 : H p = some (.dK kvs)) (h2 : kvs.length < sizeLine) (h : k (upd H p (.dK (putK kvs (.inl n) v)))) : RDPut (.int n) v (.ref p) H k := ⟨p, _, rfl, DPut.k (k := .inl n) h1 h2, h⟩
theorem E_var (e : σ[i]? = some (some v)) (h : Q v H) : tVar i σ H Q := ⟨v, e, h⟩
theorem E_c (h : Q v H) : tC v σ H Q := h
theorem E_op (h : ta σ H fun x H1 => tb σ H1 fun y H2 => r x y H2 Q) : tOp r ta tb σ H Q := h
theorem E_un {r : V → Hp → VK → Prop} (h : ta σ H fun x H1 => r x H1 Q) : tUn r ta σ H Q := h
def RTst (x : V) (H : Hp) (QT : Bool → Hp → Prop) : Prop := ∃ k, x = .bl k ∧ QT k H
theorem E_test (h : te σ H fun x H' => RTst x H' QT) : tTest te σ H QT := h
theorem E_tB (h : te σ H fun x H' => RTst x H' QT) : tB te σ H QT := h
theorem R_tst {b : Bool} (h : QT b H) : RTst (.bl b) H QT := ⟨b, rfl, h⟩
theorem E_and (h : ct σ H fun c H1 => if c = true then cu σ H1 QT else QT false H1) : tAnd ct cu σ H QT := h
theorem E_or (h : ct σ H fun c H1 => if c = true then QT true H1 else cu σ H1 QT) : tOr ct cu σ H QT := h
theorem E_not (h : ct σ H fun c H1 => QT (!c) H1) : tNot ct σ H QT := h
def RBl (x : V) (k : Bool → Prop) : Prop := ∃ c, x = .bl c ∧ k c
theorem R_bl {k : Bool → Prop} {b : Bool} (h : k b) : RBl (.bl b) k := ⟨b, rfl, h⟩
theorem E_andV (h : ta σ H fun x H1 => RBl x fun c => if c = true then tb σ H1 Q else Q (.bl false) H1) : tAndV ta tb σ H Q := h
theorem E_orV (h : ta σ H fun x H1 => RBl x fun c => if c = true then Q (.bl true) H1 else tb σ H1 Q) : tOrV ta tb σ H Q := h
theorem E_notV (h : ta σ H fun x H1 => RBl x fun c => Q (.bl (!c)) H1) : tNotV ta σ H Q := h
theorem E_ifx (h : c σ H fun c H1 => if c = true then ta σ H1 Q else tb σ H1 Q) : tIf c ta tb σ H Q := h
def RFld (K : PySem.W.Frag) (f : Str) (x : V) (H1 : Hp) (Q : VK) : Prop := ∃ a C dx fs v, x = .ref a ∧ H1 a = some (.ins C dx fs) ∧ Cls K C ∧ NoAttr K C f ∧ fs.lookup f = some v ∧ Q v H1
theorem E_fld (h : ta σ H fun x H1 => RFld K f x H1 Q) : tFld K ta f σ H Q := h
theorem R_fld (h1 : H p = some (.ins C dx fs)) (h2 : Cls K C) (h3 : NoAttr K C f) (h4 : fs.lookup f = some v) (h : Q v H) : RFld K f (.ref p) H Q := ⟨p, C, dx, fs, v, rfl, h1, h2, h3, h4, h⟩
theorem E_call (h : tr σ H fun vs H1 => sp (vs ++ dvs) H1 Q E) : tCall sp dvs E tr σ H Q := h
theorem E_nil (h : QA [] H) : tNil σ H QA := h
theorem E_cons (h : ta σ H fun x H1 => tr σ H1 fun xs H2 => QA (x :: xs) H2) : tCons ta tr σ H QA := h
def RMeth (C : Addr) (m : Str) (x : V) (H1 : Hp) (k : Prop) : Prop := ∃ a dx fs, x = .ref a ∧ H1 a = some (.ins C dx fs) ∧ fs.lookup m = none ∧ k
theorem E_meth (h : ta σ H fun x H1 => RMeth C m x H1 (tr σ H1 fun vs H2 => sp (x :: (vs ++ dvs)) H2 Q E)) : tMeth C m sp dvs E ta tr σ H Q := h
theorem R_meth {k : Prop} (h1 : H p = some (.ins C dx fs)) (h2 : fs.lookup m = none) (h : k) : RMeth C m (.ref p) H k := ⟨p, dx, fs, rfl, h1, h2, h⟩
theorem E_make (h : tr σ H fun vs H1 => ∀ x dx, H1 x = none → H1 dx = none → dx ≠ x → sp (.ref x :: (vs ++ dvs)) (upd (upd H1 dx (.own x)) x (.ins C dx [])) (fun v H2 => v = .non ∧ Q (.ref x) H2) E) : tMake C sp dvs E tr σ H Q := h
theorem E_cb {r : List V → Hp → VK → Prop} (h : tr σ H fun vs H1 => r vs H1 Q) : tCB r tr σ H Q := h
theorem E_tup (h : tr σ H fun xs H1 => xs.length ≤ sizeLine ∧ ∀ p, H1 p = none → Q (.ref p) (upd H1 p (.tup xs))) : tTup tr σ H Q := h
theorem E_lst (h : tr σ H fun xs H1 => xs.length ≤ sizeLine ∧ ∀ p, H1 p = none → Q (.ref p) (upd H1 p (.lst xs))) : tLst tr σ H Q := h
theorem R_I0 {g : Int → Int → V} {a b : Int} (h : Q (g a b) H) : rI0 g (.int a) (.int b) H Q := ⟨a, b, rfl, rfl, h⟩
theorem R_I {P : Int → Int → Prop} {g : Int → Int → V} {a b : Int} (h0 : P a b) (h : Q (g a b) H) : rI P g (.int a) (.int b) H Q := ⟨a, b, rfl, rfl, h0, h⟩
theorem R_U {g : Int → V} {a : Int} (h : Q (g a) H) : rU g (.int a) H Q := ⟨a, rfl, h⟩
theorem R_eq (h0 : scal x y = true) (h : Q (.bl (decide (x = y))) H) : rEq x y H Q := ⟨h0, h⟩
theorem R_ne (h0 : scal x y = true) (h : Q (.bl (!decide (x = y))) H) : rNe x y H Q := ⟨h0, h⟩
def RTy (K : PySem.W.Frag) (T : String) (x : V) (H1 : Hp) (k : Prop) : Prop := tyV K T x H1 ∧ k
theorem R_tyL {k : Prop} {xs : List V} (h1 : SqL K H p xs) (h : k) : RTy K "list" (.ref p) H k := ⟨.inl ⟨rfl, xs, h1⟩, h⟩
theorem E_bm {T : String} {r : V → List V → Hp → VK → Prop} (h : te σ H fun x H1 => RTy K T x H1 (tr σ H1 fun xs H2 => r x xs H2 Q)) : tBM K T r te tr σ H Q := h
theorem E_bm0 {T : String} {r : V → List V → Hp → VK → Prop} (h : te σ H fun x H1 => RTy K T x H1 (r x [] H1 Q)) : tBM0 K T r te σ H Q := h
theorem R_app {xs : List V} (h1 : H p = some (.lst xs)) (h2 : xs.length < sizeLine) (h : Q .non (upd H p (.lst (xs ++ [y])))) : rAppend (.ref p) [y] H Q := ⟨p, xs, y, rfl, rfl, h1, h2, h⟩
theorem R_ixL {xs : List V} {z : Int} (h1 : SqL K H p xs) (h2 : atI xs z = some v) (h : Q v H) : rIxL K (.ref p) (.int z) H Q := ⟨p, xs, z, v, rfl, rfl, h1, h2, h⟩
theorem R_ixT {xs : List V} {z : Int} (h1 : SqT K H p xs) (h2 : atI xs z = some v) (h : Q v H) : rIxT K (.ref p) (.int z) H Q := ⟨p, xs, z, v, rfl, rfl, h1, h2, h⟩
def rLenQ (K : PySem.W.Frag) : List V → Hp → VK → Prop := fun xs H Q => ∃ p ys, xs = [.ref p] ∧ (SqL K H p ys ∨ SqT K H p ys) ∧ Q (.int ys.length) H
theorem call_lenQ {X : Cx} : CallR X (.builtin "len") (rLenQ X.K) := call_len_seq
theorem R_lenL {xs : List V} (h1 : SqL K H p xs) (h : Q (.int xs.length) H) : rLenQ K [.ref p] H Q := ⟨p, xs, rfl, .inl h1, h⟩
theorem R_lenT {xs : List V} (h1 : SqT K H p xs) (h : Q (.int xs.length) H) : rLenQ K [.ref p] H Q := ⟨p, xs, rfl, .inr h1, h⟩
def rListQ (K : PySem.W.Frag) : List V → Hp → VK → Prop := fun xs H Q => ∃ p ys, xs = [.ref p] ∧ (SqL K H p ys ∨ SqT K H p ys) ∧ ∀ l, H l = none → Q (.ref l) (upd H l (.lst ys))
theorem call_listQ {X : Cx} : CallR X (.type "list") (rListQ X.K) := call_list_of
theorem R_listL {xs : List V} (h1 : SqL K H p xs) (h : ∀ l, H l = none → Q (.ref l) (upd H l (.lst xs))) : rListQ K [.ref p] H Q := ⟨p, xs, rfl, .inl h1, h⟩
def RTru (K : PySem.W.Frag) (x : V) (H : Hp) (QT : Bool → Hp → Prop) : Prop := ∃ k, TruV K x H k ∧ QT k H
def tTruQ (K : PySem.W.Frag) (ta : TE) : TT := fun σ H Q => ta σ H fun x H' => RTru K x H' Q
theorem pt_truQ {X : Cx} {a : Expr} (ha : PE X a ta) (he : ∀ whole, isTrue a X.env whole = (do let v ← whole; standAt a.pos; holding [v] (truthy v))) : PT X a (tTruQ X.K ta) := pt_truth ha he
theorem E_tru (h : ta σ H fun x H' => RTru K x H' QT) : tTruQ K ta σ H QT := h
theorem R_truL {xs : List V} (h1 : SqL K H p xs) (h : QT (!xs.isEmpty) H) : RTru K (.ref p) H QT := ⟨_, .inl ⟨xs, h1, rfl⟩, h⟩
theorem R_max2 {a b : Int} (h : Q (.int (if b > a then b else a)) H) : (fun xs H Q => ∃ i j, xs = [V.int i, V.int j] ∧ Q (.int (if j > i then j else i)) H : List V → Hp → VK → Prop) [.int a, .int b] H Q := ⟨a, b, rfl, h⟩
def rMax2Q : List V → Hp → VK → Prop := fun xs H Q => ∃ i j, xs = [V.int i, V.int j] ∧ Q (.int (if j > i then j else i)) H
theorem call_max2Q {X : Cx} (hc : X.calm = true) : CallR X (.builtin "max") rMax2Q := call_max2 hc
theorem R_max2Q {a b : Int} (h : Q (.int (if b > a then b else a)) H) : rMax2Q [.int a, .int b] H Q := ⟨a, b, rfl, h⟩
def RPart (x : V) (k : Int → Prop) : Prop := ∃ i, x = .int i ∧ k i
theorem R_part {a : Int} {k : Int → Prop} (h : k a) : RPart (.int a) k := ⟨a, rfl, h⟩
theorem E_sl {r : V → Option Int → Option Int → Hp → VK → Prop} {tl th : TO} (h : te σ H fun x H1 => tl σ H1 fun l H2 => th σ H2 fun u H3 => r x l u H3 Q) : tSl r te tl th σ H Q := h
theorem E_part {QO : Option Int → Hp → Prop} (h : te σ H fun x H1 => RPart x fun i => QO (some i) H1) : tPart te σ H QO := h
theorem E_noPart {QO : Option Int → Hp → Prop} (h : QO none H) : tNoPart σ H QO := h
theorem R_slL {xs : List V} {lo hi : Option Int} (h1 : SqL K H p xs) (h : ∀ q, H q = none → Q (.ref q) (upd H q (.lst (cutV xs lo hi)))) : rSlL K (.ref p) lo hi H Q := ⟨p, xs, rfl, h1, h⟩
theorem R_cat {a b : Addr} {xs zs : List V} (h1 : H a = some (.lst xs)) (h2 : H b = some (.lst zs)) (h3 : xs.length + zs.length ≤ sizeLine) (h : ∀ q, H q = none → Q (.ref q) (upd H q (.lst (xs ++ zs)))) : rCat (.ref a) (.ref b) H Q := ⟨a, b, xs, zs, rfl, rfl, h1, h2, h3, h⟩
def RIsD (x : V) (H : Hp) (k : Addr → Prop) : Prop := ∃ a, x = .ref a ∧ IsD H a ∧ k a
theorem R_isD {kvs : List (Key × V)} {k : Addr → Prop} (h1 : H p = some (.dK kvs)) (h : k p) : RIsD (.ref p) H k := ⟨p, rfl, .inl ⟨kvs, .inl h1⟩, h⟩
def RGetD (a : Addr) (y z : V) (H : Hp) (Q : VK) : Prop := ∃ o, DGet H a y o ∧ Q (o.getD z) H
theorem E_dget2 (h : td σ H fun x H1 => RIsD x H1 fun a => ty σ H1 fun y H2 => tx σ H2 fun z H3 => RGetD a y z H3 Q) : tDGet2 td ty tx σ H Q := h
theorem R_getD {kvs : List (Key × V)} {n : Int} {z : V} (h1 : H p = some (.dK kvs)) (h : Q ((valV kvs (.inl n)).getD z) H) : RGetD p (.int n) z H Q := ⟨_, DGet.k (k := .inl n) h1, h⟩
def RGet (y x : V) (H : Hp) (Q : VK) : Prop := ∃ a v, x = .ref a ∧ DGet H a y (some v) ∧ Q v H
theorem E_dget (h : td σ H fun x H1 => ty σ H1 fun y H2 => RGet y x H2 Q) : tDGet td ty σ H Q := h
theorem R_get {kvs : List (Key × V)} {n : Int} (h1 : H p = some (.dK kvs)) (h2 : valV kvs (.inl n) = some v) (h : Q v H) : RGet (.int n) (.ref p) H Q := ⟨p, v, rfl, by rw [← h2]; exact DGet.k (k := .inl n) h1, h⟩
def RPop1 (a : Addr) (y : V) (H : Hp) (Q : VK) : Prop := ∃ kvs k v, H a = some (.dK kvs) ∧ y = kV k ∧ valV kvs k = some v ∧ Q v (upd H a (.dK (dropK kvs k)))
theorem E_dpop1 (h : td σ H fun x H1 => RIsD x H1 fun a => ty σ H1 fun y H2 => RPop1 a y H2 Q) : tDPop1 td ty σ H Q := h
theorem R_pop1 {kvs : List (Key × V)} {n : Int} (h1 : H p = some (.dK kvs)) (h2 : valV kvs (.inl n) = some v) (h : Q v (upd H p (.dK (dropK kvs (.inl n))))) : RPop1 p (.int n) H Q := ⟨kvs, .inl n, v, h1, rfl, h2, h⟩
def RIn (y x : V) (H : Hp) (neg : Bool) (Q : VK) : Prop := ∃ a o, x = .ref a ∧ DGet H a y o ∧ Q (.bl (if neg then !o.isSome else o.isSome)) H
theorem E_din (h : ty σ H fun y H1 => td σ H1 fun x H2 => RIn y x H2 false Q) : tDIn ty td σ H Q := h
theorem E_dnin (h : ty σ H fun y H1 => td σ H1 fun x H2 => RIn y x H2 true Q) : tDNotIn ty td σ H Q := h
theorem R_in {kvs : List (Key × V)} {n : Int} {neg : Bool} (h1 : H p = some (.dK kvs)) (h : Q (.bl (if neg then !(valV kvs (.inl n)).isSome else (valV kvs (.inl n)).isSome)) H) : RIn (.int n) (.ref p) H neg Q := ⟨p, _, rfl, DGet.k (k := .inl n) h1, h⟩
theorem E_dnew (h : ∀ p, H p = none → Q (.ref p) (upd H p (.dK []))) : tDNewK σ H Q := h
end


section
variable {H : Hp} {Q : VK} {p : Addr} {y : V} {xs : List V}
def rInsQ : V → List V → Hp → VK → Prop := fun x vs H Q => ∃ (l : Addr) (xs : List V) (i : Int) (y : V), x = .ref l ∧ vs = [.int i, y] ∧ H l = some (.lst xs) ∧ xs.length < sizeLine ∧ 0 ≤ i ∧ i < 2 ^ 63 ∧ Q .non (upd H l (.lst (xs.take i.toNat ++ [y] ++ xs.drop i.toNat)))
theorem mt_insQ {X : Cx} : MtR X "list.insert" rInsQ := mt_insert
theorem R_ins {i : Nat} (h1 : H p = some (.lst xs)) (h2 : xs.length < sizeLine) (h3 : i ≤ 100000) (h : Q .non (upd H p (.lst (xs.take i ++ [y] ++ xs.drop i)))) : rInsQ (.ref p) [.int (i : Int), y] H Q :=
  ⟨p, xs, i, y, rfl, rfl, h1, h2, by omega, by omega, by rw [Int.toNat_natCast]; exact h⟩
theorem R_popAt {i : Nat} (h1 : H p = some (.lst xs)) (h2 : xs[i]? = some y) (h3 : i ≤ 100000) (h : Q y (upd H p (.lst (xs.eraseIdx i)))) : rPopAt (.ref p) [.int (i : Int)] H Q := by
  have hi : i < xs.length := (List.getElem?_eq_some_iff.mp h2).1
  refine ⟨p, xs, i, i, y, rfl, rfl, h1, by omega, by omega, ?_, h2, h⟩
  rw [seqIndex_of (by omega) (by omega), Int.toNat_natCast]
theorem R_pop0 {r : List V} (h1 : H p = some (.lst (y :: r))) (h : Q y (upd H p (.lst r))) : rPopAt (.ref p) [.int 0] H Q :=
  R_popAt (i := 0) h1 rfl (by omega) h
end
section
variable {K : PySem.W.Frag} {H H' : Hp} {Q : VK} {p q : Addr} {x y : V} {xs : List V} {o : HO}
theorem ne_nn (h' : H q = none) (h : H p = some o) : p ≠ q := ne_of_none h h'
theorem ne_nn2 (h' : H q = none) (h : H p = some o) : q ≠ p := (ne_of_none h h').symm
theorem same_upd (hn : H' p = none) (e : Same H H') : Same H (upd H' p o) := fun b u h => by
  rw [upd_ne (ne_of_none (e b u h) hn)]
  exact e b u h
def RTupA (xs : List V) (H1 : Hp) (Q : VK) : Prop := xs.length ≤ sizeLine ∧ ∀ p, H1 p = none → Q (.ref p) (L2.upd H1 p (.tup xs))
theorem E_tupA {σ : L2.St} {tr : TA} (h : tr σ H fun xs H1 => RTupA xs H1 Q) : tTup tr σ H Q := h
theorem R_tupA (h1 : xs.length ≤ 1000) (h : ∀ p, H p = none → Q (.ref p) (L2.upd H p (.tup xs))) : RTupA xs H Q := ⟨Nat.le_trans h1 (by decide), h⟩
theorem R_inT {neg : Bool} (h1 : SqT K H p xs) (h2 : flatV x = true) (h3 : xs.all flatV = true) (h : Q (.bl (if neg then !inV x xs else inV x xs)) H) : rIn K neg x (.ref p) H Q := ⟨p, xs, rfl, .inr h1, h2, h3, h⟩
theorem R_inL {neg : Bool} (h1 : SqL K H p xs) (h2 : flatV x = true) (h3 : xs.all flatV = true) (h : Q (.bl (if neg then !inV x xs else inV x xs)) H) : rIn K neg x (.ref p) H Q := ⟨p, xs, rfl, .inl h1, h2, h3, h⟩
theorem iteBT {b : Bool} {A B : Prop} (h : b = true) (k : A) : if b = true then A else B := by rw [if_pos h]; exact k
theorem iteBF {b : Bool} {A B : Prop} (h : b = false) (k : B) : if b = true then A else B := by rw [if_neg (by rw [h]; exact Bool.false_ne_true)]; exact k
theorem iteD {p : Prop} [Decidable p] {A B : Prop} (h1 : p → A) (h2 : ¬ p → B) : if decide p = true then A else B := by
  by_cases h : p
  · rw [decide_eq_true h]; exact h1 h
  · rw [decide_eq_false h]; exact h2 h
end
section
variable {σ : L2.St} {H : Hp} {Q : VK} {ta tb tc : TE} {r r' : R2}
theorem E_chain (h : ta σ H fun x H1 => tb σ H1 fun y H2 => r x y H2 fun z H3 => RBl z fun k => if k = true then tc σ H3 fun w' H4 => r' y w' H4 Q else Q (.bl false) H3) : tChain r r' ta tb tc σ H Q := h
end
/-! ### a statement, a word of one's own, the rest -/
def tCutQ (t u : TS) : TS := fun D σ H => ∃ M : L2.St → Hp → Prop, t { D with nx := M } σ H ∧ ∀ σ' H', M σ' H' → u D σ' H'
theorem pss_cutQ {X : Cx} {st : Stmt} {more : List Stmt} {t u : TS} (h1 : PS X st t) (h2 : PSs X more u) : PSs X (st :: more) (tCutQ t u) := by
  refine ⟨fun pins s σ H D I h => ?_⟩
  obtain ⟨M, hm, hu⟩ := h
  refine wpAny_execs_cons (thn (h1.run pins s σ H { D with nx := M } I hm) fun fl s1 q => ?_)
  cases fl with
  | next =>
    obtain ⟨σ', H', I', q⟩ := q
    exact h2.run pins s1 σ' H' D I' (hu σ' H' q)
  | ret v => exact q
  | brk => exact q
  | cont => exact q
theorem S_cut {t u : TS} {D : Ends} {σ : L2.St} {H : Hp} (M : L2.St → Hp → Prop) (h1 : t { D with nx := M } σ H) (h2 : ∀ σ' H', M σ' H' → u D σ' H') : tCutQ t u D σ H := ⟨M, h1, h2⟩
/-! ### the rules, their written part told -/
section
variable {X : Cx} {K : PySem.W.Frag} {e o : Expr} {es : List Expr} {f : Str} {pos pos' apos cpos : Pos} {value : Expr} {ta tv to : TE} {t : TA} {T : String} {name : Str} {id : String} {r : V → List V → Hp → VK → Prop} {tg : Expr}
theorem pe_fldK (hK : X.K = K) (he : PE X e ta) (hb : attributeBase e f X.env (eval e X.env) = eval e X.env) : PE X (.Attribute e f pos) (tFld K ta f) := by subst hK; exact pe_fld he hb
theorem ps_fldK (hK : X.K = K) (ha : PE X o ta) (hv : PE X value tv) (hs : swapsWith value (some (.Attribute o f pos')) pos.line X.env = pure false) : PS X (.Assign [.Attribute o f pos'] value pos) (sFld K ta tv f) := by subst hK; exact ps_fld ha hv hs
theorem pe_bm0K (hK : X.K = K) (pa : PlainAttrs T) (slot : Slot T name id) (hty : typeOf (.builtin id) = pure (.type "method_descriptor")) (hm : MtR X id r) (ho : PE X o to)
    (hbase : attributeBase o name X.env (eval o X.env) = eval o X.env := by rfl) (hline : (apos.endLine == cpos.line) = true := by rfl) : PE X (.Call (.Attribute o name apos) [] [] cpos) (tBM0 K T r to) := by subst hK; exact pe_bm0 pa slot hty hm ho hbase hline
theorem pe_bmK (hK : X.K = K) (pa : PlainAttrs T) (slot : Slot T name id) (hty : typeOf (.builtin id) = pure (.type "method_descriptor")) (hm : MtR X id r) (ho : PE X o to) (ha : PA X (e :: es) t)
    (hbase : attributeBase o name X.env (eval o X.env) = eval o X.env := by rfl)
    (hfew : ((backTo cpos (starEach (e :: es) X.env)).all (fun x => !x.1) && (backToKw cpos (keywordEach [] X.env)).all (fun x => x.1.isSome)
      && decide ((e :: es).length + ([] : List Keyword).length + (if ([] : List Keyword).isEmpty then 0 else 1) < 30)) = true := by rfl)
    (hline : (apos.endLine == cpos.line) = true := by rfl) (hs : starEach (e :: es) X.env = (false, eval e X.env) :: starEach es X.env := by rfl) (hplain : (backTo cpos (starEach es X.env)).any (·.1) = false := by rfl) :
    PE X (.Call (.Attribute o name apos) (e :: es) [] cpos) (tBM K T r to t) := by subst hK; exact pe_bm pa slot hty hm ho ha hbase hfew hline hs hplain
theorem ix_listK (hK : X.K = K) : IxR X (rIxL K) := by subst hK; exact ix_list
theorem ix_tupK (hK : X.K = K) : IxR X (rIxT K) := by subst hK; exact ix_tup
theorem sl_listK (hK : X.K = K) : SlR X (rSlL K) := by subst hK; exact sl_list
theorem pi_listK (hK : X.K = K) (hl : PE X e ta) : PI X tg e (iList K ta) := by subst hK; exact pi_list hl
theorem call_lenK (hK : X.K = K) : CallR X (.builtin "len") (rLenQ K) := by subst hK; exact call_lenQ
theorem call_listK (hK : X.K = K) : CallR X (.type "list") (rListQ K) := by subst hK; exact call_listQ
theorem cr_sumK (hK : X.K = K) (hc : X.calm = true) : CallR X (.builtin "sum") (rSum K) := by subst hK; exact cr_sum hc
theorem cr_minK (hK : X.K = K) (hc : X.calm = true) : CallR X (.builtin "min") (rMin K) := by subst hK; exact cr_min hc
theorem cr_maxK (hK : X.K = K) (hc : X.calm = true) : CallR X (.builtin "max") (rMax K) := by subst hK; exact cr_max hc
theorem cr_allK (hK : X.K = K) (hc : X.calm = true) : CallR X (.builtin "all") (rAll K) := by subst hK; exact cr_all hc
theorem cr_sortedK (hK : X.K = K) : CallR X (.builtin "sorted") (rSorted K) := by subst hK; exact cr_sorted
theorem cr_minPK (hK : X.K = K) (hc : X.calm = true) (hu : X.A.units + 64 < cLine) : CallR X (.builtin "min") (rMinP K) := by subst hK; exact cr_minP hc hu
theorem op_in_seqK (hK : X.K = K) : OpR X (compareOp .In) (rIn K false) := by subst hK; exact op_in_seq
theorem op_notIn_seqK (hK : X.K = K) : OpR X (compareOp .NotIn) (rIn K true) := by subst hK; exact op_notIn_seq
theorem op_eqDK (hK : X.K = K) (hu : X.A.units + 64 < cLine) : OpR X (compareOp .Eq) (rEqD K) := by subst hK; exact op_eqD hu
theorem op_neDK (hK : X.K = K) (hu : X.A.units + 64 < cLine) : OpR X (compareOp .NotEq) (rNeD K) := by subst hK; exact op_neD hu
theorem mt_lcountK (hK : X.K = K) : MtR X "list.count" (rCntI K) := by subst hK; exact mt_lcount
theorem pt_truK (hK : X.K = K) (ha : PE X e ta) (he : ∀ whole, isTrue e X.env whole = (do let v ← whole; standAt e.pos; holding [v] (truthy v))) : PT X e (tTruQ K ta) := by subst hK; exact pt_truQ ha he
theorem call_isiK (hK : X.K = K) : CallR X (.builtin "isinstance") (rIsi K) := by subst hK; exact call_isi
theorem pe_lenSetK (hK : X.K = K) {a : Expr} {p p2 q : Pos} (hg : Gl X "len") (hm : X.mg "len" = none) (hg2 : Gl X "set") (hm2 : X.mg "set" = none) (ha : PE X a ta) (hc : X.calm = true := by rfl)
    (na : starEach [a] X.env = (false, eval a X.env) :: starEach [] X.env := by rfl) : PE X (.Call (.Name "len" p) [.Call (.Name "set" p2) [a] [] q] [] pos) (tLenSetD K ta) := by subst hK; exact pe_lenSetD hg hm hg2 hm2 ha hc na
end
/-! ### loops -/
section
variable {K : PySem.W.Frag} {σ : L2.St} {H : Hp} {D : Ends} {t u tb : TS} {c : TT} {te tl : TE} {ta : TA} {wi : TI} {g : TG} {j : Nat} {a : Addr} {R : It → Hp → Prop} {Q : VK}
def tWhileQ (c : TT) (tb : TS) : TS := fun D σ H => ∃ W : Nat → L2.St → Hp → Prop, (∃ m, W m σ H) ∧ ∀ m σ H, W m σ H →
  c σ H fun b H1 => if b = true then tb { D with nx := fun σ' H' => ∃ m', m' < m ∧ W m' σ' H', ct := fun σ' H' => ∃ m', m' < m ∧ W m' σ' H', bk := D.nx } σ H1 else D.nx σ H1
theorem ps_whileQ {X : Cx} {pos : Pos} {c : Expr} {body : List Stmt} {tc : TT} {tb : TS} (hp : PassesOwn (model X.prog X.w) X.A X.env X.xe) (hc : PT X c tc) (hb : PSs X body tb) : PS X (.While c body [] pos) (tWhileQ tc tb) := by
  refine ⟨fun pins s σ H D I h => ?_⟩
  obtain ⟨W, ⟨m0, w0⟩, turn⟩ := h
  refine wpAny_While (codeAny_whileLoop (fun n s' => ∃ σ' H', Inv X pins σ' H' s' ∧ W n σ' H') ?_ m0 ⟨σ, H, I, w0⟩)
  rintro n s1 ⟨σ1, H1, I1, w1⟩
  refine wpAny_passesOwn hp (thn (hc.run pins s1 σ1 H1 _ I1 (turn n σ1 H1 w1)) fun b s2 ⟨H2, I2, q2⟩ => ?_)
  cases b with
  | true =>
    rw [if_pos rfl]
    refine wpAny_passesOwn hp (thn (hb.run pins s2 σ1 H2 _ I2 q2) fun f s3 q3 => ?_)
    cases f with
    | next =>
      obtain ⟨σ3, H3, I3, m', hm, w3⟩ := q3
      exact ⟨m', hm, σ3, H3, I3, w3⟩
    | cont =>
      obtain ⟨σ3, H3, I3, m', hm, w3⟩ := q3
      exact ⟨m', hm, σ3, H3, I3, w3⟩
    | brk => exact q3
    | ret v => exact q3
  | false =>
    rw [if_neg Bool.false_ne_true]
    exact wpAny_execs_nil ⟨σ1, H2, I2, q2⟩
theorem S_while (W : Nat → L2.St → Hp → Prop) (m0 : Nat) (h0 : W m0 σ H)
    (hs : ∀ m σ H, W m σ H → c σ H fun b H1 => if b = true then tb { D with nx := fun σ' H' => ∃ m', m' < m ∧ W m' σ' H', ct := fun σ' H' => ∃ m', m' < m ∧ W m' σ' H', bk := D.nx } σ H1 else D.nx σ H1) : tWhileQ c tb D σ H := ⟨W, ⟨m0, h0⟩, hs⟩
def RFor (J : It) (g : TG) (tb : TS) (D : Ends) (σ : L2.St) (H1 : Hp) : Prop := ∃ W : Nat → Nat → L2.St → Hp → Prop, (∃ m, W 0 m σ H1) ∧ ∀ i m σ H, W i m σ H →
  (J.stop i H ∧ D.nx σ H) ∨ (J.go i H ∧ ∃ N : L2.St → Hp → Prop, (∀ σ' H', N σ' H' → ∃ m', m' < m ∧ W (i + 1) m' σ' H') ∧ ∀ x H', J.yld i H x H' → g x σ H' fun σ2 H2 => tb { D with nx := N, ct := N, bk := D.nx } σ2 H2)
theorem S_for (h : wi σ H fun J H1 => RFor J g tb D σ H1) : tFor wi g tb D σ H := h
theorem R_forL {xs : List V} (Pv : Nat → L2.St → Hp → Prop) (h0 : Pv 0 σ H) (hl : ∀ i σ H, i ≤ xs.length → Pv i σ H → SqL K H a xs)
    (hs : ∀ i x σ H, xs[i]? = some x → Pv i σ H → tb { D with nx := Pv (i + 1), ct := Pv (i + 1), bk := D.nx } (σ.set j (some x)) H) (hd : ∀ σ H, Pv xs.length σ H → D.nx σ H) : RFor (Itl K a) (gName j) tb D σ H :=
  for_list Pv h0 hl hs hd
theorem R_forR {lo : Int} {n : Nat} (Pv : Nat → L2.St → Hp → Prop) (h0 : Pv 0 σ H)
    (hs : ∀ i σ H, i < n → Pv i σ H → tb { D with nx := Pv (i + 1), ct := Pv (i + 1), bk := D.nx } (σ.set j (some (.int (lo + i)))) H) (hd : ∀ σ H, Pv n σ H → D.nx σ H) : RFor (Itr lo n) (gName j) tb D σ H :=
  for_range Pv h0 hs hd
def RIl (K : PySem.W.Frag) (x : V) (H1 : Hp) (R : It → Hp → Prop) : Prop := ∃ a, x = .ref a ∧ (∃ xs, SqL K H1 a xs) ∧ R (Itl K a) H1
theorem E_il (h : tl σ H fun x H1 => RIl K x H1 R) : iList K tl σ H R := h
theorem R_il {xs : List V} (h1 : SqL K H a xs) (h : R (Itl K a) H) : RIl K (.ref a) H R := ⟨a, rfl, ⟨xs, h1⟩, h⟩
def RR1 (vs : List V) (H1 : Hp) (R : It → Hp → Prop) : Prop := ∃ j : Int, vs = [.int j] ∧ -(2 ^ 62) ≤ j ∧ j < 2 ^ 62 ∧ R (Itr 0 j.toNat) H1
theorem E_rng1 (h : ta σ H fun vs H1 => RR1 vs H1 R) : iRng1 ta σ H R := h
theorem R_rng1 {n : Int} (h1 : 0 ≤ n) (h2 : n < 2 ^ 62) (h : R (Itr 0 n.toNat) H) : RR1 [.int n] H R := ⟨n, rfl, by omega, h2, h⟩
/-! ### comprehensions -/
def RLc (J : It) (g : TG) (tt : TT) (te : TE) (vs : List Nat) (σ : L2.St) (H1 : Hp) (Q : VK) : Prop := ∀ D, H1 D = none → ∃ W : Nat → Nat → Hp → Prop, (∃ m, W 0 m (upd H1 D (.lst []))) ∧ ∀ i m H, W i m H →
  (J.stop i H ∧ Q (.ref D) H) ∨ (J.go i H ∧ ∃ Nx : Hp → Prop, (∀ H', Nx H' → ∃ m', m' < m ∧ W (i + 1) m' H') ∧ ∀ x H', J.yld i H x H' → g x (wipe σ vs) H' fun σ2 H2 => wipe σ2 vs = wipe σ vs ∧ tt σ2 H2 fun b H3 =>
    if b = true then te σ2 H3 fun y H4 => ∃ acc, H4 D = some (.lst acc) ∧ acc.length < sizeLine ∧ Nx (upd H4 D (.lst (acc ++ [y]))) else Nx H3)
theorem E_lc {tt : TT} {vs : List Nat} (h : wi σ H fun J H1 => RLc J g tt te vs σ H1 Q) : tLc wi g tt te vs σ H Q := h
theorem E_yes {QT : Bool → Hp → Prop} (h : QT true H) : tYes σ H QT := h
theorem wipe_set {σ : L2.St} {j : Nat} {x : Option V} : wipe (((wipe σ [j])).set j x) [j] = wipe σ [j] := by
  show ((σ.set j none).set j x).set j none = σ.set j none
  rw [List.set_set, List.set_set]
/-- each item made into a value, what stood stays -/
theorem R_lcMap {xs ys : List V} (hq : SqL K H a xs) (hlen : ys.length = xs.length) (hz : xs.length ≤ 100000)
    (hs : ∀ (i : Nat) (x y : V) (H' : Hp), xs[i]? = some x → ys[i]? = some y → Same H H' → ∀ Q' : VK, (∀ H4, Same H' H4 → Q' y H4) → te ((wipe σ [j]).set j (some x)) H' Q')
    (hd : ∀ D H', H D = none → Same H H' → H' D = some (.lst ys) → Q (.ref D) H') : RLc (Itl K a) (gName j) tYes te [j] σ H Q := by
  intro D hD
  refine lc_list (xs := xs) (fun i H' => Same H H' ∧ H' D = some (.lst (ys.take i))) ⟨fun b u e => by rw [upd_ne (ne_of_none e hD)]; exact e, by rw [upd_same, List.take_zero]⟩ (fun i H' _ p => p.1.seq hq) (fun i x H' hx p => ?_) (fun H' p => hd D H' hD p.1 (by rw [p.2, ← hlen, List.take_length]))
  have hi : i < ys.length := by rw [hlen]; exact (List.getElem?_eq_some_iff.mp hx).1
  refine ⟨wipe_set, ?_⟩
  refine E_yes ?_
  refine iteT ?_
  refine hs i x ys[i] H' hx (List.getElem?_eq_getElem hi) p.1 _ (fun H4 q => ?_)
  refine ⟨ys.take i, q _ _ p.2, ?_, ⟨fun b u e => ?_, ?_⟩⟩
  · rw [List.length_take]
    exact Nat.lt_of_le_of_lt (m := 100000) (by omega) (by decide)
  · rw [upd_ne (ne_of_none e hD)]
    exact q b u (p.1 b u e)
  · rw [upd_same, List.take_add_one, List.getElem?_eq_getElem hi]
    rfl
end


/-! ### comprehensions that make pairs of ints -/
section
variable {K : PySem.W.Frag} {σ : L2.St} {H H' H4 : Hp} {te : TE} {j : Nat} {a D q d : Addr} {Q : VK}
def PairInv (H : Hp) (D : Addr) (l : List (Int × Int)) (H' : Hp) : Prop := Same H H' ∧ ∃ ps : List (Addr × Int × Int), H' D = some (.lst (ps.map fun p => V.ref p.1)) ∧ (∀ p ∈ ps, H' p.1 = some (.tup [.int p.2.1, .int p.2.2])) ∧ ps.map (·.2) = l
theorem PairInv.start (hD : H D = none) : PairInv H D [] (upd H D (.lst [])) := ⟨fun b u e => by rw [upd_ne (ne_of_none e hD)]; exact e, [], upd_same, (fun p hp => by cases hp), rfl⟩
theorem PairInv.step {l : List (Int × Int)} {x y : Int} (h : PairInv H D l H') (hD : H D = none) (hq : H' q = none) (e : Same H' H4) (h4 : H4 q = some (.tup [.int x, .int y])) (hz : l.length ≤ 100000) :
    ∃ acc, H4 D = some (.lst acc) ∧ acc.length < sizeLine ∧ PairInv H D (l ++ [(x, y)]) (upd H4 D (.lst (acc ++ [.ref q]))) := by
  obtain ⟨s, ps, h1, h2, h3⟩ := h
  refine ⟨_, e _ _ h1, ?_, fun b u eb => ?_, ps ++ [(q, x, y)], ?_, fun p hp => ?_, ?_⟩
  · rw [List.length_map]
    have : ps.length = l.length := by rw [← h3, List.length_map]
    exact Nat.lt_of_le_of_lt (m := 100000) (by omega) (by decide)
  · rw [upd_ne (ne_of_none eb hD)]
    exact e _ _ (s _ _ eb)
  · rw [upd_same, List.map_append]
    rfl
  · rcases List.mem_append.mp hp with hp | hp
    · have t := e _ _ (h2 p hp)
      rw [upd_ne (ne_of t (e _ _ h1) (by intro z; cases z))]
      exact t
    · rw [List.mem_singleton.mp hp]
      show upd H4 D _ q = _
      rw [upd_ne (ne_of h4 (e _ _ h1) (by intro z; cases z))]
      exact h4
  · rw [List.map_append, h3]
    rfl
theorem R_lcPairL {ns : List Int} (f : Int → Int × Int) (hq : SqL K H a (ns.map V.int)) (hz : ns.length ≤ 100000)
    (hs : ∀ (x : Int) (H' : Hp), x ∈ ns → Same H H' → ∀ Q' : VK, (∀ q H4, H' q = none → Same H' H4 → H4 q = some (.tup [.int (f x).1, .int (f x).2]) → Q' (.ref q) H4) → te ((wipe σ [j]).set j (some (.int x))) H' Q')
    (hd : ∀ D H', H D = none → PairInv H D (ns.map f) H' → Q (.ref D) H') : RLc (Itl K a) (gName j) tYes te [j] σ H Q := by
  intro D hD
  refine lc_list (xs := ns.map V.int) (fun i H' => PairInv H D ((ns.take i).map f) H') (PairInv.start hD) (fun i H' _ p => p.1.seq hq) (fun i x H' hx p => ?_) (fun H' p => hd D H' hD (by rw [List.length_map, List.take_length] at p; exact p))
  obtain ⟨z, hz2, rfl⟩ : ∃ z, ns[i]? = some z ∧ x = V.int z := by
    rw [List.getElem?_map] at hx
    cases e : ns[i]? with
    | none => rw [e] at hx; cases hx
    | some z => rw [e] at hx; exact ⟨z, rfl, (Option.some.inj hx).symm⟩
  refine ⟨wipe_set, ?_⟩
  refine E_yes ?_
  refine iteT ?_
  refine hs z H' (List.mem_of_getElem? hz2) p.1 _ (fun q H4 hq e h4 => ?_)
  obtain ⟨acc, h5, h6, h7⟩ := p.step hD hq e h4 (by rw [List.length_map, List.length_take]; omega)
  refine ⟨acc, h5, h6, ?_⟩
  rw [List.take_add_one, hz2, List.map_append]
  exact h7
theorem R_lcPairK {ns : List Int} {kvs : List (Key × V)} {o : Obj} (f : Int → Int × Int) (hk : kvs.map (·.1) = ns.map Sum.inl) (hq : H d = some (.frz o (.dK kvs))) (hz : ns.length ≤ 100000)
    (hs : ∀ (x : Int) (H' : Hp), x ∈ ns → Same H H' → ∀ Q' : VK, (∀ q H4, H' q = none → Same H' H4 → H4 q = some (.tup [.int (f x).1, .int (f x).2]) → Q' (.ref q) H4) → te ((wipe σ [j]).set j (some (.int x))) H' Q')
    (hd : ∀ D H', H D = none → PairInv H D (ns.map f) H' → Q (.ref D) H') : RLc (Itk d o kvs) (gName j) tYes te [j] σ H Q := by
  intro D hD
  have hl : kvs.length = ns.length := by
    have := congrArg List.length hk
    rw [List.length_map, List.length_map] at this
    exact this
  refine ⟨fun i m H' => m = ns.length - i ∧ i ≤ ns.length ∧ PairInv H D ((ns.take i).map f) H', ⟨ns.length, by simp, Nat.zero_le _, PairInv.start hD⟩, ?_⟩
  rintro i m H' ⟨rfl, hi, p⟩
  have q0 := p.1 _ _ hq
  by_cases hlt : i < ns.length
  · refine .inr ⟨⟨q0, by omega⟩, fun H' => PairInv H D ((ns.take (i + 1)).map f) H', fun H' p' => ⟨ns.length - (i + 1), by omega, rfl, hlt, p'⟩, fun x H2 y => ?_⟩
    obtain ⟨rfl, k, v, hkv, rfl⟩ := y
    have ek : k = Sum.inl ns[i] := by
      have e1 : (kvs.map (·.1))[i]? = some k := by rw [List.getElem?_map, hkv]; rfl
      rw [hk, List.getElem?_map, List.getElem?_eq_getElem hlt] at e1
      exact (Option.some.inj e1).symm
    subst ek
    refine ⟨wipe_set, ?_⟩
    refine E_yes ?_
    refine iteT ?_
    refine hs ns[i] H2 (List.getElem_mem hlt) p.1 _ (fun q H4 hq e h4 => ?_)
    obtain ⟨acc, h5, h6, h7⟩ := p.step hD hq e h4 (by rw [List.length_map, List.length_take]; omega)
    refine ⟨acc, h5, h6, ?_⟩
    show PairInv H D ((ns.take (i + 1)).map f) _
    rw [List.take_add_one, List.getElem?_eq_getElem hlt, Option.toList_some, List.map_append]
    exact h7
  · have e : i = ns.length := by omega
    subst e
    rw [List.take_length] at p
    exact .inl ⟨⟨q0, by omega⟩, hd D H' hD p⟩
def RLock (t : L2.St → Hp → VK → Prop) (σ : L2.St) (H : Hp) (Q : VK) : Prop := tLockE t σ H Q
theorem E_lock {t : TE} {u : HO} (h1 : H d = some u) (h2 : Mut (some u)) (h : ∀ od, t σ (upd H d (.frz od u)) fun v H' => H' d = some (.frz od u) ∧ Q v (upd H' d u)) : tLockE t σ H Q := ⟨d, u, h1, h2, h⟩
theorem same_lock {u : HO} {od : Obj} (h1 : H d = some u) (e : Same (upd H d (.frz od u)) H') : Same H (upd H' d u) := fun b v h => by
  by_cases hb : b = d
  · subst hb
    rw [upd_same, ← h, h1]
  · rw [upd_ne hb]
    exact e b v (by rw [upd_ne hb]; exact h)
def RIk (x : V) (H1 : Hp) (R : It → Hp → Prop) : Prop := ∃ d o, x = .ref d ∧ ((∃ kvs, H1 d = some (.frz o (.dK kvs)) ∧ R (Itk d o kvs) H1) ∨ ∃ kvs, H1 d = some (.frz o (.dT kvs)) ∧ R (Itkt d o kvs) H1)
theorem E_ik {td : TE} {R : It → Hp → Prop} (h : td σ H fun x H1 => RIk x H1 R) : iKeys td σ H R := h
theorem R_ik {R : It → Hp → Prop} {o : Obj} {kvs : List (Key × V)} (h1 : H d = some (.frz o (.dK kvs))) (h : R (Itk d o kvs) H) : RIk (.ref d) H R := ⟨d, o, rfl, .inl ⟨kvs, h1, h⟩⟩
theorem R_getF {v : V} {o : Obj} {kvs : List (Key × V)} {n : Int} (h1 : H d = some (.frz o (.dK kvs))) (h2 : valV kvs (.inl n) = some v) (h : Q v H) : RGet (.int n) (.ref d) H Q := ⟨d, v, rfl, by rw [← h2]; exact .inl ⟨kvs, .inl n, .inr ⟨o, h1⟩, rfl, rfl⟩, h⟩
theorem R_minP {l : List (Int × Int)} (h1 : PairInv H D l H') (hne : l ≠ []) (h : ∀ q x y, H' q = some (.tup [.int x, .int y]) → (x, y) ∈ l → (∀ z ∈ l, ple (x, y) z) → Q (.ref q) H') : rMinP K [.ref D] H' Q := by
  obtain ⟨s, ps, h2, h3, h4⟩ := h1
  refine ⟨D, ps, rfl, SqL.of h2, fun p hp => SqT.of (h3 p hp), fun e => hne (by rw [← h4, e]; rfl), fun p hp hle => h p.1 p.2.1 p.2.2 (h3 p hp) (by rw [← h4]; exact List.mem_map.mpr ⟨p, hp, rfl⟩) fun z hz => ?_⟩
  rw [← h4] at hz
  obtain ⟨p2, hp2, rfl⟩ := List.mem_map.mp hz
  exact hle p2 hp2
theorem PairInv.same {l : List (Int × Int)} (h : PairInv H D l H') (e : ∀ b u, H' b = some u → (b = D ∨ ∃ x y, u = .tup [.int x, .int y]) → H4 b = some u) {H0 : Hp} (e0 : Same H0 H4) : PairInv H0 D l H4 := by
  obtain ⟨s, ps, h2, h3, h4⟩ := h
  exact ⟨e0, ps, e _ _ h2 (.inl rfl), fun p hp => e _ _ (h3 p hp) (.inr ⟨_, _, rfl⟩), h4⟩
end

/-! ### slices, sums, more comprehensions -/
theorem cut_from (xs : List V) (k : Nat) : cutV xs (some (k : Int)) none = xs.drop k := by
  unfold cutV
  rw [HT.sIx_none, HT.sIx_nat]
  by_cases h : k ≤ xs.length
  · rw [Nat.min_eq_left h, List.take_of_length_le (by rw [List.length_drop]; omega)]
  · rw [Nat.min_eq_right (by omega), List.drop_length, List.drop_eq_nil_of_le (by omega)]
    simp
theorem cut_last (xs : List V) (n : Nat) (hn : 1 ≤ n) : cutV xs (some (-(n : Int))) none = xs.drop (xs.length - n) := by
  unfold cutV
  have e : HT.sIx xs.length 0 (some (-(n : Int))) = xs.length - n := by
    show (if -(n : Int) < 0 then (-(n : Int) + (xs.length : Int)).toNat else min (-(n : Int)).toNat xs.length) = _
    rw [if_pos (by omega)]
    omega
  rw [HT.sIx_none, e, List.take_of_length_le (by rw [List.length_drop]; omega)]
theorem cut_to (xs : List V) (k : Nat) : cutV xs none (some (k : Int)) = xs.take k := by
  unfold cutV
  rw [HT.sIx_none, HT.sIx_nat, List.drop_zero, Nat.sub_zero]
  by_cases h : k ≤ xs.length
  · rw [Nat.min_eq_left h]
  · rw [Nat.min_eq_right (by omega), List.take_length, List.take_of_length_le (by omega)]
section
variable {K : PySem.W.Frag} {σ : L2.St} {H H' H4 : Hp} {te ta : TE} {tt : TT} {j : Nat} {a D q d : Addr} {Q : VK}
theorem R_sum {ns : List Int} (h1 : SqL K H a (ns.map V.int)) (h : Q (.int ns.sum) H) : rSum K [.ref a] H Q := ⟨a, ns, rfl, h1, h⟩
def RLenSet (K : PySem.W.Frag) (x : V) (H1 : Hp) (Q : VK) : Prop := ∃ (l : Addr) (ns : List Int), x = .ref l ∧ SqL K H1 l (ns.map V.int) ∧ ns.length ≤ 4000 ∧ Q (.int (unlike ns : Nat)) H1
theorem E_lenSet (h : ta σ H fun x H1 => RLenSet K x H1 Q) : tLenSetD K ta σ H Q := h
theorem R_lenSet {ns : List Int} (h1 : SqL K H a (ns.map V.int)) (h2 : ns.length ≤ 4000) (h : Q (.int (unlike ns : Nat)) H) : RLenSet K (.ref a) H Q := ⟨a, ns, rfl, h1, h2, h⟩
theorem R_lcMapR {lo : Int} {n : Nat} (ys : List V) (hlen : ys.length = n) (hz : n ≤ 100000)
    (hs : ∀ (i : Nat) (y : V) (H' : Hp), ys[i]? = some y → Same H H' → ∀ Q' : VK, (∀ H4, Same H' H4 → Q' y H4) → te ((wipe σ [j]).set j (some (.int (lo + i)))) H' Q')
    (hd : ∀ D H', H D = none → Same H H' → H' D = some (.lst ys) → Q (.ref D) H') : RLc (Itr lo n) (gName j) tYes te [j] σ H Q := by
  intro D hD
  refine lc_range (fun i H' => Same H H' ∧ H' D = some (.lst (ys.take i))) ⟨fun b u e => by rw [upd_ne (ne_of_none e hD)]; exact e, by rw [upd_same, List.take_zero]⟩ (fun i H' hi p => ?_) (fun H' p => hd D H' hD p.1 (by rw [p.2, ← hlen, List.take_length]))
  have hi : i < ys.length := by omega
  refine ⟨wipe_set, ?_⟩
  refine E_yes ?_
  refine iteT ?_
  refine hs i ys[i] H' (List.getElem?_eq_getElem hi) p.1 _ (fun H4 q => ?_)
  refine ⟨ys.take i, q _ _ p.2, ?_, ⟨fun b u e => ?_, ?_⟩⟩
  · rw [List.length_take]
    exact Nat.lt_of_le_of_lt (m := 100000) (by omega) (by decide)
  · rw [upd_ne (ne_of_none e hD)]
    exact q b u (p.1 b u e)
  · rw [upd_same, List.take_add_one, List.getElem?_eq_getElem hi]
    rfl
/-- those of a list that pass a test; what is made of each -/
theorem R_lcFilter {xs : List V} (f : V → Bool) (g : V → V) (hq : SqL K H a xs) (hz : xs.length ≤ 100000)
    (ht : ∀ (x : V) (H' : Hp), x ∈ xs → Same H H' → ∀ Q' : Bool → Hp → Prop, (∀ H4, Same H' H4 → Q' (f x) H4) → tt ((wipe σ [j]).set j (some x)) H' Q')
    (hs : ∀ (x : V) (H' : Hp), x ∈ xs → f x = true → Same H H' → ∀ Q' : VK, (∀ H4, Same H' H4 → Q' (g x) H4) → te ((wipe σ [j]).set j (some x)) H' Q')
    (hd : ∀ D H', H D = none → Same H H' → H' D = some (.lst ((xs.filter f).map g)) → Q (.ref D) H') : RLc (Itl K a) (gName j) tt te [j] σ H Q := by
  intro D hD
  refine lc_list (xs := xs) (fun i H' => Same H H' ∧ H' D = some (.lst (((xs.take i).filter f).map g))) ⟨fun b u e => by rw [upd_ne (ne_of_none e hD)]; exact e, by rw [upd_same, List.take_zero]; rfl⟩ (fun i H' _ p => p.1.seq hq) (fun i x H' hx p => ?_) (fun H' p => hd D H' hD p.1 (by rw [p.2, List.take_length]))
  have hi : i < xs.length := (List.getElem?_eq_some_iff.mp hx).1
  have hm : x ∈ xs := List.mem_of_getElem? hx
  refine ⟨wipe_set, ?_⟩
  refine ht x H' hm p.1 _ (fun H2 s2 => ?_)
  have et : xs.take (i + 1) = xs.take i ++ [x] := by rw [List.take_add_one, hx]; rfl
  cases ef : f x with
  | false =>
    refine iteF ?_
    refine ⟨p.1.trans s2, ?_⟩
    rw [et, List.filter_append, List.filter_cons, if_neg (by rw [ef]; exact Bool.false_ne_true), List.filter_nil, List.append_nil]
    exact s2 _ _ p.2
  | true =>
    refine iteT ?_
    refine hs x H2 hm ef (p.1.trans s2) _ (fun H4 s4 => ?_)
    refine ⟨_, s4 _ _ (s2 _ _ p.2), ?_, ⟨fun b u e => ?_, ?_⟩⟩
    · have h1 : ((xs.take i).filter f).length ≤ (xs.take i).length := List.length_filter_le _ _
      rw [List.length_take] at h1
      rw [List.length_map]
      exact Nat.lt_of_le_of_lt (m := 100000) (by omega) (by decide)
    · rw [upd_ne (ne_of_none e hD)]
      exact s4 b u (s2 b u (p.1 b u e))
    · rw [upd_same, et, List.filter_append, List.filter_cons, if_pos ef, List.filter_nil, List.map_append]
      rfl
/-- [x[1] for x in xs], xs a list of pairs of ints -/
theorem R_lcSnd {qs : List (Addr × Int × Int)} (hq : SqL K H a (qs.map fun q => V.ref q.1)) (ht : ∀ q ∈ qs, H q.1 = some (.tup [.int q.2.1, .int q.2.2])) (hz : qs.length ≤ 100000) (hj : j < σ.length)
    (hd : ∀ D H', H D = none → Same H H' → H' D = some (.lst ((qs.map (·.2.2)).map V.int)) → Q (.ref D) H') : RLc (Itl K a) (gName j) tYes (tOp (rIxT K) (tVar j) (tC (.int 1))) [j] σ H Q := by
  refine R_lcMap hq (ys := (qs.map (·.2.2)).map V.int) (by rw [List.length_map, List.length_map, List.length_map]) (by rw [List.length_map]; exact hz) (fun i x y H' hx hy sm Q' kQ => ?_) hd
  rw [List.getElem?_map] at hx hy
  rw [List.getElem?_map] at hy
  cases e : qs[i]? with
  | none => rw [e] at hx; cases hx
  | some q =>
    rw [e] at hx hy
    have ex := Option.some.inj hx
    have ey := Option.some.inj hy
    subst ex ey
    refine ⟨.ref q.1, ?_, ?_⟩
    · rw [List.getElem?_set_self]
      show j < (σ.set j none).length
      rw [List.length_set]
      exact hj
    · exact ⟨q.1, _, 1, .int q.2.2, rfl, rfl, SqT.of (sm _ _ (ht q (List.mem_of_getElem? e))), rfl, kQ H' (Same.refl H')⟩
/-- the data of a list of ints -/
theorem dp_intsA : ∀ ns : List Int, DpAll K H (ns.map V.int) (ns.map PyData.int)
  | [] => .nil
  | n :: r => .cons (.int n) (dp_intsA r)
theorem dp_ints {ns : List Int} (h : SqL K H a (ns.map V.int)) : Dp K H (.ref a) (.list (ns.map PyData.int)) := .lst h (dp_intsA ns)
theorem ints_lay : ∀ ns : List Int, PyData.canLayAll0 (ns.map PyData.int) = true ∧ PyData.depthAll (ns.map PyData.int) = 0
  | [] => ⟨rfl, rfl⟩
  | n :: r => by
    obtain ⟨h1, h2⟩ := ints_lay r
    refine ⟨?_, ?_⟩
    · rw [List.map_cons, PyData.canLayAll0, h1]
      rfl
    · rw [List.map_cons, PyData.depthAll, h2]
      rfl
theorem shaped_ints (ns : List Int) : SeqAt.shaped (.list (ns.map PyData.int)) = true := by
  obtain ⟨h1, h2⟩ := ints_lay ns
  unfold SeqAt.shaped
  rw [PyData.canLay0, h1, PyData.depth, h2]
  rfl
theorem eqv_ints (ns : List Int) : PyData.eqv (.list (ns.map PyData.int)) (.list (ns.map PyData.int)) = true := SeqAt.eqv_refl _ (by rw [PyData.canLay0]; exact (ints_lay ns).1)
theorem R_neInts {b : Addr} {ns : List Int} (h1 : SqL K H a (ns.map V.int)) (h2 : SqL K H b (ns.map V.int)) (h : Q (.bl false) H) : rNeD K (.ref a) (.ref b) H Q :=
  ⟨_, _, dp_ints h1, dp_ints h2, shaped_ints ns, shaped_ints ns, by rw [eqv_ints]; exact h⟩
theorem R_all {bs : List Bool} (h1 : SqL K H a (bs.map V.bl)) (h : Q (.bl (bs.all id)) H) : rAll K [.ref a] H Q := ⟨a, bs, rfl, h1, h⟩
theorem R_cnt {ns : List Int} {z : Int} (h1 : SqL K H a (ns.map V.int)) (h : Q (.int (ns.count z : Nat)) H) : rCntI K (.ref a) [.int z] H Q := ⟨a, ns, z, rfl, rfl, h1, h⟩
end

/-! ### reversed(list) -/
section
variable {K : PySem.W.Frag} {σ : L2.St} {H : Hp} {D : Ends} {tb : TS} {te : TE} {ta : TA} {j : Nat} {a : Addr} {R : It → Hp → Prop} {Q : VK}
theorem pi_reversedK {X : Cx} (hK : X.K = K) {tg e : Expr} {p pos : Pos} (hg : Gl X "reversed") (hm : X.mg "reversed" = none) (ha : PA X [e] ta) (hs : starEach [e] X.env = [(false, eval e X.env)] := by rfl) : PI X tg (.Call (.Name "reversed" p) [e] [] pos) (iRev K ta) := by subst hK; exact pi_reversed hg hm ha hs
def RIv (K : PySem.W.Frag) (vs : List V) (H1 : Hp) (R : It → Hp → Prop) : Prop := ∃ (a : Addr) (xs : List V), vs = [.ref a] ∧ SqL K H1 a xs ∧ R (Itv K a xs.length) H1
theorem E_iv (h : ta σ H fun vs H1 => RIv K vs H1 R) : iRev K ta σ H R := h
theorem R_iv {xs : List V} (h1 : SqL K H a xs) (h : R (Itv K a xs.length) H) : RIv K [.ref a] H R := ⟨a, xs, rfl, h1, h⟩
theorem R_forV {xs : List V} (Pv : Nat → L2.St → Hp → Prop) (h0 : Pv 0 σ H) (hl : ∀ i σ H, i ≤ xs.length → Pv i σ H → SqL K H a xs)
    (hs : ∀ i x σ H, i < xs.length → xs[xs.length - 1 - i]? = some x → Pv i σ H → tb { D with nx := Pv (i + 1), ct := Pv (i + 1), bk := D.nx } (σ.set j (some x)) H) (hd : ∀ σ H, Pv xs.length σ H → D.nx σ H) : RFor (Itv K a xs.length) (gName j) tb D σ H := by
  refine ⟨fun i m σ H => m = xs.length - i ∧ i ≤ xs.length ∧ Pv i σ H, ⟨xs.length, by simp, Nat.zero_le _, h0⟩, ?_⟩
  rintro i m σ H ⟨rfl, hi, p⟩
  have q := hl i σ H hi p
  by_cases hlt : i < xs.length
  · refine .inr ⟨⟨hlt, xs, xs[xs.length - 1 - i], q, List.getElem?_eq_getElem (by omega)⟩, Pv (i + 1), fun σ' H' p' => ⟨xs.length - (i + 1), by omega, rfl, hlt, p'⟩, fun x H' y => ?_⟩
    obtain ⟨e, y⟩ := y
    subst e
    exact hs i x σ _ hlt (y xs q) p
  · have e : i = xs.length := by omega
    subst e
    exact .inl ⟨Nat.le_refl _, hd σ H p⟩
theorem R_lcMapV {xs ys : List V} (hq : SqL K H a xs) (hlen : ys.length = xs.length) (hz : xs.length ≤ 100000)
    (hs : ∀ (i : Nat) (x y : V) (H' : Hp), xs[xs.length - 1 - i]? = some x → ys[i]? = some y → Same H H' → ∀ Q' : VK, (∀ H4, Same H' H4 → Q' y H4) → te ((wipe σ [j]).set j (some x)) H' Q')
    (hd : ∀ D H', H D = none → Same H H' → H' D = some (.lst ys) → Q (.ref D) H') : RLc (Itv K a xs.length) (gName j) tYes te [j] σ H Q := by
  intro D hD
  refine ⟨fun i m H' => m = xs.length - i ∧ i ≤ xs.length ∧ Same H H' ∧ H' D = some (.lst (ys.take i)), ⟨xs.length, by simp, Nat.zero_le _, fun b u e => by rw [upd_ne (ne_of_none e hD)]; exact e, by rw [upd_same, List.take_zero]⟩, ?_⟩
  rintro i m H' ⟨rfl, hi, p1, p2⟩
  have q := p1.seq hq
  by_cases hlt : i < xs.length
  · refine .inr ⟨⟨hlt, xs, xs[xs.length - 1 - i], q, List.getElem?_eq_getElem (by omega)⟩, fun H2 => Same H H2 ∧ H2 D = some (.lst (ys.take (i + 1))), fun H2 p' => ⟨xs.length - (i + 1), by omega, rfl, hlt, p'⟩, fun x H2 y => ?_⟩
    obtain ⟨rfl, y⟩ := y
    refine ⟨wipe_set, ?_⟩
    refine E_yes ?_
    refine iteT ?_
    refine hs i x ys[i] H2 (y xs q) (List.getElem?_eq_getElem (by omega)) p1 _ (fun H4 s4 => ?_)
    refine ⟨ys.take i, s4 _ _ p2, ?_, ⟨fun b u e => ?_, ?_⟩⟩
    · rw [List.length_take]
      exact Nat.lt_of_le_of_lt (m := 100000) (by omega) (by decide)
    · rw [upd_ne (ne_of_none e hD)]
      exact s4 b u (p1 b u e)
    · rw [upd_same, List.take_add_one, List.getElem?_eq_getElem (show i < ys.length by omega)]
      rfl
  · have e : i = xs.length := by omega
    subst e
    exact .inl ⟨Nat.le_refl _, hd D H' hD p1 (by rw [p2, ← hlen, List.take_length])⟩
theorem R_pop {p : Addr} {xs : List V} {y : V} (h1 : H p = some (.lst xs)) (h2 : xs[xs.length - 1]? = some y) (h : Q y (upd H p (.lst xs.dropLast))) : rPop (.ref p) [] H Q := ⟨p, xs, y, rfl, rfl, h1, h2, h⟩
theorem R_notN {x : V} (h : Q (.bl (!decide (x = .non))) H) : (fun x y H Q => y = V.non ∧ Q (.bl (!decide (x = .non))) H : R2) x .non H Q := ⟨rfl, h⟩
end
end LF

set_option maxRecDepth 100000
set_option maxHeartbeats 4000000
namespace LF
open PySem PySem.Spec PyProof.Rows L2
/-! ### either of two readings; a list taking a tuple's items; data in a growing heap -/
def tEi (t u : TE) : TE := fun σ H Q => t σ H Q ∨ u σ H Q
theorem pe_or {X : Cx} {e : Expr} {t u : TE} (h1 : PE X e t) (h2 : PE X e u) : PE X e (tEi t u) := ⟨fun pins s σ H Q I h => h.elim (h1.run pins s σ H Q I) (h2.run pins s σ H Q I)⟩
section
variable {σ : L2.St} {H : Hp} {Q : VK} {t u : TE}
theorem E_or1 (h : t σ H Q) : tEi t u σ H Q := .inl h
theorem E_or2 (h : u σ H Q) : tEi t u σ H Q := .inr h
end
open PySem.AutoSeq1 in
theorem list_extT (l : Addr) (items : Array Value) (n : Nat) (b : Addr) (items2 : Array Value) (n2 : Nat) (od : Option Addr) (sl : Array (Option Value)) (hs0 : ¬(!items.isEmpty && Builtin.List.listTooLong (items.size + items2.size)) = true) (hs1 : items.size ≤ sizeLine) (hs2 : items.size + items2.size ≤ sizeLine + 1) :
    Meets (Builtin.«list.extend» ⟨[.ref l, .ref b], []⟩) (fun _ R s => s.heap.get? l = some { cls := .type "list", dict := none, data := .seq items n, slots := #[] } ∧ s.heap.get? b = some { cls := .type "tuple", dict := od, data := .seq items2 n2, slots := sl } ∧ R (.ok (.ret Value.none)) { s with heap := s.heap.update l (Obj.mapSeq fun x => x ++ items2), toks := s.toks }) :=
  .of_wp fun prog w A R s h => by
    obtain ⟨hp, g, d, tk, os⟩ := s; obtain ⟨hl, hb, h⟩ := h; have f1 := idx_int; have f2 := AutoSeq1.sub_tuple_tuple; have f3 := AutoSeq1.sub_list_list; have f4 := AutoSeq1.sub_tuple_list; have f5 := AutoSeq1.sub_list_tuple;
    have hz' : (items ++ items2).size ≤ sizeLine + 1 := by rw [Array.size_append]; exact hs2
    wp_walk using (wpAny_updateSeq hl rfl (hz := hs1) (_hz' := hz')), wpAny_loadPart' hl, wpAny_loadPart' hb; exact ⟨_, rfl, h⟩
def rExtT (K : PySem.W.Frag) : V → List V → Hp → VK → Prop := fun x vs H Q => ∃ l b xs zs, x = .ref l ∧ vs = [.ref b] ∧ H l = some (.lst xs) ∧ SqT K H b zs ∧ xs.length + zs.length ≤ sizeLine ∧ Q .non (upd H l (.lst (xs ++ zs)))
theorem mt_extT {X : Cx} : MtM X "list.extend" (rExtT X.K) := by
  intro pins s σ H x vs v us Q I rx rv h
  obtain ⟨l, b, xs, zs, rfl, rfl, hH, hB, hz, q⟩ := h
  cases rx
  obtain ⟨u, rfl, ru⟩ := rv.one
  cases ru
  obtain ⟨z, its, n, r, hl, e⟩ := I.lstM hH
  obtain ⟨its2, r2, ⟨⟨oc, od, dt, sl⟩, e2, hc, n2, hd⟩, z2⟩ := I.tuple hB
  have hl2 := r2.length
  have hsz : its.toArray.size + its2.toArray.size ≤ sizeLine := by rw [List.size_toArray, List.size_toArray]; omega
  have hlong : ¬ (!its.toArray.isEmpty && Builtin.List.listTooLong (its.toArray.size + its2.toArray.size)) = true := by
    rw [notLongL hsz, Bool.and_false]
    exact Bool.false_ne_true
  simp only at hc hd
  subst hc hd
  refine call_meets F.slot_list_extend ⟨_, e, rfl⟩ F.entry_list_extend (F.args_list_extend_2 _ _)
    (list_extT l its.toArray n b its2.toArray n2 od sl hlong (by rw [List.size_toArray]; omega) (by omega)) ⟨e, e2, ?_⟩
  refine ⟨.non, _, I.lset (its' := its ++ its2) hH e (by simp) (r.append r2) ?_, rfl, q⟩
  rw [List.length_append]
  omega
theorem mt_extTK {X : Cx} {K : PySem.W.Frag} (hK : X.K = K) : MtM X "list.extend" (rExtT K) := by subst hK; exact mt_extT
theorem sqT_same {K : PySem.W.Frag} {H H' : Hp} {a : Addr} {xs : List V} (e : Same H H') (h : SqT K H a xs) : SqT K H' a xs := by
  rcases h with (h | ⟨o, h⟩) | h
  · exact .inl (.inl (e _ _ h))
  · exact .inl (.inr ⟨o, e _ _ h⟩)
  · exact .inr h
mutual
theorem Dp.mono {K : PySem.W.Frag} {H H' : Hp} (s : Same H H') : ∀ {v : V} {d : PyData}, Dp K H v d → Dp K H' v d
  | _, _, .non => .non
  | _, _, .bl b => .bl b
  | _, _, .int i => .int i
  | _, _, .str x => .str x
  | _, _, .lst h a => .lst (s.seq h) (DpAll.mono s a)
  | _, _, .tup h a => .tup (sqT_same s h) (DpAll.mono s a)
theorem DpAll.mono {K : PySem.W.Frag} {H H' : Hp} (s : Same H H') : ∀ {vs : List V} {ds : List PyData}, DpAll K H vs ds → DpAll K H' vs ds
  | _, _, .nil => .nil
  | _, _, .cons h t => .cons (Dp.mono s h) (DpAll.mono s t)
end
end LF

set_option maxRecDepth 100000
set_option maxHeartbeats 4000000
namespace LF
open PySem PySem.Spec PyProof.Rows L2
/-! ### the text by places -/
def top (i : Nat) : Stmt := PySem.Challenge.pw_lastfew_k30_whole_woken.main.body.getD i (.Pass ⟨0, 0, 0, 0⟩)
abbrev s_placed : Stmt := top 9
abbrev s_Tally_init : Stmt := inClass (top 10) 0
abbrev s_Tally_add : Stmt := inClass (top 10) 1
abbrev s_Tally_drop : Stmt := inClass (top 10) 2
abbrev s_Tally_word : Stmt := inClass (top 10) 3
abbrev s_Tally_one : Stmt := inClass (top 10) 4
abbrev s_Tally_rising : Stmt := inClass (top 10) 5
abbrev s_Tally_mark : Stmt := inClass (top 10) 6
abbrev s_look_size : Stmt := top 14
abbrev s_Window_init : Stmt := inClass (top 15) 0
abbrev s_Window_put : Stmt := inClass (top 15) 1
abbrev s_Window_things : Stmt := inClass (top 15) 2
abbrev s_Window_word : Stmt := inClass (top 15) 3
abbrev s_Timed_init : Stmt := inClass (top 16) 0
abbrev s_Timed_time : Stmt := inClass (top 16) 1
abbrev s_Timed_go_on : Stmt := inClass (top 16) 2
abbrev s_Timed_put : Stmt := inClass (top 16) 3
abbrev s_Timed_things : Stmt := inClass (top 16) 4
abbrev s_Timed_word : Stmt := inClass (top 16) 5
abbrev s_behind : Stmt := top 17
abbrev s_Maps_init : Stmt := inClass (top 18) 0
abbrev s_Maps_put : Stmt := inClass (top 18) 1
abbrev s_Maps_turn : Stmt := inClass (top 18) 2
abbrev s_Maps_whole : Stmt := inClass (top 18) 3
abbrev s_Maps_maps : Stmt := inClass (top 18) 4
abbrev s_Maps_at : Stmt := inClass (top 18) 5
abbrev s_Groups_init : Stmt := inClass (top 20) 0
abbrev s_Groups_put : Stmt := inClass (top 20) 1
abbrev s_Groups_used : Stmt := inClass (top 20) 2
abbrev s_Groups_need : Stmt := inClass (top 20) 3
abbrev s_Groups_things : Stmt := inClass (top 20) 4
abbrev s_Groups_word : Stmt := inClass (top 20) 5
abbrev s_saved : Stmt := top 22
abbrev s_woken : Stmt := top 23
abbrev s_woken_timed : Stmt := top 24
abbrev s_woken_groups : Stmt := top 25
abbrev s_l_cell : Stmt := top 27
abbrev s_l_mix : Stmt := top 28
abbrev s_l_whole : Stmt := top 29
abbrev s_l_thing : Stmt := top 30
abbrev s_l_names : Stmt := top 31
abbrev s_l_word : Stmt := top 32
abbrev s_l_rising : Stmt := top 33
abbrev s_l_is : Stmt := top 34
abbrev s_l_all : Stmt := top 35
abbrev s_l_put : Stmt := top 36
abbrev s_l_told : Stmt := top 37
abbrev s_l_room : Stmt := top 38
abbrev s_law : Stmt := top 39
theorem sc_placed : FnScope ["ranks", "thing", "low", "high", "middle"] ["ranks", "thing"] (defScope s_placed) := ⟨rfl, rfl, rfl, by decide +kernel, rfl, by decide +kernel, by decide +kernel⟩
theorem sc_Tally_init : FnScope ["self"] ["self"] (defScope s_Tally_init) := ⟨rfl, rfl, rfl, by decide +kernel, rfl, by decide +kernel, by decide +kernel⟩
theorem sc_Tally_add : FnScope ["self", "thing", "place"] ["self", "thing"] (defScope s_Tally_add) := ⟨rfl, rfl, rfl, by decide +kernel, rfl, by decide +kernel, by decide +kernel⟩
theorem sc_Tally_drop : FnScope ["self", "thing", "place"] ["self"] (defScope s_Tally_drop) := ⟨rfl, rfl, rfl, by decide +kernel, rfl, by decide +kernel, by decide +kernel⟩
theorem sc_Tally_word : FnScope ["self", "name"] ["self", "name"] (defScope s_Tally_word) := ⟨rfl, rfl, rfl, by decide +kernel, rfl, by decide +kernel, by decide +kernel⟩
theorem sc_Tally_one : FnScope ["self", "name", "thing"] ["self", "name"] (defScope s_Tally_one) := ⟨rfl, rfl, rfl, by decide +kernel, rfl, by decide +kernel, by decide +kernel⟩
theorem sc_Tally_rising : FnScope ["self", "best", "run", "k"] ["self"] (defScope s_Tally_rising) := ⟨rfl, rfl, rfl, by decide +kernel, rfl, by decide +kernel, by decide +kernel⟩
theorem sc_Tally_mark : FnScope ["self", "found", "thing"] ["self"] (defScope s_Tally_mark) := ⟨rfl, rfl, rfl, by decide +kernel, rfl, by decide +kernel, by decide +kernel⟩
theorem sc_look_size : FnScope ["size"] ["size"] (defScope s_look_size) := ⟨rfl, rfl, rfl, by decide +kernel, rfl, by decide +kernel, by decide +kernel⟩
theorem sc_Window_init : FnScope ["self", "size"] ["self", "size"] (defScope s_Window_init) := ⟨rfl, rfl, rfl, by decide +kernel, rfl, by decide +kernel, by decide +kernel⟩
theorem sc_Window_put : FnScope ["self", "thing", "gone"] ["self", "thing"] (defScope s_Window_put) := ⟨rfl, rfl, rfl, by decide +kernel, rfl, by decide +kernel, by decide +kernel⟩
theorem sc_Window_things : FnScope ["self"] ["self"] (defScope s_Window_things) := ⟨rfl, rfl, rfl, by decide +kernel, rfl, by decide +kernel, by decide +kernel⟩
theorem sc_Window_word : FnScope ["self", "name"] ["self", "name"] (defScope s_Window_word) := ⟨rfl, rfl, rfl, by decide +kernel, rfl, by decide +kernel, by decide +kernel⟩
theorem sc_Timed_init : FnScope ["self", "span"] ["self", "span"] (defScope s_Timed_init) := ⟨rfl, rfl, rfl, by decide +kernel, rfl, by decide +kernel, by decide +kernel⟩
theorem sc_Timed_time : FnScope ["self"] ["self"] (defScope s_Timed_time) := ⟨rfl, rfl, rfl, by decide +kernel, rfl, by decide +kernel, by decide +kernel⟩
theorem sc_Timed_go_on : FnScope ["self", "time", "gone"] ["self", "time"] (defScope s_Timed_go_on) := ⟨rfl, rfl, rfl, by decide +kernel, rfl, by decide +kernel, by decide +kernel⟩
theorem sc_Timed_put : FnScope ["self", "time", "thing", "gone"] ["self", "time", "thing"] (defScope s_Timed_put) := ⟨rfl, rfl, rfl, by decide +kernel, rfl, by decide +kernel, by decide +kernel⟩
theorem sc_Timed_things : FnScope ["self"] ["self"] (defScope s_Timed_things) := ⟨rfl, rfl, rfl, by decide +kernel, rfl, by decide +kernel, by decide +kernel⟩
theorem sc_Timed_word : FnScope ["self", "name"] ["self", "name"] (defScope s_Timed_word) := ⟨rfl, rfl, rfl, by decide +kernel, rfl, by decide +kernel, by decide +kernel⟩
theorem sc_behind : FnScope ["one", "other"] ["one", "other"] (defScope s_behind) := ⟨rfl, rfl, rfl, by decide +kernel, rfl, by decide +kernel, by decide +kernel⟩
theorem sc_Maps_init : FnScope ["self", "size"] ["self", "size"] (defScope s_Maps_init) := ⟨rfl, rfl, rfl, by decide +kernel, rfl, by decide +kernel, by decide +kernel⟩
theorem sc_Maps_put : FnScope ["self", "times", "more", "one"] ["self", "times", "more"] (defScope s_Maps_put) := ⟨rfl, rfl, rfl, by decide +kernel, rfl, by decide +kernel, by decide +kernel⟩
theorem sc_Maps_turn : FnScope ["self", "found", "one"] ["self"] (defScope s_Maps_turn) := ⟨rfl, rfl, rfl, by decide +kernel, rfl, by decide +kernel, by decide +kernel⟩
theorem sc_Maps_whole : FnScope ["self"] ["self"] (defScope s_Maps_whole) := ⟨rfl, rfl, rfl, by decide +kernel, rfl, by decide +kernel, by decide +kernel⟩
theorem sc_Maps_maps : FnScope ["self", "pair"] ["self"] (defScope s_Maps_maps) := ⟨rfl, rfl, rfl, by decide +kernel, rfl, by decide +kernel, by decide +kernel⟩
theorem sc_Maps_at : FnScope ["self", "number", "one"] ["self", "number"] (defScope s_Maps_at) := ⟨rfl, rfl, rfl, by decide +kernel, rfl, by decide +kernel, by decide +kernel⟩
theorem sc_Groups_init : FnScope ["self", "size", "most"] ["self", "size", "most"] (defScope s_Groups_init) := ⟨rfl, rfl, rfl, by decide +kernel, rfl, by decide +kernel, by decide +kernel⟩
theorem sc_Groups_put : FnScope ["self", "key", "thing", "gone"] ["self", "key", "thing"] (defScope s_Groups_put) := ⟨rfl, rfl, rfl, by decide +kernel, rfl, by decide +kernel, by decide +kernel⟩
theorem sc_Groups_used : FnScope ["self"] ["self"] (defScope s_Groups_used) := ⟨rfl, rfl, rfl, by decide +kernel, rfl, by decide +kernel, by decide +kernel⟩
theorem sc_Groups_need : FnScope ["self", "key"] ["self", "key"] (defScope s_Groups_need) := ⟨rfl, rfl, rfl, by decide +kernel, rfl, by decide +kernel, by decide +kernel⟩
theorem sc_Groups_things : FnScope ["self", "key"] ["self", "key"] (defScope s_Groups_things) := ⟨rfl, rfl, rfl, by decide +kernel, rfl, by decide +kernel, by decide +kernel⟩
theorem sc_Groups_word : FnScope ["self", "key", "name"] ["self", "key", "name"] (defScope s_Groups_word) := ⟨rfl, rfl, rfl, by decide +kernel, rfl, by decide +kernel, by decide +kernel⟩
theorem sc_saved : FnScope ["kept", "found", "one", "key", "row"] ["kept"] (defScope s_saved) := ⟨rfl, rfl, rfl, by decide +kernel, rfl, by decide +kernel, by decide +kernel⟩
theorem sc_woken : FnScope ["numbers", "rest", "window", "thing", "maps", "k"] ["numbers"] (defScope s_woken) := ⟨rfl, rfl, rfl, by decide +kernel, rfl, by decide +kernel, by decide +kernel⟩
theorem sc_woken_timed : FnScope ["span", "now", "rest", "timed", "many", "k"] ["span", "now", "rest"] (defScope s_woken_timed) := ⟨rfl, rfl, rfl, by decide +kernel, rfl, by decide +kernel, by decide +kernel⟩
theorem sc_woken_groups : FnScope ["size", "most", "rest", "groups", "at", "thing"] ["size", "most", "rest"] (defScope s_woken_groups) := ⟨rfl, rfl, rfl, by decide +kernel, rfl, by decide +kernel, by decide +kernel⟩
theorem sc_l_cell : FnScope ["_law_script", "_law_k"] ["_law_script", "_law_k"] (defScope s_l_cell) := ⟨rfl, rfl, rfl, by decide +kernel, rfl, by decide +kernel, by decide +kernel⟩
theorem sc_l_mix : FnScope ["_law_script", "_law_k", "_law_number"] ["_law_script", "_law_k"] (defScope s_l_mix) := ⟨rfl, rfl, rfl, by decide +kernel, rfl, by decide +kernel, by decide +kernel⟩
theorem sc_l_whole : FnScope ["_law_found"] ["_law_found"] (defScope s_l_whole) := ⟨rfl, rfl, rfl, by decide +kernel, rfl, by decide +kernel, by decide +kernel⟩
theorem sc_l_thing : FnScope ["_law_script", "_law_k", "_law_number", "_law_some"] ["_law_script", "_law_k"] (defScope s_l_thing) := ⟨rfl, rfl, rfl, by decide +kernel, rfl, by decide +kernel, by decide +kernel⟩
theorem sc_l_names : FnScope ["_law_found"] [] (defScope s_l_names) := ⟨rfl, rfl, rfl, by decide +kernel, rfl, by decide +kernel, by decide +kernel⟩
theorem sc_l_word : FnScope ["_law_row", "_law_name", "_law_other", "_law_k", "_law_found", "_law_thing_here"] ["_law_row", "_law_name"] (defScope s_l_word) := ⟨rfl, rfl, rfl, by decide +kernel, rfl, by decide +kernel, by decide +kernel⟩
theorem sc_l_rising : FnScope ["_law_row", "_law_best", "_law_k", "_law_end"] ["_law_row"] (defScope s_l_rising) := ⟨rfl, rfl, rfl, by decide +kernel, rfl, by decide +kernel, by decide +kernel⟩
theorem sc_l_is : FnScope ["_law_found", "_law_due"] ["_law_found", "_law_due"] (defScope s_l_is) := ⟨rfl, rfl, rfl, by decide +kernel, rfl, by decide +kernel, by decide +kernel⟩
theorem sc_l_all : FnScope ["_law_kept", "_law_row", "_law_name"] ["_law_kept", "_law_row"] (defScope s_l_all) := ⟨rfl, rfl, rfl, by decide +kernel, rfl, by decide +kernel, by decide +kernel⟩
theorem sc_l_put : FnScope ["_law_way", "_law_kept", "_law_script", "_law_k", "_law_thing_here", "_law_number", "_law_time"] ["_law_way", "_law_kept", "_law_script", "_law_k"] (defScope s_l_put) := ⟨rfl, rfl, rfl, by decide +kernel, rfl, by decide +kernel, by decide +kernel⟩
theorem sc_l_told : FnScope ["_law_way", "_law_kept", "_law_names_here", "_law_name", "_law_key", "_law_time"] ["_law_way", "_law_kept"] (defScope s_l_told) := ⟨rfl, rfl, rfl, by decide +kernel, rfl, by decide +kernel, by decide +kernel⟩
theorem sc_l_room : FnScope ["_law_way", "_law_kept", "_law_key"] ["_law_way", "_law_kept"] (defScope s_l_room) := ⟨rfl, rfl, rfl, by decide +kernel, rfl, by decide +kernel, by decide +kernel⟩
theorem sc_law : FnScope ["_law_script", "_law_way", "_law_size", "_law_kept", "_law_k", "_law_numbers", "_law_one", "_law_other", "_law_before"] ["_law_script"] (defScope s_law) := ⟨rfl, rfl, rfl, by decide +kernel, rfl, by decide +kernel, by decide +kernel⟩
def clsN : List Str := ["Window", "Timed", "Maps", "Groups"]
/-- what isinstance asks of the own classes -/
def xtra (K : PySem.W.Frag) : Bool := (clsN.all fun C => He.eqO (PySem.W.findIn K (.ref (He.ga K C)) "__class__") (some (some (.builtin "object.__class__"))) && (decide (PySem.W.mroIn K (He.ga K C) (.type "object") = some true) && clsN.all fun D => decide (PySem.W.kitOne K (.ref (He.ga K C)) (.ref (He.ga K D)) = some (decide (C = D))))) &&
  (He.eqO (PySem.W.specialIn K (.builtin "object.__class__") "__get__") (some (some (.builtin "getset_descriptor.__get__"))) && decide (PySem.W.takesIn K (.builtin "object.__class__") = some true))
/-- what the top has written -/
structure Txt (K : PySem.W.Frag) (mg : Str → Option Value) (D : Str × Option Str → FuncData) : Prop where
  cTally : ClAt K mg "Tally"
  cWindow : ClAt K mg "Window"
  cTimed : ClAt K mg "Timed"
  cMaps : ClAt K mg "Maps"
  cGroups : ClAt K mg "Groups"
  placed : FnAt K mg D "placed" s_placed ["ranks", "thing"]
  Tally_init : MtAt K D "Tally" "__init__" "Tally.__init__" s_Tally_init ["self"]
  Tally_add : MtAt K D "Tally" "add" "Tally.add" s_Tally_add ["self", "thing"]
  Tally_drop : MtAt K D "Tally" "drop" "Tally.drop" s_Tally_drop ["self"]
  Tally_word : MtAt K D "Tally" "word" "Tally.word" s_Tally_word ["self", "name"]
  Tally_one : MtAt K D "Tally" "one" "Tally.one" s_Tally_one ["self", "name"]
  Tally_rising : MtAt K D "Tally" "rising" "Tally.rising" s_Tally_rising ["self"]
  Tally_mark : MtAt K D "Tally" "mark" "Tally.mark" s_Tally_mark ["self"]
  look_size : FnAt K mg D "look_size" s_look_size ["size"]
  Window_init : MtAt K D "Window" "__init__" "Window.__init__" s_Window_init ["self", "size"]
  Window_put : MtAt K D "Window" "put" "Window.put" s_Window_put ["self", "thing"]
  Window_things : MtAt K D "Window" "things" "Window.things" s_Window_things ["self"]
  Window_word : MtAt K D "Window" "word" "Window.word" s_Window_word ["self", "name"]
  Timed_init : MtAt K D "Timed" "__init__" "Timed.__init__" s_Timed_init ["self", "span"]
  Timed_time : MtAt K D "Timed" "time" "Timed.time" s_Timed_time ["self"]
  Timed_go_on : MtAt K D "Timed" "go_on" "Timed.go_on" s_Timed_go_on ["self", "time"]
  Timed_put : MtAt K D "Timed" "put" "Timed.put" s_Timed_put ["self", "time", "thing"]
  Timed_things : MtAt K D "Timed" "things" "Timed.things" s_Timed_things ["self"]
  Timed_word : MtAt K D "Timed" "word" "Timed.word" s_Timed_word ["self", "name"]
  behind : FnAt K mg D "behind" s_behind ["one", "other"]
  Maps_init : MtAt K D "Maps" "__init__" "Maps.__init__" s_Maps_init ["self", "size"]
  Maps_put : MtAt K D "Maps" "put" "Maps.put" s_Maps_put ["self", "times", "more"]
  Maps_turn : MtAt K D "Maps" "turn" "Maps.turn" s_Maps_turn ["self"]
  Maps_whole : MtAt K D "Maps" "whole" "Maps.whole" s_Maps_whole ["self"]
  Maps_maps : MtAt K D "Maps" "maps" "Maps.maps" s_Maps_maps ["self"]
  Maps_at : MtAt K D "Maps" "at" "Maps.at" s_Maps_at ["self", "number"]
  Groups_init : MtAt K D "Groups" "__init__" "Groups.__init__" s_Groups_init ["self", "size", "most"]
  Groups_put : MtAt K D "Groups" "put" "Groups.put" s_Groups_put ["self", "key", "thing"]
  Groups_used : MtAt K D "Groups" "used" "Groups.used" s_Groups_used ["self"]
  Groups_need : MtAt K D "Groups" "need" "Groups.need" s_Groups_need ["self", "key"]
  Groups_things : MtAt K D "Groups" "things" "Groups.things" s_Groups_things ["self", "key"]
  Groups_word : MtAt K D "Groups" "word" "Groups.word" s_Groups_word ["self", "key", "name"]
  saved : FnAt K mg D "saved" s_saved ["kept"]
  woken : FnAt K mg D "woken" s_woken ["numbers"]
  woken_timed : FnAt K mg D "woken_timed" s_woken_timed ["span", "now", "rest"]
  woken_groups : FnAt K mg D "woken_groups" s_woken_groups ["size", "most", "rest"]
  l_cell : FnAt K mg D "_law_cell" s_l_cell ["_law_script", "_law_k"]
  l_mix : FnAt K mg D "_law_mix" s_l_mix ["_law_script", "_law_k"]
  l_whole : FnAt K mg D "_law_whole" s_l_whole ["_law_found"]
  l_thing : FnAt K mg D "_law_thing" s_l_thing ["_law_script", "_law_k"]
  l_names : FnAt K mg D "_law_names" s_l_names []
  l_word : FnAt K mg D "_law_word" s_l_word ["_law_row", "_law_name"]
  l_rising : FnAt K mg D "_law_rising" s_l_rising ["_law_row"]
  l_is : FnAt K mg D "_law_is" s_l_is ["_law_found", "_law_due"]
  l_all : FnAt K mg D "_law_all" s_l_all ["_law_kept", "_law_row"]
  l_put : FnAt K mg D "_law_put" s_l_put ["_law_way", "_law_kept", "_law_script", "_law_k"]
  l_told : FnAt K mg D "_law_told" s_l_told ["_law_way", "_law_kept"]
  l_room : FnAt K mg D "_law_room" s_l_room ["_law_way", "_law_kept"]
  law : FnAt K mg D "law" s_law ["_law_script"]
  n_Tally_row : NoAttr K (He.ga K "Tally") "row"
  n_Tally_ranks : NoAttr K (He.ga K "Tally") "ranks"
  n_Tally_often : NoAttr K (He.ga K "Tally") "often"
  n_Tally_total : NoAttr K (He.ga K "Tally") "total"
  n_Tally_pairs : NoAttr K (He.ga K "Tally") "pairs"
  n_Window_size : NoAttr K (He.ga K "Window") "size"
  n_Window_tally : NoAttr K (He.ga K "Window") "tally"
  n_Timed_span : NoAttr K (He.ga K "Timed") "span"
  n_Timed_now : NoAttr K (He.ga K "Timed") "now"
  n_Timed_times : NoAttr K (He.ga K "Timed") "times"
  n_Timed_tally : NoAttr K (He.ga K "Timed") "tally"
  n_Maps_size : NoAttr K (He.ga K "Maps") "size"
  n_Maps_old : NoAttr K (He.ga K "Maps") "old"
  n_Maps_new : NoAttr K (He.ga K "Maps") "new"
  n_Maps_last : NoAttr K (He.ga K "Maps") "last"
  n_Groups_size : NoAttr K (He.ga K "Groups") "size"
  n_Groups_most : NoAttr K (He.ga K "Groups") "most"
  n_Groups_order : NoAttr K (He.ga K "Groups") "order"
  n_Groups_windows : NoAttr K (He.ga K "Groups") "windows"
  c_MARK_TIMES : ∃ t, mg "MARK_TIMES" = some (.int 31 t)
  c_MARK_ROUND : ∃ t, mg "MARK_ROUND" = some (.int 1000003 t)
  c_MOST : ∃ t, mg "MOST" = some (.int 1000 t)
  c_ROUND : ∃ t, mg "ROUND" = some (.int 1000003 t)
  z_len : mg "len" = none
  z_max : mg "max" = none
  z_min : mg "min" = none
  z_sum : mg "sum" = none
  z_all : mg "all" = none
  z_sorted : mg "sorted" = none
  z_isinstance : mg "isinstance" = none
  z_list : mg "list" = none
  z_int : mg "int" = none
  z_set : mg "set" = none
  z_range : mg "range" = none
  z_reversed : mg "reversed" = none
  z_bool : mg "bool" = none
  x : xtra K = true
end LF

set_option maxRecDepth 100000
set_option maxHeartbeats 4000000
namespace LF
open PySem PySem.Spec PyProof.Rows L2

/-! ### a Tally's fields -/
theorem lk_eq {x : Str} {v : V} {l : List (Str × V)} : ((x, v) :: l).lookup x = some v := by simp [List.lookup]
theorem lk_ne {x y : Str} {v : V} {l : List (Str × V)} (h : x ≠ y) : ((y, v) :: l).lookup x = l.lookup x := by
  have e : (x == y) = false := by simpa using h
  simp [List.lookup, e]
theorem pf_eq {f : Str} {y v : V} {l : List (Str × V)} : putF f y ((f, v) :: l) = (f, y) :: l := if_pos rfl
theorem pf_ne {f g : Str} {y v : V} {l : List (Str × V)} (h : g ≠ f) : putF f y ((g, v) :: l) = (g, v) :: putF f y l := if_neg h
theorem pf_cons {f g : Str} {y v : V} {l l' : List (Str × V)} (h : g ≠ f) (e : putF f y l = l') : putF f y ((g, v) :: l) = (g, v) :: l' := by rw [pf_ne h, e]
theorem pf_nil {f : Str} {y : V} : putF f y [] = [(f, y)] := rfl
def tfl (r k o : Addr) (T P : Int) : List (Str × V) := [("row", .ref r), ("ranks", .ref k), ("often", .ref o), ("total", .int T), ("pairs", .int P)]
theorem tfl_row (r k o : Addr) (T P : Int) : (tfl r k o T P).lookup ("row" : Str) = some (.ref r) := lk_eq
theorem tfl_ranks (r k o : Addr) (T P : Int) : (tfl r k o T P).lookup ("ranks" : Str) = some (.ref k) := (lk_ne (by decide +kernel)).trans lk_eq
theorem tfl_often (r k o : Addr) (T P : Int) : (tfl r k o T P).lookup ("often" : Str) = some (.ref o) := (lk_ne (by decide +kernel)).trans ((lk_ne (by decide +kernel)).trans lk_eq)
theorem tfl_total (r k o : Addr) (T P : Int) : (tfl r k o T P).lookup ("total" : Str) = some (.int T) := (lk_ne (by decide +kernel)).trans ((lk_ne (by decide +kernel)).trans ((lk_ne (by decide +kernel)).trans lk_eq))
theorem tfl_pairs (r k o : Addr) (T P : Int) : (tfl r k o T P).lookup ("pairs" : Str) = some (.int P) := (lk_ne (by decide +kernel)).trans ((lk_ne (by decide +kernel)).trans ((lk_ne (by decide +kernel)).trans ((lk_ne (by decide +kernel)).trans lk_eq)))
theorem tfl_no (r k o : Addr) (T P : Int) {m : Str} (h : m ∉ ([("row" : Str), "ranks", "often", "total", "pairs"] : List Str)) : (tfl r k o T P).lookup m = none := by
  simp only [List.mem_cons, not_or] at h
  obtain ⟨h1, h2, h3, h4, h5, _⟩ := h
  exact (lk_ne h1).trans ((lk_ne h2).trans ((lk_ne h3).trans ((lk_ne h4).trans ((lk_ne h5).trans rfl))))
theorem tfl_setT (r k o : Addr) (T P y : Int) : putF "total" (.int y) (tfl r k o T P) = tfl r k o y P := by
  unfold tfl
  rw [pf_ne (by decide +kernel), pf_ne (by decide +kernel), pf_ne (by decide +kernel), pf_eq]
theorem tfl_setP (r k o : Addr) (T P y : Int) : putF "pairs" (.int y) (tfl r k o T P) = tfl r k o T y := by
  unfold tfl
  rw [pf_ne (by decide +kernel), pf_ne (by decide +kernel), pf_ne (by decide +kernel), pf_ne (by decide +kernel), pf_eq]

def wfl (n : Int) (t : Addr) : List (Str × V) := [("size", .int n), ("tally", .ref t)]
theorem wfl_size (n : Int) (t : Addr) : (wfl n t).lookup ("size" : Str) = some (.int n) := lk_eq
theorem wfl_tally (n : Int) (t : Addr) : (wfl n t).lookup ("tally" : Str) = some (.ref t) := (lk_ne (by decide +kernel)).trans lk_eq
theorem wfl_no (n : Int) (t : Addr) {m : Str} (h : m ∉ ([("size" : Str), "tally"] : List Str)) : (wfl n t).lookup m = none := by
  simp only [List.mem_cons, not_or] at h
  obtain ⟨h1, h2, _⟩ := h
  exact (lk_ne h1).trans ((lk_ne h2).trans rfl)

def zfl (n now : Int) (tm t : Addr) : List (Str × V) := [("span", .int n), ("now", .int now), ("times", .ref tm), ("tally", .ref t)]
theorem zfl_span (n now : Int) (tm t : Addr) : (zfl n now tm t).lookup ("span" : Str) = some (.int n) := lk_eq
theorem zfl_now (n now : Int) (tm t : Addr) : (zfl n now tm t).lookup ("now" : Str) = some (.int now) := (lk_ne (by decide +kernel)).trans lk_eq
theorem zfl_times (n now : Int) (tm t : Addr) : (zfl n now tm t).lookup ("times" : Str) = some (.ref tm) := (lk_ne (by decide +kernel)).trans ((lk_ne (by decide +kernel)).trans lk_eq)
theorem zfl_tally (n now : Int) (tm t : Addr) : (zfl n now tm t).lookup ("tally" : Str) = some (.ref t) := (lk_ne (by decide +kernel)).trans ((lk_ne (by decide +kernel)).trans ((lk_ne (by decide +kernel)).trans lk_eq))
theorem zfl_no (n now : Int) (tm t : Addr) {m : Str} (h : m ∉ ([("span" : Str), "now", "times", "tally"] : List Str)) : (zfl n now tm t).lookup m = none := by
  simp only [List.mem_cons, not_or] at h
  obtain ⟨h1, h2, h3, h4, _⟩ := h
  exact (lk_ne h1).trans ((lk_ne h2).trans ((lk_ne h3).trans ((lk_ne h4).trans rfl)))
theorem zfl_set (n now x : Int) (tm t : Addr) : putF "now" (.int x) (zfl n now tm t) = zfl n x tm t := by
  unfold zfl
  rw [pf_ne (by decide +kernel), pf_eq]

def mfl (n : Int) (oa : Addr) (na : Addr) (la : Addr) : List (Str × V) := [("size", .int n), ("old", .ref oa), ("new", .ref na), ("last", .ref la)]
theorem mfl_size (n : Int) (oa : Addr) (na : Addr) (la : Addr) : (mfl n oa na la).lookup ("size" : Str) = some (.int n) := lk_eq
theorem mfl_old (n : Int) (oa : Addr) (na : Addr) (la : Addr) : (mfl n oa na la).lookup ("old" : Str) = some (.ref oa) := (lk_ne (by decide +kernel)).trans lk_eq
theorem mfl_new (n : Int) (oa : Addr) (na : Addr) (la : Addr) : (mfl n oa na la).lookup ("new" : Str) = some (.ref na) := (lk_ne (by decide +kernel)).trans ((lk_ne (by decide +kernel)).trans lk_eq)
theorem mfl_last (n : Int) (oa : Addr) (na : Addr) (la : Addr) : (mfl n oa na la).lookup ("last" : Str) = some (.ref la) := (lk_ne (by decide +kernel)).trans ((lk_ne (by decide +kernel)).trans ((lk_ne (by decide +kernel)).trans lk_eq))
theorem mfl_no (n : Int) (oa : Addr) (na : Addr) (la : Addr) {m : Str} (h : m ∉ ([("size" : Str), "old", "new", "last"] : List Str)) : (mfl n oa na la).lookup m = none := by
  simp only [List.mem_cons, not_or] at h
  obtain ⟨h1, h2, h3, h4, _⟩ := h
  exact (lk_ne h1).trans ((lk_ne h2).trans ((lk_ne h3).trans ((lk_ne h4).trans (rfl))))
theorem mfl_set_new (n : Int) (oa : Addr) (na : Addr) (la : Addr) (y : Addr) : putF "new" (.ref y) (mfl n oa na la) = mfl n oa y la := by
  unfold mfl
  rw [pf_ne (by decide +kernel), pf_ne (by decide +kernel), pf_eq]
theorem mfl_set_last (n : Int) (oa : Addr) (na : Addr) (la : Addr) (y : Addr) : putF "last" (.ref y) (mfl n oa na la) = mfl n oa na y := by
  unfold mfl
  rw [pf_ne (by decide +kernel), pf_ne (by decide +kernel), pf_ne (by decide +kernel), pf_eq]
def gfl (n : Int) (mo : Int) (oa : Addr) (wa : Addr) : List (Str × V) := [("size", .int n), ("most", .int mo), ("order", .ref oa), ("windows", .ref wa)]
theorem gfl_size (n : Int) (mo : Int) (oa : Addr) (wa : Addr) : (gfl n mo oa wa).lookup ("size" : Str) = some (.int n) := lk_eq
theorem gfl_most (n : Int) (mo : Int) (oa : Addr) (wa : Addr) : (gfl n mo oa wa).lookup ("most" : Str) = some (.int mo) := (lk_ne (by decide +kernel)).trans lk_eq
theorem gfl_order (n : Int) (mo : Int) (oa : Addr) (wa : Addr) : (gfl n mo oa wa).lookup ("order" : Str) = some (.ref oa) := (lk_ne (by decide +kernel)).trans ((lk_ne (by decide +kernel)).trans lk_eq)
theorem gfl_windows (n : Int) (mo : Int) (oa : Addr) (wa : Addr) : (gfl n mo oa wa).lookup ("windows" : Str) = some (.ref wa) := (lk_ne (by decide +kernel)).trans ((lk_ne (by decide +kernel)).trans ((lk_ne (by decide +kernel)).trans lk_eq))
theorem gfl_no (n : Int) (mo : Int) (oa : Addr) (wa : Addr) {m : Str} (h : m ∉ ([("size" : Str), "most", "order", "windows"] : List Str)) : (gfl n mo oa wa).lookup m = none := by
  simp only [List.mem_cons, not_or] at h
  obtain ⟨h1, h2, h3, h4, _⟩ := h
  exact (lk_ne h1).trans ((lk_ne h2).trans ((lk_ne h3).trans ((lk_ne h4).trans (rfl))))

/-! ### how often each is there -/
structure OftenOk (kvs : List (Key × V)) (row : List Int) : Prop where
  nd : (kvs.map (·.1)).Nodup
  at_ : ∀ n : Int, valV kvs (.inl n) = if row.count n = 0 then none else some (.int (row.count n : Nat))
  no : ∀ z : Str, valV kvs (.inr z) = none
theorem OftenOk.keys {kvs : List (Key × V)} {row : List Int} (h : OftenOk kvs row) : ∀ q ∈ kvs, ∃ n : Int, q = (.inl n, .int (row.count n : Nat)) ∧ n ∈ row := by
  intro q hq
  have e := val_nodup h.nd q hq
  obtain ⟨a, v⟩ := q
  cases a with
  | inl n =>
    have e2 : valV kvs (Sum.inl n) = some v := e
    rw [h.at_ n] at e2
    by_cases hc : row.count n = 0
    · rw [if_pos hc] at e2
      cases e2
    · rw [if_neg hc] at e2
      have e3 := Option.some.inj e2
      subst e3
      exact ⟨n, rfl, List.count_pos_iff.mp (by omega)⟩
  | inr z =>
    have e2 : valV kvs (Sum.inr z) = some v := e
    rw [h.no z] at e2
    cases e2
def kInt : Key → Int
  | .inl n => n
  | .inr _ => 0
theorem OftenOk.names {kvs : List (Key × V)} {row : List Int} (h : OftenOk kvs row) : kvs.map (·.1) = (kvs.map fun q => kInt q.1).map Sum.inl := by
  rw [List.map_map]
  refine List.map_congr_left fun q hq => ?_
  obtain ⟨n, rfl, _⟩ := h.keys q hq
  rfl
theorem nodup_of_map {α β : Type} (f : α → β) : ∀ {l : List α}, (l.map f).Nodup → l.Nodup
  | [], _ => List.nodup_nil
  | a :: r, h => by
    obtain ⟨h1, h2⟩ := List.nodup_cons.mp h
    exact List.nodup_cons.mpr ⟨fun m => h1 (List.mem_map.mpr ⟨a, m, rfl⟩), nodup_of_map f h2⟩
theorem OftenOk.ints_nd {kvs : List (Key × V)} {row : List Int} (h : OftenOk kvs row) : (kvs.map fun q => kInt q.1).Nodup := by
  have n := h.nd
  rw [h.names] at n
  exact nodup_of_map _ n
theorem OftenOk.ints_mem {kvs : List (Key × V)} {row : List Int} (h : OftenOk kvs row) (x : Int) : x ∈ (kvs.map fun q => kInt q.1) ↔ x ∈ row := by
  constructor
  · intro hx
    obtain ⟨q, hq, rfl⟩ := List.mem_map.mp hx
    obtain ⟨n, rfl, hn⟩ := h.keys q hq
    exact hn
  · intro hx
    have e := h.at_ x
    have hc : ¬ row.count x = 0 := by
      have := List.count_pos_iff.mpr hx
      omega
    rw [if_neg hc] at e
    have m := valV_in e
    rw [h.names] at m
    obtain ⟨y, hy, ey⟩ := List.mem_map.mp m
    cases ey
    exact hy
theorem OftenOk.len {kvs : List (Key × V)} {row : List Int} (h : OftenOk kvs row) : kvs.length = unlike row := by
  rw [← unlike_of h.ints_nd h.ints_mem, List.length_map]
theorem OftenOk.nil : OftenOk [] [] := ⟨List.nodup_nil, fun n => by simp [valV_nil], fun z => valV_nil⟩
theorem OftenOk.get0 {kvs : List (Key × V)} {row : List Int} (h : OftenOk kvs row) (x : Int) : (valV kvs (.inl x)).getD (.int 0) = .int (row.count x : Nat) := by
  rw [h.at_ x]
  by_cases e : row.count x = 0
  · rw [if_pos e, e]
    rfl
  · rw [if_neg e]
    rfl
theorem putK_old {kvs : List (Key × V)} {k : Key} {v w : V} (h : valV kvs k = some w) : (putK kvs k v).map (·.1) = kvs.map (·.1) := by
  unfold putK
  rw [valV_any, h]
  simp only [Option.isSome_some, if_true, List.map_map]
  refine List.map_congr_left fun q _ => ?_
  show (if q.1 = k then (q.1, v) else q).1 = q.1
  split <;> rfl
theorem OftenOk.nd_put {kvs : List (Key × V)} {k : Key} {v : V} (n : (kvs.map (·.1)).Nodup) : ((putK kvs k v).map (·.1)).Nodup := by
  cases e : valV kvs k with
  | none => exact nd_putK v n e
  | some w => rw [putK_old e]; exact n
theorem OftenOk.add {kvs : List (Key × V)} {row : List Int} (h : OftenOk kvs row) (x : Int) : OftenOk (putK kvs (.inl x) (.int ((row.count x : Nat) + 1))) (row ++ [x]) := by
  refine ⟨OftenOk.nd_put h.nd, fun n => ?_, fun z => ?_⟩
  · rw [valV_put, count_snoc, h.at_ n]
    by_cases e : n = x
    · subst e
      rw [if_pos rfl, if_pos rfl, if_neg (by omega)]
      rfl
    · have e0 : (if x = n then 1 else 0 : Nat) = 0 := if_neg fun q => e q.symm
      rw [if_neg (fun q => e (Sum.inl.inj q)), e0]
      rfl
  · rw [valV_put, if_neg (by intro q; cases q)]
    exact h.no z
theorem valV_drop {kvs : List (Key × V)} {k j : Key} : valV (dropK kvs k) j = if j = k then none else valV kvs j := by
  induction kvs with
  | nil =>
    unfold dropK
    rw [List.filter_nil, valV_nil]
    split <;> rfl
  | cons p r ih =>
    by_cases e : p.1 = k
    · rw [dropK_pos e, ih]
      by_cases ej : j = k
      · rw [if_pos ej, if_pos ej]
      · rw [if_neg ej, if_neg ej, valV_neg (fun q => ej (q.symm.trans e))]
    · rw [dropK_neg e]
      by_cases ep : p.1 = j
      · rw [valV_pos ep, if_neg (fun q => e (ep.trans q)), valV_pos ep]
      · rw [valV_neg ep, ih, valV_neg ep]
/-- the first goes: the count is lessened, or the key goes -/
theorem OftenOk.less {kvs : List (Key × V)} {row : List Int} {x : Int} (h : OftenOk kvs (x :: row)) (hr : x ∈ row) : OftenOk (putK kvs (.inl x) (.int (((x :: row).count x : Nat) - 1))) row := by
  refine ⟨OftenOk.nd_put h.nd, fun n => ?_, fun z => ?_⟩
  · rw [valV_put, h.at_ n, count_cons', count_cons']
    by_cases e : n = x
    · subst e
      have := List.count_pos_iff.mpr hr
      rw [if_pos rfl, if_pos rfl, if_neg (by omega)]
      congr 1
      congr 1
      omega
    · have e0 : (if x = n then 1 else 0 : Nat) = 0 := if_neg fun q => e q.symm
      rw [if_neg (fun q => e (Sum.inl.inj q)), e0]
      rfl
  · rw [valV_put, if_neg (by intro q; cases q)]
    exact h.no z
theorem OftenOk.gone {kvs : List (Key × V)} {row : List Int} {x : Int} {v : V} (h : OftenOk kvs (x :: row)) (hr : x ∉ row) : OftenOk (dropK (putK kvs (.inl x) v) (.inl x)) row := by
  refine ⟨nd_dropK (OftenOk.nd_put h.nd), fun n => ?_, fun z => ?_⟩
  · rw [valV_drop]
    by_cases e : n = x
    · subst e
      rw [if_pos rfl, if_pos (List.count_eq_zero.mpr hr)]
    · have e0 : (if x = n then 1 else 0 : Nat) = 0 := if_neg fun q => e q.symm
      rw [if_neg (fun q => e (Sum.inl.inj q)), valV_put, if_neg (fun q => e (Sum.inl.inj q)), h.at_ n, count_cons', e0]
      rfl
  · rw [valV_drop, if_neg (by intro q; cases q), valV_put, if_neg (by intro q; cases q)]
    exact h.no z

theorem at_int {ns : List Int} {z : Int} (j : Nat) (e : z = (j : Int)) (h : j < ns.length) : atI (ns.map V.int) z = some (.int ns[j]) := at_of e (by rw [List.getElem?_map, List.getElem?_eq_getElem h]; rfl)
theorem map_snoc (l : List Int) (x : Int) : (l ++ [x]).map V.int = l.map V.int ++ [V.int x] := by rw [List.map_append]; rfl
theorem map_erase (l : List Int) (i : Nat) : (l.map V.int).eraseIdx i = (l.eraseIdx i).map V.int := by
  rw [List.eraseIdx_eq_take_drop_succ, List.eraseIdx_eq_take_drop_succ, List.map_append, List.map_take, List.map_drop]
theorem mapint_len (l : List Int) : (l.map V.int).length = l.length := List.length_map ..
/-- a list of pairs of ints, each its own tuple -/
def RowAt (H : Hp) (a : Addr) (ps : List (Int × Int)) : Prop := ∃ qs : List (Addr × Int × Int), H a = some (.lst (qs.map fun q => V.ref q.1)) ∧ (∀ q ∈ qs, H q.1 = some (.tup [.int q.2.1, .int q.2.2])) ∧ qs.map (·.2) = ps
theorem RowAt.keep {H H' : Hp} {a : Addr} {ps : List (Int × Int)} (h : RowAt H a ps) (e : ∀ b u, H b = some u → (b = a ∨ ∃ x y, u = .tup [.int x, .int y]) → H' b = some u) : RowAt H' a ps := by
  obtain ⟨qs, h1, h2, h3⟩ := h
  exact ⟨qs, e _ _ h1 (.inl rfl), fun q hq => e _ _ (h2 q hq) (.inr ⟨_, _, rfl⟩), h3⟩
theorem RowAt.ex {H H' : Hp} {a : Addr} {ps : List (Int × Int)} (h : RowAt H a ps) (e : Same H H') : RowAt H' a ps := h.keep fun b u hb _ => e b u hb
/-! ### a Tally in the heap -/
structure TAt (K : PySem.W.Frag) (H : Hp) (t r k o : Addr) (row : List Int) : Prop where
  ob : ∃ dx, H t = some (.ins (He.ga K "Tally") dx (tfl r k o row.sum (inv row : Nat)))
  ro : H r = some (.lst (row.map V.int))
  ra : H k = some (.lst ((srt row).map V.int))
  of : ∃ kvs, H o = some (.dK kvs) ∧ OftenOk kvs row
  ne : r ≠ k
/-- all but the Tally's four objects is as it was -/
def Keep (H H' : Hp) (t r k o : Addr) : Prop := ∀ b u, H b = some u → b ≠ t → b ≠ r → b ≠ k → b ≠ o → H' b = some u
theorem TAt.apart {K : PySem.W.Frag} {H : Hp} {t r k o : Addr} {row : List Int} (T : TAt K H t r k o row) : t ≠ r ∧ t ≠ k ∧ t ≠ o ∧ r ≠ k ∧ r ≠ o ∧ k ≠ o := by
  obtain ⟨⟨dx, h1⟩, h2, h3, ⟨kvs, h4, _⟩, ne⟩ := T
  exact ⟨ne_of h1 h2 (by intro z; cases z), ne_of h1 h3 (by intro z; cases z), ne_of h1 h4 (by intro z; cases z), ne, ne_of h2 h4 (by intro z; cases z), ne_of h3 h4 (by intro z; cases z)⟩
theorem TAt.same {K : PySem.W.Frag} {H H' : Hp} {t r k o : Addr} {row : List Int} (T : TAt K H t r k o row) (e1 : ∀ b u, (b = t ∨ b = r ∨ b = k ∨ b = o) → H b = some u → H' b = some u) : TAt K H' t r k o row := by
  obtain ⟨⟨dx, h1⟩, h2, h3, ⟨kvs, h4, h5⟩, ne⟩ := T
  exact ⟨⟨dx, e1 _ _ (.inl rfl) h1⟩, e1 _ _ (.inr (.inl rfl)) h2, e1 _ _ (.inr (.inr (.inl rfl))) h3, ⟨kvs, e1 _ _ (.inr (.inr (.inr rfl))) h4, h5⟩, ne⟩
theorem TAt.ex {K : PySem.W.Frag} {H H' : Hp} {t r k o : Addr} {row : List Int} (T : TAt K H t r k o row) (e : Same H H') : TAt K H' t r k o row := T.same fun b u _ h => e b u h

/-! ### the words, as plain functions -/
/-- the word nm of a row -/
def wordV (row : List Int) (nm : Str) : V :=
  if nm = "many" then .int (row.length : Nat) else if nm = "sum" then .int row.sum else if nm = "unlike" then .int (unlike row : Nat) else if nm = "wrong" then .int (inv row : Nat)
  else if nm = "rising" then .int (ris row : Nat) else if nm = "mark" then .int (mark row) else
  match row with
  | [] => .non
  | x :: r => if nm = "first" then .int x else if nm = "last" then .int ((x :: r).getLast (List.cons_ne_nil _ _)) else if nm = "commonest" then .int (common (x :: r))
    else if nm = "middle" then .int ((srt (x :: r)).getD (r.length / 2) 0) else if nm = "least" then .int ((srt (x :: r)).getD 0 0) else .int ((srt (x :: r)).getD r.length 0)
def names6 : List Str := ["first", "last", "least", "greatest", "middle", "commonest"]
def names12 : List Str := ["many", "sum", "unlike", "wrong", "rising", "mark", "first", "last", "least", "greatest", "middle", "commonest"]

/-! ### the promises -/
def spPlaced (K : PySem.W.Frag) : Sp := fun vs H Q _ => ∃ (a : Addr) (ns : List Int) (x : Int), vs = [.ref a, .int x] ∧ SqL K H a (ns.map V.int) ∧ ns.Pairwise (· ≤ ·) ∧ ns.length ≤ 1000 ∧ Q (.int (below x ns : Nat)) H
def spTInit (K : PySem.W.Frag) : Sp := fun vs H Q _ => ∃ (t dx : Addr), vs = [.ref t] ∧ H t = some (.ins (He.ga K "Tally") dx []) ∧
  ∀ (r k o : Addr) (H' : Hp), H r = none → H k = none → H o = none → TAt K H' t r k o [] → (∀ b u, H b = some u → b ≠ t → H' b = some u) → Q .non H'
def spAdd (K : PySem.W.Frag) : Sp := fun vs H Q _ => ∃ (t r k o : Addr) (row : List Int) (x : Int), vs = [.ref t, .int x] ∧ TAt K H t r k o row ∧ row.length ≤ 999 ∧ ∀ H', TAt K H' t r k o (row ++ [x]) → Keep H H' t r k o → Q .non H'
def spDrop (K : PySem.W.Frag) : Sp := fun vs H Q _ => ∃ (t r k o : Addr) (row : List Int) (x : Int), vs = [.ref t] ∧ TAt K H t r k o (x :: row) ∧ row.length ≤ 999 ∧ ∀ H', TAt K H' t r k o row → Keep H H' t r k o → Q (.int x) H'
def spRising (K : PySem.W.Frag) : Sp := fun vs H Q _ => ∃ (t r k o : Addr) (row : List Int), vs = [.ref t] ∧ TAt K H t r k o row ∧ row.length ≤ 1000 ∧ Q (.int (ris row : Nat)) H
def spMark (K : PySem.W.Frag) : Sp := fun vs H Q _ => ∃ (t r k o : Addr) (row : List Int), vs = [.ref t] ∧ TAt K H t r k o row ∧ row.length ≤ 1000 ∧ Q (.int (mark row)) H
def spOne (K : PySem.W.Frag) : Sp := fun vs H Q _ => ∃ (t r k o : Addr) (row : List Int) (nm : Str), vs = [.ref t, .str nm] ∧ TAt K H t r k o row ∧ row.length ≤ 1000 ∧ nm ∈ names6 ∧ ∀ H', Same H H' → Q (wordV row nm) H'
def spWord (K : PySem.W.Frag) : Sp := fun vs H Q _ => ∃ (t r k o : Addr) (row : List Int) (nm : Str), vs = [.ref t, .str nm] ∧ TAt K H t r k o row ∧ row.length ≤ 1000 ∧ nm ∈ names12 ∧ ∀ H', Same H H' → Q (wordV row nm) H'
end LF

set_option maxRecDepth 100000
set_option maxHeartbeats 4000000
namespace LF
open PySem PySem.Spec PyProof.Rows L2
end LF
open PySem PySem.Spec PyProof.Rows L2 LF
local macro_rules | `(tactic| walk_at "ne") => `(tactic| first
  | assumption
  | (with_reducible refine Ne.symm ?_; assumption)
  | ((with_reducible refine' ne_nn ?ka ?kb); (case ka => with_reducible assumption); (case kb => walk_at "hp"))
  | ((with_reducible refine' ne_nn2 ?ka ?kb); (case ka => with_reducible assumption); (case kb => walk_at "hp")))
local macro_rules | `(tactic| walk_at "hp") => `(tactic| first
  | with_reducible assumption
  | with_reducible exact upd_same
  | ((with_reducible refine' Eq.trans (upd_ne ?kne) ?_); (case kne => walk_at "ne"); walk_at "hp"))
local macro_rules | `(tactic| walk_at "sm") => `(tactic| first | with_reducible exact Same.refl _ | with_reducible assumption | ((with_reducible refine' same_upd ?kn ?_); (case kn => with_reducible assumption); walk_at "sm"))
local macro_rules | `(tactic| walk_at "tst") => `(tactic| first | refine iteBT (by decide +kernel) ?_ | refine iteBF (by decide +kernel) ?_)
local macro_rules | `(tactic| walk_at "tup") => `(tactic| ((with_reducible refine' E_tupA ?_); walk_at "go"; (with_reducible refine' R_tupA ?k1 ?_); (case k1 => exact Nat.le_of_ble_eq_true rfl); intro _ _))
local macro_rules | `(tactic| walk_at "st") => `(tactic| first
  | with_reducible refine S_seq ?_ | with_reducible refine S_asg ?_ | with_reducible refine S_drop ?_ | with_reducible refine S_ret ?_ | with_reducible refine S_if ?_ | with_reducible refine S_next ?_
  | with_reducible refine S_fld ?_ | with_reducible refine S_dput ?_
  | ((with_reducible refine' E_var ?k1 ?_); (case k1 => rfl))
  | with_reducible refine E_c ?_ | with_reducible refine E_op ?_ | with_reducible refine E_un ?_ | with_reducible refine E_test ?_ | with_reducible refine E_tB ?_ | with_reducible refine R_tst ?_
  | with_reducible refine E_and ?_ | with_reducible refine E_or ?_ | with_reducible refine E_not ?_ | with_reducible refine E_andV ?_ | with_reducible refine E_orV ?_ | with_reducible refine E_notV ?_ | with_reducible refine R_bl ?_ | with_reducible refine E_ifx ?_
  | with_reducible refine E_fld ?_ | ((with_reducible refine' R_fld ?k1 ?k2 ?k3 ?k4 ?_); (case k1 => walk_at "hp"); (case k2 => assumption); (case k3 => assumption); (case k4 => walk_at "lk"))
  | ((with_reducible refine' R_set ?k1 ?k2 ?k3 ?k4 ?k5 ?_); (case k1 => walk_at "hp"); (case k2 => assumption); (case k3 => assumption); (case k4 => walk_at "fl"); (case k5 => walk_at "pf"))
  | with_reducible refine E_call ?_ | with_reducible refine E_nil ?_ | with_reducible refine E_cons ?_ | with_reducible refine E_meth ?_
  | ((with_reducible refine' R_meth ?k1 ?k2 ?_); (case k1 => walk_at "hp"); (case k2 => walk_at "lm"))
  | with_reducible refine E_make ?_ | with_reducible refine E_cb ?_ | with_reducible refine E_lst ?_
  | ((with_reducible refine' R_inT ?k1 ?k2 ?k3 ?_); (case k1 => walk_at "sT"); (case k2 => rfl); (case k3 => rfl))
  | with_reducible refine R_I0 ?_ | with_reducible refine R_U ?_
  | ((with_reducible refine' R_I ?k1 ?_); (case k1 => walk_at "ok"))
  | ((with_reducible refine' R_eq ?k1 ?_); (case k1 => rfl)) | ((with_reducible refine' R_ne ?k1 ?_); (case k1 => rfl))
  | with_reducible refine E_bm ?_ | with_reducible refine E_bm0 ?_ | ((with_reducible refine' R_tyL ?k1 ?_); (case k1 => walk_at "sq"))
  | ((with_reducible refine' R_app ?k1 ?k2 ?_); (case k1 => walk_at "hp"); (case k2 => walk_at "sz"))
  | ((with_reducible refine' R_lenL ?k1 ?_); (case k1 => walk_at "sq"))
  | ((with_reducible refine' R_listL ?k1 ?_); (case k1 => walk_at "sq"))
  | with_reducible refine E_tru ?_ | ((with_reducible refine' R_truL ?k1 ?_); (case k1 => walk_at "sq"))
  | with_reducible refine R_max2Q ?_ | with_reducible refine R_part ?_ | with_reducible refine E_sl ?_ | with_reducible refine E_part ?_ | with_reducible refine E_noPart ?_
  | ((with_reducible refine' R_slL ?k1 ?_); (case k1 => walk_at "sq"))
  | with_reducible refine E_dget2 ?_ | ((with_reducible refine' R_isD ?k1 ?_); (case k1 => walk_at "hp")) | ((with_reducible refine' R_getD ?k1 ?_); (case k1 => walk_at "hp"))
  | with_reducible refine E_dget ?_ | with_reducible refine E_dpop1 ?_ | with_reducible refine E_din ?_ | with_reducible refine E_dnin ?_ | ((with_reducible refine' R_in ?k1 ?_); (case k1 => walk_at "hp"))
  | ((with_reducible refine' R_sum ?k1 ?_); (case k1 => walk_at "sq")) | with_reducible refine E_lenSet ?_
  | ((with_reducible refine' R_cnt ?k1 ?_); (case k1 => walk_at "sq")) | with_reducible refine E_chain ?_ | with_reducible refine E_dnew ?_ | with_reducible refine S_for ?_ | with_reducible refine E_il ?_ | ((with_reducible refine' R_il ?k1 ?_); (case k1 => walk_at "sq")) | with_reducible refine E_rng1 ?_ | with_reducible refine E_lc ?_ | with_reducible refine E_ik ?_ | with_reducible refine E_iv ?_ | ((with_reducible refine' R_iv ?k1 ?_); (case k1 => walk_at "sq"))
  | ((with_reducible refine' R_dput ?k1 ?k2 ?_); (case k1 => walk_at "hp"); (case k2 => walk_at "sz"))
  | dsimp only)
local macro_rules | `(tactic| walk_at "go") => `(tactic| repeat (walk_at "st"))
local macro_rules | `(tactic| walk_at "sq") => `(tactic| first | with_reducible assumption | ((with_reducible refine' SqL.of ?k1); (case k1 => walk_at "hp")) | ((with_reducible refine' Same.seq ?k1 ?k2); (case k2 => with_reducible assumption); (case k1 => walk_at "sm")))
local macro_rules | `(tactic| walk_at "sT") => `(tactic| first | with_reducible assumption | ((with_reducible refine' SqT.of ?k1); (case k1 => walk_at "hp")))
local macro_rules | `(tactic| walk_at "ok") => `(tactic| first | exact ⟨by decide, by decide⟩ | (show (0 : Int) < _; omega) | exact Or.inl ⟨by omega, by omega⟩ | exact Or.inr ⟨by omega, by omega⟩)
local macro_rules | `(tactic| walk_at "sz") => `(tactic| first | assumption | (refine Nat.lt_of_lt_of_le (m := 100000) ?_ (by decide); (try simp only [List.length_map, List.length_append, List.length_cons, List.length_nil, List.length_reverse]); omega))
local macro_rules | `(tactic| walk_at "fl") => `(tactic| first | (show 5 < 1000; decide) | (show 0 < 1000; decide) | (show 1 < 1000; decide) | (show 3 < 1000; decide) | (show 2 < 1000; decide) | (show 4 < 1000; decide) | (simp only [List.length_cons, List.length_nil]; omega))
local macro_rules | `(tactic| walk_at "pf") => `(tactic| first | with_reducible exact mfl_set_new .. | with_reducible exact mfl_set_last .. | with_reducible exact zfl_set .. | with_reducible exact tfl_setT .. | with_reducible exact tfl_setP .. | with_reducible exact pf_nil | with_reducible exact pf_eq | ((with_reducible refine' pf_cons ?kn ?ke); (case kn => decide +kernel); (case ke => walk_at "pf")))
local macro_rules | `(tactic| walk_at "lk") => `(tactic| first | with_reducible exact tfl_row .. | with_reducible exact tfl_ranks .. | with_reducible exact tfl_often .. | with_reducible exact tfl_total .. | with_reducible exact tfl_pairs .. | with_reducible exact wfl_size .. | with_reducible exact wfl_tally .. | with_reducible exact zfl_span .. | with_reducible exact zfl_now .. | with_reducible exact zfl_times .. | with_reducible exact zfl_tally .. | with_reducible exact mfl_size .. | with_reducible exact mfl_old .. | with_reducible exact mfl_new .. | with_reducible exact mfl_last .. | with_reducible exact gfl_size .. | with_reducible exact gfl_most .. | with_reducible exact gfl_order .. | with_reducible exact gfl_windows ..)
local macro_rules | `(tactic| walk_at "lm") => `(tactic| first | with_reducible exact tfl_no _ _ _ _ _ (by decide +kernel) | with_reducible exact wfl_no _ _ (by decide +kernel) | with_reducible exact zfl_no _ _ _ _ (by decide +kernel) | with_reducible exact mfl_no _ _ _ _ (by decide +kernel) | with_reducible exact gfl_no _ _ _ _ (by decide +kernel))
local macro_rules | `(tactic| walk_at "in") => `(tactic| (try dsimp only [cxOf, Cx.nox, Cx.wish]); walk_at "go")
local macro_rules | `(tactic| walk_at "go2") => `(tactic| repeat (first | walk_at "st" | walk_at "tst" | walk_at "tup"))
namespace LF
open PySem PySem.Spec PyProof.Rows L2
section
variable {P : Program} {w : World} {K : PySem.W.Frag} {mg : Str → Option Value} {base : Heap} {D : Str × Option Str → FuncData}
theorem ok_placed (T : Txt K mg D) : FnOk P w K mg base CX0 1 (He.ga K "placed") (D ("placed", none)) ["ranks", "thing"] (spPlaced K) := by
  refine T.placed.F.ok sc_placed (fun vs H Q E h => ?_) (fun cdv A outer s H vs Q E hr h => ?_)
  · obtain ⟨a, ns, x, rfl, _⟩ := h
    rfl
  · obtain ⟨a, ns, x, rfl, hS, hs, hl, k⟩ := h
    refine ⟨_, PSs.nox (pss_cons (ps_set (i := 2) sc_placed.nd rfl (Or.inl rfl) pe_int)
      (pss_cons (ps_set (i := 3) sc_placed.nd rfl (Or.inl rfl) (pe_callB (call_lenK (K := K) rfl) (by rfl) T.z_len PySem.boot_len (pa_cons (pv 0) pa_nil)))
      (pss_cons (ps_whileQ PassesOwn.never (pt_cmpR op_lt (pv 2) (pv 3) (nomark _))
      (pss_cons (ps_set (i := 4) sc_placed.nd rfl (Or.inl rfl) (pe_op op_fdiv (pe_op op_add (pv 2) (pv 3)) pe_int))
      (pss_one (ps_if (pt_cmpR op_lt (pe_ix (ix_listK (K := K) rfl) (pv 0) (pv 4) (fun _ _ => rfl)) (pv 1) (nomark _)) (pss_one (ps_set (i := 2) sc_placed.nd rfl (Or.inl rfl) (pe_op op_add (pv 4) pe_int))) (pss_one (ps_set (i := 3) sc_placed.nd rfl (Or.inl rfl) (pv 4)))))))
      (pss_one (ps_ret (pv 2)))))), ?_⟩
    walk_at "in"
    refine S_while (fun m σ' H' => ∃ (lo hi : Nat) (v : Option V), σ' = [some (.ref a), some (.int x), some (.int lo), some (.int hi), v] ∧ H' = H ∧ m = hi - lo ∧ lo ≤ hi ∧ hi ≤ ns.length ∧
      (∀ i (h : i < ns.length), i < lo → ns[i] < x) ∧ (∀ i (h : i < ns.length), hi ≤ i → x ≤ ns[i])) ns.length ⟨0, ns.length, none, by rw [List.length_map]; rfl, rfl, rfl, Nat.zero_le _, Nat.le_refl _, fun i _ q => absurd q (Nat.not_lt_zero _), fun i h q => absurd h (Nat.not_lt.mpr q)⟩ ?_
    rintro m σ' H' ⟨lo, hi, v, rfl, rfl, rfl, h1, h2, h3, h4⟩
    walk_at "go"
    refine iteD (fun hlt => ?_) (fun hge => ?_)
    · walk_at "go"
      have hm : (lo + hi) / 2 < ns.length := by omega
      refine R_ixL hS (at_int ((lo + hi) / 2) (by omega) hm) ?_
      walk_at "go"
      have ez : ((lo : Int) + (hi : Int)) / 2 = (((lo + hi) / 2 : Nat) : Int) := by omega
      refine iteD (fun hx => ?_) (fun hx => ?_)
      · walk_at "go"
        refine ⟨hi - ((lo + hi) / 2 + 1), by omega, (lo + hi) / 2 + 1, hi, some (.int (((lo + hi) / 2 : Nat) : Int)), by rw [ez]; rfl, rfl, rfl, by omega, h2, fun i h q => ?_, h4⟩
        have q2 : i ≤ (lo + hi) / 2 := by omega
        by_cases e : i = (lo + hi) / 2
        · subst e; exact hx
        · have := List.pairwise_iff_getElem.mp hs i _ h hm (by omega)
          omega
      · walk_at "go"
        refine ⟨(lo + hi) / 2 - lo, by omega, lo, (lo + hi) / 2, some (.int (((lo + hi) / 2 : Nat) : Int)), by rw [ez]; rfl, rfl, rfl, by omega, by omega, h3, fun i h q => ?_⟩
        by_cases e : i = (lo + hi) / 2
        · subst e; omega
        · have := List.pairwise_iff_getElem.mp hs _ i hm h (by omega)
          omega
    · walk_at "go"
      have e : lo = hi := by omega
      subst e
      rw [below_cut h2 h3 h4] at k
      exact k
theorem ok_Tally_init (T : Txt K mg D) : FnOk P w K mg base CX0 1 (He.ma K (He.ga K "Tally") "__init__") (D ("Tally", some "__init__")) ["self"] (spTInit K) := by
  refine T.Tally_init.F.ok sc_Tally_init (fun vs H Q E h => ?_) (fun cdv A outer s H vs Q E hr h => ?_)
  · obtain ⟨t, dx, rfl, _⟩ := h
    rfl
  · obtain ⟨t, dx, rfl, ht, kq⟩ := h
    have fcTally := T.cTally.cl; have fnTallyrow := T.n_Tally_row; have fnTallyranks := T.n_Tally_ranks; have fnTallyoften := T.n_Tally_often; have fnTallytotal := T.n_Tally_total; have fnTallypairs := T.n_Tally_pairs
    refine ⟨_, PSs.nox (pss_cons (ps_fldK (K := K) rfl (pv 0) (pe_lst pa_nil) rfl)
      (pss_cons (ps_fldK (K := K) rfl (pv 0) (pe_lst pa_nil) rfl)
      (pss_cons (ps_fldK (K := K) rfl (pv 0) pe_dnewK rfl)
      (pss_cons (ps_fldK (K := K) rfl (pv 0) pe_int rfl)
      (pss_one (ps_fldK (K := K) rfl (pv 0) pe_int rfl)))))), ?_⟩
    walk_at "in"
    refine ⟨Nat.zero_le _, fun r nr => ?_⟩
    have a1 : t ≠ r := ne_of_none ht nr
    walk_at "go"
    refine ⟨Nat.zero_le _, fun k nk => ?_⟩
    have a2 : t ≠ k := ne_of_none (by walk_at "hp") nk
    have a3 : r ≠ k := ne_of_none (by walk_at "hp") nk
    walk_at "go"
    intro o no
    have a4 : t ≠ o := ne_of_none (by walk_at "hp") no
    have a5 : r ≠ o := ne_of_none (by walk_at "hp") no
    have a6 : k ≠ o := ne_of_none (by walk_at "hp") no
    walk_at "go"
    have nk' : H k = none := by rw [upd_ne a2.symm, upd_ne a3.symm] at nk; exact nk
    have no' : H o = none := by rw [upd_ne a4.symm, upd_ne a6.symm, upd_ne a4.symm, upd_ne a5.symm] at no; exact no
    refine kq r k o _ nr nk' no' ⟨⟨dx, upd_same⟩, ?_, ?_, ⟨[], by walk_at "hp", OftenOk.nil⟩, a3⟩ fun b u e hb => ?_
    · show _ = some (HO.lst [])
      walk_at "hp"
    · rw [srt_nil]
      show _ = some (HO.lst [])
      walk_at "hp"
    have b1 : b ≠ r := ne_of_none e nr
    have b2 : b ≠ k := ne_of_none e nk'
    have b3 : b ≠ o := ne_of_none e no'
    walk_at "hp"
theorem ok_Tally_add (T : Txt K mg D) : FnOk P w K mg base CX0 2 (He.ma K (He.ga K "Tally") "add") (D ("Tally", some "add")) ["self", "thing"] (spAdd K) := by
  refine T.Tally_add.F.ok sc_Tally_add (fun vs H Q E h => ?_) (fun cdv A outer s H vs Q E hr h => ?_)
  · obtain ⟨t, r, k, o, row, x, rfl, _⟩ := h
    rfl
  · obtain ⟨t, r, k, o, row, x, rfl, S, hl, kq⟩ := h
    have hu := hu_of hr
    have fcTally := T.cTally.cl; have fnTallyrow := T.n_Tally_row; have fnTallyranks := T.n_Tally_ranks; have fnTallyoften := T.n_Tally_often; have fnTallytotal := T.n_Tally_total; have fnTallypairs := T.n_Tally_pairs
    obtain ⟨a1, a2, a3, a4, a5, a6⟩ := S.apart
    obtain ⟨⟨dx, h1⟩, h2, h3, ⟨kvs, h4, h5⟩, _⟩ := id S
    have hlk : kvs.length ≤ 1000 := by rw [h5.len]; exact Nat.le_trans (unlike_le _) (by omega)
    have hs := srt_length row
    refine ⟨_, PSs.nox (pss_cons (ps_set (i := 2) sc_Tally_add.nd rfl (Or.inl rfl) (pe_call (ok_placed T) (by exact hr.mono (by decide)) (by rfl) T.placed.g T.placed.F.kp T.placed.b .nil pass0 (pa_cons (pe_fldK (K := K) rfl (pv 0) rfl) (pa_cons (pe_op op_add (pv 1) pe_int) pa_nil))))
      (pss_cons (ps_fldK (K := K) rfl (pv 0) (pe_op op_sub (pe_op op_add (pe_fldK (K := K) rfl (pv 0) rfl) (pe_callB (call_lenK (K := K) rfl) (by rfl) T.z_len PySem.boot_len (pa_cons (pe_fldK (K := K) rfl (pv 0) rfl) pa_nil))) (pv 2)) rfl)
      (pss_cons (ps_expr (pe_bmK (K := K) rfl PySem.F.plainAttrs_list PySem.F.slot_list_insert PySem.F.type_list_insert mt_insQ (pe_fldK (K := K) rfl (pv 0) rfl) (pa_cons (pv 2) (pa_cons (pv 1) pa_nil))))
      (pss_cons (ps_expr (pe_bmK (K := K) rfl PySem.F.plainAttrs_list PySem.F.slot_list_append PySem.F.type_list_append mt_append (pe_fldK (K := K) rfl (pv 0) rfl) (pa_cons (pv 1) pa_nil)))
      (pss_cons (ps_dput (by exact hu) (pe_fldK (K := K) rfl (pv 0) rfl) (pv 1) (pe_op op_add (pe_dget2 (by exact hu) (pe_fldK (K := K) rfl (pv 0) rfl) (pv 1) pe_int ⟨rfl, rfl, rfl, rfl⟩) pe_int) rfl)
      (pss_one (ps_fldK (K := K) rfl (pv 0) (pe_op op_add (pe_fldK (K := K) rfl (pv 0) rfl) (pv 1)) rfl))))))), ?_⟩
    walk_at "in"
    refine ⟨k, srt row, x + 1, rfl, SqL.of h3, srt_sorted _, by omega, ?_⟩
    have hb := below_le (x + 1) (srt row)
    walk_at "go"
    refine R_ins (by walk_at "hp") (by walk_at "sz") (by omega) ?_
    walk_at "go"
    rw [h5.get0]
    walk_at "go"
    refine kq _ ⟨⟨dx, ?_⟩, ?_, ?_, ⟨putK kvs (.inl x) (.int (((row.count x : Nat) : Int) + 1)), by walk_at "hp", h5.add x⟩, a4⟩ fun b u e b1 b2 b3 b4 => ?_
    · refine upd_same.trans ?_
      rw [List.sum_append, inv_snoc, List.sum_singleton, mapint_len, hs, below_perm _ (srt_perm row)]
      have hb2 := below_le (x + 1) row
      congr 3
      omega
    · rw [map_snoc]
      walk_at "hp"
    · rw [← ranks_add rfl, List.map_append, map_snoc, List.map_take, List.map_drop]
      walk_at "hp"
    · walk_at "hp"
theorem ok_Tally_drop (T : Txt K mg D) : FnOk P w K mg base CX0 2 (He.ma K (He.ga K "Tally") "drop") (D ("Tally", some "drop")) ["self"] (spDrop K) := by
  refine T.Tally_drop.F.ok sc_Tally_drop (fun vs H Q E h => ?_) (fun cdv A outer s H vs Q E hr h => ?_)
  · obtain ⟨t, r, k, o, row, x, rfl, _⟩ := h
    rfl
  · obtain ⟨t, r, k, o, row, x, rfl, S, hl, kq⟩ := h
    have hu := hu_of hr
    have fcTally := T.cTally.cl; have fnTallyrow := T.n_Tally_row; have fnTallyranks := T.n_Tally_ranks; have fnTallyoften := T.n_Tally_often; have fnTallytotal := T.n_Tally_total; have fnTallypairs := T.n_Tally_pairs
    obtain ⟨a1, a2, a3, a4, a5, a6⟩ := S.apart
    obtain ⟨⟨dx, h1⟩, h2, h3, ⟨kvs, h4, h5⟩, _⟩ := id S
    have hlk : kvs.length ≤ 1000 := by rw [h5.len]; exact Nat.le_trans (unlike_le _) (by rw [List.length_cons]; omega)
    have h2 : H r = some (HO.lst (V.int x :: row.map V.int)) := h2
    have hs := srt_length (x :: row)
    rw [List.length_cons] at hs
    refine ⟨_, PSs.nox (pss_cons (ps_set (i := 1) sc_Tally_drop.nd rfl (Or.inl rfl) (pe_bmK (K := K) rfl PySem.F.plainAttrs_list PySem.F.slot_list_pop PySem.F.type_list_pop mt_popAt (pe_fldK (K := K) rfl (pv 0) rfl) (pa_cons pe_int pa_nil)))
      (pss_cons (ps_set (i := 2) sc_Tally_drop.nd rfl (Or.inl rfl) (pe_call (ok_placed T) (by exact hr.mono (by decide)) (by rfl) T.placed.g T.placed.F.kp T.placed.b .nil pass0 (pa_cons (pe_fldK (K := K) rfl (pv 0) rfl) (pa_cons (pv 1) pa_nil))))
      (pss_cons (ps_expr (pe_bmK (K := K) rfl PySem.F.plainAttrs_list PySem.F.slot_list_pop PySem.F.type_list_pop mt_popAt (pe_fldK (K := K) rfl (pv 0) rfl) (pa_cons (pv 2) pa_nil)))
      (pss_cons (ps_fldK (K := K) rfl (pv 0) (pe_op op_sub (pe_fldK (K := K) rfl (pv 0) rfl) (pv 2)) rfl)
      (pss_cons (ps_dput (by exact hu) (pe_fldK (K := K) rfl (pv 0) rfl) (pv 1) (pe_op op_sub (pe_dget (by exact hu) (pe_fldK (K := K) rfl (pv 0) rfl) (pv 1) (fun _ _ => rfl)) pe_int) rfl)
      (pss_cons (ps_if (pt_cmpR op_eq (pe_dget (by exact hu) (pe_fldK (K := K) rfl (pv 0) rfl) (pv 1) (fun _ _ => rfl)) pe_int (nomark _)) (pss_one (ps_expr (pe_dpop1 (pe_fldK (K := K) rfl (pv 0) rfl) (pv 1) ⟨rfl, rfl, rfl, rfl⟩))) pss_nil)
      (pss_cons (ps_fldK (K := K) rfl (pv 0) (pe_op op_sub (pe_fldK (K := K) rfl (pv 0) rfl) (pv 1)) rfl)
      (pss_one (ps_ret (pv 1)))))))))), ?_⟩
    walk_at "in"
    refine R_pop0 (by walk_at "hp") ?_
    walk_at "go"
    refine ⟨k, srt (x :: row), x, rfl, SqL.of (by walk_at "hp"), srt_sorted _, by omega, ?_⟩
    have hb := below_le x (srt (x :: row))
    walk_at "go"
    refine R_popAt (by walk_at "hp") (by rw [List.getElem?_map, ranks_at rfl]; rfl) (by omega) ?_
    walk_at "go"
    have ec : valV kvs (Sum.inl x : Key) = some (.int ((x :: row).count x : Nat)) := by
      rw [h5.at_ x, if_neg (by rw [count_cons', if_pos rfl]; omega)]
    have ecc : (x :: row).count x = row.count x + 1 := by rw [count_cons', if_pos rfl]
    refine R_get (by walk_at "hp") ec ?_
    walk_at "go"
    refine R_get (kvs := putK kvs (.inl x) (.int (((x :: row).count x : Nat) - 1))) (by walk_at "hp") (by rw [valV_put, if_pos rfl]) ?_
    walk_at "go"
    have einv : ((inv (x :: row) : Nat) : Int) - (below x (srt (x :: row)) : Nat) = (inv row : Nat) := by
      have e1 : below x (srt (x :: row)) = below x row := by
        rw [below_perm x (srt_perm (x :: row))]
        unfold below
        rw [List.countP_cons, if_neg (by simp)]
        rfl
      have e2 : inv (x :: row) = below x row + inv row := rfl
      rw [e1, e2]
      omega
    have esum : (x :: row).sum - x = row.sum := by rw [List.sum_cons]; omega
    refine iteD (fun hz => ?_) (fun hz => ?_)
    · walk_at "go"
      refine R_pop1 (kvs := putK kvs (.inl x) (.int (((x :: row).count x : Nat) - 1))) (by walk_at "hp") (by rw [valV_put, if_pos rfl]) ?_
      walk_at "go"
      have hx : x ∉ row := fun m => by
        have := List.count_pos_iff.mpr m
        have e := V.int.inj hz
        omega
      refine kq _ ⟨⟨dx, ?_⟩, by walk_at "hp", ?_, ⟨_, by walk_at "hp", h5.gone hx⟩, a4⟩ fun b u e b1 b2 b3 b4 => ?_
      · rw [einv, esum]
        exact upd_same
      · rw [← ranks_drop (l := row) (x := x) rfl, ← map_erase]
        walk_at "hp"
      · walk_at "hp"
    · walk_at "go"
      have hx : x ∈ row := by
        apply Classical.byContradiction
        intro m
        have := List.count_eq_zero.mpr m
        refine hz (congrArg V.int ?_)
        omega
      refine kq _ ⟨⟨dx, ?_⟩, by walk_at "hp", ?_, ⟨_, by walk_at "hp", h5.less hx⟩, a4⟩ fun b u e b1 b2 b3 b4 => ?_
      · rw [einv, esum]
        exact upd_same
      · rw [← ranks_drop (l := row) (x := x) rfl, ← map_erase]
        walk_at "hp"
      · walk_at "hp"
end
end LF

set_option maxRecDepth 100000
set_option maxHeartbeats 4000000
namespace LF
open PySem PySem.Spec PyProof.Rows L2

section
variable {P : Program} {w : World} {K : PySem.W.Frag} {mg : Str → Option Value} {base : Heap} {D : Str × Option Str → FuncData}
theorem ok_Tally_rising (T : Txt K mg D) : FnOk P w K mg base CX0 1 (He.ma K (He.ga K "Tally") "rising") (D ("Tally", some "rising")) ["self"] (spRising K) := by
  refine T.Tally_rising.F.ok sc_Tally_rising (fun vs H Q E h => ?_) (fun cdv A outer s H vs Q E hr h => ?_)
  · obtain ⟨t, r, k, o, row, rfl, _⟩ := h
    rfl
  · obtain ⟨t, r, k, o, row, rfl, S, hl, kq⟩ := h
    have fcTally := T.cTally.cl; have fnTallyrow := T.n_Tally_row; have fnTallyranks := T.n_Tally_ranks; have fnTallyoften := T.n_Tally_often; have fnTallytotal := T.n_Tally_total; have fnTallypairs := T.n_Tally_pairs
    obtain ⟨⟨dx, h1⟩, h2, h3, ⟨kvs, h4, h5⟩, _⟩ := id S
    refine ⟨_, PSs.nox (pss_cons (ps_set (i := 1) sc_Tally_rising.nd rfl (Or.inl rfl) pe_int)
      (pss_cons (ps_set (i := 2) sc_Tally_rising.nd rfl (Or.inl rfl) pe_int)
      (pss_cons (ps_for PassesOwn.never rfl (pi_range1 (by rfl) T.z_range (pa_cons (pe_callB (call_lenK (K := K) rfl) (by rfl) T.z_len PySem.boot_len (pa_cons (pe_fldK (K := K) rfl (pv 0) rfl) pa_nil)) pa_nil)) (pg_name (i := 3) sc_Tally_rising.nd rfl (Or.inl rfl))
      (pss_cons (ps_set (i := 2) sc_Tally_rising.nd rfl (Or.inl rfl) (pe_ifExp (PW.pt (pw_and (pt_cmpR op_gt (pv 3) pe_int (nomark _)) (pw_and1 (pt_cmpR op_le (pe_ix (ix_listK (K := K) rfl) (pe_fldK (K := K) rfl (pv 0) rfl) (pe_op op_sub (pv 3) pe_int) (fun _ _ => rfl)) (pe_ix (ix_listK (K := K) rfl) (pe_fldK (K := K) rfl (pv 0) rfl) (pv 3) (fun _ _ => rfl)) (nomark _))))) (pe_op op_add (pv 2) pe_int) pe_int))
      (pss_one (ps_set (i := 1) sc_Tally_rising.nd rfl (Or.inl rfl) (pe_callB (call_max2Q rfl) (by rfl) T.z_max (by decide +kernel) (pa_cons (pv 1) (pa_cons (pv 2) pa_nil)))))))
      (pss_one (ps_ret (pv 1)))))), ?_⟩
    walk_at "in"
    rw [mapint_len]
    refine R_rng1 (by omega) (by omega) ?_
    rw [Int.toNat_natCast]
    refine R_forR (fun i σ' H' => ∃ (best run : Nat) (v : Option V), σ' = [some (.ref t), some (.int best), some (.int run), v] ∧ H' = H ∧ RisInv row i best run) ⟨0, 0, none, rfl, rfl, .inl ⟨rfl, rfl⟩⟩ ?_ ?_
    · rintro i σ' H' hi ⟨best, run, v, rfl, rfl, inv⟩
      walk_at "go"
      refine iteD (fun h0 => ?_) (fun h0 => ?_)
      · have hi0 : 0 < i := by omega
        walk_at "go"
        refine R_ixL (by walk_at "sq") (at_int (i - 1) (by omega) (by omega)) ?_
        walk_at "go"
        refine R_ixL (by walk_at "sq") (at_int i (by omega) hi) ?_
        have nx := inv.next hi0 hi (by omega)
        walk_at "go"
        refine iteD (fun hle => ?_) (fun hle => ?_)
        · rw [if_pos hle] at nx
          walk_at "go"
          have eb : (if (run : Int) + 1 > (best : Int) then (run : Int) + 1 else (best : Int)) = ((max best (run + 1) : Nat) : Int) := by split <;> omega
          refine ⟨_, _, some (.int (0 + (i : Int))), ?_, rfl, nx⟩
          rw [eb]
          rfl
        · rw [if_neg hle] at nx
          walk_at "go"
          have eb : (if (1 : Int) > (best : Int) then (1 : Int) else (best : Int)) = ((max best 1 : Nat) : Int) := by split <;> omega
          refine ⟨_, _, some (.int (0 + (i : Int))), ?_, rfl, nx⟩
          rw [eb]
          rfl
      · have hi0 : i = 0 := by omega
        subst hi0
        have nx := inv.first hi
        walk_at "go"
        refine iteBF rfl ?_
        walk_at "go"
        have eb : (if (1 : Int) > (best : Int) then (1 : Int) else (best : Int)) = ((max best 1 : Nat) : Int) := by split <;> omega
        refine ⟨_, _, some (.int (0 + ((0 : Nat) : Int))), ?_, rfl, nx⟩
        rw [eb]
        rfl
    · rintro σ' H' ⟨best, run, v, rfl, rfl, inv⟩
      walk_at "go"
      rw [inv.done]
      exact kq
theorem ok_Tally_mark (T : Txt K mg D) : FnOk P w K mg base CX0 1 (He.ma K (He.ga K "Tally") "mark") (D ("Tally", some "mark")) ["self"] (spMark K) := by
  refine T.Tally_mark.F.ok sc_Tally_mark (fun vs H Q E h => ?_) (fun cdv A outer s H vs Q E hr h => ?_)
  · obtain ⟨t, r, k, o, row, rfl, _⟩ := h
    rfl
  · obtain ⟨t, r, k, o, row, rfl, S, hl, kq⟩ := h
    have fcTally := T.cTally.cl; have fnTallyrow := T.n_Tally_row; have fnTallyranks := T.n_Tally_ranks; have fnTallyoften := T.n_Tally_often; have fnTallytotal := T.n_Tally_total; have fnTallypairs := T.n_Tally_pairs
    obtain ⟨⟨dx, h1⟩, h2, h3, ⟨kvs, h4, h5⟩, _⟩ := id S
    refine ⟨_, PSs.nox (pss_cons (ps_set (i := 1) sc_Tally_mark.nd rfl (Or.inl rfl) pe_int)
      (pss_cons (ps_for PassesOwn.never rfl (pi_listK (K := K) rfl (pe_fldK (K := K) rfl (pv 0) rfl)) (pg_name (i := 2) sc_Tally_mark.nd rfl (Or.inl rfl))
      (pss_one (ps_set (i := 1) sc_Tally_mark.nd rfl (Or.inl rfl) (pe_op op_mod (pe_op op_add (pe_op op_mul (pv 1) (pe_globI (by rfl) T.c_MARK_TIMES)) (pv 2)) (pe_globI (by rfl) T.c_MARK_ROUND)))))
      (pss_one (ps_ret (pv 1))))), ?_⟩
    walk_at "in"
    refine R_forL (xs := row.map V.int) (fun i σ' H' => ∃ (v : Option V), σ' = [some (.ref t), some (.int (mark (row.take i))), v] ∧ H' = H) ⟨none, rfl, rfl⟩ (fun i σ' H' _ ⟨v, _, e⟩ => by rw [e]; exact SqL.of h2) ?_ ?_
    · rintro i x σ' H' hx ⟨v, rfl, rfl⟩
      obtain ⟨z, hz, rfl⟩ : ∃ z, row[i]? = some z ∧ x = V.int z := by
        rw [List.getElem?_map] at hx
        cases e : row[i]? with
        | none => rw [e] at hx; cases hx
        | some z => rw [e] at hx; exact ⟨z, rfl, (Option.some.inj hx).symm⟩
      walk_at "go"
      refine ⟨some (.int z), ?_, rfl⟩
      have e : mark (row.take (i + 1)) = (mark (row.take i) * 31 + z) % 1000003 := by
        rw [List.take_add_one, hz]
        exact mark_snoc _ _
      rw [e]
      rfl
    · rintro σ' H' ⟨v, rfl, rfl⟩
      walk_at "go"
      rw [mapint_len, List.take_length]
      exact kq
end
end LF

set_option maxRecDepth 100000
set_option maxHeartbeats 4000000
namespace LF
open PySem PySem.Spec PyProof.Rows L2

local macro_rules | `(tactic| walk_at "wv") => `(tactic| (unfold wordV; (repeat (first | rw [if_neg (by decide +kernel)] | rw [if_pos rfl] | dsimp only))))
theorem wv_many (row : List Int) : wordV row "many" = .int (row.length : Nat) := by walk_at "wv"
theorem wv_sum (row : List Int) : wordV row "sum" = .int row.sum := by walk_at "wv"
theorem wv_unlike (row : List Int) : wordV row "unlike" = .int (unlike row : Nat) := by walk_at "wv"
theorem wv_wrong (row : List Int) : wordV row "wrong" = .int (inv row : Nat) := by walk_at "wv"
theorem wv_rising (row : List Int) : wordV row "rising" = .int (ris row : Nat) := by walk_at "wv"
theorem wv_mark (row : List Int) : wordV row "mark" = .int (mark row) := by walk_at "wv"
theorem wv_first (x : Int) (r : List Int) : wordV (x :: r) "first" = .int x := by walk_at "wv"
theorem wv_last (x : Int) (r : List Int) : wordV (x :: r) "last" = .int ((x :: r).getLast (List.cons_ne_nil _ _)) := by walk_at "wv"
theorem wv_commonest (x : Int) (r : List Int) : wordV (x :: r) "commonest" = .int (common (x :: r)) := by walk_at "wv"
theorem wv_middle (x : Int) (r : List Int) : wordV (x :: r) "middle" = .int ((srt (x :: r)).getD (r.length / 2) 0) := by walk_at "wv"
theorem wv_least (x : Int) (r : List Int) : wordV (x :: r) "least" = .int ((srt (x :: r)).getD 0 0) := by walk_at "wv"
theorem wv_greatest (x : Int) (r : List Int) : wordV (x :: r) "greatest" = .int ((srt (x :: r)).getD r.length 0) := by walk_at "wv"
theorem wv_nil {nm : Str} (h : nm ∈ names6) : wordV [] nm = .non := by
  simp only [names6, List.mem_cons, List.not_mem_nil, or_false] at h
  rcases h with rfl | rfl | rfl | rfl | rfl | rfl <;> walk_at "wv"
theorem in6 {nm : Str} (h : nm ∈ names6) : inV (.str nm) [.str "first", .str "last", .str "least", .str "greatest", .str "middle", .str "commonest"] = true := by
  simp only [names6, List.mem_cons, List.not_mem_nil, or_false] at h
  rcases h with rfl | rfl | rfl | rfl | rfl | rfl <;> decide +kernel
theorem at_neg1 (l : List Int) (h : l ≠ []) : atI (l.map V.int) (-1) = some (.int (l.getLast h)) := by
  have e : l = l.dropLast ++ [l.getLast h] := (List.dropLast_concat_getLast h).symm
  have q := atI_last (l.dropLast.map V.int) (.int (l.getLast h))
  rw [← map_snoc, ← e] at q
  exact q
theorem getLast_srt {l : List Int} (n : Nat) (hn : l.length = n + 1) (h : srt l ≠ []) : (srt l).getLast h = (srt l).getD n 0 := by
  have hl := srt_length l
  rw [List.getLast_eq_getElem, List.getD_eq_getElem?_getD, List.getElem?_eq_getElem (by omega)]
  show _ = (srt l)[n]
  congr 1
  omega
section
variable {P : Program} {w : World} {K : PySem.W.Frag} {mg : Str → Option Value} {base : Heap} {D : Str × Option Str → FuncData}
theorem ok_Tally_one (T : Txt K mg D) : FnOk P w K mg base CX0 1 (He.ma K (He.ga K "Tally") "one") (D ("Tally", some "one")) ["self", "name"] (spOne K) := by
  refine T.Tally_one.F.ok sc_Tally_one (fun vs H Q E h => ?_) (fun cdv A outer s H vs Q E hr h => ?_)
  · obtain ⟨t, r, k, o, row, nm, rfl, _⟩ := h
    rfl
  · obtain ⟨t, r, k, o, row, nm, rfl, S, hl, hn, kq⟩ := h
    have hu := hu_of hr
    have fcTally := T.cTally.cl; have fnTallyrow := T.n_Tally_row; have fnTallyranks := T.n_Tally_ranks; have fnTallyoften := T.n_Tally_often; have fnTallytotal := T.n_Tally_total; have fnTallypairs := T.n_Tally_pairs
    obtain ⟨a1, a2, a3, a4, a5, a6⟩ := S.apart
    obtain ⟨⟨dx, h1⟩, h2, h3, ⟨kvs, h4, h5⟩, _⟩ := id S
    have hs := srt_length row
    refine ⟨_, PSs.nox (pss_cons (ps_if (pt_cmpR (op_notIn_seqK (K := K) rfl) (pv 1) (pe_tup (pa_cons pe_str (pa_cons pe_str (pa_cons pe_str (pa_cons pe_str (pa_cons pe_str (pa_cons pe_str pa_nil))))))) (by rfl)) (pss_one ps_never) pss_nil)
      (pss_cons (ps_if (pt_not (pt_truK (K := K) rfl (pe_fldK (K := K) rfl (pv 0) rfl) (by intro _; rfl))) (pss_one (ps_ret pe_non)) pss_nil)
      (pss_cons (ps_if (pt_cmpR (op_in_seqK (K := K) rfl) (pv 1) (pe_tup (pa_cons pe_str (pa_cons pe_str pa_nil))) (by rfl)) (pss_one (ps_ret (pe_ix (ix_listK (K := K) rfl) (pe_fldK (K := K) rfl (pv 0) rfl) (pe_ifExp (pt_cmpR op_eq (pv 1) pe_str (nomark _)) pe_int (pe_un un_neg pe_int)) (fun _ _ => rfl)))) pss_nil)
      (pss_cons (ps_if (pt_cmpR op_eq (pv 1) pe_str (nomark _)) (pss_one (ps_ret (pe_ix (ix_tupK (K := K) rfl) (pe_callB (cr_minPK (K := K) rfl rfl (by exact hr.units)) (by rfl) T.z_min (by decide +kernel) (pa_cons (pe_lock (pe_lc (own := [("thing", 2)]) (g := gName 2) (tt := tYes) (by rfl) sc_Tally_one.nd (pi_keys (pe_fldK (K := K) rfl (pv 0) rfl)) (blkOk_by (by kernel_rfl)) (fun _ _ _ _ _ => pg_name (i := 2) sc_Tally_one.nd rfl (Or.inl rfl)) (fun _ _ _ _ _ => pts_nil) (fun _ _ _ _ _ => (pe_tup (pa_cons (pe_un un_neg (pe_dget (by exact hu) (pe_fldK (K := K) rfl (pv 0) rfl) (pv 2) (fun _ _ => rfl))) (pa_cons (pv 2) pa_nil)))))) pa_nil)) pe_int (fun _ _ => rfl)))) pss_nil)
      (pss_cons (ps_if (pt_cmpR op_eq (pv 1) pe_str (nomark _)) (pss_one (ps_ret (pe_ix (ix_listK (K := K) rfl) (pe_fldK (K := K) rfl (pv 0) rfl) (pe_op op_fdiv (pe_op op_sub (pe_callB (call_lenK (K := K) rfl) (by rfl) T.z_len PySem.boot_len (pa_cons (pe_fldK (K := K) rfl (pv 0) rfl) pa_nil)) pe_int) pe_int) (fun _ _ => rfl)))) pss_nil)
      (pss_one (ps_ret (pe_ix (ix_listK (K := K) rfl) (pe_fldK (K := K) rfl (pv 0) rfl) (pe_ifExp (pt_cmpR op_eq (pv 1) pe_str (nomark _)) pe_int (pe_un un_neg pe_int)) (fun _ _ => rfl))))))))), ?_⟩
    walk_at "in"
    walk_at "tup"
    walk_at "go"
    rw [if_pos rfl, in6 hn]
    refine iteF ?_
    walk_at "go"
    cases row with
    | nil =>
      refine iteT ?_
      walk_at "go"
      rw [← wv_nil hn]
      exact kq _ (by walk_at "sm")
    | cons x r0 =>
      refine iteF ?_
      walk_at "go"
      simp only [names6, List.mem_cons, List.not_mem_nil, or_false] at hn
      have h2 : H r = some (HO.lst (V.int x :: r0.map V.int)) := h2
      rw [List.length_cons] at hs hl
      have hsn : srt (x :: r0) ≠ [] := fun e => by rw [e] at hs; cases hs
      rcases hn with rfl | rfl | rfl | rfl | rfl | rfl
      · walk_at "go2"
        refine R_ixL (by walk_at "sq") (at_of (j := 0) rfl rfl) ?_
        rw [← wv_first x r0]
        exact kq _ (by walk_at "sm")
      · walk_at "go2"
        refine R_ixL (xs := (x :: r0).map V.int) (by walk_at "sq") (at_neg1 _ (List.cons_ne_nil _ _)) ?_
        rw [← wv_last x r0]
        exact kq _ (by walk_at "sm")
      · walk_at "go2"
        refine R_ixL (by walk_at "sq") (at_int 0 rfl (by omega)) ?_
        have e := wv_least x r0
        rw [List.getD_eq_getElem?_getD, List.getElem?_eq_getElem (by omega)] at e
        have e : wordV (x :: r0) "least" = .int ((srt (x :: r0))[0]'(by omega)) := e
        rw [← e]
        exact kq _ (by walk_at "sm")
      · walk_at "go2"
        refine R_ixL (by walk_at "sq") (at_neg1 _ hsn) ?_
        rw [getLast_srt r0.length rfl, ← wv_greatest x r0]
        exact kq _ (by walk_at "sm")
      · walk_at "go2"
        refine R_ixL (by walk_at "sq") (at_int (r0.length / 2) (by rw [mapint_len, hs]; omega) (by omega)) ?_
        have e := wv_middle x r0
        rw [List.getD_eq_getElem?_getD, List.getElem?_eq_getElem (by omega)] at e
        have e : wordV (x :: r0) "middle" = .int ((srt (x :: r0))[r0.length / 2]'(by omega)) := e
        rw [← e]
        exact kq _ (by walk_at "sm")
      · walk_at "go2"
        have ho : ∀ {Hx : Hp}, Same H Hx → Hx o = some (.dK kvs) := fun e => e _ _ h4
        refine E_lock (d := o) (u := .dK kvs) (ho (by walk_at "sm")) True.intro fun od => ?_
        walk_at "go"
        refine R_ik upd_same ?_
        refine R_lcPairK (ns := kvs.map fun q => kInt q.1) (pairOf (x :: r0)) h5.names upd_same (by rw [List.length_map, h5.len]; exact Nat.le_trans (unlike_le _) (by rw [List.length_cons]; omega)) (fun y H' hy sm Q' kQ => ?_) (fun D H' hD PI => ?_)
        · have g1 := sm t _ (show _ = some (HO.ins (He.ga K "Tally") dx (tfl r k o (x :: r0).sum (inv (x :: r0) : Nat))) by walk_at "hp")
          have g2 := sm o _ upd_same
          have hc : valV kvs (Sum.inl y : Key) = some (.int ((x :: r0).count y : Nat)) := by
            have := List.count_pos_iff.mpr ((h5.ints_mem y).mp hy)
            rw [h5.at_ y, if_neg (by omega)]
          refine E_tupA ?_
          walk_at "go"
          refine R_getF g2 hc ?_
          walk_at "go"
          refine R_tupA (Nat.le_of_ble_eq_true rfl) fun q nq => ?_
          exact kQ q _ nq (by walk_at "sm") upd_same
        · refine ⟨PI.1 _ _ upd_same, ?_⟩
          have g2 := PI.1 o _ upd_same
          have nD : D ≠ o := ne_nn2 hD upd_same
          have sx := same_lock (ho (by walk_at "sm")) PI.1
          have PJ := PI.same (H4 := upd H' o (.dK kvs)) (fun b u e z => by
            have hb : b ≠ o := by
              rcases z with rfl | ⟨_, _, rfl⟩
              · exact nD
              · exact ne_of e g2 (by intro z; cases z)
            rw [upd_ne hb]
            exact e) sx
          walk_at "go"
          have hne : (kvs.map fun q => kInt q.1).map (pairOf (x :: r0)) ≠ [] := fun e => by
            have m := (h5.ints_mem x).mpr List.mem_cons_self
            rw [List.map_eq_nil_iff.mp e] at m
            cases m
          refine R_minP PJ hne fun q a b hq hm hle => ?_
          walk_at "go"
          refine R_ixT (SqT.of hq) (v := .int b) rfl ?_
          have eb : b = common (x :: r0) := by
            refine common_of (p := (a, b)) (List.cons_ne_nil _ _) ?_ fun z hz => hle _ (List.mem_map.mpr ⟨z, (h5.ints_mem z).mpr hz, rfl⟩)
            obtain ⟨z, hz, ez⟩ := List.mem_map.mp hm
            exact ⟨z, (h5.ints_mem z).mp hz, ez.symm⟩
          rw [eb, ← wv_commonest x r0]
          exact kq _ (Same.trans (by walk_at "sm") sx)
theorem ok_Tally_word (T : Txt K mg D) : FnOk P w K mg base CX0 2 (He.ma K (He.ga K "Tally") "word") (D ("Tally", some "word")) ["self", "name"] (spWord K) := by
  refine T.Tally_word.F.ok sc_Tally_word (fun vs H Q E h => ?_) (fun cdv A outer s H vs Q E hr h => ?_)
  · obtain ⟨t, r, k, o, row, nm, rfl, _⟩ := h
    rfl
  · obtain ⟨t, r, k, o, row, nm, rfl, S, hl, hn, kq⟩ := h
    have hu := hu_of hr
    have fcTally := T.cTally.cl; have fnTallyrow := T.n_Tally_row; have fnTallyranks := T.n_Tally_ranks; have fnTallyoften := T.n_Tally_often; have fnTallytotal := T.n_Tally_total; have fnTallypairs := T.n_Tally_pairs
    obtain ⟨a1, a2, a3, a4, a5, a6⟩ := S.apart
    obtain ⟨⟨dx, h1⟩, h2, h3, ⟨kvs, h4, h5⟩, _⟩ := id S
    have h4' := h4
    refine ⟨_, PSs.nox (pss_cons (ps_if (pt_cmpR op_eq (pv 1) pe_str (nomark _)) (pss_one (ps_ret (pe_callB (call_lenK (K := K) rfl) (by rfl) T.z_len PySem.boot_len (pa_cons (pe_fldK (K := K) rfl (pv 0) rfl) pa_nil)))) pss_nil)
      (pss_cons (ps_if (pt_cmpR op_eq (pv 1) pe_str (nomark _)) (pss_one (ps_ret (pe_fldK (K := K) rfl (pv 0) rfl))) pss_nil)
      (pss_cons (ps_if (pt_cmpR op_eq (pv 1) pe_str (nomark _)) (pss_one (ps_ret (pe_callB call_lenD (by rfl) T.z_len PySem.boot_len (pa_cons (pe_fldK (K := K) rfl (pv 0) rfl) pa_nil)))) pss_nil)
      (pss_cons (ps_if (pt_cmpR op_eq (pv 1) pe_str (nomark _)) (pss_one (ps_ret (pe_fldK (K := K) rfl (pv 0) rfl))) pss_nil)
      (pss_cons (ps_if (pt_cmpR op_eq (pv 1) pe_str (nomark _)) (pss_one (ps_ret (pe_meth0 (pv 0) T.cTally.cl T.Tally_rising.me (ok_Tally_rising T) (by exact hr.mono (by decide)) T.Tally_rising.b .nil pass0))) pss_nil)
      (pss_cons (ps_if (pt_cmpR op_eq (pv 1) pe_str (nomark _)) (pss_one (ps_ret (pe_meth0 (pv 0) T.cTally.cl T.Tally_mark.me (ok_Tally_mark T) (by exact hr.mono (by decide)) T.Tally_mark.b .nil pass0))) pss_nil)
      (pss_one (ps_ret (pe_meth (pv 0) T.cTally.cl T.Tally_one.me (ok_Tally_one T) (by exact hr.mono (by decide)) T.Tally_one.b .nil pass0 (pa_cons (pv 1) pa_nil)))))))))), ?_⟩
    walk_at "in"
    have hv : ∀ {a b : Str}, a ≠ b → ¬ V.str a = V.str b := fun h e => h (V.str.inj e)
    by_cases e1 : nm = "many"
    · subst e1
      refine iteBT (decide_eq_true rfl) ?_
      walk_at "go"
      rw [mapint_len, ← wv_many row]
      exact kq _ (Same.refl _)
    refine iteBF (decide_eq_false (hv e1)) ?_
    walk_at "go"
    by_cases e2 : nm = "sum"
    · subst e2
      refine iteBT (decide_eq_true rfl) ?_
      walk_at "go"
      rw [← wv_sum row]
      exact kq _ (Same.refl _)
    refine iteBF (decide_eq_false (hv e2)) ?_
    walk_at "go"
    by_cases e3 : nm = "unlike"
    · subst e3
      refine iteBT (decide_eq_true rfl) ?_
      walk_at "go"
      refine ⟨o, kvs, rfl, h4, ?_⟩
      rw [h5.len, ← wv_unlike row]
      exact kq _ (Same.refl _)
    refine iteBF (decide_eq_false (hv e3)) ?_
    walk_at "go"
    by_cases e4 : nm = "wrong"
    · subst e4
      refine iteBT (decide_eq_true rfl) ?_
      walk_at "go"
      rw [← wv_wrong row]
      exact kq _ (Same.refl _)
    refine iteBF (decide_eq_false (hv e4)) ?_
    walk_at "go"
    by_cases e5 : nm = "rising"
    · subst e5
      refine iteBT (decide_eq_true rfl) ?_
      walk_at "go"
      refine ⟨t, r, k, o, row, rfl, S, hl, ?_⟩
      walk_at "go"
      rw [← wv_rising row]
      exact kq _ (Same.refl _)
    refine iteBF (decide_eq_false (hv e5)) ?_
    walk_at "go"
    by_cases e6 : nm = "mark"
    · subst e6
      refine iteBT (decide_eq_true rfl) ?_
      walk_at "go"
      refine ⟨t, r, k, o, row, rfl, S, hl, ?_⟩
      walk_at "go"
      rw [← wv_mark row]
      exact kq _ (Same.refl _)
    refine iteBF (decide_eq_false (hv e6)) ?_
    walk_at "go"
    have hn6 : nm ∈ names6 := by
      simp only [names12, List.mem_cons, List.not_mem_nil, or_false, e1, e2, e3, e4, e5, e6, false_or] at hn
      simp only [names6, List.mem_cons, List.not_mem_nil, or_false]
      exact hn
    exact ⟨t, r, k, o, row, nm, rfl, S, hl, hn6, fun H' e => kq H' e⟩
end
end LF


set_option maxRecDepth 100000
set_option maxHeartbeats 4000000
namespace LF
open PySem PySem.Spec PyProof.Rows L2

def spLook : Sp := fun vs H Q _ => ∃ n : Nat, vs = [.int n] ∧ 1 ≤ n ∧ n ≤ 1000 ∧ Q .non H
section
variable {P : Program} {w : World} {K : PySem.W.Frag} {mg : Str → Option Value} {base : Heap} {D : Str × Option Str → FuncData}
theorem ok_look_size (T : Txt K mg D) : FnOk P w K mg base CX0 1 (He.ga K "look_size") (D ("look_size", none)) ["size"] spLook := by
  refine T.look_size.F.ok sc_look_size (fun vs H Q E h => ?_) (fun cdv A outer s H vs Q E hr h => ?_)
  · obtain ⟨n, rfl, _⟩ := h
    rfl
  · obtain ⟨n, rfl, h1, h2, kq⟩ := h
    refine ⟨_, PSs.nox (pss_one (ps_if (pt_not (pt_chain op_le op_le pe_int (pv 0) (pe_globI (by rfl) T.c_MOST))) (pss_one ps_never) pss_nil)), ?_⟩
    walk_at "in"
    refine iteBT (decide_eq_true (by omega)) ?_
    walk_at "go"
    refine iteBF (by rw [decide_eq_true (show (n : Int) ≤ 1000 by omega)]; rfl) ?_
    walk_at "go"
    exact kq
end
end LF

set_option maxRecDepth 100000
set_option maxHeartbeats 4000000
namespace LF
open PySem PySem.Spec PyProof.Rows L2

/-! ### a Window in the heap -/
structure WAt (K : PySem.W.Frag) (H : Hp) (wi t r k o : Addr) (n : Nat) (row : List Int) : Prop where
  ob : ∃ dx, H wi = some (.ins (He.ga K "Window") dx (wfl n t))
  ta : TAt K H t r k o row
  n1 : 1 ≤ n
  n2 : n ≤ 1000
  le : row.length ≤ n
def wput (n : Nat) (row : List Int) (x : Int) : List Int := if row.length = n then row.tail ++ [x] else row ++ [x]
def wgone (n : Nat) (row : List Int) : V := if row.length = n then .int (row.headD 0) else .non
theorem WAt.same {K : PySem.W.Frag} {H H' : Hp} {wi t r k o : Addr} {n : Nat} {row : List Int} (S : WAt K H wi t r k o n row) (e1 : ∀ b u, (b = wi ∨ b = t ∨ b = r ∨ b = k ∨ b = o) → H b = some u → H' b = some u) : WAt K H' wi t r k o n row := by
  obtain ⟨⟨dx, h1⟩, h2, h3, h4, h5⟩ := S
  exact ⟨⟨dx, e1 _ _ (.inl rfl) h1⟩, h2.same fun b u h => e1 b u (.inr h), h3, h4, h5⟩
theorem WAt.ex {K : PySem.W.Frag} {H H' : Hp} {wi t r k o : Addr} {n : Nat} {row : List Int} (S : WAt K H wi t r k o n row) (e : Same H H') : WAt K H' wi t r k o n row := S.same fun b u _ h => e b u h
theorem WAt.apart {K : PySem.W.Frag} {H : Hp} {wi t r k o : Addr} {n : Nat} {row : List Int} (S : WAt K H wi t r k o n row) : wi ≠ t ∧ wi ≠ r ∧ wi ≠ k ∧ wi ≠ o := by
  obtain ⟨⟨dx, h1⟩, ⟨⟨dy, g1⟩, g2, g3, ⟨kvs, g4, _⟩, _⟩, _⟩ := S
  refine ⟨ne_of h1 g1 fun z => ?_, ne_of h1 g2 (by intro z; cases z), ne_of h1 g3 (by intro z; cases z), ne_of h1 g4 (by intro z; cases z)⟩
  injection z with _ _ z3
  unfold wfl tfl at z3
  injection z3 with z4 z5
  injection z5 with z6 z7
  cases z7
def spWInit (K : PySem.W.Frag) : Sp := fun vs H Q _ => ∃ (wi dx : Addr) (n : Nat), vs = [.ref wi, .int n] ∧ H wi = some (.ins (He.ga K "Window") dx []) ∧ 1 ≤ n ∧ n ≤ 1000 ∧
  ∀ (t r k o : Addr) (H' : Hp), H t = none → H r = none → H k = none → H o = none → WAt K H' wi t r k o n [] → (∀ b u, H b = some u → b ≠ wi → H' b = some u) → Q .non H'
def spWPut (K : PySem.W.Frag) : Sp := fun vs H Q _ => ∃ (wi t r k o : Addr) (n : Nat) (row : List Int) (x : Int), vs = [.ref wi, .int x] ∧ WAt K H wi t r k o n row ∧
  ∀ H', WAt K H' wi t r k o n (wput n row x) → Keep H H' t r k o → Q (wgone n row) H'
def spWThings (K : PySem.W.Frag) : Sp := fun vs H Q _ => ∃ (wi t r k o : Addr) (n : Nat) (row : List Int), vs = [.ref wi] ∧ WAt K H wi t r k o n row ∧
  ∀ l H', H l = none → Same H H' → H' l = some (.lst (row.map V.int)) → Q (.ref l) H'
def spWWord (K : PySem.W.Frag) : Sp := fun vs H Q _ => ∃ (wi t r k o : Addr) (n : Nat) (row : List Int) (nm : Str), vs = [.ref wi, .str nm] ∧ WAt K H wi t r k o n row ∧ nm ∈ names12 ∧
  ∀ H', Same H H' → Q (wordV row nm) H'
section
variable {P : Program} {w : World} {K : PySem.W.Frag} {mg : Str → Option Value} {base : Heap} {D : Str × Option Str → FuncData}
theorem ok_Window_init (T : Txt K mg D) : FnOk P w K mg base CX0 3 (He.ma K (He.ga K "Window") "__init__") (D ("Window", some "__init__")) ["self", "size"] (spWInit K) := by
  refine T.Window_init.F.ok sc_Window_init (fun vs H Q E h => ?_) (fun cdv A outer s H vs Q E hr h => ?_)
  · obtain ⟨wi, dx, n, rfl, _⟩ := h
    rfl
  · obtain ⟨wi, dx, n, rfl, h1, n1, n2, kq⟩ := h
    have fcWindow := T.cWindow.cl; have fnWindowsize := T.n_Window_size; have fnWindowtally := T.n_Window_tally
    refine ⟨_, PSs.nox (pss_cons (ps_expr (pe_call (ok_look_size T) (by exact hr.mono (by decide)) (by rfl) T.look_size.g T.look_size.F.kp T.look_size.b .nil pass0 (pa_cons (pv 1) pa_nil)))
      (pss_cons (ps_fldK (K := K) rfl (pv 0) (pv 1) rfl)
      (pss_one (ps_fldK (K := K) rfl (pv 0) (pe_make0 T.cTally.mkr (ok_Tally_init T) (by exact hr.mono (by decide)) (by rfl) T.cTally.g T.Tally_init.b .nil pass0) rfl)))), ?_⟩
    walk_at "in"
    refine ⟨n, rfl, n1, n2, ?_⟩
    walk_at "go"
    intro t dy nt ndy ne
    have a1 : wi ≠ t := ne_of_none (by walk_at "hp") nt
    have a2 : wi ≠ dy := ne_of_none (by walk_at "hp") ndy
    refine ⟨t, dy, rfl, upd_same, fun r k o H1 nr nk no TA kp => ⟨rfl, ?_⟩⟩
    have g1 := kp wi (.ins (He.ga K "Window") dx [("size", .int n)]) (by walk_at "hp") a1
    walk_at "go"
    have ndo : dy ≠ wi := a2.symm
    -- what is new
    have fr : ∀ b, (upd (upd (upd H wi (.ins (He.ga K "Window") dx [("size", .int n)])) dy (.own t)) t (.ins (He.ga K "Tally") dy [])) b = none → H b = none := fun b hb => by
      by_cases e1 : b = t
      · subst e1; rw [upd_same] at hb; cases hb
      rw [upd_ne e1] at hb
      by_cases e2 : b = dy
      · subst e2; rw [upd_same] at hb; cases hb
      rw [upd_ne e2] at hb
      by_cases e3 : b = wi
      · subst e3; rw [upd_same] at hb; cases hb
      rw [upd_ne e3] at hb
      exact hb
    have nt' : H t = none := by rw [upd_ne a1.symm] at nt; exact nt
    have ndy' : H dy = none := by rw [upd_ne a2.symm] at ndy; exact ndy
    have b2 : wi ≠ r := ne_of_none h1 (fr _ nr)
    have b3 : wi ≠ k := ne_of_none h1 (fr _ nk)
    have b4 : wi ≠ o := ne_of_none h1 (fr _ no)
    refine kq t r k o _ nt' (fr _ nr) (fr _ nk) (fr _ no) ⟨⟨dx, upd_same⟩, TA.same fun b u z e => ?_, n1, n2, Nat.zero_le _⟩ fun b u e hb => ?_
    · have hb : b ≠ wi := by
        rcases z with rfl | rfl | rfl | rfl
        · exact a1.symm
        · exact b2.symm
        · exact b3.symm
        · exact b4.symm
      walk_at "hp"
    · rw [upd_ne hb]
      have c1 : b ≠ t := ne_of_none e nt'
      have c2 : b ≠ dy := ne_of_none e ndy'
      exact kp b u (by walk_at "hp") c1
theorem ok_Window_put (T : Txt K mg D) : FnOk P w K mg base CX0 3 (He.ma K (He.ga K "Window") "put") (D ("Window", some "put")) ["self", "thing"] (spWPut K) := by
  refine T.Window_put.F.ok sc_Window_put (fun vs H Q E h => ?_) (fun cdv A outer s H vs Q E hr h => ?_)
  · obtain ⟨wi, t, r, k, o, n, row, x, rfl, _⟩ := h
    rfl
  · obtain ⟨wi, t, r, k, o, n, row, x, rfl, S, kq⟩ := h
    have fcWindow := T.cWindow.cl; have fnWindowsize := T.n_Window_size; have fnWindowtally := T.n_Window_tally; have fcTally := T.cTally.cl; have fnTallyrow := T.n_Tally_row; have fnTallyranks := T.n_Tally_ranks; have fnTallyoften := T.n_Tally_often; have fnTallytotal := T.n_Tally_total; have fnTallypairs := T.n_Tally_pairs
    obtain ⟨⟨dx, h1⟩, TA, n1, n2, hle⟩ := id S
    obtain ⟨⟨dy, g1⟩, g2, g3, ⟨kvs, g4, g5⟩, _⟩ := id TA
    obtain ⟨a1, a2, a3, a4⟩ := S.apart
    refine ⟨_, PSs.nox (pss_cons (ps_set (i := 2) sc_Window_put.nd rfl (Or.inl rfl) pe_non)
      (pss_cons (ps_if (pt_cmpR op_eq (pe_callB (call_lenK (K := K) rfl) (by rfl) T.z_len PySem.boot_len (pa_cons (pe_fldK (K := K) rfl (pe_fldK (K := K) rfl (pv 0) rfl) rfl) pa_nil)) (pe_fldK (K := K) rfl (pv 0) rfl) (nomark _)) (pss_one (ps_set (i := 2) sc_Window_put.nd rfl (Or.inl rfl) (pe_meth0 (pe_fldK (K := K) rfl (pv 0) rfl) T.cTally.cl T.Tally_drop.me (ok_Tally_drop T) (by exact hr.mono (by decide)) T.Tally_drop.b .nil pass0))) pss_nil)
      (pss_cons (ps_expr (pe_meth (pe_fldK (K := K) rfl (pv 0) rfl) T.cTally.cl T.Tally_add.me (ok_Tally_add T) (by exact hr.mono (by decide)) T.Tally_add.b .nil pass0 (pa_cons (pv 1) pa_nil)))
      (pss_one (ps_ret (pv 2)))))), ?_⟩
    walk_at "in"
    rw [mapint_len]
    by_cases hf : row.length = n
    · refine iteBT (decide_eq_true (by rw [hf])) ?_
      walk_at "go"
      cases row with
      | nil => exact absurd hf (by rw [List.length_nil]; omega)
      | cons y r0 =>
        rw [List.length_cons] at hf
        refine ⟨t, r, k, o, r0, y, rfl, TA, by omega, fun H1 TA1 kp1 => ?_⟩
        obtain ⟨⟨dz, f1⟩, _⟩ := id TA1
        have f2 := kp1 wi _ h1 a1 a2 a3 a4
        walk_at "go"
        refine ⟨t, r, k, o, r0, x, rfl, TA1, by omega, fun H2 TA2 kp2 => ?_⟩
        walk_at "go"
        have f3 := kp2 wi _ f2 a1 a2 a3 a4
        have e1 : wput n (y :: r0) x = r0 ++ [x] := if_pos hf
        have e2 : wgone n (y :: r0) = .int y := if_pos hf
        rw [← e2]
        exact kq H2 ⟨⟨dx, f3⟩, by rw [e1]; exact TA2, n1, n2, by rw [e1, List.length_append]; exact Nat.le_of_eq hf⟩ fun b u e b1 b2 b3 b4 => kp2 b u (kp1 b u e b1 b2 b3 b4) b1 b2 b3 b4
    · refine iteBF (decide_eq_false (fun e => hf (by have := V.int.inj e; omega))) ?_
      walk_at "go"
      refine ⟨t, r, k, o, row, x, rfl, TA, by omega, fun H2 TA2 kp2 => ?_⟩
      walk_at "go"
      have f3 := kp2 wi _ h1 a1 a2 a3 a4
      have e1 : wput n row x = row ++ [x] := if_neg hf
      have e2 : wgone n row = .non := if_neg hf
      rw [← e2]
      exact kq H2 ⟨⟨dx, f3⟩, by rw [e1]; exact TA2, n1, n2, by rw [e1, List.length_append, List.length_singleton]; omega⟩ kp2
theorem ok_Window_things (T : Txt K mg D) : FnOk P w K mg base CX0 1 (He.ma K (He.ga K "Window") "things") (D ("Window", some "things")) ["self"] (spWThings K) := by
  refine T.Window_things.F.ok sc_Window_things (fun vs H Q E h => ?_) (fun cdv A outer s H vs Q E hr h => ?_)
  · obtain ⟨wi, t, r, k, o, n, row, rfl, _⟩ := h
    rfl
  · obtain ⟨wi, t, r, k, o, n, row, rfl, S, kq⟩ := h
    have fcWindow := T.cWindow.cl; have fnWindowsize := T.n_Window_size; have fnWindowtally := T.n_Window_tally; have fcTally := T.cTally.cl; have fnTallyrow := T.n_Tally_row; have fnTallyranks := T.n_Tally_ranks; have fnTallyoften := T.n_Tally_often; have fnTallytotal := T.n_Tally_total; have fnTallypairs := T.n_Tally_pairs
    obtain ⟨⟨dx, h1⟩, TA, n1, n2, hle⟩ := id S
    obtain ⟨⟨dy, g1⟩, g2, g3, ⟨kvs, g4, g5⟩, _⟩ := id TA
    refine ⟨_, PSs.nox (pss_one (ps_ret (pe_callTy (call_listK (K := K) rfl) (by rfl) T.z_list (by decide +kernel) (pa_cons (pe_fldK (K := K) rfl (pe_fldK (K := K) rfl (pv 0) rfl) rfl) pa_nil)))), ?_⟩
    walk_at "in"
    intro l nl
    exact kq l _ nl (same_upd nl (Same.refl _)) upd_same
theorem ok_Window_word (T : Txt K mg D) : FnOk P w K mg base CX0 3 (He.ma K (He.ga K "Window") "word") (D ("Window", some "word")) ["self", "name"] (spWWord K) := by
  refine T.Window_word.F.ok sc_Window_word (fun vs H Q E h => ?_) (fun cdv A outer s H vs Q E hr h => ?_)
  · obtain ⟨wi, t, r, k, o, n, row, nm, rfl, _⟩ := h
    rfl
  · obtain ⟨wi, t, r, k, o, n, row, nm, rfl, S, hn, kq⟩ := h
    have fcWindow := T.cWindow.cl; have fnWindowsize := T.n_Window_size; have fnWindowtally := T.n_Window_tally; have fcTally := T.cTally.cl; have fnTallyrow := T.n_Tally_row; have fnTallyranks := T.n_Tally_ranks; have fnTallyoften := T.n_Tally_often; have fnTallytotal := T.n_Tally_total; have fnTallypairs := T.n_Tally_pairs
    obtain ⟨⟨dx, h1⟩, TA, n1, n2, hle⟩ := id S
    obtain ⟨⟨dy, g1⟩, g2, g3, ⟨kvs, g4, g5⟩, _⟩ := id TA
    refine ⟨_, PSs.nox (pss_one (ps_ret (pe_meth (pe_fldK (K := K) rfl (pv 0) rfl) T.cTally.cl T.Tally_word.me (ok_Tally_word T) (by exact hr.mono (by decide)) T.Tally_word.b .nil pass0 (pa_cons (pv 1) pa_nil)))), ?_⟩
    walk_at "in"
    exact ⟨t, r, k, o, row, nm, rfl, TA, by omega, hn, fun H' e => kq H' e⟩
end
end LF


set_option maxRecDepth 100000
set_option maxHeartbeats 4000000
namespace LF
open PySem PySem.Spec PyProof.Rows L2


/-! ### a Timed in the heap -/
structure ZAt (K : PySem.W.Frag) (H : Hp) (zi tm t r k o : Addr) (n : Nat) (now : Int) (ps : List (Int × Int)) : Prop where
  ob : ∃ dx, H zi = some (.ins (He.ga K "Timed") dx (zfl n now tm t))
  tl : H tm = some (.lst ((ps.map (·.1)).map V.int))
  ta : TAt K H t r k o (ps.map (·.2))
  n1 : 1 ≤ n
  n2 : n ≤ 1000
  mr : tm ≠ r
  mk_ : tm ≠ k
def KeepZ (H H' : Hp) (zi tm t r k o : Addr) : Prop := ∀ b u, H b = some u → b ≠ zi → b ≠ tm → b ≠ t → b ≠ r → b ≠ k → b ≠ o → H' b = some u
theorem zt_ne {n now : Int} {tm t r k o : Addr} {T P : Int} : zfl n now tm t ≠ tfl r k o T P := fun e => absurd (show (4 : Nat) = 5 from congrArg List.length e) (by decide)
theorem ZAt.same {K : PySem.W.Frag} {H H' : Hp} {zi tm t r k o : Addr} {n : Nat} {now : Int} {ps : List (Int × Int)} (S : ZAt K H zi tm t r k o n now ps)
    (e1 : ∀ b u, (b = zi ∨ b = tm ∨ b = t ∨ b = r ∨ b = k ∨ b = o) → H b = some u → H' b = some u) : ZAt K H' zi tm t r k o n now ps := by
  obtain ⟨⟨dx, h1⟩, h2, h3, h4, h5, h6, h7⟩ := S
  exact ⟨⟨dx, e1 _ _ (.inl rfl) h1⟩, e1 _ _ (.inr (.inl rfl)) h2, h3.same fun b u h => e1 b u (.inr (.inr h)), h4, h5, h6, h7⟩
theorem ZAt.ex {K : PySem.W.Frag} {H H' : Hp} {zi tm t r k o : Addr} {n : Nat} {now : Int} {ps : List (Int × Int)} (S : ZAt K H zi tm t r k o n now ps) (e : Same H H') : ZAt K H' zi tm t r k o n now ps := S.same fun b u _ h => e b u h
theorem ZAt.apart {K : PySem.W.Frag} {H : Hp} {zi tm t r k o : Addr} {n : Nat} {now : Int} {ps : List (Int × Int)} (S : ZAt K H zi tm t r k o n now ps) :
    zi ≠ tm ∧ zi ≠ t ∧ zi ≠ r ∧ zi ≠ k ∧ zi ≠ o ∧ tm ≠ t ∧ tm ≠ r ∧ tm ≠ k ∧ tm ≠ o := by
  obtain ⟨⟨dx, h1⟩, h2, ⟨⟨dy, g1⟩, g2, g3, ⟨kvs, g4, _⟩, _⟩, _, _, h6, h7⟩ := S
  exact ⟨ne_of h1 h2 (by intro z; cases z), ne_of h1 g1 (fun z => by injection z with _ _ z3; exact zt_ne z3), ne_of h1 g2 (by intro z; cases z), ne_of h1 g3 (by intro z; cases z), ne_of h1 g4 (by intro z; cases z),
    ne_of h2 g1 (by intro z; cases z), h6, h7, ne_of h2 g4 (by intro z; cases z)⟩
def old (lim : Int) (p : Int × Int) : Bool := decide (p.1 ≤ lim)
def spZInit (K : PySem.W.Frag) : Sp := fun vs H Q _ => ∃ (zi dx : Addr) (n : Nat), vs = [.ref zi, .int n] ∧ H zi = some (.ins (He.ga K "Timed") dx []) ∧ 1 ≤ n ∧ n ≤ 1000 ∧
  ∀ (tm t r k o : Addr) (H' : Hp), H tm = none → H t = none → H r = none → H k = none → H o = none → ZAt K H' zi tm t r k o n 0 [] → (∀ b u, H b = some u → b ≠ zi → H' b = some u) → Q .non H'
def spZTime (K : PySem.W.Frag) : Sp := fun vs H Q _ => ∃ (zi tm t r k o : Addr) (n : Nat) (now : Int) (ps : List (Int × Int)), vs = [.ref zi] ∧ ZAt K H zi tm t r k o n now ps ∧ Q (.int now) H
def spZGo (K : PySem.W.Frag) : Sp := fun vs H Q _ => ∃ (zi tm t r k o : Addr) (n : Nat) (now : Int) (ps : List (Int × Int)) (x : Int), vs = [.ref zi, .int x] ∧ ZAt K H zi tm t r k o n now ps ∧ now ≤ x ∧ ps.length ≤ 900 ∧
  ∀ g H', H g = none → ZAt K H' zi tm t r k o n x (ps.dropWhile (old (x - n))) → KeepZ H H' zi tm t r k o → H' g = some (.lst (((ps.takeWhile (old (x - n))).map (·.2)).map V.int)) → Q (.ref g) H'
def spZPut (K : PySem.W.Frag) : Sp := fun vs H Q _ => ∃ (zi tm t r k o : Addr) (n : Nat) (now : Int) (ps : List (Int × Int)) (x y : Int), vs = [.ref zi, .int x, .int y] ∧ ZAt K H zi tm t r k o n now ps ∧ now ≤ x ∧ ps.length ≤ 900 ∧
  ∀ g H', H g = none → ZAt K H' zi tm t r k o n x (ps.dropWhile (old (x - n)) ++ [(x, y)]) → KeepZ H H' zi tm t r k o → H' g = some (.lst (((ps.takeWhile (old (x - n))).map (·.2)).map V.int)) → Q (.ref g) H'
def spZThings (K : PySem.W.Frag) : Sp := fun vs H Q _ => ∃ (zi tm t r k o : Addr) (n : Nat) (now : Int) (ps : List (Int × Int)), vs = [.ref zi] ∧ ZAt K H zi tm t r k o n now ps ∧
  ∀ l H', H l = none → Same H H' → H' l = some (.lst ((ps.map (·.2)).map V.int)) → Q (.ref l) H'
def spZWord (K : PySem.W.Frag) : Sp := fun vs H Q _ => ∃ (zi tm t r k o : Addr) (n : Nat) (now : Int) (ps : List (Int × Int)) (nm : Str), vs = [.ref zi, .str nm] ∧ ZAt K H zi tm t r k o n now ps ∧ ps.length ≤ 1000 ∧ nm ∈ names12 ∧
  ∀ H', Same H H' → Q (wordV (ps.map (·.2)) nm) H'
theorem span_of {α : Type} {f : α → Bool} : ∀ {a b : List α}, (∀ p ∈ a, f p = true) → (∀ p r, b = p :: r → f p = false) → (a ++ b).takeWhile f = a ∧ (a ++ b).dropWhile f = b
  | [], [], _, _ => ⟨rfl, rfl⟩
  | [], p :: r, _, h => by
    have e := h p r rfl
    simp [e]
  | q :: a, b, h1, h2 => by
    obtain ⟨i1, i2⟩ := span_of (a := a) (b := b) (fun p hp => h1 p (List.mem_cons_of_mem _ hp)) h2
    have e := h1 q List.mem_cons_self
    simp [e, i1, i2]
section
variable {P : Program} {w : World} {K : PySem.W.Frag} {mg : Str → Option Value} {base : Heap} {D : Str × Option Str → FuncData}
theorem ok_Timed_init (T : Txt K mg D) : FnOk P w K mg base CX0 3 (He.ma K (He.ga K "Timed") "__init__") (D ("Timed", some "__init__")) ["self", "span"] (spZInit K) := by
  refine T.Timed_init.F.ok sc_Timed_init (fun vs H Q E h => ?_) (fun cdv A outer s H vs Q E hr h => ?_)
  · obtain ⟨zi, dx, n, rfl, _⟩ := h
    rfl
  · obtain ⟨zi, dx, n, rfl, h1, n1, n2, kq⟩ := h
    have fcTimed := T.cTimed.cl; have fnTimedspan := T.n_Timed_span; have fnTimednow := T.n_Timed_now; have fnTimedtimes := T.n_Timed_times; have fnTimedtally := T.n_Timed_tally
    refine ⟨_, PSs.nox (pss_cons (ps_expr (pe_call (ok_look_size T) (by exact hr.mono (by decide)) (by rfl) T.look_size.g T.look_size.F.kp T.look_size.b .nil pass0 (pa_cons (pv 1) pa_nil)))
      (pss_cons (ps_fldK (K := K) rfl (pv 0) (pv 1) rfl)
      (pss_cons (ps_fldK (K := K) rfl (pv 0) pe_int rfl)
      (pss_cons (ps_fldK (K := K) rfl (pv 0) (pe_lst pa_nil) rfl)
      (pss_one (ps_fldK (K := K) rfl (pv 0) (pe_make0 T.cTally.mkr (ok_Tally_init T) (by exact hr.mono (by decide)) (by rfl) T.cTally.g T.Tally_init.b .nil pass0) rfl)))))), ?_⟩
    walk_at "in"
    refine ⟨n, rfl, n1, n2, ?_⟩
    walk_at "go"
    refine ⟨Nat.zero_le _, fun tm ntm => ?_⟩
    have a0 : zi ≠ tm := ne_of_none (by walk_at "hp") ntm
    walk_at "go"
    intro t dy nt ndy ne
    have a1 : zi ≠ t := ne_of_none (by walk_at "hp") nt
    have a2 : zi ≠ dy := ne_of_none (by walk_at "hp") ndy
    have a3 : tm ≠ t := ne_of_none (by walk_at "hp") nt
    have a4 : tm ≠ dy := ne_of_none (by walk_at "hp") ndy
    refine ⟨t, dy, rfl, upd_same, fun r k o H1 nr nk no TA kp => ⟨rfl, ?_⟩⟩
    have g1 := kp zi (.ins (He.ga K "Timed") dx [("span", .int n), ("now", .int 0), ("times", .ref tm)]) (by walk_at "hp") a1
    have g2 := kp tm (.lst []) (by walk_at "hp") a3
    walk_at "go"
    have fr0 : ∀ b, (upd (upd (upd (upd (upd H zi (.ins (He.ga K "Timed") dx [("span", .int n), ("now", .int 0)])) tm (.lst [])) zi (.ins (He.ga K "Timed") dx [("span", .int n), ("now", .int 0), ("times", .ref tm)])) dy (.own t)) t (.ins (He.ga K "Tally") dy [])) b = none → H b = none ∧ b ≠ zi ∧ b ≠ tm := fun b hb => by
      have e1 : b ≠ t := fun e => by subst e; rw [upd_same] at hb; cases hb
      rw [upd_ne e1] at hb
      have e2 : b ≠ dy := fun e => by subst e; rw [upd_same] at hb; cases hb
      rw [upd_ne e2] at hb
      have e3 : b ≠ zi := fun e => by subst e; rw [upd_same] at hb; cases hb
      rw [upd_ne e3] at hb
      have e4 : b ≠ tm := fun e => by subst e; rw [upd_same] at hb; cases hb
      rw [upd_ne e4, upd_ne e3] at hb
      exact ⟨hb, e3, e4⟩
    have fr : ∀ b, (upd (upd (upd (upd (upd (upd H zi (.ins (He.ga K "Timed") dx [("span", .int n)])) zi (.ins (He.ga K "Timed") dx [("span", .int n), ("now", .int 0)])) tm (.lst [])) zi (.ins (He.ga K "Timed") dx [("span", .int n), ("now", .int 0), ("times", .ref tm)])) dy (.own t)) t (.ins (He.ga K "Tally") dy [])) b = none → H b = none ∧ b ≠ zi ∧ b ≠ tm := fun b hb => fr0 b (by rw [upd_upd] at hb; exact hb)
    have nt' : H t = none := by rw [upd_ne a1.symm, upd_ne a3.symm, upd_ne a1.symm, upd_ne a1.symm] at nt; exact nt
    have ndy' : H dy = none := by rw [upd_ne a2.symm, upd_ne a4.symm, upd_ne a2.symm, upd_ne a2.symm] at ndy; exact ndy
    have ntm' : H tm = none := by rw [upd_ne a0.symm, upd_ne a0.symm] at ntm; exact ntm
    obtain ⟨fr1, b2, c2⟩ := fr _ nr
    obtain ⟨fk1, b3, c3⟩ := fr _ nk
    obtain ⟨fo1, b4, c4⟩ := fr _ no
    refine kq tm t r k o _ ntm' nt' fr1 fk1 fo1 ⟨⟨dx, upd_same⟩, (show _ = some (HO.lst []) by walk_at "hp"), TA.same fun b u z e => ?_, n1, n2, c2.symm, c3.symm⟩ fun b u e hb => ?_
    · have hb : b ≠ zi := by
        rcases z with rfl | rfl | rfl | rfl
        · exact a1.symm
        · exact b2
        · exact b3
        · exact b4
      walk_at "hp"
    · rw [upd_ne hb]
      have c1 : b ≠ t := ne_of_none e nt'
      have c2 : b ≠ dy := ne_of_none e ndy'
      have c5 : b ≠ tm := ne_of_none e ntm'
      exact kp b u (by walk_at "hp") c1
theorem ok_Timed_time (T : Txt K mg D) : FnOk P w K mg base CX0 1 (He.ma K (He.ga K "Timed") "time") (D ("Timed", some "time")) ["self"] (spZTime K) := by
  refine T.Timed_time.F.ok sc_Timed_time (fun vs H Q E h => ?_) (fun cdv A outer s H vs Q E hr h => ?_)
  · obtain ⟨zi, tm, t, r, k, o, n, now, ps, rfl, _⟩ := h
    rfl
  · obtain ⟨zi, tm, t, r, k, o, n, now, ps, rfl, S, kq⟩ := h
    have fcTimed := T.cTimed.cl; have fnTimedspan := T.n_Timed_span; have fnTimednow := T.n_Timed_now; have fnTimedtimes := T.n_Timed_times; have fnTimedtally := T.n_Timed_tally
    obtain ⟨⟨dx, h1⟩, _⟩ := id S
    refine ⟨_, PSs.nox (pss_one (ps_ret (pe_fldK (K := K) rfl (pv 0) rfl))), ?_⟩
    walk_at "in"
    exact kq
theorem ok_Timed_things (T : Txt K mg D) : FnOk P w K mg base CX0 1 (He.ma K (He.ga K "Timed") "things") (D ("Timed", some "things")) ["self"] (spZThings K) := by
  refine T.Timed_things.F.ok sc_Timed_things (fun vs H Q E h => ?_) (fun cdv A outer s H vs Q E hr h => ?_)
  · obtain ⟨zi, tm, t, r, k, o, n, now, ps, rfl, _⟩ := h
    rfl
  · obtain ⟨zi, tm, t, r, k, o, n, now, ps, rfl, S, kq⟩ := h
    have fcTimed := T.cTimed.cl; have fnTimedspan := T.n_Timed_span; have fnTimednow := T.n_Timed_now; have fnTimedtimes := T.n_Timed_times; have fnTimedtally := T.n_Timed_tally; have fcTally := T.cTally.cl; have fnTallyrow := T.n_Tally_row; have fnTallyranks := T.n_Tally_ranks; have fnTallyoften := T.n_Tally_often; have fnTallytotal := T.n_Tally_total; have fnTallypairs := T.n_Tally_pairs
    obtain ⟨⟨dx, h1⟩, h2, TA, _⟩ := id S
    obtain ⟨⟨dy, g1⟩, g2, g3, ⟨kvs, g4, g5⟩, _⟩ := id TA
    refine ⟨_, PSs.nox (pss_one (ps_ret (pe_callTy (call_listK (K := K) rfl) (by rfl) T.z_list (by decide +kernel) (pa_cons (pe_fldK (K := K) rfl (pe_fldK (K := K) rfl (pv 0) rfl) rfl) pa_nil)))), ?_⟩
    walk_at "in"
    intro l nl
    exact kq l _ nl (same_upd nl (Same.refl _)) upd_same
theorem ok_Timed_word (T : Txt K mg D) : FnOk P w K mg base CX0 3 (He.ma K (He.ga K "Timed") "word") (D ("Timed", some "word")) ["self", "name"] (spZWord K) := by
  refine T.Timed_word.F.ok sc_Timed_word (fun vs H Q E h => ?_) (fun cdv A outer s H vs Q E hr h => ?_)
  · obtain ⟨zi, tm, t, r, k, o, n, now, ps, nm, rfl, _⟩ := h
    rfl
  · obtain ⟨zi, tm, t, r, k, o, n, now, ps, nm, rfl, S, hl, hn, kq⟩ := h
    have fcTimed := T.cTimed.cl; have fnTimedspan := T.n_Timed_span; have fnTimednow := T.n_Timed_now; have fnTimedtimes := T.n_Timed_times; have fnTimedtally := T.n_Timed_tally; have fcTally := T.cTally.cl; have fnTallyrow := T.n_Tally_row; have fnTallyranks := T.n_Tally_ranks; have fnTallyoften := T.n_Tally_often; have fnTallytotal := T.n_Tally_total; have fnTallypairs := T.n_Tally_pairs
    obtain ⟨⟨dx, h1⟩, h2, TA, _⟩ := id S
    obtain ⟨⟨dy, g1⟩, g2, g3, ⟨kvs, g4, g5⟩, _⟩ := id TA
    refine ⟨_, PSs.nox (pss_one (ps_ret (pe_meth (pe_fldK (K := K) rfl (pv 0) rfl) T.cTally.cl T.Tally_word.me (ok_Tally_word T) (by exact hr.mono (by decide)) T.Tally_word.b .nil pass0 (pa_cons (pv 1) pa_nil)))), ?_⟩
    walk_at "in"
    exact ⟨t, r, k, o, _, nm, rfl, TA, by rw [List.length_map]; exact hl, hn, fun H' e => kq H' e⟩
theorem ok_Timed_go_on (T : Txt K mg D) : FnOk P w K mg base CX0 3 (He.ma K (He.ga K "Timed") "go_on") (D ("Timed", some "go_on")) ["self", "time"] (spZGo K) := by
  refine T.Timed_go_on.F.ok sc_Timed_go_on (fun vs H Q E h => ?_) (fun cdv A outer s H vs Q E hr h => ?_)
  · obtain ⟨zi, tm, t, r, k, o, n, now, ps, x, rfl, _⟩ := h
    rfl
  · obtain ⟨zi, tm, t, r, k, o, n, now, ps, x, rfl, S, hx, hl, kq⟩ := h
    have fcTimed := T.cTimed.cl; have fnTimedspan := T.n_Timed_span; have fnTimednow := T.n_Timed_now; have fnTimedtimes := T.n_Timed_times; have fnTimedtally := T.n_Timed_tally; have fcTally := T.cTally.cl; have fnTallyrow := T.n_Tally_row; have fnTallyranks := T.n_Tally_ranks; have fnTallyoften := T.n_Tally_often; have fnTallytotal := T.n_Tally_total; have fnTallypairs := T.n_Tally_pairs
    obtain ⟨⟨dx, h1⟩, h2, TA, n1, n2, _, _⟩ := id S
    obtain ⟨a1, a2, a3, a4, a5, a6, a7, a8, a9⟩ := S.apart
    refine ⟨_, PSs.nox (pss_cons (ps_if (pt_cmpR op_lt (pv 1) (pe_fldK (K := K) rfl (pv 0) rfl) (nomark _)) (pss_one ps_never) pss_nil)
      (pss_cons (ps_fldK (K := K) rfl (pv 0) (pv 1) rfl)
      (pss_cons (ps_set (i := 2) sc_Timed_go_on.nd rfl (Or.inl rfl) (pe_lst pa_nil))
      (pss_cons (ps_whileQ PassesOwn.never (PW.pt (pw_and (pt_truK (K := K) rfl (pe_fldK (K := K) rfl (pv 0) rfl) (by intro _; rfl)) (pw_and1 (pt_cmpR op_le (pe_ix (ix_listK (K := K) rfl) (pe_fldK (K := K) rfl (pv 0) rfl) pe_int (fun _ _ => rfl)) (pe_op op_sub (pv 1) (pe_fldK (K := K) rfl (pv 0) rfl)) (nomark _)))))
      (pss_cons (ps_expr (pe_bmK (K := K) rfl PySem.F.plainAttrs_list PySem.F.slot_list_pop PySem.F.type_list_pop mt_popAt (pe_fldK (K := K) rfl (pv 0) rfl) (pa_cons pe_int pa_nil)))
      (pss_one (ps_expr (pe_bmK (K := K) rfl PySem.F.plainAttrs_list PySem.F.slot_list_append PySem.F.type_list_append mt_append (pv 2) (pa_cons (pe_meth0 (pe_fldK (K := K) rfl (pv 0) rfl) T.cTally.cl T.Tally_drop.me (ok_Tally_drop T) (by exact hr.mono (by decide)) T.Tally_drop.b .nil pass0) pa_nil))))))
      (pss_one (ps_ret (pv 2))))))), ?_⟩
    walk_at "in"
    refine iteBF (decide_eq_false (by omega)) ?_
    walk_at "go"
    refine ⟨Nat.zero_le _, fun g ng => ?_⟩
    have b1 : zi ≠ g := ne_nn ng upd_same
    have ng' : H g = none := by rw [upd_ne b1.symm] at ng; exact ng
    obtain ⟨⟨dt, c1⟩, c2, c3, ⟨kvs, c4, c5⟩, _⟩ := id TA
    have b2 : tm ≠ g := ne_of_none h2 ng'
    have b3 : t ≠ g := ne_of_none c1 ng'
    have b4 : r ≠ g := ne_of_none c2 ng'
    have b5 : k ≠ g := ne_of_none c3 ng'
    have b6 : o ≠ g := ne_of_none c4 ng'
    walk_at "go"
    refine S_while (fun m σ' H' => ∃ (a b : List (Int × Int)), ps = a ++ b ∧ (∀ p ∈ a, old (x - n) p = true) ∧ m = b.length ∧ σ' = [some (.ref zi), some (.int x), some (.ref g)] ∧ ZAt K H' zi tm t r k o n x b ∧ H' g = some (.lst ((a.map (·.2)).map V.int)) ∧ KeepZ H H' zi tm t r k o)
      ps.length ⟨[], ps, rfl, (fun p hp => by cases hp), rfl, rfl, ?_, upd_same, ?_⟩ ?_
    · refine ⟨⟨dx, by walk_at "hp"⟩, by walk_at "hp", TA.same fun b u z e => ?_, n1, n2, a7, a8⟩
      have hb1 : b ≠ zi := by rcases z with rfl | rfl | rfl | rfl <;> first | exact a2.symm | exact a3.symm | exact a4.symm | exact a5.symm
      have hb2 : b ≠ g := by rcases z with rfl | rfl | rfl | rfl <;> assumption
      walk_at "hp"
    · intro b u e d1 d2 d3 d4 d5 d6
      have hb2 : b ≠ g := ne_of_none e ng'
      walk_at "hp"
    · rintro m σ' H' ⟨a, b, rfl, ha, rfl, rfl, Z, hg, kp⟩
      obtain ⟨⟨dz, z1⟩, z2, TZ, _⟩ := id Z
      obtain ⟨⟨dt2, y1⟩, y2, y3, ⟨kv2, y4, y5⟩, _⟩ := id TZ
      walk_at "go"
      cases b with
      | nil =>
        refine iteF ?_
        refine iteF ?_
        walk_at "go"
        obtain ⟨e1, e2⟩ := span_of (b := []) ha (fun _ _ e => by cases e)
        exact kq g H' ng' (by rw [e2]; exact Z) kp (by rw [e1]; exact hg)
      | cons p b' =>
        refine iteT ?_
        have z2 : H' tm = some (HO.lst (V.int p.1 :: (b'.map (·.1)).map V.int)) := z2
        walk_at "go"
        refine R_ixL (SqL.of z2) (v := .int p.1) (at_of (j := 0) rfl rfl) ?_
        walk_at "go"
        refine iteD (fun hle => ?_) (fun hgt => ?_)
        · walk_at "go"
          refine R_pop0 z2 ?_
          walk_at "go"
          have hlen : b'.length ≤ 900 := by rw [List.length_append, List.length_cons] at hl; omega
          have TY : TAt K (upd H' tm (.lst ((b'.map (·.1)).map V.int))) t r k o (p.2 :: b'.map (·.2)) := TZ.same fun b u z e => by
            have hb1 : b ≠ tm := by rcases z with rfl | rfl | rfl | rfl <;> first | exact a6.symm | exact a7.symm | exact a8.symm | exact a9.symm
            rw [upd_ne hb1]
            exact e
          refine ⟨t, r, k, o, b'.map (·.2), p.2, rfl, TY, by rw [List.length_map]; omega, fun H2 TA2 kp2 => ?_⟩
          have w1 := kp2 zi _ (show _ = some (HO.ins (He.ga K "Timed") dz (zfl n x tm t)) by walk_at "hp") a2 a3 a4 a5
          have w2 := kp2 tm _ upd_same a6 a7 a8 a9
          have w3 := kp2 g _ (show _ = some (HO.lst ((a.map (·.2)).map V.int)) by walk_at "hp") b3.symm b4.symm b5.symm b6.symm
          have hal : a.length ≤ 900 := by rw [List.length_append] at hl; omega
          walk_at "go"
          refine ⟨b'.length, by rw [List.length_cons]; omega, a ++ [p], b', by rw [List.append_assoc]; rfl, fun q hq => ?_, rfl, rfl, ⟨⟨dz, by walk_at "hp"⟩, by walk_at "hp", TA2.same fun b u z e => ?_, n1, n2, a7, a8⟩, ?_, fun b u e d1 d2 d3 d4 d5 d6 => ?_⟩
          · rcases List.mem_append.mp hq with hq | hq
            · exact ha q hq
            · rw [List.mem_singleton.mp hq]
              exact decide_eq_true hle
          · have hb1 : b ≠ g := by rcases z with rfl | rfl | rfl | rfl <;> assumption
            walk_at "hp"
          · rw [List.map_append, List.map_append]
            exact upd_same
          · have hb2 : b ≠ g := ne_of_none e ng'
            rw [upd_ne hb2]
            exact kp2 b u (by rw [upd_ne d2]; exact kp b u e d1 d2 d3 d4 d5 d6) d3 d4 d5 d6
        · walk_at "go"
          obtain ⟨e1, e2⟩ := span_of (b := p :: b') ha (fun q r2 e => by cases e; exact decide_eq_false hgt)
          exact kq g H' ng' (by rw [e2]; exact Z) kp (by rw [e1]; exact hg)
theorem ok_Timed_put (T : Txt K mg D) : FnOk P w K mg base CX0 4 (He.ma K (He.ga K "Timed") "put") (D ("Timed", some "put")) ["self", "time", "thing"] (spZPut K) := by
  refine T.Timed_put.F.ok sc_Timed_put (fun vs H Q E h => ?_) (fun cdv A outer s H vs Q E hr h => ?_)
  · obtain ⟨zi, tm, t, r, k, o, n, now, ps, x, y, rfl, _⟩ := h
    rfl
  · obtain ⟨zi, tm, t, r, k, o, n, now, ps, x, y, rfl, S, hx, hl, kq⟩ := h
    have fcTimed := T.cTimed.cl; have fnTimedspan := T.n_Timed_span; have fnTimednow := T.n_Timed_now; have fnTimedtimes := T.n_Timed_times; have fnTimedtally := T.n_Timed_tally; have fcTally := T.cTally.cl; have fnTallyrow := T.n_Tally_row; have fnTallyranks := T.n_Tally_ranks; have fnTallyoften := T.n_Tally_often; have fnTallytotal := T.n_Tally_total; have fnTallypairs := T.n_Tally_pairs
    obtain ⟨⟨dx, h1⟩, h2, TA, n1, n2, _, _⟩ := id S
    obtain ⟨a1, a2, a3, a4, a5, a6, a7, a8, a9⟩ := S.apart
    obtain ⟨⟨dt, c1⟩, c2, c3, ⟨kvs, c4, c5⟩, _⟩ := id TA
    refine ⟨_, PSs.nox (pss_cons (ps_set (i := 3) sc_Timed_put.nd rfl (Or.inl rfl) (pe_meth (pv 0) T.cTimed.cl T.Timed_go_on.me (ok_Timed_go_on T) (by exact hr.mono (by decide)) T.Timed_go_on.b .nil pass0 (pa_cons (pv 1) pa_nil)))
      (pss_cons (ps_expr (pe_bmK (K := K) rfl PySem.F.plainAttrs_list PySem.F.slot_list_append PySem.F.type_list_append mt_append (pe_fldK (K := K) rfl (pv 0) rfl) (pa_cons (pv 1) pa_nil)))
      (pss_cons (ps_expr (pe_meth (pe_fldK (K := K) rfl (pv 0) rfl) T.cTally.cl T.Tally_add.me (ok_Tally_add T) (by exact hr.mono (by decide)) T.Tally_add.b .nil pass0 (pa_cons (pv 2) pa_nil)))
      (pss_one (ps_ret (pv 3)))))), ?_⟩
    walk_at "in"
    refine ⟨zi, tm, t, r, k, o, n, now, ps, x, rfl, S, hx, hl, fun g H1 ng Z kp hg => ?_⟩
    have b1 : zi ≠ g := ne_of_none h1 ng
    have b2 : tm ≠ g := ne_of_none h2 ng
    have b3 : t ≠ g := ne_of_none c1 ng
    have b4 : r ≠ g := ne_of_none c2 ng
    have b5 : k ≠ g := ne_of_none c3 ng
    have b6 : o ≠ g := ne_of_none c4 ng
    have hdl : (ps.dropWhile (old (x - n))).length ≤ 900 := Nat.le_trans (List.dropWhile_sublist _).length_le hl
    generalize ps.dropWhile (old (x - n)) = b at Z kq hdl
    obtain ⟨⟨dz, z1⟩, z2, TZ, _⟩ := id Z
    obtain ⟨⟨dt2, y1⟩, y2, y3, ⟨kv2, y4, y5⟩, _⟩ := id TZ
    walk_at "go"
    have TY : TAt K (upd H1 tm (.lst ((b.map (·.1)).map V.int ++ [.int x]))) t r k o (b.map (·.2)) := TZ.same fun b u z e => by
      have hb1 : b ≠ tm := by rcases z with rfl | rfl | rfl | rfl <;> first | exact a6.symm | exact a7.symm | exact a8.symm | exact a9.symm
      rw [upd_ne hb1]
      exact e
    refine ⟨t, r, k, o, b.map (·.2), y, rfl, TY, by rw [List.length_map]; omega, fun H2 TA2 kp2 => ?_⟩
    have w1 := kp2 zi _ (show _ = some (HO.ins (He.ga K "Timed") dz (zfl n x tm t)) by walk_at "hp") a2 a3 a4 a5
    have w2 := kp2 tm _ upd_same a6 a7 a8 a9
    have w3 := kp2 g _ (show _ = some (HO.lst (((ps.takeWhile (old (x - n))).map (·.2)).map V.int)) by walk_at "hp") b3.symm b4.symm b5.symm b6.symm
    walk_at "go"
    refine kq g H2 ng ⟨⟨dz, w1⟩, ?_, by rw [List.map_append]; exact TA2, n1, n2, a7, a8⟩ (fun b u e d1 d2 d3 d4 d5 d6 => ?_) w3
    · rw [List.map_append, List.map_append]
      exact w2
    · exact kp2 b u (by rw [upd_ne d2]; exact kp b u e d1 d2 d3 d4 d5 d6) d3 d4 d5 d6
end
end LF


set_option maxRecDepth 100000
set_option maxHeartbeats 4000000
namespace LF
open PySem PySem.Spec PyProof.Rows L2


/-! ### Maps in the heap -/
structure MQ where
  a : Addr
  p1 : Addr
  p2 : Addr
  v : (Int × Int) × (Int × Int)
def MqOk (H : Hp) (q : MQ) : Prop := H q.a = some (.tup [.ref q.p1, .ref q.p2]) ∧ H q.p1 = some (.tup [.int q.v.1.1, .int q.v.1.2]) ∧ H q.p2 = some (.tup [.int q.v.2.1, .int q.v.2.2])
structure MAtQ (K : PySem.W.Frag) (H : Hp) (m oa na la : Addr) (n : Nat) (qs : List MQ) (ns : List (Int × Int)) (l : Int × Int) : Prop where
  ob : ∃ dx, H m = some (.ins (He.ga K "Maps") dx (mfl n oa na la))
  ol : H oa = some (.lst (qs.reverse.map fun q => V.ref q.a))
  mq : ∀ q ∈ qs, MqOk H q
  nw : RowAt H na ns
  la : H la = some (.tup [.int l.1, .int l.2])
  ok : OldOk (qs.map (·.v))
  rp : Rep l ns
  inr : ∀ p ∈ ns, InR p
  ne : oa ≠ na
  n1 : 1 ≤ n
  n2 : n ≤ 1000
  le : qs.length + ns.length ≤ n
def rowM (qs : List MQ) (ns : List (Int × Int)) : List (Int × Int) := qs.map (·.v.1) ++ ns
def MAt (K : PySem.W.Frag) (H : Hp) (m oa na : Addr) (n : Nat) (row : List (Int × Int)) : Prop := ∃ la qs ns l, MAtQ K H m oa na la n qs ns l ∧ row = rowM qs ns
theorem MqOk.keep {H H' : Hp} {q : MQ} (h : MqOk H q) (e : ∀ b xs, H b = some (.tup xs) → H' b = some (.tup xs)) : MqOk H' q := ⟨e _ _ h.1, e _ _ h.2.1, e _ _ h.2.2⟩
theorem MAtQ.same {K : PySem.W.Frag} {H H' : Hp} {m oa na la : Addr} {n : Nat} {qs : List MQ} {ns : List (Int × Int)} {l : Int × Int} (S : MAtQ K H m oa na la n qs ns l)
    (e : ∀ b u, H b = some u → (b = m ∨ b = oa ∨ b = na ∨ ∃ xs, u = .tup xs) → H' b = some u) : MAtQ K H' m oa na la n qs ns l := by
  obtain ⟨⟨dx, h1⟩, h2, h3, h4, h5, h6, h7, h8, h9, h10, h11, h12⟩ := S
  exact ⟨⟨dx, e _ _ h1 (.inl rfl)⟩, e _ _ h2 (.inr (.inl rfl)), fun q hq => (h3 q hq).keep fun b xs hb => e _ _ hb (.inr (.inr (.inr ⟨xs, rfl⟩))), h4.keep fun b u hb hu => e _ _ hb (by
    rcases hu with rfl | ⟨x, y, rfl⟩
    · exact .inr (.inr (.inl rfl))
    · exact .inr (.inr (.inr ⟨_, rfl⟩))), e _ _ h5 (.inr (.inr (.inr ⟨_, rfl⟩))), h6, h7, h8, h9, h10, h11, h12⟩
theorem MAtQ.ex {K : PySem.W.Frag} {H H' : Hp} {m oa na la : Addr} {n : Nat} {qs : List MQ} {ns : List (Int × Int)} {l : Int × Int} (S : MAtQ K H m oa na la n qs ns l) (e : Same H H') : MAtQ K H' m oa na la n qs ns l := S.same fun b u h _ => e b u h
theorem MAt.ex {K : PySem.W.Frag} {H H' : Hp} {m oa na : Addr} {n : Nat} {row : List (Int × Int)} (S : MAt K H m oa na n row) (e : Same H H') : MAt K H' m oa na n row := by
  obtain ⟨la, qs, ns, l, S, r⟩ := S
  exact ⟨la, qs, ns, l, S.ex e, r⟩
theorem MAt.same {K : PySem.W.Frag} {H H' : Hp} {m oa na : Addr} {n : Nat} {row : List (Int × Int)} (S : MAt K H m oa na n row) (e : ∀ b u, H b = some u → (b = m ∨ b = oa ∨ b = na ∨ ∃ xs, u = .tup xs) → H' b = some u) : MAt K H' m oa na n row := by
  obtain ⟨la, qs, ns, l, S, r⟩ := S
  exact ⟨la, qs, ns, l, S.same e, r⟩
theorem MAtQ.apart {K : PySem.W.Frag} {H : Hp} {m oa na la : Addr} {n : Nat} {qs : List MQ} {ns : List (Int × Int)} {l : Int × Int} (S : MAtQ K H m oa na la n qs ns l) : m ≠ oa ∧ m ≠ na ∧ oa ≠ na := by
  obtain ⟨⟨dx, h1⟩, h2, h3, ⟨rs, h4, _⟩, _, _, _, _, h9, _⟩ := S
  exact ⟨ne_of h1 h2 (by intro z; cases z), ne_of h1 h4 (by intro z; cases z), h9⟩
def KeepM (H H' : Hp) (m oa na : Addr) : Prop := ∀ b u, H b = some u → b ≠ m → b ≠ oa → b ≠ na → H' b = some u
def lastM (n : Nat) (l : List (Int × Int)) : List (Int × Int) := l.drop (l.length - n)
def spBehind (K : PySem.W.Frag) : Sp := fun vs H Q _ => ∃ (p q : Addr) (a b : Int × Int), vs = [.ref p, .ref q] ∧ SqT K H p [.int a.1, .int a.2] ∧ SqT K H q [.int b.1, .int b.2] ∧ InR a ∧
  ∀ t, H t = none → Q (.ref t) (upd H t (.tup [.int (comp a b).1, .int (comp a b).2]))
def spMInit (K : PySem.W.Frag) : Sp := fun vs H Q _ => ∃ (m dx : Addr) (n : Nat), vs = [.ref m, .int n] ∧ H m = some (.ins (He.ga K "Maps") dx []) ∧ 1 ≤ n ∧ n ≤ 1000 ∧
  ∀ (oa na : Addr) (H' : Hp), H oa = none → H na = none → MAt K H' m oa na n [] → (∀ b u, H b = some u → b ≠ m → H' b = some u) → Q .non H'
def spMTurn (K : PySem.W.Frag) : Sp := fun vs H Q _ => ∃ (m oa na la : Addr) (n : Nat) (ns : List (Int × Int)) (l : Int × Int), vs = [.ref m] ∧ MAtQ K H m oa na la n [] ns l ∧
  ∀ (na' la' : Addr) (qs : List MQ) (H' : Hp), H na' = none → MAtQ K H' m oa na' la' n qs [] (1, 0) → qs.map (·.v.1) = ns → KeepM H H' m oa na → Q .non H'
def spMPut (K : PySem.W.Frag) : Sp := fun vs H Q _ => ∃ (m oa na : Addr) (n : Nat) (row : List (Int × Int)) (a b : Int), vs = [.ref m, .int a, .int b] ∧ MAt K H m oa na n row ∧
  ∀ (na' : Addr) (H' : Hp), (na' = na ∨ H na' = none) → MAt K H' m oa na' n (lastM n (row ++ [(a % 1000003, b % 1000003)])) → KeepM H H' m oa na → Q .non H'
def spMWhole (K : PySem.W.Frag) : Sp := fun vs H Q _ => ∃ (m oa na : Addr) (n : Nat) (row : List (Int × Int)), vs = [.ref m] ∧ MAt K H m oa na n row ∧
  ∀ (p : Addr) (c : Int × Int) (H' : Hp), Rep c row → Same H H' → H' p = some (.tup [.int c.1, .int c.2]) → Q (.ref p) H'
def spMAt (K : PySem.W.Frag) : Sp := fun vs H Q _ => ∃ (m oa na : Addr) (n : Nat) (row : List (Int × Int)) (x : Int), vs = [.ref m, .int x] ∧ MAt K H m oa na n row ∧
  ∀ H', Same H H' → Q (.int (made row x)) H'
def spMMaps (K : PySem.W.Frag) : Sp := fun vs H Q _ => ∃ (m oa na : Addr) (n : Nat) (row : List (Int × Int)), vs = [.ref m] ∧ MAt K H m oa na n row ∧
  ∀ (l : Addr) (H' : Hp), H l = none → Same H H' → RowAt H' l row → Q (.ref l) H'
theorem at_last (xs : List V) (y : V) : atI (xs ++ [y]) (-1) = some y := by
  have e : ixN (xs ++ [y]).length (-1) = some xs.length := by
    unfold ixN
    rw [List.length_append, List.length_singleton, if_neg (by omega), if_pos (by omega)]
    congr 1
    omega
  unfold atI
  rw [e]
  show (xs ++ [y])[xs.length]? = _
  rw [List.getElem?_append_right (Nat.le_refl _), Nat.sub_self]
  rfl
section
variable {P : Program} {w : World} {K : PySem.W.Frag} {mg : Str → Option Value} {base : Heap} {D : Str × Option Str → FuncData}
theorem ok_behind (T : Txt K mg D) : FnOk P w K mg base CX0 1 (He.ga K "behind") (D ("behind", none)) ["one", "other"] (spBehind K) := by
  refine T.behind.F.ok sc_behind (fun vs H Q E h => ?_) (fun cdv A outer s H vs Q E hr h => ?_)
  · obtain ⟨p, q, a, b, rfl, _⟩ := h
    rfl
  · obtain ⟨p, q, a, b, rfl, h1, h2, ⟨i1, i2, i3, i4⟩, kq⟩ := h
    refine ⟨_, PSs.nox (pss_one (ps_ret (pe_tup (pa_cons (pe_op op_mod (pe_op op_mul (pe_ix (ix_tupK (K := K) rfl) (pv 0) pe_int (fun _ _ => rfl)) (pe_ix (ix_tupK (K := K) rfl) (pv 1) pe_int (fun _ _ => rfl))) (pe_globI (by rfl) T.c_ROUND)) (pa_cons (pe_op op_mod (pe_op op_add (pe_op op_mul (pe_ix (ix_tupK (K := K) rfl) (pv 0) pe_int (fun _ _ => rfl)) (pe_ix (ix_tupK (K := K) rfl) (pv 1) pe_int (fun _ _ => rfl))) (pe_ix (ix_tupK (K := K) rfl) (pv 1) pe_int (fun _ _ => rfl))) (pe_globI (by rfl) T.c_ROUND)) pa_nil))))), ?_⟩
    walk_at "in"
    refine E_tupA ?_
    walk_at "go"
    refine R_ixT h1 (v := .int a.1) rfl ?_
    walk_at "go"
    refine R_ixT h2 (v := .int b.1) rfl ?_
    walk_at "go"
    refine R_ixT h1 (v := .int a.2) rfl ?_
    walk_at "go"
    refine R_ixT h2 (v := .int b.1) rfl ?_
    walk_at "go"
    refine R_ixT h2 (v := .int b.2) rfl ?_
    walk_at "go"
    exact R_tupA (Nat.le_of_ble_eq_true rfl) fun t nt => kq t nt
theorem ok_Maps_init (T : Txt K mg D) : FnOk P w K mg base CX0 2 (He.ma K (He.ga K "Maps") "__init__") (D ("Maps", some "__init__")) ["self", "size"] (spMInit K) := by
  refine T.Maps_init.F.ok sc_Maps_init (fun vs H Q E h => ?_) (fun cdv A outer s H vs Q E hr h => ?_)
  · obtain ⟨m, dx, n, rfl, _⟩ := h
    rfl
  · obtain ⟨m, dx, n, rfl, h1, n1, n2, kq⟩ := h
    have fcMaps := T.cMaps.cl; have fnMapssize := T.n_Maps_size; have fnMapsold := T.n_Maps_old; have fnMapsnew := T.n_Maps_new; have fnMapslast := T.n_Maps_last
    refine ⟨_, PSs.nox (pss_cons (ps_expr (pe_call (ok_look_size T) (by exact hr.mono (by decide)) (by rfl) T.look_size.g T.look_size.F.kp T.look_size.b .nil pass0 (pa_cons (pv 1) pa_nil)))
      (pss_cons (ps_fldK (K := K) rfl (pv 0) (pv 1) rfl)
      (pss_cons (ps_fldK (K := K) rfl (pv 0) (pe_lst pa_nil) rfl)
      (pss_cons (ps_fldK (K := K) rfl (pv 0) (pe_lst pa_nil) rfl)
      (pss_one (ps_fldK (K := K) rfl (pv 0) (pe_tup (pa_cons pe_int (pa_cons pe_int pa_nil))) rfl)))))), ?_⟩
    walk_at "in"
    refine ⟨n, rfl, n1, n2, ?_⟩
    walk_at "go"
    refine ⟨Nat.zero_le _, fun oa noa => ?_⟩
    have a0 : m ≠ oa := ne_of_none (by walk_at "hp") noa
    walk_at "go"
    refine ⟨Nat.zero_le _, fun na nna => ?_⟩
    have a1 : m ≠ na := ne_of_none (by walk_at "hp") nna
    have a2 : oa ≠ na := ne_of_none (by walk_at "hp") nna
    walk_at "go"
    refine E_tupA ?_
    walk_at "go"
    refine R_tupA (Nat.le_of_ble_eq_true rfl) fun la nla => ?_
    have a3 : m ≠ la := ne_of_none (by walk_at "hp") nla
    have a4 : oa ≠ la := ne_of_none (by walk_at "hp") nla
    have a5 : na ≠ la := ne_of_none (by walk_at "hp") nla
    walk_at "go"
    have f1 : H oa = none := by rw [upd_ne a0.symm] at noa; exact noa
    have f2 : H na = none := by rw [upd_ne a1.symm, upd_ne a2.symm, upd_ne a1.symm] at nna; exact nna
    have f3 : H la = none := by rw [upd_ne a3.symm, upd_ne a5.symm, upd_ne a3.symm, upd_ne a4.symm, upd_ne a3.symm] at nla; exact nla
    refine kq oa na _ f1 f2 ⟨la, [], [], (1, 0), ⟨⟨dx, upd_same⟩, (show _ = some (HO.lst []) by walk_at "hp"), (fun q hq => by cases hq), ⟨[], (show _ = some (HO.lst []) by walk_at "hp"), (fun q hq => by cases hq), rfl⟩, (show _ = some (HO.tup [V.int 1, V.int 0]) by walk_at "hp"), True.intro, Rep.nil, (fun q hq => by cases hq), a2, n1, n2, Nat.zero_le _⟩, rfl⟩ fun b u e hb => ?_
    have b1 : b ≠ oa := ne_of_none e f1
    have b2 : b ≠ na := ne_of_none e f2
    have b3 : b ≠ la := ne_of_none e f3
    walk_at "hp"
theorem ok_Maps_turn (T : Txt K mg D) : FnOk P w K mg base CX0 2 (He.ma K (He.ga K "Maps") "turn") (D ("Maps", some "turn")) ["self"] (spMTurn K) := by
  refine T.Maps_turn.F.ok sc_Maps_turn (fun vs H Q E h => ?_) (fun cdv A outer s H vs Q E hr h => ?_)
  · obtain ⟨m, oa, na, la, n, ns, l, rfl, _⟩ := h
    rfl
  · obtain ⟨m, oa, na, la, n, ns, l, rfl, S, kq⟩ := h
    have fcMaps := T.cMaps.cl; have fnMapssize := T.n_Maps_size; have fnMapsold := T.n_Maps_old; have fnMapsnew := T.n_Maps_new; have fnMapslast := T.n_Maps_last
    obtain ⟨⟨dx, h1⟩, h2, _, ⟨rs, r1, r2, r3⟩, h5, _, rp, hin, hne, n1, n2, hle⟩ := id S
    obtain ⟨a0, a1, a2⟩ := S.apart
    have h2 : H oa = some (HO.lst []) := h2
    have hrl : rs.length = ns.length := by rw [← r3, List.length_map]
    rw [List.length_nil] at hle
    refine ⟨_, PSs.nox (pss_cons (ps_set (i := 1) sc_Maps_turn.nd rfl (Or.inl rfl) (pe_tup (pa_cons pe_int (pa_cons pe_int pa_nil))))
      (pss_cons (ps_for PassesOwn.never rfl (pi_reversedK (K := K) rfl (by rfl) T.z_reversed (pa_cons (pe_fldK (K := K) rfl (pv 0) rfl) pa_nil)) (pg_name (i := 2) sc_Maps_turn.nd rfl (Or.inl rfl))
      (pss_cons (ps_set (i := 1) sc_Maps_turn.nd rfl (Or.inl rfl) (pe_call (ok_behind T) (by exact hr.mono (by decide)) (by rfl) T.behind.g T.behind.F.kp T.behind.b .nil pass0 (pa_cons (pv 2) (pa_cons (pv 1) pa_nil))))
      (pss_one (ps_expr (pe_bmK (K := K) rfl PySem.F.plainAttrs_list PySem.F.slot_list_append PySem.F.type_list_append mt_append (pe_fldK (K := K) rfl (pv 0) rfl) (pa_cons (pe_tup (pa_cons (pv 2) (pa_cons (pv 1) pa_nil))) pa_nil))))))
      (pss_cons (ps_fldK (K := K) rfl (pv 0) (pe_lst pa_nil) rfl)
      (pss_one (ps_fldK (K := K) rfl (pv 0) (pe_tup (pa_cons pe_int (pa_cons pe_int pa_nil))) rfl))))), ?_⟩
    walk_at "in"
    refine E_tupA ?_
    walk_at "go"
    refine R_tupA (Nat.le_of_ble_eq_true rfl) fun f0 nf0 => ?_
    walk_at "go"
    refine R_forV (fun i σ' H' => ∃ (f : Addr) (v2 : Option V) (qs : List MQ), σ' = [some (.ref m), some (.ref f), v2] ∧ qs.map (·.v.1) = ns.drop (ns.length - i) ∧ H' oa = some (.lst (qs.reverse.map fun q => V.ref q.a)) ∧ (∀ q ∈ qs, MqOk H' q) ∧ OldOk (qs.map (·.v)) ∧
        H' f = some (.tup [.int (topF (qs.map (·.v))).1, .int (topF (qs.map (·.v))).2]) ∧ (∀ b u, H b = some u → b ≠ oa → H' b = some u) ∧ qs.length = i)
      ⟨f0, none, [], rfl, by rw [Nat.sub_zero, List.drop_length]; rfl, by walk_at "hp", (fun q hq => by cases hq), True.intro, upd_same, (fun b u e hb => by have : b ≠ f0 := ne_of_none e nf0; walk_at "hp"), rfl⟩
      (fun i σ' H' _ ⟨f, v2, qs, _, _, _, _, _, _, kp, _⟩ => SqL.of (kp na _ r1 hne.symm)) ?_ ?_
    · rintro i x σ' H' hi hx ⟨f, v2, qs, rfl, g1, g2, g3, g4, g5, kp, gl⟩
      rw [List.length_map] at hi hx
      obtain ⟨rr, hrr, rfl⟩ : ∃ rr, rs[rs.length - 1 - i]? = some rr ∧ x = V.ref rr.1 := by
        rw [List.getElem?_map] at hx
        cases e : rs[rs.length - 1 - i]? with
        | none => rw [e] at hx; cases hx
        | some z => rw [e] at hx; exact ⟨z, rfl, (Option.some.inj hx).symm⟩
      have hrm : rr ∈ rs := List.mem_of_getElem? hrr
      have tr := kp rr.1 _ (r2 rr hrm) (ne_of (r2 rr hrm) h2 (by intro z; cases z))
      have hin2 : InR rr.2 := hin _ (by rw [← r3]; exact List.mem_map.mpr ⟨rr, hrm, rfl⟩)
      have hm' := kp m _ h1 a0
      have hql : qs.length ≤ 1000 := by omega
      walk_at "go"
      refine ⟨rr.1, f, rr.2, topF (qs.map (·.v)), rfl, SqT.of tr, SqT.of g5, hin2, fun t nt => ?_⟩
      have c0 : m ≠ t := ne_of_none hm' nt
      have c1 : oa ≠ t := ne_of_none g2 nt
      have c2 : rr.1 ≠ t := ne_of_none tr nt
      walk_at "go"
      refine E_tupA ?_
      walk_at "go"
      refine R_tupA (Nat.le_of_ble_eq_true rfl) fun T2 nT2 => ?_
      have d1 : oa ≠ T2 := ne_of_none (by walk_at "hp") nT2
      have d2 : t ≠ T2 := ne_of_none upd_same nT2
      have d3 : rr.1 ≠ T2 := ne_of_none (by walk_at "hp") nT2
      have d4 : oa ≠ rr.1 := ne_of g2 tr (by intro z; cases z)
      have d5 : oa ≠ t := c1
      walk_at "go"
      have hnt : H' T2 = none := by rw [upd_ne d2.symm] at nT2; exact nT2
      have kt : ∀ b xs, H' b = some (.tup xs) → upd (upd (upd H' t (.tup [.int (comp rr.2 (topF (qs.map (·.v)))).1, .int (comp rr.2 (topF (qs.map (·.v)))).2])) T2 (.tup [.ref rr.1, .ref t])) oa (.lst (qs.reverse.map (fun q => V.ref q.a) ++ [.ref T2])) b = some (.tup xs) := fun b xs hb => by
        have e1 : b ≠ oa := ne_of hb g2 (by intro z; cases z)
        have e2 : b ≠ T2 := ne_of_none hb hnt
        have e3 : b ≠ t := ne_of_none hb nt
        walk_at "hp"
      refine ⟨t, _, ⟨T2, rr.1, t, (rr.2, comp rr.2 (topF (qs.map (·.v))))⟩ :: qs, rfl, ?_, ?_, fun q hq => ?_, ⟨hin2, rfl, g4⟩, ?_, fun b u e hb => ?_, by rw [List.length_cons, gl]⟩
      · have e1 : ns.length - (i + 1) < ns.length := by omega
        have e2 : ns[ns.length - (i + 1)] = rr.2 := by
          have q : (rs.map (·.2))[rs.length - 1 - i]? = some rr.2 := by rw [List.getElem?_map, hrr]; rfl
          rw [r3] at q
          have e3 : rs.length - 1 - i = ns.length - (i + 1) := by omega
          rw [e3, List.getElem?_eq_getElem e1] at q
          exact Option.some.inj q
        rw [drop_one e1, e2, List.map_cons, g1]
        have e4 : ns.length - (i + 1) + 1 = ns.length - i := by omega
        rw [e4]
      · rw [List.reverse_cons, List.map_append]
        exact upd_same
      · rcases List.mem_cons.mp hq with rfl | hq
        · refine ⟨?_, kt _ _ tr, ?_⟩
          · show upd (upd _ T2 _) oa _ T2 = _
            walk_at "hp"
          · show upd (upd (upd _ t _) T2 _) oa _ t = _
            walk_at "hp"
        · exact (g3 q hq).keep kt
      · show upd (upd (upd _ t _) T2 _) oa _ t = _
        exact (upd_ne c1.symm).trans ((upd_ne d2).trans upd_same)
      · have hb' := kp b u e hb
        have e2 : b ≠ T2 := ne_of_none hb' hnt
        have e3 : b ≠ t := ne_of_none hb' nt
        walk_at "hp"
    · rintro σ' H' ⟨f, v2, qs, rfl, g1, g2, g3, g4, g5, kp, gl⟩
      rw [List.length_map] at g1 gl
      rw [hrl, Nat.sub_self, List.drop_zero] at g1
      have hm' := kp m _ h1 a0
      walk_at "go"
      refine ⟨Nat.zero_le _, fun na' nna => ?_⟩
      have c0 : m ≠ na' := ne_of_none hm' nna
      have c1 : oa ≠ na' := ne_of_none g2 nna
      walk_at "go"
      refine E_tupA ?_
      walk_at "go"
      refine R_tupA (Nat.le_of_ble_eq_true rfl) fun la' nla => ?_
      have c2 : m ≠ la' := ne_of_none (by walk_at "hp") nla
      have c3 : oa ≠ la' := ne_of_none (o := HO.lst (qs.reverse.map fun q => V.ref q.a)) (by walk_at "hp") nla
      have c4 : na' ≠ la' := ne_of_none (by walk_at "hp") nla
      have hla : H' la' = none := by rw [upd_ne c2.symm, upd_ne c4.symm] at nla; exact nla
      walk_at "go"
      have fna : H na' = none := by
        cases e : H na' with
        | none => rfl
        | some u =>
          have := kp na' u e c1.symm
          rw [nna] at this
          cases this
      have kt : ∀ b xs, H' b = some (.tup xs) → upd (upd (upd (upd H' na' (.lst [])) m (.ins (He.ga K "Maps") dx (mfl n oa na' la))) la' (.tup [.int 1, .int 0])) m (.ins (He.ga K "Maps") dx (mfl n oa na' la')) b = some (.tup xs) := fun b xs hb => by
        have e1 : b ≠ m := ne_of hb hm' (by intro z; cases z)
        have e2 : b ≠ la' := ne_of_none hb hla
        have e3 : b ≠ na' := ne_of_none hb nna
        walk_at "hp"
      refine kq na' la' qs _ fna ⟨⟨dx, upd_same⟩, by walk_at "hp", fun q hq => (g3 q hq).keep kt, ⟨[], (show _ = some (HO.lst []) by walk_at "hp"), (fun q hq => by cases hq), rfl⟩, (show _ = some (HO.tup [V.int 1, V.int 0]) by walk_at "hp"), g4, Rep.nil, (fun q hq => by cases hq), c1, n1, n2, by rw [List.length_nil]; omega⟩ g1 fun b u e b1 b2 b3 => ?_
      have hb' := kp b u e b2
      have e2 : b ≠ la' := ne_of_none hb' hla
      have e3 : b ≠ na' := ne_of_none hb' nna
      walk_at "hp"
theorem ok_Maps_put (T : Txt K mg D) : FnOk P w K mg base CX0 3 (He.ma K (He.ga K "Maps") "put") (D ("Maps", some "put")) ["self", "times", "more"] (spMPut K) := by
  refine T.Maps_put.F.ok sc_Maps_put (fun vs H Q E h => ?_) (fun cdv A outer s H vs Q E hr h => ?_)
  · obtain ⟨m, oa, na, n, row, a, b_, rfl, _⟩ := h
    rfl
  · obtain ⟨m, oa, na, n, row, a, b_, rfl, ⟨la, qs, ns, l, S, rfl⟩, kq⟩ := h
    have fcMaps := T.cMaps.cl; have fnMapssize := T.n_Maps_size; have fnMapsold := T.n_Maps_old; have fnMapsnew := T.n_Maps_new; have fnMapslast := T.n_Maps_last
    obtain ⟨⟨dx, h1⟩, h2, _, ⟨rs, r1, r2, r3⟩, _, _, _, _, hne, n1, n2, hle⟩ := id S
    obtain ⟨a0, a1, a2⟩ := S.apart
    have hrl : rs.length = ns.length := by rw [← r3, List.length_map]
    have hrw : (rowM qs ns).length = qs.length + ns.length := by unfold rowM; rw [List.length_append, List.length_map]
    refine ⟨_, PSs.nox (pss_cutQ (ps_if (pt_cmpR op_eq (pe_op op_add (pe_callB (call_lenK (K := K) rfl) (by rfl) T.z_len PySem.boot_len (pa_cons (pe_fldK (K := K) rfl (pv 0) rfl) pa_nil)) (pe_callB (call_lenK (K := K) rfl) (by rfl) T.z_len PySem.boot_len (pa_cons (pe_fldK (K := K) rfl (pv 0) rfl) pa_nil))) (pe_fldK (K := K) rfl (pv 0) rfl) (nomark _)) (pss_cutQ (ps_if (pt_not (pt_truK (K := K) rfl (pe_fldK (K := K) rfl (pv 0) rfl) (by intro _; rfl))) (pss_one (ps_expr (pe_meth0 (pv 0) T.cMaps.cl T.Maps_turn.me (ok_Maps_turn T) (by exact hr.mono (by decide)) T.Maps_turn.b .nil pass0))) pss_nil)
      (pss_one (ps_expr (pe_bm0K (K := K) rfl PySem.F.plainAttrs_list PySem.F.slot_list_pop PySem.F.type_list_pop mt_pop (pe_fldK (K := K) rfl (pv 0) rfl))))) pss_nil)
      (pss_cons (ps_set (i := 3) sc_Maps_put.nd rfl (Or.inl rfl) (pe_tup (pa_cons (pe_op op_mod (pv 1) (pe_globI (by rfl) T.c_ROUND)) (pa_cons (pe_op op_mod (pv 2) (pe_globI (by rfl) T.c_ROUND)) pa_nil))))
      (pss_cons (ps_expr (pe_bmK (K := K) rfl PySem.F.plainAttrs_list PySem.F.slot_list_append PySem.F.type_list_append mt_append (pe_fldK (K := K) rfl (pv 0) rfl) (pa_cons (pv 3) pa_nil)))
      (pss_one (ps_fldK (K := K) rfl (pv 0) (pe_call (ok_behind T) (by exact hr.mono (by decide)) (by rfl) T.behind.g T.behind.F.kp T.behind.b .nil pass0 (pa_cons (pe_fldK (K := K) rfl (pv 0) rfl) (pa_cons (pv 3) pa_nil))) rfl))))), ?_⟩
    walk_at "in"
    refine S_cut (fun σ' H' => σ' = [some (.ref m), some (.int a), some (.int b_), none] ∧ ∃ (la' na' : Addr) (qs' : List MQ) (ns' : List (Int × Int)) (l' : Int × Int), MAtQ K H' m oa na' la' n qs' ns' l' ∧ rowM qs' ns' = lastM (n - 1) (rowM qs ns) ∧ qs'.length + ns'.length < n ∧ (na' = na ∨ H na' = none) ∧ KeepM H H' m oa na) ?_ ?_
    · walk_at "go"
      rw [List.length_map, List.length_map, List.length_reverse]
      by_cases hf : qs.length + rs.length = n
      · refine iteBT (decide_eq_true (by rw [← hf]; rfl)) ?_
        walk_at "go"
        refine S_cut (fun σ' H' => σ' = [some (.ref m), some (.int a), some (.int b_), none] ∧ ∃ (la' na' : Addr) (q : MQ) (qs' : List MQ) (ns' : List (Int × Int)) (l' : Int × Int), MAtQ K H' m oa na' la' n (q :: qs') ns' l' ∧ rowM (q :: qs') ns' = rowM qs ns ∧ (na' = na ∨ H na' = none) ∧ KeepM H H' m oa na) ?_ ?_
        · walk_at "go"
          cases qs with
          | nil =>
            refine iteBT rfl ?_
            walk_at "go"
            refine ⟨m, oa, na, la, n, ns, l, rfl, S, fun na' la' qs' H' nna S' hq kp => ?_⟩
            walk_at "go"
            cases qs' with
            | nil =>
              exfalso
              have e := congrArg List.length hq
              rw [List.map_nil, List.length_nil] at e
              rw [List.length_nil] at hf
              omega
            | cons q qs' =>
              refine ⟨rfl, la', na', q, qs', [], (1, 0), S', ?_, .inr nna, kp⟩
              unfold rowM
              rw [hq, List.append_nil]
              rfl
          | cons q r =>
            refine iteBF (by rw [List.map_reverse, List.isEmpty_reverse]; rfl) ?_
            walk_at "go"
            exact ⟨rfl, la, na, q, r, ns, l, S, rfl, .inl rfl, fun b u e _ _ _ => e⟩
        · rintro σ' H' ⟨rfl, la', na', q, r, ns', l', S', erow, hnn, kp⟩
          obtain ⟨⟨dx', g1⟩, g2, g3, g4, g5, g6, g7, g8, gne, _, _, gle⟩ := id S'
          obtain ⟨b0, b1, b2⟩ := S'.apart
          obtain ⟨rs', t1, t2, t3⟩ := id g4
          have hql : (rowM (q :: r) ns').length = r.length + 1 + ns'.length := by unfold rowM; rw [List.length_append, List.length_map, List.length_cons]
          rw [erow, hrw] at hql
          walk_at "go"
          refine R_pop (y := .ref q.a) g2 (by rw [List.length_map, List.length_reverse, List.getElem?_map, List.length_cons, List.reverse_cons, List.getElem?_append_right (by rw [List.length_reverse]; omega), List.length_reverse, show r.length + 1 - 1 - r.length = 0 by omega]; rfl) ?_
          walk_at "go"
          have ed : ((q :: r).reverse.map fun q => V.ref q.a).dropLast = r.reverse.map fun q => V.ref q.a := by rw [List.reverse_cons, List.map_append, List.map_singleton, List.dropLast_concat]
          rw [ed]
          have kt : ∀ b u, H' b = some u → b ≠ oa → upd H' oa (.lst (r.reverse.map fun q => V.ref q.a)) b = some u := fun b u e hb => by walk_at "hp"
          have kT : ∀ b xs, H' b = some (.tup xs) → upd H' oa (.lst (r.reverse.map fun q => V.ref q.a)) b = some (.tup xs) := fun b xs e => kt b _ e (ne_of e g2 (by intro z; cases z))
          rw [List.length_cons] at gle
          refine ⟨rfl, la', na', r, ns', l', ⟨⟨dx', kt _ _ g1 b0⟩, upd_same, fun q' hq => (g3 q' (List.mem_cons_of_mem _ hq)).keep kT, ⟨rs', kt _ _ t1 gne.symm, fun q' hq => kT _ _ (t2 q' hq), t3⟩, kT _ _ g5, g6.2.2, g7, g8, gne, n1, n2, by omega⟩, ?_, by omega, hnn, fun b u e c1 c2 c3 => kt b u (kp b u e c1 c2 c3) c2⟩
          unfold lastM
          rw [hrw, ← erow, show qs.length + ns.length - (n - 1) = 1 by omega]
          rfl
      · refine iteBF (decide_eq_false (fun e => hf (by have := V.int.inj e; omega))) ?_
        walk_at "go"
        refine ⟨rfl, la, na, qs, ns, l, S, ?_, by omega, .inl rfl, fun b u e _ _ _ => e⟩
        unfold lastM
        rw [hrw, show qs.length + ns.length - (n - 1) = 0 by omega, List.drop_zero]
    · rintro σ' H' ⟨rfl, la', na', qs', ns', l', S', erow, hlt, hnn, kp⟩
      obtain ⟨⟨dx', g1⟩, g2, g3, g4, g5, g6, g7, g8, gne, _, _, gle⟩ := id S'
      obtain ⟨b0, b1, b2⟩ := S'.apart
      obtain ⟨rs', t1, t2, t3⟩ := id g4
      have hrl' : rs'.length = ns'.length := by rw [← t3, List.length_map]
      have hin : InR (a % 1000003, b_ % 1000003) := ⟨Int.emod_nonneg _ (by decide), Int.emod_lt_of_pos _ (by decide), Int.emod_nonneg _ (by decide), Int.emod_lt_of_pos _ (by decide)⟩
      walk_at "go"
      refine E_tupA ?_
      walk_at "go"
      refine R_tupA (Nat.le_of_ble_eq_true rfl) fun o no => ?_
      have c0 : m ≠ o := ne_of_none g1 no
      have c1 : oa ≠ o := ne_of_none g2 no
      have c2 : na' ≠ o := ne_of_none t1 no
      have c3 : la' ≠ o := ne_of_none g5 no
      have c4 : na' ≠ la' := ne_of t1 g5 (by intro z; cases z)
      walk_at "go"
      refine ⟨la', o, l', (a % 1000003, b_ % 1000003), rfl, SqT.of (by walk_at "hp"), SqT.of (by walk_at "hp"), g7.r, fun t nt => ?_⟩
      have d0 : m ≠ t := ne_of_none (by walk_at "hp") nt
      have d1 : na' ≠ t := ne_of_none upd_same nt
      have d2 : o ≠ t := ne_of_none (o := HO.tup [V.int (a % 1000003), V.int (b_ % 1000003)]) (by walk_at "hp") nt
      have d3 : oa ≠ t := ne_of_none (by walk_at "hp") nt
      have hnt : H' t = none := by rw [upd_ne d1.symm, upd_ne d2.symm] at nt; exact nt
      walk_at "go"
      have kt : ∀ b u, H' b = some u → b ≠ m → b ≠ na' → upd (upd (upd (upd H' o (.tup [.int (a % 1000003), .int (b_ % 1000003)])) na' (.lst (rs'.map (fun q => V.ref q.1) ++ [.ref o]))) t (.tup [.int (comp l' (a % 1000003, b_ % 1000003)).1, .int (comp l' (a % 1000003, b_ % 1000003)).2])) m (.ins (He.ga K "Maps") dx' (mfl n oa na' t)) b = some u := fun b u e e1 e2 => by
        have e3 : b ≠ o := ne_of_none e no
        have e4 : b ≠ t := ne_of_none e hnt
        walk_at "hp"
      have kT : ∀ b xs, H' b = some (.tup xs) → _ := fun b xs e => kt b (.tup xs) e (ne_of e g1 (by intro z; cases z)) (ne_of e t1 (by intro z; cases z))
      have elast : lastM n (rowM qs ns ++ [(a % 1000003, b_ % 1000003)]) = rowM qs' (ns' ++ [(a % 1000003, b_ % 1000003)]) := by
        have e1 : rowM qs' (ns' ++ [(a % 1000003, b_ % 1000003)]) = rowM qs' ns' ++ [(a % 1000003, b_ % 1000003)] := (List.append_assoc _ _ _).symm
        rw [e1, erow]
        unfold lastM
        rw [List.length_append, List.length_singleton, List.drop_append_of_le_length (by omega), show (rowM qs ns).length + 1 - n = (rowM qs ns).length - (n - 1) by omega]
      refine kq na' _ hnn ?_ fun b u e e1 e2 e3 => ?_
      · rw [elast]
        refine ⟨t, qs', ns' ++ [(a % 1000003, b_ % 1000003)], comp l' (a % 1000003, b_ % 1000003), ⟨⟨dx', upd_same⟩, kt _ _ g2 b0.symm gne, fun q hq => (g3 q hq).keep kT, ⟨rs' ++ [(o, (a % 1000003, b_ % 1000003))], ?_, ?_, ?_⟩, ?_, g6, g7.comp (Rep.one hin), ?_, gne, n1, n2, ?_⟩, rfl⟩
        · rw [List.map_append]
          exact (upd_ne b1.symm).trans ((upd_ne d1).trans upd_same)
        · intro q hq
          rcases List.mem_append.mp hq with hq | hq
          · exact kT _ _ (t2 q hq)
          · rw [List.mem_singleton.mp hq]
            exact (upd_ne c0.symm).trans ((upd_ne d2).trans ((upd_ne c2.symm).trans upd_same))
        · rw [List.map_append, t3]
          rfl
        · exact (upd_ne d0.symm).trans upd_same
        · intro p hp
          rcases List.mem_append.mp hp with hp | hp
          · exact g8 p hp
          · rw [List.mem_singleton.mp hp]
            exact hin
        · rw [List.length_append, List.length_singleton]
          omega
      · have hb' := kp b u e e1 e2 e3
        refine kt b u hb' e1 ?_
        rcases hnn with rfl | hn
        · exact e3
        · exact ne_of_none e hn
theorem ok_Maps_whole (T : Txt K mg D) : FnOk P w K mg base CX0 2 (He.ma K (He.ga K "Maps") "whole") (D ("Maps", some "whole")) ["self"] (spMWhole K) := by
  refine T.Maps_whole.F.ok sc_Maps_whole (fun vs H Q E h => ?_) (fun cdv A outer s H vs Q E hr h => ?_)
  · obtain ⟨m, oa, na, n, row, rfl, _⟩ := h
    rfl
  · obtain ⟨m, oa, na, n, row, rfl, ⟨la, qs, ns, l, S, rfl⟩, kq⟩ := h
    have fcMaps := T.cMaps.cl; have fnMapssize := T.n_Maps_size; have fnMapsold := T.n_Maps_old; have fnMapsnew := T.n_Maps_new; have fnMapslast := T.n_Maps_last
    obtain ⟨⟨dx, h1⟩, h2, h3, _, h5, h6, h7, _⟩ := id S
    refine ⟨_, PSs.nox (pss_cons (ps_if (pt_not (pt_truK (K := K) rfl (pe_fldK (K := K) rfl (pv 0) rfl) (by intro _; rfl))) (pss_one (ps_ret (pe_fldK (K := K) rfl (pv 0) rfl))) pss_nil)
      (pss_one (ps_ret (pe_call (ok_behind T) (by exact hr.mono (by decide)) (by rfl) T.behind.g T.behind.F.kp T.behind.b .nil pass0 (pa_cons (pe_ix (ix_tupK (K := K) rfl) (pe_ix (ix_listK (K := K) rfl) (pe_fldK (K := K) rfl (pv 0) rfl) (pe_un un_neg pe_int) (fun _ _ => rfl)) pe_int (fun _ _ => rfl)) (pa_cons (pe_fldK (K := K) rfl (pv 0) rfl) pa_nil)))))), ?_⟩
    walk_at "in"
    cases qs with
    | nil =>
      refine iteBT rfl ?_
      walk_at "go"
      exact kq la l H h7 (Same.refl H) h5
    | cons q r =>
      refine iteBF (by rw [List.map_reverse, List.isEmpty_reverse]; rfl) ?_
      walk_at "go"
      refine R_ixL (v := .ref q.a) (SqL.of h2) (by rw [List.reverse_cons, List.map_append]; exact at_last _ _) ?_
      obtain ⟨m1, m2, m3⟩ := h3 q List.mem_cons_self
      walk_at "go"
      refine R_ixT (v := .ref q.p2) (SqT.of m1) rfl ?_
      walk_at "go"
      have er : Rep q.v.2 ((q :: r).map (·.v.1)) := by
        have e := h6.rep
        rw [List.map_map] at e
        exact e
      refine ⟨q.p2, la, q.v.2, l, rfl, SqT.of m3, SqT.of h5, er.r, fun t nt => ?_⟩
      walk_at "go"
      exact kq t _ _ (er.comp h7) (same_upd nt (Same.refl H)) upd_same
theorem ok_Maps_at (T : Txt K mg D) : FnOk P w K mg base CX0 3 (He.ma K (He.ga K "Maps") "at") (D ("Maps", some "at")) ["self", "number"] (spMAt K) := by
  refine T.Maps_at.F.ok sc_Maps_at (fun vs H Q E h => ?_) (fun cdv A outer s H vs Q E hr h => ?_)
  · obtain ⟨m, oa, na, n, row, x, rfl, _⟩ := h
    rfl
  · obtain ⟨m, oa, na, n, row, x, rfl, S, kq⟩ := h
    have fcMaps := T.cMaps.cl; have fnMapssize := T.n_Maps_size; have fnMapsold := T.n_Maps_old; have fnMapsnew := T.n_Maps_new; have fnMapslast := T.n_Maps_last
    obtain ⟨la, qs, ns, l, ⟨⟨dx, h1⟩, _⟩, _⟩ := id S
    refine ⟨_, PSs.nox (pss_cons (ps_set (i := 2) sc_Maps_at.nd rfl (Or.inl rfl) (pe_meth0 (pv 0) T.cMaps.cl T.Maps_whole.me (ok_Maps_whole T) (by exact hr.mono (by decide)) T.Maps_whole.b .nil pass0))
      (pss_one (ps_ret (pe_op op_mod (pe_op op_add (pe_op op_mul (pe_ix (ix_tupK (K := K) rfl) (pv 2) pe_int (fun _ _ => rfl)) (pv 1)) (pe_ix (ix_tupK (K := K) rfl) (pv 2) pe_int (fun _ _ => rfl))) (pe_globI (by rfl) T.c_ROUND))))), ?_⟩
    walk_at "in"
    refine ⟨m, oa, na, n, row, rfl, S, fun p c H' rep sm hp => ?_⟩
    obtain ⟨i1, i2, i3, i4⟩ := rep.r
    walk_at "go"
    refine R_ixT (v := .int c.1) (SqT.of hp) rfl ?_
    walk_at "go"
    refine R_ixT (v := .int c.2) (SqT.of hp) rfl ?_
    walk_at "go"
    rw [made_of rep]
    exact kq _ sm
theorem ok_Maps_maps (T : Txt K mg D) : FnOk P w K mg base CX0 1 (He.ma K (He.ga K "Maps") "maps") (D ("Maps", some "maps")) ["self"] (spMMaps K) := by
  refine T.Maps_maps.F.ok sc_Maps_maps (fun vs H Q E h => ?_) (fun cdv A outer s H vs Q E hr h => ?_)
  · obtain ⟨m, oa, na, n, row, rfl, _⟩ := h
    rfl
  · obtain ⟨m, oa, na, n, row, rfl, ⟨la, qs, ns, l, S, rfl⟩, kq⟩ := h
    have fcMaps := T.cMaps.cl; have fnMapssize := T.n_Maps_size; have fnMapsold := T.n_Maps_old; have fnMapsnew := T.n_Maps_new; have fnMapslast := T.n_Maps_last
    obtain ⟨⟨dx, h1⟩, h2, h3, ⟨rs, r1, r2, r3⟩, _, _, _, _, _, _, n2, hle⟩ := id S
    have hrl : rs.length = ns.length := by rw [← r3, List.length_map]
    refine ⟨_, PSs.nox (pss_one (ps_ret (pe_op op_cat (pe_lc (own := [("pair", 1)]) (g := gName 1) (tt := tYes) (by rfl) sc_Maps_maps.nd (pi_reversedK (K := K) rfl (by rfl) T.z_reversed (pa_cons (pe_fldK (K := K) rfl (pv 0) rfl) pa_nil)) (blkOk_by (by kernel_rfl)) (fun _ _ _ _ _ => pg_name (i := 1) sc_Maps_maps.nd rfl (Or.inl rfl)) (fun _ _ _ _ _ => pts_nil) (fun _ _ _ _ _ => (pe_ix (ix_tupK (K := K) rfl) (pv 1) pe_int (fun _ _ => rfl)))) (pe_callTy (call_listK (K := K) rfl) (by rfl) T.z_list (by decide +kernel) (pa_cons (pe_fldK (K := K) rfl (pv 0) rfl) pa_nil))))), ?_⟩
    walk_at "in"
    refine R_lcMapV (ys := qs.map fun q => V.ref q.p1) (SqL.of h2) (by rw [List.length_map, List.length_map, List.length_reverse]) (by rw [List.length_map, List.length_reverse]; omega) (fun i x y H' hx hy sm Q' kQ => ?_) (fun Dl H' hD sm hDl => ?_)
    · rw [List.getElem?_map] at hy
      cases e : qs[i]? with
      | none => rw [e] at hy; cases hy
      | some q =>
        have hi := (List.getElem?_eq_some_iff.mp e).1
        rw [e] at hy
        rw [List.getElem?_map, List.length_map, List.length_reverse, List.getElem?_reverse (by omega), show qs.length - 1 - (qs.length - 1 - i) = i by omega, e] at hx
        have ex := Option.some.inj hx
        have ey := Option.some.inj hy
        subst ex ey
        obtain ⟨m1, m2, m3⟩ := h3 q (List.mem_of_getElem? e)
        walk_at "go"
        refine R_ixT (v := .ref q.p1) (SqT.of (sm _ _ m1)) rfl ?_
        exact kQ H' (Same.refl H')
    · have h1' := sm _ _ h1
      have r1' := sm _ _ r1
      walk_at "go"
      intro l2 nl2
      have a0 : Dl ≠ l2 := ne_of_none hDl nl2
      walk_at "go"
      refine R_cat (by walk_at "hp") (by walk_at "hp") (Nat.le_trans (m := 100000) (by rw [List.length_map, List.length_map]; omega) (by decide)) fun p np => ?_
      have s2 := same_upd (o := HO.lst (rs.map fun q => V.ref q.1)) nl2 (Same.refl H')
      have s3 := sm.trans (s2.trans (same_upd (o := HO.lst ((qs.map fun q => V.ref q.p1) ++ rs.map fun q => V.ref q.1)) np (Same.refl _)))
      walk_at "go"
      refine kq p _ ((sm.trans s2).free np) s3 ⟨qs.map (fun q => (q.p1, q.v.1)) ++ rs, ?_, fun q hq => ?_, ?_⟩
      · rw [List.map_append, List.map_map]
        exact upd_same
      · rcases List.mem_append.mp hq with hq | hq
        · obtain ⟨q', hq', rfl⟩ := List.mem_map.mp hq
          exact s3 _ _ (h3 q' hq').2.1
        · exact s3 _ _ (r2 q hq)
      · unfold rowM
        rw [List.map_append, List.map_map, r3]
        rfl
end
end LF


set_option maxRecDepth 100000
set_option maxHeartbeats 4000000
namespace LF
open PySem PySem.Spec PyProof.Rows L2


/-! ### Groups in the heap -/
structure GE where
  key : Int
  wi : Addr
  t : Addr
  r : Addr
  k : Addr
  o : Addr
  row : List Int
def GE.fp (e : GE) : List Addr := [e.wi, e.t, e.r, e.k, e.o]
def GE.abs (e : GE) : Int × List Int := (e.key, e.row)
def GE.dj (e e' : GE) : Prop := ∀ x ∈ e.fp, x ∉ e'.fp
theorem GE.dj_symm {e e' : GE} (h : e.dj e') : e'.dj e := fun x hx hx' => h x hx' hx
def EAt (K : PySem.W.Frag) (H : Hp) (n : Nat) (e : GE) : Prop := WAt K H e.wi e.t e.r e.k e.o n e.row
theorem GE.mem {e : GE} {b : Addr} (h : b = e.wi ∨ b = e.t ∨ b = e.r ∨ b = e.k ∨ b = e.o) : b ∈ e.fp := by
  unfold GE.fp
  rcases h with rfl | rfl | rfl | rfl | rfl <;> simp
theorem GE.cases {e : GE} {b : Addr} (h : b ∈ e.fp) : b = e.wi ∨ b = e.t ∨ b = e.r ∨ b = e.k ∨ b = e.o := by
  unfold GE.fp at h
  simpa using h
theorem EAt.same {K : PySem.W.Frag} {H H' : Hp} {n : Nat} {e : GE} (S : EAt K H n e) (h : ∀ b u, b ∈ e.fp → H b = some u → H' b = some u) : EAt K H' n e := WAt.same S fun b u hb => h b u (GE.mem hb)
theorem EAt.some {K : PySem.W.Frag} {H : Hp} {n : Nat} {e : GE} (S : EAt K H n e) {x : Addr} (hx : x ∈ e.fp) : ∃ u, H x = some u := by
  obtain ⟨⟨dx, h1⟩, ⟨⟨dy, g1⟩, g2, g3, ⟨kvs, g4, _⟩, _⟩, _⟩ := S
  rcases GE.cases hx with rfl | rfl | rfl | rfl | rfl
  · exact ⟨_, h1⟩
  · exact ⟨_, g1⟩
  · exact ⟨_, g2⟩
  · exact ⟨_, g3⟩
  · exact ⟨_, g4⟩
structure GAtK (K : PySem.W.Frag) (H : Hp) (g oa wa : Addr) (n mo c : Nat) (ks : List Int) (es : List GE) : Prop where
  ob : ∃ dx, H g = some (.ins (He.ga K "Groups") dx (gfl n mo oa wa))
  ol : H oa = some (.lst (ks.map V.int))
  wd : ∃ kvs, H wa = some (.dK kvs) ∧ kvs.length ≤ c ∧ (∀ e ∈ es, valV kvs (.inl e.key) = some (.ref e.wi)) ∧ ∀ z : Int, z ∉ es.map (·.key) → valV kvs (.inl z) = none
  ws : ∀ e ∈ es, EAt K H n e
  nd : (es.map (·.key)).Nodup
  dj : es.Pairwise GE.dj
  ap : ∀ e ∈ es, g ∉ e.fp ∧ oa ∉ e.fp ∧ wa ∉ e.fp
  n1 : 1 ≤ n
  n2 : n ≤ 1000
  m1 : 1 ≤ mo
  m2 : mo ≤ 1000
  le : es.length ≤ mo
def GAt (K : PySem.W.Frag) (H : Hp) (g oa wa : Addr) (n mo c : Nat) (es : List GE) : Prop := GAtK K H g oa wa n mo c (es.map (·.key)) es
def Off (oa wa : Addr) (es : List GE) (b : Addr) : Prop := b ≠ oa ∧ b ≠ wa ∧ ∀ e ∈ es, b ∉ e.fp
def KeepG (H H' : Hp) (oa wa : Addr) (es es' : List GE) : Prop := ∀ b u, H b = some u → Off oa wa es b → H' b = some u ∧ Off oa wa es' b
section
variable {K : PySem.W.Frag} {H H' H2 : Hp} {g oa wa : Addr} {n mo c c' : Nat} {ks : List Int} {es es' A B : List GE} {e : GE}
theorem GAtK.ex (S : GAtK K H g oa wa n mo c ks es) (s : Same H H') : GAtK K H' g oa wa n mo c ks es := by
  obtain ⟨⟨dx, h1⟩, h2, ⟨kvs, h3, h4⟩, h5, h6, h7, h8, n1, n2, m1, m2, le⟩ := S
  exact ⟨⟨dx, s _ _ h1⟩, s _ _ h2, ⟨kvs, s _ _ h3, h4⟩, fun e he => (h5 e he).same fun b u _ hb => s b u hb, h6, h7, h8, n1, n2, m1, m2, le⟩
theorem GAtK.more (S : GAtK K H g oa wa n mo c ks es) (h : c ≤ c') : GAtK K H g oa wa n mo c' ks es := by
  obtain ⟨h1, h2, ⟨kvs, h3, h4, h5⟩, g5, g6, g7, g8, n1, n2, m1, m2, le⟩ := S
  exact ⟨h1, h2, ⟨kvs, h3, Nat.le_trans h4 h, h5⟩, g5, g6, g7, g8, n1, n2, m1, m2, le⟩
theorem GAtK.apart (S : GAtK K H g oa wa n mo c ks es) : g ≠ oa ∧ g ≠ wa ∧ oa ≠ wa := by
  obtain ⟨⟨dx, h1⟩, h2, ⟨kvs, h3, _⟩, _⟩ := S
  exact ⟨ne_of h1 h2 (by intro z; cases z), ne_of h1 h3 (by intro z; cases z), ne_of h2 h3 (by intro z; cases z)⟩
theorem GAtK.off (S : GAtK K H g oa wa n mo c ks es) {p : Addr} (hp : H p = none) : Off oa wa es p := by
  obtain ⟨_, h2, ⟨kvs, h3, _⟩, h5, _⟩ := S
  refine ⟨(ne_of_none h2 hp).symm, (ne_of_none h3 hp).symm, fun e he hx => ?_⟩
  obtain ⟨u, hu⟩ := (h5 e he).some hx
  rw [hp] at hu
  cases hu
/-- the list of keys is another -/
theorem GAtK.order (S : GAtK K H g oa wa n mo c ks es) (ks' : List Int) : GAtK K (upd H oa (.lst (ks'.map V.int))) g oa wa n mo c ks' es := by
  obtain ⟨a1, a2, a3⟩ := S.apart
  obtain ⟨⟨dx, h1⟩, h2, ⟨kvs, h3, h4⟩, h5, h6, h7, h8, n1, n2, m1, m2, le⟩ := S
  refine ⟨⟨dx, by rw [upd_ne a1]; exact h1⟩, upd_same, ⟨kvs, by rw [upd_ne a3.symm]; exact h3, h4⟩, fun e he => (h5 e he).same fun b u hb hH => ?_, h6, h7, h8, n1, n2, m1, m2, le⟩
  rw [upd_ne (fun z : b = oa => (h8 e he).2.1 (z ▸ hb))]
  exact hH
theorem GAtK.perm (S : GAtK K H g oa wa n mo c ks es) (p : es.Perm es') : GAtK K H g oa wa n mo c ks es' := by
  obtain ⟨h1, h2, ⟨kvs, h3, h4, h5, h6⟩, h7, h8, h9, h10, n1, n2, m1, m2, le⟩ := S
  exact ⟨h1, h2, ⟨kvs, h3, h4, fun e he => h5 e (p.mem_iff.mpr he), fun z hz => h6 z fun hz' => hz ((p.map _).mem_iff.mp hz')⟩, fun e he => h7 e (p.mem_iff.mpr he), (p.map _).nodup_iff.mp h8, p.pairwise h9 GE.dj_symm, fun e he => h10 e (p.mem_iff.mpr he), n1, n2, m1, m2, by rw [← p.length_eq]; exact le⟩
theorem putK_len {kvs : List (Key × V)} {k : Key} {v : V} : (putK kvs k v).length ≤ kvs.length + 1 := by
  unfold putK
  split
  · rw [List.length_map]
    omega
  · rw [List.length_append, List.length_singleton]
    omega
theorem dropK_len {kvs : List (Key × V)} {k : Key} : (dropK kvs k).length ≤ kvs.length := List.length_filter_le _ _
/-- the first goes from the dict -/
theorem GAtK.less (S : GAtK K H g oa wa n mo c ks (e :: es)) {kvs : List (Key × V)} (hw : H wa = some (.dK kvs)) : GAtK K (upd H wa (.dK (dropK kvs (.inl e.key)))) g oa wa n mo c ks es := by
  obtain ⟨a1, a2, a3⟩ := S.apart
  obtain ⟨⟨dx, h1⟩, h2, ⟨kvs', h3, h4, h5, h6⟩, h7, h8, h9, h10, n1, n2, m1, m2, le⟩ := S
  rw [hw] at h3
  cases h3
  rw [List.map_cons, List.nodup_cons] at h8
  refine ⟨⟨dx, by rw [upd_ne a2]; exact h1⟩, by rw [upd_ne a3]; exact h2, ⟨_, upd_same, Nat.le_trans dropK_len h4, fun e' he => ?_, fun z hz => ?_⟩, fun e' he => (h7 e' (List.mem_cons_of_mem _ he)).same fun b u hb hH => ?_, h8.2, (List.pairwise_cons.mp h9).2, fun e' he => h10 e' (List.mem_cons_of_mem _ he), n1, n2, m1, m2, Nat.le_of_succ_le le⟩
  · rw [valV_drop, if_neg (fun z => h8.1 (List.mem_map.mpr ⟨e', he, Sum.inl.inj z⟩))]
    exact h5 e' (List.mem_cons_of_mem _ he)
  · rw [valV_drop]
    split
    · rfl
    · rename_i hne
      exact h6 z fun hz' => by
        rw [List.map_cons, List.mem_cons] at hz'
        rcases hz' with rfl | hz'
        · exact hne rfl
        · exact hz hz'
  · rw [upd_ne (fun z : b = wa => (h10 e' (List.mem_cons_of_mem _ he)).2.2 (z ▸ hb))]
    exact hH
/-- a new one comes into the dict -/
theorem GAtK.new (S : GAtK K H g oa wa n mo c ks es) {kvs : List (Key × V)} (hw : H wa = some (.dK kvs)) (E : EAt K H n e) (hg : g ∉ e.fp ∧ oa ∉ e.fp ∧ wa ∉ e.fp) (hk : e.key ∉ es.map (·.key)) (hd : ∀ e' ∈ es, e'.dj e) (hl : es.length < mo) :
    GAtK K (upd H wa (.dK (putK kvs (.inl e.key) (.ref e.wi)))) g oa wa n mo (c + 1) ks (es ++ [e]) := by
  obtain ⟨a1, a2, a3⟩ := S.apart
  obtain ⟨⟨dx, h1⟩, h2, ⟨kvs', h3, h4, h5, h6⟩, h7, h8, h9, h10, n1, n2, m1, m2, le⟩ := S
  rw [hw] at h3
  cases h3
  have hp : ∀ z : Int, valV (putK kvs (.inl e.key) (.ref e.wi)) (.inl z) = if z = e.key then some (.ref e.wi) else valV kvs (.inl z) := fun z => by
    rw [valV_put]
    by_cases hz : z = e.key
    · rw [if_pos hz, if_pos (by rw [hz])]
    · rw [if_neg hz, if_neg (fun q => hz (Sum.inl.inj q))]
  refine ⟨⟨dx, by rw [upd_ne a2]; exact h1⟩, by rw [upd_ne a3]; exact h2, ⟨_, upd_same, Nat.le_trans putK_len (Nat.succ_le_succ h4), fun e' he => ?_, fun z hz => ?_⟩, fun e' he => ?_, ?_, ?_, fun e' he => ?_, n1, n2, m1, m2, by rw [List.length_append, List.length_singleton]; exact hl⟩
  · rw [hp]
    rcases List.mem_append.mp he with he | he
    · rw [if_neg (fun z => hk (List.mem_map.mpr ⟨e', he, z⟩))]
      exact h5 e' he
    · rw [List.mem_singleton.mp he, if_pos rfl]
  · rw [List.map_append, List.mem_append] at hz
    rw [hp, if_neg (fun q => hz (.inr (by rw [q]; exact List.mem_singleton.mpr rfl)))]
    exact h6 z fun q => hz (.inl q)
  · rcases List.mem_append.mp he with he | he
    · refine (h7 e' he).same fun b u hb hH => ?_
      rw [upd_ne (fun z : b = wa => (h10 e' he).2.2 (z ▸ hb))]
      exact hH
    · rw [List.mem_singleton.mp he]
      refine E.same fun b u hb hH => ?_
      rw [upd_ne (fun z : b = wa => hg.2.2 (z ▸ hb))]
      exact hH
  · rw [List.map_append]
    refine List.nodup_append.mpr ⟨h8, by simp, fun x hx y hy z => ?_⟩
    rw [List.map_singleton, List.mem_singleton] at hy
    rw [z, hy] at hx
    exact hk hx
  · exact List.pairwise_append.mpr ⟨h9, List.pairwise_singleton _ _, fun e1 h1' e2 h2' => by rw [List.mem_singleton.mp h2']; exact hd e1 h1'⟩
  · rcases List.mem_append.mp he with he | he
    · exact h10 e' he
    · rw [List.mem_singleton.mp he]
      exact hg
/-- the last one's window takes a thing -/
theorem GAtK.put {row' : List Int} (S : GAtK K H g oa wa n mo c ks (es ++ [e])) (kp : Keep H H' e.t e.r e.k e.o) (E : WAt K H' e.wi e.t e.r e.k e.o n row') : GAtK K H' g oa wa n mo c ks (es ++ [{ e with row := row' }]) := by
  obtain ⟨⟨dx, h1⟩, h2, ⟨kvs, h3, h4, h5, h6⟩, h7, h8, h9, h10, n1, n2, m1, m2, le⟩ := S
  have kp' : ∀ b u, H b = some u → b ∉ e.fp → H' b = some u := fun b u hb hn => kp b u hb (fun z => hn (GE.mem (.inr (.inl z)))) (fun z => hn (GE.mem (.inr (.inr (.inl z))))) (fun z => hn (GE.mem (.inr (.inr (.inr (.inl z)))))) (fun z => hn (GE.mem (.inr (.inr (.inr (.inr z))))))
  obtain ⟨b1, b2, b3⟩ := h10 e (List.mem_append_right _ (List.mem_singleton.mpr rfl))
  obtain ⟨p1, p2, p3⟩ := List.pairwise_append.mp h9
  have ek : (es ++ [{ e with row := row' }]).map GE.key = (es ++ [e]).map GE.key := by rw [List.map_append, List.map_append]; rfl
  refine ⟨⟨dx, kp' _ _ h1 b1⟩, kp' _ _ h2 b2, ⟨kvs, kp' _ _ h3 b3, h4, fun e' he => ?_, fun z hz => h6 z (by rw [← ek]; exact hz)⟩, fun e' he => ?_, by rw [ek]; exact h8, ?_, fun e' he => ?_, n1, n2, m1, m2, by rw [List.length_append] at le ⊢; exact le⟩
  · rcases List.mem_append.mp he with he | he
    · exact h5 e' (List.mem_append_left _ he)
    · rw [List.mem_singleton.mp he]
      exact h5 e (List.mem_append_right _ (List.mem_singleton.mpr rfl))
  · rcases List.mem_append.mp he with he | he
    · exact (h7 e' (List.mem_append_left _ he)).same fun b u hb hH => kp' b u hH (p3 e' he e (List.mem_singleton.mpr rfl) b hb)
    · rw [List.mem_singleton.mp he]
      exact E
  · exact List.pairwise_append.mpr ⟨p1, List.pairwise_singleton _ _, fun e1 h1' e2 h2' => by rw [List.mem_singleton.mp h2']; exact p3 e1 h1' e (List.mem_singleton.mpr rfl)⟩
  · rcases List.mem_append.mp he with he | he
    · exact h10 e' (List.mem_append_left _ he)
    · rw [List.mem_singleton.mp he]
      exact ⟨b1, b2, b3⟩
/-- where those of another list come from -/
def Sub (H : Hp) (es es' : List GE) : Prop := ∀ e' ∈ es', (∃ e ∈ es, e'.fp = e.fp) ∨ ∀ x ∈ e'.fp, H x = none
theorem Sub.off {b : Addr} {u : HO} (h : Sub H es es') (hb : H b = some u) (o : Off oa wa es b) : Off oa wa es' b := by
  refine ⟨o.1, o.2.1, fun e' he hx => ?_⟩
  rcases h e' he with ⟨e, he2, eq⟩ | h
  · rw [eq] at hx
    exact o.2.2 e he2 hx
  · rw [h b hx] at hb
    cases hb
end
def look (rows : List (Int × List Int)) (key : Int) : List Int := ((rows.find? fun p => decide (p.1 = key)).map (·.2)).getD []
def gkept (mo : Nat) (rows : List (Int × List Int)) (key : Int) : List (Int × List Int) :=
  if key ∈ rows.map (·.1) then rows.filter (fun p => decide (p.1 ≠ key)) else if rows.length = mo then rows.tail else rows
def gput (n mo : Nat) (rows : List (Int × List Int)) (key x : Int) : List (Int × List Int) := gkept mo rows key ++ [(key, wput n (look rows key) x)]
def ggone (mo : Nat) (rows : List (Int × List Int)) (key : Int) : V := if key ∈ rows.map (·.1) then .non else if rows.length = mo then .int (rows.headD (0, [])).1 else .non
theorem abs_keys (es : List GE) : (es.map GE.abs).map (·.1) = es.map (·.key) := by rw [List.map_map]; rfl
theorem look_at {A B : List GE} {e : GE} (nd : ((A ++ e :: B).map (·.key)).Nodup) : look ((A ++ e :: B).map GE.abs) e.key = e.row := by
  have hA : ∀ p ∈ A.map GE.abs, ¬ decide (p.1 = e.key) = true := fun p hp hq => by
    obtain ⟨e', he, rfl⟩ := List.mem_map.mp hp
    rw [List.map_append, List.map_cons] at nd
    obtain ⟨_, _, h3⟩ := List.nodup_append.mp nd
    exact h3 e'.key (List.mem_map.mpr ⟨e', he, rfl⟩) e.key List.mem_cons_self (of_decide_eq_true hq)
  unfold look
  rw [List.map_append, List.find?_append, List.find?_eq_none.mpr hA, List.map_cons, List.find?_cons_of_pos (by exact decide_eq_true rfl)]
  rfl
theorem look_no {es : List GE} {key : Int} (h : key ∉ es.map (·.key)) : look (es.map GE.abs) key = [] := by
  unfold look
  rw [List.find?_eq_none.mpr]
  · rfl
  · intro p hp hq
    obtain ⟨e', he, rfl⟩ := List.mem_map.mp hp
    exact h (List.mem_map.mpr ⟨e', he, of_decide_eq_true hq⟩)
theorem gkept_at {mo : Nat} {A B : List GE} {e : GE} (nd : ((A ++ e :: B).map (·.key)).Nodup) : gkept mo ((A ++ e :: B).map GE.abs) e.key = (A ++ B).map GE.abs := by
  unfold gkept
  rw [if_pos (by rw [abs_keys, List.map_append, List.map_cons]; exact List.mem_append_right _ List.mem_cons_self)]
  rw [List.map_append, List.map_cons] at nd
  obtain ⟨_, h2, h3⟩ := List.nodup_append.mp nd
  rw [List.nodup_cons] at h2
  rw [List.map_append, List.map_append, List.filter_append, List.map_cons, List.filter_cons_of_neg (by intro q; exact (of_decide_eq_true q) rfl), List.filter_eq_self.mpr, List.filter_eq_self.mpr]
  · intro p hp
    obtain ⟨e', he, rfl⟩ := List.mem_map.mp hp
    exact decide_eq_true fun q => h2.1 (List.mem_map.mpr ⟨e', he, q⟩)
  · intro p hp
    obtain ⟨e', he, rfl⟩ := List.mem_map.mp hp
    exact decide_eq_true fun q => h3 e'.key (List.mem_map.mpr ⟨e', he, rfl⟩) e.key List.mem_cons_self q
def spGInit (K : PySem.W.Frag) : Sp := fun vs H Q _ => ∃ (g dx : Addr) (n mo : Nat), vs = [.ref g, .int n, .int mo] ∧ H g = some (.ins (He.ga K "Groups") dx []) ∧ 1 ≤ n ∧ n ≤ 1000 ∧ 1 ≤ mo ∧ mo ≤ 1000 ∧
  ∀ (oa wa : Addr) (H' : Hp), H oa = none → H wa = none → GAt K H' g oa wa n mo 0 [] → (∀ b u, H b = some u → b ≠ g → H' b = some u) → Q .non H'
def spGPut (K : PySem.W.Frag) : Sp := fun vs H Q _ => ∃ (g oa wa : Addr) (n mo c : Nat) (es : List GE) (key x : Int), vs = [.ref g, .int key, .int x] ∧ GAt K H g oa wa n mo c es ∧ c < 1000 ∧
  ∀ es' H', es'.map GE.abs = gput n mo (es.map GE.abs) key x → GAt K H' g oa wa n mo (c + 1) es' → KeepG H H' oa wa es es' → Q (ggone mo (es.map GE.abs) key) H'
def spGUsed (K : PySem.W.Frag) : Sp := fun vs H Q _ => ∃ (g oa wa : Addr) (n mo c : Nat) (es : List GE), vs = [.ref g] ∧ GAt K H g oa wa n mo c es ∧
  ∀ l H', H l = none → Same H H' → H' l = some (.lst ((es.map (·.key)).map V.int)) → Q (.ref l) H'
def spGNeed (K : PySem.W.Frag) : Sp := fun vs H Q _ => ∃ (g oa wa : Addr) (n mo c : Nat) (es : List GE) (e : GE), vs = [.ref g, .int e.key] ∧ GAt K H g oa wa n mo c es ∧ e ∈ es ∧ Q (.ref e.wi) H
def spGThings (K : PySem.W.Frag) : Sp := fun vs H Q _ => ∃ (g oa wa : Addr) (n mo c : Nat) (es : List GE) (e : GE), vs = [.ref g, .int e.key] ∧ GAt K H g oa wa n mo c es ∧ e ∈ es ∧
  ∀ l H', H l = none → Same H H' → H' l = some (.lst (e.row.map V.int)) → Q (.ref l) H'
def spGWord (K : PySem.W.Frag) : Sp := fun vs H Q _ => ∃ (g oa wa : Addr) (n mo c : Nat) (es : List GE) (e : GE) (nm : Str), vs = [.ref g, .int e.key, .str nm] ∧ GAt K H g oa wa n mo c es ∧ e ∈ es ∧ nm ∈ names12 ∧
  ∀ H', Same H H' → Q (wordV e.row nm) H'
section
variable {P : Program} {w : World} {K : PySem.W.Frag} {mg : Str → Option Value} {base : Heap} {D : Str × Option Str → FuncData}
theorem ok_Groups_init (T : Txt K mg D) : FnOk P w K mg base CX0 3 (He.ma K (He.ga K "Groups") "__init__") (D ("Groups", some "__init__")) ["self", "size", "most"] (spGInit K) := by
  refine T.Groups_init.F.ok sc_Groups_init (fun vs H Q E h => ?_) (fun cdv A outer s H vs Q E hr h => ?_)
  · obtain ⟨g, dx, n, mo, rfl, _⟩ := h
    rfl
  · obtain ⟨g, dx, n, mo, rfl, h1, n1, n2, m1, m2, kq⟩ := h
    have fcGroups := T.cGroups.cl; have fnGroupssize := T.n_Groups_size; have fnGroupsmost := T.n_Groups_most; have fnGroupsorder := T.n_Groups_order; have fnGroupswindows := T.n_Groups_windows
    refine ⟨_, PSs.nox (pss_cons (ps_expr (pe_call (ok_look_size T) (by exact hr.mono (by decide)) (by rfl) T.look_size.g T.look_size.F.kp T.look_size.b .nil pass0 (pa_cons (pv 1) pa_nil)))
      (pss_cons (ps_expr (pe_call (ok_look_size T) (by exact hr.mono (by decide)) (by rfl) T.look_size.g T.look_size.F.kp T.look_size.b .nil pass0 (pa_cons (pv 2) pa_nil)))
      (pss_cons (ps_fldK (K := K) rfl (pv 0) (pv 1) rfl)
      (pss_cons (ps_fldK (K := K) rfl (pv 0) (pv 2) rfl)
      (pss_cons (ps_fldK (K := K) rfl (pv 0) (pe_lst pa_nil) rfl)
      (pss_one (ps_fldK (K := K) rfl (pv 0) pe_dnewK rfl))))))), ?_⟩
    walk_at "in"
    refine ⟨n, rfl, n1, n2, ?_⟩
    walk_at "go"
    refine ⟨mo, rfl, m1, m2, ?_⟩
    walk_at "go"
    refine ⟨Nat.zero_le _, fun oa noa => ?_⟩
    have a0 : g ≠ oa := ne_of_none (by walk_at "hp") noa
    walk_at "go"
    intro wa nwa
    have a1 : g ≠ wa := ne_of_none (by walk_at "hp") nwa
    have a2 : oa ≠ wa := ne_of_none (o := HO.lst []) (by walk_at "hp") nwa
    walk_at "go"
    have f1 : H oa = none := by rw [upd_ne a0.symm, upd_ne a0.symm] at noa; exact noa
    have f2 : H wa = none := by rw [upd_ne a1.symm, upd_ne a2.symm, upd_ne a1.symm, upd_ne a1.symm] at nwa; exact nwa
    refine kq oa wa _ f1 f2 ⟨⟨dx, upd_same⟩, (show _ = some (HO.lst []) by walk_at "hp"), ⟨[], by walk_at "hp", Nat.le_refl _, (fun e he => by cases he), fun z _ => valV_nil⟩, (fun e he => by cases he), List.nodup_nil, List.Pairwise.nil, (fun e he => by cases he), n1, n2, m1, m2, Nat.zero_le _⟩ fun b u e hb => ?_
    have b1 : b ≠ oa := ne_of_none e f1
    have b2 : b ≠ wa := ne_of_none e f2
    walk_at "hp"
theorem ok_Groups_used (T : Txt K mg D) : FnOk P w K mg base CX0 1 (He.ma K (He.ga K "Groups") "used") (D ("Groups", some "used")) ["self"] (spGUsed K) := by
  refine T.Groups_used.F.ok sc_Groups_used (fun vs H Q E h => ?_) (fun cdv A outer s H vs Q E hr h => ?_)
  · obtain ⟨g, oa, wa, n, mo, c, es, rfl, _⟩ := h
    rfl
  · obtain ⟨g, oa, wa, n, mo, c, es, rfl, S, kq⟩ := h
    have fcGroups := T.cGroups.cl; have fnGroupssize := T.n_Groups_size; have fnGroupsmost := T.n_Groups_most; have fnGroupsorder := T.n_Groups_order; have fnGroupswindows := T.n_Groups_windows
    obtain ⟨⟨dx, h1⟩, h2, _⟩ := id S
    refine ⟨_, PSs.nox (pss_one (ps_ret (pe_callTy (call_listK (K := K) rfl) (by rfl) T.z_list (by decide +kernel) (pa_cons (pe_fldK (K := K) rfl (pv 0) rfl) pa_nil)))), ?_⟩
    walk_at "in"
    intro l nl
    exact kq l _ nl (same_upd nl (Same.refl H)) upd_same
theorem ok_Groups_need (T : Txt K mg D) : FnOk P w K mg base CX0 1 (He.ma K (He.ga K "Groups") "need") (D ("Groups", some "need")) ["self", "key"] (spGNeed K) := by
  refine T.Groups_need.F.ok sc_Groups_need (fun vs H Q E h => ?_) (fun cdv A outer s H vs Q E hr h => ?_)
  · obtain ⟨g, oa, wa, n, mo, c, es, e, rfl, _⟩ := h
    rfl
  · obtain ⟨g, oa, wa, n, mo, c, es, e, rfl, S, he, kq⟩ := h
    have fcGroups := T.cGroups.cl; have fnGroupssize := T.n_Groups_size; have fnGroupsmost := T.n_Groups_most; have fnGroupsorder := T.n_Groups_order; have fnGroupswindows := T.n_Groups_windows
    have hu := hu_of hr
    obtain ⟨⟨dx, h1⟩, h2, ⟨kvs, h3, _, h5, _⟩, _⟩ := id S
    refine ⟨_, PSs.nox (pss_cons (ps_if (pt_cmp (pc_dnotin (by exact hu) (pv 1) (pe_fldK (K := K) rfl (pv 0) rfl))) (pss_one ps_never) pss_nil)
      (pss_one (ps_ret (pe_dget (by exact hu) (pe_fldK (K := K) rfl (pv 0) rfl) (pv 1) (fun _ _ => rfl))))), ?_⟩
    walk_at "in"
    rw [h5 e he]
    refine iteBF rfl ?_
    walk_at "go"
    refine R_get (by walk_at "hp") (h5 e he) ?_
    exact kq
theorem ok_Groups_things (T : Txt K mg D) : FnOk P w K mg base CX0 2 (He.ma K (He.ga K "Groups") "things") (D ("Groups", some "things")) ["self", "key"] (spGThings K) := by
  refine T.Groups_things.F.ok sc_Groups_things (fun vs H Q E h => ?_) (fun cdv A outer s H vs Q E hr h => ?_)
  · obtain ⟨g, oa, wa, n, mo, c, es, e, rfl, _⟩ := h
    rfl
  · obtain ⟨g, oa, wa, n, mo, c, es, e, rfl, S, he, kq⟩ := h
    have fcGroups := T.cGroups.cl; have fnGroupssize := T.n_Groups_size; have fnGroupsmost := T.n_Groups_most; have fnGroupsorder := T.n_Groups_order; have fnGroupswindows := T.n_Groups_windows
    obtain ⟨⟨dx, h1⟩, h2, ⟨kvs, h3, _, h5, _⟩, hw, _⟩ := id S
    obtain ⟨⟨dw, g1⟩, _⟩ := id (hw e he)
    refine ⟨_, PSs.nox (pss_one (ps_ret (pe_meth0 (pe_meth (pv 0) T.cGroups.cl T.Groups_need.me (ok_Groups_need T) (by exact hr.mono (by decide)) T.Groups_need.b .nil pass0 (pa_cons (pv 1) pa_nil)) T.cWindow.cl T.Window_things.me (ok_Window_things T) (by exact hr.mono (by decide)) T.Window_things.b .nil pass0))), ?_⟩
    walk_at "in"
    refine ⟨g, oa, wa, n, mo, c, es, e, rfl, S, he, ?_⟩
    walk_at "go"
    exact ⟨e.wi, e.t, e.r, e.k, e.o, n, e.row, rfl, hw e he, kq⟩
theorem ok_Groups_word (T : Txt K mg D) : FnOk P w K mg base CX0 6 (He.ma K (He.ga K "Groups") "word") (D ("Groups", some "word")) ["self", "key", "name"] (spGWord K) := by
  refine T.Groups_word.F.ok sc_Groups_word (fun vs H Q E h => ?_) (fun cdv A outer s H vs Q E hr h => ?_)
  · obtain ⟨g, oa, wa, n, mo, c, es, e, nm, rfl, _⟩ := h
    rfl
  · obtain ⟨g, oa, wa, n, mo, c, es, e, nm, rfl, S, he, hnm, kq⟩ := h
    have fcGroups := T.cGroups.cl; have fnGroupssize := T.n_Groups_size; have fnGroupsmost := T.n_Groups_most; have fnGroupsorder := T.n_Groups_order; have fnGroupswindows := T.n_Groups_windows
    obtain ⟨⟨dx, h1⟩, h2, ⟨kvs, h3, _, h5, _⟩, hw, _⟩ := id S
    obtain ⟨⟨dw, g1⟩, _⟩ := id (hw e he)
    refine ⟨_, PSs.nox (pss_one (ps_ret (pe_meth (pe_meth (pv 0) T.cGroups.cl T.Groups_need.me (ok_Groups_need T) (by exact hr.mono (by decide)) T.Groups_need.b .nil pass0 (pa_cons (pv 1) pa_nil)) T.cWindow.cl T.Window_word.me (ok_Window_word T) (by exact hr.mono (by decide)) T.Window_word.b .nil pass0 (pa_cons (pv 2) pa_nil)))), ?_⟩
    walk_at "in"
    refine ⟨g, oa, wa, n, mo, c, es, e, rfl, S, he, ?_⟩
    walk_at "go"
    exact ⟨e.wi, e.t, e.r, e.k, e.o, n, e.row, nm, rfl, hw e he, hnm, kq⟩
theorem ok_Groups_put (T : Txt K mg D) : FnOk P w K mg base CX0 5 (He.ma K (He.ga K "Groups") "put") (D ("Groups", some "put")) ["self", "key", "thing"] (spGPut K) := by
  refine T.Groups_put.F.ok sc_Groups_put (fun vs H Q E h => ?_) (fun cdv A outer s H vs Q E hr h => ?_)
  · obtain ⟨g, oa, wa, n, mo, c, es, key, x, rfl, _⟩ := h
    rfl
  · obtain ⟨g, oa, wa, n, mo, c, es, key, x, rfl, S, hc, kq⟩ := h
    have fcGroups := T.cGroups.cl; have fnGroupssize := T.n_Groups_size; have fnGroupsmost := T.n_Groups_most; have fnGroupsorder := T.n_Groups_order; have fnGroupswindows := T.n_Groups_windows; have fcWindow := T.cWindow.cl; have fnWindowsize := T.n_Window_size; have fnWindowtally := T.n_Window_tally
    have hu := hu_of hr
    obtain ⟨⟨dx, h1⟩, h2, ⟨kvs, h3, hcl, h5, h6⟩, hw, nd, hdj, hap, n1, n2, m1, m2, hle⟩ := id S
    obtain ⟨a1, a2, a3⟩ := GAtK.apart S
    refine ⟨_, PSs.nox (pss_cons (ps_set (i := 3) sc_Groups_put.nd rfl (Or.inl rfl) pe_non)
      (pss_cutQ (ps_if (pt_cmp (pc_din (by exact hu) (pv 1) (pe_fldK (K := K) rfl (pv 0) rfl))) (pss_one (ps_expr (pe_bmK (K := K) rfl PySem.F.plainAttrs_list PySem.F.slot_list_remove PySem.F.type_list_remove mt_remove (pe_fldK (K := K) rfl (pv 0) rfl) (pa_cons (pv 1) pa_nil)))) (pss_cutQ (ps_if (pt_cmpR op_eq (pe_callB (call_lenK (K := K) rfl) (by rfl) T.z_len PySem.boot_len (pa_cons (pe_fldK (K := K) rfl (pv 0) rfl) pa_nil)) (pe_fldK (K := K) rfl (pv 0) rfl) (nomark _)) (pss_cons (ps_set (i := 3) sc_Groups_put.nd rfl (Or.inl rfl) (pe_bmK (K := K) rfl PySem.F.plainAttrs_list PySem.F.slot_list_pop PySem.F.type_list_pop mt_popAt (pe_fldK (K := K) rfl (pv 0) rfl) (pa_cons pe_int pa_nil)))
      (pss_one (ps_expr (pe_dpop1 (pe_fldK (K := K) rfl (pv 0) rfl) (pv 3) ⟨rfl, rfl, rfl, rfl⟩)))) pss_nil)
      (pss_one (ps_dput (by exact hu) (pe_fldK (K := K) rfl (pv 0) rfl) (pv 1) (pe_make T.cWindow.mkr (ok_Window_init T) (by exact hr.mono (by decide)) (by rfl) T.cWindow.g T.Window_init.b .nil pass0 (pa_cons (pe_fldK (K := K) rfl (pv 0) rfl) pa_nil)) rfl))))
      (pss_cons (ps_expr (pe_bmK (K := K) rfl PySem.F.plainAttrs_list PySem.F.slot_list_append PySem.F.type_list_append mt_append (pe_fldK (K := K) rfl (pv 0) rfl) (pa_cons (pv 1) pa_nil)))
      (pss_cons (ps_expr (pe_meth (pe_dget (by exact hu) (pe_fldK (K := K) rfl (pv 0) rfl) (pv 1) (fun _ _ => rfl)) T.cWindow.cl T.Window_put.me (ok_Window_put T) (by exact hr.mono (by decide)) T.Window_put.b .nil pass0 (pa_cons (pv 2) pa_nil)))
      (pss_one (ps_ret (pv 3))))))), ?_⟩
    walk_at "in"
    refine S_cut (fun σ' H' => σ' = [some (.ref g), some (.int key), some (.int x), some (ggone mo (es.map GE.abs) key)] ∧ ∃ (es1 : List GE) (ek : GE), GAtK K H' g oa wa n mo (c + 1) (es1.map (·.key)) (es1 ++ [ek]) ∧ es1.map GE.abs = gkept mo (es.map GE.abs) key ∧ ek.key = key ∧ ek.row = look (es.map GE.abs) key ∧ Sub H es (es1 ++ [ek]) ∧ (∀ b u, H b = some u → Off oa wa es b → H' b = some u)) ?_ ?_
    · walk_at "go"
      by_cases hk : key ∈ es.map (·.key)
      · have eg : ggone mo (es.map GE.abs) key = .non := if_pos (by rw [abs_keys]; exact hk)
        rw [eg]
        obtain ⟨e, he, rfl⟩ := List.mem_map.mp hk
        obtain ⟨A, B, rfl⟩ := List.append_of_mem he
        rw [h5 e he]
        refine iteBT rfl ?_
        walk_at "go"
        refine ⟨oa, (A ++ e :: B).map (·.key), e.key, A.length, rfl, rfl, by walk_at "hp", ?_, ?_, ?_⟩
        · rw [List.getElem?_map, List.getElem?_append_right (Nat.le_refl _), Nat.sub_self]
          rfl
        · intro m hm q
          rw [List.getElem?_map, List.getElem?_append_left hm] at q
          cases em : A[m]? with
          | none => rw [em] at q; cases q
          | some e' =>
            rw [em] at q
            rw [List.map_append, List.map_cons] at nd
            exact (List.nodup_append.mp nd).2.2 e'.key (List.mem_map.mpr ⟨e', List.mem_of_getElem? em, rfl⟩) e.key List.mem_cons_self (Option.some.inj q)
        · walk_at "go"
          have eo : ((A ++ e :: B).map (·.key)).eraseIdx A.length = (A ++ B).map (·.key) := by
            rw [List.map_append, List.map_cons, List.eraseIdx_append_of_length_le (by rw [List.length_map]; exact Nat.le_refl _), List.length_map, Nat.sub_self, List.map_append]
            rfl
          rw [eo]
          have hp : (A ++ e :: B).Perm ((A ++ B) ++ [e]) := by
            rw [List.append_assoc]
            exact (List.perm_append_left_iff A).mpr (List.perm_append_singleton e B).symm
          refine ⟨rfl, A ++ B, e, ((GAtK.order S _).perm hp).more (Nat.le_succ _), (gkept_at nd).symm, rfl, (look_at nd).symm, fun e' he' => .inl ⟨e', hp.mem_iff.mpr he', rfl⟩, fun b u hb ho => ?_⟩
          rw [upd_ne ho.1]
          exact hb
      · have hk2 : key ∉ (es.map GE.abs).map (·.1) := by rw [abs_keys]; exact hk
        rw [h6 key hk]
        refine iteBF rfl ?_
        walk_at "go"
        refine S_cut (fun σ' H' => σ' = [some (.ref g), some (.int key), some (.int x), some (ggone mo (es.map GE.abs) key)] ∧ ∃ es1 : List GE, GAtK K H' g oa wa n mo c (es1.map (·.key)) es1 ∧ es1.map GE.abs = gkept mo (es.map GE.abs) key ∧ key ∉ es1.map (·.key) ∧ es1.length < mo ∧ (∀ e ∈ es1, e ∈ es) ∧ (∀ b u, H b = some u → Off oa wa es b → H' b = some u) ∧ ∀ b, H' b = none → H b = none) ?_ ?_
        · walk_at "go"
          rw [List.length_map, List.length_map]
          by_cases hf : es.length = mo
          · refine iteBT (decide_eq_true (by rw [hf])) ?_
            walk_at "go"
            cases es with
            | nil => exact absurd hf (by rw [List.length_nil]; omega)
            | cons e0 r =>
              have eg : ggone mo ((e0 :: r).map GE.abs) key = .int e0.key := (if_neg hk2).trans (if_pos (by rw [List.length_map]; exact hf))
              rw [eg]
              refine R_pop0 (y := .int e0.key) (r := (r.map GE.key).map V.int) h2 ?_
              walk_at "go"
              refine R_pop1 (kvs := kvs) (v := .ref e0.wi) (by walk_at "hp") (h5 e0 List.mem_cons_self) ?_
              walk_at "go"
              have S2 := (GAtK.order S (r.map (·.key))).less (kvs := kvs) (by rw [upd_ne a3.symm]; exact h3)
              refine ⟨rfl, r, S2, ?_, fun q => hk (List.mem_cons_of_mem _ q), by rw [List.length_cons] at hf; omega, fun e he => List.mem_cons_of_mem _ he, fun b u hb ho => by rw [upd_ne ho.2.1, upd_ne ho.1]; exact hb, fun b hb => ?_⟩
              · exact ((if_neg hk2).trans (if_pos (by rw [List.length_map]; exact hf))).symm
              · by_cases z1 : b = wa
                · rw [z1, upd_same] at hb
                  cases hb
                · rw [upd_ne z1] at hb
                  by_cases z2 : b = oa
                  · rw [z2, upd_same] at hb
                    cases hb
                  · rw [upd_ne z2] at hb
                    exact hb
          · have eg : ggone mo (es.map GE.abs) key = .non := (if_neg hk2).trans (if_neg (by rw [List.length_map]; exact hf))
            rw [eg]
            refine iteBF (decide_eq_false (fun e => hf (by have := V.int.inj e; omega))) ?_
            walk_at "go"
            exact ⟨rfl, es, S, ((if_neg hk2).trans (if_neg (by rw [List.length_map]; exact hf))).symm, hk, by omega, fun e he => he, fun b u hb _ => hb, fun b hb => hb⟩
        · rintro σ' H' ⟨rfl, es1, S1, e1, hk1, hl1, hsub, kp, hfr⟩
          obtain ⟨⟨dx', g1⟩, g2, ⟨kvs1, g3, gcl, _⟩, _⟩ := id S1
          walk_at "go"
          intro wi dw nwi ndw ne
          have sB : Same H' (upd (upd H' dw (.own wi)) wi (.ins (He.ga K "Window") dw [])) := fun b u e => by
            rw [upd_ne (ne_of_none e nwi), upd_ne (ne_of_none e ndw)]
            exact e
          refine ⟨wi, dw, n, rfl, upd_same, n1, n2, fun t r k o H2 nt nr nk no W kp2 => ⟨rfl, ?_⟩⟩
          have s2 : Same H' H2 := Same.made nwi ndw kp2
          have S2 := S1.ex s2
          have fe : ∀ x ∈ (GE.mk key wi t r k o []).fp, H' x = none := fun x hx => by
            rcases GE.cases hx with rfl | rfl | rfl | rfl | rfl
            · exact nwi
            · exact sB.free nt
            · exact sB.free nr
            · exact sB.free nk
            · exact sB.free no
          have off : ∀ y, (∃ u, H' y = some u) → y ∉ (GE.mk key wi t r k o []).fp := fun y ⟨u, hu⟩ hx => by
            rw [fe y hx] at hu
            cases hu
          have q1 := s2 _ _ g1
          have q3 := s2 _ _ g3
          walk_at "go"
          refine ⟨rfl, es1, GE.mk key wi t r k o [], S2.new (e := GE.mk key wi t r k o []) q3 W ⟨off g ⟨_, g1⟩, off oa ⟨_, g2⟩, off wa ⟨_, g3⟩⟩ hk1 (fun e' he' x hx => off x ((S1.ws e' he').some hx)) hl1, e1, rfl, (look_no hk).symm, fun e' he' => ?_, fun b u hb ho => ?_⟩
          · rcases List.mem_append.mp he' with he' | he'
            · exact .inl ⟨e', hsub e' he', rfl⟩
            · rw [List.mem_singleton.mp he']
              exact .inr fun x hx => hfr x (fe x hx)
          · rw [upd_ne ho.2.1]
            exact s2 _ _ (kp b u hb ho)
    · rintro σ' H' ⟨rfl, es1, ek, S1, e1, ekk, er, hs, kp⟩
      have hmem : ek ∈ es1 ++ [ek] := List.mem_append_right _ (List.mem_singleton.mpr rfl)
      obtain ⟨⟨dx', g1⟩, g2, ⟨kvs1, g3, gcl, g5, _⟩, gw, _, _, gap, _, _, _, _, gle⟩ := id S1
      obtain ⟨⟨dw, w1⟩, _⟩ := id (gw ek hmem)
      have d1 : ek.wi ≠ oa := fun z => (gap ek hmem).2.1 (by rw [← z]; exact GE.mem (.inl rfl))
      have hlen : es1.length ≤ 1000 := by rw [List.length_append, List.length_singleton] at gle; omega
      walk_at "go"
      have S2 : GAtK K (upd H' oa (.lst ((es1.map (·.key)).map V.int ++ [.int key]))) g oa wa n mo (c + 1) ((es1 ++ [ek]).map GE.key) (es1 ++ [ek]) := by
        have q := GAtK.order S1 ((es1 ++ [ek]).map GE.key)
        have e : ((es1 ++ [ek]).map GE.key).map V.int = (es1.map (·.key)).map V.int ++ [.int key] := by
          rw [List.map_append, List.map_append, ← ekk]
          rfl
        rw [e] at q
        exact q
      refine R_get (v := .ref ek.wi) (by walk_at "hp") (by rw [← ekk]; exact g5 ek hmem) ?_
      walk_at "go"
      refine ⟨ek.wi, ek.t, ek.r, ek.k, ek.o, n, ek.row, x, rfl, S2.ws ek hmem, fun H3 W kp3 => ?_⟩
      walk_at "go"
      have S3 := S2.put kp3 W
      have ek3 : (es1 ++ [{ ek with row := wput n ek.row x }]).map GE.key = (es1 ++ [ek]).map GE.key := by rw [List.map_append, List.map_append]; rfl
      refine kq (es1 ++ [{ ek with row := wput n ek.row x }]) H3 ?_ ?_ ?_
      · rw [List.map_append, e1]
        unfold gput
        rw [← er, ← ekk]
        rfl
      · show GAtK _ _ _ _ _ _ _ _ _ _
        rw [ek3]
        exact S3
      · intro b u hb ho
        have o2 := hs.off hb ho
        have hn := o2.2.2 ek hmem
        refine ⟨kp3 b u (by rw [upd_ne ho.1]; exact kp b u hb ho) (fun z => hn (GE.mem (.inr (.inl z)))) (fun z => hn (GE.mem (.inr (.inr (.inl z))))) (fun z => hn (GE.mem (.inr (.inr (.inr (.inl z)))))) (fun z => hn (GE.mem (.inr (.inr (.inr (.inr z)))))), o2.1, o2.2.1, fun e' he' => ?_⟩
        rcases List.mem_append.mp he' with he' | he'
        · exact o2.2.2 e' (List.mem_append_left _ he')
        · rw [List.mem_singleton.mp he']
          exact hn
end
end LF

set_option maxRecDepth 100000
set_option maxHeartbeats 4000000
namespace LF
open PySem PySem.Spec PyProof.Rows L2


/-! ### the law's own helpers -/
theorem if_max (b e i : Nat) (h : i ≤ e) : (if (e : Int) - (i : Int) > (b : Int) then (e : Int) - (i : Int) else (b : Int)) = ((max b (e - i) : Nat) : Int) := by split <;> omega
def cellF (ns : List Int) (k : Int) : Int := if ns = [] then 0 else ns.getD (k % (ns.length : Int)).toNat 0
def mixF (ns : List Int) (k : Int) : Int :=
  (((cellF ns k + 104729 * (k + 1)) % 4294967291 * 48271 % 4294967279) / 64 * 69621 + (cellF ns k + 104729 * (k + 1)) % 4294967291 * 48271 % 4294967279) % 4294967231
theorem mixF_nn (ns : List Int) (k : Int) : 0 ≤ mixF ns k := Int.emod_nonneg _ (by decide)
theorem mixF_lt (ns : List Int) (k : Int) : mixF ns k < 4294967231 := Int.emod_lt_of_pos _ (by decide)
def thingF (ns : List Int) (k : Int) : Int :=
  if 0 < mixF ns k / 64 % 8 then ([0, 1, -1, 2, 5, 999999999999999, -999999999999999, mixF ns k / 8 % 7 - 3] : List Int).getD (mixF ns k % 8).toNat 0 else mixF ns k / 512 % 100000 - 50000
def spCell (K : PySem.W.Frag) : Sp := fun vs H Q _ => ∃ (a : Addr) (ns : List Int) (i : Int), vs = [.ref a, .int i] ∧ SqL K H a (ns.map V.int) ∧ ns.length ≤ 63 ∧ 0 ≤ i ∧ Q (.int (cellF ns i)) H
def spMix (K : PySem.W.Frag) : Sp := fun vs H Q _ => ∃ (a : Addr) (ns : List Int) (i : Int), vs = [.ref a, .int i] ∧ SqL K H a (ns.map V.int) ∧ ns.length ≤ 63 ∧ 0 ≤ i ∧ Q (.int (mixF ns i)) H
def spThing (K : PySem.W.Frag) : Sp := fun vs H Q _ => ∃ (a : Addr) (ns : List Int) (i : Int), vs = [.ref a, .int i] ∧ SqL K H a (ns.map V.int) ∧ ns.length ≤ 63 ∧ 0 ≤ i ∧ ∀ H', Same H H' → Q (.int (thingF ns i)) H'
def spNames : Sp := fun vs H Q _ => vs = [] ∧ ∀ l H', H l = none → Same H H' → H' l = some (.lst (names12.map V.str)) → Q (.ref l) H'
def spLRising (K : PySem.W.Frag) : Sp := fun vs H Q _ => ∃ (a : Addr) (ns : List Int), vs = [.ref a] ∧ SqL K H a (ns.map V.int) ∧ ns.length ≤ 1000 ∧ Q (.int (ris ns : Nat)) H
def spLWord (K : PySem.W.Frag) : Sp := fun vs H Q _ => ∃ (a : Addr) (ns : List Int) (nm : Str), vs = [.ref a, .str nm] ∧ SqL K H a (ns.map V.int) ∧ ns.length < 64 ∧ nm ∈ names12 ∧ ∀ H', Same H H' → Q (wordV ns nm) H'
def isWord (x : V) : Prop := x = .non ∨ ∃ i, x = .int i
def spIs : Sp := fun vs H Q _ => ∃ x : V, vs = [x, x] ∧ isWord x ∧ Q (.bl true) H
theorem wordV_is (row : List Int) (nm : Str) : isWord (wordV row nm) := by
  unfold wordV
  repeat' split
  all_goals first | exact .inl rfl | exact .inr ⟨_, rfl⟩
section
variable {P : Program} {w : World} {K : PySem.W.Frag} {mg : Str → Option Value} {base : Heap} {D : Str × Option Str → FuncData}
theorem ok_l_cell (T : Txt K mg D) : FnOk P w K mg base CX0 1 (He.ga K "_law_cell") (D ("_law_cell", none)) ["_law_script", "_law_k"] (spCell K) := by
  refine T.l_cell.F.ok sc_l_cell (fun vs H Q E h => ?_) (fun cdv A outer s H vs Q E hr h => ?_)
  · obtain ⟨a, ns, i, rfl, _⟩ := h
    rfl
  · obtain ⟨a, ns, i, rfl, hS, hl, hi, kq⟩ := h
    refine ⟨_, PSs.nox (pss_cons (ps_if (pt_truK (K := K) rfl (pv 0) (by intro _; rfl)) (pss_one (ps_ret (pe_ix (ix_listK (K := K) rfl) (pv 0) (pe_op op_mod (pv 1) (pe_callB (call_lenK (K := K) rfl) (by rfl) T.z_len PySem.boot_len (pa_cons (pv 0) pa_nil))) (fun _ _ => rfl)))) pss_nil)
      (pss_one (ps_ret pe_int))), ?_⟩
    walk_at "in"
    cases ns with
    | nil =>
      refine iteBF rfl ?_
      walk_at "go"
      exact kq
    | cons x r =>
      refine iteBT rfl ?_
      have hpos : (0 : Int) < ((List.map V.int (x :: r)).length : Nat) := by rw [mapint_len, List.length_cons]; omega
      walk_at "go"
      have h1 := Int.emod_nonneg i (b := (((x :: r).length : Nat) : Int)) (by rw [List.length_cons]; omega)
      have h2 := Int.emod_lt_of_pos i (b := (((x :: r).length : Nat) : Int)) (by rw [List.length_cons]; omega)
      refine R_ixL hS (at_int (i % (((x :: r).length : Nat) : Int)).toNat (by rw [mapint_len]; omega) (by omega)) ?_
      have e : cellF (x :: r) i = (x :: r)[(i % (((x :: r).length : Nat) : Int)).toNat]'(by omega) := by
        unfold cellF
        rw [if_neg (List.cons_ne_nil _ _), List.getD_eq_getElem?_getD, List.getElem?_eq_getElem (by omega)]
        rfl
      rw [← e]
      exact kq
theorem ok_l_mix (T : Txt K mg D) : FnOk P w K mg base CX0 2 (He.ga K "_law_mix") (D ("_law_mix", none)) ["_law_script", "_law_k"] (spMix K) := by
  refine T.l_mix.F.ok sc_l_mix (fun vs H Q E h => ?_) (fun cdv A outer s H vs Q E hr h => ?_)
  · obtain ⟨a, ns, i, rfl, _⟩ := h
    rfl
  · obtain ⟨a, ns, i, rfl, hS, hl, hi, kq⟩ := h
    refine ⟨_, PSs.nox (pss_cons (ps_set (i := 2) sc_l_mix.nd rfl (Or.inl rfl) (pe_op op_mod (pe_op op_add (pe_call (ok_l_cell T) (by exact hr.mono (by decide)) (by rfl) T.l_cell.g T.l_cell.F.kp T.l_cell.b .nil pass0 (pa_cons (pv 0) (pa_cons (pv 1) pa_nil))) (pe_op op_mul pe_int (pe_op op_add (pv 1) pe_int))) pe_int))
      (pss_cons (ps_set (i := 2) sc_l_mix.nd rfl (Or.inl rfl) (pe_op op_mod (pe_op op_mul (pv 2) pe_int) pe_int))
      (pss_one (ps_ret (pe_op op_mod (pe_op op_add (pe_op op_mul (pe_op op_fdiv (pv 2) pe_int) pe_int) (pv 2)) pe_int))))), ?_⟩
    walk_at "in"
    refine ⟨a, ns, i, rfl, hS, hl, hi, ?_⟩
    walk_at "go"
    exact kq
theorem ok_l_thing (T : Txt K mg D) : FnOk P w K mg base CX0 3 (He.ga K "_law_thing") (D ("_law_thing", none)) ["_law_script", "_law_k"] (spThing K) := by
  refine T.l_thing.F.ok sc_l_thing (fun vs H Q E h => ?_) (fun cdv A outer s H vs Q E hr h => ?_)
  · obtain ⟨a, ns, i, rfl, _⟩ := h
    rfl
  · obtain ⟨a, ns, i, rfl, hS, hl, hi, kq⟩ := h
    refine ⟨_, PSs.nox (pss_cons (ps_set (i := 2) sc_l_thing.nd rfl (Or.inl rfl) (pe_call (ok_l_mix T) (by exact hr.mono (by decide)) (by rfl) T.l_mix.g T.l_mix.F.kp T.l_mix.b .nil pass0 (pa_cons (pv 0) (pa_cons (pv 1) pa_nil))))
      (pss_cons (ps_set (i := 3) sc_l_thing.nd rfl (Or.inl rfl) (pe_lst (pa_cons pe_int (pa_cons pe_int (pa_cons (pe_un un_neg pe_int) (pa_cons pe_int (pa_cons pe_int (pa_cons pe_int (pa_cons (pe_un un_neg pe_int) (pa_cons (pe_op op_sub (pe_op op_mod (pe_op op_fdiv (pv 2) pe_int) pe_int) pe_int) pa_nil))))))))))
      (pss_one (ps_ret (pe_ifExp (pt_cmpR op_gt (pe_op op_mod (pe_op op_fdiv (pv 2) pe_int) pe_int) pe_int (nomark _)) (pe_ix (ix_listK (K := K) rfl) (pv 3) (pe_op op_mod (pv 2) pe_int) (fun _ _ => rfl)) (pe_op op_sub (pe_op op_mod (pe_op op_fdiv (pv 2) pe_int) pe_int) pe_int)))))), ?_⟩
    walk_at "in"
    refine ⟨a, ns, i, rfl, hS, hl, hi, ?_⟩
    walk_at "go"
    refine ⟨Nat.le_of_ble_eq_true rfl, fun q nq => ?_⟩
    walk_at "go"
    refine iteD (fun h0 => ?_) (fun h0 => ?_)
    · walk_at "go"
      have h1 := Int.emod_nonneg (mixF ns i) (b := 8) (by decide)
      have h2 := Int.emod_lt_of_pos (mixF ns i) (b := 8) (by decide)
      have e : thingF ns i = ([0, 1, -1, 2, 5, 999999999999999, -999999999999999, mixF ns i / 8 % 7 - 3] : List Int).getD (mixF ns i % 8).toNat 0 := if_pos h0
      rw [List.getD_eq_getElem?_getD, List.getElem?_eq_getElem (show (mixF ns i % 8).toNat < ([0, 1, -1, 2, 5, 999999999999999, -999999999999999, mixF ns i / 8 % 7 - 3] : List Int).length by show _ < 8; omega)] at e
      refine R_ixL (xs := ([0, 1, -1, 2, 5, 999999999999999, -999999999999999, mixF ns i / 8 % 7 - 3] : List Int).map V.int) (SqL.of upd_same) (at_int (mixF ns i % 8).toNat (by omega) (by show _ < 8; omega)) ?_
      have e := e.symm
      dsimp only [Option.getD_some] at e
      rw [e]
      exact kq _ (same_upd nq (Same.refl _))
    · walk_at "go"
      have e : thingF ns i = mixF ns i / 512 % 100000 - 50000 := if_neg h0
      rw [← e]
      exact kq _ (same_upd nq (Same.refl _))
theorem ok_l_names (T : Txt K mg D) : FnOk P w K mg base CX0 1 (He.ga K "_law_names") (D ("_law_names", none)) [] spNames := by
  refine T.l_names.F.ok sc_l_names (fun vs H Q E h => ?_) (fun cdv A outer s H vs Q E hr h => ?_)
  · obtain ⟨rfl, _⟩ := h
    rfl
  · obtain ⟨rfl, kq⟩ := h
    refine ⟨_, PSs.nox (pss_cons (ps_set (i := 0) sc_l_names.nd rfl (Or.inl rfl) (pe_lst (pa_cons pe_str (pa_cons pe_str (pa_cons pe_str (pa_cons pe_str (pa_cons pe_str (pa_cons pe_str pa_nil))))))))
      (pss_one (ps_ret (pe_op op_cat (pv 0) (pe_lst (pa_cons pe_str (pa_cons pe_str (pa_cons pe_str (pa_cons pe_str (pa_cons pe_str (pa_cons pe_str pa_nil))))))))))), ?_⟩
    walk_at "in"
    refine ⟨Nat.le_of_ble_eq_true rfl, fun p np => ?_⟩
    walk_at "go"
    refine ⟨Nat.le_of_ble_eq_true rfl, fun q nq => ?_⟩
    have hpq : p ≠ q := ne_of_none upd_same nq
    walk_at "go"
    refine R_cat (by walk_at "hp") (by walk_at "hp") (Nat.le_of_ble_eq_true rfl) fun l nl => ?_
    walk_at "go"
    have s2 := same_upd (o := HO.lst [.str "first", .str "last", .str "least", .str "greatest", .str "middle", .str "commonest"]) nq (same_upd np (Same.refl H))
    exact kq l _ (s2.free nl) (same_upd nl s2) upd_same
theorem ok_l_rising (T : Txt K mg D) : FnOk P w K mg base CX0 1 (He.ga K "_law_rising") (D ("_law_rising", none)) ["_law_row"] (spLRising K) := by
  refine T.l_rising.F.ok sc_l_rising (fun vs H Q E h => ?_) (fun cdv A outer s H vs Q E hr h => ?_)
  · obtain ⟨a, ns, rfl, _⟩ := h
    rfl
  · obtain ⟨a, ns, rfl, hS, hl, kq⟩ := h
    refine ⟨_, PSs.nox (pss_cons (ps_set (i := 1) sc_l_rising.nd rfl (Or.inl rfl) pe_int)
      (pss_cons (ps_for PassesOwn.never rfl (pi_range1 (by rfl) T.z_range (pa_cons (pe_callB (call_lenK (K := K) rfl) (by rfl) T.z_len PySem.boot_len (pa_cons (pv 0) pa_nil)) pa_nil)) (pg_name (i := 2) sc_l_rising.nd rfl (Or.inl rfl))
      (pss_cons (ps_set (i := 3) sc_l_rising.nd rfl (Or.inl rfl) (pe_op op_add (pv 2) pe_int))
      (pss_cons (ps_whileQ PassesOwn.never (PW.pt (pw_and (pt_cmpR op_lt (pv 3) (pe_callB (call_lenK (K := K) rfl) (by rfl) T.z_len PySem.boot_len (pa_cons (pv 0) pa_nil)) (nomark _)) (pw_and1 (pt_cmpR op_le (pe_ix (ix_listK (K := K) rfl) (pv 0) (pe_op op_sub (pv 3) pe_int) (fun _ _ => rfl)) (pe_ix (ix_listK (K := K) rfl) (pv 0) (pv 3) (fun _ _ => rfl)) (nomark _)))))
      (pss_one (ps_set (i := 3) sc_l_rising.nd rfl (Or.inl rfl) (pe_op op_add (pv 3) pe_int))))
      (pss_one (ps_set (i := 1) sc_l_rising.nd rfl (Or.inl rfl) (pe_callB (call_max2Q rfl) (by rfl) T.z_max (by decide +kernel) (pa_cons (pv 1) (pa_cons (pe_op op_sub (pv 3) (pv 2)) pa_nil))))))))
      (pss_one (ps_ret (pv 1))))), ?_⟩
    walk_at "in"
    rw [mapint_len]
    refine R_rng1 (by omega) (by omega) ?_
    rw [Int.toNat_natCast]
    refine R_forR (fun i σ' H' => ∃ (best : Nat) (v u : Option V), σ' = [some (.ref a), some (.int best), v, u] ∧ H' = H ∧ LrInv ns i best) ⟨0, none, none, rfl, rfl, LrInv.start ns⟩ ?_ ?_
    · rintro i σ' H' hi ⟨best, v, u, rfl, rfl, inv⟩
      walk_at "go"
      refine S_while (fun m σ' H2 => ∃ (e : Nat), σ' = [some (.ref a), some (.int best), some (.int i), some (.int e)] ∧ H2 = H' ∧ m = ns.length - e ∧ LeInv ns i e) (ns.length - (i + 1)) ⟨i + 1, ?_, rfl, rfl, LeInv.start hi⟩ ?_
      · rw [show (0 : Int) + (i : Int) = (i : Int) by omega, show ((i + 1 : Nat) : Int) = (i : Int) + 1 by omega]
        rfl
      · rintro m σ' H2 ⟨e, rfl, rfl, rfl, le⟩
        obtain ⟨b1, b2, b3⟩ := id le
        have fin : (∀ he : e < ns.length, ¬ ns[e - 1]'(by omega) ≤ ns[e]) → LrInv ns (i + 1) (max best (e - i)) := fun hs => by
          have := inv.next hi
          rw [le.done (by omega) hs]
          exact this
        have emax := if_max best e i (by omega)
        walk_at "go"
        rw [mapint_len]
        refine iteD (fun hlt => ?_) (fun hge => ?_)
        · walk_at "go"
          refine R_ixL (by walk_at "sq") (at_int (e - 1) (by omega) (by omega)) ?_
          walk_at "go"
          refine R_ixL (by walk_at "sq") (at_int e rfl (by omega)) ?_
          walk_at "go"
          refine iteD (fun hle => ?_) (fun hle => ?_)
          · walk_at "go"
            refine ⟨ns.length - (e + 1), by omega, e + 1, rfl, rfl, rfl, le.next (by omega) (by omega) hle⟩
          · walk_at "go"
            rw [emax]
            exact ⟨_, _, _, rfl, rfl, fin fun _ => hle⟩
        · refine iteF ?_
          walk_at "go"
          rw [emax]
          exact ⟨_, _, _, rfl, rfl, fin fun he => absurd (show (e : Int) < (ns.length : Int) by omega) hge⟩
    · rintro σ' H' ⟨best, v, u, rfl, rfl, inv⟩
      walk_at "go"
      rw [inv.done]
      exact kq
theorem ok_l_is (T : Txt K mg D) : FnOk P w K mg base CX0 1 (He.ga K "_law_is") (D ("_law_is", none)) ["_law_found", "_law_due"] spIs := by
  refine T.l_is.F.ok sc_l_is (fun vs H Q E h => ?_) (fun cdv A outer s H vs Q E hr h => ?_)
  · obtain ⟨x, rfl, _⟩ := h
    rfl
  · obtain ⟨x, rfl, hx, kq⟩ := h
    refine ⟨_, PSs.nox (pss_one (ps_ret (pe_and (pe_not (pe_callB (call_isiK (K := K) rfl) (by rfl) T.z_isinstance (by decide +kernel) (pa_cons (pv 0) (pa_cons (pe_bltn (v := .ty "bool") (by rfl) T.z_bool (by decide +kernel) rfl) pa_nil)))) (pe_one (pe_cmpR op_eq (pv 0) (pv 1) (nomark _)))))), ?_⟩
    walk_at "in"
    rcases hx with rfl | ⟨i, rfl⟩
    · refine ⟨_, _, .type "NoneType", .type "bool", false, rfl, .ty "bool", .base .non, kit_ty (by decide +kernel), ?_⟩
      walk_at "go"
      refine iteBT rfl ?_
      walk_at "go"
      rw [decide_eq_true rfl]
      exact kq
    · refine ⟨_, _, .type "int", .type "bool", false, rfl, .ty "bool", .base (.int i), kit_ty (by decide +kernel), ?_⟩
      walk_at "go"
      refine iteBT rfl ?_
      walk_at "go"
      rw [decide_eq_true rfl]
      exact kq
end
end LF

set_option maxRecDepth 100000
set_option maxHeartbeats 4000000
namespace LF
open PySem PySem.Spec PyProof.Rows L2


/-! ### a kept thing of any of the four kinds -/
inductive KS where
  | win (n : Nat) (row : List Int)
  | tim (n : Nat) (now : Int) (ps : List (Int × Int))
  | map (n : Nat) (row : List (Int × Int))
  | grp (n mo : Nat) (rows : List (Int × List Int))
def KS.way : KS → Int
  | .win .. => 0
  | .tim .. => 1
  | .map .. => 2
  | .grp .. => 3
def KS.saved : KS → List Int
  | .win n row => [1, (n : Int)] ++ row
  | .tim n now ps => [2, (n : Int), now] ++ ps.map (·.1) ++ ps.map (·.2)
  | .map n row => [3, (n : Int)] ++ row.flatMap fun p => [p.1, p.2]
  | .grp n mo rows => [4, (n : Int), (mo : Int)] ++ rows.flatMap fun p => [p.1, (p.2.length : Int)] ++ p.2
def KS.ok : KS → Prop
  | .win n row => 1 ≤ n ∧ n ≤ 9 ∧ row.length ≤ n
  | .tim n now ps => 1 ≤ n ∧ n ≤ 9 ∧ 0 ≤ now ∧ ps.Pairwise (fun p q => p.1 ≤ q.1) ∧ (∀ p ∈ ps, 0 ≤ p.1 ∧ now - n < p.1 ∧ p.1 ≤ now) ∧ ps.length ≤ 200
  | .map n row => 1 ≤ n ∧ n ≤ 9 ∧ row.length ≤ n ∧ ∀ p ∈ row, InR p
  | .grp n mo rows => 1 ≤ n ∧ n ≤ 9 ∧ 1 ≤ mo ∧ mo ≤ 4 ∧ rows.length ≤ mo ∧ (rows.map (·.1)).Nodup ∧ ∀ p ∈ rows, p.2 ≠ [] ∧ p.2.length ≤ n
def KAt (K : PySem.W.Frag) (H : Hp) (x : Addr) (own : List Addr) (c : Nat) : KS → Prop
  | .win n row => ∃ t r k o, WAt K H x t r k o n row ∧ own = [x, t, r, k, o]
  | .tim n now ps => ∃ tm t r k o, ZAt K H x tm t r k o n now ps ∧ own = [x, tm, t, r, k, o]
  | .map n row => ∃ oa na, MAt K H x oa na n row ∧ own = [x, oa, na]
  | .grp n mo rows => ∃ oa wa es, GAt K H x oa wa n mo c es ∧ es.map GE.abs = rows ∧ own = x :: oa :: wa :: es.flatMap GE.fp
section
variable {K : PySem.W.Frag} {H H' : Hp} {x : Addr} {own : List Addr} {c : Nat} {S : KS}
theorem KAt.ex (A : KAt K H x own c S) (s : Same H H') : KAt K H' x own c S := by
  cases S with
  | win n row =>
    obtain ⟨t, r, k, o, W, e⟩ := A
    exact ⟨t, r, k, o, W.ex s, e⟩
  | tim n now ps =>
    obtain ⟨tm, t, r, k, o, W, e⟩ := A
    exact ⟨tm, t, r, k, o, W.ex s, e⟩
  | map n row =>
    obtain ⟨oa, na, W, e⟩ := A
    exact ⟨oa, na, W.ex s, e⟩
  | grp n mo rows =>
    obtain ⟨oa, wa, es, G, e1, e2⟩ := A
    exact ⟨oa, wa, es, GAtK.ex G s, e1, e2⟩
theorem MAt.addrs {K : PySem.W.Frag} {H : Hp} {m oa na : Addr} {n : Nat} {row : List (Int × Int)} (S : MAt K H m oa na n row) : (∃ la dx, H m = some (.ins (He.ga K "Maps") dx (mfl n oa na la))) ∧ (∃ xs, H oa = some (.lst xs)) ∧ ∃ xs, H na = some (.lst xs) := by
  obtain ⟨la, qs, ns, l, ⟨⟨dx, h1⟩, h2, _, ⟨rs, r1, _⟩, _⟩, _⟩ := S
  exact ⟨⟨la, dx, h1⟩, ⟨_, h2⟩, ⟨_, r1⟩⟩
theorem isiX {C D : Str} {p dx : Addr} {fs : List (Str × V)} {Q : VK} (hx : xtra K = true) (cl : Cls K (He.ga K C)) (h : H p = some (.ins (He.ga K C) dx fs)) (hC : C ∈ clsN) (hD : D ∈ clsN) (q : Q (.bl (decide (C = D))) H) : rIsi K [.ref p, .ref (He.ga K D)] H Q := by
  obtain ⟨h1, h2⟩ := He.ba hx
  obtain ⟨h3, h4⟩ := He.ba h2
  obtain ⟨g1, g2⟩ := He.ba (List.all_eq_true.mp h1 C hC)
  obtain ⟨g3, g4⟩ := He.ba g2
  exact ⟨_, _, _, _, _, rfl, .own _, .base (.ins h cl (He.eqO_ok g1) (He.eqO_ok h3) (of_decide_eq_true h4) (of_decide_eq_true g3)), of_decide_eq_true (List.all_eq_true.mp g4 D hD), q⟩
end
def spSaved (K : PySem.W.Frag) : Sp := fun vs H Q _ => ∃ (x : Addr) (own : List Addr) (c : Nat) (S : KS), vs = [.ref x] ∧ KAt K H x own c S ∧ S.ok ∧ ∀ l H', H l = none → Same H H' → H' l = some (.lst (S.saved.map V.int)) → Q (.ref l) H'
section
variable {P : Program} {w : World} {K : PySem.W.Frag} {mg : Str → Option Value} {base : Heap} {D : Str × Option Str → FuncData}
theorem ok_saved (T : Txt K mg D) : FnOk P w K mg base CX0 3 (He.ga K "saved") (D ("saved", none)) ["kept"] (spSaved K) := by
  refine T.saved.F.ok sc_saved (fun vs H Q E h => ?_) (fun cdv A outer s H vs Q E hr h => ?_)
  · obtain ⟨x, own, c, S, rfl, _⟩ := h
    rfl
  · obtain ⟨x, own, c, S, rfl, A, ok, kq⟩ := h
    have fcWindow := T.cWindow.cl; have fnWindowsize := T.n_Window_size; have fnWindowtally := T.n_Window_tally; have fcTimed := T.cTimed.cl; have fnTimedspan := T.n_Timed_span; have fnTimednow := T.n_Timed_now; have fnTimedtimes := T.n_Timed_times; have fnTimedtally := T.n_Timed_tally; have fcMaps := T.cMaps.cl; have fnMapssize := T.n_Maps_size; have fnMapsold := T.n_Maps_old; have fnMapsnew := T.n_Maps_new; have fnMapslast := T.n_Maps_last; have fcGroups := T.cGroups.cl; have fnGroupssize := T.n_Groups_size; have fnGroupsmost := T.n_Groups_most; have fnGroupsorder := T.n_Groups_order; have fnGroupswindows := T.n_Groups_windows
    have hx := T.x
    refine ⟨_, PSs.nox (pss_cons (ps_if (pt_val (pe_callB (call_isiK (K := K) rfl) (by rfl) T.z_isinstance (by decide +kernel) (pa_cons (pv 0) (pa_cons (pe_glob (v := .ref (He.ga K "Window")) (by rfl) T.cWindow.g rfl) pa_nil)))) (pss_one (ps_ret (pe_op op_cat (pe_lst (pa_cons pe_int (pa_cons (pe_fldK (K := K) rfl (pv 0) rfl) pa_nil))) (pe_meth0 (pv 0) T.cWindow.cl T.Window_things.me (ok_Window_things T) (by exact hr.mono (by decide)) T.Window_things.b .nil pass0)))) pss_nil)
      (pss_cons (ps_if (pt_val (pe_callB (call_isiK (K := K) rfl) (by rfl) T.z_isinstance (by decide +kernel) (pa_cons (pv 0) (pa_cons (pe_glob (v := .ref (He.ga K "Timed")) (by rfl) T.cTimed.g rfl) pa_nil)))) (pss_one (ps_ret (pe_op op_cat (pe_op op_cat (pe_lst (pa_cons pe_int (pa_cons (pe_fldK (K := K) rfl (pv 0) rfl) (pa_cons (pe_fldK (K := K) rfl (pv 0) rfl) pa_nil)))) (pe_fldK (K := K) rfl (pv 0) rfl)) (pe_meth0 (pv 0) T.cTimed.cl T.Timed_things.me (ok_Timed_things T) (by exact hr.mono (by decide)) T.Timed_things.b .nil pass0)))) pss_nil)
      (pss_cons (ps_set (i := 1) sc_saved.nd rfl (Or.inl rfl) (pe_lst pa_nil))
      (pss_cons (ps_if (pt_val (pe_callB (call_isiK (K := K) rfl) (by rfl) T.z_isinstance (by decide +kernel) (pa_cons (pv 0) (pa_cons (pe_glob (v := .ref (He.ga K "Maps")) (by rfl) T.cMaps.g rfl) pa_nil)))) (pss_cons (ps_for PassesOwn.never rfl (pi_listK (K := K) rfl (pe_meth0 (pv 0) T.cMaps.cl T.Maps_maps.me (ok_Maps_maps T) (by exact hr.mono (by decide)) T.Maps_maps.b .nil pass0)) (pg_name (i := 2) sc_saved.nd rfl (Or.inl rfl))
      (pss_one (ps_expr (pe_bmK (K := K) rfl PySem.F.plainAttrs_list PySem.F.slot_list_extend PySem.F.type_list_extend (mt_extTK (K := K) rfl) (pv 1) (pa_cons (pv 2) pa_nil)))))
      (pss_one (ps_ret (pe_op op_cat (pe_lst (pa_cons pe_int (pa_cons (pe_fldK (K := K) rfl (pv 0) rfl) pa_nil))) (pv 1))))) pss_nil)
      (pss_cons (ps_for PassesOwn.never rfl (pi_listK (K := K) rfl (pe_meth0 (pv 0) T.cGroups.cl T.Groups_used.me (ok_Groups_used T) (by exact hr.mono (by decide)) T.Groups_used.b .nil pass0)) (pg_name (i := 3) sc_saved.nd rfl (Or.inl rfl))
      (pss_cons (ps_set (i := 4) sc_saved.nd rfl (Or.inl rfl) (pe_meth (pv 0) T.cGroups.cl T.Groups_things.me (ok_Groups_things T) (by exact hr.mono (by decide)) T.Groups_things.b .nil pass0 (pa_cons (pv 3) pa_nil)))
      (pss_one (ps_set (i := 1) sc_saved.nd rfl (Or.inl rfl) (pe_op op_cat (pe_op op_cat (pv 1) (pe_lst (pa_cons (pv 3) (pa_cons (pe_callB (call_lenK (K := K) rfl) (by rfl) T.z_len PySem.boot_len (pa_cons (pv 4) pa_nil)) pa_nil)))) (pv 4))))))
      (pss_one (ps_ret (pe_op op_cat (pe_lst (pa_cons pe_int (pa_cons (pe_fldK (K := K) rfl (pv 0) rfl) (pa_cons (pe_fldK (K := K) rfl (pv 0) rfl) pa_nil)))) (pv 1))))))))), ?_⟩
    walk_at "in"
    cases S with
    | win n row =>
      obtain ⟨n1, n2, hle⟩ := ok
      obtain ⟨t, r, k, o, W, _⟩ := A
      obtain ⟨⟨dx, h1⟩, _⟩ := id W
      refine isiX (C := "Window") hx fcWindow h1 (by decide +kernel) (by decide +kernel) ?_
      walk_at "go"
      refine iteBT (by decide +kernel) ?_
      walk_at "go"
      refine ⟨Nat.le_of_ble_eq_true rfl, fun q nq => ?_⟩
      have s1 := same_upd (o := HO.lst [V.int 1, V.int n]) nq (Same.refl H)
      have h1' := s1 _ _ h1
      walk_at "go"
      refine ⟨x, t, r, k, o, n, row, rfl, W.ex s1, fun l H2 nl s2 hl => ?_⟩
      walk_at "go"
      refine R_cat (s2 _ _ upd_same) hl (Nat.le_trans (m := 100000) (by rw [List.length_map]; show 2 + row.length ≤ _; omega) (by decide)) fun p np => ?_
      walk_at "go"
      have s3 := (s1.trans s2).trans (same_upd (o := HO.lst ([V.int 1, V.int n] ++ row.map V.int)) np (Same.refl H2))
      exact kq p _ ((s1.trans s2).free np) s3 upd_same
    | tim n now ps =>
      obtain ⟨n1, n2, hnow, _, _, hlen⟩ := ok
      obtain ⟨tm, t, r, k, o, W, _⟩ := A
      obtain ⟨⟨dx, h1⟩, h2, _⟩ := id W
      refine isiX (C := "Timed") hx fcTimed h1 (by decide +kernel) (by decide +kernel) ?_
      walk_at "go"
      refine iteBF (by decide +kernel) ?_
      walk_at "go"
      refine isiX (C := "Timed") hx fcTimed h1 (by decide +kernel) (by decide +kernel) ?_
      walk_at "go"
      refine iteBT (by decide +kernel) ?_
      walk_at "go"
      refine ⟨Nat.le_of_ble_eq_true rfl, fun q nq => ?_⟩
      have s1 := same_upd (o := HO.lst [V.int 2, V.int n, V.int now]) nq (Same.refl H)
      have h1' := s1 _ _ h1
      have h2' := s1 _ _ h2
      walk_at "go"
      refine R_cat upd_same h2' (Nat.le_trans (m := 100000) (by rw [List.length_map, List.length_map]; show 3 + ps.length ≤ _; omega) (by decide)) fun p np => ?_
      have s2 := s1.trans (same_upd (o := HO.lst ([V.int 2, V.int n, V.int now] ++ (ps.map (·.1)).map V.int)) np (Same.refl _))
      have h1'' := s2 _ _ h1
      walk_at "go"
      refine ⟨x, tm, t, r, k, o, n, now, ps, rfl, W.ex s2, fun l H2 nl s3 hl => ?_⟩
      walk_at "go"
      refine R_cat (s3 _ _ upd_same) hl (Nat.le_trans (m := 100000) (by rw [List.length_append, List.length_map, List.length_map, List.length_map, List.length_map]; show 3 + ps.length + ps.length ≤ _; omega) (by decide)) fun p2 np2 => ?_
      walk_at "go"
      have s4 := (s2.trans s3).trans (same_upd (o := HO.lst (([V.int 2, V.int n, V.int now] ++ (ps.map (·.1)).map V.int) ++ (ps.map (·.2)).map V.int)) np2 (Same.refl H2))
      refine kq p2 _ ((s2.trans s3).free np2) s4 ?_
      rw [upd_same]
      show _ = some (HO.lst ((([2, (n : Int), now] ++ ps.map (·.1)) ++ ps.map (·.2)).map V.int))
      rw [List.map_append, List.map_append]
      rfl
    | map n row =>
      obtain ⟨n1, n2, hle, hin⟩ := ok
      obtain ⟨oa, na, W, _⟩ := A
      obtain ⟨⟨la0, dx, h1⟩, _, _⟩ := W.addrs
      refine isiX (C := "Maps") hx fcMaps h1 (by decide +kernel) (by decide +kernel) ?_
      walk_at "go"
      refine iteBF (by decide +kernel) ?_
      walk_at "go"
      refine isiX (C := "Maps") hx fcMaps h1 (by decide +kernel) (by decide +kernel) ?_
      walk_at "go"
      refine iteBF (by decide +kernel) ?_
      walk_at "go"
      refine ⟨Nat.zero_le _, fun f nf => ?_⟩
      have s1 := same_upd (o := HO.lst []) nf (Same.refl H)
      have h1' := s1 _ _ h1
      have hxf : x ≠ f := ne_of_none h1 nf
      walk_at "go"
      refine isiX (C := "Maps") hx fcMaps h1' (by decide +kernel) (by decide +kernel) ?_
      walk_at "go"
      refine iteBT (by decide +kernel) ?_
      walk_at "go"
      refine ⟨x, oa, na, n, row, rfl, W.ex s1, fun l H2 nl s2 R2 => ?_⟩
      obtain ⟨qs, r1, r2, rfl⟩ := R2
      have hfl : f ≠ l := ne_of_none upd_same nl
      rw [List.length_map] at hle
      walk_at "go"
      refine R_forL (xs := qs.map fun q => V.ref q.1) (fun i σ' H' => ∃ v2 : Option V, σ' = [some (.ref x), some (.ref f), v2, none, none] ∧ H' f = some (.lst ((((qs.map (·.2)).take i).flatMap fun p => [p.1, p.2]).map V.int)) ∧ (∀ b u, H2 b = some u → b ≠ f → H' b = some u) ∧ (((qs.map (·.2)).take i).flatMap fun p => [p.1, p.2]).length = 2 * ((qs.map (·.2)).take i).length)
        ⟨none, rfl, s2 _ _ upd_same, fun b u e _ => e, rfl⟩ ?_ ?_ ?_
      · rintro i σ' H' _ ⟨v2, _, _, kp, _⟩
        exact SqL.of (kp _ _ r1 hfl.symm)
      · rintro i y σ' H' hy ⟨v2, rfl, hf, kp, hlen⟩
        rw [List.getElem?_map] at hy
        cases e : qs[i]? with
        | none => rw [e] at hy; cases hy
        | some q =>
          rw [e] at hy
          have ey := Option.some.inj hy
          subst ey
          have hq := List.mem_of_getElem? e
          have tq := kp _ _ (r2 q hq) (ne_of (r2 q hq) (s2 _ _ upd_same) (by intro z; cases z))
          have ht : (qs.map (·.2)).take (i + 1) = (qs.map (·.2)).take i ++ [q.2] := by
            rw [List.take_add_one, List.getElem?_map, e]
            rfl
          have hi : ((qs.map (·.2)).take i).length ≤ 9 := by rw [List.length_take, List.length_map]; omega
          walk_at "go"
          refine ⟨f, q.1, _, _, rfl, rfl, hf, SqT.of tq, Nat.le_trans (m := 100000) (by rw [List.length_map, hlen]; show _ + 2 ≤ _; omega) (by decide), ?_⟩
          walk_at "go"
          refine ⟨_, rfl, ?_, fun b u eb hb => ?_, ?_⟩
          · rw [upd_same, ht, List.flatMap_append, List.map_append]
            rfl
          · rw [upd_ne hb]
            exact kp b u eb hb
          · rw [ht, List.flatMap_append, List.length_append, List.length_append, hlen]
            show _ + 2 = 2 * (_ + 1)
            omega
      · rintro σ' H' ⟨v2, rfl, hf, kp, hlen⟩
        rw [List.length_map, List.take_of_length_le (by rw [List.length_map]; exact Nat.le_refl _)] at hf hlen
        have hx' := kp _ _ (s2 _ _ h1') hxf
        walk_at "go"
        refine ⟨Nat.le_of_ble_eq_true rfl, fun q nq => ?_⟩
        have hfq : f ≠ q := ne_of_none hf nq
        walk_at "go"
        refine R_cat upd_same (by walk_at "hp") (Nat.le_trans (m := 100000) (by rw [List.length_map, hlen, List.length_map]; show 2 + 2 * qs.length ≤ _; omega) (by decide)) fun p np => ?_
        have sE : Same H H' := fun b u e => kp b u (s2 _ _ (s1 b u e)) (ne_of_none e nf)
        have s3 := sE.trans (same_upd (o := HO.lst [V.int 3, V.int n]) nq (Same.refl H'))
        walk_at "go"
        refine kq p _ (s3.free np) (s3.trans (same_upd (o := HO.lst ([V.int 3, V.int n] ++ (((qs.map (·.2)).flatMap fun p => [p.1, p.2]).map V.int))) np (Same.refl _))) ?_
        rw [upd_same]
        show _ = some (HO.lst (([3, (n : Int)] ++ (qs.map (·.2)).flatMap fun p => [p.1, p.2]).map V.int))
        rw [List.map_append]
        rfl
    | grp n mo rows =>
      obtain ⟨n1, n2, m1, m2, hle, hnd, hrow⟩ := ok
      obtain ⟨oa, wa, es, G, hab, _⟩ := A
      obtain ⟨⟨dx, h1⟩, _⟩ := id G
      refine isiX (C := "Groups") hx fcGroups h1 (by decide +kernel) (by decide +kernel) ?_
      walk_at "go"
      refine iteBF (by decide +kernel) ?_
      walk_at "go"
      refine isiX (C := "Groups") hx fcGroups h1 (by decide +kernel) (by decide +kernel) ?_
      walk_at "go"
      refine iteBF (by decide +kernel) ?_
      walk_at "go"
      refine ⟨Nat.zero_le _, fun f nf => ?_⟩
      have s1 := same_upd (o := HO.lst []) nf (Same.refl H)
      have h1' := s1 _ _ h1
      walk_at "go"
      refine isiX (C := "Groups") hx fcGroups h1' (by decide +kernel) (by decide +kernel) ?_
      walk_at "go"
      refine iteBF (by decide +kernel) ?_
      walk_at "go"
      refine ⟨x, oa, wa, n, mo, c, es, rfl, GAtK.ex G s1, fun l H2 nl s2 hl => ?_⟩
      have s12 := s1.trans s2
      walk_at "go"
      have hfm : ∀ rs : List (Int × List Int), (∀ p ∈ rs, p.2.length ≤ 9) → (rs.flatMap fun p => [p.1, (p.2.length : Int)] ++ p.2).length ≤ 11 * rs.length := by
        intro rs
        induction rs with
        | nil => intro _; exact Nat.le_refl _
        | cons p r ih =>
          intro hp
          have q1 := ih fun q hq => hp q (List.mem_cons_of_mem _ hq)
          have q2 := hp p List.mem_cons_self
          rw [List.flatMap_cons]
          simp only [List.length_append, List.length_cons, List.length_nil]
          omega
      have hr9 : ∀ p ∈ rows, p.2.length ≤ 9 := fun p hp => Nat.le_trans (hrow p hp).2 n2
      refine R_forL (xs := (es.map (·.key)).map V.int) (fun i σ' H' => ∃ (f : Addr) (v3 v4 : Option V), σ' = [some (.ref x), some (.ref f), none, v3, v4] ∧ H' f = some (.lst (((rows.take i).flatMap fun p => [p.1, (p.2.length : Int)] ++ p.2).map V.int)) ∧ Same H2 H')
        ⟨f, none, none, rfl, s2 _ _ upd_same, Same.refl _⟩ ?_ ?_ ?_
      · rintro i σ' H' _ ⟨f, v3, v4, _, _, sm⟩
        exact sm.seq (SqL.of hl)
      · rintro i y σ' H' hy ⟨f, v3, v4, rfl, hf, sm⟩
        rw [List.getElem?_map, List.getElem?_map] at hy
        cases e : es[i]? with
        | none => rw [e] at hy; cases hy
        | some q =>
          rw [e] at hy
          have ey := Option.some.inj hy
          subst ey
          have hq := List.mem_of_getElem? e
          have er : rows[i]? = some (q.key, q.row) := by
            rw [← hab, List.getElem?_map, e]
            rfl
          have hqm : (q.key, q.row) ∈ rows := List.mem_of_getElem? er
          have ht : rows.take (i + 1) = rows.take i ++ [(q.key, q.row)] := by
            rw [List.take_add_one, er]
            rfl
          have hb := hfm (rows.take i) fun p hp => hr9 p (List.mem_of_mem_take hp)
          rw [List.length_take] at hb
          have hq9 : q.row.length ≤ 9 := hr9 _ hqm
          have hx' := sm _ _ (s12 _ _ h1)
          walk_at "go"
          refine ⟨x, oa, wa, n, mo, c, es, q, rfl, GAtK.ex G (s12.trans sm), hq, fun lr H3 nlr s3 hlr => ?_⟩
          have hf3 := s3 _ _ hf
          walk_at "go"
          refine ⟨Nat.le_of_ble_eq_true rfl, fun q1 nq1 => ?_⟩
          have hfq : f ≠ q1 := ne_of_none hf3 nq1
          have s4 := same_upd (o := HO.lst [V.int q.key, V.int ((q.row.map V.int).length : Nat)]) nq1 (Same.refl H3)
          walk_at "go"
          refine R_cat (by walk_at "hp") upd_same (Nat.le_trans (m := 100000) (by rw [List.length_map]; show _ + 2 ≤ _; omega) (by decide)) fun q2 nq2 => ?_
          have hlr4 := s4 _ _ hlr
          have hlq : lr ≠ q2 := ne_of_none hlr4 nq2
          walk_at "go"
          refine R_cat upd_same (by rw [upd_ne hlq]; exact hlr4) (Nat.le_trans (m := 100000) (by rw [List.length_append, List.length_map, List.length_map]; show _ + 2 + _ ≤ _; omega) (by decide)) fun q3 nq3 => ?_
          walk_at "go"
          refine ⟨q3, _, _, rfl, ?_, sm.trans (s3.trans (s4.trans ((same_upd nq2 (Same.refl _)).trans (same_upd nq3 (Same.refl _)))))⟩
          rw [upd_same, ht, List.flatMap_append, List.map_append, List.flatMap_singleton, List.map_append, List.length_map, List.append_assoc]
          rfl
      · rintro σ' H' ⟨f, v3, v4, rfl, hf, sm⟩
        rw [List.length_map, List.length_map, ← show rows.length = es.length by rw [← hab, List.length_map], List.take_length] at hf
        have hb := hfm rows hr9
        have hx' := sm _ _ (s12 _ _ h1)
        walk_at "go"
        refine ⟨Nat.le_of_ble_eq_true rfl, fun q nq => ?_⟩
        have hfq : f ≠ q := ne_of_none hf nq
        walk_at "go"
        refine R_cat upd_same (by walk_at "hp") (Nat.le_trans (m := 100000) (by rw [List.length_map]; show 3 + _ ≤ _; omega) (by decide)) fun p np => ?_
        have s3 := (s12.trans sm).trans (same_upd (o := HO.lst [V.int 4, V.int n, V.int mo]) nq (Same.refl H'))
        walk_at "go"
        refine kq p _ (s3.free np) (s3.trans (same_upd np (Same.refl _))) ?_
        rw [upd_same]
        show _ = some (HO.lst (([4, (n : Int), (mo : Int)] ++ rows.flatMap fun p => [p.1, (p.2.length : Int)] ++ p.2).map V.int))
        rw [List.map_append]
        rfl
end
end LF

set_option maxRecDepth 100000
set_option maxHeartbeats 4000000
namespace LF
open PySem PySem.Spec PyProof.Rows L2


/-! ### woken -/
theorem at_get {ns : List Int} {z v : Int} (j : Nat) (e : z = (j : Int)) (h : ns[j]? = some v) : atI (ns.map V.int) z = some (.int v) := at_of e (by rw [List.getElem?_map, h]; rfl)
theorem dropWhile_id {α : Type} {f : α → Bool} {l : List α} (h : ∀ q ∈ l, f q = false) : l.dropWhile f = l := by
  cases l with
  | nil => rfl
  | cons x r => rw [List.dropWhile_cons, if_neg (by rw [h x List.mem_cons_self]; exact Bool.false_ne_true)]
theorem pairs_at : ∀ (row : List (Int × Int)) (k : Nat) (p : Int × Int), row[k]? = some p → (row.flatMap fun p => [p.1, p.2])[2 * k]? = some p.1 ∧ (row.flatMap fun p => [p.1, p.2])[2 * k + 1]? = some p.2
  | [], _, _, h => by cases h
  | q :: r, 0, p, h => by
    cases h
    exact ⟨rfl, rfl⟩
  | q :: r, k + 1, p, h => by
    have ih := pairs_at r k p h
    have e1 : 2 * (k + 1) = 2 * k + 1 + 1 := by omega
    rw [e1]
    exact ih
theorem pairs_len (row : List (Int × Int)) : (row.flatMap fun p => [p.1, p.2]).length = 2 * row.length := by
  induction row with
  | nil => rfl
  | cons p r ih =>
    rw [List.flatMap_cons, List.length_append, ih]
    simp only [List.length_cons, List.length_nil]
    omega
theorem take_succ_of {α : Type} {l : List α} {i : Nat} {p : α} (h : l[i]? = some p) : l.take (i + 1) = l.take i ++ [p] := by
  rw [List.take_add_one, h]
  rfl
def flat (rows : List (Int × List Int)) : List Int := rows.flatMap fun p => [p.1, (p.2.length : Int)] ++ p.2
theorem cut_mid (xs : List V) (a b : Nat) (hb : b ≤ xs.length) (ha : a ≤ b) : cutV xs (some (a : Int)) (some (b : Int)) = (xs.drop a).take (b - a) := by
  unfold cutV
  rw [HT.sIx_nat, HT.sIx_nat, Nat.min_eq_left hb, Nat.min_eq_left (Nat.le_trans ha hb)]
theorem look_none {rows : List (Int × List Int)} {key : Int} (h : key ∉ rows.map (·.1)) : look rows key = [] := by
  unfold look
  rw [List.find?_eq_none.mpr]
  · rfl
  · intro p hp hq
    exact h (List.mem_map.mpr ⟨p, hp, of_decide_eq_true hq⟩)
theorem gput_new {n mo : Nat} {rows : List (Int × List Int)} {key x : Int} (hk : key ∉ rows.map (·.1)) (hl : rows.length < mo) (n1 : 1 ≤ n) : gput n mo rows key x = rows ++ [(key, [x])] := by
  unfold gput gkept
  rw [if_neg hk, if_neg (by omega), look_none hk]
  unfold wput
  rw [if_neg (by rw [List.length_nil]; omega)]
  rfl
theorem gput_last {n mo : Nat} {A : List (Int × List Int)} {key x : Int} {row : List Int} (hk : key ∉ A.map (·.1)) (hl : row.length < n) : gput n mo (A ++ [(key, row)]) key x = A ++ [(key, row ++ [x])] := by
  have hA : ∀ p ∈ A, ¬ decide (p.1 = key) = true := fun p hp hq => hk (List.mem_map.mpr ⟨p, hp, of_decide_eq_true hq⟩)
  have el : look (A ++ [(key, row)]) key = row := by
    unfold look
    rw [List.find?_append, List.find?_eq_none.mpr hA, List.find?_cons_of_pos (by exact decide_eq_true rfl)]
    rfl
  unfold gput gkept
  rw [if_pos (by rw [List.map_append]; exact List.mem_append_right _ List.mem_cons_self), el, List.filter_append, List.filter_eq_self.mpr, List.filter_cons_of_neg (by intro q; exact (of_decide_eq_true q) rfl), List.filter_nil, List.append_nil]
  · unfold wput
    rw [if_neg (by omega)]
  · intro p hp
    exact decide_eq_true fun q => hA p hp (decide_eq_true q)
def spWokenT (K : PySem.W.Frag) : Sp := fun vs H Q _ => ∃ (n : Nat) (now : Int) (ps : List (Int × Int)) (l : Addr), vs = [.int n, .int now, .ref l] ∧ SqL K H l ((ps.map (·.1) ++ ps.map (·.2)).map V.int) ∧ (KS.tim n now ps).ok ∧
  ∀ x own H', (∀ b ∈ own, H b = none) → Same H H' → KAt K H' x own 200 (.tim n now ps) → Q (.ref x) H'
def spWokenG (K : PySem.W.Frag) : Sp := fun vs H Q _ => ∃ (n mo : Nat) (rows : List (Int × List Int)) (l : Addr), vs = [.int n, .int mo, .ref l] ∧ SqL K H l ((rows.flatMap fun p => [p.1, (p.2.length : Int)] ++ p.2).map V.int) ∧ (KS.grp n mo rows).ok ∧
  ∀ x own H', (∀ b ∈ own, H b = none) → Same H H' → KAt K H' x own 200 (.grp n mo rows) → Q (.ref x) H'
def spWoken (K : PySem.W.Frag) : Sp := fun vs H Q _ => ∃ (S : KS) (l : Addr), vs = [.ref l] ∧ SqL K H l (S.saved.map V.int) ∧ S.ok ∧
  ∀ x own H', (∀ b ∈ own, H b = none) → Same H H' → KAt K H' x own 200 S → Q (.ref x) H'
section
variable {P : Program} {w : World} {K : PySem.W.Frag} {mg : Str → Option Value} {base : Heap} {D : Str × Option Str → FuncData}
theorem ok_woken_timed (T : Txt K mg D) : FnOk P w K mg base CX0 5 (He.ga K "woken_timed") (D ("woken_timed", none)) ["span", "now", "rest"] (spWokenT K) := by
  refine T.woken_timed.F.ok sc_woken_timed (fun vs H Q E h => ?_) (fun cdv A outer s H vs Q E hr h => ?_)
  · obtain ⟨n, now, ps, l, rfl, _⟩ := h
    rfl
  · obtain ⟨n, now, ps, l, rfl, hS, ⟨n1, n2, hnow, hsort, hall, hlen⟩, kq⟩ := h
    refine ⟨_, PSs.nox (pss_cons (ps_set (i := 3) sc_woken_timed.nd rfl (Or.inl rfl) (pe_make T.cTimed.mkr (ok_Timed_init T) (by exact hr.mono (by decide)) (by rfl) T.cTimed.g T.Timed_init.b .nil pass0 (pa_cons (pv 0) pa_nil)))
      (pss_cons (ps_set (i := 4) sc_woken_timed.nd rfl (Or.inl rfl) (pe_op op_fdiv (pe_callB (call_lenK (K := K) rfl) (by rfl) T.z_len PySem.boot_len (pa_cons (pv 2) pa_nil)) pe_int))
      (pss_cons (ps_for PassesOwn.never rfl (pi_range1 (by rfl) T.z_range (pa_cons (pv 4) pa_nil)) (pg_name (i := 5) sc_woken_timed.nd rfl (Or.inl rfl))
      (pss_one (ps_expr (pe_meth (pv 3) T.cTimed.cl T.Timed_put.me (ok_Timed_put T) (by exact hr.mono (by decide)) T.Timed_put.b .nil pass0 (pa_cons (pe_ix (ix_listK (K := K) rfl) (pv 2) (pv 5) (fun _ _ => rfl)) (pa_cons (pe_ix (ix_listK (K := K) rfl) (pv 2) (pe_op op_add (pv 4) (pv 5)) (fun _ _ => rfl)) pa_nil))))))
      (pss_cons (ps_expr (pe_meth (pv 3) T.cTimed.cl T.Timed_go_on.me (ok_Timed_go_on T) (by exact hr.mono (by decide)) T.Timed_go_on.b .nil pass0 (pa_cons (pv 1) pa_nil)))
      (pss_one (ps_ret (pv 3))))))), ?_⟩
    walk_at "in"
    intro zi dx nzi ndx ne
    have sB : Same H (upd (upd H dx (.own zi)) zi (.ins (He.ga K "Timed") dx [])) := fun b u e => by
      rw [upd_ne (ne_of_none e nzi), upd_ne (ne_of_none e ndx)]
      exact e
    refine ⟨zi, dx, n, rfl, upd_same, n1, by omega, fun tm t r k o H1 ntm nt nr nk no ZA kp => ⟨rfl, ?_⟩⟩
    have s2 : Same H H1 := Same.made nzi ndx kp
    have fm := sB.free ntm
    have ft := sB.free nt
    have fr := sB.free nr
    have fk := sB.free nk
    have fo := sB.free no
    have hfr : ∀ {H2 H3 : Hp}, Same H H2 → KeepZ H2 H3 zi tm t r k o → Same H H3 := fun e kp b u hb => kp b u (e b u hb) (ne_of_none hb nzi) (ne_of_none hb fm) (ne_of_none hb ft) (ne_of_none hb fr) (ne_of_none hb fk) (ne_of_none hb fo)
    have hS1 := s2.seq hS
    walk_at "go"
    have em : ((List.map V.int (ps.map (·.1) ++ ps.map (·.2))).length : Int) / 2 = (ps.length : Int) := by
      rw [List.length_map, List.length_append, List.length_map, List.length_map]
      omega
    rw [em]
    refine R_rng1 (by omega) (by omega) ?_
    rw [Int.toNat_natCast]
    refine R_forR (fun i σ' H' => ∃ (nw : Int) (v5 : Option V), σ' = [some (.int n), some (.int now), some (.ref l), some (.ref zi), some (.int (ps.length : Nat)), v5] ∧ Same H H' ∧ ZAt K H' zi tm t r k o n nw (ps.take i) ∧ nw ≤ now ∧ ∀ p ∈ ps.drop i, nw ≤ p.1)
      ⟨0, none, rfl, s2, ZA, hnow, fun p hp => (hall p hp).1⟩ ?_ ?_
    · rintro i σ' H' hi ⟨nw, v5, rfl, sH, ZB, hnw, hdr⟩
      obtain ⟨⟨dz, hz⟩, _⟩ := id ZB
      have hp : ps[i]? = some ps[i] := List.getElem?_eq_getElem hi
      generalize ps[i] = p at hp
      have hpm := hall p (List.mem_of_getElem? hp)
      have e1 : (ps.map (·.1) ++ ps.map (·.2))[i]? = some p.1 := by
        rw [List.getElem?_append_left (by rw [List.length_map]; exact hi), List.getElem?_map, hp]
        rfl
      have e2 : (ps.map (·.1) ++ ps.map (·.2))[ps.length + i]? = some p.2 := by
        rw [List.getElem?_append_right (by rw [List.length_map]; omega), List.length_map, Nat.add_sub_cancel_left, List.getElem?_map, hp]
        rfl
      have hS2 := sH.seq hS
      walk_at "go"
      refine R_ixL hS2 (at_get i (by omega) e1) ?_
      walk_at "go"
      refine R_ixL hS2 (at_get (ps.length + i) (by omega) e2) ?_
      walk_at "go"
      have hdm : p ∈ ps.drop i := by rw [List.mem_iff_getElem?]; exact ⟨0, by rw [List.getElem?_drop]; exact hp⟩
      refine ⟨zi, tm, t, r, k, o, n, nw, ps.take i, p.1, p.2, rfl, ZB, hdr p hdm, by rw [List.length_take]; omega, fun g H3 ng ZC kp3 hg => ?_⟩
      walk_at "go"
      have ed : (ps.take i).dropWhile (old (p.1 - n)) = ps.take i := dropWhile_id fun q hq => by
        have := (hall q (List.mem_of_mem_take hq)).2.1
        exact decide_eq_false (by omega)
      rw [ed] at ZC
      refine ⟨p.1, _, rfl, hfr sH kp3, by rw [take_succ_of hp]; exact ZC, hpm.2.2, fun q hq => ?_⟩
      obtain ⟨j, hj⟩ := List.mem_iff_getElem?.mp hq
      rw [List.getElem?_drop] at hj
      obtain ⟨hj1, hj2⟩ := List.getElem?_eq_some_iff.mp hj
      obtain ⟨hp1, hp2⟩ := List.getElem?_eq_some_iff.mp hp
      rw [← hj2, ← hp2]
      exact List.pairwise_iff_getElem.mp hsort i (i + 1 + j) hp1 hj1 (by omega)
    · rintro σ' H' ⟨nw, v5, rfl, sH, ZB, hnw, _⟩
      rw [List.take_length] at ZB
      obtain ⟨⟨dz, hz⟩, _⟩ := id ZB
      walk_at "go"
      refine ⟨zi, tm, t, r, k, o, n, nw, ps, now, rfl, ZB, hnw, by omega, fun g H3 ng ZC kp3 hg => ?_⟩
      have ed : ps.dropWhile (old (now - n)) = ps := dropWhile_id fun q hq => by
        have := (hall q hq).2.1
        exact decide_eq_false (by omega)
      rw [ed] at ZC
      walk_at "go"
      refine kq zi [zi, tm, t, r, k, o] H3 (fun b hb => ?_) (hfr sH kp3) ⟨tm, t, r, k, o, ZC, rfl⟩
      simp only [List.mem_cons, List.not_mem_nil, or_false] at hb
      rcases hb with rfl | rfl | rfl | rfl | rfl | rfl <;> assumption
theorem ok_woken_groups (T : Txt K mg D) : FnOk P w K mg base CX0 6 (He.ga K "woken_groups") (D ("woken_groups", none)) ["size", "most", "rest"] (spWokenG K) := by
  refine T.woken_groups.F.ok sc_woken_groups (fun vs H Q E h => ?_) (fun cdv A outer s H vs Q E hr h => ?_)
  · obtain ⟨n, mo, rows, l, rfl, _⟩ := h
    rfl
  · obtain ⟨n, mo, rows, l, rfl, hS, ⟨n1, n2, m1, m2, hle, hnd, hrow⟩, kq⟩ := h
    have hS : SqL K H l ((flat rows).map V.int) := hS
    refine ⟨_, PSs.nox (pss_cons (ps_set (i := 3) sc_woken_groups.nd rfl (Or.inl rfl) (pe_make T.cGroups.mkr (ok_Groups_init T) (by exact hr.mono (by decide)) (by rfl) T.cGroups.g T.Groups_init.b .nil pass0 (pa_cons (pv 0) (pa_cons (pv 1) pa_nil))))
      (pss_cons (ps_set (i := 4) sc_woken_groups.nd rfl (Or.inl rfl) pe_int)
      (pss_cons (ps_whileQ PassesOwn.never (pt_cmpR op_lt (pv 4) (pe_callB (call_lenK (K := K) rfl) (by rfl) T.z_len PySem.boot_len (pa_cons (pv 2) pa_nil)) (nomark _))
      (pss_cons (ps_for PassesOwn.never rfl (pi_listK (K := K) rfl (pe_slice (sl_listK (K := K) rfl) (pv 2) (po_some (pe_op op_add (pv 4) pe_int)) (po_some (pe_op op_add (pe_op op_add (pv 4) pe_int) (pe_ix (ix_listK (K := K) rfl) (pv 2) (pe_op op_add (pv 4) pe_int) (fun _ _ => rfl)))))) (pg_name (i := 5) sc_woken_groups.nd rfl (Or.inl rfl))
      (pss_one (ps_expr (pe_meth (pv 3) T.cGroups.cl T.Groups_put.me (ok_Groups_put T) (by exact hr.mono (by decide)) T.Groups_put.b .nil pass0 (pa_cons (pe_ix (ix_listK (K := K) rfl) (pv 2) (pv 4) (fun _ _ => rfl)) (pa_cons (pv 5) pa_nil))))))
      (pss_one (ps_set (i := 4) sc_woken_groups.nd rfl (Or.inl rfl) (pe_op op_add (pe_op op_add (pv 4) pe_int) (pe_ix (ix_listK (K := K) rfl) (pv 2) (pe_op op_add (pv 4) pe_int) (fun _ _ => rfl)))))))
      (pss_one (ps_ret (pv 3)))))), ?_⟩
    walk_at "in"
    intro g dx ng ndx ne
    have sB : Same H (upd (upd H dx (.own g)) g (.ins (He.ga K "Groups") dx [])) := fun b u e => by
      rw [upd_ne (ne_of_none e ng), upd_ne (ne_of_none e ndx)]
      exact e
    refine ⟨g, dx, n, mo, rfl, upd_same, n1, by omega, m1, by omega, fun oa wa H1 noa nwa GA kp => ⟨rfl, ?_⟩⟩
    have s2 : Same H H1 := Same.made ng ndx kp
    have fo := sB.free noa
    have fw := sB.free nwa
    walk_at "go"
    refine S_while (fun m σ' H' => ∃ (j : Nat) (es : List GE) (c : Nat) (v5 : Option V), m = rows.length - j ∧ j ≤ rows.length ∧ σ' = [some (.int n), some (.int mo), some (.ref l), some (.ref g), some (.int ((flat (rows.take j)).length : Nat)), v5] ∧ Same H H' ∧ GAt K H' g oa wa n mo c es ∧ es.map GE.abs = rows.take j ∧ c ≤ 9 * j ∧ ∀ b ∈ es.flatMap GE.fp, H b = none) rows.length
      ⟨0, [], 0, none, rfl, Nat.zero_le _, rfl, s2, GA, rfl, Nat.le_refl _, fun b hb => by cases hb⟩ ?_
    rintro m σ' H' ⟨j, es, c, v5, rfl, hj, rfl, sH, G, hab, hc, hfp⟩
    have hS1 := sH.seq hS
    obtain ⟨⟨dxg, hg⟩, _⟩ := id G
    walk_at "go"
    rw [List.length_map]
    by_cases hjl : j < rows.length
    · have hp : rows[j]? = some rows[j] := List.getElem?_eq_getElem hjl
      generalize rows[j] = p at hp
      obtain ⟨key, row⟩ := p
      have hpm := hrow _ (List.mem_of_getElem? hp)
      have hrl : row.length ≤ n := hpm.2
      have hfl : flat rows = flat (rows.take j) ++ (key :: (row.length : Int) :: (row ++ flat (rows.drop (j + 1)))) := by
        have e : rows = rows.take j ++ (key, row) :: rows.drop (j + 1) := by
          obtain ⟨h1, h2⟩ := List.getElem?_eq_some_iff.mp hp
          rw [← h2, List.getElem_cons_drop, List.take_append_drop]
        have e2 : flat rows = flat (rows.take j ++ (key, row) :: rows.drop (j + 1)) := by rw [← e]
        rw [e2]
        unfold flat
        rw [List.flatMap_append, List.flatMap_cons]
        rfl
      have hA : (flat (rows.take (j + 1))).length = (flat (rows.take j)).length + 2 + row.length := by
        rw [take_succ_of hp]
        unfold flat
        rw [List.flatMap_append, List.length_append, List.flatMap_singleton]
        simp only [List.length_append, List.length_cons, List.length_nil]
        omega
      have hkey : key ∉ (rows.take j).map (·.1) := fun q => by
        obtain ⟨i, hi⟩ := List.mem_iff_getElem?.mp q
        rw [List.getElem?_map] at hi
        have hij : i < j := by
          have := (List.getElem?_eq_some_iff.mp (show ((rows.take j).map (·.1))[i]? = some key by rw [List.getElem?_map]; exact hi)).1
          rw [List.length_map, List.length_take] at this
          omega
        rw [List.getElem?_take, if_pos hij] at hi
        have h1 : (rows.map (·.1))[i]? = some key := by rw [List.getElem?_map]; exact hi
        have h2 : (rows.map (·.1))[j]? = some key := by rw [List.getElem?_map, hp]; rfl
        obtain ⟨b1, b2⟩ := List.getElem?_eq_some_iff.mp h1
        obtain ⟨b3, b4⟩ := List.getElem?_eq_some_iff.mp h2
        exact List.pairwise_iff_getElem.mp hnd i j b1 b3 hij (b2.trans b4.symm)
      generalize hAd : (flat (rows.take j)).length = a at *
      have k0 : (flat rows)[a]? = some key := by
        rw [hfl, List.getElem?_append_right (by omega), hAd, Nat.sub_self]
        rfl
      have k1 : (flat rows)[a + 1]? = some (row.length : Int) := by
        rw [hfl, List.getElem?_append_right (by omega), hAd, Nat.add_sub_cancel_left]
        rfl
      have hlen : a + 2 + row.length ≤ (flat rows).length := by
        rw [hfl, List.length_append, hAd]
        simp only [List.length_append, List.length_cons]
        omega
      have ecut : cutV ((flat rows).map V.int) (some ((a : Int) + 2)) (some ((a : Int) + 2 + (row.length : Int))) = row.map V.int := by
        have e1 : ((a : Int) + 2) = ((a + 2 : Nat) : Int) := rfl
        have e2 : ((a : Int) + 2 + (row.length : Int)) = ((a + 2 + row.length : Nat) : Int) := rfl
        rw [e2, e1, cut_mid _ _ _ (by rw [List.length_map]; exact hlen) (by omega), hfl, ← List.map_drop, ← List.map_take]
        congr 1
        rw [List.drop_append, hAd, List.drop_eq_nil_of_le (by omega), Nat.add_sub_cancel_left, List.nil_append, Nat.add_sub_cancel_left]
        show (row ++ _).take row.length = row
        rw [List.take_left]
      refine iteBT (decide_eq_true (by omega)) ?_
      walk_at "go"
      refine R_ixL hS1 (at_get (a + 1) rfl k1) ?_
      walk_at "go"
      intro q nq
      rw [ecut]
      have s3 := same_upd (o := HO.lst (row.map V.int)) nq (Same.refl H')
      have oq := GAtK.off G nq
      walk_at "go"
      refine R_forL (xs := row.map V.int) (fun i σ' H2 => ∃ (es : List GE) (c : Nat) (v5 : Option V), σ' = [some (.int n), some (.int mo), some (.ref l), some (.ref g), some (.int (a : Nat)), v5] ∧ Same H H2 ∧ GAt K H2 g oa wa n mo c es ∧ es.map GE.abs = (if i = 0 then rows.take j else rows.take j ++ [(key, row.take i)]) ∧ c ≤ 9 * j + i ∧ (∀ b ∈ es.flatMap GE.fp, H b = none) ∧ H2 q = some (.lst (row.map V.int)) ∧ Off oa wa es q)
        ⟨es, c, v5, rfl, sH.trans s3, GAtK.ex G s3, by rw [if_pos rfl]; exact hab, hc, hfp, upd_same, oq⟩ ?_ ?_ ?_
      · rintro i σ' H2 _ ⟨es, c, v5, _, _, _, _, _, _, hq, _⟩
        exact SqL.of hq
      · rintro i y σ' H2 hy ⟨es, c, v5, rfl, sH2, G2, hab2, hc2, hfp2, hq, oq2⟩
        rw [List.getElem?_map] at hy
        cases e : row[i]? with
        | none => rw [e] at hy; cases hy
        | some x =>
          rw [e] at hy
          have ey := Option.some.inj hy
          subst ey
          have hi : i < row.length := (List.getElem?_eq_some_iff.mp e).1
          obtain ⟨⟨dxg2, hg2⟩, _⟩ := id G2
          have hS2 := sH2.seq hS
          walk_at "go"
          refine R_ixL hS2 (at_get a rfl k0) ?_
          walk_at "go"
          refine ⟨g, oa, wa, n, mo, c, es, key, x, rfl, G2, by omega, fun es' H3 eabs G3 kp3 => ?_⟩
          walk_at "go"
          have eput : gput n mo (es.map GE.abs) key x = rows.take j ++ [(key, row.take (i + 1))] := by
            rw [hab2]
            by_cases h0 : i = 0
            · subst h0
              rw [if_pos rfl, gput_new hkey (by rw [List.length_take]; omega) n1, take_succ_of e]
              rfl
            · rw [if_neg h0, gput_last hkey (by rw [List.length_take]; omega), take_succ_of e]
          have off : ∀ b u, H b = some u → Off oa wa es b := fun b u hb => ⟨ne_of_none hb fo, ne_of_none hb fw, fun e' he' hx => by
            rw [hfp2 b (List.mem_flatMap.mpr ⟨e', he', hx⟩)] at hb
            cases hb⟩
          obtain ⟨hq3, oq3⟩ := kp3 q _ hq oq2
          refine ⟨es', c + 1, _, rfl, fun b u hb => (kp3 b u (sH2 b u hb) (off b u hb)).1, G3, by rw [eabs, eput, if_neg (Nat.succ_ne_zero _)], by omega, fun b hb => ?_, hq3, oq3⟩
          cases eb : H b with
          | none => rfl
          | some u =>
            obtain ⟨e', he', hx⟩ := List.mem_flatMap.mp hb
            exact absurd hx ((kp3 b u (sH2 b u eb) (off b u eb)).2.2.2 e' he')
      · rintro σ' H2 ⟨es, c, v5, rfl, sH2, G2, hab2, hc2, hfp2, hq, oq2⟩
        have hS2 := sH2.seq hS
        rw [List.length_map, if_neg (fun z => hpm.1 (List.eq_nil_of_length_eq_zero z)), List.take_length] at hab2
        rw [List.length_map] at hc2
        walk_at "go"
        refine R_ixL hS2 (at_get (a + 1) rfl k1) ?_
        walk_at "go"
        refine ⟨rows.length - (j + 1), by omega, j + 1, es, c, v5, rfl, hjl, ?_, sH2, G2, by rw [hab2, take_succ_of hp], by omega, hfp2⟩
        rw [hA]
        rfl
    · have ej : j = rows.length := by omega
      subst ej
      rw [List.take_length] at hab ⊢
      refine iteBF (decide_eq_false (by omega)) ?_
      walk_at "go"
      refine kq g (g :: oa :: wa :: es.flatMap GE.fp) H' (fun b hb => ?_) sH ⟨oa, wa, es, GAtK.more G (by omega), hab, rfl⟩
      rcases List.mem_cons.mp hb with rfl | hb
      · exact ng
      · rcases List.mem_cons.mp hb with rfl | hb
        · exact fo
        · rcases List.mem_cons.mp hb with rfl | hb
          · exact fw
          · exact hfp b hb
theorem ok_woken (T : Txt K mg D) : FnOk P w K mg base CX0 7 (He.ga K "woken") (D ("woken", none)) ["numbers"] (spWoken K) := by
  refine T.woken.F.ok sc_woken (fun vs H Q E h => ?_) (fun cdv A outer s H vs Q E hr h => ?_)
  · obtain ⟨S, l, rfl, _⟩ := h
    rfl
  · obtain ⟨S, l, rfl, hS, ok, kq⟩ := h
    refine ⟨_, PSs.nox (pss_cons (ps_set (i := 1) sc_woken.nd rfl (Or.inl rfl) (pe_slice (sl_listK (K := K) rfl) (pv 0) (po_some pe_int) po_none))
      (pss_cons (ps_if (pt_cmpR op_eq (pe_ix (ix_listK (K := K) rfl) (pv 0) pe_int (fun _ _ => rfl)) pe_int (nomark _)) (pss_cons (ps_set (i := 2) sc_woken.nd rfl (Or.inl rfl) (pe_make T.cWindow.mkr (ok_Window_init T) (by exact hr.mono (by decide)) (by rfl) T.cWindow.g T.Window_init.b .nil pass0 (pa_cons (pe_ix (ix_listK (K := K) rfl) (pv 0) pe_int (fun _ _ => rfl)) pa_nil)))
      (pss_cons (ps_for PassesOwn.never rfl (pi_listK (K := K) rfl (pv 1)) (pg_name (i := 3) sc_woken.nd rfl (Or.inl rfl))
      (pss_one (ps_expr (pe_meth (pv 2) T.cWindow.cl T.Window_put.me (ok_Window_put T) (by exact hr.mono (by decide)) T.Window_put.b .nil pass0 (pa_cons (pv 3) pa_nil)))))
      (pss_one (ps_ret (pv 2))))) pss_nil)
      (pss_cons (ps_if (pt_cmpR op_eq (pe_ix (ix_listK (K := K) rfl) (pv 0) pe_int (fun _ _ => rfl)) pe_int (nomark _)) (pss_one (ps_ret (pe_call (ok_woken_timed T) (by exact hr.mono (by decide)) (by rfl) T.woken_timed.g T.woken_timed.F.kp T.woken_timed.b .nil pass0 (pa_cons (pe_ix (ix_listK (K := K) rfl) (pv 0) pe_int (fun _ _ => rfl)) (pa_cons (pe_ix (ix_listK (K := K) rfl) (pv 1) pe_int (fun _ _ => rfl)) (pa_cons (pe_slice (sl_listK (K := K) rfl) (pv 1) (po_some pe_int) po_none) pa_nil)))))) pss_nil)
      (pss_cons (ps_if (pt_cmpR op_eq (pe_ix (ix_listK (K := K) rfl) (pv 0) pe_int (fun _ _ => rfl)) pe_int (nomark _)) (pss_cons (ps_set (i := 4) sc_woken.nd rfl (Or.inl rfl) (pe_make T.cMaps.mkr (ok_Maps_init T) (by exact hr.mono (by decide)) (by rfl) T.cMaps.g T.Maps_init.b .nil pass0 (pa_cons (pe_ix (ix_listK (K := K) rfl) (pv 0) pe_int (fun _ _ => rfl)) pa_nil)))
      (pss_cons (ps_for PassesOwn.never rfl (pi_range1 (by rfl) T.z_range (pa_cons (pe_op op_fdiv (pe_callB (call_lenK (K := K) rfl) (by rfl) T.z_len PySem.boot_len (pa_cons (pv 1) pa_nil)) pe_int) pa_nil)) (pg_name (i := 5) sc_woken.nd rfl (Or.inl rfl))
      (pss_one (ps_expr (pe_meth (pv 4) T.cMaps.cl T.Maps_put.me (ok_Maps_put T) (by exact hr.mono (by decide)) T.Maps_put.b .nil pass0 (pa_cons (pe_ix (ix_listK (K := K) rfl) (pv 1) (pe_op op_mul pe_int (pv 5)) (fun _ _ => rfl)) (pa_cons (pe_ix (ix_listK (K := K) rfl) (pv 1) (pe_op op_add (pe_op op_mul pe_int (pv 5)) pe_int) (fun _ _ => rfl)) pa_nil))))))
      (pss_one (ps_ret (pv 4))))) pss_nil)
      (pss_one (ps_ret (pe_call (ok_woken_groups T) (by exact hr.mono (by decide)) (by rfl) T.woken_groups.g T.woken_groups.F.kp T.woken_groups.b .nil pass0 (pa_cons (pe_ix (ix_listK (K := K) rfl) (pv 0) pe_int (fun _ _ => rfl)) (pa_cons (pe_ix (ix_listK (K := K) rfl) (pv 1) pe_int (fun _ _ => rfl)) (pa_cons (pe_slice (sl_listK (K := K) rfl) (pv 1) (po_some pe_int) po_none) pa_nil)))))))))), ?_⟩
    walk_at "in"
    intro q nq
    have s0 : ∀ o : HO, Same H (upd H q o) := fun o => same_upd nq (Same.refl H)
    cases S with
    | win n row =>
      obtain ⟨n1, n2, hle⟩ := ok
      have ec : cutV ((KS.win n row).saved.map V.int) (some 2) none = row.map V.int := by
        rw [show (2 : Int) = ((2 : Nat) : Int) from rfl, cut_from]
        rfl
      rw [ec]
      have s1 := s0 (HO.lst (row.map V.int))
      have hS1 := s1.seq hS
      walk_at "go"
      refine R_ixL hS1 (at_get 0 rfl (v := 1) rfl) ?_
      walk_at "go"
      refine iteBT (by decide) ?_
      walk_at "go"
      refine R_ixL hS1 (at_get 1 rfl (v := (n : Int)) rfl) ?_
      walk_at "go"
      intro wi dx nwi ndx ne
      have sB : Same H (upd (upd (upd H q (HO.lst (row.map V.int))) dx (.own wi)) wi (.ins (He.ga K "Window") dx [])) := fun b u e => by
        rw [upd_ne (ne_of_none (s1 b u e) nwi), upd_ne (ne_of_none (s1 b u e) ndx)]
        exact s1 b u e
      refine ⟨wi, dx, n, rfl, upd_same, n1, by omega, fun t r k o H1 nt nr nk no WA kp => ⟨rfl, ?_⟩⟩
      have s2 : Same H H1 := s1.trans (Same.made nwi ndx kp)
      have hq1 : H1 q = some (.lst (row.map V.int)) := Same.made nwi ndx kp q _ upd_same
      have fi := s1.free nwi
      have ft := sB.free nt
      have fr := sB.free nr
      have fk := sB.free nk
      have fo := sB.free no
      have qr : q ≠ r := ne_of_none (by rw [upd_ne (ne_of_none upd_same nwi), upd_ne (ne_of_none upd_same ndx)]; exact upd_same) nr
      have qk : q ≠ k := ne_of_none (by rw [upd_ne (ne_of_none upd_same nwi), upd_ne (ne_of_none upd_same ndx)]; exact upd_same) nk
      have qt : q ≠ t := ne_of_none (by rw [upd_ne (ne_of_none upd_same nwi), upd_ne (ne_of_none upd_same ndx)]; exact upd_same) nt
      have qo : q ≠ o := ne_of_none (by rw [upd_ne (ne_of_none upd_same nwi), upd_ne (ne_of_none upd_same ndx)]; exact upd_same) no
      walk_at "go"
      refine R_forL (xs := row.map V.int) (fun i σ' H' => ∃ v3 : Option V, σ' = [some (.ref l), some (.ref q), some (.ref wi), v3, none, none] ∧ Same H H' ∧ WAt K H' wi t r k o n (row.take i) ∧ H' q = some (.lst (row.map V.int))) ⟨none, rfl, s2, WA, hq1⟩ ?_ ?_ ?_
      · rintro i σ' H' _ ⟨v3, _, _, _, hq⟩
        exact SqL.of hq
      · rintro i y σ' H' hy ⟨v3, rfl, sH, W, hq⟩
        rw [List.getElem?_map] at hy
        cases e : row[i]? with
        | none => rw [e] at hy; cases hy
        | some x =>
          rw [e] at hy
          have ey := Option.some.inj hy
          subst ey
          have hi : i < row.length := (List.getElem?_eq_some_iff.mp e).1
          obtain ⟨⟨dw, hw⟩, _⟩ := id W
          walk_at "go"
          refine ⟨wi, t, r, k, o, n, row.take i, x, rfl, W, fun H3 W3 kp3 => ?_⟩
          have ew : wput n (row.take i) x = row.take (i + 1) := by
            unfold wput
            rw [if_neg (by rw [List.length_take]; omega), take_succ_of e]
          rw [ew] at W3
          walk_at "go"
          exact ⟨_, rfl, fun b u hb => kp3 b u (sH b u hb) (ne_of_none hb ft) (ne_of_none hb fr) (ne_of_none hb fk) (ne_of_none hb fo), W3, kp3 q _ hq qt qr qk qo⟩
      · rintro σ' H' ⟨v3, rfl, sH, W, hq⟩
        rw [List.length_map, List.take_length] at W
        walk_at "go"
        refine kq wi [wi, t, r, k, o] H' (fun b hb => ?_) sH ⟨t, r, k, o, W, rfl⟩
        simp only [List.mem_cons, List.not_mem_nil, or_false] at hb
        rcases hb with rfl | rfl | rfl | rfl | rfl <;> assumption
    | tim n now ps =>
      have ec : cutV ((KS.tim n now ps).saved.map V.int) (some 2) none = (now :: (ps.map (·.1) ++ ps.map (·.2))).map V.int := by
        rw [show (2 : Int) = ((2 : Nat) : Int) from rfl, cut_from, ← List.map_drop]
        rfl
      rw [ec]
      have s1 := s0 (HO.lst ((now :: (ps.map (·.1) ++ ps.map (·.2))).map V.int))
      have hS1 := s1.seq hS
      walk_at "go"
      refine R_ixL hS1 (at_get 0 rfl (v := 2) rfl) ?_
      walk_at "go"
      refine iteBF (by decide) ?_
      walk_at "go"
      refine R_ixL hS1 (at_get 0 rfl (v := 2) rfl) ?_
      walk_at "go"
      refine iteBT (by decide) ?_
      walk_at "go"
      refine R_ixL hS1 (at_get 1 rfl (v := (n : Int)) rfl) ?_
      walk_at "go"
      refine R_ixL (SqL.of upd_same) (at_get 0 rfl (v := now) rfl) ?_
      walk_at "go"
      intro q2 nq2
      have ec2 : cutV ((now :: (ps.map (·.1) ++ ps.map (·.2))).map V.int) (some 1) none = (ps.map (·.1) ++ ps.map (·.2)).map V.int := by
        rw [show (1 : Int) = ((1 : Nat) : Int) from rfl, cut_from, ← List.map_drop]
        rfl
      rw [ec2]
      have s2 := s1.trans (same_upd (o := HO.lst ((ps.map (·.1) ++ ps.map (·.2)).map V.int)) nq2 (Same.refl _))
      walk_at "go"
      exact ⟨n, now, ps, q2, rfl, SqL.of upd_same, ok, fun x own H' ho sH KA => kq x own H' (fun b hb => s2.free (ho b hb)) (s2.trans sH) KA⟩
    | map n row =>
      obtain ⟨n1, n2, hle, hin⟩ := ok
      have ec : cutV ((KS.map n row).saved.map V.int) (some 2) none = (row.flatMap fun p => [p.1, p.2]).map V.int := by
        rw [show (2 : Int) = ((2 : Nat) : Int) from rfl, cut_from, ← List.map_drop]
        rfl
      rw [ec]
      have s1 := s0 (HO.lst ((row.flatMap fun p => [p.1, p.2]).map V.int))
      have hS1 := s1.seq hS
      walk_at "go"
      refine R_ixL hS1 (at_get 0 rfl (v := 3) rfl) ?_
      walk_at "go"
      refine iteBF (by decide) ?_
      walk_at "go"
      refine R_ixL hS1 (at_get 0 rfl (v := 3) rfl) ?_
      walk_at "go"
      refine iteBF (by decide) ?_
      walk_at "go"
      refine R_ixL hS1 (at_get 0 rfl (v := 3) rfl) ?_
      walk_at "go"
      refine iteBT (by decide) ?_
      walk_at "go"
      refine R_ixL hS1 (at_get 1 rfl (v := (n : Int)) rfl) ?_
      walk_at "go"
      intro m dx nm ndx ne
      have sB : Same H (upd (upd (upd H q (HO.lst ((row.flatMap fun p => [p.1, p.2]).map V.int))) dx (.own m)) m (.ins (He.ga K "Maps") dx [])) := fun b u e => by
        rw [upd_ne (ne_of_none (s1 b u e) nm), upd_ne (ne_of_none (s1 b u e) ndx)]
        exact s1 b u e
      refine ⟨m, dx, n, rfl, upd_same, n1, by omega, fun oa na0 H1 noa nna MA kp => ⟨rfl, ?_⟩⟩
      have s2 : Same H H1 := s1.trans (Same.made nm ndx kp)
      have hq1 : H1 q = some (.lst ((row.flatMap fun p => [p.1, p.2]).map V.int)) := Same.made nm ndx kp q _ upd_same
      have fm := s1.free nm
      have fo := sB.free noa
      have fn := sB.free nna
      have qo : q ≠ oa := ne_of_none (by rw [upd_ne (ne_of_none upd_same nm), upd_ne (ne_of_none upd_same ndx)]; exact upd_same) noa
      have qn : q ≠ na0 := ne_of_none (by rw [upd_ne (ne_of_none upd_same nm), upd_ne (ne_of_none upd_same ndx)]; exact upd_same) nna
      have qm : q ≠ m := ne_of_none upd_same nm
      walk_at "go"
      have em : ((List.map V.int (row.flatMap fun p => [p.1, p.2])).length : Int) / 2 = (row.length : Int) := by
        rw [List.length_map, pairs_len]
        omega
      rw [em]
      refine R_rng1 (by omega) (by omega) ?_
      rw [Int.toNat_natCast]
      refine R_forR (fun i σ' H' => ∃ (na : Addr) (v5 : Option V), σ' = [some (.ref l), some (.ref q), none, none, some (.ref m), v5] ∧ Same H H' ∧ MAt K H' m oa na n (row.take i) ∧ H' q = some (.lst ((row.flatMap fun p => [p.1, p.2]).map V.int)) ∧ H na = none ∧ q ≠ na) ⟨na0, none, rfl, s2, MA, hq1, fn, qn⟩ ?_ ?_
      · rintro i σ' H' hi ⟨na, v5, rfl, sH, M, hq, fna, qna⟩
        have hp : row[i]? = some row[i] := List.getElem?_eq_getElem hi
        generalize row[i] = p at hp
        obtain ⟨i1, i2, i3, i4⟩ := hin p (List.mem_of_getElem? hp)
        obtain ⟨k1, k2⟩ := pairs_at row i p hp
        obtain ⟨⟨la0, dm, hm⟩, _, _⟩ := M.addrs
        walk_at "go"
        refine R_ixL (SqL.of hq) (at_get (2 * i) (by omega) k1) ?_
        walk_at "go"
        refine R_ixL (SqL.of hq) (at_get (2 * i + 1) (by omega) k2) ?_
        walk_at "go"
        refine ⟨m, oa, na, n, row.take i, p.1, p.2, rfl, M, fun na' H3 hn M3 kp3 => ?_⟩
        have ew : lastM n (row.take i ++ [(p.1 % 1000003, p.2 % 1000003)]) = row.take (i + 1) := by
          rw [Int.emod_eq_of_lt i1 i2, Int.emod_eq_of_lt i3 i4, take_succ_of hp]
          unfold lastM
          rw [List.length_append, List.length_take, List.length_singleton, show min i row.length + 1 - n = 0 by omega, List.drop_zero]
        rw [ew] at M3
        have sH3 : Same H H3 := fun b u hb => kp3 b u (sH b u hb) (ne_of_none hb fm) (ne_of_none hb fo) (ne_of_none hb fna)
        walk_at "go"
        refine ⟨na', _, rfl, sH3, M3, kp3 q _ hq qm qo qna, ?_, ?_⟩
        · rcases hn with rfl | hn
          · exact fna
          · exact sH.free hn
        · rcases hn with rfl | hn
          · exact qna
          · exact ne_of_none hq hn
      · rintro σ' H' ⟨na, v5, rfl, sH, M, hq, fna, qna⟩
        rw [List.take_length] at M
        walk_at "go"
        refine kq m [m, oa, na] H' (fun b hb => ?_) sH ⟨oa, na, M, rfl⟩
        simp only [List.mem_cons, List.not_mem_nil, or_false] at hb
        rcases hb with rfl | rfl | rfl <;> assumption
    | grp n mo rows =>
      have ec : cutV ((KS.grp n mo rows).saved.map V.int) (some 2) none = ((mo : Int) :: flat rows).map V.int := by
        rw [show (2 : Int) = ((2 : Nat) : Int) from rfl, cut_from, ← List.map_drop]
        rfl
      rw [ec]
      have s1 := s0 (HO.lst (((mo : Int) :: flat rows).map V.int))
      have hS1 := s1.seq hS
      walk_at "go"
      refine R_ixL hS1 (at_get 0 rfl (v := 4) rfl) ?_
      walk_at "go"
      refine iteBF (by decide) ?_
      walk_at "go"
      refine R_ixL hS1 (at_get 0 rfl (v := 4) rfl) ?_
      walk_at "go"
      refine iteBF (by decide) ?_
      walk_at "go"
      refine R_ixL hS1 (at_get 0 rfl (v := 4) rfl) ?_
      walk_at "go"
      refine iteBF (by decide) ?_
      walk_at "go"
      refine R_ixL hS1 (at_get 1 rfl (v := (n : Int)) rfl) ?_
      walk_at "go"
      refine R_ixL (SqL.of upd_same) (at_get 0 rfl (v := (mo : Int)) rfl) ?_
      walk_at "go"
      intro q2 nq2
      have ec2 : cutV (((mo : Int) :: flat rows).map V.int) (some 1) none = (flat rows).map V.int := by
        rw [show (1 : Int) = ((1 : Nat) : Int) from rfl, cut_from, ← List.map_drop]
        rfl
      rw [ec2]
      have s2 := s1.trans (same_upd (o := HO.lst ((flat rows).map V.int)) nq2 (Same.refl _))
      walk_at "go"
      exact ⟨n, mo, rows, q2, rfl, SqL.of upd_same, ok, fun x own H' ho sH KA => kq x own H' (fun b hb => s2.free (ho b hb)) (s2.trans sH) KA⟩
end
end LF

set_option maxRecDepth 100000
set_option maxHeartbeats 4000000
namespace LF
open PySem PySem.Spec PyProof.Rows L2


/-! ### a thing put into a kept thing, as the law puts it -/
def dt (nu : Int) : Int := ([0, 1, 3, 20] : List Int).getD (nu % 4).toNat 0
theorem pickT (nu : Int) : 0 ≤ dt nu ∧ atI [V.int 0, V.int 1, V.int 3, V.int 20] (nu % 4) = some (.int (dt nu)) := by
  have h0 := Int.emod_nonneg nu (b := 4) (by decide)
  have h1 := Int.emod_lt_of_pos nu (b := 4) (by decide)
  unfold dt
  generalize nu % 4 = z at *
  have h : z = 0 ∨ z = 1 ∨ z = 2 ∨ z = 3 := by omega
  rcases h with rfl | rfl | rfl | rfl <;> exact ⟨by decide, rfl⟩
def KS.put (x nu : Int) : KS → KS
  | .win n row => .win n (wput n row x)
  | .tim n now ps => .tim n (now + dt nu) (ps.dropWhile (old (now + dt nu - n)) ++ (if 0 < nu / 4 % 5 then [(now + dt nu, x)] else []))
  | .map n row => .map n (lastM n (row ++ [(x % 1000003, nu % 1000 % 1000003)]))
  | .grp n mo rows => .grp n mo (gput n mo rows (nu % 6) x)
def vD : V → PyData
  | .int i => .int i
  | _ => .none
def KS.ret (x nu : Int) : KS → PyData
  | .win n row => vD (wgone n row)
  | .tim n now ps => .list (((ps.takeWhile (old (now + dt nu - n))).map (·.2)).map PyData.int)
  | .map .. => .none
  | .grp _ mo rows => vD (ggone mo rows (nu % 6))
def KS.len : KS → Nat
  | .tim _ _ ps => ps.length
  | _ => 0
theorem vD_dp {K : PySem.W.Frag} {H : Hp} {v : V} (h : isWord v) : Dp K H v (vD v) := by
  rcases h with rfl | ⟨i, rfl⟩
  · exact .non
  · exact .int i
/-- data that stands in what is new, out of the reach of own -/
def NewD (K : PySem.W.Frag) (H H' : Hp) (own : List Addr) (v : V) (d : PyData) : Prop := ∃ Hf : Hp, Same Hf H' ∧ (∀ b u, Hf b = some u → b ∉ own ∧ H b = none) ∧ Dp K Hf v d
def noHp : Hp := fun _ => none
theorem noHp_no {b : Addr} {u : HO} (e : noHp b = some u) : False := by
  unfold noHp at e
  cases e
theorem NewD.flat {K : PySem.W.Frag} {H H' : Hp} {own : List Addr} {v : V} (h : isWord v) : NewD K H H' own v (vD v) :=
  ⟨noHp, fun _ _ e => (noHp_no e).elim, fun _ _ e => (noHp_no e).elim, vD_dp h⟩
theorem NewD.ints {K : PySem.W.Frag} {H H' : Hp} {own : List Addr} {l : Addr} {ns : List Int} (h : H' l = some (.lst (ns.map V.int))) (ho : l ∉ own) (hn : H l = none) : NewD K H H' own (.ref l) (.list (ns.map PyData.int)) := by
  refine ⟨upd noHp l (.lst (ns.map V.int)), fun b u e => ?_, fun b u e => ?_, dp_ints (SqL.of upd_same)⟩
  · by_cases hb : b = l
    · rw [hb, upd_same] at e
      rw [hb, h]
      exact e
    · rw [upd_ne hb] at e
      exact (noHp_no e).elim
  · by_cases hb : b = l
    · rw [hb]
      exact ⟨ho, hn⟩
    · rw [upd_ne hb] at e
      exact (noHp_no e).elim
theorem NewD.less {K : PySem.W.Frag} {H0 H H' : Hp} {own : List Addr} {v : V} {d : PyData} (n : NewD K H H' own v d) (s : Same H0 H) : NewD K H0 H' own v d := by
  obtain ⟨Hf, h1, h2, h3⟩ := n
  exact ⟨Hf, h1, fun b u e => ⟨(h2 b u e).1, s.free (h2 b u e).2⟩, h3⟩
theorem wgone_is (n : Nat) (row : List Int) : isWord (wgone n row) := by
  unfold wgone
  split
  · exact .inr ⟨_, rfl⟩
  · exact .inl rfl
theorem ggone_is (mo : Nat) (rows : List (Int × List Int)) (key : Int) : isWord (ggone mo rows key) := by
  unfold ggone
  split
  · exact .inl rfl
  · split
    · exact .inr ⟨_, rfl⟩
    · exact .inl rfl
theorem KAt.some {K : PySem.W.Frag} {H : Hp} {x : Addr} {own : List Addr} {c : Nat} {S : KS} (A : KAt K H x own c S) : ∀ b ∈ own, ∃ u, H b = some u ∧ ∀ xs, u ≠ .tup xs := by
  intro b hb
  cases S with
  | win n row =>
    obtain ⟨t, r, k, o, ⟨⟨dx, h1⟩, ⟨⟨dy, g1⟩, g2, g3, ⟨kvs, g4, _⟩, _⟩, _⟩, rfl⟩ := A
    simp only [List.mem_cons, List.not_mem_nil, or_false] at hb
    rcases hb with rfl | rfl | rfl | rfl | rfl
    · exact ⟨_, h1, fun xs z => by cases z⟩
    · exact ⟨_, g1, fun xs z => by cases z⟩
    · exact ⟨_, g2, fun xs z => by cases z⟩
    · exact ⟨_, g3, fun xs z => by cases z⟩
    · exact ⟨_, g4, fun xs z => by cases z⟩
  | tim n now ps =>
    obtain ⟨tm, t, r, k, o, ⟨⟨dx, h1⟩, h2, ⟨⟨dy, g1⟩, g2, g3, ⟨kvs, g4, _⟩, _⟩, _⟩, rfl⟩ := A
    simp only [List.mem_cons, List.not_mem_nil, or_false] at hb
    rcases hb with rfl | rfl | rfl | rfl | rfl | rfl
    · exact ⟨_, h1, fun xs z => by cases z⟩
    · exact ⟨_, h2, fun xs z => by cases z⟩
    · exact ⟨_, g1, fun xs z => by cases z⟩
    · exact ⟨_, g2, fun xs z => by cases z⟩
    · exact ⟨_, g3, fun xs z => by cases z⟩
    · exact ⟨_, g4, fun xs z => by cases z⟩
  | map n row =>
    obtain ⟨oa, na, M, rfl⟩ := A
    obtain ⟨⟨la, dx, h1⟩, ⟨xo, h2⟩, ⟨xn, h3⟩⟩ := M.addrs
    simp only [List.mem_cons, List.not_mem_nil, or_false] at hb
    rcases hb with rfl | rfl | rfl
    · exact ⟨_, h1, fun xs z => by cases z⟩
    · exact ⟨_, h2, fun xs z => by cases z⟩
    · exact ⟨_, h3, fun xs z => by cases z⟩
  | grp n mo rows =>
    obtain ⟨oa, wa, es, G, _, rfl⟩ := A
    obtain ⟨⟨dx, h1⟩, h2, ⟨kvs, h3, _⟩, hw, _⟩ := id G
    rcases List.mem_cons.mp hb with rfl | hb
    · exact ⟨_, h1, fun xs z => by cases z⟩
    · rcases List.mem_cons.mp hb with rfl | hb
      · exact ⟨_, h2, fun xs z => by cases z⟩
      · rcases List.mem_cons.mp hb with rfl | hb
        · exact ⟨_, h3, fun xs z => by cases z⟩
        · obtain ⟨e, he, hx⟩ := List.mem_flatMap.mp hb
          obtain ⟨⟨dx, h1⟩, ⟨⟨dy, g1⟩, g2, g3, ⟨kvs, g4, _⟩, _⟩, _⟩ := hw e he
          rcases GE.cases hx with rfl | rfl | rfl | rfl | rfl
          · exact ⟨_, h1, fun xs z => by cases z⟩
          · exact ⟨_, g1, fun xs z => by cases z⟩
          · exact ⟨_, g2, fun xs z => by cases z⟩
          · exact ⟨_, g3, fun xs z => by cases z⟩
          · exact ⟨_, g4, fun xs z => by cases z⟩
def spKPut (K : PySem.W.Frag) : Sp := fun vs H Q _ => ∃ (x a : Addr) (i : Int) (own : List Addr) (c : Nat) (S : KS) (ns : List Int), vs = [.int S.way, .ref x, .ref a, .int i] ∧ KAt K H x own c S ∧ S.ok ∧ S.len < 200 ∧ c < 900 ∧ SqL K H a (ns.map V.int) ∧ ns.length ≤ 63 ∧ 0 ≤ i ∧
  ∀ v own' H', KAt K H' x own' (c + 1) (S.put (thingF ns i) (mixF ns (i + 1))) → (∀ b u, H b = some u → b ∉ own → H' b = some u) → (∀ b ∈ own', b ∈ own ∨ H b = none) → NewD K H H' own' v (S.ret (thingF ns i) (mixF ns (i + 1))) → Q v H'
section
variable {P : Program} {w : World} {K : PySem.W.Frag} {mg : Str → Option Value} {base : Heap} {D : Str × Option Str → FuncData}
theorem ok_l_put (T : Txt K mg D) : FnOk P w K mg base CX0 6 (He.ga K "_law_put") (D ("_law_put", none)) ["_law_way", "_law_kept", "_law_script", "_law_k"] (spKPut K) := by
  refine T.l_put.F.ok sc_l_put (fun vs H Q E h => ?_) (fun cdv A outer s H vs Q E hr h => ?_)
  · obtain ⟨x, a, i, own, c, S, ns, rfl, _⟩ := h
    rfl
  · obtain ⟨x, a, i, own, c, S, ns, rfl, A, ok, hlen, hc, hS, hl, hi, kq⟩ := h
    have fcWindow := T.cWindow.cl; have fnWindowsize := T.n_Window_size; have fnWindowtally := T.n_Window_tally; have fcTimed := T.cTimed.cl; have fnTimedspan := T.n_Timed_span; have fnTimednow := T.n_Timed_now; have fnTimedtimes := T.n_Timed_times; have fnTimedtally := T.n_Timed_tally; have fcMaps := T.cMaps.cl; have fnMapssize := T.n_Maps_size; have fnMapsold := T.n_Maps_old; have fnMapsnew := T.n_Maps_new; have fnMapslast := T.n_Maps_last; have fcGroups := T.cGroups.cl; have fnGroupssize := T.n_Groups_size; have fnGroupsmost := T.n_Groups_most; have fnGroupsorder := T.n_Groups_order; have fnGroupswindows := T.n_Groups_windows
    refine ⟨_, PSs.nox (pss_cons (ps_set (i := 4) sc_l_put.nd rfl (Or.inl rfl) (pe_call (ok_l_thing T) (by exact hr.mono (by decide)) (by rfl) T.l_thing.g T.l_thing.F.kp T.l_thing.b .nil pass0 (pa_cons (pv 2) (pa_cons (pv 3) pa_nil))))
      (pss_cons (ps_set (i := 5) sc_l_put.nd rfl (Or.inl rfl) (pe_call (ok_l_mix T) (by exact hr.mono (by decide)) (by rfl) T.l_mix.g T.l_mix.F.kp T.l_mix.b .nil pass0 (pa_cons (pv 2) (pa_cons (pe_op op_add (pv 3) pe_int) pa_nil))))
      (pss_cons (ps_if (pt_cmpR op_eq (pv 0) pe_int (nomark _)) (pss_one (ps_ret (pe_meth (pv 1) T.cWindow.cl T.Window_put.me (ok_Window_put T) (by exact hr.mono (by decide)) T.Window_put.b .nil pass0 (pa_cons (pv 4) pa_nil)))) pss_nil)
      (pss_cons (ps_if (pt_cmpR op_eq (pv 0) pe_int (nomark _)) (pss_cons (ps_set (i := 6) sc_l_put.nd rfl (Or.inl rfl) (pe_op op_add (pe_meth0 (pv 1) T.cTimed.cl T.Timed_time.me (ok_Timed_time T) (by exact hr.mono (by decide)) T.Timed_time.b .nil pass0) (pe_ix (ix_listK (K := K) rfl) (pe_lst (pa_cons pe_int (pa_cons pe_int (pa_cons pe_int (pa_cons pe_int pa_nil))))) (pe_op op_mod (pv 5) pe_int) (fun _ _ => rfl))))
      (pss_one (ps_ret (pe_ifExp (pt_cmpR op_gt (pe_op op_mod (pe_op op_fdiv (pv 5) pe_int) pe_int) pe_int (nomark _)) (pe_meth (pv 1) T.cTimed.cl T.Timed_put.me (ok_Timed_put T) (by exact hr.mono (by decide)) T.Timed_put.b .nil pass0 (pa_cons (pv 6) (pa_cons (pv 4) pa_nil))) (pe_meth (pv 1) T.cTimed.cl T.Timed_go_on.me (ok_Timed_go_on T) (by exact hr.mono (by decide)) T.Timed_go_on.b .nil pass0 (pa_cons (pv 6) pa_nil)))))) pss_nil)
      (pss_cons (ps_if (pt_cmpR op_eq (pv 0) pe_int (nomark _)) (pss_one (ps_ret (pe_meth (pv 1) T.cMaps.cl T.Maps_put.me (ok_Maps_put T) (by exact hr.mono (by decide)) T.Maps_put.b .nil pass0 (pa_cons (pv 4) (pa_cons (pe_op op_mod (pv 5) pe_int) pa_nil))))) pss_nil)
      (pss_one (ps_ret (pe_meth (pv 1) T.cGroups.cl T.Groups_put.me (ok_Groups_put T) (by exact hr.mono (by decide)) T.Groups_put.b .nil pass0 (pa_cons (pe_op op_mod (pv 5) pe_int) (pa_cons (pv 4) pa_nil)))))))))), ?_⟩
    walk_at "in"
    refine ⟨a, ns, i, rfl, hS, hl, hi, fun H1 s1 => ?_⟩
    have hS1 := s1.seq hS
    have A1 := A.ex s1
    generalize thingF ns i = th at kq
    walk_at "go"
    refine ⟨a, ns, i + 1, rfl, hS1, hl, by omega, ?_⟩
    generalize mixF ns (i + 1) = nu at kq
    walk_at "go"
    cases S with
    | win n row =>
      obtain ⟨t, r, k, o, W, rfl⟩ := A1
      obtain ⟨⟨dx, h1⟩, _⟩ := id W
      refine iteBT rfl ?_
      walk_at "go"
      refine ⟨x, t, r, k, o, n, row, th, rfl, W, fun H2 W2 kp => ?_⟩
      refine kq _ [x, t, r, k, o] H2 ⟨t, r, k, o, W2, rfl⟩ (fun b u hb hn => ?_) (fun b hb => .inl hb) (NewD.flat (wgone_is n row))
      simp only [List.mem_cons, List.not_mem_nil, or_false, not_or] at hn
      exact kp b u (s1 b u hb) hn.2.1 hn.2.2.1 hn.2.2.2.1 hn.2.2.2.2
    | tim n now ps =>
      obtain ⟨n1, n2, hnow, hsort, hall, hps⟩ := ok
      obtain ⟨d0, hd⟩ := pickT nu
      have hlen : ps.length < 200 := hlen
      obtain ⟨tm, t, r, k, o, Z, rfl⟩ := A1
      have Z0 := Z
      obtain ⟨⟨dx, h1⟩, _⟩ := id Z
      refine iteBF rfl ?_
      walk_at "go"
      refine iteBT rfl ?_
      walk_at "go"
      refine ⟨x, tm, t, r, k, o, n, now, ps, rfl, Z, ?_⟩
      walk_at "go"
      refine ⟨Nat.le_of_ble_eq_true rfl, fun q nq => ?_⟩
      have s2 := same_upd (o := HO.lst [V.int 0, V.int 1, V.int 3, V.int 20]) nq (Same.refl H1)
      have Z2 := Z.ex s2
      have h1' := s2 _ _ h1
      have s12 := s1.trans s2
      walk_at "go"
      refine R_ixL (SqL.of upd_same) hd ?_
      have fin : ∀ (v : Addr) (H3 : Hp) (ps' : List (Int × Int)), upd H1 q (HO.lst [V.int 0, V.int 1, V.int 3, V.int 20]) v = none → ZAt K H3 x tm t r k o n (now + dt nu) ps' → ps' = ps.dropWhile (old (now + dt nu - n)) ++ (if 0 < nu / 4 % 5 then [(now + dt nu, th)] else []) → KeepZ (upd H1 q (HO.lst [V.int 0, V.int 1, V.int 3, V.int 20])) H3 x tm t r k o →
          H3 v = some (.lst (((ps.takeWhile (old (now + dt nu - n))).map (·.2)).map V.int)) → Q (.ref v) H3 := fun v H3 ps' nv Z3 e kp hv => by
        subst e
        refine kq _ [x, tm, t, r, k, o] H3 ⟨tm, t, r, k, o, Z3, rfl⟩ (fun b u hb hn => ?_) (fun b hb => .inl hb) (NewD.ints hv (fun hm => ?_) (s12.free nv))
        · simp only [List.mem_cons, List.not_mem_nil, or_false, not_or] at hn
          exact kp b u (s12 b u hb) hn.1 hn.2.1 hn.2.2.1 hn.2.2.2.1 hn.2.2.2.2.1 hn.2.2.2.2.2
        · obtain ⟨u, hu, _⟩ := KAt.some (S := .tim n now ps) (c := c) ⟨tm, t, r, k, o, Z2, rfl⟩ v hm
          rw [nv] at hu
          cases hu
      walk_at "go"
      refine iteD (fun h0 => ?_) (fun h0 => ?_)
      · walk_at "go"
        refine ⟨x, tm, t, r, k, o, n, now, ps, now + dt nu, th, rfl, Z2, by omega, by omega, fun g H3 ng Z3 kp hg => ?_⟩
        exact fin g H3 _ ng Z3 (by rw [if_pos h0]) kp hg
      · walk_at "go"
        refine ⟨x, tm, t, r, k, o, n, now, ps, now + dt nu, rfl, Z2, by omega, by omega, fun g H3 ng Z3 kp hg => ?_⟩
        exact fin g H3 _ ng Z3 (by rw [if_neg h0, List.append_nil]) kp hg
    | map n row =>
      obtain ⟨oa, na, M, rfl⟩ := A1
      obtain ⟨⟨la, dx, h1⟩, _, _⟩ := M.addrs
      refine iteBF rfl ?_
      walk_at "go"
      refine iteBF rfl ?_
      walk_at "go"
      refine iteBT rfl ?_
      walk_at "go"
      refine ⟨x, oa, na, n, row, th, nu % 1000, rfl, M, fun na' H2 hn M2 kp => ?_⟩
      refine kq _ [x, oa, na'] H2 ⟨oa, na', M2, rfl⟩ (fun b u hb hn => ?_) (fun b hb => ?_) (NewD.flat (.inl rfl))
      · simp only [List.mem_cons, List.not_mem_nil, or_false, not_or] at hn
        exact kp b u (s1 b u hb) hn.1 hn.2.1 hn.2.2
      · simp only [List.mem_cons, List.not_mem_nil, or_false] at hb ⊢
        rcases hb with rfl | rfl | rfl
        · exact .inl (.inl rfl)
        · exact .inl (.inr (.inl rfl))
        · rcases hn with rfl | hn
          · exact .inl (.inr (.inr rfl))
          · exact .inr (s1.free hn)
    | grp n mo rows =>
      obtain ⟨oa, wa, es, G, rfl, rfl⟩ := A1
      obtain ⟨⟨dx, h1⟩, _⟩ := id G
      refine iteBF rfl ?_
      walk_at "go"
      refine iteBF rfl ?_
      walk_at "go"
      refine iteBF rfl ?_
      walk_at "go"
      refine ⟨x, oa, wa, n, mo, c, es, nu % 6, th, rfl, G, by omega, fun es' H2 eabs G2 kp => ?_⟩
      have hx2 : ∀ b u, H1 b = some u → b ∉ x :: oa :: wa :: es.flatMap GE.fp → H2 b = some u ∧ Off oa wa es' b := fun b u hb hn => by
        simp only [List.mem_cons, not_or] at hn
        exact kp b u hb ⟨hn.2.1, hn.2.2.1, fun e he hx => hn.2.2.2 (List.mem_flatMap.mpr ⟨e, he, hx⟩)⟩
      refine kq _ (x :: oa :: wa :: es'.flatMap GE.fp) H2 ⟨oa, wa, es', G2, eabs, rfl⟩ (fun b u hb hn => (hx2 b u (s1 b u hb) hn).1) (fun b hb => ?_) (NewD.flat (ggone_is mo _ _))
      by_cases hm : b ∈ x :: oa :: wa :: es.flatMap GE.fp
      · exact .inl hm
      · cases eb : H b with
        | none => exact .inr rfl
        | some u =>
          exfalso
          have q := (hx2 b u (s1 b u eb) hm).2
          simp only [List.mem_cons, not_or] at hm
          rcases List.mem_cons.mp hb with rfl | hb
          · exact hm.1 rfl
          · rcases List.mem_cons.mp hb with rfl | hb
            · exact hm.2.1 rfl
            · rcases List.mem_cons.mp hb with rfl | hb
              · exact hm.2.2.1 rfl
              · obtain ⟨e, he, hx⟩ := List.mem_flatMap.mp hb
                exact q.2.2 e he hx
end
end LF

set_option maxRecDepth 100000
set_option maxHeartbeats 4000000
namespace LF
open PySem PySem.Spec PyProof.Rows L2


/-! ### what the law is told -/
theorem KS.put_way (x nu : Int) (S : KS) : (S.put x nu).way = S.way := by cases S <;> rfl
theorem KS.put_len (x nu : Int) (S : KS) : (S.put x nu).len ≤ S.len + 1 := by
  cases S with
  | tim n now ps =>
    show (_ ++ _ : List (Int × Int)).length ≤ ps.length + 1
    rw [List.length_append]
    have h1 : (ps.dropWhile (old (now + dt nu - n))).length ≤ ps.length := (List.dropWhile_sublist _).length_le
    split
    · rw [List.length_singleton]; omega
    · rw [List.length_nil]; omega
  | _ => exact Nat.zero_le _
theorem sorted_split (lim : Int) : ∀ ps : List (Int × Int), ps.Pairwise (fun p q => p.1 ≤ q.1) → ∀ p ∈ ps.dropWhile (old lim), lim < p.1
  | [], _, p, hp => by cases hp
  | x :: r, hs, p, hp => by
    obtain ⟨h1, h2⟩ := List.pairwise_cons.mp hs
    by_cases hx : x.1 ≤ lim
    · have e : (x :: r).dropWhile (old lim) = r.dropWhile (old lim) := by rw [List.dropWhile_cons, if_pos (show old lim x = true from decide_eq_true hx)]
      rw [e] at hp
      exact sorted_split lim r h2 p hp
    · have e : (x :: r).dropWhile (old lim) = x :: r := by rw [List.dropWhile_cons, if_neg (show ¬ old lim x = true by unfold old; simpa using hx)]
      rw [e] at hp
      rcases List.mem_cons.mp hp with rfl | hp
      · omega
      · have := h1 p hp
        omega
theorem KS.put_ok (x nu : Int) (S : KS) (h : S.ok) (hl : S.len < 200) : (S.put x nu).ok := by
  cases S with
  | win n row =>
    obtain ⟨n1, n2, hle⟩ := h
    refine ⟨n1, n2, ?_⟩
    unfold wput
    split
    · rw [List.length_append, List.length_tail, List.length_singleton]; omega
    · rw [List.length_append, List.length_singleton]; omega
  | tim n now ps =>
    obtain ⟨n1, n2, hnow, hsort, hall, hps⟩ := h
    obtain ⟨d0, _⟩ := pickT nu
    have hl : ps.length < 200 := hl
    have hlen := KS.put_len x nu (.tim n now ps)
    have hsub := List.dropWhile_sublist (l := ps) (old (now + dt nu - n))
    refine ⟨n1, n2, by omega, ?_, fun p hp => ?_, Nat.le_trans hlen hl⟩
    · refine List.pairwise_append.mpr ⟨hsort.sublist hsub, ?_, fun p hp q hq => ?_⟩
      · split
        · exact List.pairwise_singleton _ _
        · exact List.Pairwise.nil
      · split at hq
        · rw [List.mem_singleton.mp hq]
          have := hall p (hsub.subset hp)
          show p.1 ≤ now + dt nu
          omega
        · cases hq
    · rcases List.mem_append.mp hp with hp | hp
      · have h1 := hall p (hsub.subset hp)
        have h2 := sorted_split _ ps hsort p hp
        exact ⟨h1.1, h2, by omega⟩
      · split at hp
        · rw [List.mem_singleton.mp hp]
          show 0 ≤ now + dt nu ∧ now + dt nu - n < now + dt nu ∧ now + dt nu ≤ now + dt nu
          omega
        · cases hp
  | map n row =>
    obtain ⟨n1, n2, hle, hin⟩ := h
    refine ⟨n1, n2, ?_, fun p hp => ?_⟩
    · unfold lastM
      rw [List.length_drop, List.length_append, List.length_singleton]
      omega
    · rcases List.mem_append.mp (List.mem_of_mem_drop hp) with hp | hp
      · exact hin p hp
      · rw [List.mem_singleton.mp hp]
        exact ⟨Int.emod_nonneg _ (by decide), Int.emod_lt_of_pos _ (by decide), Int.emod_nonneg _ (by decide), Int.emod_lt_of_pos _ (by decide)⟩
  | grp n mo rows =>
    obtain ⟨n1, n2, m1, m2, hle, hnd, hrow⟩ := h
    have hsub : (gkept mo rows (nu % 6)).Sublist rows := by
      unfold gkept
      split
      · exact List.filter_sublist
      · split
        · exact List.tail_sublist _
        · exact List.Sublist.refl _
    have hno : nu % 6 ∉ (gkept mo rows (nu % 6)).map (·.1) := by
      intro q
      obtain ⟨p, hp, e⟩ := List.mem_map.mp q
      by_cases hk : nu % 6 ∈ rows.map (·.1)
      · unfold gkept at hp
        rw [if_pos hk] at hp
        exact (of_decide_eq_true (List.mem_filter.mp hp).2) e
      · exact hk (List.mem_map.mpr ⟨p, hsub.subset hp, e⟩)
    have hlt : (gkept mo rows (nu % 6)).length < mo := by
      unfold gkept
      split
      · rename_i hk
        obtain ⟨p, hp, e⟩ := List.mem_map.mp hk
        have : (rows.filter fun p => decide (p.1 ≠ nu % 6)).length < rows.length := by
          rw [List.length_filter_lt_length_iff_exists]
          exact ⟨p, hp, by simp [e]⟩
        omega
      · split
        · rw [List.length_tail]; omega
        · omega
    have hlk : (look rows (nu % 6)).length ≤ n := by
      unfold look
      cases h : rows.find? fun p => decide (p.1 = nu % 6) with
      | none => exact Nat.zero_le _
      | some p => exact (hrow p (List.mem_of_find?_eq_some h)).2
    refine ⟨n1, n2, m1, m2, ?_, ?_, fun p hp => ?_⟩
    · unfold gput
      rw [List.length_append, List.length_singleton]
      exact hlt
    · unfold gput
      rw [List.map_append]
      refine List.nodup_append.mpr ⟨hnd.sublist (hsub.map _), by simp, fun a ha b hb z => ?_⟩
      rw [List.map_singleton, List.mem_singleton] at hb
      rw [z, hb] at ha
      exact hno ha
    · rcases List.mem_append.mp hp with hp | hp
      · exact hrow p (hsub.subset hp)
      · rw [List.mem_singleton.mp hp]
        refine ⟨?_, ?_⟩
        · show wput n (look rows (nu % 6)) x ≠ []
          unfold wput
          split <;> exact List.append_ne_nil_of_right_ne_nil _ (List.cons_ne_nil _ _)
        · show (wput n (look rows (nu % 6)) x).length ≤ n
          unfold wput
          split
          · rw [List.length_append, List.length_tail, List.length_singleton]; omega
          · rw [List.length_append, List.length_singleton]; omega
/-! data that stands in new objects and in tuples -/
def kern (H H' : Hp) : Hp := fun b => if H b = none then H' b else match H' b with
  | some (.tup xs) => some (.tup xs)
  | _ => none
section
variable {K : PySem.W.Frag} {H H0 H' H2 : Hp} {b a D : Addr} {u : HO} {xs : List V}
theorem kern_new (h : H b = none) (e : H' b = some u) : kern H H' b = some u := (if_pos h).trans e
theorem kern_tup (e : H' b = some (.tup xs)) : kern H H' b = some (.tup xs) := by
  unfold kern
  split
  · exact e
  · rw [e]
theorem kern_sub (e : kern H H' b = some u) : H' b = some u ∧ (H b = none ∨ ∃ xs, u = .tup xs) := by
  unfold kern at e
  split at e
  · rename_i h
    exact ⟨e, .inl h⟩
  · split at e
    · rename_i xs h
      cases e
      exact ⟨h, .inr ⟨xs, rfl⟩⟩
    · cases e
theorem kern_mono (s0 : Same H0 H) (s : Same H' H2) : Same (kern H H') (kern H0 H2) := fun b u e => by
  obtain ⟨h1, h2⟩ := kern_sub e
  rcases h2 with h2 | ⟨xs, rfl⟩
  · exact kern_new (s0.free h2) (s _ _ h1)
  · exact kern_tup (s _ _ h1)
theorem kern_same : Same (kern H H') H' := fun b u e => (kern_sub e).1
end
def pd (p : Int × Int) : PyData := .tuple [.int p.1, .int p.2]
theorem dp_pair {K : PySem.W.Frag} {H : Hp} {a : Addr} {x y : Int} (h : H a = some (.tup [.int x, .int y])) : Dp K H (.ref a) (pd (x, y)) := .tup (SqT.of h) (.cons (.int x) (.cons (.int y) .nil))
theorem dp_pairsA {K : PySem.W.Frag} {H : Hp} : ∀ qs : List (Addr × Int × Int), (∀ q ∈ qs, H q.1 = some (.tup [.int q.2.1, .int q.2.2])) → DpAll K H (qs.map fun q => V.ref q.1) ((qs.map (·.2)).map pd)
  | [], _ => .nil
  | q :: r, h => .cons (dp_pair (h q List.mem_cons_self)) (dp_pairsA r fun q' hq => h q' (List.mem_cons_of_mem _ hq))
theorem RowAt.dpK {K : PySem.W.Frag} {H H' : Hp} {a : Addr} {ps : List (Int × Int)} (h : RowAt H' a ps) (hn : H a = none) : Dp K (kern H H') (.ref a) (.list (ps.map pd)) := by
  obtain ⟨qs, h1, h2, rfl⟩ := h
  exact .lst (SqL.of (kern_new hn h1)) (dp_pairsA qs fun q hq => kern_tup (h2 q hq))
def wordsD (row : List Int) : List PyData := names12.map fun nm => vD (wordV row nm)
theorem dp_wordsA {K : PySem.W.Frag} {H : Hp} (row : List Int) : ∀ nms : List Str, DpAll K H (nms.map fun nm => wordV row nm) (nms.map fun nm => vD (wordV row nm))
  | [] => .nil
  | nm :: r => .cons (vD_dp (wordV_is row nm)) (dp_wordsA row r)
def KS.told : KS → PyData
  | .win _ row => .tuple [.int 0, .list (row.map PyData.int), .list (wordsD row)]
  | .tim _ now ps => .tuple [.int now, .list ((ps.map (·.2)).map PyData.int), .list (wordsD (ps.map (·.2)))]
  | .map _ row => .tuple [pd ((made row 1 - made row 0) % 1000003, made row 0), .int (made row 7), .list (row.map pd)]
  | .grp _ _ rows => .list (rows.map fun p => .tuple [.int p.1, .list (p.2.map PyData.int), .list (wordsD p.2)])
def spTold (K : PySem.W.Frag) : Sp := fun vs H Q _ => ∃ (x : Addr) (own : List Addr) (c : Nat) (S : KS), vs = [.int S.way, .ref x] ∧ KAt K H x own c S ∧ S.ok ∧ ∀ v H', Same H H' → Dp K (kern H H') v S.told → Q v H'
/-- a comprehension over a list that makes data -/
theorem R_lcData {K : PySem.W.Frag} {σ : L2.St} {H : Hp} {te : TE} {j : Nat} {a : Addr} {Q : VK} {xs : List V} (ds : List PyData) (hq : SqL K H a xs) (hlen : ds.length = xs.length) (hz : xs.length ≤ 100000)
    (hs : ∀ (i : Nat) (x : V) (d : PyData) (H' : Hp), xs[i]? = some x → ds[i]? = some d → Same H H' → ∀ Q' : VK, (∀ y H4, Same H' H4 → Dp K (kern H' H4) y d → Q' y H4) → te ((wipe σ [j]).set j (some x)) H' Q')
    (hd : ∀ D H', Same H H' → Dp K (kern H H') (.ref D) (.list ds) → Q (.ref D) H') : RLc (Itl K a) (gName j) tYes te [j] σ H Q := by
  intro D hD
  refine lc_list (xs := xs) (fun i H' => Same H H' ∧ ∃ acc Hf, H' D = some (.lst acc) ∧ acc.length = i ∧ (∀ b u, Hf b = some u → b ≠ D ∧ kern H H' b = some u) ∧ DpAll K Hf acc (ds.take i)) ⟨fun b u e => by rw [upd_ne (ne_of_none e hD)]; exact e, [], noHp, upd_same, rfl, fun b u e => (noHp_no e).elim, .nil⟩ (fun i H' _ p => p.1.seq hq) (fun i x H' hx p => ?_) (fun H' p => ?_)
  · obtain ⟨s, acc, Hf, h1, h2, h3, h4⟩ := p
    have hi : i < ds.length := by rw [hlen]; exact (List.getElem?_eq_some_iff.mp hx).1
    refine ⟨wipe_set, ?_⟩
    refine E_yes ?_
    refine iteT ?_
    refine hs i x ds[i] H' hx (List.getElem?_eq_getElem hi) s _ (fun y H4 s4 hy => ?_)
    refine ⟨acc, s4 _ _ h1, Nat.lt_of_le_of_lt (m := 100000) (by omega) (by decide), ⟨fun b u e => ?_, acc ++ [y], fun b => if b = D then none else kern H (upd H4 D (.lst (acc ++ [y]))) b, upd_same, by rw [List.length_append, List.length_singleton, h2], fun b u e => ?_, ?_⟩⟩
    · rw [upd_ne (ne_of_none e hD)]
      exact s4 b u (s b u e)
    · dsimp only at e
      split at e
      · cases e
      · rename_i hb
        exact ⟨hb, e⟩
    · have km : ∀ b u, b ≠ D → H4 b = some u → (H b = none ∨ ∃ xs, u = .tup xs) → (fun b => if b = D then none else kern H (upd H4 D (.lst (acc ++ [y]))) b) b = some u := fun b u hb e hor => by
        dsimp only
        rw [if_neg hb]
        have e' : upd H4 D (.lst (acc ++ [y])) b = some u := by rw [upd_ne hb]; exact e
        rcases hor with hn | ⟨xs, rfl⟩
        · exact kern_new hn e'
        · exact kern_tup e'
      have q1 : Same Hf (fun b => if b = D then none else kern H (upd H4 D (.lst (acc ++ [y]))) b) := fun b u e => by
        obtain ⟨g1, g2⟩ := h3 b u e
        obtain ⟨g3, g4⟩ := kern_sub g2
        exact km b u g1 (s4 _ _ g3) g4
      have q2 : Same (kern H' H4) (fun b => if b = D then none else kern H (upd H4 D (.lst (acc ++ [y]))) b) := fun b u e => by
        obtain ⟨g3, g4⟩ := kern_sub e
        refine km b u ?_ g3 (g4.imp (fun g => s.free g) id)
        rintro rfl
        rcases g4 with g4 | ⟨xs, rfl⟩
        · rw [h1] at g4
          cases g4
        · rw [s4 _ _ h1] at g3
          cases g3
      rw [List.take_add_one, List.getElem?_eq_getElem hi]
      have app : ∀ {vs : List V} {es : List PyData} {Hx : Hp}, DpAll K Hx vs es → ∀ {v : V} {e : PyData}, Dp K Hx v e → DpAll K Hx (vs ++ [v]) (es ++ [e]) := by
        intro vs es Hx hA
        induction vs generalizing es with
        | nil => intro v e he; cases hA; exact .cons he .nil
        | cons w r ih => intro v e he; cases hA with
          | cons h t => exact .cons h (ih t he)
      exact app (DpAll.mono q1 h4) (Dp.mono q2 hy)
  · obtain ⟨s, acc, Hf, h1, h2, h3, h4⟩ := p
    rw [← hlen, List.take_length] at h4
    exact hd D H' s (.lst (SqL.of (kern_new hD h1)) (DpAll.mono (fun b u e => (h3 b u e).2) h4))
end LF

set_option maxRecDepth 100000
set_option maxHeartbeats 4000000
namespace LF
open PySem PySem.Spec PyProof.Rows L2


theorem names_at {row : List Int} {i : Nat} {x y : V} (hx : (names12.map V.str)[i]? = some x) (hy : (names12.map fun nm => wordV row nm)[i]? = some y) : ∃ nm ∈ names12, x = V.str nm ∧ y = wordV row nm := by
  rw [List.getElem?_map] at hx hy
  cases e : names12[i]? with
  | none => rw [e] at hx; cases hx
  | some nm =>
    rw [e] at hx hy
    exact ⟨nm, List.mem_of_getElem? e, (Option.some.inj hx).symm, (Option.some.inj hy).symm⟩
section
variable {P : Program} {w : World} {K : PySem.W.Frag} {mg : Str → Option Value} {base : Heap} {D : Str × Option Str → FuncData}
theorem ok_l_told (T : Txt K mg D) : FnOk P w K mg base CX0 8 (He.ga K "_law_told") (D ("_law_told", none)) ["_law_way", "_law_kept"] (spTold K) := by
  refine T.l_told.F.ok sc_l_told (fun vs H Q E h => ?_) (fun cdv A outer s H vs Q E hr h => ?_)
  · obtain ⟨x, own, c, S, rfl, _⟩ := h
    rfl
  · obtain ⟨x, own, c, S, rfl, A, ok, kq⟩ := h
    have fcWindow := T.cWindow.cl; have fnWindowsize := T.n_Window_size; have fnWindowtally := T.n_Window_tally; have fcTimed := T.cTimed.cl; have fnTimedspan := T.n_Timed_span; have fnTimednow := T.n_Timed_now; have fnTimedtimes := T.n_Timed_times; have fnTimedtally := T.n_Timed_tally; have fcMaps := T.cMaps.cl; have fnMapssize := T.n_Maps_size; have fnMapsold := T.n_Maps_old; have fnMapsnew := T.n_Maps_new; have fnMapslast := T.n_Maps_last; have fcGroups := T.cGroups.cl; have fnGroupssize := T.n_Groups_size; have fnGroupsmost := T.n_Groups_most; have fnGroupsorder := T.n_Groups_order; have fnGroupswindows := T.n_Groups_windows
    refine ⟨_, PSs.nox (pss_cons (ps_set (i := 2) sc_l_told.nd rfl (Or.inr rfl) (pe_call0 (ok_l_names T) (by exact hr.mono (by decide)) (by rfl) T.l_names.g T.l_names.F.kp T.l_names.b .nil pass0))
      (pss_cons (ps_if (pt_cmpR op_eq (pv 0) pe_int (nomark _)) (pss_one (ps_ret (pe_tup (pa_cons (pe_meth0 (pv 1) T.cMaps.cl T.Maps_whole.me (ok_Maps_whole T) (by exact hr.mono (by decide)) T.Maps_whole.b .nil pass0) (pa_cons (pe_meth (pv 1) T.cMaps.cl T.Maps_at.me (ok_Maps_at T) (by exact hr.mono (by decide)) T.Maps_at.b .nil pass0 (pa_cons pe_int pa_nil)) (pa_cons (pe_meth0 (pv 1) T.cMaps.cl T.Maps_maps.me (ok_Maps_maps T) (by exact hr.mono (by decide)) T.Maps_maps.b .nil pass0) pa_nil)))))) pss_nil)
      (pss_cons (ps_if (pt_cmpR op_eq (pv 0) pe_int (nomark _)) (pss_one (ps_ret (pe_lc (own := [("_law_key", 4)]) (g := gName 4) (tt := tYes) (by rfl) sc_l_told.nd (pi_listK (K := K) rfl (pe_meth0 (pv 1) T.cGroups.cl T.Groups_used.me (ok_Groups_used T) (by exact hr.mono (by decide)) T.Groups_used.b .nil pass0)) (blkOk_by (by kernel_rfl)) (fun _ _ _ _ _ => pg_name (i := 4) sc_l_told.nd rfl (Or.inr rfl)) (fun _ _ _ _ _ => pts_nil) (fun _ _ _ _ _ => (pe_tup (pa_cons (pv 4) (pa_cons (pe_meth (pv 1) T.cGroups.cl T.Groups_things.me (ok_Groups_things T) (by exact hr.mono (by decide)) T.Groups_things.b .nil pass0 (pa_cons (pv 4) pa_nil)) (pa_cons (pe_lc (own := [("_law_name", 3)]) (g := gName 3) (tt := tYes) (by rfl) sc_l_told.nd (pi_listK (K := K) rfl (pv 2)) (blkOk_by (by kernel_rfl)) (fun _ _ _ _ _ => pg_name (i := 3) sc_l_told.nd rfl (Or.inl rfl)) (fun _ _ _ _ _ => pts_nil) (fun _ _ _ _ _ => (pe_meth (pv 1) T.cGroups.cl T.Groups_word.me (ok_Groups_word T) (by exact hr.mono (by decide)) T.Groups_word.b .nil pass0 (pa_cons (pv 4) (pa_cons (pv 3) pa_nil))))) pa_nil)))))))) pss_nil)
      (pss_cons (ps_set (i := 5) sc_l_told.nd rfl (Or.inl rfl) (pe_ifExp (pt_cmpR op_eq (pv 0) pe_int (nomark _)) (pe_meth0 (pv 1) T.cTimed.cl T.Timed_time.me (ok_Timed_time T) (by exact hr.mono (by decide)) T.Timed_time.b .nil pass0) pe_int))
      (pss_one (ps_ret (pe_tup (pa_cons (pv 5) (pa_cons (pe_or (pe_meth0 (pv 1) T.cWindow.cl T.Window_things.me (ok_Window_things T) (by exact hr.mono (by decide)) T.Window_things.b .nil pass0) (pe_meth0 (pv 1) T.cTimed.cl T.Timed_things.me (ok_Timed_things T) (by exact hr.mono (by decide)) T.Timed_things.b .nil pass0)) (pa_cons (pe_lc (own := [("_law_name", 3)]) (g := gName 3) (tt := tYes) (by rfl) sc_l_told.nd (pi_listK (K := K) rfl (pv 2)) (blkOk_by (by kernel_rfl)) (fun _ _ _ _ _ => pg_name (i := 3) sc_l_told.nd rfl (Or.inl rfl)) (fun _ _ _ _ _ => pts_nil) (fun _ _ _ _ _ => (pe_or (pe_meth (pv 1) T.cWindow.cl T.Window_word.me (ok_Window_word T) (by exact hr.mono (by decide)) T.Window_word.b .nil pass0 (pa_cons (pv 3) pa_nil)) (pe_meth (pv 1) T.cTimed.cl T.Timed_word.me (ok_Timed_word T) (by exact hr.mono (by decide)) T.Timed_word.b .nil pass0 (pa_cons (pv 3) pa_nil))))) pa_nil)))))))))), ?_⟩
    walk_at "in"
    refine ⟨rfl, fun l0 H1 nl0 s1 hl0 => ?_⟩
    have A1 := A.ex s1
    walk_at "go"
    cases S with
    | win n row =>
      obtain ⟨n1, n2, hle⟩ := ok
      obtain ⟨t, r, k, o, W, _⟩ := A1
      obtain ⟨⟨dx, h1⟩, _⟩ := id W
      refine iteBF rfl ?_
      walk_at "go"
      refine iteBF rfl ?_
      walk_at "go"
      refine iteBF rfl ?_
      walk_at "go"
      refine E_tupA ?_
      walk_at "go"
      refine E_or1 ?_
      walk_at "go"
      refine ⟨x, t, r, k, o, n, row, rfl, W, fun l2 H2 nl2 s2 hl2 => ?_⟩
      have hl0' := s2 _ _ hl0
      walk_at "go"
      refine R_lcMap (xs := names12.map V.str) (ys := names12.map fun nm => wordV row nm) (SqL.of hl0') rfl (Nat.le_of_ble_eq_true rfl) (fun i x' y H3 hx hy s3 Q' kQ => ?_) (fun Dl H3 hD s3 h3 => ?_)
      · obtain ⟨nm, hnm, rfl, rfl⟩ := names_at hx hy
        have h13 := (s2.trans s3) _ _ h1
        walk_at "go"
        refine E_or1 ?_
        walk_at "go"
        exact ⟨x, t, r, k, o, n, row, nm, rfl, W.ex (s2.trans s3), hnm, fun H4 s4 => kQ _ s4⟩
      · walk_at "go"
        refine R_tupA (Nat.le_of_ble_eq_true rfl) fun tt ntt => ?_
        have s4 := same_upd (o := HO.tup [V.int 0, V.ref l2, V.ref Dl]) ntt (Same.refl H3)
        refine kq _ _ (((s1.trans s2).trans s3).trans s4) (.tup (SqT.of (kern_tup upd_same)) (.cons (.int 0) (.cons (.lst (SqL.of (kern_new (s1.free nl2) ((s3.trans s4) _ _ hl2))) (dp_intsA row)) (.cons (.lst (SqL.of (kern_new ((s1.trans s2).free hD) (s4 _ _ h3))) (dp_wordsA row names12)) .nil))))
    | tim n now ps =>
      obtain ⟨n1, n2, hnow, _, _, hps⟩ := ok
      obtain ⟨tm, t, r, k, o, W, _⟩ := A1
      obtain ⟨⟨dx, h1⟩, _⟩ := id W
      refine iteBF rfl ?_
      walk_at "go"
      refine iteBF rfl ?_
      walk_at "go"
      refine iteBT rfl ?_
      walk_at "go"
      refine ⟨x, tm, t, r, k, o, n, now, ps, rfl, W, ?_⟩
      walk_at "go"
      refine E_tupA ?_
      walk_at "go"
      refine E_or2 ?_
      walk_at "go"
      refine ⟨x, tm, t, r, k, o, n, now, ps, rfl, W, fun l2 H2 nl2 s2 hl2 => ?_⟩
      have hl0' := s2 _ _ hl0
      walk_at "go"
      refine R_lcMap (xs := names12.map V.str) (ys := names12.map fun nm => wordV (ps.map (·.2)) nm) (SqL.of hl0') rfl (Nat.le_of_ble_eq_true rfl) (fun i x' y H3 hx hy s3 Q' kQ => ?_) (fun Dl H3 hD s3 h3 => ?_)
      · obtain ⟨nm, hnm, rfl, rfl⟩ := names_at hx hy
        have h13 := (s2.trans s3) _ _ h1
        walk_at "go"
        refine E_or2 ?_
        walk_at "go"
        exact ⟨x, tm, t, r, k, o, n, now, ps, nm, rfl, W.ex (s2.trans s3), by omega, hnm, fun H4 s4 => kQ _ s4⟩
      · walk_at "go"
        refine R_tupA (Nat.le_of_ble_eq_true rfl) fun tt ntt => ?_
        have s4 := same_upd (o := HO.tup [V.int now, V.ref l2, V.ref Dl]) ntt (Same.refl H3)
        refine kq _ _ (((s1.trans s2).trans s3).trans s4) (.tup (SqT.of (kern_tup upd_same)) (.cons (.int now) (.cons (.lst (SqL.of (kern_new (s1.free nl2) ((s3.trans s4) _ _ hl2))) (dp_intsA _)) (.cons (.lst (SqL.of (kern_new ((s1.trans s2).free hD) (s4 _ _ h3))) (dp_wordsA _ names12)) .nil))))
    | map n row =>
      obtain ⟨oa, na, M, _⟩ := A1
      obtain ⟨⟨la, dx, h1⟩, _, _⟩ := M.addrs
      refine iteBT rfl ?_
      walk_at "go"
      refine E_tupA ?_
      walk_at "go"
      refine ⟨x, oa, na, n, row, rfl, M, fun p cc H2 rep s2 hp => ?_⟩
      have h12 := s2 _ _ h1
      walk_at "go"
      refine ⟨x, oa, na, n, row, 7, rfl, M.ex s2, fun H3 s3 => ?_⟩
      have h13 := s3 _ _ h12
      walk_at "go"
      refine ⟨x, oa, na, n, row, rfl, M.ex (s2.trans s3), fun l H4 nl s4 R4 => ?_⟩
      walk_at "go"
      refine R_tupA (Nat.le_of_ble_eq_true rfl) fun tt ntt => ?_
      have s5 := same_upd (o := HO.tup [V.ref p, V.int (made row 7), V.ref l]) ntt (Same.refl H4)
      have s15 := s1.trans (((s2.trans s3).trans s4).trans s5)
      have hp5 := ((s3.trans s4).trans s5) _ _ hp
      rw [rep.pair] at hp5
      refine kq _ _ s15 (.tup (SqT.of (kern_tup upd_same)) (.cons (dp_pair (kern_tup hp5)) (.cons (.int _) (.cons (RowAt.dpK (R4.ex s5) ((s1.trans (s2.trans s3)).free nl)) .nil))))
    | grp n mo rows =>
      obtain ⟨n1, n2, m1, m2, hle, hnd, hrow⟩ := ok
      obtain ⟨oa, wa, es, G, hab, _⟩ := A1
      obtain ⟨⟨dx, h1⟩, _⟩ := id G
      refine iteBF rfl ?_
      walk_at "go"
      refine iteBT rfl ?_
      walk_at "go"
      refine ⟨x, oa, wa, n, mo, c, es, rfl, G, fun l2 H2 nl2 s2 hl2 => ?_⟩
      walk_at "go"
      refine R_lcData (xs := (es.map (·.key)).map V.int) (rows.map fun p => .tuple [.int p.1, .list (p.2.map PyData.int), .list (wordsD p.2)]) (SqL.of hl2) (by rw [← hab, List.length_map, List.length_map, List.length_map, List.length_map]) (by rw [List.length_map, List.length_map, show es.length = rows.length by rw [← hab, List.length_map]]; omega) (fun i y d H3 hy hd s3 Q' kQ => ?_) (fun Dl H3 s3 hD => ?_)
      · rw [List.getElem?_map, List.getElem?_map] at hy
        rw [← hab, List.getElem?_map, List.getElem?_map] at hd
        cases ee : es[i]? with
        | none => rw [ee] at hy; cases hy
        | some e =>
          rw [ee] at hy hd
          have ey := Option.some.inj hy
          have ed := Option.some.inj hd
          subst ey ed
          have he := List.mem_of_getElem? ee
          have s23 := s2.trans s3
          have h13 := s23 _ _ h1
          walk_at "go"
          refine E_tupA ?_
          walk_at "go"
          refine ⟨x, oa, wa, n, mo, c, es, e, rfl, GAtK.ex G s23, he, fun l4 H4 nl4 s4 hl4 => ?_⟩
          have hl04 := (s23.trans s4) _ _ hl0
          walk_at "go"
          refine R_lcMap (xs := names12.map V.str) (ys := names12.map fun nm => wordV e.row nm) (SqL.of hl04) rfl (Nat.le_of_ble_eq_true rfl) (fun i x' y H5 hx hy s5 Q' kQ => ?_) (fun D5 H5 hD5 s5 h5 => ?_)
          · obtain ⟨nm, hnm, rfl, rfl⟩ := names_at hx hy
            have h15 := ((s23.trans s4).trans s5) _ _ h1
            walk_at "go"
            exact ⟨x, oa, wa, n, mo, c, es, e, nm, rfl, GAtK.ex G ((s23.trans s4).trans s5), he, hnm, fun H6 s6 => kQ _ s6⟩
          · walk_at "go"
            refine R_tupA (Nat.le_of_ble_eq_true rfl) fun tt ntt => ?_
            have s6 := same_upd (o := HO.tup [V.int e.key, V.ref l4, V.ref D5]) ntt (Same.refl H5)
            exact kQ _ _ ((s4.trans s5).trans s6) (.tup (SqT.of (kern_tup upd_same)) (.cons (.int e.key) (.cons (.lst (SqL.of (kern_new nl4 ((s5.trans s6) _ _ hl4))) (dp_intsA _)) (.cons (.lst (SqL.of (kern_new (s4.free hD5) (s6 _ _ h5))) (dp_wordsA _ names12)) .nil))))
      · exact kq _ _ ((s1.trans s2).trans s3) (Dp.mono (kern_mono (s1.trans s2) (Same.refl _)) hD)
end
end LF

set_option maxRecDepth 100000
set_option maxHeartbeats 4000000
namespace LF
open PySem PySem.Spec PyProof.Rows L2


theorem kat_keep {K : PySem.W.Frag} {H H' : Hp} {x : Addr} {own : List Addr} {c : Nat} {S : KS} (A : KAt K H x own c S) (kp : ∀ b u, H b = some u → (b ∈ own ∨ ∃ xs, u = .tup xs) → H' b = some u) : KAt K H' x own c S := by
  cases S with
  | win n row =>
    obtain ⟨t, r, k, o, W, rfl⟩ := A
    exact ⟨t, r, k, o, W.same fun b u hb hu => kp b u hu (.inl (by rcases hb with rfl | rfl | rfl | rfl | rfl <;> simp)), rfl⟩
  | tim n now ps =>
    obtain ⟨tm, t, r, k, o, W, rfl⟩ := A
    exact ⟨tm, t, r, k, o, W.same fun b u hb hu => kp b u hu (.inl (by rcases hb with rfl | rfl | rfl | rfl | rfl | rfl <;> simp)), rfl⟩
  | map n row =>
    obtain ⟨oa, na, M, rfl⟩ := A
    refine ⟨oa, na, M.same fun b u hu hb => kp b u hu ?_, rfl⟩
    rcases hb with rfl | rfl | rfl | hb
    · exact .inl (by simp)
    · exact .inl (by simp)
    · exact .inl (by simp)
    · exact .inr hb
  | grp n mo rows =>
    obtain ⟨oa, wa, es, G, hab, rfl⟩ := A
    obtain ⟨⟨dx, h1⟩, h2, ⟨kvs, h3, h4⟩, h5, h6, h7, h8, n1, n2, m1, m2, le⟩ := G
    exact ⟨oa, wa, es, ⟨⟨dx, kp _ _ h1 (.inl (by simp))⟩, kp _ _ h2 (.inl (by simp)), ⟨kvs, kp _ _ h3 (.inl (by simp)), h4⟩, fun e he => (h5 e he).same fun b u hb hu => kp b u hu (.inl (List.mem_cons_of_mem _ (List.mem_cons_of_mem _ (List.mem_cons_of_mem _ (List.mem_flatMap.mpr ⟨e, he, hb⟩))))), h6, h7, h8, n1, n2, m1, m2, le⟩, hab, rfl⟩
/-- a put into the other leaves this one as it is -/
theorem kat_apart {K : PySem.W.Frag} {H H' : Hp} {x x2 : Addr} {own own2 : List Addr} {c c2 : Nat} {S S2 : KS} (A : KAt K H x own c S) (B : KAt K H x2 own2 c2 S2) (dj : ∀ b ∈ own, b ∉ own2) (fr : ∀ b u, H b = some u → b ∉ own2 → H' b = some u) : KAt K H' x own c S := by
  refine kat_keep A fun b u hu hb => fr b u hu fun h2 => ?_
  rcases hb with hb | ⟨xs, rfl⟩
  · exact dj b hb h2
  · obtain ⟨u, h3, h4⟩ := B.some b h2
    rw [hu] at h3
    exact h4 xs (Option.some.inj h3).symm
theorem saved_win (n : Nat) (row : List Int) : (KS.win n row).saved.length = 2 + row.length := by
  show (_ ++ _ : List Int).length = _
  rw [List.length_append]
  rfl
theorem saved_tim (n : Nat) (now : Int) (ps : List (Int × Int)) : (KS.tim n now ps).saved.length = 3 + 2 * ps.length := by
  show (_ ++ _ ++ _ : List Int).length = _
  rw [List.length_append, List.length_append, List.length_map, List.length_map]
  simp only [List.length_cons, List.length_nil]
  omega
theorem saved_map (n : Nat) (row : List (Int × Int)) : (KS.map n row).saved.length = 2 + 2 * row.length := by
  show (_ ++ _ : List Int).length = _
  rw [List.length_append, pairs_len]
  rfl
theorem saved_grp (n mo : Nat) (rows : List (Int × List Int)) : ((KS.grp n mo rows).saved.length : Int) ≤ 3 + (rows.map fun p => 2 + 2 * (p.2.length : Int)).sum := by
  show ((_ ++ _ : List Int).length : Int) ≤ _
  rw [List.length_append]
  have h : ((rows.flatMap fun p => [p.1, (p.2.length : Int)] ++ p.2).length : Int) ≤ (rows.map fun p => 2 + 2 * (p.2.length : Int)).sum := by
    induction rows with
    | nil => exact Int.le_refl _
    | cons p r ih =>
      rw [List.flatMap_cons, List.map_cons, List.sum_cons]
      simp only [List.length_append, List.length_cons, List.length_nil] at ih ⊢
      omega
  simp only [List.length_cons, List.length_nil]
  omega
def spRoom (K : PySem.W.Frag) : Sp := fun vs H Q _ => ∃ (x : Addr) (own : List Addr) (c : Nat) (S : KS), vs = [.int S.way, .ref x] ∧ KAt K H x own c S ∧ S.ok ∧ ∀ (r : Int) H', Same H H' → (S.saved.length : Int) ≤ r → Q (.int r) H'
section
variable {P : Program} {w : World} {K : PySem.W.Frag} {mg : Str → Option Value} {base : Heap} {D : Str × Option Str → FuncData}
theorem ok_l_room (T : Txt K mg D) : FnOk P w K mg base CX0 4 (He.ga K "_law_room") (D ("_law_room", none)) ["_law_way", "_law_kept"] (spRoom K) := by
  refine T.l_room.F.ok sc_l_room (fun vs H Q E h => ?_) (fun cdv A outer s H vs Q E hr h => ?_)
  · obtain ⟨x, own, c, S, rfl, _⟩ := h
    rfl
  · obtain ⟨x, own, c, S, rfl, A, ok, kq⟩ := h
    have fcWindow := T.cWindow.cl; have fnWindowsize := T.n_Window_size; have fnWindowtally := T.n_Window_tally; have fcTimed := T.cTimed.cl; have fnTimedspan := T.n_Timed_span; have fnTimednow := T.n_Timed_now; have fnTimedtimes := T.n_Timed_times; have fnTimedtally := T.n_Timed_tally; have fcMaps := T.cMaps.cl; have fnMapssize := T.n_Maps_size; have fnMapsold := T.n_Maps_old; have fnMapsnew := T.n_Maps_new; have fnMapslast := T.n_Maps_last; have fcGroups := T.cGroups.cl; have fnGroupssize := T.n_Groups_size; have fnGroupsmost := T.n_Groups_most; have fnGroupsorder := T.n_Groups_order; have fnGroupswindows := T.n_Groups_windows
    refine ⟨_, PSs.nox (pss_cons (ps_if (pt_cmpR op_eq (pv 0) pe_int (nomark _)) (pss_one (ps_ret (pe_op op_add pe_int (pe_op op_mul pe_int (pe_callB (call_lenK (K := K) rfl) (by rfl) T.z_len PySem.boot_len (pa_cons (pe_meth0 (pv 1) T.cMaps.cl T.Maps_maps.me (ok_Maps_maps T) (by exact hr.mono (by decide)) T.Maps_maps.b .nil pass0) pa_nil)))))) pss_nil)
      (pss_cons (ps_if (pt_cmpR op_eq (pv 0) pe_int (nomark _)) (pss_one (ps_ret (pe_op op_add pe_int (pe_callB (cr_sumK (K := K) rfl rfl) (by rfl) T.z_sum (by decide +kernel) (pa_cons (pe_lc (own := [("_law_key", 2)]) (g := gName 2) (tt := tYes) (by rfl) sc_l_room.nd (pi_listK (K := K) rfl (pe_meth0 (pv 1) T.cGroups.cl T.Groups_used.me (ok_Groups_used T) (by exact hr.mono (by decide)) T.Groups_used.b .nil pass0)) (blkOk_by (by kernel_rfl)) (fun _ _ _ _ _ => pg_name (i := 2) sc_l_room.nd rfl (Or.inl rfl)) (fun _ _ _ _ _ => pts_nil) (fun _ _ _ _ _ => (pe_op op_add pe_int (pe_op op_mul pe_int (pe_callB (call_lenK (K := K) rfl) (by rfl) T.z_len PySem.boot_len (pa_cons (pe_meth (pv 1) T.cGroups.cl T.Groups_things.me (ok_Groups_things T) (by exact hr.mono (by decide)) T.Groups_things.b .nil pass0 (pa_cons (pv 2) pa_nil)) pa_nil)))))) pa_nil))))) pss_nil)
      (pss_one (ps_ret (pe_op op_add pe_int (pe_op op_mul pe_int (pe_callB (call_lenK (K := K) rfl) (by rfl) T.z_len PySem.boot_len (pa_cons (pe_or (pe_meth0 (pv 1) T.cWindow.cl T.Window_things.me (ok_Window_things T) (by exact hr.mono (by decide)) T.Window_things.b .nil pass0) (pe_meth0 (pv 1) T.cTimed.cl T.Timed_things.me (ok_Timed_things T) (by exact hr.mono (by decide)) T.Timed_things.b .nil pass0)) pa_nil)))))))), ?_⟩
    walk_at "in"
    cases S with
    | win n row =>
      obtain ⟨t, r, k, o, W, _⟩ := A
      obtain ⟨⟨dx, h1⟩, _⟩ := id W
      refine iteBF rfl ?_
      walk_at "go"
      refine iteBF rfl ?_
      walk_at "go"
      refine E_or1 ?_
      walk_at "go"
      refine ⟨x, t, r, k, o, n, row, rfl, W, fun l2 H2 nl2 s2 hl2 => ?_⟩
      walk_at "go"
      refine kq _ _ s2 ?_
      rw [saved_win, List.length_map]
      omega
    | tim n now ps =>
      obtain ⟨tm, t, r, k, o, W, _⟩ := A
      obtain ⟨⟨dx, h1⟩, _⟩ := id W
      refine iteBF rfl ?_
      walk_at "go"
      refine iteBF rfl ?_
      walk_at "go"
      refine E_or2 ?_
      walk_at "go"
      refine ⟨x, tm, t, r, k, o, n, now, ps, rfl, W, fun l2 H2 nl2 s2 hl2 => ?_⟩
      walk_at "go"
      refine kq _ _ s2 ?_
      rw [saved_tim, List.length_map, List.length_map]
      omega
    | map n row =>
      obtain ⟨oa, na, M, _⟩ := A
      obtain ⟨⟨la, dx, h1⟩, _, _⟩ := M.addrs
      refine iteBT rfl ?_
      walk_at "go"
      refine ⟨x, oa, na, n, row, rfl, M, fun l H4 nl s4 R4 => ?_⟩
      obtain ⟨qs, r1, r2, r3⟩ := R4
      walk_at "go"
      refine kq _ _ s4 ?_
      rw [saved_map, List.length_map, ← r3, List.length_map]
      omega
    | grp n mo rows =>
      obtain ⟨n1, n2, m1, m2, hle, hnd, hrow⟩ := ok
      obtain ⟨oa, wa, es, G, hab, _⟩ := A
      obtain ⟨⟨dx, h1⟩, _⟩ := id G
      refine iteBF rfl ?_
      walk_at "go"
      refine iteBT rfl ?_
      walk_at "go"
      refine ⟨x, oa, wa, n, mo, c, es, rfl, G, fun l2 H2 nl2 s2 hl2 => ?_⟩
      walk_at "go"
      refine R_lcMap (xs := (es.map (·.key)).map V.int) (ys := (rows.map fun p => 2 + 2 * (p.2.length : Int)).map V.int) (SqL.of hl2) (by rw [← hab, List.length_map, List.length_map, List.length_map, List.length_map, List.length_map]) (by rw [List.length_map, List.length_map, show es.length = rows.length by rw [← hab, List.length_map]]; omega) (fun i y d H3 hy hd s3 Q' kQ => ?_) (fun Dl H3 hD s3 h3 => ?_)
      · rw [List.getElem?_map, List.getElem?_map] at hy
        rw [← hab, List.getElem?_map, List.getElem?_map, List.getElem?_map] at hd
        cases ee : es[i]? with
        | none => rw [ee] at hy; cases hy
        | some e =>
          rw [ee] at hy hd
          have ey := Option.some.inj hy
          have ed := Option.some.inj hd
          subst ey ed
          have he := List.mem_of_getElem? ee
          have s23 := s2.trans s3
          have h13 := s23 _ _ h1
          walk_at "go"
          refine ⟨x, oa, wa, n, mo, c, es, e, rfl, GAtK.ex G s23, he, fun l4 H4 nl4 s4 hl4 => ?_⟩
          walk_at "go"
          rw [List.length_map]
          exact kQ _ s4
      · walk_at "go"
        refine kq _ _ (s2.trans s3) ?_
        have := saved_grp n mo rows
        omega
end
end LF

set_option maxRecDepth 100000
set_option maxHeartbeats 4000000
namespace LF
open PySem PySem.Spec PyProof.Rows L2

/-! ### the data is shaped -/
def Lay (k : Nat) (d : PyData) : Prop := d.canLay0 = true ∧ d.depth ≤ k
theorem lay_all {k : Nat} : ∀ {ds : List PyData}, (∀ d ∈ ds, Lay k d) → PyData.canLayAll0 ds = true ∧ PyData.depthAll ds ≤ k
  | [], _ => ⟨rfl, Nat.zero_le _⟩
  | d :: r, h => by
    obtain ⟨h1, h2⟩ := lay_all fun d' hd => h d' (List.mem_cons_of_mem _ hd)
    obtain ⟨h3, h4⟩ := h d List.mem_cons_self
    refine ⟨?_, ?_⟩
    · rw [PyData.canLayAll0, h3, h1]
      rfl
    · rw [PyData.depthAll]
      omega
theorem lay_list {k : Nat} {ds : List PyData} (h : ∀ d ∈ ds, Lay k d) : Lay (k + 1) (.list ds) := by
  obtain ⟨h1, h2⟩ := lay_all h
  refine ⟨?_, ?_⟩
  · rw [PyData.canLay0, h1]
  · rw [PyData.depth]
    omega
theorem lay_tup {k : Nat} {ds : List PyData} (h : ∀ d ∈ ds, Lay k d) : Lay (k + 1) (.tuple ds) := by
  obtain ⟨h1, h2⟩ := lay_all h
  refine ⟨?_, ?_⟩
  · rw [PyData.canLay0, h1]
  · rw [PyData.depth]
    omega
theorem Lay.up {k m : Nat} {d : PyData} (h : Lay k d) (e : k ≤ m) : Lay m d := ⟨h.1, Nat.le_trans h.2 e⟩
theorem lay_int (i : Int) : Lay 0 (.int i) := ⟨rfl, Nat.le_refl _⟩
theorem lay_vD (v : V) : Lay 0 (vD v) := by
  unfold vD
  split
  · exact lay_int _
  · exact ⟨rfl, Nat.le_refl _⟩
theorem lay_ints (ns : List Int) : Lay 1 (.list (ns.map PyData.int)) := lay_list fun d hd => by
  obtain ⟨i, _, rfl⟩ := List.mem_map.mp hd
  exact lay_int i
theorem lay_words (row : List Int) : Lay 1 (.list (wordsD row)) := lay_list fun d hd => by
  obtain ⟨i, _, rfl⟩ := List.mem_map.mp hd
  exact lay_vD _
theorem lay_three {k : Nat} {a b c : PyData} (h1 : Lay k a) (h2 : Lay k b) (h3 : Lay k c) : Lay (k + 1) (.tuple [a, b, c]) := lay_tup fun d hd => by
  simp only [List.mem_cons, List.not_mem_nil, or_false] at hd
  rcases hd with rfl | rfl | rfl <;> assumption
theorem lay_pd (p : Int × Int) : Lay 1 (pd p) := lay_tup fun d hd => by
  simp only [List.mem_cons, List.not_mem_nil, or_false] at hd
  rcases hd with rfl | rfl <;> exact lay_int _
theorem Lay.shaped {k : Nat} {d : PyData} (h : Lay k d) (e : k ≤ 64) : SeqAt.shaped d = true := by
  unfold SeqAt.shaped
  rw [h.1, Bool.true_and]
  exact decide_eq_true (Nat.le_trans h.2 e)
theorem told_shaped (S : KS) : SeqAt.shaped S.told = true := by
  cases S with
  | win n row => exact (lay_three ((lay_int 0).up (by decide)) (lay_ints row) (lay_words row)).shaped (by decide)
  | tim n now ps => exact (lay_three ((lay_int now).up (by decide)) (lay_ints _) (lay_words _)).shaped (by decide)
  | map n row =>
    refine (lay_three (k := 2) ((lay_pd _).up (by decide)) ((lay_int _).up (by decide)) (lay_list fun d hd => ?_)).shaped (by decide)
    obtain ⟨p, _, rfl⟩ := List.mem_map.mp hd
    exact lay_pd p
  | grp n mo rows =>
    refine (lay_list (k := 2) fun d hd => ?_).shaped (by decide)
    obtain ⟨p, _, rfl⟩ := List.mem_map.mp hd
    exact lay_three ((lay_int _).up (by decide)) (lay_ints _) (lay_words _)
theorem ret_shaped (x nu : Int) (S : KS) : SeqAt.shaped (S.ret x nu) = true := by
  cases S with
  | win n row => exact (lay_vD _).shaped (by decide)
  | tim n now ps => exact (lay_ints _).shaped (by decide)
  | map n row => rfl
  | grp n mo rows => exact (lay_vD _).shaped (by decide)
end LF

set_option maxRecDepth 100000
set_option maxHeartbeats 4000000
namespace LF
open PySem PySem.Spec PyProof.Rows L2


theorem pick5 (z : Int) (h0 : 0 ≤ z) (h1 : z < 5) : ∃ n : Nat, 1 ≤ n ∧ n ≤ 9 ∧ atI [V.int 1, V.int 2, V.int 3, V.int 5, V.int 9] z = some (.int n) := by
  have h : z = 0 ∨ z = 1 ∨ z = 2 ∨ z = 3 ∨ z = 4 := by omega
  rcases h with rfl | rfl | rfl | rfl | rfl
  · exact ⟨1, by decide, by decide, rfl⟩
  · exact ⟨2, by decide, by decide, rfl⟩
  · exact ⟨3, by decide, by decide, rfl⟩
  · exact ⟨5, by decide, by decide, rfl⟩
  · exact ⟨9, by decide, by decide, rfl⟩
theorem mem5 {P : Addr → Prop} {a b c d e : Addr} (h1 : P a) (h2 : P b) (h3 : P c) (h4 : P d) (h5 : P e) : ∀ x ∈ [a, b, c, d, e], P x := by
  intro x hx
  simp only [List.mem_cons, List.not_mem_nil, or_false] at hx
  rcases hx with rfl | rfl | rfl | rfl | rfl <;> assumption
theorem mem6 {P : Addr → Prop} {a b c d e f : Addr} (h1 : P a) (h2 : P b) (h3 : P c) (h4 : P d) (h5 : P e) (h6 : P f) : ∀ x ∈ [a, b, c, d, e, f], P x := by
  intro x hx
  simp only [List.mem_cons, List.not_mem_nil, or_false] at hx
  rcases hx with rfl | rfl | rfl | rfl | rfl | rfl <;> assumption
theorem mem3 {P : Addr → Prop} {a b c : Addr} (h1 : P a) (h2 : P b) (h3 : P c) : ∀ x ∈ [a, b, c], P x := by
  intro x hx
  simp only [List.mem_cons, List.not_mem_nil, or_false] at hx
  rcases hx with rfl | rfl | rfl <;> assumption
theorem same_mk {H : Hp} {x dx : Addr} {C : Addr} (nx : H x = none) (ndx : H dx = none) : Same H (upd (upd H dx (.own x)) x (.ins C dx [])) := fun b u e => by
  rw [upd_ne (ne_of_none e nx), upd_ne (ne_of_none e ndx)]
  exact e
theorem saved_le (S : KS) (h : S.ok) : S.saved.length ≤ 1000 := by
  cases S with
  | win n row =>
    obtain ⟨n1, n2, hle⟩ := h
    rw [saved_win]
    omega
  | tim n now ps =>
    have := h.2.2.2.2.2
    rw [saved_tim]
    omega
  | map n row =>
    obtain ⟨n1, n2, hle, _⟩ := h
    rw [saved_map]
    omega
  | grp n mo rows =>
    obtain ⟨n1, n2, m1, m2, hle, _, hrow⟩ := h
    have h1 := saved_grp n mo rows
    have h2 : ∀ rs : List (Int × List Int), (∀ p ∈ rs, p.2.length ≤ 9) → (rs.map fun p => 2 + 2 * (p.2.length : Int)).sum ≤ 20 * rs.length := by
      intro rs
      induction rs with
      | nil => intro _; exact Int.le_refl _
      | cons p r ih =>
        intro hp
        have q1 := ih fun q hq => hp q (List.mem_cons_of_mem _ hq)
        have q2 := hp p List.mem_cons_self
        rw [List.map_cons, List.sum_cons, List.length_cons]
        omega
    have h3 := h2 rows fun p hp => Nat.le_trans (hrow p hp).2 n2
    omega
theorem eqv_same {K : PySem.W.Frag} {H : Hp} {v v' : V} {d : PyData} {Q : VK} (h1 : Dp K H v d) (h2 : Dp K H v' d) (hs : SeqAt.shaped d = true) (q : Q (.bl false) H) : rNeD K v v' H Q :=
  ⟨d, d, h1, h2, hs, hs, by rw [SeqAt.eqv_refl d (SeqAt.canLay_of_shaped hs)]; exact q⟩
theorem eqv_same2 {K : PySem.W.Frag} {H : Hp} {v v' : V} {d : PyData} {Q : VK} (h1 : Dp K H v d) (h2 : Dp K H v' d) (hs : SeqAt.shaped d = true) (q : Q (.bl true) H) : rEqD K v v' H Q :=
  ⟨d, d, h1, h2, hs, hs, by rw [SeqAt.eqv_refl d (SeqAt.canLay_of_shaped hs)]; exact q⟩
def spLWhole : Sp := fun vs H Q _ => ∃ x : Int, vs = [.int x] ∧ Q (.bl true) H
def spLaw (K : PySem.W.Frag) : Sp := fun vs H Q _ => ∃ (a : Addr) (ns : List Int), vs = [.ref a] ∧ SqL K H a (ns.map V.int) ∧ ns.length ≤ 63 ∧ ∀ H', Q (.bl true) H'
section
variable {P : Program} {w : World} {K : PySem.W.Frag} {mg : Str → Option Value} {base : Heap} {D : Str × Option Str → FuncData}
theorem ok_l_whole (T : Txt K mg D) : FnOk P w K mg base CX0 1 (He.ga K "_law_whole") (D ("_law_whole", none)) ["_law_found"] spLWhole := by
  refine T.l_whole.F.ok sc_l_whole (fun vs H Q E h => ?_) (fun cdv A outer s H vs Q E hr h => ?_)
  · obtain ⟨x, rfl, _⟩ := h
    rfl
  · obtain ⟨x, rfl, kq⟩ := h
    refine ⟨_, PSs.nox (pss_one (ps_ret (pe_and (pe_callB (call_isiK (K := K) rfl) (by rfl) T.z_isinstance (by decide +kernel) (pa_cons (pv 0) (pa_cons (pe_bltn (v := .ty "int") (by rfl) T.z_int (by decide +kernel) rfl) pa_nil))) (pe_one (pe_not (pe_callB (call_isiK (K := K) rfl) (by rfl) T.z_isinstance (by decide +kernel) (pa_cons (pv 0) (pa_cons (pe_bltn (v := .ty "bool") (by rfl) T.z_bool (by decide +kernel) rfl) pa_nil)))))))), ?_⟩
    walk_at "in"
    refine ⟨_, _, .type "int", .type "int", true, rfl, .ty "int", .base (.int x), kit_ty (by decide +kernel), ?_⟩
    walk_at "go"
    refine iteBT rfl ?_
    walk_at "go"
    refine ⟨_, _, .type "int", .type "bool", false, rfl, .ty "bool", .base (.int x), kit_ty (by decide +kernel), ?_⟩
    walk_at "go"
    exact kq
theorem ok_law (T : Txt K mg D) : FnOk P w K mg base CX0 9 (He.ga K "law") (D ("law", none)) ["_law_script"] (spLaw K) := by
  refine T.law.F.ok sc_law (fun vs H Q E h => ?_) (fun cdv A outer s H vs Q E hr h => ?_)
  · obtain ⟨a, ns, rfl, _⟩ := h
    rfl
  · obtain ⟨a, ns, rfl, hS, hl, kq⟩ := h
    refine ⟨_, PSs.nox (pss_cons (ps_set (i := 1) sc_law.nd rfl (Or.inl rfl) (pe_op op_mod (pe_call (ok_l_mix T) (by exact hr.mono (by decide)) (by rfl) T.l_mix.g T.l_mix.F.kp T.l_mix.b .nil pass0 (pa_cons (pv 0) (pa_cons pe_int pa_nil))) pe_int))
      (pss_cons (ps_set (i := 2) sc_law.nd rfl (Or.inl rfl) (pe_ix (ix_listK (K := K) rfl) (pe_lst (pa_cons pe_int (pa_cons pe_int (pa_cons pe_int (pa_cons pe_int (pa_cons pe_int pa_nil)))))) (pe_op op_mod (pe_call (ok_l_mix T) (by exact hr.mono (by decide)) (by rfl) T.l_mix.g T.l_mix.F.kp T.l_mix.b .nil pass0 (pa_cons (pv 0) (pa_cons pe_int pa_nil))) pe_int) (fun _ _ => rfl)))
      (pss_cutQ (ps_if (pt_cmpR op_eq (pv 1) pe_int (nomark _)) (pss_one (ps_set (i := 3) sc_law.nd rfl (Or.inl rfl) (pe_make T.cGroups.mkr (ok_Groups_init T) (by exact hr.mono (by decide)) (by rfl) T.cGroups.g T.Groups_init.b .nil pass0 (pa_cons (pv 2) (pa_cons (pe_op op_add pe_int (pe_op op_mod (pe_call (ok_l_mix T) (by exact hr.mono (by decide)) (by rfl) T.l_mix.g T.l_mix.F.kp T.l_mix.b .nil pass0 (pa_cons (pv 0) (pa_cons pe_int pa_nil))) pe_int)) pa_nil))))) (pss_one (ps_set (i := 3) sc_law.nd rfl (Or.inl rfl) (pe_ix (ix_listK (K := K) rfl) (pe_lst (pa_cons (pe_make T.cWindow.mkr (ok_Window_init T) (by exact hr.mono (by decide)) (by rfl) T.cWindow.g T.Window_init.b .nil pass0 (pa_cons (pv 2) pa_nil)) (pa_cons (pe_make T.cTimed.mkr (ok_Timed_init T) (by exact hr.mono (by decide)) (by rfl) T.cTimed.g T.Timed_init.b .nil pass0 (pa_cons (pv 2) pa_nil)) (pa_cons (pe_make T.cMaps.mkr (ok_Maps_init T) (by exact hr.mono (by decide)) (by rfl) T.cMaps.g T.Maps_init.b .nil pass0 (pa_cons (pv 2) pa_nil)) pa_nil)))) (pv 1) (fun _ _ => rfl)))))
      (pss_cons (ps_for PassesOwn.never rfl (pi_range1 (by rfl) T.z_range (pa_cons (pe_op op_mod (pe_call (ok_l_mix T) (by exact hr.mono (by decide)) (by rfl) T.l_mix.g T.l_mix.F.kp T.l_mix.b .nil pass0 (pa_cons (pv 0) (pa_cons pe_int pa_nil))) pe_int) pa_nil)) (pg_name (i := 4) sc_law.nd rfl (Or.inl rfl))
      (pss_one (ps_expr (pe_call (ok_l_put T) (by exact hr.mono (by decide)) (by rfl) T.l_put.g T.l_put.F.kp T.l_put.b .nil pass0 (pa_cons (pv 1) (pa_cons (pv 3) (pa_cons (pv 0) (pa_cons (pe_op op_add pe_int (pv 4)) pa_nil))))))))
      (pss_cons (ps_set (i := 5) sc_law.nd rfl (Or.inl rfl) (pe_call (ok_saved T) (by exact hr.mono (by decide)) (by rfl) T.saved.g T.saved.F.kp T.saved.b .nil pass0 (pa_cons (pv 3) pa_nil)))
      (pss_cons (ps_if (PW.pt (pw_or (pt_not (pt_val (pe_callB (call_isiK (K := K) rfl) (by rfl) T.z_isinstance (by decide +kernel) (pa_cons (pv 5) (pa_cons (pe_bltn (v := .ty "list") (by rfl) T.z_list (by decide +kernel) rfl) pa_nil))))) (pw_or1 (pt_not (pt_val (pe_callB (cr_allK (K := K) rfl rfl) (by rfl) T.z_all (by decide +kernel) (pa_cons (pe_lc (own := [("_law_one", 6)]) (g := gName 6) (tt := tYes) (by rfl) sc_law.nd (pi_listK (K := K) rfl (pv 5)) (blkOk_by (by kernel_rfl)) (fun _ _ _ _ _ => pg_name (i := 6) sc_law.nd rfl (Or.inl rfl)) (fun _ _ _ _ _ => pts_nil) (fun _ _ _ _ _ => (pe_call (ok_l_whole T) (by exact hr.mono (by decide)) (by rfl) T.l_whole.g T.l_whole.F.kp T.l_whole.b .nil pass0 (pa_cons (pv 6) pa_nil)))) pa_nil))))))) (pss_one (ps_ret pe_bl)) pss_nil)
      (pss_cons (ps_if (pt_cmpR op_gt (pe_callB (call_lenK (K := K) rfl) (by rfl) T.z_len PySem.boot_len (pa_cons (pv 5) pa_nil)) (pe_call (ok_l_room T) (by exact hr.mono (by decide)) (by rfl) T.l_room.g T.l_room.F.kp T.l_room.b .nil pass0 (pa_cons (pv 1) (pa_cons (pv 3) pa_nil))) (nomark _)) (pss_one (ps_ret pe_bl)) pss_nil)
      (pss_cons (ps_set (i := 7) sc_law.nd rfl (Or.inl rfl) (pe_call (ok_woken T) (by exact hr.mono (by decide)) (by rfl) T.woken.g T.woken.F.kp T.woken.b .nil pass0 (pa_cons (pe_callTy (call_listK (K := K) rfl) (by rfl) T.z_list (by decide +kernel) (pa_cons (pv 5) pa_nil)) pa_nil)))
      (pss_cons (ps_if (pt_cmpR (op_neDK (K := K) rfl (by exact hr.units)) (pe_call (ok_l_told T) (by exact hr.mono (by decide)) (by rfl) T.l_told.g T.l_told.F.kp T.l_told.b .nil pass0 (pa_cons (pv 1) (pa_cons (pv 7) pa_nil))) (pe_call (ok_l_told T) (by exact hr.mono (by decide)) (by rfl) T.l_told.g T.l_told.F.kp T.l_told.b .nil pass0 (pa_cons (pv 1) (pa_cons (pv 3) pa_nil))) (nomark _)) (pss_one (ps_ret pe_bl)) pss_nil)
      (pss_cons (ps_for PassesOwn.never rfl (pi_range1 (by rfl) T.z_range (pa_cons (pe_op op_mod (pe_call (ok_l_mix T) (by exact hr.mono (by decide)) (by rfl) T.l_mix.g T.l_mix.F.kp T.l_mix.b .nil pass0 (pa_cons (pv 0) (pa_cons pe_int pa_nil))) pe_int) pa_nil)) (pg_name (i := 4) sc_law.nd rfl (Or.inl rfl))
      (pss_cons (ps_if (pt_cmpR (op_neDK (K := K) rfl (by exact hr.units)) (pe_call (ok_l_put T) (by exact hr.mono (by decide)) (by rfl) T.l_put.g T.l_put.F.kp T.l_put.b .nil pass0 (pa_cons (pv 1) (pa_cons (pv 7) (pa_cons (pv 0) (pa_cons (pe_op op_add pe_int (pv 4)) pa_nil))))) (pe_call (ok_l_put T) (by exact hr.mono (by decide)) (by rfl) T.l_put.g T.l_put.F.kp T.l_put.b .nil pass0 (pa_cons (pv 1) (pa_cons (pv 3) (pa_cons (pv 0) (pa_cons (pe_op op_add pe_int (pv 4)) pa_nil))))) (nomark _)) (pss_one (ps_ret pe_bl)) pss_nil)
      (pss_one (ps_if (pt_cmpR (op_neDK (K := K) rfl (by exact hr.units)) (pe_call (ok_l_told T) (by exact hr.mono (by decide)) (by rfl) T.l_told.g T.l_told.F.kp T.l_told.b .nil pass0 (pa_cons (pv 1) (pa_cons (pv 7) pa_nil))) (pe_call (ok_l_told T) (by exact hr.mono (by decide)) (by rfl) T.l_told.g T.l_told.F.kp T.l_told.b .nil pass0 (pa_cons (pv 1) (pa_cons (pv 3) pa_nil))) (nomark _)) (pss_one (ps_ret pe_bl)) pss_nil))))
      (pss_cons (ps_set (i := 8) sc_law.nd rfl (Or.inl rfl) (pe_call (ok_l_told T) (by exact hr.mono (by decide)) (by rfl) T.l_told.g T.l_told.F.kp T.l_told.b .nil pass0 (pa_cons (pv 1) (pa_cons (pv 3) pa_nil))))
      (pss_cons (ps_for PassesOwn.never rfl (pi_range1 (by rfl) T.z_range (pa_cons pe_int pa_nil)) (pg_name (i := 4) sc_law.nd rfl (Or.inl rfl))
      (pss_one (ps_expr (pe_call (ok_l_put T) (by exact hr.mono (by decide)) (by rfl) T.l_put.g T.l_put.F.kp T.l_put.b .nil pass0 (pa_cons (pv 1) (pa_cons (pv 7) (pa_cons (pv 0) (pa_cons (pe_op op_add pe_int (pv 4)) pa_nil))))))))
      (pss_one (ps_ret (pe_and (pe_cmpR (op_eqDK (K := K) rfl (by exact hr.units)) (pe_call (ok_l_told T) (by exact hr.mono (by decide)) (by rfl) T.l_told.g T.l_told.F.kp T.l_told.b .nil pass0 (pa_cons (pv 1) (pa_cons (pv 3) pa_nil))) (pv 8) (nomark _)) (pe_one (pe_cmpR (op_eqDK (K := K) rfl (by exact hr.units)) (pe_call (ok_l_told T) (by exact hr.mono (by decide)) (by rfl) T.l_told.g T.l_told.F.kp T.l_told.b .nil pass0 (pa_cons (pv 1) (pa_cons (pe_call (ok_woken T) (by exact hr.mono (by decide)) (by rfl) T.woken.g T.woken.F.kp T.woken.b .nil pass0 (pa_cons (pe_call (ok_saved T) (by exact hr.mono (by decide)) (by rfl) T.saved.g T.saved.F.kp T.saved.b .nil pass0 (pa_cons (pv 7) pa_nil)) pa_nil)) pa_nil))) (pe_call (ok_l_told T) (by exact hr.mono (by decide)) (by rfl) T.l_told.g T.l_told.F.kp T.l_told.b .nil pass0 (pa_cons (pv 1) (pa_cons (pv 7) pa_nil))) (nomark _)))))))))))))))))), ?_⟩
    walk_at "in"
    refine ⟨a, ns, 0, rfl, hS, hl, by omega, ?_⟩
    have w0 := Int.emod_nonneg (mixF ns 0) (b := 4) (by decide)
    have w1 := Int.emod_lt_of_pos (mixF ns 0) (b := 4) (by decide)
    walk_at "go"
    generalize mixF ns 0 % 4 = wy at w0 w1
    refine ⟨Nat.le_of_ble_eq_true rfl, fun q nq => ?_⟩
    have s1 := same_upd (o := HO.lst [V.int 1, V.int 2, V.int 3, V.int 5, V.int 9]) nq (Same.refl H)
    walk_at "go"
    refine ⟨a, ns, 1, rfl, s1.seq hS, hl, by omega, ?_⟩
    walk_at "go"
    obtain ⟨n, n1, n2, hn⟩ := pick5 (mixF ns 1 % 5) (Int.emod_nonneg _ (by decide)) (Int.emod_lt_of_pos _ (by decide))
    refine R_ixL (SqL.of upd_same) hn ?_
    walk_at "go"
    refine S_cut (fun σ' H' => ∃ (x : Addr) (own : List Addr) (S : KS), σ' = [some (.ref a), some (.int wy), some (.int n), some (.ref x), none, none, none, none, none] ∧ KAt K H' x own 0 S ∧ S.ok ∧ S.len = 0 ∧ S.way = wy ∧ Same H H' ∧ ∀ b ∈ own, H b = none) ?_ ?_
    · walk_at "go"
      refine iteD (fun h3 => ?_) (fun h3 => ?_)
      · walk_at "go"
        refine ⟨a, ns, 2, rfl, s1.seq hS, hl, by omega, ?_⟩
        walk_at "go"
        have f0 := Int.emod_nonneg (mixF ns 2) (b := 4) (by decide)
        have f1 := Int.emod_lt_of_pos (mixF ns 2) (b := 4) (by decide)
        obtain ⟨mo, hmo⟩ : ∃ mo : Nat, 1 + mixF ns 2 % 4 = (mo : Int) := ⟨(1 + mixF ns 2 % 4).toNat, by omega⟩
        rw [hmo]
        intro g dx ng ndx ne
        have sB := same_mk (C := He.ga K "Groups") ng ndx
        refine ⟨g, dx, n, mo, rfl, upd_same, n1, by omega, by omega, by omega, fun oa wa H1 noa nwa GA kp => ⟨rfl, ?_⟩⟩
        have s2 : Same H H1 := s1.trans (Same.made ng ndx kp)
        walk_at "go"
        refine ⟨g, [g, oa, wa], .grp n mo [], rfl, ⟨oa, wa, [], GA, rfl, rfl⟩, ⟨n1, n2, by omega, by omega, Nat.zero_le _, List.nodup_nil, fun p hp => by cases hp⟩, rfl, (V.int.inj h3).symm, s2, mem3 (s1.free ng) ((s1.trans sB).free noa) ((s1.trans sB).free nwa)⟩
      · walk_at "go"
        intro wi dx nwi ndx ne
        have sB := same_mk (C := He.ga K "Window") nwi ndx
        refine ⟨wi, dx, n, rfl, upd_same, n1, by omega, fun t r k o H1 nt nr nk no W kp => ⟨rfl, ?_⟩⟩
        have s2 : Same H H1 := s1.trans (Same.made nwi ndx kp)
        have s1B := s1.trans sB
        walk_at "go"
        intro zi dz nzi ndz ne2
        have sC := same_mk (C := He.ga K "Timed") nzi ndz
        refine ⟨zi, dz, n, rfl, upd_same, n1, by omega, fun tm t2 r2 k2 o2 H2 ntm nt2 nr2 nk2 no2 Z kp2 => ⟨rfl, ?_⟩⟩
        have s12 : Same H1 H2 := Same.made nzi ndz kp2
        have s2C := s2.trans sC
        walk_at "go"
        intro m dm nm ndm ne3
        have sD := same_mk (C := He.ga K "Maps") nm ndm
        refine ⟨m, dm, n, rfl, upd_same, n1, by omega, fun oa na H3 noa nna M kp3 => ⟨rfl, ?_⟩⟩
        have s23 : Same H2 H3 := Same.made nm ndm kp3
        have s3D := (s2.trans s12).trans sD
        walk_at "go"
        refine ⟨Nat.le_of_ble_eq_true rfl, fun q4 nq4 => ?_⟩
        have s34 := same_upd (o := HO.lst [V.ref wi, V.ref zi, V.ref m]) nq4 (Same.refl H3)
        have sE := ((s2.trans s12).trans s23).trans s34
        walk_at "go"
        have h : wy = 0 ∨ wy = 1 ∨ wy = 2 := by
          have : wy ≠ 3 := fun e => h3 (by rw [e])
          omega
        rcases h with rfl | rfl | rfl
        · refine R_ixL (v := .ref wi) (SqL.of upd_same) rfl ?_
          walk_at "go"
          exact ⟨wi, [wi, t, r, k, o], .win n [], rfl, ⟨t, r, k, o, ((W.ex s12).ex s23).ex s34, rfl⟩, ⟨n1, n2, Nat.zero_le _⟩, rfl, rfl, sE, mem5 (s1.free nwi) (s1B.free nt) (s1B.free nr) (s1B.free nk) (s1B.free no)⟩
        · refine R_ixL (v := .ref zi) (SqL.of upd_same) rfl ?_
          walk_at "go"
          exact ⟨zi, [zi, tm, t2, r2, k2, o2], .tim n 0 [], rfl, ⟨tm, t2, r2, k2, o2, (Z.ex s23).ex s34, rfl⟩, ⟨n1, n2, Int.le_refl _, List.Pairwise.nil, (fun p hp => by cases hp), Nat.zero_le _⟩, rfl, rfl, sE, mem6 (s2.free nzi) (s2C.free ntm) (s2C.free nt2) (s2C.free nr2) (s2C.free nk2) (s2C.free no2)⟩
        · refine R_ixL (v := .ref m) (SqL.of upd_same) rfl ?_
          walk_at "go"
          exact ⟨m, [m, oa, na], .map n [], rfl, ⟨oa, na, M.ex s34, rfl⟩, ⟨n1, n2, Nat.zero_le _, fun p hp => by cases hp⟩, rfl, rfl, sE, mem3 ((s2.trans s12).free nm) (s3D.free noa) (s3D.free nna)⟩
    · rintro σ' H' ⟨x, own, S, rfl, A, ok, hlen, hw, sH, hown⟩
      walk_at "go"
      refine ⟨a, ns, 3, rfl, sH.seq hS, hl, by omega, ?_⟩
      walk_at "go"
      have c0 := Int.emod_nonneg (mixF ns 3) (b := 41) (by decide)
      have c1 := Int.emod_lt_of_pos (mixF ns 3) (b := 41) (by decide)
      refine R_rng1 c0 (by omega) ?_
      refine R_forR (fun i σ' H' => ∃ (own : List Addr) (S : KS) (v4 : Option V), σ' = [some (.ref a), some (.int wy), some (.int n), some (.ref x), v4, none, none, none, none] ∧ KAt K H' x own i S ∧ S.ok ∧ S.len ≤ i ∧ S.way = wy ∧ Same H H' ∧ ∀ b ∈ own, H b = none)
        ⟨own, S, none, rfl, A, ok, by omega, hw, sH, hown⟩ ?_ ?_
      · rintro i σ' H' hi ⟨own, S, v4, rfl, A, ok, hlen, hw, sH, hown⟩
        have hi40 : i ≤ 40 := by omega
        walk_at "go"
        refine ⟨x, a, 4 + (0 + (i : Int)), own, i, S, ns, by rw [hw]; rfl, A, ok, by omega, by omega, sH.seq hS, hl, by omega, fun v own' H2 A2 fr ho _ => ?_⟩
        walk_at "go"
        refine ⟨own', _, _, rfl, A2, KS.put_ok _ _ _ ok (by omega), Nat.le_trans (KS.put_len _ _ _) (by omega), by rw [KS.put_way]; exact hw, fun b u hb => fr b u (sH b u hb) (fun hm => by rw [hown b hm] at hb; cases hb), fun b hb => ?_⟩
        rcases ho b hb with hb | hb
        · exact hown b hb
        · exact sH.free hb
      · rintro σ' H' ⟨own, S, v4, rfl, A, ok, hlen, hw, sH, hown⟩
        walk_at "go"
        refine ⟨x, own, _, S, rfl, A, ok, fun l H1 nl s2 hl1 => ?_⟩
        have A1 := A.ex s2
        have sH1 := sH.trans s2
        walk_at "go"
        refine ⟨_, _, .type "list", .type "list", true, rfl, .ty "list", .base (.lst hl1), kit_ty (by decide +kernel), ?_⟩
        walk_at "go"
        refine iteBF rfl ?_
        walk_at "go"
        have hsl := saved_le S ok
        refine R_lcMap (xs := S.saved.map V.int) (ys := (List.replicate S.saved.length true).map V.bl) (SqL.of hl1) (by rw [List.length_map, List.length_map, List.length_replicate]) (by rw [List.length_map]; omega) (fun i z y H3 hx hy s3 Q' kQ => ?_) (fun Dl H3 hD s3 h3 => ?_)
        · obtain ⟨z, _, rfl⟩ := List.mem_map.mp (List.mem_of_getElem? hx)
          have ey : y = .bl true := by
            rw [List.getElem?_map] at hy
            cases e : (List.replicate S.saved.length true)[i]? with
            | none => rw [e] at hy; cases hy
            | some z =>
              rw [e] at hy
              have ez := List.eq_of_mem_replicate (List.mem_of_getElem? e)
              subst ez
              exact (Option.some.inj hy).symm
          subst ey
          walk_at "go"
          exact ⟨z, rfl, kQ _ (Same.refl _)⟩
        · walk_at "go"
          refine R_all (SqL.of h3) ?_
          walk_at "go"
          refine iteBF (by rw [show (List.replicate S.saved.length true).all id = true from List.all_eq_true.mpr fun z hz => List.eq_of_mem_replicate hz]; rfl) ?_
          have hl3 := s3 _ _ hl1
          have A3 := A1.ex s3
          walk_at "go"
          refine ⟨x, own, _, S, by rw [hw]; rfl, A3, ok, fun r H4 s4 hr' => ?_⟩
          have hl4 := s4 _ _ hl3
          have A4 := A3.ex s4
          walk_at "go"
          rw [List.length_map]
          refine iteBF (decide_eq_false (by omega)) ?_
          walk_at "go"
          intro l5 nl5
          have s5 := same_upd (o := HO.lst (S.saved.map V.int)) nl5 (Same.refl H4)
          have A5 := A4.ex s5
          have sH5 := ((sH1.trans s3).trans s4).trans s5
          walk_at "go"
          refine ⟨S, l5, rfl, SqL.of upd_same, ok, fun x2 own2 H6 ho2 s6 B6 => ?_⟩
          have A6 := A5.ex s6
          have dj : ∀ b ∈ own, b ∉ own2 := fun b hb h2 => by
            obtain ⟨u, hu, _⟩ := A5.some b hb
            rw [ho2 b h2] at hu
            cases hu
          have hown2 : ∀ b ∈ own2, H b = none := fun b hb => sH5.free (ho2 b hb)
          have sH6 := sH5.trans s6
          walk_at "go"
          refine ⟨x2, own2, 200, S, by rw [hw]; rfl, B6, ok, fun v7 H7 s7 D7 => ?_⟩
          walk_at "go"
          refine ⟨x, own, _, S, by rw [hw]; rfl, A6.ex s7, ok, fun v8 H8 s8 D8 => ?_⟩
          walk_at "go"
          refine eqv_same (Dp.mono (kern_same.trans s8) D7) (Dp.mono kern_same D8) (told_shaped S) ?_
          walk_at "go"
          refine iteBF rfl ?_
          have sH8 := (sH6.trans s7).trans s8
          walk_at "go"
          refine ⟨a, ns, 45, rfl, sH8.seq hS, hl, by omega, ?_⟩
          walk_at "go"
          have t0 := Int.emod_nonneg (mixF ns 45) (b := 11) (by decide)
          have t1 := Int.emod_lt_of_pos (mixF ns 45) (b := 11) (by decide)
          refine R_rng1 t0 (by omega) ?_
          refine R_forR (fun i σ' H' => ∃ (own own2 : List Addr) (S : KS) (v4 : Option V), σ' = [some (.ref a), some (.int wy), some (.int n), some (.ref x), v4, some (.ref l), none, some (.ref x2), none] ∧ KAt K H' x own ((mixF ns 3 % 41).toNat + i) S ∧ KAt K H' x2 own2 (200 + i) S ∧ S.ok ∧ S.len ≤ 40 + i ∧ S.way = wy ∧ Same H H' ∧ (∀ b ∈ own, H b = none) ∧ (∀ b ∈ own2, H b = none) ∧ ∀ b ∈ own, b ∉ own2)
            ⟨own, own2, S, _, rfl, (A6.ex s7).ex s8, (B6.ex s7).ex s8, ok, by omega, hw, sH8, hown, hown2, dj⟩ ?_ ?_
          · clear A A1 A3 A4 A5 A6 B6 ok hlen hw hown hown2 dj D7 D8 hl1 hl3 hl4 h3 hsl hr' ho2
            rintro i σ' H' hi ⟨own, own2, S, v4, rfl, A, B, ok, hlen, hw, sH, hown, hown2, dj⟩
            have hi10 : i ≤ 10 := by omega
            walk_at "go"
            refine ⟨x2, a, 46 + (0 + (i : Int)), own2, 200 + i, S, ns, by rw [hw]; rfl, B, ok, by omega, by omega, sH.seq hS, hl, by omega, fun v own2' H1 B1 fr1 ho1 N1 => ?_⟩
            have A1 := kat_apart A B dj fr1
            have sH1 : Same H H1 := fun b u hb => fr1 b u (sH b u hb) fun hm => by rw [hown2 b hm] at hb; cases hb
            have dj1 : ∀ b ∈ own, b ∉ own2' := fun b hb h2 => by
              rcases ho1 b h2 with h2 | h2
              · exact dj b hb h2
              · obtain ⟨u, hu, _⟩ := A.some b hb
                rw [h2] at hu
                cases hu
            have hown2' : ∀ b ∈ own2', H b = none := fun b hb => (ho1 b hb).elim (hown2 b) fun h => sH.free h
            walk_at "go"
            refine ⟨x, a, 46 + (0 + (i : Int)), own, _, S, ns, by rw [hw]; rfl, A1, ok, by omega, by omega, sH1.seq hS, hl, by omega, fun v2 own' H2 A2 fr2 ho2 N2 => ?_⟩
            have B2 := kat_apart B1 A1 (fun b h2 h1 => dj1 b h1 h2) fr2
            have sH2 : Same H H2 := fun b u hb => fr2 b u (sH1 b u hb) fun hm => by rw [hown b hm] at hb; cases hb
            have dj2 : ∀ b ∈ own', b ∉ own2' := fun b hb h2 => by
              rcases ho2 b hb with hb | hb
              · exact dj1 b hb h2
              · obtain ⟨u, hu, _⟩ := B1.some b h2
                rw [hb] at hu
                cases hu
            have hown' : ∀ b ∈ own', H b = none := fun b hb => (ho2 b hb).elim (hown b) fun h => sH1.free h
            obtain ⟨Hf, f1, f2, f3⟩ := N1
            obtain ⟨Hg, g1, g2, g3⟩ := N2
            have sf : Same Hf H2 := fun b u hb => fr2 b u (f1 b u hb) fun hm => by
              obtain ⟨u', hu', _⟩ := A.some b hm
              rw [(f2 b u hb).2] at hu'
              cases hu'
            walk_at "go"
            refine eqv_same (Dp.mono sf f3) (Dp.mono g1 g3) (ret_shaped _ _ S) ?_
            walk_at "go"
            refine iteBF rfl ?_
            walk_at "go"
            have ok2 := KS.put_ok (thingF ns (46 + (0 + (i : Int)))) (mixF ns (46 + (0 + (i : Int)) + 1)) S ok (by omega)
            have hl2 := KS.put_len (thingF ns (46 + (0 + (i : Int)))) (mixF ns (46 + (0 + (i : Int)) + 1)) S
            have hw2 := KS.put_way (thingF ns (46 + (0 + (i : Int)))) (mixF ns (46 + (0 + (i : Int)) + 1)) S
            rw [hw] at hw2
            refine ⟨x2, own2', _, _, by rw [hw2]; rfl, B2, ok2, fun v7 H7 s7 D7 => ?_⟩
            walk_at "go"
            refine ⟨x, own', _, _, by rw [hw2]; rfl, A2.ex s7, ok2, fun v8 H8 s8 D8 => ?_⟩
            walk_at "go"
            refine eqv_same (Dp.mono (kern_same.trans s8) D7) (Dp.mono kern_same D8) (told_shaped _) ?_
            walk_at "go"
            refine iteBF rfl ?_
            walk_at "go"
            exact ⟨own', own2', _, _, rfl, (A2.ex s7).ex s8, (B2.ex s7).ex s8, ok2, by omega, hw2, (sH2.trans s7).trans s8, hown', hown2', dj2⟩
          · clear A A1 A3 A4 A5 A6 B6 ok hlen hw hown hown2 dj D7 D8 hl1 hl3 hl4 h3 hsl hr' ho2
            rintro σ' H' ⟨own, own2, S, v4, rfl, A, B, ok, hlen, hw, sH, hown, hown2, dj⟩
            have t10 : (mixF ns 45 % 11).toNat ≤ 10 := by omega
            have t40 : (mixF ns 3 % 41).toNat ≤ 40 := by omega
            walk_at "go"
            refine ⟨x, own, _, S, by rw [hw]; rfl, A, ok, fun v0 H1 s1 D1 => ?_⟩
            have hf : ∀ b u, kern H' H1 b = some u → b ∉ own2 := fun b u e hm => by
              obtain ⟨e1, e2⟩ := kern_sub e
              obtain ⟨u', hu', hn⟩ := B.some b hm
              rcases e2 with e2 | ⟨xs, rfl⟩
              · rw [e2] at hu'
                cases hu'
              · have e3 := s1 _ _ hu'
                rw [e1] at e3
                exact hn xs (Option.some.inj e3).symm
            walk_at "go"
            refine R_rng1 (by omega) (by omega) ?_
            refine R_forR (fun i σ' H2 => ∃ (own2 : List Addr) (S2 : KS) (v4 : Option V), σ' = [some (.ref a), some (.int wy), some (.int n), some (.ref x), v4, some (.ref l), none, some (.ref x2), some v0] ∧ KAt K H2 x own ((mixF ns 3 % 41).toNat + (mixF ns 45 % 11).toNat) S ∧ KAt K H2 x2 own2 (200 + (mixF ns 45 % 11).toNat + i) S2 ∧ S2.ok ∧ S2.len ≤ 50 + i ∧ S2.way = wy ∧ Same H H2 ∧ (∀ b ∈ own2, H b = none) ∧ (∀ b ∈ own, b ∉ own2) ∧ Same (kern H' H1) H2 ∧ ∀ b u, kern H' H1 b = some u → b ∉ own2)
              ⟨own2, S, _, rfl, A.ex s1, B.ex s1, ok, by omega, hw, sH.trans s1, hown2, dj, kern_same, hf⟩ ?_ ?_
            · rintro i σ' H2 hi ⟨own2, S2, v4, rfl, A2, B2, ok2, hlen2, hw2, sH2, hown2, dj2, sf, hf⟩
              have hi3 : i < 3 := hi
              walk_at "go"
              refine ⟨x2, a, 57 + (0 + (i : Int)), own2, _, S2, ns, by rw [hw2]; rfl, B2, ok2, by omega, by omega, sH2.seq hS, hl, by omega, fun v own2' H3 B3 fr1 ho1 _ => ?_⟩
              have A3 := kat_apart A2 B2 dj2 fr1
              have sH3 : Same H H3 := fun b u hb => fr1 b u (sH2 b u hb) fun hm => by
                rw [hown2 b hm] at hb
                cases hb
              walk_at "go"
              refine ⟨own2', _, _, rfl, A3, B3, KS.put_ok _ _ _ ok2 (by omega), Nat.le_trans (KS.put_len _ _ _) (by omega), by rw [KS.put_way]; exact hw2, sH3, fun b hb => (ho1 b hb).elim (hown2 b) fun h => sH2.free h, fun b hb h2 => ?_, fun b u e => fr1 b u (sf b u e) (hf b u e), fun b u e h2 => ?_⟩
              · rcases ho1 b h2 with h2 | h2
                · exact dj2 b hb h2
                · obtain ⟨u, hu, _⟩ := A2.some b hb
                  rw [h2] at hu
                  cases hu
              · rcases ho1 b h2 with h2 | h2
                · exact hf b u e h2
                · have := sf b u e
                  rw [h2] at this
                  cases this
            · rintro σ' H2 ⟨own2, S2, v4, rfl, A2, B2, ok2, hlen2, hw2, sH2, hown2, dj2, sf, hf⟩
              walk_at "go"
              refine ⟨x, own, _, S, by rw [hw]; rfl, A2, ok, fun v3 H3 s3 D3 => ?_⟩
              walk_at "go"
              refine eqv_same2 (Dp.mono kern_same D3) (Dp.mono (sf.trans s3) D1) (told_shaped S) ?_
              walk_at "go"
              refine iteBT rfl ?_
              walk_at "go"
              refine ⟨x2, own2, _, S2, rfl, B2.ex s3, ok2, fun l4 H4 nl4 s4 hl4 => ?_⟩
              walk_at "go"
              refine ⟨S2, l4, rfl, SqL.of hl4, ok2, fun x5 own5 H5 ho5 s5 C5 => ?_⟩
              walk_at "go"
              refine ⟨x5, own5, 200, S2, by rw [hw2]; rfl, C5, ok2, fun v6 H6 s6 D6 => ?_⟩
              walk_at "go"
              refine ⟨x2, own2, _, S2, by rw [hw2]; rfl, (B2.ex s3).ex ((s4.trans s5).trans s6), ok2, fun v7 H7 s7 D7 => ?_⟩
              walk_at "go"
              refine eqv_same2 (Dp.mono (kern_same.trans s7) D6) (Dp.mono kern_same D7) (told_shaped S2) ?_
              walk_at "go"
              exact kq H7
end
end LF

set_option maxRecDepth 100000
set_option maxHeartbeats 4000000
namespace LF
open PySem PySem.Spec PyProof.Rows L2

/-! ### the head: facts by names, the run -/
def fn : List He.DefD := [
  ⟨("placed", none), "placed", "placed", defArgs s_placed, defBody s_placed, defScope s_placed, [], []⟩,
  ⟨("Tally", some "__init__"), "__init__", "Tally.__init__", defArgs s_Tally_init, defBody s_Tally_init, defScope s_Tally_init, [], []⟩,
  ⟨("Tally", some "add"), "add", "Tally.add", defArgs s_Tally_add, defBody s_Tally_add, defScope s_Tally_add, [], []⟩,
  ⟨("Tally", some "drop"), "drop", "Tally.drop", defArgs s_Tally_drop, defBody s_Tally_drop, defScope s_Tally_drop, [], []⟩,
  ⟨("Tally", some "word"), "word", "Tally.word", defArgs s_Tally_word, defBody s_Tally_word, defScope s_Tally_word, [], []⟩,
  ⟨("Tally", some "one"), "one", "Tally.one", defArgs s_Tally_one, defBody s_Tally_one, defScope s_Tally_one, [], []⟩,
  ⟨("Tally", some "rising"), "rising", "Tally.rising", defArgs s_Tally_rising, defBody s_Tally_rising, defScope s_Tally_rising, [], []⟩,
  ⟨("Tally", some "mark"), "mark", "Tally.mark", defArgs s_Tally_mark, defBody s_Tally_mark, defScope s_Tally_mark, [], []⟩,
  ⟨("look_size", none), "look_size", "look_size", defArgs s_look_size, defBody s_look_size, defScope s_look_size, [], []⟩,
  ⟨("Window", some "__init__"), "__init__", "Window.__init__", defArgs s_Window_init, defBody s_Window_init, defScope s_Window_init, [], []⟩,
  ⟨("Window", some "put"), "put", "Window.put", defArgs s_Window_put, defBody s_Window_put, defScope s_Window_put, [], []⟩,
  ⟨("Window", some "things"), "things", "Window.things", defArgs s_Window_things, defBody s_Window_things, defScope s_Window_things, [], []⟩,
  ⟨("Window", some "word"), "word", "Window.word", defArgs s_Window_word, defBody s_Window_word, defScope s_Window_word, [], []⟩,
  ⟨("Timed", some "__init__"), "__init__", "Timed.__init__", defArgs s_Timed_init, defBody s_Timed_init, defScope s_Timed_init, [], []⟩,
  ⟨("Timed", some "time"), "time", "Timed.time", defArgs s_Timed_time, defBody s_Timed_time, defScope s_Timed_time, [], []⟩,
  ⟨("Timed", some "go_on"), "go_on", "Timed.go_on", defArgs s_Timed_go_on, defBody s_Timed_go_on, defScope s_Timed_go_on, [], []⟩,
  ⟨("Timed", some "put"), "put", "Timed.put", defArgs s_Timed_put, defBody s_Timed_put, defScope s_Timed_put, [], []⟩,
  ⟨("Timed", some "things"), "things", "Timed.things", defArgs s_Timed_things, defBody s_Timed_things, defScope s_Timed_things, [], []⟩,
  ⟨("Timed", some "word"), "word", "Timed.word", defArgs s_Timed_word, defBody s_Timed_word, defScope s_Timed_word, [], []⟩,
  ⟨("behind", none), "behind", "behind", defArgs s_behind, defBody s_behind, defScope s_behind, [], []⟩,
  ⟨("Maps", some "__init__"), "__init__", "Maps.__init__", defArgs s_Maps_init, defBody s_Maps_init, defScope s_Maps_init, [], []⟩,
  ⟨("Maps", some "put"), "put", "Maps.put", defArgs s_Maps_put, defBody s_Maps_put, defScope s_Maps_put, [], []⟩,
  ⟨("Maps", some "turn"), "turn", "Maps.turn", defArgs s_Maps_turn, defBody s_Maps_turn, defScope s_Maps_turn, [], []⟩,
  ⟨("Maps", some "whole"), "whole", "Maps.whole", defArgs s_Maps_whole, defBody s_Maps_whole, defScope s_Maps_whole, [], []⟩,
  ⟨("Maps", some "maps"), "maps", "Maps.maps", defArgs s_Maps_maps, defBody s_Maps_maps, defScope s_Maps_maps, [], []⟩,
  ⟨("Maps", some "at"), "at", "Maps.at", defArgs s_Maps_at, defBody s_Maps_at, defScope s_Maps_at, [], []⟩,
  ⟨("Groups", some "__init__"), "__init__", "Groups.__init__", defArgs s_Groups_init, defBody s_Groups_init, defScope s_Groups_init, [], []⟩,
  ⟨("Groups", some "put"), "put", "Groups.put", defArgs s_Groups_put, defBody s_Groups_put, defScope s_Groups_put, [], []⟩,
  ⟨("Groups", some "used"), "used", "Groups.used", defArgs s_Groups_used, defBody s_Groups_used, defScope s_Groups_used, [], []⟩,
  ⟨("Groups", some "need"), "need", "Groups.need", defArgs s_Groups_need, defBody s_Groups_need, defScope s_Groups_need, [], []⟩,
  ⟨("Groups", some "things"), "things", "Groups.things", defArgs s_Groups_things, defBody s_Groups_things, defScope s_Groups_things, [], []⟩,
  ⟨("Groups", some "word"), "word", "Groups.word", defArgs s_Groups_word, defBody s_Groups_word, defScope s_Groups_word, [], []⟩,
  ⟨("saved", none), "saved", "saved", defArgs s_saved, defBody s_saved, defScope s_saved, [], []⟩,
  ⟨("woken", none), "woken", "woken", defArgs s_woken, defBody s_woken, defScope s_woken, [], []⟩,
  ⟨("woken_timed", none), "woken_timed", "woken_timed", defArgs s_woken_timed, defBody s_woken_timed, defScope s_woken_timed, [], []⟩,
  ⟨("woken_groups", none), "woken_groups", "woken_groups", defArgs s_woken_groups, defBody s_woken_groups, defScope s_woken_groups, [], []⟩,
  ⟨("_law_cell", none), "_law_cell", "_law_cell", defArgs s_l_cell, defBody s_l_cell, defScope s_l_cell, [], []⟩,
  ⟨("_law_mix", none), "_law_mix", "_law_mix", defArgs s_l_mix, defBody s_l_mix, defScope s_l_mix, [], []⟩,
  ⟨("_law_whole", none), "_law_whole", "_law_whole", defArgs s_l_whole, defBody s_l_whole, defScope s_l_whole, [], []⟩,
  ⟨("_law_thing", none), "_law_thing", "_law_thing", defArgs s_l_thing, defBody s_l_thing, defScope s_l_thing, [], []⟩,
  ⟨("_law_names", none), "_law_names", "_law_names", defArgs s_l_names, defBody s_l_names, defScope s_l_names, [], []⟩,
  ⟨("_law_word", none), "_law_word", "_law_word", defArgs s_l_word, defBody s_l_word, defScope s_l_word, [], []⟩,
  ⟨("_law_rising", none), "_law_rising", "_law_rising", defArgs s_l_rising, defBody s_l_rising, defScope s_l_rising, [], []⟩,
  ⟨("_law_is", none), "_law_is", "_law_is", defArgs s_l_is, defBody s_l_is, defScope s_l_is, [], []⟩,
  ⟨("_law_all", none), "_law_all", "_law_all", defArgs s_l_all, defBody s_l_all, defScope s_l_all, [], []⟩,
  ⟨("_law_put", none), "_law_put", "_law_put", defArgs s_l_put, defBody s_l_put, defScope s_l_put, [], []⟩,
  ⟨("_law_told", none), "_law_told", "_law_told", defArgs s_l_told, defBody s_l_told, defScope s_l_told, [], []⟩,
  ⟨("_law_room", none), "_law_room", "_law_room", defArgs s_l_room, defBody s_l_room, defScope s_l_room, [], []⟩,
  ⟨("law", none), "law", "law", defArgs s_law, defBody s_law, defScope s_law, [], []⟩]
def fa : List He.Fa := [
  .cls "Tally",
  .mkr "Tally",
  .glo "Tally",
  .cls "Window",
  .mkr "Window",
  .glo "Window",
  .cls "Timed",
  .mkr "Timed",
  .glo "Timed",
  .cls "Maps",
  .mkr "Maps",
  .glo "Maps",
  .cls "Groups",
  .mkr "Groups",
  .glo "Groups",
  .glo "placed",
  .meth "Tally" "__init__",
  .meth "Tally" "add",
  .meth "Tally" "drop",
  .meth "Tally" "word",
  .meth "Tally" "one",
  .meth "Tally" "rising",
  .meth "Tally" "mark",
  .glo "look_size",
  .meth "Window" "__init__",
  .meth "Window" "put",
  .meth "Window" "things",
  .meth "Window" "word",
  .meth "Timed" "__init__",
  .meth "Timed" "time",
  .meth "Timed" "go_on",
  .meth "Timed" "put",
  .meth "Timed" "things",
  .meth "Timed" "word",
  .glo "behind",
  .meth "Maps" "__init__",
  .meth "Maps" "put",
  .meth "Maps" "turn",
  .meth "Maps" "whole",
  .meth "Maps" "maps",
  .meth "Maps" "at",
  .meth "Groups" "__init__",
  .meth "Groups" "put",
  .meth "Groups" "used",
  .meth "Groups" "need",
  .meth "Groups" "things",
  .meth "Groups" "word",
  .glo "saved",
  .glo "woken",
  .glo "woken_timed",
  .glo "woken_groups",
  .glo "_law_cell",
  .glo "_law_mix",
  .glo "_law_whole",
  .glo "_law_thing",
  .glo "_law_names",
  .glo "_law_word",
  .glo "_law_rising",
  .glo "_law_is",
  .glo "_law_all",
  .glo "_law_put",
  .glo "_law_told",
  .glo "_law_room",
  .glo "law",
  .noat "Tally" "row",
  .noat "Tally" "ranks",
  .noat "Tally" "often",
  .noat "Tally" "total",
  .noat "Tally" "pairs",
  .noat "Window" "size",
  .noat "Window" "tally",
  .noat "Timed" "span",
  .noat "Timed" "now",
  .noat "Timed" "times",
  .noat "Timed" "tally",
  .noat "Maps" "size",
  .noat "Maps" "old",
  .noat "Maps" "new",
  .noat "Maps" "last",
  .noat "Groups" "size",
  .noat "Groups" "most",
  .noat "Groups" "order",
  .noat "Groups" "windows",
  .int "MARK_TIMES" 31,
  .int "MARK_ROUND" 1000003,
  .int "MOST" 1000,
  .int "ROUND" 1000003,
  .free "len",
  .free "max",
  .free "min",
  .free "sum",
  .free "all",
  .free "sorted",
  .free "isinstance",
  .free "list",
  .free "int",
  .free "set",
  .free "range",
  .free "reversed",
  .free "bool"]
theorem fn_keys : (fn.map (·.at_)).Nodup := by decide +kernel
theorem fn_one (i j : Nat) {d e : He.DefD} (hi : fn[i]? = some d) (hj : fn[j]? = some e) (h : d.at_ = e.at_) : e = d := by
  have hi2 : (fn.map (·.at_))[i]? = some d.at_ := by rw [List.getElem?_map, hi]; rfl
  have hj2 : (fn.map (·.at_))[j]? = some d.at_ := by rw [List.getElem?_map, hj, h]; rfl
  have q := nd_ix fn_keys hi2 hj2
  subst q
  rw [hi] at hj
  exact (Option.some.inj hj).symm
theorem txt_of {K : PySem.W.Frag} {h : Heap} {mg : Str → Option Value} (X : K.In h) (G : h.Ns mainGlobals mg) (c : He.SaysD fa fn K) (x : xtra K = true) : ∃ D : Str × Option Str → FuncData, Txt K mg D := by
  obtain ⟨D, hD⟩ : ∃ D : Str × Option Str → FuncData, ∀ (i : Nat) {d : He.DefD}, fn[i]? = some d → FunD K d.name d.qual d.params d.body d.scope (d.dvs K) (d.kws K) (He.fAd K d.at_) (D d.at_) := by
    classical
    refine ⟨fun p => if h : ∃ fd, ∃ (i : Nat) (d : He.DefD), fn[i]? = some d ∧ d.at_ = p ∧ FunD K d.name d.qual d.params d.body d.scope (d.dvs K) (d.kws K) (He.fAd K d.at_) fd then Classical.choose h else Classical.choose (c.def_ 0 (d := fn.head (by unfold fn; exact List.cons_ne_nil _ _)) rfl), fun i d hd => ?_⟩
    obtain ⟨fd, hfd⟩ := c.def_ i hd
    have hx : ∃ fd, ∃ (i : Nat) (e : He.DefD), fn[i]? = some e ∧ e.at_ = d.at_ ∧ FunD K e.name e.qual e.params e.body e.scope (e.dvs K) (e.kws K) (He.fAd K e.at_) fd := ⟨fd, i, d, hd, rfl, hfd⟩
    dsimp only
    rw [dif_pos hx]
    obtain ⟨j, e, he, ea, q⟩ := Classical.choose_spec hx
    have ed : e = d := fn_one i j hd he ea.symm
    subst ed
    exact q
  have cTally : ClAt K mg "Tally" := ⟨He.cls_ok (c.fact 0 rfl), He.mkr_ok (c.fact 1 rfl), He.glo_ok X G (c.fact 2 rfl)⟩
  have cWindow : ClAt K mg "Window" := ⟨He.cls_ok (c.fact 3 rfl), He.mkr_ok (c.fact 4 rfl), He.glo_ok X G (c.fact 5 rfl)⟩
  have cTimed : ClAt K mg "Timed" := ⟨He.cls_ok (c.fact 6 rfl), He.mkr_ok (c.fact 7 rfl), He.glo_ok X G (c.fact 8 rfl)⟩
  have cMaps : ClAt K mg "Maps" := ⟨He.cls_ok (c.fact 9 rfl), He.mkr_ok (c.fact 10 rfl), He.glo_ok X G (c.fact 11 rfl)⟩
  have cGroups : ClAt K mg "Groups" := ⟨He.cls_ok (c.fact 12 rfl), He.mkr_ok (c.fact 13 rfl), He.glo_ok X G (c.fact 14 rfl)⟩
  have F0 : FunD K "placed" "placed" (defArgs s_placed) (defBody s_placed) (defScope s_placed) [] [] (He.ga K "placed") (D ("placed", none)) := hD 0 rfl
  have m_placed : FnAt K mg D "placed" s_placed ["ranks", "thing"] := ⟨F0, He.glo_ok X G (c.fact 15 rfl), F0.bindsN (fun _ _ _ _ _ _ us hl => match us, hl with | [_, _], _ => rfl)⟩
  have F1 : FunD K "__init__" "Tally.__init__" (defArgs s_Tally_init) (defBody s_Tally_init) (defScope s_Tally_init) [] [] (He.ma K (He.ga K "Tally") "__init__") (D ("Tally", some "__init__")) := hD 1 rfl
  have m_Tally_init : MtAt K D "Tally" "__init__" "Tally.__init__" s_Tally_init ["self"] := ⟨F1, He.meth_ok (c.fact 16 rfl), F1.bindsN (fun _ _ _ _ _ _ us hl => match us, hl with | [_], _ => rfl)⟩
  have F2 : FunD K "add" "Tally.add" (defArgs s_Tally_add) (defBody s_Tally_add) (defScope s_Tally_add) [] [] (He.ma K (He.ga K "Tally") "add") (D ("Tally", some "add")) := hD 2 rfl
  have m_Tally_add : MtAt K D "Tally" "add" "Tally.add" s_Tally_add ["self", "thing"] := ⟨F2, He.meth_ok (c.fact 17 rfl), F2.bindsN (fun _ _ _ _ _ _ us hl => match us, hl with | [_, _], _ => rfl)⟩
  have F3 : FunD K "drop" "Tally.drop" (defArgs s_Tally_drop) (defBody s_Tally_drop) (defScope s_Tally_drop) [] [] (He.ma K (He.ga K "Tally") "drop") (D ("Tally", some "drop")) := hD 3 rfl
  have m_Tally_drop : MtAt K D "Tally" "drop" "Tally.drop" s_Tally_drop ["self"] := ⟨F3, He.meth_ok (c.fact 18 rfl), F3.bindsN (fun _ _ _ _ _ _ us hl => match us, hl with | [_], _ => rfl)⟩
  have F4 : FunD K "word" "Tally.word" (defArgs s_Tally_word) (defBody s_Tally_word) (defScope s_Tally_word) [] [] (He.ma K (He.ga K "Tally") "word") (D ("Tally", some "word")) := hD 4 rfl
  have m_Tally_word : MtAt K D "Tally" "word" "Tally.word" s_Tally_word ["self", "name"] := ⟨F4, He.meth_ok (c.fact 19 rfl), F4.bindsN (fun _ _ _ _ _ _ us hl => match us, hl with | [_, _], _ => rfl)⟩
  have F5 : FunD K "one" "Tally.one" (defArgs s_Tally_one) (defBody s_Tally_one) (defScope s_Tally_one) [] [] (He.ma K (He.ga K "Tally") "one") (D ("Tally", some "one")) := hD 5 rfl
  have m_Tally_one : MtAt K D "Tally" "one" "Tally.one" s_Tally_one ["self", "name"] := ⟨F5, He.meth_ok (c.fact 20 rfl), F5.bindsN (fun _ _ _ _ _ _ us hl => match us, hl with | [_, _], _ => rfl)⟩
  have F6 : FunD K "rising" "Tally.rising" (defArgs s_Tally_rising) (defBody s_Tally_rising) (defScope s_Tally_rising) [] [] (He.ma K (He.ga K "Tally") "rising") (D ("Tally", some "rising")) := hD 6 rfl
  have m_Tally_rising : MtAt K D "Tally" "rising" "Tally.rising" s_Tally_rising ["self"] := ⟨F6, He.meth_ok (c.fact 21 rfl), F6.bindsN (fun _ _ _ _ _ _ us hl => match us, hl with | [_], _ => rfl)⟩
  have F7 : FunD K "mark" "Tally.mark" (defArgs s_Tally_mark) (defBody s_Tally_mark) (defScope s_Tally_mark) [] [] (He.ma K (He.ga K "Tally") "mark") (D ("Tally", some "mark")) := hD 7 rfl
  have m_Tally_mark : MtAt K D "Tally" "mark" "Tally.mark" s_Tally_mark ["self"] := ⟨F7, He.meth_ok (c.fact 22 rfl), F7.bindsN (fun _ _ _ _ _ _ us hl => match us, hl with | [_], _ => rfl)⟩
  have F8 : FunD K "look_size" "look_size" (defArgs s_look_size) (defBody s_look_size) (defScope s_look_size) [] [] (He.ga K "look_size") (D ("look_size", none)) := hD 8 rfl
  have m_look_size : FnAt K mg D "look_size" s_look_size ["size"] := ⟨F8, He.glo_ok X G (c.fact 23 rfl), F8.bindsN (fun _ _ _ _ _ _ us hl => match us, hl with | [_], _ => rfl)⟩
  have F9 : FunD K "__init__" "Window.__init__" (defArgs s_Window_init) (defBody s_Window_init) (defScope s_Window_init) [] [] (He.ma K (He.ga K "Window") "__init__") (D ("Window", some "__init__")) := hD 9 rfl
  have m_Window_init : MtAt K D "Window" "__init__" "Window.__init__" s_Window_init ["self", "size"] := ⟨F9, He.meth_ok (c.fact 24 rfl), F9.bindsN (fun _ _ _ _ _ _ us hl => match us, hl with | [_, _], _ => rfl)⟩
  have F10 : FunD K "put" "Window.put" (defArgs s_Window_put) (defBody s_Window_put) (defScope s_Window_put) [] [] (He.ma K (He.ga K "Window") "put") (D ("Window", some "put")) := hD 10 rfl
  have m_Window_put : MtAt K D "Window" "put" "Window.put" s_Window_put ["self", "thing"] := ⟨F10, He.meth_ok (c.fact 25 rfl), F10.bindsN (fun _ _ _ _ _ _ us hl => match us, hl with | [_, _], _ => rfl)⟩
  have F11 : FunD K "things" "Window.things" (defArgs s_Window_things) (defBody s_Window_things) (defScope s_Window_things) [] [] (He.ma K (He.ga K "Window") "things") (D ("Window", some "things")) := hD 11 rfl
  have m_Window_things : MtAt K D "Window" "things" "Window.things" s_Window_things ["self"] := ⟨F11, He.meth_ok (c.fact 26 rfl), F11.bindsN (fun _ _ _ _ _ _ us hl => match us, hl with | [_], _ => rfl)⟩
  have F12 : FunD K "word" "Window.word" (defArgs s_Window_word) (defBody s_Window_word) (defScope s_Window_word) [] [] (He.ma K (He.ga K "Window") "word") (D ("Window", some "word")) := hD 12 rfl
  have m_Window_word : MtAt K D "Window" "word" "Window.word" s_Window_word ["self", "name"] := ⟨F12, He.meth_ok (c.fact 27 rfl), F12.bindsN (fun _ _ _ _ _ _ us hl => match us, hl with | [_, _], _ => rfl)⟩
  have F13 : FunD K "__init__" "Timed.__init__" (defArgs s_Timed_init) (defBody s_Timed_init) (defScope s_Timed_init) [] [] (He.ma K (He.ga K "Timed") "__init__") (D ("Timed", some "__init__")) := hD 13 rfl
  have m_Timed_init : MtAt K D "Timed" "__init__" "Timed.__init__" s_Timed_init ["self", "span"] := ⟨F13, He.meth_ok (c.fact 28 rfl), F13.bindsN (fun _ _ _ _ _ _ us hl => match us, hl with | [_, _], _ => rfl)⟩
  have F14 : FunD K "time" "Timed.time" (defArgs s_Timed_time) (defBody s_Timed_time) (defScope s_Timed_time) [] [] (He.ma K (He.ga K "Timed") "time") (D ("Timed", some "time")) := hD 14 rfl
  have m_Timed_time : MtAt K D "Timed" "time" "Timed.time" s_Timed_time ["self"] := ⟨F14, He.meth_ok (c.fact 29 rfl), F14.bindsN (fun _ _ _ _ _ _ us hl => match us, hl with | [_], _ => rfl)⟩
  have F15 : FunD K "go_on" "Timed.go_on" (defArgs s_Timed_go_on) (defBody s_Timed_go_on) (defScope s_Timed_go_on) [] [] (He.ma K (He.ga K "Timed") "go_on") (D ("Timed", some "go_on")) := hD 15 rfl
  have m_Timed_go_on : MtAt K D "Timed" "go_on" "Timed.go_on" s_Timed_go_on ["self", "time"] := ⟨F15, He.meth_ok (c.fact 30 rfl), F15.bindsN (fun _ _ _ _ _ _ us hl => match us, hl with | [_, _], _ => rfl)⟩
  have F16 : FunD K "put" "Timed.put" (defArgs s_Timed_put) (defBody s_Timed_put) (defScope s_Timed_put) [] [] (He.ma K (He.ga K "Timed") "put") (D ("Timed", some "put")) := hD 16 rfl
  have m_Timed_put : MtAt K D "Timed" "put" "Timed.put" s_Timed_put ["self", "time", "thing"] := ⟨F16, He.meth_ok (c.fact 31 rfl), F16.bindsN (fun _ _ _ _ _ _ us hl => match us, hl with | [_, _, _], _ => rfl)⟩
  have F17 : FunD K "things" "Timed.things" (defArgs s_Timed_things) (defBody s_Timed_things) (defScope s_Timed_things) [] [] (He.ma K (He.ga K "Timed") "things") (D ("Timed", some "things")) := hD 17 rfl
  have m_Timed_things : MtAt K D "Timed" "things" "Timed.things" s_Timed_things ["self"] := ⟨F17, He.meth_ok (c.fact 32 rfl), F17.bindsN (fun _ _ _ _ _ _ us hl => match us, hl with | [_], _ => rfl)⟩
  have F18 : FunD K "word" "Timed.word" (defArgs s_Timed_word) (defBody s_Timed_word) (defScope s_Timed_word) [] [] (He.ma K (He.ga K "Timed") "word") (D ("Timed", some "word")) := hD 18 rfl
  have m_Timed_word : MtAt K D "Timed" "word" "Timed.word" s_Timed_word ["self", "name"] := ⟨F18, He.meth_ok (c.fact 33 rfl), F18.bindsN (fun _ _ _ _ _ _ us hl => match us, hl with | [_, _], _ => rfl)⟩
  have F19 : FunD K "behind" "behind" (defArgs s_behind) (defBody s_behind) (defScope s_behind) [] [] (He.ga K "behind") (D ("behind", none)) := hD 19 rfl
  have m_behind : FnAt K mg D "behind" s_behind ["one", "other"] := ⟨F19, He.glo_ok X G (c.fact 34 rfl), F19.bindsN (fun _ _ _ _ _ _ us hl => match us, hl with | [_, _], _ => rfl)⟩
  have F20 : FunD K "__init__" "Maps.__init__" (defArgs s_Maps_init) (defBody s_Maps_init) (defScope s_Maps_init) [] [] (He.ma K (He.ga K "Maps") "__init__") (D ("Maps", some "__init__")) := hD 20 rfl
  have m_Maps_init : MtAt K D "Maps" "__init__" "Maps.__init__" s_Maps_init ["self", "size"] := ⟨F20, He.meth_ok (c.fact 35 rfl), F20.bindsN (fun _ _ _ _ _ _ us hl => match us, hl with | [_, _], _ => rfl)⟩
  have F21 : FunD K "put" "Maps.put" (defArgs s_Maps_put) (defBody s_Maps_put) (defScope s_Maps_put) [] [] (He.ma K (He.ga K "Maps") "put") (D ("Maps", some "put")) := hD 21 rfl
  have m_Maps_put : MtAt K D "Maps" "put" "Maps.put" s_Maps_put ["self", "times", "more"] := ⟨F21, He.meth_ok (c.fact 36 rfl), F21.bindsN (fun _ _ _ _ _ _ us hl => match us, hl with | [_, _, _], _ => rfl)⟩
  have F22 : FunD K "turn" "Maps.turn" (defArgs s_Maps_turn) (defBody s_Maps_turn) (defScope s_Maps_turn) [] [] (He.ma K (He.ga K "Maps") "turn") (D ("Maps", some "turn")) := hD 22 rfl
  have m_Maps_turn : MtAt K D "Maps" "turn" "Maps.turn" s_Maps_turn ["self"] := ⟨F22, He.meth_ok (c.fact 37 rfl), F22.bindsN (fun _ _ _ _ _ _ us hl => match us, hl with | [_], _ => rfl)⟩
  have F23 : FunD K "whole" "Maps.whole" (defArgs s_Maps_whole) (defBody s_Maps_whole) (defScope s_Maps_whole) [] [] (He.ma K (He.ga K "Maps") "whole") (D ("Maps", some "whole")) := hD 23 rfl
  have m_Maps_whole : MtAt K D "Maps" "whole" "Maps.whole" s_Maps_whole ["self"] := ⟨F23, He.meth_ok (c.fact 38 rfl), F23.bindsN (fun _ _ _ _ _ _ us hl => match us, hl with | [_], _ => rfl)⟩
  have F24 : FunD K "maps" "Maps.maps" (defArgs s_Maps_maps) (defBody s_Maps_maps) (defScope s_Maps_maps) [] [] (He.ma K (He.ga K "Maps") "maps") (D ("Maps", some "maps")) := hD 24 rfl
  have m_Maps_maps : MtAt K D "Maps" "maps" "Maps.maps" s_Maps_maps ["self"] := ⟨F24, He.meth_ok (c.fact 39 rfl), F24.bindsN (fun _ _ _ _ _ _ us hl => match us, hl with | [_], _ => rfl)⟩
  have F25 : FunD K "at" "Maps.at" (defArgs s_Maps_at) (defBody s_Maps_at) (defScope s_Maps_at) [] [] (He.ma K (He.ga K "Maps") "at") (D ("Maps", some "at")) := hD 25 rfl
  have m_Maps_at : MtAt K D "Maps" "at" "Maps.at" s_Maps_at ["self", "number"] := ⟨F25, He.meth_ok (c.fact 40 rfl), F25.bindsN (fun _ _ _ _ _ _ us hl => match us, hl with | [_, _], _ => rfl)⟩
  have F26 : FunD K "__init__" "Groups.__init__" (defArgs s_Groups_init) (defBody s_Groups_init) (defScope s_Groups_init) [] [] (He.ma K (He.ga K "Groups") "__init__") (D ("Groups", some "__init__")) := hD 26 rfl
  have m_Groups_init : MtAt K D "Groups" "__init__" "Groups.__init__" s_Groups_init ["self", "size", "most"] := ⟨F26, He.meth_ok (c.fact 41 rfl), F26.bindsN (fun _ _ _ _ _ _ us hl => match us, hl with | [_, _, _], _ => rfl)⟩
  have F27 : FunD K "put" "Groups.put" (defArgs s_Groups_put) (defBody s_Groups_put) (defScope s_Groups_put) [] [] (He.ma K (He.ga K "Groups") "put") (D ("Groups", some "put")) := hD 27 rfl
  have m_Groups_put : MtAt K D "Groups" "put" "Groups.put" s_Groups_put ["self", "key", "thing"] := ⟨F27, He.meth_ok (c.fact 42 rfl), F27.bindsN (fun _ _ _ _ _ _ us hl => match us, hl with | [_, _, _], _ => rfl)⟩
  have F28 : FunD K "used" "Groups.used" (defArgs s_Groups_used) (defBody s_Groups_used) (defScope s_Groups_used) [] [] (He.ma K (He.ga K "Groups") "used") (D ("Groups", some "used")) := hD 28 rfl
  have m_Groups_used : MtAt K D "Groups" "used" "Groups.used" s_Groups_used ["self"] := ⟨F28, He.meth_ok (c.fact 43 rfl), F28.bindsN (fun _ _ _ _ _ _ us hl => match us, hl with | [_], _ => rfl)⟩
  have F29 : FunD K "need" "Groups.need" (defArgs s_Groups_need) (defBody s_Groups_need) (defScope s_Groups_need) [] [] (He.ma K (He.ga K "Groups") "need") (D ("Groups", some "need")) := hD 29 rfl
  have m_Groups_need : MtAt K D "Groups" "need" "Groups.need" s_Groups_need ["self", "key"] := ⟨F29, He.meth_ok (c.fact 44 rfl), F29.bindsN (fun _ _ _ _ _ _ us hl => match us, hl with | [_, _], _ => rfl)⟩
  have F30 : FunD K "things" "Groups.things" (defArgs s_Groups_things) (defBody s_Groups_things) (defScope s_Groups_things) [] [] (He.ma K (He.ga K "Groups") "things") (D ("Groups", some "things")) := hD 30 rfl
  have m_Groups_things : MtAt K D "Groups" "things" "Groups.things" s_Groups_things ["self", "key"] := ⟨F30, He.meth_ok (c.fact 45 rfl), F30.bindsN (fun _ _ _ _ _ _ us hl => match us, hl with | [_, _], _ => rfl)⟩
  have F31 : FunD K "word" "Groups.word" (defArgs s_Groups_word) (defBody s_Groups_word) (defScope s_Groups_word) [] [] (He.ma K (He.ga K "Groups") "word") (D ("Groups", some "word")) := hD 31 rfl
  have m_Groups_word : MtAt K D "Groups" "word" "Groups.word" s_Groups_word ["self", "key", "name"] := ⟨F31, He.meth_ok (c.fact 46 rfl), F31.bindsN (fun _ _ _ _ _ _ us hl => match us, hl with | [_, _, _], _ => rfl)⟩
  have F32 : FunD K "saved" "saved" (defArgs s_saved) (defBody s_saved) (defScope s_saved) [] [] (He.ga K "saved") (D ("saved", none)) := hD 32 rfl
  have m_saved : FnAt K mg D "saved" s_saved ["kept"] := ⟨F32, He.glo_ok X G (c.fact 47 rfl), F32.bindsN (fun _ _ _ _ _ _ us hl => match us, hl with | [_], _ => rfl)⟩
  have F33 : FunD K "woken" "woken" (defArgs s_woken) (defBody s_woken) (defScope s_woken) [] [] (He.ga K "woken") (D ("woken", none)) := hD 33 rfl
  have m_woken : FnAt K mg D "woken" s_woken ["numbers"] := ⟨F33, He.glo_ok X G (c.fact 48 rfl), F33.bindsN (fun _ _ _ _ _ _ us hl => match us, hl with | [_], _ => rfl)⟩
  have F34 : FunD K "woken_timed" "woken_timed" (defArgs s_woken_timed) (defBody s_woken_timed) (defScope s_woken_timed) [] [] (He.ga K "woken_timed") (D ("woken_timed", none)) := hD 34 rfl
  have m_woken_timed : FnAt K mg D "woken_timed" s_woken_timed ["span", "now", "rest"] := ⟨F34, He.glo_ok X G (c.fact 49 rfl), F34.bindsN (fun _ _ _ _ _ _ us hl => match us, hl with | [_, _, _], _ => rfl)⟩
  have F35 : FunD K "woken_groups" "woken_groups" (defArgs s_woken_groups) (defBody s_woken_groups) (defScope s_woken_groups) [] [] (He.ga K "woken_groups") (D ("woken_groups", none)) := hD 35 rfl
  have m_woken_groups : FnAt K mg D "woken_groups" s_woken_groups ["size", "most", "rest"] := ⟨F35, He.glo_ok X G (c.fact 50 rfl), F35.bindsN (fun _ _ _ _ _ _ us hl => match us, hl with | [_, _, _], _ => rfl)⟩
  have F36 : FunD K "_law_cell" "_law_cell" (defArgs s_l_cell) (defBody s_l_cell) (defScope s_l_cell) [] [] (He.ga K "_law_cell") (D ("_law_cell", none)) := hD 36 rfl
  have m_l_cell : FnAt K mg D "_law_cell" s_l_cell ["_law_script", "_law_k"] := ⟨F36, He.glo_ok X G (c.fact 51 rfl), F36.bindsN (fun _ _ _ _ _ _ us hl => match us, hl with | [_, _], _ => rfl)⟩
  have F37 : FunD K "_law_mix" "_law_mix" (defArgs s_l_mix) (defBody s_l_mix) (defScope s_l_mix) [] [] (He.ga K "_law_mix") (D ("_law_mix", none)) := hD 37 rfl
  have m_l_mix : FnAt K mg D "_law_mix" s_l_mix ["_law_script", "_law_k"] := ⟨F37, He.glo_ok X G (c.fact 52 rfl), F37.bindsN (fun _ _ _ _ _ _ us hl => match us, hl with | [_, _], _ => rfl)⟩
  have F38 : FunD K "_law_whole" "_law_whole" (defArgs s_l_whole) (defBody s_l_whole) (defScope s_l_whole) [] [] (He.ga K "_law_whole") (D ("_law_whole", none)) := hD 38 rfl
  have m_l_whole : FnAt K mg D "_law_whole" s_l_whole ["_law_found"] := ⟨F38, He.glo_ok X G (c.fact 53 rfl), F38.bindsN (fun _ _ _ _ _ _ us hl => match us, hl with | [_], _ => rfl)⟩
  have F39 : FunD K "_law_thing" "_law_thing" (defArgs s_l_thing) (defBody s_l_thing) (defScope s_l_thing) [] [] (He.ga K "_law_thing") (D ("_law_thing", none)) := hD 39 rfl
  have m_l_thing : FnAt K mg D "_law_thing" s_l_thing ["_law_script", "_law_k"] := ⟨F39, He.glo_ok X G (c.fact 54 rfl), F39.bindsN (fun _ _ _ _ _ _ us hl => match us, hl with | [_, _], _ => rfl)⟩
  have F40 : FunD K "_law_names" "_law_names" (defArgs s_l_names) (defBody s_l_names) (defScope s_l_names) [] [] (He.ga K "_law_names") (D ("_law_names", none)) := hD 40 rfl
  have m_l_names : FnAt K mg D "_law_names" s_l_names [] := ⟨F40, He.glo_ok X G (c.fact 55 rfl), F40.bindsN (fun _ _ _ _ _ _ us hl => match us, hl with | [], _ => rfl)⟩
  have F41 : FunD K "_law_word" "_law_word" (defArgs s_l_word) (defBody s_l_word) (defScope s_l_word) [] [] (He.ga K "_law_word") (D ("_law_word", none)) := hD 41 rfl
  have m_l_word : FnAt K mg D "_law_word" s_l_word ["_law_row", "_law_name"] := ⟨F41, He.glo_ok X G (c.fact 56 rfl), F41.bindsN (fun _ _ _ _ _ _ us hl => match us, hl with | [_, _], _ => rfl)⟩
  have F42 : FunD K "_law_rising" "_law_rising" (defArgs s_l_rising) (defBody s_l_rising) (defScope s_l_rising) [] [] (He.ga K "_law_rising") (D ("_law_rising", none)) := hD 42 rfl
  have m_l_rising : FnAt K mg D "_law_rising" s_l_rising ["_law_row"] := ⟨F42, He.glo_ok X G (c.fact 57 rfl), F42.bindsN (fun _ _ _ _ _ _ us hl => match us, hl with | [_], _ => rfl)⟩
  have F43 : FunD K "_law_is" "_law_is" (defArgs s_l_is) (defBody s_l_is) (defScope s_l_is) [] [] (He.ga K "_law_is") (D ("_law_is", none)) := hD 43 rfl
  have m_l_is : FnAt K mg D "_law_is" s_l_is ["_law_found", "_law_due"] := ⟨F43, He.glo_ok X G (c.fact 58 rfl), F43.bindsN (fun _ _ _ _ _ _ us hl => match us, hl with | [_, _], _ => rfl)⟩
  have F44 : FunD K "_law_all" "_law_all" (defArgs s_l_all) (defBody s_l_all) (defScope s_l_all) [] [] (He.ga K "_law_all") (D ("_law_all", none)) := hD 44 rfl
  have m_l_all : FnAt K mg D "_law_all" s_l_all ["_law_kept", "_law_row"] := ⟨F44, He.glo_ok X G (c.fact 59 rfl), F44.bindsN (fun _ _ _ _ _ _ us hl => match us, hl with | [_, _], _ => rfl)⟩
  have F45 : FunD K "_law_put" "_law_put" (defArgs s_l_put) (defBody s_l_put) (defScope s_l_put) [] [] (He.ga K "_law_put") (D ("_law_put", none)) := hD 45 rfl
  have m_l_put : FnAt K mg D "_law_put" s_l_put ["_law_way", "_law_kept", "_law_script", "_law_k"] := ⟨F45, He.glo_ok X G (c.fact 60 rfl), F45.bindsN (fun _ _ _ _ _ _ us hl => match us, hl with | [_, _, _, _], _ => rfl)⟩
  have F46 : FunD K "_law_told" "_law_told" (defArgs s_l_told) (defBody s_l_told) (defScope s_l_told) [] [] (He.ga K "_law_told") (D ("_law_told", none)) := hD 46 rfl
  have m_l_told : FnAt K mg D "_law_told" s_l_told ["_law_way", "_law_kept"] := ⟨F46, He.glo_ok X G (c.fact 61 rfl), F46.bindsN (fun _ _ _ _ _ _ us hl => match us, hl with | [_, _], _ => rfl)⟩
  have F47 : FunD K "_law_room" "_law_room" (defArgs s_l_room) (defBody s_l_room) (defScope s_l_room) [] [] (He.ga K "_law_room") (D ("_law_room", none)) := hD 47 rfl
  have m_l_room : FnAt K mg D "_law_room" s_l_room ["_law_way", "_law_kept"] := ⟨F47, He.glo_ok X G (c.fact 62 rfl), F47.bindsN (fun _ _ _ _ _ _ us hl => match us, hl with | [_, _], _ => rfl)⟩
  have F48 : FunD K "law" "law" (defArgs s_law) (defBody s_law) (defScope s_law) [] [] (He.ga K "law") (D ("law", none)) := hD 48 rfl
  have m_law : FnAt K mg D "law" s_law ["_law_script"] := ⟨F48, He.glo_ok X G (c.fact 63 rfl), F48.bindsN (fun _ _ _ _ _ _ us hl => match us, hl with | [_], _ => rfl)⟩
  exact ⟨D, ⟨cTally, cWindow, cTimed, cMaps, cGroups, m_placed, m_Tally_init, m_Tally_add, m_Tally_drop, m_Tally_word, m_Tally_one, m_Tally_rising, m_Tally_mark, m_look_size, m_Window_init, m_Window_put, m_Window_things, m_Window_word, m_Timed_init, m_Timed_time, m_Timed_go_on, m_Timed_put, m_Timed_things, m_Timed_word, m_behind, m_Maps_init, m_Maps_put, m_Maps_turn, m_Maps_whole, m_Maps_maps, m_Maps_at, m_Groups_init, m_Groups_put, m_Groups_used, m_Groups_need, m_Groups_things, m_Groups_word, m_saved, m_woken, m_woken_timed, m_woken_groups, m_l_cell, m_l_mix, m_l_whole, m_l_thing, m_l_names, m_l_word, m_l_rising, m_l_is, m_l_all, m_l_put, m_l_told, m_l_room, m_law, He.noat_ok (c.fact 64 rfl), He.noat_ok (c.fact 65 rfl), He.noat_ok (c.fact 66 rfl), He.noat_ok (c.fact 67 rfl), He.noat_ok (c.fact 68 rfl), He.noat_ok (c.fact 69 rfl), He.noat_ok (c.fact 70 rfl), He.noat_ok (c.fact 71 rfl), He.noat_ok (c.fact 72 rfl), He.noat_ok (c.fact 73 rfl), He.noat_ok (c.fact 74 rfl), He.noat_ok (c.fact 75 rfl), He.noat_ok (c.fact 76 rfl), He.noat_ok (c.fact 77 rfl), He.noat_ok (c.fact 78 rfl), He.noat_ok (c.fact 79 rfl), He.noat_ok (c.fact 80 rfl), He.noat_ok (c.fact 81 rfl), He.noat_ok (c.fact 82 rfl), He.int_ok X G (c.fact 83 rfl), He.int_ok X G (c.fact 84 rfl), He.int_ok X G (c.fact 85 rfl), He.int_ok X G (c.fact 86 rfl), He.free_ok X G (c.fact 87 rfl), He.free_ok X G (c.fact 88 rfl), He.free_ok X G (c.fact 89 rfl), He.free_ok X G (c.fact 90 rfl), He.free_ok X G (c.fact 91 rfl), He.free_ok X G (c.fact 92 rfl), He.free_ok X G (c.fact 93 rfl), He.free_ok X G (c.fact 94 rfl), He.free_ok X G (c.fact 95 rfl), He.free_ok X G (c.fact 96 rfl), He.free_ok X G (c.fact 97 rfl), He.free_ok X G (c.fact 98 rfl), He.free_ok X G (c.fact 99 rfl), x⟩⟩
abbrev R : PySem.W.OpenRow := PySem.W.OpenLaw.row PySem.Challenge.rw_lastfew_k30_whole_woken
def obX (g : Addr → Option Obj) : He.AlD × Bool := (He.obsDG 5 fa fn g, xtra (He.frG g (He.asD g 5)))
def hk : PySem.W.Hook where
  α := He.AlD × Bool
  obs := fun s => obX s.heap.get?
  val := fun _ => (He.valD fn, true)
  says := fun _ h => ∃ K : PySem.W.Frag, K.In h ∧ He.SaysD fa fn K ∧ xtra K = true
  of := fun _ _ e => ⟨_, He.frG_in, congrArg (fun z : He.AlD × Bool => z.1) e, congrArg (fun z : He.AlD × Bool => z.2) e⟩
  keeps := fun _ _ _ ⟨K, hK, c⟩ k => ⟨K, PySem.W.Frag.In.keeps hK k, c⟩
def ob (s : PySem.W.SharedT) : He.AlD × Bool := obX (HandSHeadRun.getT s)
theorem ob_eq (s : PySem.W.SharedT) : ob s = hk.obs s.abs := by
  have e : HandSHeadRun.getT s = s.abs.heap.get? := funext (HandSHeadRun.getT_eq s)
  show obX _ = obX _
  rw [e]
abbrev topM : Nat := 4000
set_option maxHeartbeats 0 in
theorem run (w : World) : HandSHeadRun.RunEq R (PySem.W.view R.prog [39]) hk ob topM ((["FewError", "BadWindow", "NoWord", "Late", "NoKey", "MARK_TIMES", "MARK_ROUND", "placed", "Tally", "MOST", "ROUND", "look_size", "Window", "Timed", "behind", "Maps", "Groups", "saved", "woken", "woken_timed", "woken_groups", "_law_cell", "_law_mix", "_law_whole", "_law_thing", "_law_names", "_law_word", "_law_rising", "_law_is", "_law_all"] : List PySem.Str) ++ (["_law_put", "_law_told", "_law_room"] : List PySem.Str)) w := by
  intro os
  kernel_rfl

end LF
open PySem PySem.W PySem.Calls PyProof.Rows
set_option maxHeartbeats 0 in
theorem PySem.Challenge.cw_lastfew_k30_whole_woken_holds : PySem.Challenge.rw_lastfew_k30_whole_woken.Holds := by
  w_on; o_law
  refine HandSHeadRun.head_any (r := OpenLaw.row PySem.Challenge.rw_lastfew_k30_whole_woken) (q := view (OpenLaw.row PySem.Challenge.rw_lastfew_k30_whole_woken).prog [39]) (H := LF.hk) (ob := LF.ob) (M := LF.topM) (loose := ((["FewError", "BadWindow", "NoWord", "Late", "NoKey", "MARK_TIMES", "MARK_ROUND", "placed", "Tally", "MOST", "ROUND", "look_size", "Window", "Timed", "behind", "Maps", "Groups", "saved", "woken", "woken_timed", "woken_groups", "_law_cell", "_law_mix", "_law_whole", "_law_thing", "_law_names", "_law_word", "_law_rising", "_law_is", "_law_all"] : List PySem.Str) ++ (["_law_put", "_law_told", "_law_room"] : List PySem.Str))) (d := HandSHeadRun.topDef (OpenLaw.row PySem.Challenge.rw_lastfew_k30_whole_woken).prog 39) (kwd := []) LF.ob_eq
    (by kernel_rfl) (fun s => by kernel_rfl) LF.run (by kernel_rfl) (by kernel_rfl) (by kernel_rfl) (by rfl) (by first | assumption | decide +kernel) (by decide +kernel) ⟨rfl, rfl, rfl, rfl, rfl, by decide +kernel⟩ ?hw ?hc
  case hw => w_witness2
  case hc =>
    refine L2.walk_ofE (l := PySem.Challenge.rw_lastfew_k30_whole_woken) (n := 63) (k := 9) (x := "_law_script") (CX := L2.CX0) rfl (by decide) (by kernel_rfl) ⟨rfl, by decide, by decide⟩ ?F (fun _ _ _ _ z => z)
    intro w mg fa h Y G hmg0
    obtain ⟨K, KX, c, x⟩ := Y
    have hmg : mg ("law" : PySem.Str) = some (.ref fa) := by
      have e : (HandSHeadRun.topDef (OpenLaw.row PySem.Challenge.rw_lastfew_k30_whole_woken).prog 39).name = ("law" : PySem.Str) := by kernel_rfl
      rw [← e]
      exact hmg0
    obtain ⟨D, T⟩ := LF.txt_of KX G c x
    have e := hmg.symm.trans T.law.g
    cases e
    exact ⟨K, D ("law", none), LF.spLaw K, KX, fun s v => (T.law.F.bindsA (ps := ["_law_script"]) fun _ _ _ _ _ _ us hl => match us, hl with | [_], _ => rfl) s [v] rfl, fun H a ns hl _ hS => ⟨a, ns, rfl, hS, hl, fun _ => rfl⟩, fun base _ _ => LF.ok_law T⟩
#print axioms PySem.Challenge.cw_lastfew_k30_whole_woken_holds

