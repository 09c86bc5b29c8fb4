import PyProof.Rows.All
import Wide.All
import OpenK.AllK
import Wide.FinOn
import KE.DataMinMax
import KE.KStateDown
import HandS.ForMost
import HandS.More
import HandS.IsInst
import HandS.SetFor
import HandS.Defaults
import HandS.HeadHook1
import HandS.HeadHook2
import HandS.Head0
import HandS.Head1
import HandS.Head2
import HandS.HeadEnd
import PySem.Challenge.RW_lastfew_k11_whole_maps
set_option Elab.async false
set_option linter.all false
set_option maxRecDepth 100000
set_option maxHeartbeats 4000000
/-! Plain mathematics of the program lastfew: sorted rows, wrong pairs, rising runs, commonest things. -/
namespace LF

/-! ### sorted rows -/
def srt (l : List Int) : List Int := l.mergeSort (fun a b => decide (a ≤ b))
theorem srt_perm (l : List Int) : (srt l).Perm l := List.mergeSort_perm l _
theorem srt_sorted (l : List Int) : (srt l).Pairwise (· ≤ ·) := by
  have h := List.pairwise_mergeSort (le := fun a b : Int => decide (a ≤ b)) (fun a b c h1 h2 => by simp at *; omega) (fun a b => by simp; omega) l
  exact h.imp (fun h => by simpa using h)
theorem srt_unique {a l : List Int} (p : a.Perm l) (s : a.Pairwise (· ≤ ·)) : a = srt l :=
  List.Perm.eq_of_pairwise (le := (· ≤ ·)) (fun x y _ _ h1 h2 => Int.le_antisymm h1 h2) s (srt_sorted l) (p.trans (srt_perm l).symm)
theorem srt_length (l : List Int) : (srt l).length = l.length := (srt_perm l).length_eq
theorem srt_nil : srt [] = [] := List.mergeSort_nil

/-- how many of a row are below x -/
def below (x : Int) (l : List Int) : Nat := l.countP (fun y => decide (y < x))
theorem below_perm {a b : List Int} (x : Int) (p : a.Perm b) : below x a = below x b := p.countP_eq _
theorem below_le (x : Int) (l : List Int) : below x l ≤ l.length := List.countP_le_length
theorem below_cut {l : List Int} {x : Int} {k : Nat} (hk : k ≤ l.length) (h1 : ∀ i (h : i < l.length), i < k → l[i] < x) (h2 : ∀ i (h : i < l.length), k ≤ i → x ≤ l[i]) : below x l = k := by
  unfold below
  have e : l = l.take k ++ l.drop k := (List.take_append_drop k l).symm
  rw [e, List.countP_append]
  have a : (l.take k).countP (fun y => decide (y < x)) = k := by
    have q : (l.take k).countP (fun y => decide (y < x)) = (l.take k).length := List.countP_eq_length.mpr fun y hy => by
      obtain ⟨i, hi, rfl⟩ := List.mem_iff_getElem.mp hy
      rw [List.length_take] at hi
      rw [List.getElem_take]
      exact decide_eq_true (h1 i (by omega) (by omega))
    rw [q, List.length_take]
    omega
  have b : (l.drop k).countP (fun y => decide (y < x)) = 0 := List.countP_eq_zero.mpr fun y hy => by
    obtain ⟨i, hi, rfl⟩ := List.mem_iff_getElem.mp hy
    rw [List.length_drop] at hi
    rw [List.getElem_drop]
    have q := h2 (k + i) (by omega) (by omega)
    simp
    omega
  rw [a, b]
  rfl
/-- a rising row, its first below x -/
theorem below_iff {l : List Int} (s : l.Pairwise (· ≤ ·)) (x : Int) : ∀ i (h : i < l.length), (l[i] < x ↔ i < below x l) := by
  have key : ∀ (l : List Int), l.Pairwise (· ≤ ·) → ∀ i (h : i < l.length), (l[i] < x ↔ i < below x l) := by
    intro l
    induction l with
    | nil => intro _ i h; exact absurd h (Nat.not_lt_zero _)
    | cons a r ih =>
      intro s i h
      obtain ⟨s1, s2⟩ := List.pairwise_cons.mp s
      unfold below
      rw [List.countP_cons]
      by_cases ha : a < x
      · rw [if_pos (decide_eq_true ha)]
        cases i with
        | zero =>
          show a < x ↔ _
          constructor
          · intro _; omega
          · intro _; exact ha
        | succ j =>
          have q := ih s2 j (by simpa using h)
          unfold below at q
          rw [List.getElem_cons_succ, q]
          omega
      · rw [if_neg (by simpa using ha)]
        have z : r.countP (fun y => decide (y < x)) = 0 := List.countP_eq_zero.mpr fun y hy => by
          have := s1 y hy
          simp
          omega
        rw [z]
        cases i with
        | zero =>
          show a < x ↔ _
          constructor
          · intro q; exact absurd q ha
          · intro q; omega
        | succ j =>
          rw [List.getElem_cons_succ]
          have hm : r[j]'(by simpa using h) ∈ r := List.getElem_mem _
          have := s1 _ hm
          constructor
          · intro q; omega
          · intro q; omega
  exact key l s

/-- what add makes of the ranks -/
theorem ranks_add {l r : List Int} (e : r = srt l) (x : Int) : r.take (below (x + 1) r) ++ [x] ++ r.drop (below (x + 1) r) = srt (l ++ [x]) := by
  have s : r.Pairwise (· ≤ ·) := by rw [e]; exact srt_sorted l
  have p : r.Perm l := by rw [e]; exact srt_perm l
  apply srt_unique
  · have q : (r.take (below (x + 1) r) ++ [x] ++ r.drop (below (x + 1) r)).Perm (r.take (below (x + 1) r) ++ r.drop (below (x + 1) r) ++ [x]) := by
      rw [List.append_assoc, List.append_assoc]
      exact List.Perm.append_left _ List.perm_append_comm
    rw [List.take_append_drop] at q
    exact q.trans (p.append_right _)
  · have b := below_iff s (x + 1)
    have hk := below_le (x + 1) r
    generalize hkk : below (x + 1) r = k at b hk
    have ht : ∀ a ∈ r.take k, a ≤ x := fun a ha => by
      obtain ⟨i, hi, rfl⟩ := List.mem_iff_getElem.mp ha
      rw [List.length_take] at hi
      rw [List.getElem_take]
      have := (b i (by omega)).mpr (by omega)
      omega
    have hd : ∀ a ∈ r.drop k, x ≤ a := fun a ha => by
      obtain ⟨i, hi, rfl⟩ := List.mem_iff_getElem.mp ha
      rw [List.length_drop] at hi
      rw [List.getElem_drop]
      have h1 := b (k + i) (by omega)
      by_cases hlt : r[k + i]'(by omega) < x + 1
      · have := h1.mp hlt
        omega
      · omega
    have s1 : (r.take k).Pairwise (· ≤ ·) := s.sublist (List.take_sublist k r)
    have s2 : (r.drop k).Pairwise (· ≤ ·) := s.sublist (List.drop_sublist k r)
    rw [List.append_assoc]
    refine List.pairwise_append.mpr ⟨s1, ?_, ?_⟩
    · refine List.pairwise_append.mpr ⟨List.pairwise_singleton _ _, s2, ?_⟩
      intro a ha c hc
      rw [List.mem_singleton.mp ha]
      exact hd c hc
    · intro a ha c hc
      have h1 := ht a ha
      rcases List.mem_append.mp hc with hc | hc
      · rw [List.mem_singleton.mp hc]; exact h1
      · have := hd c hc
        omega
/-- what drop makes of the ranks: at that place stands x -/
theorem ranks_at {l r : List Int} {x : Int} (e : r = srt (x :: l)) : r[below x r]? = some x := by
  have s : r.Pairwise (· ≤ ·) := by rw [e]; exact srt_sorted _
  have p : r.Perm (x :: l) := by rw [e]; exact srt_perm _
  have hx : x ∈ r := p.mem_iff.mpr List.mem_cons_self
  obtain ⟨i, hi, ei⟩ := List.mem_iff_getElem.mp hx
  have b := below_iff s x
  have h1 : ¬ i < below x r := fun q => by
    have := (b i hi).mpr q
    omega
  have hlt : below x r < r.length := by omega
  rw [List.getElem?_eq_getElem hlt]
  have h2 : ¬ r[below x r] < x := fun q => absurd ((b _ hlt).mp q) (Nat.lt_irrefl _)
  have h3 : r[below x r] ≤ r[i] := by
    by_cases hq : below x r = i
    · have : r[below x r] = r[i] := by congr 1
      omega
    · exact List.pairwise_iff_getElem.mp s _ _ hlt hi (by omega)
  congr 1
  omega
theorem ranks_drop {l r : List Int} {x : Int} (e : r = srt (x :: l)) : r.eraseIdx (below x r) = srt l := by
  have s : r.Pairwise (· ≤ ·) := by rw [e]; exact srt_sorted _
  have p : r.Perm (x :: l) := by rw [e]; exact srt_perm _
  have h := ranks_at e
  obtain ⟨hlt, ha⟩ := List.getElem?_eq_some_iff.mp h
  apply srt_unique
  · have q : r.Perm (x :: r.eraseIdx (below x r)) := by
      have e1 : r = r.take (below x r) ++ r[below x r] :: r.drop (below x r + 1) := by
        rw [List.getElem_cons_drop, List.take_append_drop]
      have e2 : r.eraseIdx (below x r) = r.take (below x r) ++ r.drop (below x r + 1) := List.eraseIdx_eq_take_drop_succ _ _
      rw [e2]
      rw [ha] at e1
      generalize below x r = k at e1
      have e3 : r.Perm (r.take k ++ x :: r.drop (k + 1)) := by rw [← e1]
      exact e3.trans List.perm_middle
    exact List.Perm.cons_inv (q.symm.trans p)
  · exact s.sublist (List.eraseIdx_sublist _ _)

/-! ### wrong pairs -/
def inv : List Int → Nat
  | [] => 0
  | x :: r => below x r + inv r
theorem inv_snoc (x : Int) : ∀ l : List Int, inv (l ++ [x]) = inv l + (l.length - below (x + 1) l)
  | [] => by simp [inv, below]
  | a :: r => by
    have ih := inv_snoc x r
    have h := below_le (x + 1) r
    show below a (r ++ [x]) + inv (r ++ [x]) = below a r + inv r + ((a :: r).length - below (x + 1) (a :: r))
    rw [ih]
    unfold below at *
    simp only [List.countP_append, List.countP_cons, List.countP_nil, List.length_cons]
    by_cases hx : x < a
    · rw [if_pos (decide_eq_true hx), if_neg (show ¬ decide (a < x + 1) = true by simp; omega)]
      omega
    · rw [if_neg (show ¬ decide (x < a) = true by simpa using hx), if_pos (show decide (a < x + 1) = true from decide_eq_true (by omega))]
      omega

/-! ### how long it rises -/
/-- from the first on, how many stand none below the one ahead -/
def up : List Int → Nat
  | [] => 0
  | [_] => 1
  | x :: y :: r => if x ≤ y then up (y :: r) + 1 else 1
def ris : List Int → Nat
  | [] => 0
  | x :: r => max (up (x :: r)) (ris r)
theorem up_pos (x : Int) (r : List Int) : 1 ≤ up (x :: r) := by
  cases r with
  | nil => exact Nat.le_refl _
  | cons y r =>
    unfold up
    split
    · omega
    · omega
/-- the program's loop: run so far, ending in x; r to come -/
theorem ris_step (run best : Nat) (x y : Int) (r : List Int) (_hr : 1 ≤ run) (_hb : run ≤ best) :
    max best (max (run + (up (x :: y :: r) - 1)) (ris (y :: r))) =
      max (max best (if x ≤ y then run + 1 else 1)) (max ((if x ≤ y then run + 1 else 1) + (up (y :: r) - 1)) (ris r)) := by
  have h1 := up_pos y r
  have e : ris (y :: r) = max (up (y :: r)) (ris r) := rfl
  have e2 : up (x :: y :: r) = if x ≤ y then up (y :: r) + 1 else 1 := rfl
  rw [e, e2]
  by_cases h : x ≤ y
  · rw [if_pos h, if_pos h]
    omega
  · rw [if_neg h, if_neg h]
    omega

theorem drop_two {α : Type} {l : List α} {i : Nat} (h : i + 1 < l.length) : l.drop i = l[i] :: l[i + 1] :: l.drop (i + 2) := by
  rw [← List.getElem_cons_drop (by omega : i < l.length), ← List.getElem_cons_drop h]
theorem drop_one {α : Type} {l : List α} {i : Nat} (h : i < l.length) : l.drop i = l[i] :: l.drop (i + 1) := by
  rw [← List.getElem_cons_drop h]
/-- between two turns of the program's loop -/
def RisInv (row : List Int) (i best run : Nat) : Prop :=
  (i = 0 ∧ best = 0) ∨ (1 ≤ i ∧ 1 ≤ run ∧ run ≤ best ∧ max best (max (run + (up (row.drop (i - 1)) - 1)) (ris (row.drop i))) = ris row)
theorem RisInv.first {row : List Int} {best run : Nat} (h : RisInv row 0 best run) (hr : 0 < row.length) : RisInv row 1 (max best 1) 1 := by
  rcases h with ⟨_, rfl⟩ | ⟨h, _⟩
  · refine .inr ⟨Nat.le_refl _, Nat.le_refl _, by omega, ?_⟩
    cases row with
    | nil => exact absurd hr (Nat.not_lt_zero _)
    | cons x r =>
      have h1 := up_pos x r
      have e : ris (x :: r) = max (up (x :: r)) (ris r) := rfl
      show max (max 0 1) (max (1 + (up (x :: r) - 1)) (ris r)) = ris (x :: r)
      rw [e]
      omega
  · omega
theorem RisInv.next {row : List Int} {i best run : Nat} (h : RisInv row i best run) (h0 : 0 < i) (hi : i < row.length) (h1 : i - 1 < row.length) :
    RisInv row (i + 1) (max best (if row[i - 1] ≤ row[i] then run + 1 else 1)) (if row[i - 1] ≤ row[i] then run + 1 else 1) := by
  rcases h with ⟨h, _⟩ | ⟨_, a, b, c⟩
  · omega
  · have hd : row.drop (i - 1) = row[i - 1] :: row[i] :: row.drop (i + 1) := by
      have q := drop_two (l := row) (i := i - 1) (by omega)
      have e1 : i - 1 + 1 = i := by omega
      have e2 : i - 1 + 2 = i + 1 := by omega
      simp only [e1, e2] at q
      exact q
    have hd2 : row.drop i = row[i] :: row.drop (i + 1) := drop_one hi
    rw [hd, hd2, ris_step run best _ _ _ a b] at c
    refine .inr ⟨by omega, ?_, by omega, ?_⟩
    · split <;> omega
    · show max _ (max (_ + (up (row.drop i) - 1)) (ris (row.drop (i + 1)))) = _
      rw [hd2]
      exact c
theorem RisInv.done {row : List Int} {best run : Nat} (h : RisInv row row.length best run) : best = ris row := by
  rcases h with ⟨h, rfl⟩ | ⟨h0, a, b, c⟩
  · rw [List.eq_nil_of_length_eq_zero h]
    rfl
  · have hd : row.drop (row.length - 1) = [row[row.length - 1]] := by
      rw [drop_one (by omega)]
      have e1 : row.length - 1 + 1 = row.length := by omega
      rw [e1, List.drop_length]
    rw [hd, List.drop_length] at c
    have e : up [row[row.length - 1]] = 1 := rfl
    have e2 : ris ([] : List Int) = 0 := rfl
    rw [e, e2] at c
    omega
/-- between two turns of the law's loop -/
def LrInv (row : List Int) (k best : Nat) : Prop := max best (ris (row.drop k)) = ris row
theorem LrInv.start (row : List Int) : LrInv row 0 0 := by
  unfold LrInv
  rw [List.drop_zero]
  omega
theorem LrInv.next {row : List Int} {k best : Nat} (h : LrInv row k best) (hk : k < row.length) : LrInv row (k + 1) (max best (up (row.drop k))) := by
  unfold LrInv at *
  have e : ris (row.drop k) = max (up (row.drop k)) (ris (row.drop (k + 1))) := by
    rw [drop_one hk]
    rfl
  omega
theorem LrInv.done {row : List Int} {best : Nat} (h : LrInv row row.length best) : best = ris row := by
  unfold LrInv at h
  rw [List.drop_length] at h
  have e2 : ris ([] : List Int) = 0 := rfl
  omega
/-- of its inner loop -/
def LeInv (row : List Int) (k e : Nat) : Prop := k + 1 ≤ e ∧ e ≤ row.length ∧ (e - k) + (up (row.drop (e - 1)) - 1) = up (row.drop k)
theorem LeInv.start {row : List Int} {k : Nat} (hk : k < row.length) : LeInv row k (k + 1) := by
  refine ⟨Nat.le_refl _, hk, ?_⟩
  have h1 : 1 ≤ up (row.drop k) := by
    rw [drop_one hk]
    exact up_pos _ _
  have e : k + 1 - 1 = k := by omega
  rw [e]
  omega
theorem LeInv.next {row : List Int} {k e : Nat} (h : LeInv row k e) (he : e < row.length) (h1 : e - 1 < row.length) (hle : row[e - 1] ≤ row[e]) : LeInv row k (e + 1) := by
  obtain ⟨a, b, c⟩ := h
  refine ⟨by omega, he, ?_⟩
  have hd : row.drop (e - 1) = row[e - 1] :: row[e] :: row.drop (e + 1) := by
    have q := drop_two (l := row) (i := e - 1) (by omega)
    have e1 : e - 1 + 1 = e := by omega
    have e2 : e - 1 + 2 = e + 1 := by omega
    simp only [e1, e2] at q
    exact q
  have hd2 : row.drop e = row[e] :: row.drop (e + 1) := drop_one he
  have u1 := up_pos row[e] (row.drop (e + 1))
  have eu : up (row[e - 1] :: row[e] :: row.drop (e + 1)) = up (row[e] :: row.drop (e + 1)) + 1 := if_pos hle
  rw [hd, eu] at c
  have e3 : e + 1 - 1 = e := by omega
  rw [e3, hd2]
  omega
theorem LeInv.done {row : List Int} {k e : Nat} (h : LeInv row k e) (h1 : e - 1 < row.length) (hs : ∀ he : e < row.length, ¬ row[e - 1] ≤ row[e]) : e - k = up (row.drop k) := by
  obtain ⟨a, b, c⟩ := h
  have u : up (row.drop (e - 1)) = 1 := by
    by_cases he : e < row.length
    · have hd : row.drop (e - 1) = row[e - 1] :: row[e] :: row.drop (e + 1) := by
        have q := drop_two (l := row) (i := e - 1) (by omega)
        have e1 : e - 1 + 1 = e := by omega
        have e2 : e - 1 + 2 = e + 1 := by omega
        simp only [e1, e2] at q
        exact q
      rw [hd]
      exact if_neg (hs he)
    · have hd : row.drop (e - 1) = [row[e - 1]] := by
        rw [drop_one (by omega)]
        have e1 : e - 1 + 1 = row.length := by omega
        rw [e1, List.drop_length]
      rw [hd]
      rfl
  omega

/-! ### how many different ones -/
def dd : List Int → List Int
  | [] => []
  | x :: r => if x ∈ r then dd r else x :: dd r
theorem mem_dd : ∀ (l : List Int) (x : Int), x ∈ dd l ↔ x ∈ l
  | [], x => Iff.rfl
  | a :: r, x => by
    have ih := mem_dd r x
    unfold dd
    by_cases h : a ∈ r
    · rw [if_pos h, ih]
      constructor
      · exact fun q => List.mem_cons_of_mem _ q
      · intro q
        rcases List.mem_cons.mp q with rfl | q
        · exact h
        · exact q
    · rw [if_neg h, List.mem_cons, List.mem_cons, ih]
theorem nodup_dd : ∀ (l : List Int), (dd l).Nodup
  | [] => List.nodup_nil
  | a :: r => by
    have ih := nodup_dd r
    unfold dd
    by_cases h : a ∈ r
    · rw [if_pos h]; exact ih
    · rw [if_neg h]
      exact List.nodup_cons.mpr ⟨fun q => h ((mem_dd r a).mp q), ih⟩
def unlike (l : List Int) : Nat := (dd l).length
theorem unlike_of {l ks : List Int} (n : ks.Nodup) (m : ∀ x, x ∈ ks ↔ x ∈ l) : ks.length = unlike l :=
  ((List.perm_ext_iff_of_nodup n (nodup_dd l)).mpr fun x => (m x).trans (mem_dd l x).symm).length_eq

/-! ### the commonest -/
/-- (-how often, thing) a at most b -/
def ple (a b : Int × Int) : Prop := a.1 < b.1 ∨ (a.1 = b.1 ∧ a.2 ≤ b.2)
instance (a b : Int × Int) : Decidable (ple a b) := by unfold ple; infer_instance
theorem ple_antisymm {a b : Int × Int} (h1 : ple a b) (h2 : ple b a) : a = b := by
  unfold ple at *
  have e1 : a.1 = b.1 := by omega
  have e2 : a.2 = b.2 := by omega
  exact Prod.ext e1 e2
def pmin (x : Int × Int) : List (Int × Int) → Int × Int
  | [] => x
  | y :: r => pmin (if ple x y then x else y) r
theorem pmin_spec : ∀ (r : List (Int × Int)) (x : Int × Int), pmin x r ∈ x :: r ∧ ∀ y ∈ x :: r, ple (pmin x r) y
  | [], x => ⟨List.mem_cons_self, fun y hy => by
      have e : y = x := by simpa using hy
      rw [e]
      exact .inr ⟨rfl, Int.le_refl _⟩⟩
  | a :: r, x => by
    by_cases h : ple x a
    · obtain ⟨i1, i2⟩ := pmin_spec r x
      have e : pmin x (a :: r) = pmin x r := by show pmin (if ple x a then x else a) r = _; rw [if_pos h]
      rw [e]
      refine ⟨?_, fun y hy => ?_⟩
      · rcases List.mem_cons.mp i1 with q | q
        · rw [q]; exact List.mem_cons_self
        · exact List.mem_cons_of_mem _ (List.mem_cons_of_mem _ q)
      · rcases List.mem_cons.mp hy with rfl | hy
        · exact i2 _ List.mem_cons_self
        · rcases List.mem_cons.mp hy with rfl | hy
          · have q := i2 x List.mem_cons_self
            unfold ple at *
            omega
          · exact i2 _ (List.mem_cons_of_mem _ hy)
    · obtain ⟨i1, i2⟩ := pmin_spec r a
      have e : pmin x (a :: r) = pmin a r := by show pmin (if ple x a then x else a) r = _; rw [if_neg h]
      rw [e]
      refine ⟨List.mem_cons_of_mem _ i1, fun y hy => ?_⟩
      rcases List.mem_cons.mp hy with rfl | hy
      · have q := i2 a List.mem_cons_self
        unfold ple at *
        omega
      · exact i2 _ hy
def pairOf (l : List Int) (x : Int) : Int × Int := (-(l.count x : Int), x)
/-- the commonest of a row, of several the least -/
def common : List Int → Int
  | [] => 0
  | x :: r => (pmin (pairOf (x :: r) x) (r.map (pairOf (x :: r)))).2
theorem common_of {l : List Int} (hl : l ≠ []) {p : Int × Int} (h1 : ∃ x ∈ l, p = pairOf l x) (h2 : ∀ x ∈ l, ple p (pairOf l x)) : p.2 = common l := by
  cases l with
  | nil => exact absurd rfl hl
  | cons a r =>
    obtain ⟨s1, s2⟩ := pmin_spec (r.map (pairOf (a :: r))) (pairOf (a :: r) a)
    have e : pairOf (a :: r) a :: r.map (pairOf (a :: r)) = (a :: r).map (pairOf (a :: r)) := rfl
    rw [e] at s1 s2
    obtain ⟨x, hx, rfl⟩ := h1
    obtain ⟨y, hy, ey⟩ := List.mem_map.mp s1
    have q1 := s2 _ (List.mem_map.mpr ⟨x, hx, rfl⟩)
    have q2 := h2 y hy
    rw [ey] at q2
    rw [ple_antisymm q2 q1]
    rfl
/-- how often one is there, kept by adding and by dropping -/
theorem count_snoc (l : List Int) (x y : Int) : (l ++ [x]).count y = l.count y + (if x = y then 1 else 0) := by
  rw [List.count_append, List.count_singleton]
  by_cases h : x = y
  · rw [if_pos h, if_pos (by simpa using h)]
  · rw [if_neg h, if_neg (by simpa using h)]
theorem count_cons' (l : List Int) (x y : Int) : (x :: l).count y = l.count y + (if x = y then 1 else 0) := by
  rw [List.count_cons]
  by_cases h : x = y
  · rw [if_pos h, if_pos (by simpa using h)]
  · rw [if_neg h, if_neg (by simpa using h)]

/-! ### the mark -/
def mark (l : List Int) : Int := l.foldl (fun f x => (f * 31 + x) % 1000003) 0
theorem mark_snoc (l : List Int) (x : Int) : (l ++ [x]).foldl (fun f x => (f * 31 + x) % 1000003) 0 = ((l.foldl (fun f x => (f * 31 + x) % 1000003) 0) * 31 + x) % 1000003 := by
  rw [List.foldl_append]
  rfl
theorem foldmark_nn : ∀ (l : List Int) (z : Int), 0 ≤ z → 0 ≤ l.foldl (fun f x => (f * 31 + x) % 1000003) z ∧ (z < 1000003 → l.foldl (fun f x => (f * 31 + x) % 1000003) z < 1000003)
  | [], z, h => ⟨h, fun q => q⟩
  | x :: r, z, _ => by
    have ih := foldmark_nn r ((z * 31 + x) % 1000003) (Int.emod_nonneg _ (by decide))
    exact ⟨ih.1, fun _ => ih.2 (Int.emod_lt_of_pos _ (by decide))⟩

/-! ### sums, ends -/
theorem inv_sum : ∀ l : List Int, ((List.range l.length).map (fun k => ((below (l.getD k 0) (l.drop (k + 1)) : Nat) : Int))).sum = (inv l : Nat)
  | [] => rfl
  | x :: r => by
    have ih := inv_sum r
    rw [List.length_cons, List.range_succ_eq_map, List.map_cons, List.map_map, List.sum_cons]
    have e : ((fun k => ((below ((x :: r).getD k 0) ((x :: r).drop (k + 1)) : Nat) : Int)) ∘ Nat.succ) = fun k => ((below (r.getD k 0) (r.drop (k + 1)) : Nat) : Int) := by
      funext k
      simp
    rw [e, ih]
    have e2 : inv (x :: r) = below x r + inv r := rfl
    rw [e2]
    simp
theorem least_of {l : List Int} {m : Int} (h1 : m ∈ l) (h2 : ∀ y ∈ l, m ≤ y) : m = (srt l).getD 0 0 := by
  have hl := srt_length l
  have hm : m ∈ srt l := (srt_perm l).mem_iff.mpr h1
  obtain ⟨i, hi, rfl⟩ := List.mem_iff_getElem.mp hm
  rw [List.getD_eq_getElem?_getD, List.getElem?_eq_getElem (by omega)]
  show _ = (srt l)[0]
  have h3 := h2 _ ((srt_perm l).mem_iff.mp (List.getElem_mem (show 0 < (srt l).length by omega)))
  by_cases e : i = 0
  · subst e; rfl
  · have := List.pairwise_iff_getElem.mp (srt_sorted l) 0 i (by omega) hi (by omega)
    omega
theorem greatest_of {l : List Int} {m : Int} (n : Nat) (hn : l.length = n + 1) (h1 : m ∈ l) (h2 : ∀ y ∈ l, y ≤ m) : m = (srt l).getD n 0 := by
  have hl := srt_length l
  have hm : m ∈ srt l := (srt_perm l).mem_iff.mpr h1
  obtain ⟨i, hi, rfl⟩ := List.mem_iff_getElem.mp hm
  rw [List.getD_eq_getElem?_getD, List.getElem?_eq_getElem (by omega)]
  show _ = (srt l)[n]
  have h3 := h2 _ ((srt_perm l).mem_iff.mp (List.getElem_mem (show n < (srt l).length by omega)))
  by_cases e : i = n
  · subst e; rfl
  · have := List.pairwise_iff_getElem.mp (srt_sorted l) i n hi (by omega) (by omega)
    omega
end LF

/-! Plain mathematics of maps one behind the other. -/
namespace LF
def MR : Int := 1000003
def comp (f g : Int × Int) : Int × Int := (f.1 * g.1 % 1000003, (f.2 * g.1 + g.2) % 1000003)
def made (row : List (Int × Int)) (x : Int) : Int := row.foldl (fun x p => (p.1 * x + p.2) % 1000003) x % 1000003
def InR (c : Int × Int) : Prop := 0 ≤ c.1 ∧ c.1 < 1000003 ∧ 0 ≤ c.2 ∧ c.2 < 1000003
structure Rep (c : Int × Int) (row : List (Int × Int)) : Prop where
  r : InR c
  v : ∀ x, (c.1 * x + c.2) % 1000003 = made row x
theorem comp_in (f g : Int × Int) : InR (comp f g) := ⟨Int.emod_nonneg _ (by decide), Int.emod_lt_of_pos _ (by decide), Int.emod_nonneg _ (by decide), Int.emod_lt_of_pos _ (by decide)⟩
theorem emod_cong {a b : Int} (h : ∃ k, a = b + 1000003 * k) : a % 1000003 = b % 1000003 := by
  obtain ⟨k, rfl⟩ := h
  exact Int.add_mul_emod_self_left _ _ _
theorem emod_self (a : Int) : ∃ k, a % 1000003 = a + 1000003 * k := ⟨-(a / 1000003), by have := Int.emod_add_mul_ediv a 1000003; omega⟩
theorem made_emod (row : List (Int × Int)) (x : Int) : made row (x % 1000003) = made row x := by
  unfold made
  cases row with
  | nil => exact Int.emod_emod _ _
  | cons p r =>
    rw [List.foldl_cons, List.foldl_cons]
    have e : (p.1 * (x % 1000003) + p.2) % 1000003 = (p.1 * x + p.2) % 1000003 := by
      obtain ⟨k, hk⟩ := emod_self x
      rw [hk]
      refine emod_cong ⟨p.1 * k, ?_⟩
      rw [Int.mul_add, Int.mul_left_comm]
      omega
    rw [e]
theorem made_append (a b : List (Int × Int)) (x : Int) : made (a ++ b) x = made b (made a x) := by
  have h : made b (made a x) = made b (a.foldl (fun x p => (p.1 * x + p.2) % 1000003) x) := by
    unfold made
    exact made_emod b _
  rw [h]
  unfold made
  rw [List.foldl_append]
theorem Rep.nil : Rep (1, 0) [] := ⟨⟨by decide, by decide, by decide, by decide⟩, fun x => by show (1 * x + 0) % 1000003 = x % 1000003; rw [Int.one_mul, Int.add_zero]⟩
theorem Rep.one {c : Int × Int} (h : InR c) : Rep c [c] := ⟨h, fun x => by
  show _ = ((c.1 * x + c.2) % 1000003) % 1000003
  rw [Int.emod_emod]⟩
theorem Rep.comp {c d : Int × Int} {a b : List (Int × Int)} (h1 : Rep c a) (h2 : Rep d b) : Rep (comp c d) (a ++ b) := by
  refine ⟨comp_in _ _, fun x => ?_⟩
  rw [made_append, ← h2.v, ← h1.v]
  unfold LF.comp
  obtain ⟨k1, e1⟩ := emod_self (c.1 * d.1)
  obtain ⟨k2, e2⟩ := emod_self (c.2 * d.1 + d.2)
  obtain ⟨k3, e3⟩ := emod_self (c.1 * x + c.2)
  show (c.1 * d.1 % 1000003 * x + (c.2 * d.1 + d.2) % 1000003) % 1000003 = (d.1 * ((c.1 * x + c.2) % 1000003) + d.2) % 1000003
  rw [e1, e2, e3]
  refine emod_cong ⟨k1 * x + k2 - d.1 * k3, ?_⟩
  have m1 : (c.1 * d.1 + 1000003 * k1) * x = c.1 * d.1 * x + 1000003 * (k1 * x) := by rw [Int.add_mul, Int.mul_assoc 1000003]
  have m2 : d.1 * (c.1 * x + c.2 + 1000003 * k3) = c.1 * d.1 * x + c.2 * d.1 + 1000003 * (d.1 * k3) := by
    rw [Int.mul_add, Int.mul_add, Int.mul_left_comm d.1 1000003, ← Int.mul_assoc, Int.mul_comm d.1 c.1, Int.mul_comm d.1 c.2]
  rw [m1, m2]
  have m3 : 1000003 * (k1 * x + k2 - d.1 * k3) = 1000003 * (k1 * x) + 1000003 * k2 - 1000003 * (d.1 * k3) := by rw [Int.mul_sub, Int.mul_add]
  rw [m3]
  omega
theorem Rep.pair {c : Int × Int} {row : List (Int × Int)} (h : Rep c row) : c = ((made row 1 - made row 0) % 1000003, made row 0) := by
  obtain ⟨⟨a1, a2, a3, a4⟩, v⟩ := h
  have h0 := v 0
  have h1 := v 1
  rw [Int.mul_zero, Int.zero_add, Int.emod_eq_of_lt a3 a4] at h0
  rw [Int.mul_one] at h1
  refine Prod.ext ?_ h0
  show c.1 = (made row 1 - made row 0) % 1000003
  rw [← h1, ← h0]
  obtain ⟨k, e⟩ := emod_self (c.1 + c.2)
  rw [e]
  have e2 : (c.1 + c.2 + 1000003 * k - c.2) % 1000003 = c.1 % 1000003 := emod_cong ⟨k, by omega⟩
  rw [e2, Int.emod_eq_of_lt a1 a2]
/-- the old ones, the earliest first, each with what lies above it -/
def topF : List ((Int × Int) × (Int × Int)) → Int × Int
  | [] => (1, 0)
  | q :: _ => q.2
def OldOk : List ((Int × Int) × (Int × Int)) → Prop
  | [] => True
  | q :: r => InR q.1 ∧ q.2 = comp q.1 (topF r) ∧ OldOk r
theorem OldOk.rep : ∀ {st : List ((Int × Int) × (Int × Int))}, OldOk st → Rep (topF st) (st.map (·.1))
  | [], _ => Rep.nil
  | q :: r, h => by
    obtain ⟨h1, h2, h3⟩ := h
    have e : topF (q :: r) = comp q.1 (topF r) := h2
    rw [e]
    exact (Rep.one h1).comp h3.rep
theorem made_of {c : Int × Int} {row : List (Int × Int)} (h : Rep c row) (x : Int) : (c.1 * x + c.2) % 1000003 = made row x := h.v x
end LF

set_option maxRecDepth 100000
set_option maxHeartbeats 4000000
/-! Rules of my own over the hand layer: a global int, min of pairs, len of a set of ints; steps of readings. -/
namespace LF
open PySem PySem.Spec PyProof.Rows L2

/-! ### how the top's defs and classes stand -/
structure FnAt (K : PySem.W.Frag) (mg : Str → Option Value) (D : Str × Option Str → FuncData) (x : Str) (st : Stmt) (ps : List Str) : Prop where
  F : FunD K x x (defArgs st) (defBody st) (defScope st) [] [] (He.ga K x) (D (x, none))
  g : mg x = some (.ref (He.ga K x))
  b : L2.Binds K (D (x, none)) ps []
structure MtAt (K : PySem.W.Frag) (D : Str × Option Str → FuncData) (C m q : Str) (st : Stmt) (ps : List Str) : Prop where
  F : FunD K m q (defArgs st) (defBody st) (defScope st) [] [] (He.ma K (He.ga K C) m) (D (C, some m))
  me : Meth K (He.ga K C) m (He.ma K (He.ga K C) m)
  b : L2.Binds K (D (C, some m)) ps []
structure ClAt (K : PySem.W.Frag) (mg : Str → Option Value) (C : Str) : Prop where
  cl : Cls K (He.ga K C)
  mkr : Mk K (He.ga K C) (He.ma K (He.ga K C) "__init__")
  g : mg C = some (.ref (He.ga K C))

section
variable {X : Cx}
theorem pe_globI {x : Str} {i : Int} {pos : Pos} (hg : Gl X x) (hm : ∃ t, X.mg x = some (.int i t)) (hd : (x == ("__debug__" : Str)) = false := by decide) : PE X (.Name x pos) (tC (.int i)) := by
  obtain ⟨t, h⟩ := hm
  exact pe_glob hg h ⟨t, rfl⟩ hd

/-! ### min of a list of pairs of ints -/
theorem toks_pair (a b : Int) : PySem.W.keyToks (.tuple [.int a, .int b]) = [Sum.inl 1, Sum.inl a, Sum.inl 1, Sum.inl b, Sum.inl 0] := by
  simp [PySem.W.keyToks, PySem.W.keyToksAll]
theorem lex_one (a b : Int) : PyProof.Rows.lexLt itemOrd [Sum.inl a] [Sum.inl b] = decide (a < b) := by
  have h := PySem.W.dataLt_int a b
  unfold PySem.W.dataLt at h
  simpa [PySem.W.keyToks] using h
theorem lt_pair (a b c d : Int) : PySem.W.dataLt (.tuple [.int a, .int b]) (.tuple [.int c, .int d]) = decide (a < c ∨ (a = c ∧ b < d)) := by
  unfold PySem.W.dataLt
  rw [toks_pair, toks_pair]
  refine (lex_self (O := itemOrd) _ _ _).trans ?_
  by_cases h : a = c
  · subst h
    refine (lex_self (O := itemOrd) _ _ _).trans ?_
    refine (lex_self (O := itemOrd) _ _ _).trans ?_
    by_cases h2 : b = d
    · subst h2
      refine (lex_self (O := itemOrd) _ _ _).trans ?_
      refine (lex_self (O := itemOrd) _ _ _).trans ?_
      simp [PyProof.Rows.lexLt]
    · refine (PySem.W.lex_atom (fun q => h2 (Sum.inl.inj q)) _ _).trans ?_
      rw [lex_one]
      simp
  · refine (PySem.W.lex_atom (fun q => h (Sum.inl.inj q)) _ _).trans ?_
    rw [lex_one]
    simp [h]

def rMinP (K : PySem.W.Frag) : List V → Hp → VK → Prop := fun vs H Q => ∃ (a : Addr) (ps : List (Addr × Int × Int)), vs = [V.ref a] ∧ SqL K H a (ps.map fun p => V.ref p.1) ∧ (∀ p ∈ ps, SqT K H p.1 [.int p.2.1, .int p.2.2]) ∧ ps ≠ [] ∧
  ∀ p, p ∈ ps → (∀ q ∈ ps, ple p.2 q.2) → Q (.ref p.1) H
theorem dpAll_pairs {K : PySem.W.Frag} {H : Hp} : ∀ ps : List (Addr × Int × Int), (∀ p ∈ ps, SqT K H p.1 [.int p.2.1, .int p.2.2]) → DpAll K H (ps.map fun p => V.ref p.1) (ps.map fun p => PyData.tuple [.int p.2.1, .int p.2.2])
  | [], _ => .nil
  | p :: r, h => .cons (.tup (h p List.mem_cons_self) (.cons (.int _) (.cons (.int _) .nil))) (dpAll_pairs r fun q hq => h q (List.mem_cons_of_mem _ hq))
def dOf (p : Addr × Int × Int) : PyData := .tuple [.int p.2.1, .int p.2.2]
theorem minD_pairs : ∀ (r : List (Addr × Int × Int)) (p : Addr × Int × Int), ∃ q ∈ p :: r, PySem.W.minD (dOf p) (r.map dOf) = dOf q ∧ ∀ z ∈ p :: r, ple q.2 z.2
  | [], p => ⟨p, List.mem_cons_self, rfl, fun z hz => by
      have e : z = p := by simpa using hz
      rw [e]
      exact .inr ⟨rfl, Int.le_refl _⟩⟩
  | y :: r, p => by
    have st : PySem.W.minD (dOf p) ((y :: r).map dOf) = PySem.W.minD (if PySem.W.dataLt (dOf y) (dOf p) then dOf y else dOf p) (r.map dOf) := rfl
    have ed : PySem.W.dataLt (dOf y) (dOf p) = decide (y.2.1 < p.2.1 ∨ (y.2.1 = p.2.1 ∧ y.2.2 < p.2.2)) := lt_pair _ _ _ _
    by_cases h : y.2.1 < p.2.1 ∨ (y.2.1 = p.2.1 ∧ y.2.2 < p.2.2)
    · rw [st, ed, if_pos (decide_eq_true h)]
      obtain ⟨q, hq, e, hle⟩ := minD_pairs r y
      refine ⟨q, List.mem_cons_of_mem _ hq, e, fun z hz => ?_⟩
      rcases List.mem_cons.mp hz with rfl | hz
      · have q1 := hle y List.mem_cons_self
        unfold ple at *
        omega
      · exact hle z hz
    · rw [st, ed, if_neg (by simpa using h)]
      obtain ⟨q, hq, e, hle⟩ := minD_pairs r p
      refine ⟨q, ?_, e, fun z hz => ?_⟩
      · rcases List.mem_cons.mp hq with rfl | hq
        · exact List.mem_cons_self
        · exact List.mem_cons_of_mem _ (List.mem_cons_of_mem _ hq)
      · rcases List.mem_cons.mp hz with rfl | hz
        · exact hle _ List.mem_cons_self
        · rcases List.mem_cons.mp hz with rfl | hz
          · have q1 := hle p List.mem_cons_self
            unfold ple at *
            omega
          · exact hle z (List.mem_cons_of_mem _ hz)
theorem depth_pairs : ∀ ps : List (Addr × Int × Int), PyData.depthAll (ps.map dOf) ≤ 1
  | [] => by simp [PyData.depthAll]
  | p :: r => by
    have ih := depth_pairs r
    rw [List.map_cons]
    simp only [PyData.depthAll, dOf, PyData.depth] at *
    omega
theorem alike_pairs (ps : List (Addr × Int × Int)) : PySem.W.AlikeAll (ps.map dOf) := by
  refine ⟨fun x hx y hy => ?_, fun x hx => ?_⟩
  · obtain ⟨p, _, rfl⟩ := List.mem_map.mp hx
    obtain ⟨q, _, rfl⟩ := List.mem_map.mp hy
    simp [dOf, PySem.W.alike, PySem.W.alikeAll]
  · obtain ⟨p, _, rfl⟩ := List.mem_map.mp hx
    intro z
    cases z
theorem reads_pair {h : Heap} {T : Addr} {u : Value} {a b : Int} {bs : List Addr} (e : u = .ref T) (r : Reads h u (.tuple [.int a, .int b]) bs) {i j : Int} {as : List Addr} (r2 : Reads h (.ref T) (.tuple [.int i, .int j]) as) : i = a ∧ j = b := by
  subst e
  cases r with
  | tuple h1 h2 h3 h4 =>
    cases r2 with
    | tuple g1 g2 g3 g4 =>
      rw [h1] at g1
      cases g1
      rw [h3] at g3
      injection g3 with g5 g6
      subst g5
      generalize Array.toList _ = l at h4 g4
      cases h4 with
      | cons x1 x2 =>
        cases g4 with
        | cons y1 y2 =>
          cases x1
          cases y1
          cases x2 with
          | cons z1 z2 =>
            cases y2 with
            | cons w1 w2 =>
              cases z1
              cases w1
              exact ⟨rfl, rfl⟩
theorem vals_ref {ps : List (Addr × Int × Int)} {its : List Value} (rv : Vals (ps.map fun p => V.ref p.1) its) {i : Nat} {v : Value} (h : its[i]? = some v) : ∃ p, ps[i]? = some p ∧ v = .ref p.1 := by
  have hl := rv.length
  rw [List.length_map] at hl
  have hi : i < its.length := (List.getElem?_eq_some_iff.mp h).1
  have hp : i < ps.length := by omega
  have e : (ps.map fun p => V.ref p.1)[i]? = some (.ref (ps[i]).1) := by rw [List.getElem?_map, List.getElem?_eq_getElem hp]; rfl
  obtain ⟨u, hu, ru⟩ := rv.get e
  rw [h] at hu
  cases hu
  exact ⟨ps[i], List.getElem?_eq_getElem hp, ru⟩
theorem cr_minP (hc : X.calm = true) (hu : X.A.units + 64 < cLine) : CallR X (.builtin "min") (rMinP X.K) := by
  intro pins s σ H vs us Q I r h
  obtain ⟨a, ps, rfl, hs, ht, hne, q⟩ := h
  obtain ⟨its, rv, hl, _⟩ := I.list hs
  rw [Vals.ref1 r]
  obtain ⟨as, hr⟩ := Dp.readsAll I _ _ its (dpAll_pairs ps ht) rv
  cases ps with
  | nil => exact absurd rfl hne
  | cons p0 r0 =>
    have hr' : ReadsAll s.heap its.toArray.toList (dOf p0 :: r0.map dOf) as := by
      have e : (fun p : Addr × Int × Int => PyData.tuple [.int p.2.1, .int p.2.2]) = dOf := rfl
      rw [e] at hr
      simpa using hr
    have hd := depth_pairs (p0 :: r0)
    rw [List.map_cons] at hd
    refine PySem.W.min_list_data (I.ok.hd hc) hl.isList hr' (alike_pairs (p0 :: r0)) (by omega) fun i v h' tk bs hv hrd hk => ?_
    obtain ⟨p, hp, rfl⟩ := vals_ref rv (by simpa using hv)
    obtain ⟨z, hz, ez, hle⟩ := minD_pairs r0 p0
    rw [ez] at hrd
    have I2 : Inv X pins σ H { s with heap := h', toks := tk } := I.kept hk
    have hpm : p ∈ p0 :: r0 := List.mem_of_getElem? hp
    obtain ⟨as2, hr2⟩ := Dp.reads I2 (.tuple [.int p.2.1, .int p.2.2]) (.ref p.1) (.ref p.1) (.tup (ht p hpm) (.cons (.int _) (.cons (.int _) .nil))) rfl
    obtain ⟨e1, e2⟩ := reads_pair rfl hrd hr2
    refine ⟨.ref p.1, H, I2, rfl, q p hpm fun y hy => ?_⟩
    have := hle y hy
    unfold ple at *
    omega

/-! ### len(set(xs)), xs a list of ints -/
theorem fm_succ (f : Nat → Int) (n : Nat) : PyProof.Rows.firstMet f (n + 1) = if (PyProof.Rows.firstMet f n).any (· == f n) = true then PyProof.Rows.firstMet f n else PyProof.Rows.firstMet f n ++ [f n] := by
  rw [PyProof.Rows.firstMet_succ]
  rfl
theorem firstMet_mem (f : Nat → Int) : ∀ n x, x ∈ PyProof.Rows.firstMet f n ↔ ∃ i, i < n ∧ f i = x
  | 0, x => by
    constructor
    · intro h
      cases h
    · rintro ⟨i, h, _⟩
      exact absurd h (Nat.not_lt_zero _)
  | n + 1, x => by
    have ih := firstMet_mem f n
    rw [fm_succ]
    by_cases h : (PyProof.Rows.firstMet f n).any (· == f n) = true
    · rw [if_pos h, ih x]
      constructor
      · rintro ⟨i, h1, h2⟩
        exact ⟨i, by omega, h2⟩
      · rintro ⟨i, h1, h2⟩
        by_cases e : i = n
        · subst e
          obtain ⟨y, hy, ey⟩ := List.any_eq_true.mp h
          have ey2 : y = f i := eq_of_beq ey
          rw [← h2, ← ey2]
          exact (ih y).mp hy
        · exact ⟨i, by omega, h2⟩
    · rw [if_neg h, List.mem_append, ih x, List.mem_singleton]
      constructor
      · rintro (⟨i, h1, h2⟩ | h2)
        · exact ⟨i, by omega, h2⟩
        · exact ⟨n, by omega, h2.symm⟩
      · rintro ⟨i, h1, h2⟩
        by_cases e : i = n
        · subst e
          exact .inr h2.symm
        · exact .inl ⟨i, by omega, h2⟩
theorem firstMet_nd (f : Nat → Int) : ∀ n, (PyProof.Rows.firstMet f n).Nodup
  | 0 => List.nodup_nil
  | n + 1 => by
    have ih := firstMet_nd f n
    rw [fm_succ]
    by_cases h : (PyProof.Rows.firstMet f n).any (· == f n) = true
    · rw [if_pos h]
      exact ih
    · rw [if_neg h]
      refine nd_snoc ih fun hm => h (List.any_eq_true.mpr ⟨f n, hm, by simp⟩)
theorem firstMet_unlike (ns : List Int) : (PyProof.Rows.firstMet (fun i => ns.getD i 0) ns.length).length = unlike ns := by
  refine unlike_of (firstMet_nd _ _) fun x => ?_
  rw [firstMet_mem]
  constructor
  · rintro ⟨i, h1, h2⟩
    rw [List.getD_eq_getElem?_getD, List.getElem?_eq_getElem h1] at h2
    rw [← h2]
    exact List.getElem_mem h1
  · intro h
    obtain ⟨i, h1, h2⟩ := List.mem_iff_getElem.mp h
    refine ⟨i, h1, ?_⟩
    rw [List.getD_eq_getElem?_getD, List.getElem?_eq_getElem h1]
    exact h2
theorem intsAre_vals : ∀ {ns : List Int} {us : List Value}, Vals (ns.map V.int) us → PyProof.Rows.IntsAre us ns
  | [], _, .nil => .nil
  | n :: ns, _, .cons r t => by
    obtain ⟨k, rfl⟩ := r
    exact .cons n k (intsAre_vals t)
def tLenSetD (K : PySem.W.Frag) (ta : TE) : TE := fun σ H Q => ta σ H fun x H1 => ∃ (l : Addr) (ns : List Int), x = .ref l ∧ SqL K H1 l (ns.map V.int) ∧ ns.length ≤ 4000 ∧ Q (.int (unlike ns : Nat)) H1
theorem unlike_le (ns : List Int) : unlike ns ≤ ns.length := by
  rw [← firstMet_unlike]
  have h : ∀ (f : Nat → Int) n, (PyProof.Rows.firstMet f n).length ≤ n := by
    intro f n
    induction n with
    | zero => exact Nat.le_refl 0
    | succ n ih =>
      rw [fm_succ]
      split
      · omega
      · rw [List.length_append, List.length_singleton]
        omega
  exact h _ _
theorem pe_lenSetD {a : Expr} {ta : TE} {p p2 q pos : Pos} (hg : Gl X "len") (hm : X.mg "len" = none) (hg2 : Gl X "set") (hm2 : X.mg "set" = none) (ha : PE X a ta) (hc : X.calm = true := by rfl)
    (na : starEach [a] X.env = (false, eval a X.env) :: starEach [] X.env := by rfl) : PE X (.Call (.Name "len" p) [.Call (.Name "set" p2) [a] [] q] [] pos) (tLenSetD X.K ta) := by
  refine ⟨fun pins s σ H Q I h => ?_⟩
  refine Call_ (ld_blt I hg hm boot_len ?_)
  refine PyProof.Rows.callWith_builtin1 (PyProof.Rows.args_cons ?_ rfl) rfl rfl
  refine Call_ (ld_blt I hg2 hm2 boot_set ?_)
  refine PyProof.Rows.callWith_type1 (PyProof.Rows.args_cons (thn (ha.run pins s σ H _ I h) fun v s1 ⟨x, H1, I1, r1, q1⟩ => PyProof.Rows.args_nil ?_) na) na rfl
  obtain ⟨l, ns, rfl, hq, hl, q1⟩ := q1
  cases r1
  obtain ⟨its, r, pl, hz⟩ := I1.list hq
  have hlen : its.toArray.size = ns.length := by rw [List.size_toArray, ← r.length, List.length_map]
  refine call_set_list (I1.ok.hd hc) pl.isList (by simpa using intsAre_vals r) (by rw [hlen]; unfold scanBound; omega) fun h' tk hS hk => ?_
  refine PyProof.Rows.args_nil ?_
  rw [hlen] at hS
  have hu := firstMet_unlike ns
  have hul := unlike_le ns
  obtain ⟨o, es, ep, t, ho, hex, hd, _, _, _, hf, hn⟩ := hS
  have I2 : Inv X pins σ H1 { s1 with heap := h', toks := tk } := I1.kept fun b o e => hk b o (Heap.lt_size e) e
  rw [hu] at hn
  exact call_len_set ho hex hd hf (by rw [hn] <;> omega) ⟨.int (unlike ns : Nat), H1, I2.tok _, ⟨_, by rw [hn]⟩, q1⟩
end
end LF

set_option maxRecDepth 100000
set_option maxHeartbeats 4000000
/-! Steps of a reading: each says what is asked next. -/
namespace LF
open PySem PySem.Spec PyProof.Rows L2
section
variable {K : PySem.W.Frag} {σ : L2.St} {H : Hp} {Q : VK} {QT : Bool → Hp → Prop} {QA : List V → Hp → Prop} {D : Ends} {t u : TS} {ta tb te tv td ty tx : TE} {c ct cu : TT} {i : Nat} {v x y : V} {r : R2} {f m : Str} {p dx C : Addr} {fs : List (Str × V)} {tr : TA} {sp : Sp} {dvs vs : List V} {E : XK}
theorem S_seq (h : t { D with nx := u D } σ H) : tSeq t u D σ H := h
theorem S_asg (h : te σ H fun x H1 => D.nx (σ.set i (some x)) H1) : tAsg te (gName i) D σ H := h
theorem S_drop (h : te σ H fun _ H1 => D.nx σ H1) : tDrop te D σ H := h
theorem S_ret (h : te σ H D.rt) : tRet te D σ H := h
theorem S_if (h : c σ H fun b H1 => if b = true then t D σ H1 else u D σ H1) : tIfS c t u D σ H := h
theorem S_next (h : D.nx σ H) : tNext D σ H := h
def RSet (K : PySem.W.Frag) (f : Str) (y x : V) (H2 : Hp) (k : Hp → Prop) : Prop := ∃ a C dx fs, x = .ref a ∧ H2 a = some (.ins C dx fs) ∧ Cls K C ∧ NoAttr K C f ∧ fs.length < 1000 ∧ k (upd H2 a (.ins C dx (putF f y fs)))
theorem S_fld (h : tv σ H fun y H1 => ta σ H1 fun x H2 => RSet K f y x H2 fun H3 => D.nx σ H3) : sFld K ta tv f D σ H := h
theorem R_set {k : Hp → Prop} (h1 : H p = some (.ins C dx fs)) (h2 : Cls K C) (h3 : NoAttr K C f) (h4 : fs.length < 1000) {gs : List (Str × V)} (h5 : putF f y fs = gs) (h : k (upd H p (.ins C dx gs))) : RSet K f y (.ref p) H k :=
  ⟨p, C, dx, fs, rfl, h1, h2, h3, h4, by rw [h5]; exact h⟩
def RDPut (y v x : V) (H3 : Hp) (k : Hp → Prop) : Prop := ∃ a H4, x = .ref a ∧ DPut H3 a y v H4 ∧ k H4
theorem S_dput (h : tv σ H fun v H1 => td σ H1 fun x H2 => ty σ H2 fun y H3 => RDPut y v x H3 fun H4 => D.nx σ H4) : sDPut td ty tv D σ H := h
theorem R_dput {k : Hp → Prop} {kvs : List (Key × V)} {n : Int} (h1 : H p = some (.dK kvs)) (h2 : kvs.length < sizeLine) (h : k (upd H p (.dK (putK kvs (.inl n) v)))) : RDPut (.int n) v (.ref p) H k := ⟨p, _, rfl, DPut.k (k := .inl n) h1 h2, h⟩
theorem E_var (e : σ[i]? = some (some v)) (h : Q v H) : tVar i σ H Q := ⟨v, e, h⟩
theorem E_c (h : Q v H) : tC v σ H Q := h
theorem E_op (h : ta σ H fun x H1 => tb σ H1 fun y H2 => r x y H2 Q) : tOp r ta tb σ H Q := h
theorem E_un {r : V → Hp → VK → Prop} (h : ta σ H fun x H1 => r x H1 Q) : tUn r ta σ H Q := h
def RTst (x : V) (H : Hp) (QT : Bool → Hp → Prop) : Prop := ∃ k, x = .bl k ∧ QT k H
theorem E_test (h : te σ H fun x H' => RTst x H' QT) : tTest te σ H QT := h
theorem E_tB (h : te σ H fun x H' => RTst x H' QT) : tB te σ H QT := h
theorem R_tst {b : Bool} (h : QT b H) : RTst (.bl b) H QT := ⟨b, rfl, h⟩
theorem E_and (h : ct σ H fun c H1 => if c = true then cu σ H1 QT else QT false H1) : tAnd ct cu σ H QT := h
theorem E_or (h : ct σ H fun c H1 => if c = true then QT true H1 else cu σ H1 QT) : tOr ct cu σ H QT := h
theorem E_not (h : ct σ H fun c H1 => QT (!c) H1) : tNot ct σ H QT := h
def RBl (x : V) (k : Bool → Prop) : Prop := ∃ c, x = .bl c ∧ k c
theorem R_bl {k : Bool → Prop} {b : Bool} (h : k b) : RBl (.bl b) k := ⟨b, rfl, h⟩
theorem E_andV (h : ta σ H fun x H1 => RBl x fun c => if c = true then tb σ H1 Q else Q (.bl false) H1) : tAndV ta tb σ H Q := h
theorem E_orV (h : ta σ H fun x H1 => RBl x fun c => if c = true then Q (.bl true) H1 else tb σ H1 Q) : tOrV ta tb σ H Q := h
theorem E_notV (h : ta σ H fun x H1 => RBl x fun c => Q (.bl (!c)) H1) : tNotV ta σ H Q := h
theorem E_ifx (h : c σ H fun c H1 => if c = true then ta σ H1 Q else tb σ H1 Q) : tIf c ta tb σ H Q := h
def RFld (K : PySem.W.Frag) (f : Str) (x : V) (H1 : Hp) (Q : VK) : Prop := ∃ a C dx fs v, x = .ref a ∧ H1 a = some (.ins C dx fs) ∧ Cls K C ∧ NoAttr K C f ∧ fs.lookup f = some v ∧ Q v H1
theorem E_fld (h : ta σ H fun x H1 => RFld K f x H1 Q) : tFld K ta f σ H Q := h
theorem R_fld (h1 : H p = some (.ins C dx fs)) (h2 : Cls K C) (h3 : NoAttr K C f) (h4 : fs.lookup f = some v) (h : Q v H) : RFld K f (.ref p) H Q := ⟨p, C, dx, fs, v, rfl, h1, h2, h3, h4, h⟩
theorem E_call (h : tr σ H fun vs H1 => sp (vs ++ dvs) H1 Q E) : tCall sp dvs E tr σ H Q := h
theorem E_nil (h : QA [] H) : tNil σ H QA := h
theorem E_cons (h : ta σ H fun x H1 => tr σ H1 fun xs H2 => QA (x :: xs) H2) : tCons ta tr σ H QA := h
def RMeth (C : Addr) (m : Str) (x : V) (H1 : Hp) (k : Prop) : Prop := ∃ a dx fs, x = .ref a ∧ H1 a = some (.ins C dx fs) ∧ fs.lookup m = none ∧ k
theorem E_meth (h : ta σ H fun x H1 => RMeth C m x H1 (tr σ H1 fun vs H2 => sp (x :: (vs ++ dvs)) H2 Q E)) : tMeth C m sp dvs E ta tr σ H Q := h
theorem R_meth {k : Prop} (h1 : H p = some (.ins C dx fs)) (h2 : fs.lookup m = none) (h : k) : RMeth C m (.ref p) H k := ⟨p, dx, fs, rfl, h1, h2, h⟩
theorem E_make (h : tr σ H fun vs H1 => ∀ x dx, H1 x = none → H1 dx = none → dx ≠ x → sp (.ref x :: (vs ++ dvs)) (upd (upd H1 dx (.own x)) x (.ins C dx [])) (fun v H2 => v = .non ∧ Q (.ref x) H2) E) : tMake C sp dvs E tr σ H Q := h
theorem E_cb {r : List V → Hp → VK → Prop} (h : tr σ H fun vs H1 => r vs H1 Q) : tCB r tr σ H Q := h
theorem E_tup (h : tr σ H fun xs H1 => xs.length ≤ sizeLine ∧ ∀ p, H1 p = none → Q (.ref p) (upd H1 p (.tup xs))) : tTup tr σ H Q := h
theorem E_lst (h : tr σ H fun xs H1 => xs.length ≤ sizeLine ∧ ∀ p, H1 p = none → Q (.ref p) (upd H1 p (.lst xs))) : tLst tr σ H Q := h
theorem R_I0 {g : Int → Int → V} {a b : Int} (h : Q (g a b) H) : rI0 g (.int a) (.int b) H Q := ⟨a, b, rfl, rfl, h⟩
theorem R_I {P : Int → Int → Prop} {g : Int → Int → V} {a b : Int} (h0 : P a b) (h : Q (g a b) H) : rI P g (.int a) (.int b) H Q := ⟨a, b, rfl, rfl, h0, h⟩
theorem R_U {g : Int → V} {a : Int} (h : Q (g a) H) : rU g (.int a) H Q := ⟨a, rfl, h⟩
theorem R_eq (h0 : scal x y = true) (h : Q (.bl (decide (x = y))) H) : rEq x y H Q := ⟨h0, h⟩
theorem R_ne (h0 : scal x y = true) (h : Q (.bl (!decide (x = y))) H) : rNe x y H Q := ⟨h0, h⟩
def RTy (K : PySem.W.Frag) (T : String) (x : V) (H1 : Hp) (k : Prop) : Prop := tyV K T x H1 ∧ k
theorem R_tyL {k : Prop} {xs : List V} (h1 : SqL K H p xs) (h : k) : RTy K "list" (.ref p) H k := ⟨.inl ⟨rfl, xs, h1⟩, h⟩
theorem E_bm {T : String} {r : V → List V → Hp → VK → Prop} (h : te σ H fun x H1 => RTy K T x H1 (tr σ H1 fun xs H2 => r x xs H2 Q)) : tBM K T r te tr σ H Q := h
theorem E_bm0 {T : String} {r : V → List V → Hp → VK → Prop} (h : te σ H fun x H1 => RTy K T x H1 (r x [] H1 Q)) : tBM0 K T r te σ H Q := h
theorem R_app {xs : List V} (h1 : H p = some (.lst xs)) (h2 : xs.length < sizeLine) (h : Q .non (upd H p (.lst (xs ++ [y])))) : rAppend (.ref p) [y] H Q := ⟨p, xs, y, rfl, rfl, h1, h2, h⟩
theorem R_ixL {xs : List V} {z : Int} (h1 : SqL K H p xs) (h2 : atI xs z = some v) (h : Q v H) : rIxL K (.ref p) (.int z) H Q := ⟨p, xs, z, v, rfl, rfl, h1, h2, h⟩
theorem R_ixT {xs : List V} {z : Int} (h1 : SqT K H p xs) (h2 : atI xs z = some v) (h : Q v H) : rIxT K (.ref p) (.int z) H Q := ⟨p, xs, z, v, rfl, rfl, h1, h2, h⟩
def rLenQ (K : PySem.W.Frag) : List V → Hp → VK → Prop := fun xs H Q => ∃ p ys, xs = [.ref p] ∧ (SqL K H p ys ∨ SqT K H p ys) ∧ Q (.int ys.length) H
theorem call_lenQ {X : Cx} : CallR X (.builtin "len") (rLenQ X.K) := call_len_seq
theorem R_lenL {xs : List V} (h1 : SqL K H p xs) (h : Q (.int xs.length) H) : rLenQ K [.ref p] H Q := ⟨p, xs, rfl, .inl h1, h⟩
theorem R_lenT {xs : List V} (h1 : SqT K H p xs) (h : Q (.int xs.length) H) : rLenQ K [.ref p] H Q := ⟨p, xs, rfl, .inr h1, h⟩
def rListQ (K : PySem.W.Frag) : List V → Hp → VK → Prop := fun xs H Q => ∃ p ys, xs = [.ref p] ∧ (SqL K H p ys ∨ SqT K H p ys) ∧ ∀ l, H l = none → Q (.ref l) (upd H l (.lst ys))
theorem call_listQ {X : Cx} : CallR X (.type "list") (rListQ X.K) := call_list_of
theorem R_listL {xs : List V} (h1 : SqL K H p xs) (h : ∀ l, H l = none → Q (.ref l) (upd H l (.lst xs))) : rListQ K [.ref p] H Q := ⟨p, xs, rfl, .inl h1, h⟩
def RTru (K : PySem.W.Frag) (x : V) (H : Hp) (QT : Bool → Hp → Prop) : Prop := ∃ k, TruV K x H k ∧ QT k H
def tTruQ (K : PySem.W.Frag) (ta : TE) : TT := fun σ H Q => ta σ H fun x H' => RTru K x H' Q
theorem pt_truQ {X : Cx} {a : Expr} (ha : PE X a ta) (he : ∀ whole, isTrue a X.env whole = (do let v ← whole; standAt a.pos; holding [v] (truthy v))) : PT X a (tTruQ X.K ta) := pt_truth ha he
theorem E_tru (h : ta σ H fun x H' => RTru K x H' QT) : tTruQ K ta σ H QT := h
theorem R_truL {xs : List V} (h1 : SqL K H p xs) (h : QT (!xs.isEmpty) H) : RTru K (.ref p) H QT := ⟨_, .inl ⟨xs, h1, rfl⟩, h⟩
theorem R_max2 {a b : Int} (h : Q (.int (if b > a then b else a)) H) : (fun xs H Q => ∃ i j, xs = [V.int i, V.int j] ∧ Q (.int (if j > i then j else i)) H : List V → Hp → VK → Prop) [.int a, .int b] H Q := ⟨a, b, rfl, h⟩
def rMax2Q : List V → Hp → VK → Prop := fun xs H Q => ∃ i j, xs = [V.int i, V.int j] ∧ Q (.int (if j > i then j else i)) H
theorem call_max2Q {X : Cx} (hc : X.calm = true) : CallR X (.builtin "max") rMax2Q := call_max2 hc
theorem R_max2Q {a b : Int} (h : Q (.int (if b > a then b else a)) H) : rMax2Q [.int a, .int b] H Q := ⟨a, b, rfl, h⟩
def RPart (x : V) (k : Int → Prop) : Prop := ∃ i, x = .int i ∧ k i
theorem R_part {a : Int} {k : Int → Prop} (h : k a) : RPart (.int a) k := ⟨a, rfl, h⟩
theorem E_sl {r : V → Option Int → Option Int → Hp → VK → Prop} {tl th : TO} (h : te σ H fun x H1 => tl σ H1 fun l H2 => th σ H2 fun u H3 => r x l u H3 Q) : tSl r te tl th σ H Q := h
theorem E_part {QO : Option Int → Hp → Prop} (h : te σ H fun x H1 => RPart x fun i => QO (some i) H1) : tPart te σ H QO := h
theorem E_noPart {QO : Option Int → Hp → Prop} (h : QO none H) : tNoPart σ H QO := h
theorem R_slL {xs : List V} {lo hi : Option Int} (h1 : SqL K H p xs) (h : ∀ q, H q = none → Q (.ref q) (upd H q (.lst (cutV xs lo hi)))) : rSlL K (.ref p) lo hi H Q := ⟨p, xs, rfl, h1, h⟩
theorem R_cat {a b : Addr} {xs zs : List V} (h1 : H a = some (.lst xs)) (h2 : H b = some (.lst zs)) (h3 : xs.length + zs.length ≤ sizeLine) (h : ∀ q, H q = none → Q (.ref q) (upd H q (.lst (xs ++ zs)))) : rCat (.ref a) (.ref b) H Q := ⟨a, b, xs, zs, rfl, rfl, h1, h2, h3, h⟩
def RIsD (x : V) (H : Hp) (k : Addr → Prop) : Prop := ∃ a, x = .ref a ∧ IsD H a ∧ k a
theorem R_isD {kvs : List (Key × V)} {k : Addr → Prop} (h1 : H p = some (.dK kvs)) (h : k p) : RIsD (.ref p) H k := ⟨p, rfl, .inl ⟨kvs, .inl h1⟩, h⟩
def RGetD (a : Addr) (y z : V) (H : Hp) (Q : VK) : Prop := ∃ o, DGet H a y o ∧ Q (o.getD z) H
theorem E_dget2 (h : td σ H fun x H1 => RIsD x H1 fun a => ty σ H1 fun y H2 => tx σ H2 fun z H3 => RGetD a y z H3 Q) : tDGet2 td ty tx σ H Q := h
theorem R_getD {kvs : List (Key × V)} {n : Int} {z : V} (h1 : H p = some (.dK kvs)) (h : Q ((valV kvs (.inl n)).getD z) H) : RGetD p (.int n) z H Q := ⟨_, DGet.k (k := .inl n) h1, h⟩
def RGet (y x : V) (H : Hp) (Q : VK) : Prop := ∃ a v, x = .ref a ∧ DGet H a y (some v) ∧ Q v H
theorem E_dget (h : td σ H fun x H1 => ty σ H1 fun y H2 => RGet y x H2 Q) : tDGet td ty σ H Q := h
theorem R_get {kvs : List (Key × V)} {n : Int} (h1 : H p = some (.dK kvs)) (h2 : valV kvs (.inl n) = some v) (h : Q v H) : RGet (.int n) (.ref p) H Q := ⟨p, v, rfl, by rw [← h2]; exact DGet.k (k := .inl n) h1, h⟩
def RPop1 (a : Addr) (y : V) (H : Hp) (Q : VK) : Prop := ∃ kvs k v, H a = some (.dK kvs) ∧ y = kV k ∧ valV kvs k = some v ∧ Q v (upd H a (.dK (dropK kvs k)))
theorem E_dpop1 (h : td σ H fun x H1 => RIsD x H1 fun a => ty σ H1 fun y H2 => RPop1 a y H2 Q) : tDPop1 td ty σ H Q := h
theorem R_pop1 {kvs : List (Key × V)} {n : Int} (h1 : H p = some (.dK kvs)) (h2 : valV kvs (.inl n) = some v) (h : Q v (upd H p (.dK (dropK kvs (.inl n))))) : RPop1 p (.int n) H Q := ⟨kvs, .inl n, v, h1, rfl, h2, h⟩
def RIn (y x : V) (H : Hp) (neg : Bool) (Q : VK) : Prop := ∃ a o, x = .ref a ∧ DGet H a y o ∧ Q (.bl (if neg then !o.isSome else o.isSome)) H
theorem E_din (h : ty σ H fun y H1 => td σ H1 fun x H2 => RIn y x H2 false Q) : tDIn ty td σ H Q := h
theorem E_dnin (h : ty σ H fun y H1 => td σ H1 fun x H2 => RIn y x H2 true Q) : tDNotIn ty td σ H Q := h
theorem R_in {kvs : List (Key × V)} {n : Int} {neg : Bool} (h1 : H p = some (.dK kvs)) (h : Q (.bl (if neg then !(valV kvs (.inl n)).isSome else (valV kvs (.inl n)).isSome)) H) : RIn (.int n) (.ref p) H neg Q := ⟨p, _, rfl, DGet.k (k := .inl n) h1, h⟩
theorem E_dnew (h : ∀ p, H p = none → Q (.ref p) (upd H p (.dK []))) : tDNewK σ H Q := h
end


section
variable {H : Hp} {Q : VK} {p : Addr} {y : V} {xs : List V}
def rInsQ : V → List V → Hp → VK → Prop := fun x vs H Q => ∃ (l : Addr) (xs : List V) (i : Int) (y : V), x = .ref l ∧ vs = [.int i, y] ∧ H l = some (.lst xs) ∧ xs.length < sizeLine ∧ 0 ≤ i ∧ i < 2 ^ 63 ∧ Q .non (upd H l (.lst (xs.take i.toNat ++ [y] ++ xs.drop i.toNat)))
theorem mt_insQ {X : Cx} : MtR X "list.insert" rInsQ := mt_insert
theorem R_ins {i : Nat} (h1 : H p = some (.lst xs)) (h2 : xs.length < sizeLine) (h3 : i ≤ 100000) (h : Q .non (upd H p (.lst (xs.take i ++ [y] ++ xs.drop i)))) : rInsQ (.ref p) [.int (i : Int), y] H Q :=
  ⟨p, xs, i, y, rfl, rfl, h1, h2, by omega, by omega, by rw [Int.toNat_natCast]; exact h⟩
theorem R_popAt {i : Nat} (h1 : H p = some (.lst xs)) (h2 : xs[i]? = some y) (h3 : i ≤ 100000) (h : Q y (upd H p (.lst (xs.eraseIdx i)))) : rPopAt (.ref p) [.int (i : Int)] H Q := by
  have hi : i < xs.length := (List.getElem?_eq_some_iff.mp h2).1
  refine ⟨p, xs, i, i, y, rfl, rfl, h1, by omega, by omega, ?_, h2, h⟩
  rw [seqIndex_of (by omega) (by omega), Int.toNat_natCast]
theorem R_pop0 {r : List V} (h1 : H p = some (.lst (y :: r))) (h : Q y (upd H p (.lst r))) : rPopAt (.ref p) [.int 0] H Q :=
  R_popAt (i := 0) h1 rfl (by omega) h
end
section
variable {K : PySem.W.Frag} {H H' : Hp} {Q : VK} {p q : Addr} {x y : V} {xs : List V} {o : HO}
theorem ne_nn (h' : H q = none) (h : H p = some o) : p ≠ q := ne_of_none h h'
theorem ne_nn2 (h' : H q = none) (h : H p = some o) : q ≠ p := (ne_of_none h h').symm
theorem same_upd (hn : H' p = none) (e : Same H H') : Same H (upd H' p o) := fun b u h => by
  rw [upd_ne (ne_of_none (e b u h) hn)]
  exact e b u h
def RTupA (xs : List V) (H1 : Hp) (Q : VK) : Prop := xs.length ≤ sizeLine ∧ ∀ p, H1 p = none → Q (.ref p) (L2.upd H1 p (.tup xs))
theorem E_tupA {σ : L2.St} {tr : TA} (h : tr σ H fun xs H1 => RTupA xs H1 Q) : tTup tr σ H Q := h
theorem R_tupA (h1 : xs.length ≤ 1000) (h : ∀ p, H p = none → Q (.ref p) (L2.upd H p (.tup xs))) : RTupA xs H Q := ⟨Nat.le_trans h1 (by decide), h⟩
theorem R_inT {neg : Bool} (h1 : SqT K H p xs) (h2 : flatV x = true) (h3 : xs.all flatV = true) (h : Q (.bl (if neg then !inV x xs else inV x xs)) H) : rIn K neg x (.ref p) H Q := ⟨p, xs, rfl, .inr h1, h2, h3, h⟩
theorem R_inL {neg : Bool} (h1 : SqL K H p xs) (h2 : flatV x = true) (h3 : xs.all flatV = true) (h : Q (.bl (if neg then !inV x xs else inV x xs)) H) : rIn K neg x (.ref p) H Q := ⟨p, xs, rfl, .inl h1, h2, h3, h⟩
theorem iteBT {b : Bool} {A B : Prop} (h : b = true) (k : A) : if b = true then A else B := by rw [if_pos h]; exact k
theorem iteBF {b : Bool} {A B : Prop} (h : b = false) (k : B) : if b = true then A else B := by rw [if_neg (by rw [h]; exact Bool.false_ne_true)]; exact k
theorem iteD {p : Prop} [Decidable p] {A B : Prop} (h1 : p → A) (h2 : ¬ p → B) : if decide p = true then A else B := by
  by_cases h : p
  · rw [decide_eq_true h]; exact h1 h
  · rw [decide_eq_false h]; exact h2 h
end
section
variable {σ : L2.St} {H : Hp} {Q : VK} {ta tb tc : TE} {r r' : R2}
theorem E_chain (h : ta σ H fun x H1 => tb σ H1 fun y H2 => r x y H2 fun z H3 => RBl z fun k => if k = true then tc σ H3 fun w' H4 => r' y w' H4 Q else Q (.bl false) H3) : tChain r r' ta tb tc σ H Q := h
end
/-! ### a statement, a word of one's own, the rest -/
def tCutQ (t u : TS) : TS := fun D σ H => ∃ M : L2.St → Hp → Prop, t { D with nx := M } σ H ∧ ∀ σ' H', M σ' H' → u D σ' H'
theorem pss_cutQ {X : Cx} {st : Stmt} {more : List Stmt} {t u : TS} (h1 : PS X st t) (h2 : PSs X more u) : PSs X (st :: more) (tCutQ t u) := by
  refine ⟨fun pins s σ H D I h => ?_⟩
  obtain ⟨M, hm, hu⟩ := h
  refine wpAny_execs_cons (thn (h1.run pins s σ H { D with nx := M } I hm) fun fl s1 q => ?_)
  cases fl with
  | next =>
    obtain ⟨σ', H', I', q⟩ := q
    exact h2.run pins s1 σ' H' D I' (hu σ' H' q)
  | ret v => exact q
  | brk => exact q
  | cont => exact q
theorem S_cut {t u : TS} {D : Ends} {σ : L2.St} {H : Hp} (M : L2.St → Hp → Prop) (h1 : t { D with nx := M } σ H) (h2 : ∀ σ' H', M σ' H' → u D σ' H') : tCutQ t u D σ H := ⟨M, h1, h2⟩
/-! ### the rules, their written part told -/
section
variable {X : Cx} {K : PySem.W.Frag} {e o : Expr} {es : List Expr} {f : Str} {pos pos' apos cpos : Pos} {value : Expr} {ta tv to : TE} {t : TA} {T : String} {name : Str} {id : String} {r : V → List V → Hp → VK → Prop} {tg : Expr}
theorem pe_fldK (hK : X.K = K) (he : PE X e ta) (hb : attributeBase e f X.env (eval e X.env) = eval e X.env) : PE X (.Attribute e f pos) (tFld K ta f) := by subst hK; exact pe_fld he hb
theorem ps_fldK (hK : X.K = K) (ha : PE X o ta) (hv : PE X value tv) (hs : swapsWith value (some (.Attribute o f pos')) pos.line X.env = pure false) : PS X (.Assign [.Attribute o f pos'] value pos) (sFld K ta tv f) := by subst hK; exact ps_fld ha hv hs
theorem pe_bm0K (hK : X.K = K) (pa : PlainAttrs T) (slot : Slot T name id) (hty : typeOf (.builtin id) = pure (.type "method_descriptor")) (hm : MtR X id r) (ho : PE X o to)
    (hbase : attributeBase o name X.env (eval o X.env) = eval o X.env := by rfl) (hline : (apos.endLine == cpos.line) = true := by rfl) : PE X (.Call (.Attribute o name apos) [] [] cpos) (tBM0 K T r to) := by subst hK; exact pe_bm0 pa slot hty hm ho hbase hline
theorem pe_bmK (hK : X.K = K) (pa : PlainAttrs T) (slot : Slot T name id) (hty : typeOf (.builtin id) = pure (.type "method_descriptor")) (hm : MtR X id r) (ho : PE X o to) (ha : PA X (e :: es) t)
    (hbase : attributeBase o name X.env (eval o X.env) = eval o X.env := by rfl)
    (hfew : ((backTo cpos (starEach (e :: es) X.env)).all (fun x => !x.1) && (backToKw cpos (keywordEach [] X.env)).all (fun x => x.1.isSome)
      && decide ((e :: es).length + ([] : List Keyword).length + (if ([] : List Keyword).isEmpty then 0 else 1) < 30)) = true := by rfl)
    (hline : (apos.endLine == cpos.line) = true := by rfl) (hs : starEach (e :: es) X.env = (false, eval e X.env) :: starEach es X.env := by rfl) (hplain : (backTo cpos (starEach es X.env)).any (·.1) = false := by rfl) :
    PE X (.Call (.Attribute o name apos) (e :: es) [] cpos) (tBM K T r to t) := by subst hK; exact pe_bm pa slot hty hm ho ha hbase hfew hline hs hplain
theorem ix_listK (hK : X.K = K) : IxR X (rIxL K) := by subst hK; exact ix_list
theorem ix_tupK (hK : X.K = K) : IxR X (rIxT K) := by subst hK; exact ix_tup
theorem sl_listK (hK : X.K = K) : SlR X (rSlL K) := by subst hK; exact sl_list
theorem pi_listK (hK : X.K = K) (hl : PE X e ta) : PI X tg e (iList K ta) := by subst hK; exact pi_list hl
theorem call_lenK (hK : X.K = K) : CallR X (.builtin "len") (rLenQ K) := by subst hK; exact call_lenQ
theorem call_listK (hK : X.K = K) : CallR X (.type "list") (rListQ K) := by subst hK; exact call_listQ
theorem cr_sumK (hK : X.K = K) (hc : X.calm = true) : CallR X (.builtin "sum") (rSum K) := by subst hK; exact cr_sum hc
theorem cr_minK (hK : X.K = K) (hc : X.calm = true) : CallR X (.builtin "min") (rMin K) := by subst hK; exact cr_min hc
theorem cr_maxK (hK : X.K = K) (hc : X.calm = true) : CallR X (.builtin "max") (rMax K) := by subst hK; exact cr_max hc
theorem cr_allK (hK : X.K = K) (hc : X.calm = true) : CallR X (.builtin "all") (rAll K) := by subst hK; exact cr_all hc
theorem cr_sortedK (hK : X.K = K) : CallR X (.builtin "sorted") (rSorted K) := by subst hK; exact cr_sorted
theorem cr_minPK (hK : X.K = K) (hc : X.calm = true) (hu : X.A.units + 64 < cLine) : CallR X (.builtin "min") (rMinP K) := by subst hK; exact cr_minP hc hu
theorem op_in_seqK (hK : X.K = K) : OpR X (compareOp .In) (rIn K false) := by subst hK; exact op_in_seq
theorem op_notIn_seqK (hK : X.K = K) : OpR X (compareOp .NotIn) (rIn K true) := by subst hK; exact op_notIn_seq
theorem op_eqDK (hK : X.K = K) (hu : X.A.units + 64 < cLine) : OpR X (compareOp .Eq) (rEqD K) := by subst hK; exact op_eqD hu
theorem op_neDK (hK : X.K = K) (hu : X.A.units + 64 < cLine) : OpR X (compareOp .NotEq) (rNeD K) := by subst hK; exact op_neD hu
theorem mt_lcountK (hK : X.K = K) : MtR X "list.count" (rCntI K) := by subst hK; exact mt_lcount
theorem pt_truK (hK : X.K = K) (ha : PE X e ta) (he : ∀ whole, isTrue e X.env whole = (do let v ← whole; standAt e.pos; holding [v] (truthy v))) : PT X e (tTruQ K ta) := by subst hK; exact pt_truQ ha he
theorem call_isiK (hK : X.K = K) : CallR X (.builtin "isinstance") (rIsi K) := by subst hK; exact call_isi
theorem pe_lenSetK (hK : X.K = K) {a : Expr} {p p2 q : Pos} (hg : Gl X "len") (hm : X.mg "len" = none) (hg2 : Gl X "set") (hm2 : X.mg "set" = none) (ha : PE X a ta) (hc : X.calm = true := by rfl)
    (na : starEach [a] X.env = (false, eval a X.env) :: starEach [] X.env := by rfl) : PE X (.Call (.Name "len" p) [.Call (.Name "set" p2) [a] [] q] [] pos) (tLenSetD K ta) := by subst hK; exact pe_lenSetD hg hm hg2 hm2 ha hc na
end
/-! ### loops -/
section
variable {K : PySem.W.Frag} {σ : L2.St} {H : Hp} {D : Ends} {t u tb : TS} {c : TT} {te tl : TE} {ta : TA} {wi : TI} {g : TG} {j : Nat} {a : Addr} {R : It → Hp → Prop} {Q : VK}
def tWhileQ (c : TT) (tb : TS) : TS := fun D σ H => ∃ W : Nat → L2.St → Hp → Prop, (∃ m, W m σ H) ∧ ∀ m σ H, W m σ H →
  c σ H fun b H1 => if b = true then tb { D with nx := fun σ' H' => ∃ m', m' < m ∧ W m' σ' H', ct := fun σ' H' => ∃ m', m' < m ∧ W m' σ' H', bk := D.nx } σ H1 else D.nx σ H1
theorem ps_whileQ {X : Cx} {pos : Pos} {c : Expr} {body : List Stmt} {tc : TT} {tb : TS} (hp : PassesOwn (model X.prog X.w) X.A X.env X.xe) (hc : PT X c tc) (hb : PSs X body tb) : PS X (.While c body [] pos) (tWhileQ tc tb) := by
  refine ⟨fun pins s σ H D I h => ?_⟩
  obtain ⟨W, ⟨m0, w0⟩, turn⟩ := h
  refine wpAny_While (codeAny_whileLoop (fun n s' => ∃ σ' H', Inv X pins σ' H' s' ∧ W n σ' H') ?_ m0 ⟨σ, H, I, w0⟩)
  rintro n s1 ⟨σ1, H1, I1, w1⟩
  refine wpAny_passesOwn hp (thn (hc.run pins s1 σ1 H1 _ I1 (turn n σ1 H1 w1)) fun b s2 ⟨H2, I2, q2⟩ => ?_)
  cases b with
  | true =>
    rw [if_pos rfl]
    refine wpAny_passesOwn hp (thn (hb.run pins s2 σ1 H2 _ I2 q2) fun f s3 q3 => ?_)
    cases f with
    | next =>
      obtain ⟨σ3, H3, I3, m', hm, w3⟩ := q3
      exact ⟨m', hm, σ3, H3, I3, w3⟩
    | cont =>
      obtain ⟨σ3, H3, I3, m', hm, w3⟩ := q3
      exact ⟨m', hm, σ3, H3, I3, w3⟩
    | brk => exact q3
    | ret v => exact q3
  | false =>
    rw [if_neg Bool.false_ne_true]
    exact wpAny_execs_nil ⟨σ1, H2, I2, q2⟩
theorem S_while (W : Nat → L2.St → Hp → Prop) (m0 : Nat) (h0 : W m0 σ H)
    (hs : ∀ m σ H, W m σ H → c σ H fun b H1 => if b = true then tb { D with nx := fun σ' H' => ∃ m', m' < m ∧ W m' σ' H', ct := fun σ' H' => ∃ m', m' < m ∧ W m' σ' H', bk := D.nx } σ H1 else D.nx σ H1) : tWhileQ c tb D σ H := ⟨W, ⟨m0, h0⟩, hs⟩
def RFor (J : It) (g : TG) (tb : TS) (D : Ends) (σ : L2.St) (H1 : Hp) : Prop := ∃ W : Nat → Nat → L2.St → Hp → Prop, (∃ m, W 0 m σ H1) ∧ ∀ i m σ H, W i m σ H →
  (J.stop i H ∧ D.nx σ H) ∨ (J.go i H ∧ ∃ N : L2.St → Hp → Prop, (∀ σ' H', N σ' H' → ∃ m', m' < m ∧ W (i + 1) m' σ' H') ∧ ∀ x H', J.yld i H x H' → g x σ H' fun σ2 H2 => tb { D with nx := N, ct := N, bk := D.nx } σ2 H2)
theorem S_for (h : wi σ H fun J H1 => RFor J g tb D σ H1) : tFor wi g tb D σ H := h
theorem R_forL {xs : List V} (Pv : Nat → L2.St → Hp → Prop) (h0 : Pv 0 σ H) (hl : ∀ i σ H, i ≤ xs.length → Pv i σ H → SqL K H a xs)
    (hs : ∀ i x σ H, xs[i]? = some x → Pv i σ H → tb { D with nx := Pv (i + 1), ct := Pv (i + 1), bk := D.nx } (σ.set j (some x)) H) (hd : ∀ σ H, Pv xs.length σ H → D.nx σ H) : RFor (Itl K a) (gName j) tb D σ H :=
  for_list Pv h0 hl hs hd
theorem R_forR {lo : Int} {n : Nat} (Pv : Nat → L2.St → Hp → Prop) (h0 : Pv 0 σ H)
    (hs : ∀ i σ H, i < n → Pv i σ H → tb { D with nx := Pv (i + 1), ct := Pv (i + 1), bk := D.nx } (σ.set j (some (.int (lo + i)))) H) (hd : ∀ σ H, Pv n σ H → D.nx σ H) : RFor (Itr lo n) (gName j) tb D σ H :=
  for_range Pv h0 hs hd
def RIl (K : PySem.W.Frag) (x : V) (H1 : Hp) (R : It → Hp → Prop) : Prop := ∃ a, x = .ref a ∧ (∃ xs, SqL K H1 a xs) ∧ R (Itl K a) H1
theorem E_il (h : tl σ H fun x H1 => RIl K x H1 R) : iList K tl σ H R := h
theorem R_il {xs : List V} (h1 : SqL K H a xs) (h : R (Itl K a) H) : RIl K (.ref a) H R := ⟨a, rfl, ⟨xs, h1⟩, h⟩
def RR1 (vs : List V) (H1 : Hp) (R : It → Hp → Prop) : Prop := ∃ j : Int, vs = [.int j] ∧ -(2 ^ 62) ≤ j ∧ j < 2 ^ 62 ∧ R (Itr 0 j.toNat) H1
theorem E_rng1 (h : ta σ H fun vs H1 => RR1 vs H1 R) : iRng1 ta σ H R := h
theorem R_rng1 {n : Int} (h1 : 0 ≤ n) (h2 : n < 2 ^ 62) (h : R (Itr 0 n.toNat) H) : RR1 [.int n] H R := ⟨n, rfl, by omega, h2, h⟩
/-! ### comprehensions -/
def RLc (J : It) (g : TG) (tt : TT) (te : TE) (vs : List Nat) (σ : L2.St) (H1 : Hp) (Q : VK) : Prop := ∀ D, H1 D = none → ∃ W : Nat → Nat → Hp → Prop, (∃ m, W 0 m (upd H1 D (.lst []))) ∧ ∀ i m H, W i m H →
  (J.stop i H ∧ Q (.ref D) H) ∨ (J.go i H ∧ ∃ Nx : Hp → Prop, (∀ H', Nx H' → ∃ m', m' < m ∧ W (i + 1) m' H') ∧ ∀ x H', J.yld i H x H' → g x (wipe σ vs) H' fun σ2 H2 => wipe σ2 vs = wipe σ vs ∧ tt σ2 H2 fun b H3 =>
    if b = true then te σ2 H3 fun y H4 => ∃ acc, H4 D = some (.lst acc) ∧ acc.length < sizeLine ∧ Nx (upd H4 D (.lst (acc ++ [y]))) else Nx H3)
theorem E_lc {tt : TT} {vs : List Nat} (h : wi σ H fun J H1 => RLc J g tt te vs σ H1 Q) : tLc wi g tt te vs σ H Q := h
theorem E_yes {QT : Bool → Hp → Prop} (h : QT true H) : tYes σ H QT := h
theorem wipe_set {σ : L2.St} {j : Nat} {x : Option V} : wipe (((wipe σ [j])).set j x) [j] = wipe σ [j] := by
  show ((σ.set j none).set j x).set j none = σ.set j none
  rw [List.set_set, List.set_set]
/-- each item made into a value, what stood stays -/
theorem R_lcMap {xs ys : List V} (hq : SqL K H a xs) (hlen : ys.length = xs.length) (hz : xs.length ≤ 100000)
    (hs : ∀ (i : Nat) (x y : V) (H' : Hp), xs[i]? = some x → ys[i]? = some y → Same H H' → ∀ Q' : VK, (∀ H4, Same H' H4 → Q' y H4) → te ((wipe σ [j]).set j (some x)) H' Q')
    (hd : ∀ D H', H D = none → Same H H' → H' D = some (.lst ys) → Q (.ref D) H') : RLc (Itl K a) (gName j) tYes te [j] σ H Q := by
  intro D hD
  refine lc_list (xs := xs) (fun i H' => Same H H' ∧ H' D = some (.lst (ys.take i))) ⟨fun b u e => by rw [upd_ne (ne_of_none e hD)]; exact e, by rw [upd_same, List.take_zero]⟩ (fun i H' _ p => p.1.seq hq) (fun i x H' hx p => ?_) (fun H' p => hd D H' hD p.1 (by rw [p.2, ← hlen, List.take_length]))
  have hi : i < ys.length := by rw [hlen]; exact (List.getElem?_eq_some_iff.mp hx).1
  refine ⟨wipe_set, ?_⟩
  refine E_yes ?_
  refine iteT ?_
  refine hs i x ys[i] H' hx (List.getElem?_eq_getElem hi) p.1 _ (fun H4 q => ?_)
  refine ⟨ys.take i, q _ _ p.2, ?_, ⟨fun b u e => ?_, ?_⟩⟩
  · rw [List.length_take]
    exact Nat.lt_of_le_of_lt (m := 100000) (by omega) (by decide)
  · rw [upd_ne (ne_of_none e hD)]
    exact q b u (p.1 b u e)
  · rw [upd_same, List.take_add_one, List.getElem?_eq_getElem hi]
    rfl
end


/-! ### comprehensions that make pairs of ints -/
section
variable {K : PySem.W.Frag} {σ : L2.St} {H H' H4 : Hp} {te : TE} {j : Nat} {a D q d : Addr} {Q : VK}
def PairInv (H : Hp) (D : Addr) (l : List (Int × Int)) (H' : Hp) : Prop := Same H H' ∧ ∃ ps : List (Addr × Int × Int), H' D = some (.lst (ps.map fun p => V.ref p.1)) ∧ (∀ p ∈ ps, H' p.1 = some (.tup [.int p.2.1, .int p.2.2])) ∧ ps.map (·.2) = l
theorem PairInv.start (hD : H D = none) : PairInv H D [] (upd H D (.lst [])) := ⟨fun b u e => by rw [upd_ne (ne_of_none e hD)]; exact e, [], upd_same, (fun p hp => by cases hp), rfl⟩
theorem PairInv.step {l : List (Int × Int)} {x y : Int} (h : PairInv H D l H') (hD : H D = none) (hq : H' q = none) (e : Same H' H4) (h4 : H4 q = some (.tup [.int x, .int y])) (hz : l.length ≤ 100000) :
    ∃ acc, H4 D = some (.lst acc) ∧ acc.length < sizeLine ∧ PairInv H D (l ++ [(x, y)]) (upd H4 D (.lst (acc ++ [.ref q]))) := by
  obtain ⟨s, ps, h1, h2, h3⟩ := h
  refine ⟨_, e _ _ h1, ?_, fun b u eb => ?_, ps ++ [(q, x, y)], ?_, fun p hp => ?_, ?_⟩
  · rw [List.length_map]
    have : ps.length = l.length := by rw [← h3, List.length_map]
    exact Nat.lt_of_le_of_lt (m := 100000) (by omega) (by decide)
  · rw [upd_ne (ne_of_none eb hD)]
    exact e _ _ (s _ _ eb)
  · rw [upd_same, List.map_append]
    rfl
  · rcases List.mem_append.mp hp with hp | hp
    · have t := e _ _ (h2 p hp)
      rw [upd_ne (ne_of t (e _ _ h1) (by intro z; cases z))]
      exact t
    · rw [List.mem_singleton.mp hp]
      show upd H4 D _ q = _
      rw [upd_ne (ne_of h4 (e _ _ h1) (by intro z; cases z))]
      exact h4
  · rw [List.map_append, h3]
    rfl
theorem R_lcPairL {ns : List Int} (f : Int → Int × Int) (hq : SqL K H a (ns.map V.int)) (hz : ns.length ≤ 100000)
    (hs : ∀ (x : Int) (H' : Hp), x ∈ ns → Same H H' → ∀ Q' : VK, (∀ q H4, H' q = none → Same H' H4 → H4 q = some (.tup [.int (f x).1, .int (f x).2]) → Q' (.ref q) H4) → te ((wipe σ [j]).set j (some (.int x))) H' Q')
    (hd : ∀ D H', H D = none → PairInv H D (ns.map f) H' → Q (.ref D) H') : RLc (Itl K a) (gName j) tYes te [j] σ H Q := by
  intro D hD
  refine lc_list (xs := ns.map V.int) (fun i H' => PairInv H D ((ns.take i).map f) H') (PairInv.start hD) (fun i H' _ p => p.1.seq hq) (fun i x H' hx p => ?_) (fun H' p => hd D H' hD (by rw [List.length_map, List.take_length] at p; exact p))
  obtain ⟨z, hz2, rfl⟩ : ∃ z, ns[i]? = some z ∧ x = V.int z := by
    rw [List.getElem?_map] at hx
    cases e : ns[i]? with
    | none => rw [e] at hx; cases hx
    | some z => rw [e] at hx; exact ⟨z, rfl, (Option.some.inj hx).symm⟩
  refine ⟨wipe_set, ?_⟩
  refine E_yes ?_
  refine iteT ?_
  refine hs z H' (List.mem_of_getElem? hz2) p.1 _ (fun q H4 hq e h4 => ?_)
  obtain ⟨acc, h5, h6, h7⟩ := p.step hD hq e h4 (by rw [List.length_map, List.length_take]; omega)
  refine ⟨acc, h5, h6, ?_⟩
  rw [List.take_add_one, hz2, List.map_append]
  exact h7
theorem R_lcPairK {ns : List Int} {kvs : List (Key × V)} {o : Obj} (f : Int → Int × Int) (hk : kvs.map (·.1) = ns.map Sum.inl) (hq : H d = some (.frz o (.dK kvs))) (hz : ns.length ≤ 100000)
    (hs : ∀ (x : Int) (H' : Hp), x ∈ ns → Same H H' → ∀ Q' : VK, (∀ q H4, H' q = none → Same H' H4 → H4 q = some (.tup [.int (f x).1, .int (f x).2]) → Q' (.ref q) H4) → te ((wipe σ [j]).set j (some (.int x))) H' Q')
    (hd : ∀ D H', H D = none → PairInv H D (ns.map f) H' → Q (.ref D) H') : RLc (Itk d o kvs) (gName j) tYes te [j] σ H Q := by
  intro D hD
  have hl : kvs.length = ns.length := by
    have := congrArg List.length hk
    rw [List.length_map, List.length_map] at this
    exact this
  refine ⟨fun i m H' => m = ns.length - i ∧ i ≤ ns.length ∧ PairInv H D ((ns.take i).map f) H', ⟨ns.length, by simp, Nat.zero_le _, PairInv.start hD⟩, ?_⟩
  rintro i m H' ⟨rfl, hi, p⟩
  have q0 := p.1 _ _ hq
  by_cases hlt : i < ns.length
  · refine .inr ⟨⟨q0, by omega⟩, fun H' => PairInv H D ((ns.take (i + 1)).map f) H', fun H' p' => ⟨ns.length - (i + 1), by omega, rfl, hlt, p'⟩, fun x H2 y => ?_⟩
    obtain ⟨rfl, k, v, hkv, rfl⟩ := y
    have ek : k = Sum.inl ns[i] := by
      have e1 : (kvs.map (·.1))[i]? = some k := by rw [List.getElem?_map, hkv]; rfl
      rw [hk, List.getElem?_map, List.getElem?_eq_getElem hlt] at e1
      exact (Option.some.inj e1).symm
    subst ek
    refine ⟨wipe_set, ?_⟩
    refine E_yes ?_
    refine iteT ?_
    refine hs ns[i] H2 (List.getElem_mem hlt) p.1 _ (fun q H4 hq e h4 => ?_)
    obtain ⟨acc, h5, h6, h7⟩ := p.step hD hq e h4 (by rw [List.length_map, List.length_take]; omega)
    refine ⟨acc, h5, h6, ?_⟩
    show PairInv H D ((ns.take (i + 1)).map f) _
    rw [List.take_add_one, List.getElem?_eq_getElem hlt, Option.toList_some, List.map_append]
    exact h7
  · have e : i = ns.length := by omega
    subst e
    rw [List.take_length] at p
    exact .inl ⟨⟨q0, by omega⟩, hd D H' hD p⟩
def RLock (t : L2.St → Hp → VK → Prop) (σ : L2.St) (H : Hp) (Q : VK) : Prop := tLockE t σ H Q
theorem E_lock {t : TE} {u : HO} (h1 : H d = some u) (h2 : Mut (some u)) (h : ∀ od, t σ (upd H d (.frz od u)) fun v H' => H' d = some (.frz od u) ∧ Q v (upd H' d u)) : tLockE t σ H Q := ⟨d, u, h1, h2, h⟩
theorem same_lock {u : HO} {od : Obj} (h1 : H d = some u) (e : Same (upd H d (.frz od u)) H') : Same H (upd H' d u) := fun b v h => by
  by_cases hb : b = d
  · subst hb
    rw [upd_same, ← h, h1]
  · rw [upd_ne hb]
    exact e b v (by rw [upd_ne hb]; exact h)
def RIk (x : V) (H1 : Hp) (R : It → Hp → Prop) : Prop := ∃ d o, x = .ref d ∧ ((∃ kvs, H1 d = some (.frz o (.dK kvs)) ∧ R (Itk d o kvs) H1) ∨ ∃ kvs, H1 d = some (.frz o (.dT kvs)) ∧ R (Itkt d o kvs) H1)
theorem E_ik {td : TE} {R : It → Hp → Prop} (h : td σ H fun x H1 => RIk x H1 R) : iKeys td σ H R := h
theorem R_ik {R : It → Hp → Prop} {o : Obj} {kvs : List (Key × V)} (h1 : H d = some (.frz o (.dK kvs))) (h : R (Itk d o kvs) H) : RIk (.ref d) H R := ⟨d, o, rfl, .inl ⟨kvs, h1, h⟩⟩
theorem R_getF {v : V} {o : Obj} {kvs : List (Key × V)} {n : Int} (h1 : H d = some (.frz o (.dK kvs))) (h2 : valV kvs (.inl n) = some v) (h : Q v H) : RGet (.int n) (.ref d) H Q := ⟨d, v, rfl, by rw [← h2]; exact .inl ⟨kvs, .inl n, .inr ⟨o, h1⟩, rfl, rfl⟩, h⟩
theorem R_minP {l : List (Int × Int)} (h1 : PairInv H D l H') (hne : l ≠ []) (h : ∀ q x y, H' q = some (.tup [.int x, .int y]) → (x, y) ∈ l → (∀ z ∈ l, ple (x, y) z) → Q (.ref q) H') : rMinP K [.ref D] H' Q := by
  obtain ⟨s, ps, h2, h3, h4⟩ := h1
  refine ⟨D, ps, rfl, SqL.of h2, fun p hp => SqT.of (h3 p hp), fun e => hne (by rw [← h4, e]; rfl), fun p hp hle => h p.1 p.2.1 p.2.2 (h3 p hp) (by rw [← h4]; exact List.mem_map.mpr ⟨p, hp, rfl⟩) fun z hz => ?_⟩
  rw [← h4] at hz
  obtain ⟨p2, hp2, rfl⟩ := List.mem_map.mp hz
  exact hle p2 hp2
theorem PairInv.same {l : List (Int × Int)} (h : PairInv H D l H') (e : ∀ b u, H' b = some u → (b = D ∨ ∃ x y, u = .tup [.int x, .int y]) → H4 b = some u) {H0 : Hp} (e0 : Same H0 H4) : PairInv H0 D l H4 := by
  obtain ⟨s, ps, h2, h3, h4⟩ := h
  exact ⟨e0, ps, e _ _ h2 (.inl rfl), fun p hp => e _ _ (h3 p hp) (.inr ⟨_, _, rfl⟩), h4⟩
end

/-! ### slices, sums, more comprehensions -/
theorem cut_from (xs : List V) (k : Nat) : cutV xs (some (k : Int)) none = xs.drop k := by
  unfold cutV
  rw [HT.sIx_none, HT.sIx_nat]
  by_cases h : k ≤ xs.length
  · rw [Nat.min_eq_left h, List.take_of_length_le (by rw [List.length_drop]; omega)]
  · rw [Nat.min_eq_right (by omega), List.drop_length, List.drop_eq_nil_of_le (by omega)]
    simp
theorem cut_last (xs : List V) (n : Nat) (hn : 1 ≤ n) : cutV xs (some (-(n : Int))) none = xs.drop (xs.length - n) := by
  unfold cutV
  have e : HT.sIx xs.length 0 (some (-(n : Int))) = xs.length - n := by
    show (if -(n : Int) < 0 then (-(n : Int) + (xs.length : Int)).toNat else min (-(n : Int)).toNat xs.length) = _
    rw [if_pos (by omega)]
    omega
  rw [HT.sIx_none, e, List.take_of_length_le (by rw [List.length_drop]; omega)]
theorem cut_to (xs : List V) (k : Nat) : cutV xs none (some (k : Int)) = xs.take k := by
  unfold cutV
  rw [HT.sIx_none, HT.sIx_nat, List.drop_zero, Nat.sub_zero]
  by_cases h : k ≤ xs.length
  · rw [Nat.min_eq_left h]
  · rw [Nat.min_eq_right (by omega), List.take_length, List.take_of_length_le (by omega)]
section
variable {K : PySem.W.Frag} {σ : L2.St} {H H' H4 : Hp} {te ta : TE} {tt : TT} {j : Nat} {a D q d : Addr} {Q : VK}
theorem R_sum {ns : List Int} (h1 : SqL K H a (ns.map V.int)) (h : Q (.int ns.sum) H) : rSum K [.ref a] H Q := ⟨a, ns, rfl, h1, h⟩
def RLenSet (K : PySem.W.Frag) (x : V) (H1 : Hp) (Q : VK) : Prop := ∃ (l : Addr) (ns : List Int), x = .ref l ∧ SqL K H1 l (ns.map V.int) ∧ ns.length ≤ 4000 ∧ Q (.int (unlike ns : Nat)) H1
theorem E_lenSet (h : ta σ H fun x H1 => RLenSet K x H1 Q) : tLenSetD K ta σ H Q := h
theorem R_lenSet {ns : List Int} (h1 : SqL K H a (ns.map V.int)) (h2 : ns.length ≤ 4000) (h : Q (.int (unlike ns : Nat)) H) : RLenSet K (.ref a) H Q := ⟨a, ns, rfl, h1, h2, h⟩
theorem R_lcMapR {lo : Int} {n : Nat} (ys : List V) (hlen : ys.length = n) (hz : n ≤ 100000)
    (hs : ∀ (i : Nat) (y : V) (H' : Hp), ys[i]? = some y → Same H H' → ∀ Q' : VK, (∀ H4, Same H' H4 → Q' y H4) → te ((wipe σ [j]).set j (some (.int (lo + i)))) H' Q')
    (hd : ∀ D H', H D = none → Same H H' → H' D = some (.lst ys) → Q (.ref D) H') : RLc (Itr lo n) (gName j) tYes te [j] σ H Q := by
  intro D hD
  refine lc_range (fun i H' => Same H H' ∧ H' D = some (.lst (ys.take i))) ⟨fun b u e => by rw [upd_ne (ne_of_none e hD)]; exact e, by rw [upd_same, List.take_zero]⟩ (fun i H' hi p => ?_) (fun H' p => hd D H' hD p.1 (by rw [p.2, ← hlen, List.take_length]))
  have hi : i < ys.length := by omega
  refine ⟨wipe_set, ?_⟩
  refine E_yes ?_
  refine iteT ?_
  refine hs i ys[i] H' (List.getElem?_eq_getElem hi) p.1 _ (fun H4 q => ?_)
  refine ⟨ys.take i, q _ _ p.2, ?_, ⟨fun b u e => ?_, ?_⟩⟩
  · rw [List.length_take]
    exact Nat.lt_of_le_of_lt (m := 100000) (by omega) (by decide)
  · rw [upd_ne (ne_of_none e hD)]
    exact q b u (p.1 b u e)
  · rw [upd_same, List.take_add_one, List.getElem?_eq_getElem hi]
    rfl
/-- those of a list that pass a test; what is made of each -/
theorem R_lcFilter {xs : List V} (f : V → Bool) (g : V → V) (hq : SqL K H a xs) (hz : xs.length ≤ 100000)
    (ht : ∀ (x : V) (H' : Hp), x ∈ xs → Same H H' → ∀ Q' : Bool → Hp → Prop, (∀ H4, Same H' H4 → Q' (f x) H4) → tt ((wipe σ [j]).set j (some x)) H' Q')
    (hs : ∀ (x : V) (H' : Hp), x ∈ xs → f x = true → Same H H' → ∀ Q' : VK, (∀ H4, Same H' H4 → Q' (g x) H4) → te ((wipe σ [j]).set j (some x)) H' Q')
    (hd : ∀ D H', H D = none → Same H H' → H' D = some (.lst ((xs.filter f).map g)) → Q (.ref D) H') : RLc (Itl K a) (gName j) tt te [j] σ H Q := by
  intro D hD
  refine lc_list (xs := xs) (fun i H' => Same H H' ∧ H' D = some (.lst (((xs.take i).filter f).map g))) ⟨fun b u e => by rw [upd_ne (ne_of_none e hD)]; exact e, by rw [upd_same, List.take_zero]; rfl⟩ (fun i H' _ p => p.1.seq hq) (fun i x H' hx p => ?_) (fun H' p => hd D H' hD p.1 (by rw [p.2, List.take_length]))
  have hi : i < xs.length := (List.getElem?_eq_some_iff.mp hx).1
  have hm : x ∈ xs := List.mem_of_getElem? hx
  refine ⟨wipe_set, ?_⟩
  refine ht x H' hm p.1 _ (fun H2 s2 => ?_)
  have et : xs.take (i + 1) = xs.take i ++ [x] := by rw [List.take_add_one, hx]; rfl
  cases ef : f x with
  | false =>
    refine iteF ?_
    refine ⟨p.1.trans s2, ?_⟩
    rw [et, List.filter_append, List.filter_cons, if_neg (by rw [ef]; exact Bool.false_ne_true), List.filter_nil, List.append_nil]
    exact s2 _ _ p.2
  | true =>
    refine iteT ?_
    refine hs x H2 hm ef (p.1.trans s2) _ (fun H4 s4 => ?_)
    refine ⟨_, s4 _ _ (s2 _ _ p.2), ?_, ⟨fun b u e => ?_, ?_⟩⟩
    · have h1 : ((xs.take i).filter f).length ≤ (xs.take i).length := List.length_filter_le _ _
      rw [List.length_take] at h1
      rw [List.length_map]
      exact Nat.lt_of_le_of_lt (m := 100000) (by omega) (by decide)
    · rw [upd_ne (ne_of_none e hD)]
      exact s4 b u (s2 b u (p.1 b u e))
    · rw [upd_same, et, List.filter_append, List.filter_cons, if_pos ef, List.filter_nil, List.map_append]
      rfl
/-- [x[1] for x in xs], xs a list of pairs of ints -/
theorem R_lcSnd {qs : List (Addr × Int × Int)} (hq : SqL K H a (qs.map fun q => V.ref q.1)) (ht : ∀ q ∈ qs, H q.1 = some (.tup [.int q.2.1, .int q.2.2])) (hz : qs.length ≤ 100000) (hj : j < σ.length)
    (hd : ∀ D H', H D = none → Same H H' → H' D = some (.lst ((qs.map (·.2.2)).map V.int)) → Q (.ref D) H') : RLc (Itl K a) (gName j) tYes (tOp (rIxT K) (tVar j) (tC (.int 1))) [j] σ H Q := by
  refine R_lcMap hq (ys := (qs.map (·.2.2)).map V.int) (by rw [List.length_map, List.length_map, List.length_map]) (by rw [List.length_map]; exact hz) (fun i x y H' hx hy sm Q' kQ => ?_) hd
  rw [List.getElem?_map] at hx hy
  rw [List.getElem?_map] at hy
  cases e : qs[i]? with
  | none => rw [e] at hx; cases hx
  | some q =>
    rw [e] at hx hy
    have ex := Option.some.inj hx
    have ey := Option.some.inj hy
    subst ex ey
    refine ⟨.ref q.1, ?_, ?_⟩
    · rw [List.getElem?_set_self]
      show j < (σ.set j none).length
      rw [List.length_set]
      exact hj
    · exact ⟨q.1, _, 1, .int q.2.2, rfl, rfl, SqT.of (sm _ _ (ht q (List.mem_of_getElem? e))), rfl, kQ H' (Same.refl H')⟩
/-- the data of a list of ints -/
theorem dp_intsA : ∀ ns : List Int, DpAll K H (ns.map V.int) (ns.map PyData.int)
  | [] => .nil
  | n :: r => .cons (.int n) (dp_intsA r)
theorem dp_ints {ns : List Int} (h : SqL K H a (ns.map V.int)) : Dp K H (.ref a) (.list (ns.map PyData.int)) := .lst h (dp_intsA ns)
theorem ints_lay : ∀ ns : List Int, PyData.canLayAll0 (ns.map PyData.int) = true ∧ PyData.depthAll (ns.map PyData.int) = 0
  | [] => ⟨rfl, rfl⟩
  | n :: r => by
    obtain ⟨h1, h2⟩ := ints_lay r
    refine ⟨?_, ?_⟩
    · rw [List.map_cons, PyData.canLayAll0, h1]
      rfl
    · rw [List.map_cons, PyData.depthAll, h2]
      rfl
theorem shaped_ints (ns : List Int) : SeqAt.shaped (.list (ns.map PyData.int)) = true := by
  obtain ⟨h1, h2⟩ := ints_lay ns
  unfold SeqAt.shaped
  rw [PyData.canLay0, h1, PyData.depth, h2]
  rfl
theorem eqv_ints (ns : List Int) : PyData.eqv (.list (ns.map PyData.int)) (.list (ns.map PyData.int)) = true := SeqAt.eqv_refl _ (by rw [PyData.canLay0]; exact (ints_lay ns).1)
theorem R_neInts {b : Addr} {ns : List Int} (h1 : SqL K H a (ns.map V.int)) (h2 : SqL K H b (ns.map V.int)) (h : Q (.bl false) H) : rNeD K (.ref a) (.ref b) H Q :=
  ⟨_, _, dp_ints h1, dp_ints h2, shaped_ints ns, shaped_ints ns, by rw [eqv_ints]; exact h⟩
theorem R_all {bs : List Bool} (h1 : SqL K H a (bs.map V.bl)) (h : Q (.bl (bs.all id)) H) : rAll K [.ref a] H Q := ⟨a, bs, rfl, h1, h⟩
theorem R_cnt {ns : List Int} {z : Int} (h1 : SqL K H a (ns.map V.int)) (h : Q (.int (ns.count z : Nat)) H) : rCntI K (.ref a) [.int z] H Q := ⟨a, ns, z, rfl, rfl, h1, h⟩
end

/-! ### reversed(list) -/
section
variable {K : PySem.W.Frag} {σ : L2.St} {H : Hp} {D : Ends} {tb : TS} {te : TE} {ta : TA} {j : Nat} {a : Addr} {R : It → Hp → Prop} {Q : VK}
theorem pi_reversedK {X : Cx} (hK : X.K = K) {tg e : Expr} {p pos : Pos} (hg : Gl X "reversed") (hm : X.mg "reversed" = none) (ha : PA X [e] ta) (hs : starEach [e] X.env = [(false, eval e X.env)] := by rfl) : PI X tg (.Call (.Name "reversed" p) [e] [] pos) (iRev K ta) := by subst hK; exact pi_reversed hg hm ha hs
def RIv (K : PySem.W.Frag) (vs : List V) (H1 : Hp) (R : It → Hp → Prop) : Prop := ∃ (a : Addr) (xs : List V), vs = [.ref a] ∧ SqL K H1 a xs ∧ R (Itv K a xs.length) H1
theorem E_iv (h : ta σ H fun vs H1 => RIv K vs H1 R) : iRev K ta σ H R := h
theorem R_iv {xs : List V} (h1 : SqL K H a xs) (h : R (Itv K a xs.length) H) : RIv K [.ref a] H R := ⟨a, xs, rfl, h1, h⟩
theorem R_forV {xs : List V} (Pv : Nat → L2.St → Hp → Prop) (h0 : Pv 0 σ H) (hl : ∀ i σ H, i ≤ xs.length → Pv i σ H → SqL K H a xs)
    (hs : ∀ i x σ H, i < xs.length → xs[xs.length - 1 - i]? = some x → Pv i σ H → tb { D with nx := Pv (i + 1), ct := Pv (i + 1), bk := D.nx } (σ.set j (some x)) H) (hd : ∀ σ H, Pv xs.length σ H → D.nx σ H) : RFor (Itv K a xs.length) (gName j) tb D σ H := by
  refine ⟨fun i m σ H => m = xs.length - i ∧ i ≤ xs.length ∧ Pv i σ H, ⟨xs.length, by simp, Nat.zero_le _, h0⟩, ?_⟩
  rintro i m σ H ⟨rfl, hi, p⟩
  have q := hl i σ H hi p
  by_cases hlt : i < xs.length
  · refine .inr ⟨⟨hlt, xs, xs[xs.length - 1 - i], q, List.getElem?_eq_getElem (by omega)⟩, Pv (i + 1), fun σ' H' p' => ⟨xs.length - (i + 1), by omega, rfl, hlt, p'⟩, fun x H' y => ?_⟩
    obtain ⟨e, y⟩ := y
    subst e
    exact hs i x σ _ hlt (y xs q) p
  · have e : i = xs.length := by omega
    subst e
    exact .inl ⟨Nat.le_refl _, hd σ H p⟩
theorem R_lcMapV {xs ys : List V} (hq : SqL K H a xs) (hlen : ys.length = xs.length) (hz : xs.length ≤ 100000)
    (hs : ∀ (i : Nat) (x y : V) (H' : Hp), xs[xs.length - 1 - i]? = some x → ys[i]? = some y → Same H H' → ∀ Q' : VK, (∀ H4, Same H' H4 → Q' y H4) → te ((wipe σ [j]).set j (some x)) H' Q')
    (hd : ∀ D H', H D = none → Same H H' → H' D = some (.lst ys) → Q (.ref D) H') : RLc (Itv K a xs.length) (gName j) tYes te [j] σ H Q := by
  intro D hD
  refine ⟨fun i m H' => m = xs.length - i ∧ i ≤ xs.length ∧ Same H H' ∧ H' D = some (.lst (ys.take i)), ⟨xs.length, by simp, Nat.zero_le _, fun b u e => by rw [upd_ne (ne_of_none e hD)]; exact e, by rw [upd_same, List.take_zero]⟩, ?_⟩
  rintro i m H' ⟨rfl, hi, p1, p2⟩
  have q := p1.seq hq
  by_cases hlt : i < xs.length
  · refine .inr ⟨⟨hlt, xs, xs[xs.length - 1 - i], q, List.getElem?_eq_getElem (by omega)⟩, fun H2 => Same H H2 ∧ H2 D = some (.lst (ys.take (i + 1))), fun H2 p' => ⟨xs.length - (i + 1), by omega, rfl, hlt, p'⟩, fun x H2 y => ?_⟩
    obtain ⟨rfl, y⟩ := y
    refine ⟨wipe_set, ?_⟩
    refine E_yes ?_
    refine iteT ?_
    refine hs i x ys[i] H2 (y xs q) (List.getElem?_eq_getElem (by omega)) p1 _ (fun H4 s4 => ?_)
    refine ⟨ys.take i, s4 _ _ p2, ?_, ⟨fun b u e => ?_, ?_⟩⟩
    · rw [List.length_take]
      exact Nat.lt_of_le_of_lt (m := 100000) (by omega) (by decide)
    · rw [upd_ne (ne_of_none e hD)]
      exact s4 b u (p1 b u e)
    · rw [upd_same, List.take_add_one, List.getElem?_eq_getElem (show i < ys.length by omega)]
      rfl
  · have e : i = xs.length := by omega
    subst e
    exact .inl ⟨Nat.le_refl _, hd D H' hD p1 (by rw [p2, ← hlen, List.take_length])⟩
theorem R_pop {p : Addr} {xs : List V} {y : V} (h1 : H p = some (.lst xs)) (h2 : xs[xs.length - 1]? = some y) (h : Q y (upd H p (.lst xs.dropLast))) : rPop (.ref p) [] H Q := ⟨p, xs, y, rfl, rfl, h1, h2, h⟩
theorem R_notN {x : V} (h : Q (.bl (!decide (x = .non))) H) : (fun x y H Q => y = V.non ∧ Q (.bl (!decide (x = .non))) H : R2) x .non H Q := ⟨rfl, h⟩
end
end LF

set_option maxRecDepth 100000
set_option maxHeartbeats 4000000
namespace LF
open PySem PySem.Spec PyProof.Rows L2
/-! ### the text by places -/
def top (i : Nat) : Stmt := PySem.Challenge.pw_lastfew_k11_whole_maps.main.body.getD i (.Pass ⟨0, 0, 0, 0⟩)
abbrev s_look_size : Stmt := top 6
abbrev s_behind : Stmt := top 7
abbrev s_Maps_init : Stmt := inClass (top 8) 0
abbrev s_Maps_put : Stmt := inClass (top 8) 1
abbrev s_Maps_turn : Stmt := inClass (top 8) 2
abbrev s_Maps_whole : Stmt := inClass (top 8) 3
abbrev s_Maps_maps : Stmt := inClass (top 8) 4
abbrev s_Maps_at : Stmt := inClass (top 8) 5
abbrev s_l_cell : Stmt := top 10
abbrev s_l_mix : Stmt := top 11
abbrev s_l_whole : Stmt := top 12
abbrev s_l_thing : Stmt := top 13
abbrev s_l_made : Stmt := top 14
abbrev s_law : Stmt := top 15
theorem sc_look_size : FnScope ["size"] ["size"] (defScope s_look_size) := ⟨rfl, rfl, rfl, by decide +kernel, rfl, by decide +kernel, by decide +kernel⟩
theorem sc_behind : FnScope ["one", "other"] ["one", "other"] (defScope s_behind) := ⟨rfl, rfl, rfl, by decide +kernel, rfl, by decide +kernel, by decide +kernel⟩
theorem sc_Maps_init : FnScope ["self", "size"] ["self", "size"] (defScope s_Maps_init) := ⟨rfl, rfl, rfl, by decide +kernel, rfl, by decide +kernel, by decide +kernel⟩
theorem sc_Maps_put : FnScope ["self", "times", "more", "one"] ["self", "times", "more"] (defScope s_Maps_put) := ⟨rfl, rfl, rfl, by decide +kernel, rfl, by decide +kernel, by decide +kernel⟩
theorem sc_Maps_turn : FnScope ["self", "found", "one"] ["self"] (defScope s_Maps_turn) := ⟨rfl, rfl, rfl, by decide +kernel, rfl, by decide +kernel, by decide +kernel⟩
theorem sc_Maps_whole : FnScope ["self"] ["self"] (defScope s_Maps_whole) := ⟨rfl, rfl, rfl, by decide +kernel, rfl, by decide +kernel, by decide +kernel⟩
theorem sc_Maps_maps : FnScope ["self", "pair"] ["self"] (defScope s_Maps_maps) := ⟨rfl, rfl, rfl, by decide +kernel, rfl, by decide +kernel, by decide +kernel⟩
theorem sc_Maps_at : FnScope ["self", "number", "one"] ["self", "number"] (defScope s_Maps_at) := ⟨rfl, rfl, rfl, by decide +kernel, rfl, by decide +kernel, by decide +kernel⟩
theorem sc_l_cell : FnScope ["_law_script", "_law_k"] ["_law_script", "_law_k"] (defScope s_l_cell) := ⟨rfl, rfl, rfl, by decide +kernel, rfl, by decide +kernel, by decide +kernel⟩
theorem sc_l_mix : FnScope ["_law_script", "_law_k", "_law_number"] ["_law_script", "_law_k"] (defScope s_l_mix) := ⟨rfl, rfl, rfl, by decide +kernel, rfl, by decide +kernel, by decide +kernel⟩
theorem sc_l_whole : FnScope ["_law_found"] ["_law_found"] (defScope s_l_whole) := ⟨rfl, rfl, rfl, by decide +kernel, rfl, by decide +kernel, by decide +kernel⟩
theorem sc_l_thing : FnScope ["_law_script", "_law_k", "_law_number", "_law_some"] ["_law_script", "_law_k"] (defScope s_l_thing) := ⟨rfl, rfl, rfl, by decide +kernel, rfl, by decide +kernel, by decide +kernel⟩
theorem sc_l_made : FnScope ["_law_row", "_law_number", "_law_one"] ["_law_row", "_law_number"] (defScope s_l_made) := ⟨rfl, rfl, rfl, by decide +kernel, rfl, by decide +kernel, by decide +kernel⟩
theorem sc_law : FnScope ["_law_script", "_law_size", "_law_maps", "_law_row", "_law_k", "_law_times", "_law_more", "_law_whole_here", "_law_zero", "_law_number"] ["_law_script"] (defScope s_law) := ⟨rfl, rfl, rfl, by decide +kernel, rfl, by decide +kernel, by decide +kernel⟩
/-- what the top has written -/
structure Txt (K : PySem.W.Frag) (mg : Str → Option Value) (D : Str × Option Str → FuncData) : Prop where
  cMaps : ClAt K mg "Maps"
  look_size : FnAt K mg D "look_size" s_look_size ["size"]
  behind : FnAt K mg D "behind" s_behind ["one", "other"]
  Maps_init : MtAt K D "Maps" "__init__" "Maps.__init__" s_Maps_init ["self", "size"]
  Maps_put : MtAt K D "Maps" "put" "Maps.put" s_Maps_put ["self", "times", "more"]
  Maps_turn : MtAt K D "Maps" "turn" "Maps.turn" s_Maps_turn ["self"]
  Maps_whole : MtAt K D "Maps" "whole" "Maps.whole" s_Maps_whole ["self"]
  Maps_maps : MtAt K D "Maps" "maps" "Maps.maps" s_Maps_maps ["self"]
  Maps_at : MtAt K D "Maps" "at" "Maps.at" s_Maps_at ["self", "number"]
  l_cell : FnAt K mg D "_law_cell" s_l_cell ["_law_script", "_law_k"]
  l_mix : FnAt K mg D "_law_mix" s_l_mix ["_law_script", "_law_k"]
  l_whole : FnAt K mg D "_law_whole" s_l_whole ["_law_found"]
  l_thing : FnAt K mg D "_law_thing" s_l_thing ["_law_script", "_law_k"]
  l_made : FnAt K mg D "_law_made" s_l_made ["_law_row", "_law_number"]
  law : FnAt K mg D "law" s_law ["_law_script"]
  n_Maps_size : NoAttr K (He.ga K "Maps") "size"
  n_Maps_old : NoAttr K (He.ga K "Maps") "old"
  n_Maps_new : NoAttr K (He.ga K "Maps") "new"
  n_Maps_last : NoAttr K (He.ga K "Maps") "last"
  c_MOST : ∃ t, mg "MOST" = some (.int 1000 t)
  c_ROUND : ∃ t, mg "ROUND" = some (.int 1000003 t)
  z_len : mg "len" = none
  z_isinstance : mg "isinstance" = none
  z_list : mg "list" = none
  z_int : mg "int" = none
  z_range : mg "range" = none
  z_reversed : mg "reversed" = none
  z_bool : mg "bool" = none
  z_tuple : mg "tuple" = none
end LF

set_option maxRecDepth 100000
set_option maxHeartbeats 4000000
namespace LF
open PySem PySem.Spec PyProof.Rows L2

/-! ### a Tally's fields -/
theorem lk_eq {x : Str} {v : V} {l : List (Str × V)} : ((x, v) :: l).lookup x = some v := by simp [List.lookup]
theorem lk_ne {x y : Str} {v : V} {l : List (Str × V)} (h : x ≠ y) : ((y, v) :: l).lookup x = l.lookup x := by
  have e : (x == y) = false := by simpa using h
  simp [List.lookup, e]
theorem pf_eq {f : Str} {y v : V} {l : List (Str × V)} : putF f y ((f, v) :: l) = (f, y) :: l := if_pos rfl
theorem pf_ne {f g : Str} {y v : V} {l : List (Str × V)} (h : g ≠ f) : putF f y ((g, v) :: l) = (g, v) :: putF f y l := if_neg h
theorem pf_cons {f g : Str} {y v : V} {l l' : List (Str × V)} (h : g ≠ f) (e : putF f y l = l') : putF f y ((g, v) :: l) = (g, v) :: l' := by rw [pf_ne h, e]
theorem pf_nil {f : Str} {y : V} : putF f y [] = [(f, y)] := rfl
def tfl (r k o : Addr) (T P : Int) : List (Str × V) := [("row", .ref r), ("ranks", .ref k), ("often", .ref o), ("total", .int T), ("pairs", .int P)]
theorem tfl_row (r k o : Addr) (T P : Int) : (tfl r k o T P).lookup ("row" : Str) = some (.ref r) := lk_eq
theorem tfl_ranks (r k o : Addr) (T P : Int) : (tfl r k o T P).lookup ("ranks" : Str) = some (.ref k) := (lk_ne (by decide +kernel)).trans lk_eq
theorem tfl_often (r k o : Addr) (T P : Int) : (tfl r k o T P).lookup ("often" : Str) = some (.ref o) := (lk_ne (by decide +kernel)).trans ((lk_ne (by decide +kernel)).trans lk_eq)
theorem tfl_total (r k o : Addr) (T P : Int) : (tfl r k o T P).lookup ("total" : Str) = some (.int T) := (lk_ne (by decide +kernel)).trans ((lk_ne (by decide +kernel)).trans ((lk_ne (by decide +kernel)).trans lk_eq))
theorem tfl_pairs (r k o : Addr) (T P : Int) : (tfl r k o T P).lookup ("pairs" : Str) = some (.int P) := (lk_ne (by decide +kernel)).trans ((lk_ne (by decide +kernel)).trans ((lk_ne (by decide +kernel)).trans ((lk_ne (by decide +kernel)).trans lk_eq)))
theorem tfl_no (r k o : Addr) (T P : Int) {m : Str} (h : m ∉ ([("row" : Str), "ranks", "often", "total", "pairs"] : List Str)) : (tfl r k o T P).lookup m = none := by
  simp only [List.mem_cons, not_or] at h
  obtain ⟨h1, h2, h3, h4, h5, _⟩ := h
  exact (lk_ne h1).trans ((lk_ne h2).trans ((lk_ne h3).trans ((lk_ne h4).trans ((lk_ne h5).trans rfl))))
theorem tfl_setT (r k o : Addr) (T P y : Int) : putF "total" (.int y) (tfl r k o T P) = tfl r k o y P := by
  unfold tfl
  rw [pf_ne (by decide +kernel), pf_ne (by decide +kernel), pf_ne (by decide +kernel), pf_eq]
theorem tfl_setP (r k o : Addr) (T P y : Int) : putF "pairs" (.int y) (tfl r k o T P) = tfl r k o T y := by
  unfold tfl
  rw [pf_ne (by decide +kernel), pf_ne (by decide +kernel), pf_ne (by decide +kernel), pf_ne (by decide +kernel), pf_eq]

def wfl (n : Int) (t : Addr) : List (Str × V) := [("size", .int n), ("tally", .ref t)]
theorem wfl_size (n : Int) (t : Addr) : (wfl n t).lookup ("size" : Str) = some (.int n) := lk_eq
theorem wfl_tally (n : Int) (t : Addr) : (wfl n t).lookup ("tally" : Str) = some (.ref t) := (lk_ne (by decide +kernel)).trans lk_eq
theorem wfl_no (n : Int) (t : Addr) {m : Str} (h : m ∉ ([("size" : Str), "tally"] : List Str)) : (wfl n t).lookup m = none := by
  simp only [List.mem_cons, not_or] at h
  obtain ⟨h1, h2, _⟩ := h
  exact (lk_ne h1).trans ((lk_ne h2).trans rfl)

def zfl (n now : Int) (tm t : Addr) : List (Str × V) := [("span", .int n), ("now", .int now), ("times", .ref tm), ("tally", .ref t)]
theorem zfl_span (n now : Int) (tm t : Addr) : (zfl n now tm t).lookup ("span" : Str) = some (.int n) := lk_eq
theorem zfl_now (n now : Int) (tm t : Addr) : (zfl n now tm t).lookup ("now" : Str) = some (.int now) := (lk_ne (by decide +kernel)).trans lk_eq
theorem zfl_times (n now : Int) (tm t : Addr) : (zfl n now tm t).lookup ("times" : Str) = some (.ref tm) := (lk_ne (by decide +kernel)).trans ((lk_ne (by decide +kernel)).trans lk_eq)
theorem zfl_tally (n now : Int) (tm t : Addr) : (zfl n now tm t).lookup ("tally" : Str) = some (.ref t) := (lk_ne (by decide +kernel)).trans ((lk_ne (by decide +kernel)).trans ((lk_ne (by decide +kernel)).trans lk_eq))
theorem zfl_no (n now : Int) (tm t : Addr) {m : Str} (h : m ∉ ([("span" : Str), "now", "times", "tally"] : List Str)) : (zfl n now tm t).lookup m = none := by
  simp only [List.mem_cons, not_or] at h
  obtain ⟨h1, h2, h3, h4, _⟩ := h
  exact (lk_ne h1).trans ((lk_ne h2).trans ((lk_ne h3).trans ((lk_ne h4).trans rfl)))
theorem zfl_set (n now x : Int) (tm t : Addr) : putF "now" (.int x) (zfl n now tm t) = zfl n x tm t := by
  unfold zfl
  rw [pf_ne (by decide +kernel), pf_eq]

def mfl (n : Int) (oa : Addr) (na : Addr) (la : Addr) : List (Str × V) := [("size", .int n), ("old", .ref oa), ("new", .ref na), ("last", .ref la)]
theorem mfl_size (n : Int) (oa : Addr) (na : Addr) (la : Addr) : (mfl n oa na la).lookup ("size" : Str) = some (.int n) := lk_eq
theorem mfl_old (n : Int) (oa : Addr) (na : Addr) (la : Addr) : (mfl n oa na la).lookup ("old" : Str) = some (.ref oa) := (lk_ne (by decide +kernel)).trans lk_eq
theorem mfl_new (n : Int) (oa : Addr) (na : Addr) (la : Addr) : (mfl n oa na la).lookup ("new" : Str) = some (.ref na) := (lk_ne (by decide +kernel)).trans ((lk_ne (by decide +kernel)).trans lk_eq)
theorem mfl_last (n : Int) (oa : Addr) (na : Addr) (la : Addr) : (mfl n oa na la).lookup ("last" : Str) = some (.ref la) := (lk_ne (by decide +kernel)).trans ((lk_ne (by decide +kernel)).trans ((lk_ne (by decide +kernel)).trans lk_eq))
theorem mfl_no (n : Int) (oa : Addr) (na : Addr) (la : Addr) {m : Str} (h : m ∉ ([("size" : Str), "old", "new", "last"] : List Str)) : (mfl n oa na la).lookup m = none := by
  simp only [List.mem_cons, not_or] at h
  obtain ⟨h1, h2, h3, h4, _⟩ := h
  exact (lk_ne h1).trans ((lk_ne h2).trans ((lk_ne h3).trans ((lk_ne h4).trans (rfl))))
theorem mfl_set_new (n : Int) (oa : Addr) (na : Addr) (la : Addr) (y : Addr) : putF "new" (.ref y) (mfl n oa na la) = mfl n oa y la := by
  unfold mfl
  rw [pf_ne (by decide +kernel), pf_ne (by decide +kernel), pf_eq]
theorem mfl_set_last (n : Int) (oa : Addr) (na : Addr) (la : Addr) (y : Addr) : putF "last" (.ref y) (mfl n oa na la) = mfl n oa na y := by
  unfold mfl
  rw [pf_ne (by decide +kernel), pf_ne (by decide +kernel), pf_ne (by decide +kernel), pf_eq]
def gfl (n : Int) (mo : Int) (oa : Addr) (wa : Addr) : List (Str × V) := [("size", .int n), ("most", .int mo), ("order", .ref oa), ("windows", .ref wa)]
theorem gfl_size (n : Int) (mo : Int) (oa : Addr) (wa : Addr) : (gfl n mo oa wa).lookup ("size" : Str) = some (.int n) := lk_eq
theorem gfl_most (n : Int) (mo : Int) (oa : Addr) (wa : Addr) : (gfl n mo oa wa).lookup ("most" : Str) = some (.int mo) := (lk_ne (by decide +kernel)).trans lk_eq
theorem gfl_order (n : Int) (mo : Int) (oa : Addr) (wa : Addr) : (gfl n mo oa wa).lookup ("order" : Str) = some (.ref oa) := (lk_ne (by decide +kernel)).trans ((lk_ne (by decide +kernel)).trans lk_eq)
theorem gfl_windows (n : Int) (mo : Int) (oa : Addr) (wa : Addr) : (gfl n mo oa wa).lookup ("windows" : Str) = some (.ref wa) := (lk_ne (by decide +kernel)).trans ((lk_ne (by decide +kernel)).trans ((lk_ne (by decide +kernel)).trans lk_eq))
theorem gfl_no (n : Int) (mo : Int) (oa : Addr) (wa : Addr) {m : Str} (h : m ∉ ([("size" : Str), "most", "order", "windows"] : List Str)) : (gfl n mo oa wa).lookup m = none := by
  simp only [List.mem_cons, not_or] at h
  obtain ⟨h1, h2, h3, h4, _⟩ := h
  exact (lk_ne h1).trans ((lk_ne h2).trans ((lk_ne h3).trans ((lk_ne h4).trans (rfl))))

/-! ### how often each is there -/
structure OftenOk (kvs : List (Key × V)) (row : List Int) : Prop where
  nd : (kvs.map (·.1)).Nodup
  at_ : ∀ n : Int, valV kvs (.inl n) = if row.count n = 0 then none else some (.int (row.count n : Nat))
  no : ∀ z : Str, valV kvs (.inr z) = none
theorem OftenOk.keys {kvs : List (Key × V)} {row : List Int} (h : OftenOk kvs row) : ∀ q ∈ kvs, ∃ n : Int, q = (.inl n, .int (row.count n : Nat)) ∧ n ∈ row := by
  intro q hq
  have e := val_nodup h.nd q hq
  obtain ⟨a, v⟩ := q
  cases a with
  | inl n =>
    have e2 : valV kvs (Sum.inl n) = some v := e
    rw [h.at_ n] at e2
    by_cases hc : row.count n = 0
    · rw [if_pos hc] at e2
      cases e2
    · rw [if_neg hc] at e2
      have e3 := Option.some.inj e2
      subst e3
      exact ⟨n, rfl, List.count_pos_iff.mp (by omega)⟩
  | inr z =>
    have e2 : valV kvs (Sum.inr z) = some v := e
    rw [h.no z] at e2
    cases e2
def kInt : Key → Int
  | .inl n => n
  | .inr _ => 0
theorem OftenOk.names {kvs : List (Key × V)} {row : List Int} (h : OftenOk kvs row) : kvs.map (·.1) = (kvs.map fun q => kInt q.1).map Sum.inl := by
  rw [List.map_map]
  refine List.map_congr_left fun q hq => ?_
  obtain ⟨n, rfl, _⟩ := h.keys q hq
  rfl
theorem nodup_of_map {α β : Type} (f : α → β) : ∀ {l : List α}, (l.map f).Nodup → l.Nodup
  | [], _ => List.nodup_nil
  | a :: r, h => by
    obtain ⟨h1, h2⟩ := List.nodup_cons.mp h
    exact List.nodup_cons.mpr ⟨fun m => h1 (List.mem_map.mpr ⟨a, m, rfl⟩), nodup_of_map f h2⟩
theorem OftenOk.ints_nd {kvs : List (Key × V)} {row : List Int} (h : OftenOk kvs row) : (kvs.map fun q => kInt q.1).Nodup := by
  have n := h.nd
  rw [h.names] at n
  exact nodup_of_map _ n
theorem OftenOk.ints_mem {kvs : List (Key × V)} {row : List Int} (h : OftenOk kvs row) (x : Int) : x ∈ (kvs.map fun q => kInt q.1) ↔ x ∈ row := by
  constructor
  · intro hx
    obtain ⟨q, hq, rfl⟩ := List.mem_map.mp hx
    obtain ⟨n, rfl, hn⟩ := h.keys q hq
    exact hn
  · intro hx
    have e := h.at_ x
    have hc : ¬ row.count x = 0 := by
      have := List.count_pos_iff.mpr hx
      omega
    rw [if_neg hc] at e
    have m := valV_in e
    rw [h.names] at m
    obtain ⟨y, hy, ey⟩ := List.mem_map.mp m
    cases ey
    exact hy
theorem OftenOk.len {kvs : List (Key × V)} {row : List Int} (h : OftenOk kvs row) : kvs.length = unlike row := by
  rw [← unlike_of h.ints_nd h.ints_mem, List.length_map]
theorem OftenOk.nil : OftenOk [] [] := ⟨List.nodup_nil, fun n => by simp [valV_nil], fun z => valV_nil⟩
theorem OftenOk.get0 {kvs : List (Key × V)} {row : List Int} (h : OftenOk kvs row) (x : Int) : (valV kvs (.inl x)).getD (.int 0) = .int (row.count x : Nat) := by
  rw [h.at_ x]
  by_cases e : row.count x = 0
  · rw [if_pos e, e]
    rfl
  · rw [if_neg e]
    rfl
theorem putK_old {kvs : List (Key × V)} {k : Key} {v w : V} (h : valV kvs k = some w) : (putK kvs k v).map (·.1) = kvs.map (·.1) := by
  unfold putK
  rw [valV_any, h]
  simp only [Option.isSome_some, if_true, List.map_map]
  refine List.map_congr_left fun q _ => ?_
  show (if q.1 = k then (q.1, v) else q).1 = q.1
  split <;> rfl
theorem OftenOk.nd_put {kvs : List (Key × V)} {k : Key} {v : V} (n : (kvs.map (·.1)).Nodup) : ((putK kvs k v).map (·.1)).Nodup := by
  cases e : valV kvs k with
  | none => exact nd_putK v n e
  | some w => rw [putK_old e]; exact n
theorem OftenOk.add {kvs : List (Key × V)} {row : List Int} (h : OftenOk kvs row) (x : Int) : OftenOk (putK kvs (.inl x) (.int ((row.count x : Nat) + 1))) (row ++ [x]) := by
  refine ⟨OftenOk.nd_put h.nd, fun n => ?_, fun z => ?_⟩
  · rw [valV_put, count_snoc, h.at_ n]
    by_cases e : n = x
    · subst e
      rw [if_pos rfl, if_pos rfl, if_neg (by omega)]
      rfl
    · have e0 : (if x = n then 1 else 0 : Nat) = 0 := if_neg fun q => e q.symm
      rw [if_neg (fun q => e (Sum.inl.inj q)), e0]
      rfl
  · rw [valV_put, if_neg (by intro q; cases q)]
    exact h.no z
theorem valV_drop {kvs : List (Key × V)} {k j : Key} : valV (dropK kvs k) j = if j = k then none else valV kvs j := by
  induction kvs with
  | nil =>
    unfold dropK
    rw [List.filter_nil, valV_nil]
    split <;> rfl
  | cons p r ih =>
    by_cases e : p.1 = k
    · rw [dropK_pos e, ih]
      by_cases ej : j = k
      · rw [if_pos ej, if_pos ej]
      · rw [if_neg ej, if_neg ej, valV_neg (fun q => ej (q.symm.trans e))]
    · rw [dropK_neg e]
      by_cases ep : p.1 = j
      · rw [valV_pos ep, if_neg (fun q => e (ep.trans q)), valV_pos ep]
      · rw [valV_neg ep, ih, valV_neg ep]
/-- the first goes: the count is lessened, or the key goes -/
theorem OftenOk.less {kvs : List (Key × V)} {row : List Int} {x : Int} (h : OftenOk kvs (x :: row)) (hr : x ∈ row) : OftenOk (putK kvs (.inl x) (.int (((x :: row).count x : Nat) - 1))) row := by
  refine ⟨OftenOk.nd_put h.nd, fun n => ?_, fun z => ?_⟩
  · rw [valV_put, h.at_ n, count_cons', count_cons']
    by_cases e : n = x
    · subst e
      have := List.count_pos_iff.mpr hr
      rw [if_pos rfl, if_pos rfl, if_neg (by omega)]
      congr 1
      congr 1
      omega
    · have e0 : (if x = n then 1 else 0 : Nat) = 0 := if_neg fun q => e q.symm
      rw [if_neg (fun q => e (Sum.inl.inj q)), e0]
      rfl
  · rw [valV_put, if_neg (by intro q; cases q)]
    exact h.no z
theorem OftenOk.gone {kvs : List (Key × V)} {row : List Int} {x : Int} {v : V} (h : OftenOk kvs (x :: row)) (hr : x ∉ row) : OftenOk (dropK (putK kvs (.inl x) v) (.inl x)) row := by
  refine ⟨nd_dropK (OftenOk.nd_put h.nd), fun n => ?_, fun z => ?_⟩
  · rw [valV_drop]
    by_cases e : n = x
    · subst e
      rw [if_pos rfl, if_pos (List.count_eq_zero.mpr hr)]
    · have e0 : (if x = n then 1 else 0 : Nat) = 0 := if_neg fun q => e q.symm
      rw [if_neg (fun q => e (Sum.inl.inj q)), valV_put, if_neg (fun q => e (Sum.inl.inj q)), h.at_ n, count_cons', e0]
      rfl
  · rw [valV_drop, if_neg (by intro q; cases q), valV_put, if_neg (by intro q; cases q)]
    exact h.no z

theorem at_int {ns : List Int} {z : Int} (j : Nat) (e : z = (j : Int)) (h : j < ns.length) : atI (ns.map V.int) z = some (.int ns[j]) := at_of e (by rw [List.getElem?_map, List.getElem?_eq_getElem h]; rfl)
theorem map_snoc (l : List Int) (x : Int) : (l ++ [x]).map V.int = l.map V.int ++ [V.int x] := by rw [List.map_append]; rfl
theorem map_erase (l : List Int) (i : Nat) : (l.map V.int).eraseIdx i = (l.eraseIdx i).map V.int := by
  rw [List.eraseIdx_eq_take_drop_succ, List.eraseIdx_eq_take_drop_succ, List.map_append, List.map_take, List.map_drop]
theorem mapint_len (l : List Int) : (l.map V.int).length = l.length := List.length_map ..
/-- a list of pairs of ints, each its own tuple -/
def RowAt (H : Hp) (a : Addr) (ps : List (Int × Int)) : Prop := ∃ qs : List (Addr × Int × Int), H a = some (.lst (qs.map fun q => V.ref q.1)) ∧ (∀ q ∈ qs, H q.1 = some (.tup [.int q.2.1, .int q.2.2])) ∧ qs.map (·.2) = ps
theorem RowAt.keep {H H' : Hp} {a : Addr} {ps : List (Int × Int)} (h : RowAt H a ps) (e : ∀ b u, H b = some u → (b = a ∨ ∃ x y, u = .tup [.int x, .int y]) → H' b = some u) : RowAt H' a ps := by
  obtain ⟨qs, h1, h2, h3⟩ := h
  exact ⟨qs, e _ _ h1 (.inl rfl), fun q hq => e _ _ (h2 q hq) (.inr ⟨_, _, rfl⟩), h3⟩
theorem RowAt.ex {H H' : Hp} {a : Addr} {ps : List (Int × Int)} (h : RowAt H a ps) (e : Same H H') : RowAt H' a ps := h.keep fun b u hb _ => e b u hb
/-! ### a Tally in the heap -/
structure TAt (K : PySem.W.Frag) (H : Hp) (t r k o : Addr) (row : List Int) : Prop where
  ob : ∃ dx, H t = some (.ins (He.ga K "Tally") dx (tfl r k o row.sum (inv row : Nat)))
  ro : H r = some (.lst (row.map V.int))
  ra : H k = some (.lst ((srt row).map V.int))
  of : ∃ kvs, H o = some (.dK kvs) ∧ OftenOk kvs row
  ne : r ≠ k
/-- all but the Tally's four objects is as it was -/
def Keep (H H' : Hp) (t r k o : Addr) : Prop := ∀ b u, H b = some u → b ≠ t → b ≠ r → b ≠ k → b ≠ o → H' b = some u
theorem TAt.apart {K : PySem.W.Frag} {H : Hp} {t r k o : Addr} {row : List Int} (T : TAt K H t r k o row) : t ≠ r ∧ t ≠ k ∧ t ≠ o ∧ r ≠ k ∧ r ≠ o ∧ k ≠ o := by
  obtain ⟨⟨dx, h1⟩, h2, h3, ⟨kvs, h4, _⟩, ne⟩ := T
  exact ⟨ne_of h1 h2 (by intro z; cases z), ne_of h1 h3 (by intro z; cases z), ne_of h1 h4 (by intro z; cases z), ne, ne_of h2 h4 (by intro z; cases z), ne_of h3 h4 (by intro z; cases z)⟩
theorem TAt.same {K : PySem.W.Frag} {H H' : Hp} {t r k o : Addr} {row : List Int} (T : TAt K H t r k o row) (e1 : ∀ b u, (b = t ∨ b = r ∨ b = k ∨ b = o) → H b = some u → H' b = some u) : TAt K H' t r k o row := by
  obtain ⟨⟨dx, h1⟩, h2, h3, ⟨kvs, h4, h5⟩, ne⟩ := T
  exact ⟨⟨dx, e1 _ _ (.inl rfl) h1⟩, e1 _ _ (.inr (.inl rfl)) h2, e1 _ _ (.inr (.inr (.inl rfl))) h3, ⟨kvs, e1 _ _ (.inr (.inr (.inr rfl))) h4, h5⟩, ne⟩
theorem TAt.ex {K : PySem.W.Frag} {H H' : Hp} {t r k o : Addr} {row : List Int} (T : TAt K H t r k o row) (e : Same H H') : TAt K H' t r k o row := T.same fun b u _ h => e b u h

/-! ### the words, as plain functions -/
/-- the word nm of a row -/
def wordV (row : List Int) (nm : Str) : V :=
  if nm = "many" then .int (row.length : Nat) else if nm = "sum" then .int row.sum else if nm = "unlike" then .int (unlike row : Nat) else if nm = "wrong" then .int (inv row : Nat)
  else if nm = "rising" then .int (ris row : Nat) else if nm = "mark" then .int (mark row) else
  match row with
  | [] => .non
  | x :: r => if nm = "first" then .int x else if nm = "last" then .int ((x :: r).getLast (List.cons_ne_nil _ _)) else if nm = "commonest" then .int (common (x :: r))
    else if nm = "middle" then .int ((srt (x :: r)).getD (r.length / 2) 0) else if nm = "least" then .int ((srt (x :: r)).getD 0 0) else .int ((srt (x :: r)).getD r.length 0)
def names6 : List Str := ["first", "last", "least", "greatest", "middle", "commonest"]
def names12 : List Str := ["many", "sum", "unlike", "wrong", "rising", "mark", "first", "last", "least", "greatest", "middle", "commonest"]

/-! ### the promises -/
def spPlaced (K : PySem.W.Frag) : Sp := fun vs H Q _ => ∃ (a : Addr) (ns : List Int) (x : Int), vs = [.ref a, .int x] ∧ SqL K H a (ns.map V.int) ∧ ns.Pairwise (· ≤ ·) ∧ ns.length ≤ 1000 ∧ Q (.int (below x ns : Nat)) H
def spTInit (K : PySem.W.Frag) : Sp := fun vs H Q _ => ∃ (t dx : Addr), vs = [.ref t] ∧ H t = some (.ins (He.ga K "Tally") dx []) ∧
  ∀ (r k o : Addr) (H' : Hp), H r = none → H k = none → H o = none → TAt K H' t r k o [] → (∀ b u, H b = some u → b ≠ t → H' b = some u) → Q .non H'
def spAdd (K : PySem.W.Frag) : Sp := fun vs H Q _ => ∃ (t r k o : Addr) (row : List Int) (x : Int), vs = [.ref t, .int x] ∧ TAt K H t r k o row ∧ row.length ≤ 999 ∧ ∀ H', TAt K H' t r k o (row ++ [x]) → Keep H H' t r k o → Q .non H'
def spDrop (K : PySem.W.Frag) : Sp := fun vs H Q _ => ∃ (t r k o : Addr) (row : List Int) (x : Int), vs = [.ref t] ∧ TAt K H t r k o (x :: row) ∧ row.length ≤ 999 ∧ ∀ H', TAt K H' t r k o row → Keep H H' t r k o → Q (.int x) H'
def spRising (K : PySem.W.Frag) : Sp := fun vs H Q _ => ∃ (t r k o : Addr) (row : List Int), vs = [.ref t] ∧ TAt K H t r k o row ∧ row.length ≤ 1000 ∧ Q (.int (ris row : Nat)) H
def spMark (K : PySem.W.Frag) : Sp := fun vs H Q _ => ∃ (t r k o : Addr) (row : List Int), vs = [.ref t] ∧ TAt K H t r k o row ∧ row.length ≤ 1000 ∧ Q (.int (mark row)) H
def spOne (K : PySem.W.Frag) : Sp := fun vs H Q _ => ∃ (t r k o : Addr) (row : List Int) (nm : Str), vs = [.ref t, .str nm] ∧ TAt K H t r k o row ∧ row.length ≤ 1000 ∧ nm ∈ names6 ∧ ∀ H', Same H H' → Q (wordV row nm) H'
def spWord (K : PySem.W.Frag) : Sp := fun vs H Q _ => ∃ (t r k o : Addr) (row : List Int) (nm : Str), vs = [.ref t, .str nm] ∧ TAt K H t r k o row ∧ row.length ≤ 1000 ∧ nm ∈ names12 ∧ ∀ H', Same H H' → Q (wordV row nm) H'
end LF


set_option maxRecDepth 100000
set_option maxHeartbeats 4000000
namespace LF
open PySem PySem.Spec PyProof.Rows L2
end LF
open PySem PySem.Spec PyProof.Rows L2 LF
local macro_rules | `(tactic| walk_at "ne") => `(tactic| first
  | assumption
  | (with_reducible refine Ne.symm ?_; assumption)
  | ((with_reducible refine' ne_nn ?ka ?kb); (case ka => with_reducible assumption); (case kb => walk_at "hp"))
  | ((with_reducible refine' ne_nn2 ?ka ?kb); (case ka => with_reducible assumption); (case kb => walk_at "hp")))
local macro_rules | `(tactic| walk_at "hp") => `(tactic| first
  | with_reducible assumption
  | with_reducible exact upd_same
  | ((with_reducible refine' Eq.trans (upd_ne ?kne) ?_); (case kne => walk_at "ne"); walk_at "hp"))
local macro_rules | `(tactic| walk_at "sm") => `(tactic| first | with_reducible exact Same.refl _ | with_reducible assumption | ((with_reducible refine' same_upd ?kn ?_); (case kn => with_reducible assumption); walk_at "sm"))
local macro_rules | `(tactic| walk_at "tst") => `(tactic| first | refine iteBT (by decide +kernel) ?_ | refine iteBF (by decide +kernel) ?_)
local macro_rules | `(tactic| walk_at "tup") => `(tactic| ((with_reducible refine' E_tupA ?_); walk_at "go"; (with_reducible refine' R_tupA ?k1 ?_); (case k1 => exact Nat.le_of_ble_eq_true rfl); intro _ _))
local macro_rules | `(tactic| walk_at "st") => `(tactic| first
  | with_reducible refine S_seq ?_ | with_reducible refine S_asg ?_ | with_reducible refine S_drop ?_ | with_reducible refine S_ret ?_ | with_reducible refine S_if ?_ | with_reducible refine S_next ?_
  | with_reducible refine S_fld ?_ | with_reducible refine S_dput ?_
  | ((with_reducible refine' E_var ?k1 ?_); (case k1 => rfl))
  | with_reducible refine E_c ?_ | with_reducible refine E_op ?_ | with_reducible refine E_un ?_ | with_reducible refine E_test ?_ | with_reducible refine E_tB ?_ | with_reducible refine R_tst ?_
  | with_reducible refine E_and ?_ | with_reducible refine E_or ?_ | with_reducible refine E_not ?_ | with_reducible refine E_andV ?_ | with_reducible refine E_orV ?_ | with_reducible refine E_notV ?_ | with_reducible refine R_bl ?_ | with_reducible refine E_ifx ?_
  | with_reducible refine E_fld ?_ | ((with_reducible refine' R_fld ?k1 ?k2 ?k3 ?k4 ?_); (case k1 => walk_at "hp"); (case k2 => assumption); (case k3 => assumption); (case k4 => walk_at "lk"))
  | ((with_reducible refine' R_set ?k1 ?k2 ?k3 ?k4 ?k5 ?_); (case k1 => walk_at "hp"); (case k2 => assumption); (case k3 => assumption); (case k4 => walk_at "fl"); (case k5 => walk_at "pf"))
  | with_reducible refine E_call ?_ | with_reducible refine E_nil ?_ | with_reducible refine E_cons ?_ | with_reducible refine E_meth ?_
  | ((with_reducible refine' R_meth ?k1 ?k2 ?_); (case k1 => walk_at "hp"); (case k2 => walk_at "lm"))
  | with_reducible refine E_make ?_ | with_reducible refine E_cb ?_ | with_reducible refine E_lst ?_
  | ((with_reducible refine' R_inT ?k1 ?k2 ?k3 ?_); (case k1 => walk_at "sT"); (case k2 => rfl); (case k3 => rfl))
  | with_reducible refine R_I0 ?_ | with_reducible refine R_U ?_
  | ((with_reducible refine' R_I ?k1 ?_); (case k1 => walk_at "ok"))
  | ((with_reducible refine' R_eq ?k1 ?_); (case k1 => rfl)) | ((with_reducible refine' R_ne ?k1 ?_); (case k1 => rfl))
  | with_reducible refine E_bm ?_ | with_reducible refine E_bm0 ?_ | ((with_reducible refine' R_tyL ?k1 ?_); (case k1 => walk_at "sq"))
  | ((with_reducible refine' R_app ?k1 ?k2 ?_); (case k1 => walk_at "hp"); (case k2 => walk_at "sz"))
  | ((with_reducible refine' R_lenL ?k1 ?_); (case k1 => walk_at "sq"))
  | ((with_reducible refine' R_listL ?k1 ?_); (case k1 => walk_at "sq"))
  | with_reducible refine E_tru ?_ | ((with_reducible refine' R_truL ?k1 ?_); (case k1 => walk_at "sq"))
  | with_reducible refine R_max2Q ?_ | with_reducible refine R_part ?_ | with_reducible refine E_sl ?_ | with_reducible refine E_part ?_ | with_reducible refine E_noPart ?_
  | ((with_reducible refine' R_slL ?k1 ?_); (case k1 => walk_at "sq"))
  | with_reducible refine E_dget2 ?_ | ((with_reducible refine' R_isD ?k1 ?_); (case k1 => walk_at "hp")) | ((with_reducible refine' R_getD ?k1 ?_); (case k1 => walk_at "hp"))
  | with_reducible refine E_dget ?_ | with_reducible refine E_dpop1 ?_ | with_reducible refine E_din ?_ | with_reducible refine E_dnin ?_ | ((with_reducible refine' R_in ?k1 ?_); (case k1 => walk_at "hp"))
  | ((with_reducible refine' R_sum ?k1 ?_); (case k1 => walk_at "sq")) | with_reducible refine E_lenSet ?_
  | ((with_reducible refine' R_cnt ?k1 ?_); (case k1 => walk_at "sq")) | with_reducible refine E_chain ?_ | with_reducible refine E_dnew ?_ | with_reducible refine S_for ?_ | with_reducible refine E_il ?_ | ((with_reducible refine' R_il ?k1 ?_); (case k1 => walk_at "sq")) | with_reducible refine E_rng1 ?_ | with_reducible refine E_lc ?_ | with_reducible refine E_ik ?_ | with_reducible refine E_iv ?_ | ((with_reducible refine' R_iv ?k1 ?_); (case k1 => walk_at "sq"))
  | ((with_reducible refine' R_dput ?k1 ?k2 ?_); (case k1 => walk_at "hp"); (case k2 => walk_at "sz"))
  | dsimp only)
local macro_rules | `(tactic| walk_at "go") => `(tactic| repeat (walk_at "st"))
local macro_rules | `(tactic| walk_at "sq") => `(tactic| first | with_reducible assumption | ((with_reducible refine' SqL.of ?k1); (case k1 => walk_at "hp")) | ((with_reducible refine' Same.seq ?k1 ?k2); (case k2 => with_reducible assumption); (case k1 => walk_at "sm")))
local macro_rules | `(tactic| walk_at "sT") => `(tactic| first | with_reducible assumption | ((with_reducible refine' SqT.of ?k1); (case k1 => walk_at "hp")))
local macro_rules | `(tactic| walk_at "ok") => `(tactic| first | exact ⟨by decide, by decide⟩ | (show (0 : Int) < _; omega) | exact Or.inl ⟨by omega, by omega⟩ | exact Or.inr ⟨by omega, by omega⟩)
local macro_rules | `(tactic| walk_at "sz") => `(tactic| first | assumption | (refine Nat.lt_of_lt_of_le (m := 100000) ?_ (by decide); (try simp only [List.length_map, List.length_append, List.length_cons, List.length_nil, List.length_reverse]); omega))
local macro_rules | `(tactic| walk_at "fl") => `(tactic| first | (show 5 < 1000; decide) | (show 0 < 1000; decide) | (show 1 < 1000; decide) | (show 3 < 1000; decide) | (show 2 < 1000; decide) | (show 4 < 1000; decide) | (simp only [List.length_cons, List.length_nil]; omega))
local macro_rules | `(tactic| walk_at "pf") => `(tactic| first | with_reducible exact mfl_set_new .. | with_reducible exact mfl_set_last .. | with_reducible exact zfl_set .. | with_reducible exact tfl_setT .. | with_reducible exact tfl_setP .. | with_reducible exact pf_nil | with_reducible exact pf_eq | ((with_reducible refine' pf_cons ?kn ?ke); (case kn => decide +kernel); (case ke => walk_at "pf")))
local macro_rules | `(tactic| walk_at "lk") => `(tactic| first | with_reducible exact tfl_row .. | with_reducible exact tfl_ranks .. | with_reducible exact tfl_often .. | with_reducible exact tfl_total .. | with_reducible exact tfl_pairs .. | with_reducible exact wfl_size .. | with_reducible exact wfl_tally .. | with_reducible exact zfl_span .. | with_reducible exact zfl_now .. | with_reducible exact zfl_times .. | with_reducible exact zfl_tally .. | with_reducible exact mfl_size .. | with_reducible exact mfl_old .. | with_reducible exact mfl_new .. | with_reducible exact mfl_last .. | with_reducible exact gfl_size .. | with_reducible exact gfl_most .. | with_reducible exact gfl_order .. | with_reducible exact gfl_windows ..)
local macro_rules | `(tactic| walk_at "lm") => `(tactic| first | with_reducible exact tfl_no _ _ _ _ _ (by decide +kernel) | with_reducible exact wfl_no _ _ (by decide +kernel) | with_reducible exact zfl_no _ _ _ _ (by decide +kernel) | with_reducible exact mfl_no _ _ _ _ (by decide +kernel) | with_reducible exact gfl_no _ _ _ _ (by decide +kernel))
local macro_rules | `(tactic| walk_at "in") => `(tactic| (try dsimp only [cxOf, Cx.nox, Cx.wish]); walk_at "go")
local macro_rules | `(tactic| walk_at "go2") => `(tactic| repeat (first | walk_at "st" | walk_at "tst" | walk_at "tup"))
namespace LF
open PySem PySem.Spec PyProof.Rows L2

def spLook : Sp := fun vs H Q _ => ∃ n : Nat, vs = [.int n] ∧ 1 ≤ n ∧ n ≤ 1000 ∧ Q .non H
section
variable {P : Program} {w : World} {K : PySem.W.Frag} {mg : Str → Option Value} {base : Heap} {D : Str × Option Str → FuncData}
theorem ok_look_size (T : Txt K mg D) : FnOk P w K mg base CX0 1 (He.ga K "look_size") (D ("look_size", none)) ["size"] spLook := by
  refine T.look_size.F.ok sc_look_size (fun vs H Q E h => ?_) (fun cdv A outer s H vs Q E hr h => ?_)
  · obtain ⟨n, rfl, _⟩ := h
    rfl
  · obtain ⟨n, rfl, h1, h2, kq⟩ := h
    refine ⟨_, PSs.nox (pss_one (ps_if (pt_not (pt_chain op_le op_le pe_int (pv 0) (pe_globI (by rfl) T.c_MOST))) (pss_one ps_never) pss_nil)), ?_⟩
    walk_at "in"
    refine iteBT (decide_eq_true (by omega)) ?_
    walk_at "go"
    refine iteBF (by rw [decide_eq_true (show (n : Int) ≤ 1000 by omega)]; rfl) ?_
    walk_at "go"
    exact kq
end
end LF


set_option maxRecDepth 100000
set_option maxHeartbeats 4000000
namespace LF
open PySem PySem.Spec PyProof.Rows L2


/-! ### Maps in the heap -/
structure MQ where
  a : Addr
  p1 : Addr
  p2 : Addr
  v : (Int × Int) × (Int × Int)
def MqOk (H : Hp) (q : MQ) : Prop := H q.a = some (.tup [.ref q.p1, .ref q.p2]) ∧ H q.p1 = some (.tup [.int q.v.1.1, .int q.v.1.2]) ∧ H q.p2 = some (.tup [.int q.v.2.1, .int q.v.2.2])
structure MAtQ (K : PySem.W.Frag) (H : Hp) (m oa na la : Addr) (n : Nat) (qs : List MQ) (ns : List (Int × Int)) (l : Int × Int) : Prop where
  ob : ∃ dx, H m = some (.ins (He.ga K "Maps") dx (mfl n oa na la))
  ol : H oa = some (.lst (qs.reverse.map fun q => V.ref q.a))
  mq : ∀ q ∈ qs, MqOk H q
  nw : RowAt H na ns
  la : H la = some (.tup [.int l.1, .int l.2])
  ok : OldOk (qs.map (·.v))
  rp : Rep l ns
  inr : ∀ p ∈ ns, InR p
  ne : oa ≠ na
  n1 : 1 ≤ n
  n2 : n ≤ 1000
  le : qs.length + ns.length ≤ n
def rowM (qs : List MQ) (ns : List (Int × Int)) : List (Int × Int) := qs.map (·.v.1) ++ ns
def MAt (K : PySem.W.Frag) (H : Hp) (m oa na : Addr) (n : Nat) (row : List (Int × Int)) : Prop := ∃ la qs ns l, MAtQ K H m oa na la n qs ns l ∧ row = rowM qs ns
theorem MqOk.keep {H H' : Hp} {q : MQ} (h : MqOk H q) (e : ∀ b xs, H b = some (.tup xs) → H' b = some (.tup xs)) : MqOk H' q := ⟨e _ _ h.1, e _ _ h.2.1, e _ _ h.2.2⟩
theorem MAtQ.same {K : PySem.W.Frag} {H H' : Hp} {m oa na la : Addr} {n : Nat} {qs : List MQ} {ns : List (Int × Int)} {l : Int × Int} (S : MAtQ K H m oa na la n qs ns l)
    (e : ∀ b u, H b = some u → (b = m ∨ b = oa ∨ b = na ∨ ∃ xs, u = .tup xs) → H' b = some u) : MAtQ K H' m oa na la n qs ns l := by
  obtain ⟨⟨dx, h1⟩, h2, h3, h4, h5, h6, h7, h8, h9, h10, h11, h12⟩ := S
  exact ⟨⟨dx, e _ _ h1 (.inl rfl)⟩, e _ _ h2 (.inr (.inl rfl)), fun q hq => (h3 q hq).keep fun b xs hb => e _ _ hb (.inr (.inr (.inr ⟨xs, rfl⟩))), h4.keep fun b u hb hu => e _ _ hb (by
    rcases hu with rfl | ⟨x, y, rfl⟩
    · exact .inr (.inr (.inl rfl))
    · exact .inr (.inr (.inr ⟨_, rfl⟩))), e _ _ h5 (.inr (.inr (.inr ⟨_, rfl⟩))), h6, h7, h8, h9, h10, h11, h12⟩
theorem MAtQ.ex {K : PySem.W.Frag} {H H' : Hp} {m oa na la : Addr} {n : Nat} {qs : List MQ} {ns : List (Int × Int)} {l : Int × Int} (S : MAtQ K H m oa na la n qs ns l) (e : Same H H') : MAtQ K H' m oa na la n qs ns l := S.same fun b u h _ => e b u h
theorem MAt.ex {K : PySem.W.Frag} {H H' : Hp} {m oa na : Addr} {n : Nat} {row : List (Int × Int)} (S : MAt K H m oa na n row) (e : Same H H') : MAt K H' m oa na n row := by
  obtain ⟨la, qs, ns, l, S, r⟩ := S
  exact ⟨la, qs, ns, l, S.ex e, r⟩
theorem MAt.same {K : PySem.W.Frag} {H H' : Hp} {m oa na : Addr} {n : Nat} {row : List (Int × Int)} (S : MAt K H m oa na n row) (e : ∀ b u, H b = some u → (b = m ∨ b = oa ∨ b = na ∨ ∃ xs, u = .tup xs) → H' b = some u) : MAt K H' m oa na n row := by
  obtain ⟨la, qs, ns, l, S, r⟩ := S
  exact ⟨la, qs, ns, l, S.same e, r⟩
theorem MAtQ.apart {K : PySem.W.Frag} {H : Hp} {m oa na la : Addr} {n : Nat} {qs : List MQ} {ns : List (Int × Int)} {l : Int × Int} (S : MAtQ K H m oa na la n qs ns l) : m ≠ oa ∧ m ≠ na ∧ oa ≠ na := by
  obtain ⟨⟨dx, h1⟩, h2, h3, ⟨rs, h4, _⟩, _, _, _, _, h9, _⟩ := S
  exact ⟨ne_of h1 h2 (by intro z; cases z), ne_of h1 h4 (by intro z; cases z), h9⟩
def KeepM (H H' : Hp) (m oa na : Addr) : Prop := ∀ b u, H b = some u → b ≠ m → b ≠ oa → b ≠ na → H' b = some u
def lastM (n : Nat) (l : List (Int × Int)) : List (Int × Int) := l.drop (l.length - n)
def spBehind (K : PySem.W.Frag) : Sp := fun vs H Q _ => ∃ (p q : Addr) (a b : Int × Int), vs = [.ref p, .ref q] ∧ SqT K H p [.int a.1, .int a.2] ∧ SqT K H q [.int b.1, .int b.2] ∧ InR a ∧
  ∀ t, H t = none → Q (.ref t) (upd H t (.tup [.int (comp a b).1, .int (comp a b).2]))
def spMInit (K : PySem.W.Frag) : Sp := fun vs H Q _ => ∃ (m dx : Addr) (n : Nat), vs = [.ref m, .int n] ∧ H m = some (.ins (He.ga K "Maps") dx []) ∧ 1 ≤ n ∧ n ≤ 1000 ∧
  ∀ (oa na : Addr) (H' : Hp), H oa = none → H na = none → MAt K H' m oa na n [] → (∀ b u, H b = some u → b ≠ m → H' b = some u) → Q .non H'
def spMTurn (K : PySem.W.Frag) : Sp := fun vs H Q _ => ∃ (m oa na la : Addr) (n : Nat) (ns : List (Int × Int)) (l : Int × Int), vs = [.ref m] ∧ MAtQ K H m oa na la n [] ns l ∧
  ∀ (na' la' : Addr) (qs : List MQ) (H' : Hp), H na' = none → MAtQ K H' m oa na' la' n qs [] (1, 0) → qs.map (·.v.1) = ns → KeepM H H' m oa na → Q .non H'
def spMPut (K : PySem.W.Frag) : Sp := fun vs H Q _ => ∃ (m oa na : Addr) (n : Nat) (row : List (Int × Int)) (a b : Int), vs = [.ref m, .int a, .int b] ∧ MAt K H m oa na n row ∧
  ∀ (na' : Addr) (H' : Hp), (na' = na ∨ H na' = none) → MAt K H' m oa na' n (lastM n (row ++ [(a % 1000003, b % 1000003)])) → KeepM H H' m oa na → Q .non H'
def spMWhole (K : PySem.W.Frag) : Sp := fun vs H Q _ => ∃ (m oa na : Addr) (n : Nat) (row : List (Int × Int)), vs = [.ref m] ∧ MAt K H m oa na n row ∧
  ∀ (p : Addr) (c : Int × Int) (H' : Hp), Rep c row → Same H H' → H' p = some (.tup [.int c.1, .int c.2]) → Q (.ref p) H'
def spMAt (K : PySem.W.Frag) : Sp := fun vs H Q _ => ∃ (m oa na : Addr) (n : Nat) (row : List (Int × Int)) (x : Int), vs = [.ref m, .int x] ∧ MAt K H m oa na n row ∧
  ∀ H', Same H H' → Q (.int (made row x)) H'
def spMMaps (K : PySem.W.Frag) : Sp := fun vs H Q _ => ∃ (m oa na : Addr) (n : Nat) (row : List (Int × Int)), vs = [.ref m] ∧ MAt K H m oa na n row ∧
  ∀ (l : Addr) (H' : Hp), H l = none → Same H H' → RowAt H' l row → Q (.ref l) H'
theorem at_last (xs : List V) (y : V) : atI (xs ++ [y]) (-1) = some y := by
  have e : ixN (xs ++ [y]).length (-1) = some xs.length := by
    unfold ixN
    rw [List.length_append, List.length_singleton, if_neg (by omega), if_pos (by omega)]
    congr 1
    omega
  unfold atI
  rw [e]
  show (xs ++ [y])[xs.length]? = _
  rw [List.getElem?_append_right (Nat.le_refl _), Nat.sub_self]
  rfl
section
variable {P : Program} {w : World} {K : PySem.W.Frag} {mg : Str → Option Value} {base : Heap} {D : Str × Option Str → FuncData}
theorem ok_behind (T : Txt K mg D) : FnOk P w K mg base CX0 1 (He.ga K "behind") (D ("behind", none)) ["one", "other"] (spBehind K) := by
  refine T.behind.F.ok sc_behind (fun vs H Q E h => ?_) (fun cdv A outer s H vs Q E hr h => ?_)
  · obtain ⟨p, q, a, b, rfl, _⟩ := h
    rfl
  · obtain ⟨p, q, a, b, rfl, h1, h2, ⟨i1, i2, i3, i4⟩, kq⟩ := h
    refine ⟨_, PSs.nox (pss_one (ps_ret (pe_tup (pa_cons (pe_op op_mod (pe_op op_mul (pe_ix (ix_tupK (K := K) rfl) (pv 0) pe_int (fun _ _ => rfl)) (pe_ix (ix_tupK (K := K) rfl) (pv 1) pe_int (fun _ _ => rfl))) (pe_globI (by rfl) T.c_ROUND)) (pa_cons (pe_op op_mod (pe_op op_add (pe_op op_mul (pe_ix (ix_tupK (K := K) rfl) (pv 0) pe_int (fun _ _ => rfl)) (pe_ix (ix_tupK (K := K) rfl) (pv 1) pe_int (fun _ _ => rfl))) (pe_ix (ix_tupK (K := K) rfl) (pv 1) pe_int (fun _ _ => rfl))) (pe_globI (by rfl) T.c_ROUND)) pa_nil))))), ?_⟩
    walk_at "in"
    refine E_tupA ?_
    walk_at "go"
    refine R_ixT h1 (v := .int a.1) rfl ?_
    walk_at "go"
    refine R_ixT h2 (v := .int b.1) rfl ?_
    walk_at "go"
    refine R_ixT h1 (v := .int a.2) rfl ?_
    walk_at "go"
    refine R_ixT h2 (v := .int b.1) rfl ?_
    walk_at "go"
    refine R_ixT h2 (v := .int b.2) rfl ?_
    walk_at "go"
    exact R_tupA (Nat.le_of_ble_eq_true rfl) fun t nt => kq t nt
theorem ok_Maps_init (T : Txt K mg D) : FnOk P w K mg base CX0 2 (He.ma K (He.ga K "Maps") "__init__") (D ("Maps", some "__init__")) ["self", "size"] (spMInit K) := by
  refine T.Maps_init.F.ok sc_Maps_init (fun vs H Q E h => ?_) (fun cdv A outer s H vs Q E hr h => ?_)
  · obtain ⟨m, dx, n, rfl, _⟩ := h
    rfl
  · obtain ⟨m, dx, n, rfl, h1, n1, n2, kq⟩ := h
    have fcMaps := T.cMaps.cl; have fnMapssize := T.n_Maps_size; have fnMapsold := T.n_Maps_old; have fnMapsnew := T.n_Maps_new; have fnMapslast := T.n_Maps_last
    refine ⟨_, PSs.nox (pss_cons (ps_expr (pe_call (ok_look_size T) (by exact hr.mono (by decide)) (by rfl) T.look_size.g T.look_size.F.kp T.look_size.b .nil pass0 (pa_cons (pv 1) pa_nil)))
      (pss_cons (ps_fldK (K := K) rfl (pv 0) (pv 1) rfl)
      (pss_cons (ps_fldK (K := K) rfl (pv 0) (pe_lst pa_nil) rfl)
      (pss_cons (ps_fldK (K := K) rfl (pv 0) (pe_lst pa_nil) rfl)
      (pss_one (ps_fldK (K := K) rfl (pv 0) (pe_tup (pa_cons pe_int (pa_cons pe_int pa_nil))) rfl)))))), ?_⟩
    walk_at "in"
    refine ⟨n, rfl, n1, n2, ?_⟩
    walk_at "go"
    refine ⟨Nat.zero_le _, fun oa noa => ?_⟩
    have a0 : m ≠ oa := ne_of_none (by walk_at "hp") noa
    walk_at "go"
    refine ⟨Nat.zero_le _, fun na nna => ?_⟩
    have a1 : m ≠ na := ne_of_none (by walk_at "hp") nna
    have a2 : oa ≠ na := ne_of_none (by walk_at "hp") nna
    walk_at "go"
    refine E_tupA ?_
    walk_at "go"
    refine R_tupA (Nat.le_of_ble_eq_true rfl) fun la nla => ?_
    have a3 : m ≠ la := ne_of_none (by walk_at "hp") nla
    have a4 : oa ≠ la := ne_of_none (by walk_at "hp") nla
    have a5 : na ≠ la := ne_of_none (by walk_at "hp") nla
    walk_at "go"
    have f1 : H oa = none := by rw [upd_ne a0.symm] at noa; exact noa
    have f2 : H na = none := by rw [upd_ne a1.symm, upd_ne a2.symm, upd_ne a1.symm] at nna; exact nna
    have f3 : H la = none := by rw [upd_ne a3.symm, upd_ne a5.symm, upd_ne a3.symm, upd_ne a4.symm, upd_ne a3.symm] at nla; exact nla
    refine kq oa na _ f1 f2 ⟨la, [], [], (1, 0), ⟨⟨dx, upd_same⟩, (show _ = some (HO.lst []) by walk_at "hp"), (fun q hq => by cases hq), ⟨[], (show _ = some (HO.lst []) by walk_at "hp"), (fun q hq => by cases hq), rfl⟩, (show _ = some (HO.tup [V.int 1, V.int 0]) by walk_at "hp"), True.intro, Rep.nil, (fun q hq => by cases hq), a2, n1, n2, Nat.zero_le _⟩, rfl⟩ fun b u e hb => ?_
    have b1 : b ≠ oa := ne_of_none e f1
    have b2 : b ≠ na := ne_of_none e f2
    have b3 : b ≠ la := ne_of_none e f3
    walk_at "hp"
theorem ok_Maps_turn (T : Txt K mg D) : FnOk P w K mg base CX0 2 (He.ma K (He.ga K "Maps") "turn") (D ("Maps", some "turn")) ["self"] (spMTurn K) := by
  refine T.Maps_turn.F.ok sc_Maps_turn (fun vs H Q E h => ?_) (fun cdv A outer s H vs Q E hr h => ?_)
  · obtain ⟨m, oa, na, la, n, ns, l, rfl, _⟩ := h
    rfl
  · obtain ⟨m, oa, na, la, n, ns, l, rfl, S, kq⟩ := h
    have fcMaps := T.cMaps.cl; have fnMapssize := T.n_Maps_size; have fnMapsold := T.n_Maps_old; have fnMapsnew := T.n_Maps_new; have fnMapslast := T.n_Maps_last
    obtain ⟨⟨dx, h1⟩, h2, _, ⟨rs, r1, r2, r3⟩, h5, _, rp, hin, hne, n1, n2, hle⟩ := id S
    obtain ⟨a0, a1, a2⟩ := S.apart
    have h2 : H oa = some (HO.lst []) := h2
    have hrl : rs.length = ns.length := by rw [← r3, List.length_map]
    rw [List.length_nil] at hle
    refine ⟨_, PSs.nox (pss_cons (ps_set (i := 1) sc_Maps_turn.nd rfl (Or.inl rfl) (pe_tup (pa_cons pe_int (pa_cons pe_int pa_nil))))
      (pss_cons (ps_for PassesOwn.never rfl (pi_reversedK (K := K) rfl (by rfl) T.z_reversed (pa_cons (pe_fldK (K := K) rfl (pv 0) rfl) pa_nil)) (pg_name (i := 2) sc_Maps_turn.nd rfl (Or.inl rfl))
      (pss_cons (ps_set (i := 1) sc_Maps_turn.nd rfl (Or.inl rfl) (pe_call (ok_behind T) (by exact hr.mono (by decide)) (by rfl) T.behind.g T.behind.F.kp T.behind.b .nil pass0 (pa_cons (pv 2) (pa_cons (pv 1) pa_nil))))
      (pss_one (ps_expr (pe_bmK (K := K) rfl PySem.F.plainAttrs_list PySem.F.slot_list_append PySem.F.type_list_append mt_append (pe_fldK (K := K) rfl (pv 0) rfl) (pa_cons (pe_tup (pa_cons (pv 2) (pa_cons (pv 1) pa_nil))) pa_nil))))))
      (pss_cons (ps_fldK (K := K) rfl (pv 0) (pe_lst pa_nil) rfl)
      (pss_one (ps_fldK (K := K) rfl (pv 0) (pe_tup (pa_cons pe_int (pa_cons pe_int pa_nil))) rfl))))), ?_⟩
    walk_at "in"
    refine E_tupA ?_
    walk_at "go"
    refine R_tupA (Nat.le_of_ble_eq_true rfl) fun f0 nf0 => ?_
    walk_at "go"
    refine R_forV (fun i σ' H' => ∃ (f : Addr) (v2 : Option V) (qs : List MQ), σ' = [some (.ref m), some (.ref f), v2] ∧ qs.map (·.v.1) = ns.drop (ns.length - i) ∧ H' oa = some (.lst (qs.reverse.map fun q => V.ref q.a)) ∧ (∀ q ∈ qs, MqOk H' q) ∧ OldOk (qs.map (·.v)) ∧
        H' f = some (.tup [.int (topF (qs.map (·.v))).1, .int (topF (qs.map (·.v))).2]) ∧ (∀ b u, H b = some u → b ≠ oa → H' b = some u) ∧ qs.length = i)
      ⟨f0, none, [], rfl, by rw [Nat.sub_zero, List.drop_length]; rfl, by walk_at "hp", (fun q hq => by cases hq), True.intro, upd_same, (fun b u e hb => by have : b ≠ f0 := ne_of_none e nf0; walk_at "hp"), rfl⟩
      (fun i σ' H' _ ⟨f, v2, qs, _, _, _, _, _, _, kp, _⟩ => SqL.of (kp na _ r1 hne.symm)) ?_ ?_
    · rintro i x σ' H' hi hx ⟨f, v2, qs, rfl, g1, g2, g3, g4, g5, kp, gl⟩
      rw [List.length_map] at hi hx
      obtain ⟨rr, hrr, rfl⟩ : ∃ rr, rs[rs.length - 1 - i]? = some rr ∧ x = V.ref rr.1 := by
        rw [List.getElem?_map] at hx
        cases e : rs[rs.length - 1 - i]? with
        | none => rw [e] at hx; cases hx
        | some z => rw [e] at hx; exact ⟨z, rfl, (Option.some.inj hx).symm⟩
      have hrm : rr ∈ rs := List.mem_of_getElem? hrr
      have tr := kp rr.1 _ (r2 rr hrm) (ne_of (r2 rr hrm) h2 (by intro z; cases z))
      have hin2 : InR rr.2 := hin _ (by rw [← r3]; exact List.mem_map.mpr ⟨rr, hrm, rfl⟩)
      have hm' := kp m _ h1 a0
      have hql : qs.length ≤ 1000 := by omega
      walk_at "go"
      refine ⟨rr.1, f, rr.2, topF (qs.map (·.v)), rfl, SqT.of tr, SqT.of g5, hin2, fun t nt => ?_⟩
      have c0 : m ≠ t := ne_of_none hm' nt
      have c1 : oa ≠ t := ne_of_none g2 nt
      have c2 : rr.1 ≠ t := ne_of_none tr nt
      walk_at "go"
      refine E_tupA ?_
      walk_at "go"
      refine R_tupA (Nat.le_of_ble_eq_true rfl) fun T2 nT2 => ?_
      have d1 : oa ≠ T2 := ne_of_none (by walk_at "hp") nT2
      have d2 : t ≠ T2 := ne_of_none upd_same nT2
      have d3 : rr.1 ≠ T2 := ne_of_none (by walk_at "hp") nT2
      have d4 : oa ≠ rr.1 := ne_of g2 tr (by intro z; cases z)
      have d5 : oa ≠ t := c1
      walk_at "go"
      have hnt : H' T2 = none := by rw [upd_ne d2.symm] at nT2; exact nT2
      have kt : ∀ b xs, H' b = some (.tup xs) → upd (upd (upd H' t (.tup [.int (comp rr.2 (topF (qs.map (·.v)))).1, .int (comp rr.2 (topF (qs.map (·.v)))).2])) T2 (.tup [.ref rr.1, .ref t])) oa (.lst (qs.reverse.map (fun q => V.ref q.a) ++ [.ref T2])) b = some (.tup xs) := fun b xs hb => by
        have e1 : b ≠ oa := ne_of hb g2 (by intro z; cases z)
        have e2 : b ≠ T2 := ne_of_none hb hnt
        have e3 : b ≠ t := ne_of_none hb nt
        walk_at "hp"
      refine ⟨t, _, ⟨T2, rr.1, t, (rr.2, comp rr.2 (topF (qs.map (·.v))))⟩ :: qs, rfl, ?_, ?_, fun q hq => ?_, ⟨hin2, rfl, g4⟩, ?_, fun b u e hb => ?_, by rw [List.length_cons, gl]⟩
      · have e1 : ns.length - (i + 1) < ns.length := by omega
        have e2 : ns[ns.length - (i + 1)] = rr.2 := by
          have q : (rs.map (·.2))[rs.length - 1 - i]? = some rr.2 := by rw [List.getElem?_map, hrr]; rfl
          rw [r3] at q
          have e3 : rs.length - 1 - i = ns.length - (i + 1) := by omega
          rw [e3, List.getElem?_eq_getElem e1] at q
          exact Option.some.inj q
        rw [drop_one e1, e2, List.map_cons, g1]
        have e4 : ns.length - (i + 1) + 1 = ns.length - i := by omega
        rw [e4]
      · rw [List.reverse_cons, List.map_append]
        exact upd_same
      · rcases List.mem_cons.mp hq with rfl | hq
        · refine ⟨?_, kt _ _ tr, ?_⟩
          · show upd (upd _ T2 _) oa _ T2 = _
            walk_at "hp"
          · show upd (upd (upd _ t _) T2 _) oa _ t = _
            walk_at "hp"
        · exact (g3 q hq).keep kt
      · show upd (upd (upd _ t _) T2 _) oa _ t = _
        exact (upd_ne c1.symm).trans ((upd_ne d2).trans upd_same)
      · have hb' := kp b u e hb
        have e2 : b ≠ T2 := ne_of_none hb' hnt
        have e3 : b ≠ t := ne_of_none hb' nt
        walk_at "hp"
    · rintro σ' H' ⟨f, v2, qs, rfl, g1, g2, g3, g4, g5, kp, gl⟩
      rw [List.length_map] at g1 gl
      rw [hrl, Nat.sub_self, List.drop_zero] at g1
      have hm' := kp m _ h1 a0
      walk_at "go"
      refine ⟨Nat.zero_le _, fun na' nna => ?_⟩
      have c0 : m ≠ na' := ne_of_none hm' nna
      have c1 : oa ≠ na' := ne_of_none g2 nna
      walk_at "go"
      refine E_tupA ?_
      walk_at "go"
      refine R_tupA (Nat.le_of_ble_eq_true rfl) fun la' nla => ?_
      have c2 : m ≠ la' := ne_of_none (by walk_at "hp") nla
      have c3 : oa ≠ la' := ne_of_none (o := HO.lst (qs.reverse.map fun q => V.ref q.a)) (by walk_at "hp") nla
      have c4 : na' ≠ la' := ne_of_none (by walk_at "hp") nla
      have hla : H' la' = none := by rw [upd_ne c2.symm, upd_ne c4.symm] at nla; exact nla
      walk_at "go"
      have fna : H na' = none := by
        cases e : H na' with
        | none => rfl
        | some u =>
          have := kp na' u e c1.symm
          rw [nna] at this
          cases this
      have kt : ∀ b xs, H' b = some (.tup xs) → upd (upd (upd (upd H' na' (.lst [])) m (.ins (He.ga K "Maps") dx (mfl n oa na' la))) la' (.tup [.int 1, .int 0])) m (.ins (He.ga K "Maps") dx (mfl n oa na' la')) b = some (.tup xs) := fun b xs hb => by
        have e1 : b ≠ m := ne_of hb hm' (by intro z; cases z)
        have e2 : b ≠ la' := ne_of_none hb hla
        have e3 : b ≠ na' := ne_of_none hb nna
        walk_at "hp"
      refine kq na' la' qs _ fna ⟨⟨dx, upd_same⟩, by walk_at "hp", fun q hq => (g3 q hq).keep kt, ⟨[], (show _ = some (HO.lst []) by walk_at "hp"), (fun q hq => by cases hq), rfl⟩, (show _ = some (HO.tup [V.int 1, V.int 0]) by walk_at "hp"), g4, Rep.nil, (fun q hq => by cases hq), c1, n1, n2, by rw [List.length_nil]; omega⟩ g1 fun b u e b1 b2 b3 => ?_
      have hb' := kp b u e b2
      have e2 : b ≠ la' := ne_of_none hb' hla
      have e3 : b ≠ na' := ne_of_none hb' nna
      walk_at "hp"
theorem ok_Maps_put (T : Txt K mg D) : FnOk P w K mg base CX0 3 (He.ma K (He.ga K "Maps") "put") (D ("Maps", some "put")) ["self", "times", "more"] (spMPut K) := by
  refine T.Maps_put.F.ok sc_Maps_put (fun vs H Q E h => ?_) (fun cdv A outer s H vs Q E hr h => ?_)
  · obtain ⟨m, oa, na, n, row, a, b_, rfl, _⟩ := h
    rfl
  · obtain ⟨m, oa, na, n, row, a, b_, rfl, ⟨la, qs, ns, l, S, rfl⟩, kq⟩ := h
    have fcMaps := T.cMaps.cl; have fnMapssize := T.n_Maps_size; have fnMapsold := T.n_Maps_old; have fnMapsnew := T.n_Maps_new; have fnMapslast := T.n_Maps_last
    obtain ⟨⟨dx, h1⟩, h2, _, ⟨rs, r1, r2, r3⟩, _, _, _, _, hne, n1, n2, hle⟩ := id S
    obtain ⟨a0, a1, a2⟩ := S.apart
    have hrl : rs.length = ns.length := by rw [← r3, List.length_map]
    have hrw : (rowM qs ns).length = qs.length + ns.length := by unfold rowM; rw [List.length_append, List.length_map]
    refine ⟨_, PSs.nox (pss_cutQ (ps_if (pt_cmpR op_eq (pe_op op_add (pe_callB (call_lenK (K := K) rfl) (by rfl) T.z_len PySem.boot_len (pa_cons (pe_fldK (K := K) rfl (pv 0) rfl) pa_nil)) (pe_callB (call_lenK (K := K) rfl) (by rfl) T.z_len PySem.boot_len (pa_cons (pe_fldK (K := K) rfl (pv 0) rfl) pa_nil))) (pe_fldK (K := K) rfl (pv 0) rfl) (nomark _)) (pss_cutQ (ps_if (pt_not (pt_truK (K := K) rfl (pe_fldK (K := K) rfl (pv 0) rfl) (by intro _; rfl))) (pss_one (ps_expr (pe_meth0 (pv 0) T.cMaps.cl T.Maps_turn.me (ok_Maps_turn T) (by exact hr.mono (by decide)) T.Maps_turn.b .nil pass0))) pss_nil)
      (pss_one (ps_expr (pe_bm0K (K := K) rfl PySem.F.plainAttrs_list PySem.F.slot_list_pop PySem.F.type_list_pop mt_pop (pe_fldK (K := K) rfl (pv 0) rfl))))) pss_nil)
      (pss_cons (ps_set (i := 3) sc_Maps_put.nd rfl (Or.inl rfl) (pe_tup (pa_cons (pe_op op_mod (pv 1) (pe_globI (by rfl) T.c_ROUND)) (pa_cons (pe_op op_mod (pv 2) (pe_globI (by rfl) T.c_ROUND)) pa_nil))))
      (pss_cons (ps_expr (pe_bmK (K := K) rfl PySem.F.plainAttrs_list PySem.F.slot_list_append PySem.F.type_list_append mt_append (pe_fldK (K := K) rfl (pv 0) rfl) (pa_cons (pv 3) pa_nil)))
      (pss_one (ps_fldK (K := K) rfl (pv 0) (pe_call (ok_behind T) (by exact hr.mono (by decide)) (by rfl) T.behind.g T.behind.F.kp T.behind.b .nil pass0 (pa_cons (pe_fldK (K := K) rfl (pv 0) rfl) (pa_cons (pv 3) pa_nil))) rfl))))), ?_⟩
    walk_at "in"
    refine S_cut (fun σ' H' => σ' = [some (.ref m), some (.int a), some (.int b_), none] ∧ ∃ (la' na' : Addr) (qs' : List MQ) (ns' : List (Int × Int)) (l' : Int × Int), MAtQ K H' m oa na' la' n qs' ns' l' ∧ rowM qs' ns' = lastM (n - 1) (rowM qs ns) ∧ qs'.length + ns'.length < n ∧ (na' = na ∨ H na' = none) ∧ KeepM H H' m oa na) ?_ ?_
    · walk_at "go"
      rw [List.length_map, List.length_map, List.length_reverse]
      by_cases hf : qs.length + rs.length = n
      · refine iteBT (decide_eq_true (by rw [← hf]; rfl)) ?_
        walk_at "go"
        refine S_cut (fun σ' H' => σ' = [some (.ref m), some (.int a), some (.int b_), none] ∧ ∃ (la' na' : Addr) (q : MQ) (qs' : List MQ) (ns' : List (Int × Int)) (l' : Int × Int), MAtQ K H' m oa na' la' n (q :: qs') ns' l' ∧ rowM (q :: qs') ns' = rowM qs ns ∧ (na' = na ∨ H na' = none) ∧ KeepM H H' m oa na) ?_ ?_
        · walk_at "go"
          cases qs with
          | nil =>
            refine iteBT rfl ?_
            walk_at "go"
            refine ⟨m, oa, na, la, n, ns, l, rfl, S, fun na' la' qs' H' nna S' hq kp => ?_⟩
            walk_at "go"
            cases qs' with
            | nil =>
              exfalso
              have e := congrArg List.length hq
              rw [List.map_nil, List.length_nil] at e
              rw [List.length_nil] at hf
              omega
            | cons q qs' =>
              refine ⟨rfl, la', na', q, qs', [], (1, 0), S', ?_, .inr nna, kp⟩
              unfold rowM
              rw [hq, List.append_nil]
              rfl
          | cons q r =>
            refine iteBF (by rw [List.map_reverse, List.isEmpty_reverse]; rfl) ?_
            walk_at "go"
            exact ⟨rfl, la, na, q, r, ns, l, S, rfl, .inl rfl, fun b u e _ _ _ => e⟩
        · rintro σ' H' ⟨rfl, la', na', q, r, ns', l', S', erow, hnn, kp⟩
          obtain ⟨⟨dx', g1⟩, g2, g3, g4, g5, g6, g7, g8, gne, _, _, gle⟩ := id S'
          obtain ⟨b0, b1, b2⟩ := S'.apart
          obtain ⟨rs', t1, t2, t3⟩ := id g4
          have hql : (rowM (q :: r) ns').length = r.length + 1 + ns'.length := by unfold rowM; rw [List.length_append, List.length_map, List.length_cons]
          rw [erow, hrw] at hql
          walk_at "go"
          refine R_pop (y := .ref q.a) g2 (by rw [List.length_map, List.length_reverse, List.getElem?_map, List.length_cons, List.reverse_cons, List.getElem?_append_right (by rw [List.length_reverse]; omega), List.length_reverse, show r.length + 1 - 1 - r.length = 0 by omega]; rfl) ?_
          walk_at "go"
          have ed : ((q :: r).reverse.map fun q => V.ref q.a).dropLast = r.reverse.map fun q => V.ref q.a := by rw [List.reverse_cons, List.map_append, List.map_singleton, List.dropLast_concat]
          rw [ed]
          have kt : ∀ b u, H' b = some u → b ≠ oa → upd H' oa (.lst (r.reverse.map fun q => V.ref q.a)) b = some u := fun b u e hb => by walk_at "hp"
          have kT : ∀ b xs, H' b = some (.tup xs) → upd H' oa (.lst (r.reverse.map fun q => V.ref q.a)) b = some (.tup xs) := fun b xs e => kt b _ e (ne_of e g2 (by intro z; cases z))
          rw [List.length_cons] at gle
          refine ⟨rfl, la', na', r, ns', l', ⟨⟨dx', kt _ _ g1 b0⟩, upd_same, fun q' hq => (g3 q' (List.mem_cons_of_mem _ hq)).keep kT, ⟨rs', kt _ _ t1 gne.symm, fun q' hq => kT _ _ (t2 q' hq), t3⟩, kT _ _ g5, g6.2.2, g7, g8, gne, n1, n2, by omega⟩, ?_, by omega, hnn, fun b u e c1 c2 c3 => kt b u (kp b u e c1 c2 c3) c2⟩
          unfold lastM
          rw [hrw, ← erow, show qs.length + ns.length - (n - 1) = 1 by omega]
          rfl
      · refine iteBF (decide_eq_false (fun e => hf (by have := V.int.inj e; omega))) ?_
        walk_at "go"
        refine ⟨rfl, la, na, qs, ns, l, S, ?_, by omega, .inl rfl, fun b u e _ _ _ => e⟩
        unfold lastM
        rw [hrw, show qs.length + ns.length - (n - 1) = 0 by omega, List.drop_zero]
    · rintro σ' H' ⟨rfl, la', na', qs', ns', l', S', erow, hlt, hnn, kp⟩
      obtain ⟨⟨dx', g1⟩, g2, g3, g4, g5, g6, g7, g8, gne, _, _, gle⟩ := id S'
      obtain ⟨b0, b1, b2⟩ := S'.apart
      obtain ⟨rs', t1, t2, t3⟩ := id g4
      have hrl' : rs'.length = ns'.length := by rw [← t3, List.length_map]
      have hin : InR (a % 1000003, b_ % 1000003) := ⟨Int.emod_nonneg _ (by decide), Int.emod_lt_of_pos _ (by decide), Int.emod_nonneg _ (by decide), Int.emod_lt_of_pos _ (by decide)⟩
      walk_at "go"
      refine E_tupA ?_
      walk_at "go"
      refine R_tupA (Nat.le_of_ble_eq_true rfl) fun o no => ?_
      have c0 : m ≠ o := ne_of_none g1 no
      have c1 : oa ≠ o := ne_of_none g2 no
      have c2 : na' ≠ o := ne_of_none t1 no
      have c3 : la' ≠ o := ne_of_none g5 no
      have c4 : na' ≠ la' := ne_of t1 g5 (by intro z; cases z)
      walk_at "go"
      refine ⟨la', o, l', (a % 1000003, b_ % 1000003), rfl, SqT.of (by walk_at "hp"), SqT.of (by walk_at "hp"), g7.r, fun t nt => ?_⟩
      have d0 : m ≠ t := ne_of_none (by walk_at "hp") nt
      have d1 : na' ≠ t := ne_of_none upd_same nt
      have d2 : o ≠ t := ne_of_none (o := HO.tup [V.int (a % 1000003), V.int (b_ % 1000003)]) (by walk_at "hp") nt
      have d3 : oa ≠ t := ne_of_none (by walk_at "hp") nt
      have hnt : H' t = none := by rw [upd_ne d1.symm, upd_ne d2.symm] at nt; exact nt
      walk_at "go"
      have kt : ∀ b u, H' b = some u → b ≠ m → b ≠ na' → upd (upd (upd (upd H' o (.tup [.int (a % 1000003), .int (b_ % 1000003)])) na' (.lst (rs'.map (fun q => V.ref q.1) ++ [.ref o]))) t (.tup [.int (comp l' (a % 1000003, b_ % 1000003)).1, .int (comp l' (a % 1000003, b_ % 1000003)).2])) m (.ins (He.ga K "Maps") dx' (mfl n oa na' t)) b = some u := fun b u e e1 e2 => by
        have e3 : b ≠ o := ne_of_none e no
        have e4 : b ≠ t := ne_of_none e hnt
        walk_at "hp"
      have kT : ∀ b xs, H' b = some (.tup xs) → _ := fun b xs e => kt b (.tup xs) e (ne_of e g1 (by intro z; cases z)) (ne_of e t1 (by intro z; cases z))
      have elast : lastM n (rowM qs ns ++ [(a % 1000003, b_ % 1000003)]) = rowM qs' (ns' ++ [(a % 1000003, b_ % 1000003)]) := by
        have e1 : rowM qs' (ns' ++ [(a % 1000003, b_ % 1000003)]) = rowM qs' ns' ++ [(a % 1000003, b_ % 1000003)] := (List.append_assoc _ _ _).symm
        rw [e1, erow]
        unfold lastM
        rw [List.length_append, List.length_singleton, List.drop_append_of_le_length (by omega), show (rowM qs ns).length + 1 - n = (rowM qs ns).length - (n - 1) by omega]
      refine kq na' _ hnn ?_ fun b u e e1 e2 e3 => ?_
      · rw [elast]
        refine ⟨t, qs', ns' ++ [(a % 1000003, b_ % 1000003)], comp l' (a % 1000003, b_ % 1000003), ⟨⟨dx', upd_same⟩, kt _ _ g2 b0.symm gne, fun q hq => (g3 q hq).keep kT, ⟨rs' ++ [(o, (a % 1000003, b_ % 1000003))], ?_, ?_, ?_⟩, ?_, g6, g7.comp (Rep.one hin), ?_, gne, n1, n2, ?_⟩, rfl⟩
        · rw [List.map_append]
          exact (upd_ne b1.symm).trans ((upd_ne d1).trans upd_same)
        · intro q hq
          rcases List.mem_append.mp hq with hq | hq
          · exact kT _ _ (t2 q hq)
          · rw [List.mem_singleton.mp hq]
            exact (upd_ne c0.symm).trans ((upd_ne d2).trans ((upd_ne c2.symm).trans upd_same))
        · rw [List.map_append, t3]
          rfl
        · exact (upd_ne d0.symm).trans upd_same
        · intro p hp
          rcases List.mem_append.mp hp with hp | hp
          · exact g8 p hp
          · rw [List.mem_singleton.mp hp]
            exact hin
        · rw [List.length_append, List.length_singleton]
          omega
      · have hb' := kp b u e e1 e2 e3
        refine kt b u hb' e1 ?_
        rcases hnn with rfl | hn
        · exact e3
        · exact ne_of_none e hn
theorem ok_Maps_whole (T : Txt K mg D) : FnOk P w K mg base CX0 2 (He.ma K (He.ga K "Maps") "whole") (D ("Maps", some "whole")) ["self"] (spMWhole K) := by
  refine T.Maps_whole.F.ok sc_Maps_whole (fun vs H Q E h => ?_) (fun cdv A outer s H vs Q E hr h => ?_)
  · obtain ⟨m, oa, na, n, row, rfl, _⟩ := h
    rfl
  · obtain ⟨m, oa, na, n, row, rfl, ⟨la, qs, ns, l, S, rfl⟩, kq⟩ := h
    have fcMaps := T.cMaps.cl; have fnMapssize := T.n_Maps_size; have fnMapsold := T.n_Maps_old; have fnMapsnew := T.n_Maps_new; have fnMapslast := T.n_Maps_last
    obtain ⟨⟨dx, h1⟩, h2, h3, _, h5, h6, h7, _⟩ := id S
    refine ⟨_, PSs.nox (pss_cons (ps_if (pt_not (pt_truK (K := K) rfl (pe_fldK (K := K) rfl (pv 0) rfl) (by intro _; rfl))) (pss_one (ps_ret (pe_fldK (K := K) rfl (pv 0) rfl))) pss_nil)
      (pss_one (ps_ret (pe_call (ok_behind T) (by exact hr.mono (by decide)) (by rfl) T.behind.g T.behind.F.kp T.behind.b .nil pass0 (pa_cons (pe_ix (ix_tupK (K := K) rfl) (pe_ix (ix_listK (K := K) rfl) (pe_fldK (K := K) rfl (pv 0) rfl) (pe_un un_neg pe_int) (fun _ _ => rfl)) pe_int (fun _ _ => rfl)) (pa_cons (pe_fldK (K := K) rfl (pv 0) rfl) pa_nil)))))), ?_⟩
    walk_at "in"
    cases qs with
    | nil =>
      refine iteBT rfl ?_
      walk_at "go"
      exact kq la l H h7 (Same.refl H) h5
    | cons q r =>
      refine iteBF (by rw [List.map_reverse, List.isEmpty_reverse]; rfl) ?_
      walk_at "go"
      refine R_ixL (v := .ref q.a) (SqL.of h2) (by rw [List.reverse_cons, List.map_append]; exact at_last _ _) ?_
      obtain ⟨m1, m2, m3⟩ := h3 q List.mem_cons_self
      walk_at "go"
      refine R_ixT (v := .ref q.p2) (SqT.of m1) rfl ?_
      walk_at "go"
      have er : Rep q.v.2 ((q :: r).map (·.v.1)) := by
        have e := h6.rep
        rw [List.map_map] at e
        exact e
      refine ⟨q.p2, la, q.v.2, l, rfl, SqT.of m3, SqT.of h5, er.r, fun t nt => ?_⟩
      walk_at "go"
      exact kq t _ _ (er.comp h7) (same_upd nt (Same.refl H)) upd_same
theorem ok_Maps_at (T : Txt K mg D) : FnOk P w K mg base CX0 3 (He.ma K (He.ga K "Maps") "at") (D ("Maps", some "at")) ["self", "number"] (spMAt K) := by
  refine T.Maps_at.F.ok sc_Maps_at (fun vs H Q E h => ?_) (fun cdv A outer s H vs Q E hr h => ?_)
  · obtain ⟨m, oa, na, n, row, x, rfl, _⟩ := h
    rfl
  · obtain ⟨m, oa, na, n, row, x, rfl, S, kq⟩ := h
    have fcMaps := T.cMaps.cl; have fnMapssize := T.n_Maps_size; have fnMapsold := T.n_Maps_old; have fnMapsnew := T.n_Maps_new; have fnMapslast := T.n_Maps_last
    obtain ⟨la, qs, ns, l, ⟨⟨dx, h1⟩, _⟩, _⟩ := id S
    refine ⟨_, PSs.nox (pss_cons (ps_set (i := 2) sc_Maps_at.nd rfl (Or.inl rfl) (pe_meth0 (pv 0) T.cMaps.cl T.Maps_whole.me (ok_Maps_whole T) (by exact hr.mono (by decide)) T.Maps_whole.b .nil pass0))
      (pss_one (ps_ret (pe_op op_mod (pe_op op_add (pe_op op_mul (pe_ix (ix_tupK (K := K) rfl) (pv 2) pe_int (fun _ _ => rfl)) (pv 1)) (pe_ix (ix_tupK (K := K) rfl) (pv 2) pe_int (fun _ _ => rfl))) (pe_globI (by rfl) T.c_ROUND))))), ?_⟩
    walk_at "in"
    refine ⟨m, oa, na, n, row, rfl, S, fun p c H' rep sm hp => ?_⟩
    obtain ⟨i1, i2, i3, i4⟩ := rep.r
    walk_at "go"
    refine R_ixT (v := .int c.1) (SqT.of hp) rfl ?_
    walk_at "go"
    refine R_ixT (v := .int c.2) (SqT.of hp) rfl ?_
    walk_at "go"
    rw [made_of rep]
    exact kq _ sm
theorem ok_Maps_maps (T : Txt K mg D) : FnOk P w K mg base CX0 1 (He.ma K (He.ga K "Maps") "maps") (D ("Maps", some "maps")) ["self"] (spMMaps K) := by
  refine T.Maps_maps.F.ok sc_Maps_maps (fun vs H Q E h => ?_) (fun cdv A outer s H vs Q E hr h => ?_)
  · obtain ⟨m, oa, na, n, row, rfl, _⟩ := h
    rfl
  · obtain ⟨m, oa, na, n, row, rfl, ⟨la, qs, ns, l, S, rfl⟩, kq⟩ := h
    have fcMaps := T.cMaps.cl; have fnMapssize := T.n_Maps_size; have fnMapsold := T.n_Maps_old; have fnMapsnew := T.n_Maps_new; have fnMapslast := T.n_Maps_last
    obtain ⟨⟨dx, h1⟩, h2, h3, ⟨rs, r1, r2, r3⟩, _, _, _, _, _, _, n2, hle⟩ := id S
    have hrl : rs.length = ns.length := by rw [← r3, List.length_map]
    refine ⟨_, PSs.nox (pss_one (ps_ret (pe_op op_cat (pe_lc (own := [("pair", 1)]) (g := gName 1) (tt := tYes) (by rfl) sc_Maps_maps.nd (pi_reversedK (K := K) rfl (by rfl) T.z_reversed (pa_cons (pe_fldK (K := K) rfl (pv 0) rfl) pa_nil)) (blkOk_by (by kernel_rfl)) (fun _ _ _ _ _ => pg_name (i := 1) sc_Maps_maps.nd rfl (Or.inl rfl)) (fun _ _ _ _ _ => pts_nil) (fun _ _ _ _ _ => (pe_ix (ix_tupK (K := K) rfl) (pv 1) pe_int (fun _ _ => rfl)))) (pe_callTy (call_listK (K := K) rfl) (by rfl) T.z_list (by decide +kernel) (pa_cons (pe_fldK (K := K) rfl (pv 0) rfl) pa_nil))))), ?_⟩
    walk_at "in"
    refine R_lcMapV (ys := qs.map fun q => V.ref q.p1) (SqL.of h2) (by rw [List.length_map, List.length_map, List.length_reverse]) (by rw [List.length_map, List.length_reverse]; omega) (fun i x y H' hx hy sm Q' kQ => ?_) (fun Dl H' hD sm hDl => ?_)
    · rw [List.getElem?_map] at hy
      cases e : qs[i]? with
      | none => rw [e] at hy; cases hy
      | some q =>
        have hi := (List.getElem?_eq_some_iff.mp e).1
        rw [e] at hy
        rw [List.getElem?_map, List.length_map, List.length_reverse, List.getElem?_reverse (by omega), show qs.length - 1 - (qs.length - 1 - i) = i by omega, e] at hx
        have ex := Option.some.inj hx
        have ey := Option.some.inj hy
        subst ex ey
        obtain ⟨m1, m2, m3⟩ := h3 q (List.mem_of_getElem? e)
        walk_at "go"
        refine R_ixT (v := .ref q.p1) (SqT.of (sm _ _ m1)) rfl ?_
        exact kQ H' (Same.refl H')
    · have h1' := sm _ _ h1
      have r1' := sm _ _ r1
      walk_at "go"
      intro l2 nl2
      have a0 : Dl ≠ l2 := ne_of_none hDl nl2
      walk_at "go"
      refine R_cat (by walk_at "hp") (by walk_at "hp") (Nat.le_trans (m := 100000) (by rw [List.length_map, List.length_map]; omega) (by decide)) fun p np => ?_
      have s2 := same_upd (o := HO.lst (rs.map fun q => V.ref q.1)) nl2 (Same.refl H')
      have s3 := sm.trans (s2.trans (same_upd (o := HO.lst ((qs.map fun q => V.ref q.p1) ++ rs.map fun q => V.ref q.1)) np (Same.refl _)))
      walk_at "go"
      refine kq p _ ((sm.trans s2).free np) s3 ⟨qs.map (fun q => (q.p1, q.v.1)) ++ rs, ?_, fun q hq => ?_, ?_⟩
      · rw [List.map_append, List.map_map]
        exact upd_same
      · rcases List.mem_append.mp hq with hq | hq
        · obtain ⟨q', hq', rfl⟩ := List.mem_map.mp hq
          exact s3 _ _ (h3 q' hq').2.1
        · exact s3 _ _ (r2 q hq)
      · unfold rowM
        rw [List.map_append, List.map_map, r3]
        rfl
end
end LF

set_option maxRecDepth 100000
set_option maxHeartbeats 4000000
namespace LF
open PySem PySem.Spec PyProof.Rows L2


/-! ### the law's own helpers -/
def cellF (ns : List Int) (k : Int) : Int := if ns = [] then 0 else ns.getD (k % (ns.length : Int)).toNat 0
def mixF (ns : List Int) (k : Int) : Int :=
  (((cellF ns k + 104729 * (k + 1)) % 4294967291 * 48271 % 4294967279) / 64 * 69621 + (cellF ns k + 104729 * (k + 1)) % 4294967291 * 48271 % 4294967279) % 4294967231
theorem mixF_nn (ns : List Int) (k : Int) : 0 ≤ mixF ns k := Int.emod_nonneg _ (by decide)
theorem mixF_lt (ns : List Int) (k : Int) : mixF ns k < 4294967231 := Int.emod_lt_of_pos _ (by decide)
def thingF (ns : List Int) (k : Int) : Int :=
  if 0 < mixF ns k / 64 % 8 then ([0, 1, -1, 2, 5, 999999999999999, -999999999999999, mixF ns k / 8 % 7 - 3] : List Int).getD (mixF ns k % 8).toNat 0 else mixF ns k / 512 % 100000 - 50000
def spCell (K : PySem.W.Frag) : Sp := fun vs H Q _ => ∃ (a : Addr) (ns : List Int) (i : Int), vs = [.ref a, .int i] ∧ SqL K H a (ns.map V.int) ∧ ns.length ≤ 63 ∧ 0 ≤ i ∧ Q (.int (cellF ns i)) H
def spMix (K : PySem.W.Frag) : Sp := fun vs H Q _ => ∃ (a : Addr) (ns : List Int) (i : Int), vs = [.ref a, .int i] ∧ SqL K H a (ns.map V.int) ∧ ns.length ≤ 63 ∧ 0 ≤ i ∧ Q (.int (mixF ns i)) H
def spThing (K : PySem.W.Frag) : Sp := fun vs H Q _ => ∃ (a : Addr) (ns : List Int) (i : Int), vs = [.ref a, .int i] ∧ SqL K H a (ns.map V.int) ∧ ns.length ≤ 63 ∧ 0 ≤ i ∧ ∀ H', Same H H' → Q (.int (thingF ns i)) H'
section
variable {P : Program} {w : World} {K : PySem.W.Frag} {mg : Str → Option Value} {base : Heap} {D : Str × Option Str → FuncData}
theorem ok_l_cell (T : Txt K mg D) : FnOk P w K mg base CX0 1 (He.ga K "_law_cell") (D ("_law_cell", none)) ["_law_script", "_law_k"] (spCell K) := by
  refine T.l_cell.F.ok sc_l_cell (fun vs H Q E h => ?_) (fun cdv A outer s H vs Q E hr h => ?_)
  · obtain ⟨a, ns, i, rfl, _⟩ := h
    rfl
  · obtain ⟨a, ns, i, rfl, hS, hl, hi, kq⟩ := h
    refine ⟨_, PSs.nox (pss_cons (ps_if (pt_truK (K := K) rfl (pv 0) (by intro _; rfl)) (pss_one (ps_ret (pe_ix (ix_listK (K := K) rfl) (pv 0) (pe_op op_mod (pv 1) (pe_callB (call_lenK (K := K) rfl) (by rfl) T.z_len PySem.boot_len (pa_cons (pv 0) pa_nil))) (fun _ _ => rfl)))) pss_nil)
      (pss_one (ps_ret pe_int))), ?_⟩
    walk_at "in"
    cases ns with
    | nil =>
      refine iteBF rfl ?_
      walk_at "go"
      exact kq
    | cons x r =>
      refine iteBT rfl ?_
      have hpos : (0 : Int) < ((List.map V.int (x :: r)).length : Nat) := by rw [mapint_len, List.length_cons]; omega
      walk_at "go"
      have h1 := Int.emod_nonneg i (b := (((x :: r).length : Nat) : Int)) (by rw [List.length_cons]; omega)
      have h2 := Int.emod_lt_of_pos i (b := (((x :: r).length : Nat) : Int)) (by rw [List.length_cons]; omega)
      refine R_ixL hS (at_int (i % (((x :: r).length : Nat) : Int)).toNat (by rw [mapint_len]; omega) (by omega)) ?_
      have e : cellF (x :: r) i = (x :: r)[(i % (((x :: r).length : Nat) : Int)).toNat]'(by omega) := by
        unfold cellF
        rw [if_neg (List.cons_ne_nil _ _), List.getD_eq_getElem?_getD, List.getElem?_eq_getElem (by omega)]
        rfl
      rw [← e]
      exact kq
theorem ok_l_mix (T : Txt K mg D) : FnOk P w K mg base CX0 2 (He.ga K "_law_mix") (D ("_law_mix", none)) ["_law_script", "_law_k"] (spMix K) := by
  refine T.l_mix.F.ok sc_l_mix (fun vs H Q E h => ?_) (fun cdv A outer s H vs Q E hr h => ?_)
  · obtain ⟨a, ns, i, rfl, _⟩ := h
    rfl
  · obtain ⟨a, ns, i, rfl, hS, hl, hi, kq⟩ := h
    refine ⟨_, PSs.nox (pss_cons (ps_set (i := 2) sc_l_mix.nd rfl (Or.inl rfl) (pe_op op_mod (pe_op op_add (pe_call (ok_l_cell T) (by exact hr.mono (by decide)) (by rfl) T.l_cell.g T.l_cell.F.kp T.l_cell.b .nil pass0 (pa_cons (pv 0) (pa_cons (pv 1) pa_nil))) (pe_op op_mul pe_int (pe_op op_add (pv 1) pe_int))) pe_int))
      (pss_cons (ps_set (i := 2) sc_l_mix.nd rfl (Or.inl rfl) (pe_op op_mod (pe_op op_mul (pv 2) pe_int) pe_int))
      (pss_one (ps_ret (pe_op op_mod (pe_op op_add (pe_op op_mul (pe_op op_fdiv (pv 2) pe_int) pe_int) (pv 2)) pe_int))))), ?_⟩
    walk_at "in"
    refine ⟨a, ns, i, rfl, hS, hl, hi, ?_⟩
    walk_at "go"
    exact kq
theorem ok_l_thing (T : Txt K mg D) : FnOk P w K mg base CX0 3 (He.ga K "_law_thing") (D ("_law_thing", none)) ["_law_script", "_law_k"] (spThing K) := by
  refine T.l_thing.F.ok sc_l_thing (fun vs H Q E h => ?_) (fun cdv A outer s H vs Q E hr h => ?_)
  · obtain ⟨a, ns, i, rfl, _⟩ := h
    rfl
  · obtain ⟨a, ns, i, rfl, hS, hl, hi, kq⟩ := h
    refine ⟨_, PSs.nox (pss_cons (ps_set (i := 2) sc_l_thing.nd rfl (Or.inl rfl) (pe_call (ok_l_mix T) (by exact hr.mono (by decide)) (by rfl) T.l_mix.g T.l_mix.F.kp T.l_mix.b .nil pass0 (pa_cons (pv 0) (pa_cons (pv 1) pa_nil))))
      (pss_cons (ps_set (i := 3) sc_l_thing.nd rfl (Or.inl rfl) (pe_lst (pa_cons pe_int (pa_cons pe_int (pa_cons (pe_un un_neg pe_int) (pa_cons pe_int (pa_cons pe_int (pa_cons pe_int (pa_cons (pe_un un_neg pe_int) (pa_cons (pe_op op_sub (pe_op op_mod (pe_op op_fdiv (pv 2) pe_int) pe_int) pe_int) pa_nil))))))))))
      (pss_one (ps_ret (pe_ifExp (pt_cmpR op_gt (pe_op op_mod (pe_op op_fdiv (pv 2) pe_int) pe_int) pe_int (nomark _)) (pe_ix (ix_listK (K := K) rfl) (pv 3) (pe_op op_mod (pv 2) pe_int) (fun _ _ => rfl)) (pe_op op_sub (pe_op op_mod (pe_op op_fdiv (pv 2) pe_int) pe_int) pe_int)))))), ?_⟩
    walk_at "in"
    refine ⟨a, ns, i, rfl, hS, hl, hi, ?_⟩
    walk_at "go"
    refine ⟨Nat.le_of_ble_eq_true rfl, fun q nq => ?_⟩
    walk_at "go"
    refine iteD (fun h0 => ?_) (fun h0 => ?_)
    · walk_at "go"
      have h1 := Int.emod_nonneg (mixF ns i) (b := 8) (by decide)
      have h2 := Int.emod_lt_of_pos (mixF ns i) (b := 8) (by decide)
      have e : thingF ns i = ([0, 1, -1, 2, 5, 999999999999999, -999999999999999, mixF ns i / 8 % 7 - 3] : List Int).getD (mixF ns i % 8).toNat 0 := if_pos h0
      rw [List.getD_eq_getElem?_getD, List.getElem?_eq_getElem (show (mixF ns i % 8).toNat < ([0, 1, -1, 2, 5, 999999999999999, -999999999999999, mixF ns i / 8 % 7 - 3] : List Int).length by show _ < 8; omega)] at e
      refine R_ixL (xs := ([0, 1, -1, 2, 5, 999999999999999, -999999999999999, mixF ns i / 8 % 7 - 3] : List Int).map V.int) (SqL.of upd_same) (at_int (mixF ns i % 8).toNat (by omega) (by show _ < 8; omega)) ?_
      have e := e.symm
      dsimp only [Option.getD_some] at e
      rw [e]
      exact kq _ (same_upd nq (Same.refl _))
    · walk_at "go"
      have e : thingF ns i = mixF ns i / 512 % 100000 - 50000 := if_neg h0
      rw [← e]
      exact kq _ (same_upd nq (Same.refl _))
end
end LF


set_option maxRecDepth 100000
set_option maxHeartbeats 4000000
namespace LF
open PySem PySem.Spec PyProof.Rows L2


theorem pickM (z : Int) (h0 : 0 ≤ z) (h1 : z < 7) : ∃ n : Nat, 1 ≤ n ∧ n ≤ 1000 ∧ atI [V.int 1, V.int 2, V.int 3, V.int 4, V.int 5, V.int 9, V.int 1000] z = some (.int n) := by
  have h : z = 0 ∨ z = 1 ∨ z = 2 ∨ z = 3 ∨ z = 4 ∨ z = 5 ∨ z = 6 := by omega
  rcases h with rfl | rfl | rfl | rfl | rfl | rfl | rfl
  · exact ⟨1, by decide, by decide, rfl⟩
  · exact ⟨2, by decide, by decide, rfl⟩
  · exact ⟨3, by decide, by decide, rfl⟩
  · exact ⟨4, by decide, by decide, rfl⟩
  · exact ⟨5, by decide, by decide, rfl⟩
  · exact ⟨9, by decide, by decide, rfl⟩
  · exact ⟨1000, by decide, by decide, rfl⟩
theorem MAt.addrs {K : PySem.W.Frag} {H : Hp} {m oa na : Addr} {n : Nat} {row : List (Int × Int)} (S : MAt K H m oa na n row) : (∃ la dx, H m = some (.ins (He.ga K "Maps") dx (mfl n oa na la))) ∧ (∃ xs, H oa = some (.lst xs)) ∧ ∃ xs, H na = some (.lst xs) := by
  obtain ⟨la, qs, ns, l, ⟨⟨dx, h1⟩, h2, _, ⟨rs, r1, _⟩, _⟩, _⟩ := S
  exact ⟨⟨la, dx, h1⟩, ⟨_, h2⟩, ⟨_, r1⟩⟩
theorem RowAt.keepM {K : PySem.W.Frag} {H H' : Hp} {a m oa na : Addr} {n : Nat} {row ps : List (Int × Int)} (h : RowAt H a ps) (S : MAt K H m oa na n row) (kp : KeepM H H' m oa na) (h1 : a ≠ oa) (h2 : a ≠ na) : RowAt H' a ps := by
  obtain ⟨⟨la, dx, g1⟩, ⟨xs, g2⟩, ⟨ys, g3⟩⟩ := S.addrs
  obtain ⟨qs, e1, _⟩ := id h
  refine h.keep fun b u hb hu => ?_
  rcases hu with rfl | ⟨x, y, rfl⟩
  · exact kp _ _ hb (ne_of e1 g1 (by intro z; cases z)) h1 h2
  · exact kp _ _ hb (ne_of hb g1 (by intro z; cases z)) (ne_of hb g2 (by intro z; cases z)) (ne_of hb g3 (by intro z; cases z))
/-! data of pairs -/
def pd (p : Int × Int) : PyData := .tuple [.int p.1, .int p.2]
theorem dp_pair {K : PySem.W.Frag} {H : Hp} {a : Addr} {x y : Int} (h : H a = some (.tup [.int x, .int y])) : Dp K H (.ref a) (pd (x, y)) := .tup (SqT.of h) (.cons (.int x) (.cons (.int y) .nil))
theorem pd_lay (p : Int × Int) : (pd p).canLay0 = true ∧ (pd p).depth = 1 := ⟨rfl, rfl⟩
theorem pds_lay : ∀ ps : List (Int × Int), PyData.canLayAll0 (ps.map pd) = true ∧ PyData.depthAll (ps.map pd) ≤ 1
  | [] => ⟨rfl, Nat.zero_le _⟩
  | p :: r => by
    obtain ⟨h1, h2⟩ := pds_lay r
    refine ⟨?_, ?_⟩
    · rw [List.map_cons, PyData.canLayAll0, h1, (pd_lay p).1]
      rfl
    · rw [List.map_cons, PyData.depthAll, (pd_lay p).2]
      omega
theorem dp_pairsA {K : PySem.W.Frag} {H : Hp} : ∀ qs : List (Addr × Int × Int), (∀ q ∈ qs, H q.1 = some (.tup [.int q.2.1, .int q.2.2])) → DpAll K H (qs.map fun q => V.ref q.1) ((qs.map (·.2)).map pd)
  | [], _ => .nil
  | q :: r, h => .cons (dp_pair (h q List.mem_cons_self)) (dp_pairsA r fun q' hq => h q' (List.mem_cons_of_mem _ hq))
theorem RowAt.dp {K : PySem.W.Frag} {H : Hp} {a : Addr} {ps : List (Int × Int)} (h : RowAt H a ps) : Dp K H (.ref a) (.list (ps.map pd)) := by
  obtain ⟨qs, h1, h2, rfl⟩ := h
  exact .lst (SqL.of h1) (dp_pairsA qs h2)
theorem shaped_pairs (ps : List (Int × Int)) : SeqAt.shaped (.list (ps.map pd)) = true := by
  obtain ⟨h1, h2⟩ := pds_lay ps
  unfold SeqAt.shaped
  rw [PyData.canLay0, h1, PyData.depth, Bool.true_and]
  exact decide_eq_true (by omega)
theorem eqv_pairs (ps : List (Int × Int)) : PyData.eqv (.list (ps.map pd)) (.list (ps.map pd)) = true := SeqAt.eqv_refl _ (by rw [PyData.canLay0]; exact (pds_lay ps).1)
theorem R_nePairs {K : PySem.W.Frag} {H : Hp} {a b : Addr} {ps : List (Int × Int)} {Q : VK} (h1 : RowAt H a ps) (h2 : RowAt H b ps) (h : Q (.bl false) H) : rNeD K (.ref a) (.ref b) H Q :=
  ⟨_, _, h1.dp, h2.dp, shaped_pairs ps, shaped_pairs ps, by rw [eqv_pairs]; exact h⟩
theorem R_nePair {K : PySem.W.Frag} {H : Hp} {a b : Addr} {p : Int × Int} {Q : VK} (h1 : H a = some (.tup [.int p.1, .int p.2])) (h2 : H b = some (.tup [.int p.1, .int p.2])) (h : Q (.bl false) H) : rNeD K (.ref a) (.ref b) H Q :=
  ⟨_, _, dp_pair h1, dp_pair h2, rfl, rfl, by rw [SeqAt.eqv_refl _ (pd_lay _).1]; exact h⟩
theorem made_snoc {ps : List (Int × Int)} {i : Nat} {p : Int × Int} (x : Int) (h : ps[i]? = some p) : (ps.take (i + 1)).foldl (fun x p => (p.1 * x + p.2) % 1000003) x = (p.1 * (ps.take i).foldl (fun x p => (p.1 * x + p.2) % 1000003) x + p.2) % 1000003 := by
  rw [List.take_add_one, h, List.foldl_append]
  rfl
def spMade (K : PySem.W.Frag) : Sp := fun vs H Q _ => ∃ (a : Addr) (ps : List (Int × Int)) (x : Int), vs = [.ref a, .int x] ∧ RowAt H a ps ∧ (∀ p ∈ ps, InR p) ∧ ps.length ≤ 1000 ∧ Q (.int (made ps x)) H
def spLWhole : Sp := fun vs H Q _ => ∃ x : Int, vs = [.int x] ∧ Q (.bl true) H
def spLaw (K : PySem.W.Frag) : Sp := fun vs H Q _ => ∃ (a : Addr) (ns : List Int), vs = [.ref a] ∧ SqL K H a (ns.map V.int) ∧ ns.length ≤ 63 ∧ ∀ H', Q (.bl true) H'
section
variable {P : Program} {w : World} {K : PySem.W.Frag} {mg : Str → Option Value} {base : Heap} {D : Str × Option Str → FuncData}
theorem ok_l_whole (T : Txt K mg D) : FnOk P w K mg base CX0 1 (He.ga K "_law_whole") (D ("_law_whole", none)) ["_law_found"] spLWhole := by
  refine T.l_whole.F.ok sc_l_whole (fun vs H Q E h => ?_) (fun cdv A outer s H vs Q E hr h => ?_)
  · obtain ⟨x, rfl, _⟩ := h
    rfl
  · obtain ⟨x, rfl, kq⟩ := h
    refine ⟨_, PSs.nox (pss_one (ps_ret (pe_and (pe_callB (call_isiK (K := K) rfl) (by rfl) T.z_isinstance (by decide +kernel) (pa_cons (pv 0) (pa_cons (pe_bltn (v := .ty "int") (by rfl) T.z_int (by decide +kernel) rfl) pa_nil))) (pe_one (pe_not (pe_callB (call_isiK (K := K) rfl) (by rfl) T.z_isinstance (by decide +kernel) (pa_cons (pv 0) (pa_cons (pe_bltn (v := .ty "bool") (by rfl) T.z_bool (by decide +kernel) rfl) pa_nil)))))))), ?_⟩
    walk_at "in"
    refine ⟨_, _, .type "int", .type "int", true, rfl, .ty "int", .base (.int x), kit_ty (by decide +kernel), ?_⟩
    walk_at "go"
    refine iteBT rfl ?_
    walk_at "go"
    refine ⟨_, _, .type "int", .type "bool", false, rfl, .ty "bool", .base (.int x), kit_ty (by decide +kernel), ?_⟩
    walk_at "go"
    exact kq
theorem ok_l_made (T : Txt K mg D) : FnOk P w K mg base CX0 1 (He.ga K "_law_made") (D ("_law_made", none)) ["_law_row", "_law_number"] (spMade K) := by
  refine T.l_made.F.ok sc_l_made (fun vs H Q E h => ?_) (fun cdv A outer s H vs Q E hr h => ?_)
  · obtain ⟨a, ps, x, rfl, _⟩ := h
    rfl
  · obtain ⟨a, ps, x, rfl, ⟨qs, r1, r2, rfl⟩, hin, hl, kq⟩ := h
    rw [List.length_map] at hl
    refine ⟨_, PSs.nox (pss_cons (ps_for PassesOwn.never rfl (pi_listK (K := K) rfl (pv 0)) (pg_name (i := 2) sc_l_made.nd rfl (Or.inl rfl))
      (pss_one (ps_set (i := 1) sc_l_made.nd rfl (Or.inl rfl) (pe_op op_mod (pe_op op_add (pe_op op_mul (pe_ix (ix_tupK (K := K) rfl) (pv 2) pe_int (fun _ _ => rfl)) (pv 1)) (pe_ix (ix_tupK (K := K) rfl) (pv 2) pe_int (fun _ _ => rfl))) pe_int))))
      (pss_one (ps_ret (pe_op op_mod (pv 1) pe_int)))), ?_⟩
    walk_at "in"
    refine R_forL (xs := qs.map fun q => V.ref q.1) (fun i σ' H' => ∃ v : Option V, σ' = [some (.ref a), some (.int (((qs.map (·.2)).take i).foldl (fun x p => (p.1 * x + p.2) % 1000003) x)), v] ∧ H' = H) ⟨none, rfl, rfl⟩ ?_ ?_ ?_
    · rintro i σ' H' _ ⟨v, _, rfl⟩
      exact SqL.of r1
    · rintro i y σ' H' hy ⟨v, rfl, rfl⟩
      rw [List.getElem?_map] at hy
      cases e : qs[i]? with
      | none => rw [e] at hy; cases hy
      | some q =>
        rw [e] at hy
        have ey := Option.some.inj hy
        subst ey
        have hq := List.mem_of_getElem? e
        obtain ⟨i1, i2, i3, i4⟩ := hin q.2 (List.mem_map.mpr ⟨q, hq, rfl⟩)
        have tq := r2 q hq
        walk_at "go"
        refine R_ixT (v := .int q.2.1) (SqT.of tq) rfl ?_
        walk_at "go"
        refine R_ixT (v := .int q.2.2) (SqT.of tq) rfl ?_
        walk_at "go"
        exact ⟨_, by rw [made_snoc (p := q.2) x (by rw [List.getElem?_map, e]; rfl)]; rfl, rfl⟩
    · rintro σ' H' ⟨v, rfl, rfl⟩
      rw [List.length_map, List.take_of_length_le (by rw [List.length_map]; exact Nat.le_refl _)]
      walk_at "go"
      exact kq
theorem ok_law (T : Txt K mg D) : FnOk P w K mg base CX0 6 (He.ga K "law") (D ("law", none)) ["_law_script"] (spLaw K) := by
  refine T.law.F.ok sc_law (fun vs H Q E h => ?_) (fun cdv A outer s H vs Q E hr h => ?_)
  · obtain ⟨a, ns, rfl, _⟩ := h
    rfl
  · obtain ⟨a, ns, rfl, hS, hl, kq⟩ := h
    have fcMaps := T.cMaps.cl; have fnMapssize := T.n_Maps_size; have fnMapsold := T.n_Maps_old; have fnMapsnew := T.n_Maps_new; have fnMapslast := T.n_Maps_last
    refine ⟨_, PSs.nox (pss_cons (ps_set (i := 1) sc_law.nd rfl (Or.inl rfl) (pe_ix (ix_listK (K := K) rfl) (pe_lst (pa_cons pe_int (pa_cons pe_int (pa_cons pe_int (pa_cons pe_int (pa_cons pe_int (pa_cons pe_int (pa_cons pe_int pa_nil)))))))) (pe_op op_mod (pe_call (ok_l_mix T) (by exact hr.mono (by decide)) (by rfl) T.l_mix.g T.l_mix.F.kp T.l_mix.b .nil pass0 (pa_cons (pv 0) (pa_cons pe_int pa_nil))) pe_int) (fun _ _ => rfl)))
      (pss_cons (ps_set (i := 2) sc_law.nd rfl (Or.inl rfl) (pe_make T.cMaps.mkr (ok_Maps_init T) (by exact hr.mono (by decide)) (by rfl) T.cMaps.g T.Maps_init.b .nil pass0 (pa_cons (pv 1) pa_nil)))
      (pss_cons (ps_set (i := 3) sc_law.nd rfl (Or.inl rfl) (pe_lst pa_nil))
      (pss_cons (ps_for PassesOwn.never rfl (pi_range1 (by rfl) T.z_range (pa_cons (pe_op op_mod (pe_call (ok_l_mix T) (by exact hr.mono (by decide)) (by rfl) T.l_mix.g T.l_mix.F.kp T.l_mix.b .nil pass0 (pa_cons (pv 0) (pa_cons pe_int pa_nil))) pe_int) pa_nil)) (pg_name (i := 4) sc_law.nd rfl (Or.inl rfl))
      (pss_cutQ (ps_if (pt_cmpR op_gt (pv 4) pe_int (nomark _)) (pss_cons (ps_set (i := 5) sc_law.nd rfl (Or.inl rfl) (pe_call (ok_l_thing T) (by exact hr.mono (by decide)) (by rfl) T.l_thing.g T.l_thing.F.kp T.l_thing.b .nil pass0 (pa_cons (pv 0) (pa_cons (pe_op op_add pe_int (pe_op op_mul pe_int (pv 4))) pa_nil))))
      (pss_cons (ps_set (i := 6) sc_law.nd rfl (Or.inl rfl) (pe_call (ok_l_thing T) (by exact hr.mono (by decide)) (by rfl) T.l_thing.g T.l_thing.F.kp T.l_thing.b .nil pass0 (pa_cons (pv 0) (pa_cons (pe_op op_add pe_int (pe_op op_mul pe_int (pv 4))) pa_nil))))
      (pss_cons (ps_if (pt_cmpR op_notN (pe_meth (pv 2) T.cMaps.cl T.Maps_put.me (ok_Maps_put T) (by exact hr.mono (by decide)) T.Maps_put.b .nil pass0 (pa_cons (pv 5) (pa_cons (pv 6) pa_nil))) pe_non (nomark _)) (pss_one (ps_ret pe_bl)) pss_nil)
      (pss_one (ps_set (i := 3) sc_law.nd rfl (Or.inl rfl) (pe_slice (sl_listK (K := K) rfl) (pe_op op_cat (pv 3) (pe_lst (pa_cons (pe_tup (pa_cons (pe_op op_mod (pv 5) pe_int) (pa_cons (pe_op op_mod (pv 6) pe_int) pa_nil))) pa_nil))) (po_some (pe_un un_neg (pv 1))) po_none)))))) pss_nil)
      (pss_cons (ps_set (i := 7) sc_law.nd rfl (Or.inl rfl) (pe_meth0 (pv 2) T.cMaps.cl T.Maps_whole.me (ok_Maps_whole T) (by exact hr.mono (by decide)) T.Maps_whole.b .nil pass0))
      (pss_cons (ps_set (i := 8) sc_law.nd rfl (Or.inl rfl) (pe_call (ok_l_made T) (by exact hr.mono (by decide)) (by rfl) T.l_made.g T.l_made.F.kp T.l_made.b .nil pass0 (pa_cons (pv 3) (pa_cons pe_int pa_nil))))
      (pss_cons (ps_if (PW.pt (pw_or (pt_not (pt_val (pe_callB (call_isiK (K := K) rfl) (by rfl) T.z_isinstance (by decide +kernel) (pa_cons (pv 7) (pa_cons (pe_bltn (v := .ty "tuple") (by rfl) T.z_tuple (by decide +kernel) rfl) pa_nil))))) (pw_or1 (pt_cmpR (op_neDK (K := K) rfl (by exact hr.units)) (pv 7) (pe_tup (pa_cons (pe_op op_mod (pe_op op_sub (pe_call (ok_l_made T) (by exact hr.mono (by decide)) (by rfl) T.l_made.g T.l_made.F.kp T.l_made.b .nil pass0 (pa_cons (pv 3) (pa_cons pe_int pa_nil))) (pv 8)) pe_int) (pa_cons (pv 8) pa_nil))) (nomark _))))) (pss_one (ps_ret pe_bl)) pss_nil)
      (pss_cons (ps_if (PW.pt (pw_or (pt_not (pt_val (pe_call (ok_l_whole T) (by exact hr.mono (by decide)) (by rfl) T.l_whole.g T.l_whole.F.kp T.l_whole.b .nil pass0 (pa_cons (pe_ix (ix_tupK (K := K) rfl) (pv 7) pe_int (fun _ _ => rfl)) pa_nil)))) (pw_or1 (pt_not (pt_val (pe_call (ok_l_whole T) (by exact hr.mono (by decide)) (by rfl) T.l_whole.g T.l_whole.F.kp T.l_whole.b .nil pass0 (pa_cons (pe_ix (ix_tupK (K := K) rfl) (pv 7) pe_int (fun _ _ => rfl)) pa_nil))))))) (pss_one (ps_ret pe_bl)) pss_nil)
      (pss_cons (ps_set (i := 9) sc_law.nd rfl (Or.inl rfl) (pe_call (ok_l_thing T) (by exact hr.mono (by decide)) (by rfl) T.l_thing.g T.l_thing.F.kp T.l_thing.b .nil pass0 (pa_cons (pv 0) (pa_cons (pe_op op_add pe_int (pv 4)) pa_nil))))
      (pss_cons (ps_if (PW.pt (pw_or (pt_cmpR op_ne (pe_meth (pv 2) T.cMaps.cl T.Maps_at.me (ok_Maps_at T) (by exact hr.mono (by decide)) T.Maps_at.b .nil pass0 (pa_cons (pv 9) pa_nil)) (pe_call (ok_l_made T) (by exact hr.mono (by decide)) (by rfl) T.l_made.g T.l_made.F.kp T.l_made.b .nil pass0 (pa_cons (pv 3) (pa_cons (pv 9) pa_nil))) (nomark _)) (pw_or1 (pt_cmpR (op_neDK (K := K) rfl (by exact hr.units)) (pe_meth0 (pv 2) T.cMaps.cl T.Maps_maps.me (ok_Maps_maps T) (by exact hr.mono (by decide)) T.Maps_maps.b .nil pass0) (pv 3) (nomark _))))) (pss_one (ps_ret pe_bl)) pss_nil)
      (pss_one (ps_expr (pe_bmK (K := K) rfl PySem.F.plainAttrs_list PySem.F.slot_list_append PySem.F.type_list_append mt_append (pe_meth0 (pv 2) T.cMaps.cl T.Maps_maps.me (ok_Maps_maps T) (by exact hr.mono (by decide)) T.Maps_maps.b .nil pass0) (pa_cons (pe_tup (pa_cons pe_int (pa_cons pe_int pa_nil))) pa_nil))))))))))))
      (pss_one (ps_ret pe_bl)))))), ?_⟩
    walk_at "in"
    refine ⟨Nat.le_of_ble_eq_true rfl, fun q nq => ?_⟩
    have s1 := same_upd (o := HO.lst [V.int 1, V.int 2, V.int 3, V.int 4, V.int 5, V.int 9, V.int 1000]) nq (Same.refl H)
    walk_at "go"
    refine ⟨a, ns, 0, rfl, s1.seq hS, hl, by omega, ?_⟩
    walk_at "go"
    obtain ⟨n, n1, n2, hn⟩ := pickM (mixF ns 0 % 7) (Int.emod_nonneg _ (by decide)) (Int.emod_lt_of_pos _ (by decide))
    refine R_ixL (SqL.of upd_same) hn ?_
    walk_at "go"
    intro m dx nm ndx ne
    have sB : Same H (upd (upd (upd H q (HO.lst [V.int 1, V.int 2, V.int 3, V.int 4, V.int 5, V.int 9, V.int 1000])) dx (.own m)) m (.ins (He.ga K "Maps") dx [])) := fun b u e => by
      rw [upd_ne (ne_of_none (s1 b u e) nm), upd_ne (ne_of_none (s1 b u e) ndx)]
      exact s1 b u e
    refine ⟨m, dx, n, rfl, upd_same, n1, n2, fun oa na0 H1 noa nna SA kp => ⟨rfl, ?_⟩⟩
    have s2 : Same H H1 := s1.trans (Same.made nm ndx kp)
    have fm := s1.free nm
    have fo := sB.free noa
    have fn := sB.free nna
    have hfr : ∀ {H2 H3 : Hp} {na : Addr}, Same H H2 → H na = none → KeepM H2 H3 m oa na → Same H H3 := fun e fn kp b u hb => kp b u (e b u hb) (ne_of_none hb fm) (ne_of_none hb fo) (ne_of_none hb fn)
    walk_at "go"
    refine ⟨Nat.zero_le _, fun rw_ nrw => ?_⟩
    have frw := s2.free nrw
    obtain ⟨⟨la1, dw, hw⟩, ⟨xo, ho⟩, ⟨xn, hna⟩⟩ := SA.addrs
    have b1 : rw_ ≠ oa := (ne_of_none ho nrw).symm
    have b2 : rw_ ≠ na0 := (ne_of_none hna nrw).symm
    have s3 := same_upd (o := HO.lst []) nrw (Same.refl H1)
    walk_at "go"
    refine ⟨a, ns, 1, rfl, (s2.trans s3).seq hS, hl, by omega, ?_⟩
    walk_at "go"
    have m0 := Int.emod_nonneg (mixF ns 1) (b := 51) (by decide)
    have m1 := Int.emod_lt_of_pos (mixF ns 1) (b := 51) (by decide)
    refine R_rng1 m0 (by omega) ?_
    refine R_forR (fun i σ' H' => ∃ (ps : List (Int × Int)) (ra na : Addr) (v4 v5 v6 v7 v8 v9 : Option V), σ' = [some (.ref a), some (.int n), some (.ref m), some (.ref ra), v4, v5, v6, v7, v8, v9] ∧ ps.length ≤ i ∧ (∀ p ∈ ps, InR p) ∧ Same H H' ∧ MAt K H' m oa na n ps ∧ RowAt H' ra ps ∧ ra ≠ oa ∧ ra ≠ na ∧ H ra = none ∧ H na = none)
      ⟨[], rw_, na0, none, none, none, none, none, none, rfl, Nat.le_refl _, (fun p hp => by cases hp), s2.trans s3, SA.ex s3, ⟨[], upd_same, (fun p hp => by cases hp), rfl⟩, b1, b2, frw, fn⟩ ?_ ?_
    · rintro i σ' H' hi ⟨ps, ra, na, v4, v5, v6, v7, v8, v9, rfl, hlen, hin, sH, MB, RB, c1, c2, fra, fna⟩
      have hi50 : i ≤ 50 := by omega
      walk_at "go"
      refine S_cut (fun σ'' H3 => ∃ (ps : List (Int × Int)) (ra na : Addr) (v5 v6 v7 v8 v9 : Option V), σ'' = [some (.ref a), some (.int n), some (.ref m), some (.ref ra), some (.int (0 + (i : Int))), v5, v6, v7, v8, v9] ∧ ps.length ≤ i + 1 ∧ (∀ p ∈ ps, InR p) ∧ Same H H3 ∧ MAt K H3 m oa na n ps ∧ RowAt H3 ra ps ∧ ra ≠ oa ∧ ra ≠ na ∧ H ra = none ∧ H na = none) ?_ ?_
      · walk_at "go"
        refine iteD (fun _ => ?_) (fun _ => ?_)
        · walk_at "go"
          refine ⟨a, ns, 2 + 2 * (0 + (i : Int)), rfl, sH.seq hS, hl, by omega, fun H2 s4 => ?_⟩
          generalize thingF ns (2 + 2 * (0 + (i : Int))) = x
          walk_at "go"
          refine ⟨a, ns, 3 + 2 * (0 + (i : Int)), rfl, (sH.trans s4).seq hS, hl, by omega, fun H3 s5 => ?_⟩
          generalize thingF ns (3 + 2 * (0 + (i : Int))) = y
          have s45 := s4.trans s5
          have sH3 := sH.trans s45
          have MC := MB.ex s45
          have RC := RB.ex s45
          obtain ⟨⟨la2, dw2, hw2⟩, _⟩ := MC.addrs
          walk_at "go"
          refine ⟨m, oa, na, n, ps, x, y, rfl, MC, fun na' H4 hn MD kp => ?_⟩
          have RD := RC.keepM MC kp c1 c2
          have sH4 : Same H H4 := hfr sH3 fna kp
          obtain ⟨qs, r1, r2, r3⟩ := id RD
          have hql : qs.length = ps.length := by rw [← r3, List.length_map]
          obtain ⟨qs0, r01, _⟩ := id RC
          have c3 : ra ≠ na' := by
            rcases hn with rfl | hn
            · exact c2
            · exact ne_of_none r01 hn
          have fna' : H na' = none := by
            rcases hn with rfl | hn
            · exact fna
            · exact sH3.free hn
          walk_at "go"
          refine ⟨rfl, ?_⟩
          walk_at "go"
          refine iteBF rfl ?_
          walk_at "go"
          refine E_tupA ?_
          walk_at "go"
          refine R_tupA (Nat.le_of_ble_eq_true rfl) fun t nt => ?_
          have s6 := same_upd (o := HO.tup [V.int (x % 1000003), V.int (y % 1000003)]) nt (Same.refl H4)
          walk_at "go"
          refine ⟨Nat.le_of_ble_eq_true rfl, fun q1 nq1 => ?_⟩
          have d1 : ra ≠ q1 := ne_of_none (s6 _ _ r1) nq1
          have d2 : ra ≠ t := ne_of_none r1 nt
          have s7 := s6.trans (same_upd (o := HO.lst [V.ref t]) nq1 (Same.refl _))
          walk_at "go"
          refine R_cat (s7 _ _ r1) upd_same (Nat.le_trans (m := 100000) (by rw [List.length_map, List.length_singleton]; omega) (by decide)) fun q2 nq2 => ?_
          have s8 := s7.trans (same_upd (o := HO.lst ((qs.map fun q => V.ref q.1) ++ [V.ref t])) nq2 (Same.refl _))
          walk_at "go"
          intro l3 nl3
          have ec : cutV ((qs.map fun q => V.ref q.1) ++ [V.ref t]) (some (-(n : Int))) none = ((qs ++ [(t, x % 1000003, y % 1000003)]).drop ((qs ++ [(t, x % 1000003, y % 1000003)]).length - n)).map fun q => V.ref q.1 := by
            rw [cut_last _ _ n1, List.map_drop, List.map_append, List.length_append, List.length_append, List.length_map]
            rfl
          rw [ec]
          have s9 := s8.trans (same_upd (o := HO.lst (((qs ++ [(t, x % 1000003, y % 1000003)]).drop ((qs ++ [(t, x % 1000003, y % 1000003)]).length - n)).map fun q => V.ref q.1)) nl3 (Same.refl _))
          have tt : upd H4 t (.tup [.int (x % 1000003), .int (y % 1000003)]) t = some (.tup [.int (x % 1000003), .int (y % 1000003)]) := upd_same
          have s69 : Same (upd H4 t (.tup [.int (x % 1000003), .int (y % 1000003)])) _ := ((same_upd (o := HO.lst [V.ref t]) nq1 (Same.refl _)).trans (same_upd (o := HO.lst ((qs.map fun q => V.ref q.1) ++ [V.ref t])) nq2 (Same.refl _))).trans (same_upd (o := HO.lst (((qs ++ [(t, x % 1000003, y % 1000003)]).drop ((qs ++ [(t, x % 1000003, y % 1000003)]).length - n)).map fun q => V.ref q.1)) nl3 (Same.refl _))
          have MEx := MD.ex s9
          obtain ⟨_, ⟨xo4, ho4⟩, ⟨xn4, hn4⟩⟩ := MD.addrs
          walk_at "go"
          refine ⟨lastM n (ps ++ [(x % 1000003, y % 1000003)]), l3, na', _, _, _, _, _, rfl, ?_, ?_, sH4.trans s9, MEx, ⟨(qs ++ [(t, x % 1000003, y % 1000003)]).drop ((qs ++ [(t, x % 1000003, y % 1000003)]).length - n), upd_same, fun q hq => ?_, ?_⟩, (ne_of_none (s8 _ _ ho4) nl3).symm, (ne_of_none (s8 _ _ hn4) nl3).symm, (sH4.trans s8).free nl3, fna'⟩
          · unfold lastM
            rw [List.length_drop, List.length_append, List.length_singleton]
            omega
          · intro p hp
            rcases List.mem_append.mp (List.mem_of_mem_drop hp) with hp | hp
            · exact hin p hp
            · rw [List.mem_singleton.mp hp]
              exact ⟨Int.emod_nonneg _ (by decide), Int.emod_lt_of_pos _ (by decide), Int.emod_nonneg _ (by decide), Int.emod_lt_of_pos _ (by decide)⟩
          · rcases List.mem_append.mp (List.mem_of_mem_drop hq) with hq | hq
            · exact s9 _ _ (r2 q hq)
            · rw [List.mem_singleton.mp hq]
              exact s69 _ _ tt
          · rw [List.map_drop, List.map_append, r3, List.length_append, List.length_singleton, hql]
            unfold lastM
            rw [List.length_append, List.length_singleton]
            rfl
        · walk_at "go"
          exact ⟨ps, ra, na, _, _, _, _, _, rfl, by omega, hin, sH, MB, RB, c1, c2, fra, fna⟩
      · rintro σ'' H3 ⟨ps, ra, na, v5, v6, v7, v8, v9, rfl, hlen, hin, sH, MB, RB, c1, c2, fra, fna⟩
        obtain ⟨⟨la2, dw2, hw2⟩, _⟩ := MB.addrs
        walk_at "go"
        refine ⟨m, oa, na, n, ps, rfl, MB, fun p c H4 rep s4 hp => ?_⟩
        have RC := RB.ex s4
        have MC := MB.ex s4
        walk_at "go"
        refine ⟨ra, ps, 0, rfl, RC, hin, by omega, ?_⟩
        walk_at "go"
        refine ⟨_, _, .type "tuple", .type "tuple", true, rfl, .ty "tuple", .base (.tup hp), kit_ty (by decide +kernel), ?_⟩
        walk_at "go"
        refine iteBF rfl ?_
        walk_at "go"
        refine E_tupA ?_
        walk_at "go"
        refine ⟨ra, ps, 1, rfl, RC, hin, by omega, ?_⟩
        walk_at "go"
        refine R_tupA (Nat.le_of_ble_eq_true rfl) fun t nt => ?_
        have s5 := same_upd (o := HO.tup [V.int ((made ps 1 - made ps 0) % 1000003), V.int (made ps 0)]) nt (Same.refl H4)
        have ec := rep.pair
        walk_at "go"
        refine R_nePair (p := ((made ps 1 - made ps 0) % 1000003, made ps 0)) (by have e := s5 _ _ hp; rw [ec] at e; exact e) upd_same ?_
        walk_at "go"
        refine iteBF rfl ?_
        have hp5 := s5 _ _ hp
        walk_at "go"
        refine R_ixT (v := .int c.1) (SqT.of hp5) rfl ?_
        walk_at "go"
        refine ⟨c.1, rfl, ?_⟩
        walk_at "go"
        refine iteBF rfl ?_
        walk_at "go"
        refine R_ixT (v := .int c.2) (SqT.of hp5) rfl ?_
        walk_at "go"
        refine ⟨c.2, rfl, ?_⟩
        walk_at "go"
        refine iteBF rfl ?_
        walk_at "go"
        have s45 := s4.trans s5
        refine ⟨a, ns, 20 + (0 + (i : Int)), rfl, (sH.trans s45).seq hS, hl, by omega, fun H5 s6 => ?_⟩
        generalize thingF ns (20 + (0 + (i : Int))) = x
        have s46 := s45.trans s6
        have hw5 := s46 _ _ hw2
        walk_at "go"
        refine ⟨m, oa, na, n, ps, x, rfl, MB.ex s46, fun H6 s7 => ?_⟩
        have s47 := s46.trans s7
        walk_at "go"
        refine ⟨ra, ps, x, rfl, RB.ex s47, hin, by omega, ?_⟩
        walk_at "go"
        refine iteBF (by rw [decide_eq_true rfl]; rfl) ?_
        have hw6 := s47 _ _ hw2
        walk_at "go"
        refine ⟨m, oa, na, n, ps, rfl, MB.ex s47, fun l7 H7 nl7 s8 R7 => ?_⟩
        have s48 := s47.trans s8
        walk_at "go"
        refine R_nePairs R7 (RB.ex s48) ?_
        walk_at "go"
        refine iteBF rfl ?_
        have hw7 := s48 _ _ hw2
        walk_at "go"
        refine ⟨m, oa, na, n, ps, rfl, MB.ex s48, fun l8 H8 nl8 s9 R8 => ?_⟩
        obtain ⟨qs8, e8, _⟩ := id R8
        obtain ⟨qs8r, e8r, e8t, e8l⟩ := id (RB.ex s48)
        have hq8 : qs8.length = ps.length := by rw [← R8.choose_spec.2.2, List.length_map]; exact (by
          have := R8.choose_spec.1.symm.trans e8
          have e := congrArg List.length (HO.lst.inj (Option.some.inj this))
          rw [List.length_map, List.length_map] at e
          exact e.symm)
        walk_at "go"
        refine E_tupA ?_
        walk_at "go"
        refine R_tupA (Nat.le_of_ble_eq_true rfl) fun t9 nt9 => ?_
        have d9 : l8 ≠ t9 := ne_of_none e8 nt9
        walk_at "go"
        have sE : Same H7 (upd (upd H8 t9 (.tup [.int 5, .int 5])) l8 (.lst ((qs8.map fun q => V.ref q.1) ++ [.ref t9]))) := fun b u e => by
          have g1 : b ≠ l8 := ne_of_none e nl8
          have g2 := s9 b u e
          have g3 : b ≠ t9 := ne_of_none g2 nt9
          walk_at "hp"
        exact ⟨ps, ra, na, _, _, _, _, _, _, rfl, hlen, hin, (sH.trans s48).trans sE, (MB.ex s48).ex sE, (RB.ex s48).ex sE, c1, c2, fra, fna⟩
    · rintro σ' H' ⟨ps, ra, na, v4, v5, v6, v7, v8, v9, rfl, _⟩
      walk_at "go"
      exact kq H'
end
end LF

set_option maxRecDepth 100000
set_option maxHeartbeats 4000000
namespace LF
open PySem PySem.Spec PyProof.Rows L2

/-! ### the head: facts by names, the run -/
def fn : List He.DefD := [
  ⟨("look_size", none), "look_size", "look_size", defArgs s_look_size, defBody s_look_size, defScope s_look_size, [], []⟩,
  ⟨("behind", none), "behind", "behind", defArgs s_behind, defBody s_behind, defScope s_behind, [], []⟩,
  ⟨("Maps", some "__init__"), "__init__", "Maps.__init__", defArgs s_Maps_init, defBody s_Maps_init, defScope s_Maps_init, [], []⟩,
  ⟨("Maps", some "put"), "put", "Maps.put", defArgs s_Maps_put, defBody s_Maps_put, defScope s_Maps_put, [], []⟩,
  ⟨("Maps", some "turn"), "turn", "Maps.turn", defArgs s_Maps_turn, defBody s_Maps_turn, defScope s_Maps_turn, [], []⟩,
  ⟨("Maps", some "whole"), "whole", "Maps.whole", defArgs s_Maps_whole, defBody s_Maps_whole, defScope s_Maps_whole, [], []⟩,
  ⟨("Maps", some "maps"), "maps", "Maps.maps", defArgs s_Maps_maps, defBody s_Maps_maps, defScope s_Maps_maps, [], []⟩,
  ⟨("Maps", some "at"), "at", "Maps.at", defArgs s_Maps_at, defBody s_Maps_at, defScope s_Maps_at, [], []⟩,
  ⟨("_law_cell", none), "_law_cell", "_law_cell", defArgs s_l_cell, defBody s_l_cell, defScope s_l_cell, [], []⟩,
  ⟨("_law_mix", none), "_law_mix", "_law_mix", defArgs s_l_mix, defBody s_l_mix, defScope s_l_mix, [], []⟩,
  ⟨("_law_whole", none), "_law_whole", "_law_whole", defArgs s_l_whole, defBody s_l_whole, defScope s_l_whole, [], []⟩,
  ⟨("_law_thing", none), "_law_thing", "_law_thing", defArgs s_l_thing, defBody s_l_thing, defScope s_l_thing, [], []⟩,
  ⟨("_law_made", none), "_law_made", "_law_made", defArgs s_l_made, defBody s_l_made, defScope s_l_made, [], []⟩,
  ⟨("law", none), "law", "law", defArgs s_law, defBody s_law, defScope s_law, [], []⟩]
def fa : List He.Fa := [
  .cls "Maps",
  .mkr "Maps",
  .glo "Maps",
  .glo "look_size",
  .glo "behind",
  .meth "Maps" "__init__",
  .meth "Maps" "put",
  .meth "Maps" "turn",
  .meth "Maps" "whole",
  .meth "Maps" "maps",
  .meth "Maps" "at",
  .glo "_law_cell",
  .glo "_law_mix",
  .glo "_law_whole",
  .glo "_law_thing",
  .glo "_law_made",
  .glo "law",
  .noat "Maps" "size",
  .noat "Maps" "old",
  .noat "Maps" "new",
  .noat "Maps" "last",
  .int "MOST" 1000,
  .int "ROUND" 1000003,
  .free "len",
  .free "isinstance",
  .free "list",
  .free "int",
  .free "range",
  .free "reversed",
  .free "bool",
  .free "tuple"]
theorem fn_keys : (fn.map (·.at_)).Nodup := by decide +kernel
theorem fn_one (i j : Nat) {d e : He.DefD} (hi : fn[i]? = some d) (hj : fn[j]? = some e) (h : d.at_ = e.at_) : e = d := by
  have hi2 : (fn.map (·.at_))[i]? = some d.at_ := by rw [List.getElem?_map, hi]; rfl
  have hj2 : (fn.map (·.at_))[j]? = some d.at_ := by rw [List.getElem?_map, hj, h]; rfl
  have q := nd_ix fn_keys hi2 hj2
  subst q
  rw [hi] at hj
  exact (Option.some.inj hj).symm
theorem txt_of {K : PySem.W.Frag} {h : Heap} {mg : Str → Option Value} (X : K.In h) (G : h.Ns mainGlobals mg) (c : He.SaysD fa fn K) : ∃ D : Str × Option Str → FuncData, Txt K mg D := by
  obtain ⟨D, hD⟩ : ∃ D : Str × Option Str → FuncData, ∀ (i : Nat) {d : He.DefD}, fn[i]? = some d → FunD K d.name d.qual d.params d.body d.scope (d.dvs K) (d.kws K) (He.fAd K d.at_) (D d.at_) := by
    classical
    refine ⟨fun p => if h : ∃ fd, ∃ (i : Nat) (d : He.DefD), fn[i]? = some d ∧ d.at_ = p ∧ FunD K d.name d.qual d.params d.body d.scope (d.dvs K) (d.kws K) (He.fAd K d.at_) fd then Classical.choose h else Classical.choose (c.def_ 0 (d := fn.head (by unfold fn; exact List.cons_ne_nil _ _)) rfl), fun i d hd => ?_⟩
    obtain ⟨fd, hfd⟩ := c.def_ i hd
    have hx : ∃ fd, ∃ (i : Nat) (e : He.DefD), fn[i]? = some e ∧ e.at_ = d.at_ ∧ FunD K e.name e.qual e.params e.body e.scope (e.dvs K) (e.kws K) (He.fAd K e.at_) fd := ⟨fd, i, d, hd, rfl, hfd⟩
    dsimp only
    rw [dif_pos hx]
    obtain ⟨j, e, he, ea, q⟩ := Classical.choose_spec hx
    have ed : e = d := fn_one i j hd he ea.symm
    subst ed
    exact q
  have cMaps : ClAt K mg "Maps" := ⟨He.cls_ok (c.fact 0 rfl), He.mkr_ok (c.fact 1 rfl), He.glo_ok X G (c.fact 2 rfl)⟩
  have F0 : FunD K "look_size" "look_size" (defArgs s_look_size) (defBody s_look_size) (defScope s_look_size) [] [] (He.ga K "look_size") (D ("look_size", none)) := hD 0 rfl
  have m_look_size : FnAt K mg D "look_size" s_look_size ["size"] := ⟨F0, He.glo_ok X G (c.fact 3 rfl), F0.bindsN (fun _ _ _ _ _ _ us hl => match us, hl with | [_], _ => rfl)⟩
  have F1 : FunD K "behind" "behind" (defArgs s_behind) (defBody s_behind) (defScope s_behind) [] [] (He.ga K "behind") (D ("behind", none)) := hD 1 rfl
  have m_behind : FnAt K mg D "behind" s_behind ["one", "other"] := ⟨F1, He.glo_ok X G (c.fact 4 rfl), F1.bindsN (fun _ _ _ _ _ _ us hl => match us, hl with | [_, _], _ => rfl)⟩
  have F2 : FunD K "__init__" "Maps.__init__" (defArgs s_Maps_init) (defBody s_Maps_init) (defScope s_Maps_init) [] [] (He.ma K (He.ga K "Maps") "__init__") (D ("Maps", some "__init__")) := hD 2 rfl
  have m_Maps_init : MtAt K D "Maps" "__init__" "Maps.__init__" s_Maps_init ["self", "size"] := ⟨F2, He.meth_ok (c.fact 5 rfl), F2.bindsN (fun _ _ _ _ _ _ us hl => match us, hl with | [_, _], _ => rfl)⟩
  have F3 : FunD K "put" "Maps.put" (defArgs s_Maps_put) (defBody s_Maps_put) (defScope s_Maps_put) [] [] (He.ma K (He.ga K "Maps") "put") (D ("Maps", some "put")) := hD 3 rfl
  have m_Maps_put : MtAt K D "Maps" "put" "Maps.put" s_Maps_put ["self", "times", "more"] := ⟨F3, He.meth_ok (c.fact 6 rfl), F3.bindsN (fun _ _ _ _ _ _ us hl => match us, hl with | [_, _, _], _ => rfl)⟩
  have F4 : FunD K "turn" "Maps.turn" (defArgs s_Maps_turn) (defBody s_Maps_turn) (defScope s_Maps_turn) [] [] (He.ma K (He.ga K "Maps") "turn") (D ("Maps", some "turn")) := hD 4 rfl
  have m_Maps_turn : MtAt K D "Maps" "turn" "Maps.turn" s_Maps_turn ["self"] := ⟨F4, He.meth_ok (c.fact 7 rfl), F4.bindsN (fun _ _ _ _ _ _ us hl => match us, hl with | [_], _ => rfl)⟩
  have F5 : FunD K "whole" "Maps.whole" (defArgs s_Maps_whole) (defBody s_Maps_whole) (defScope s_Maps_whole) [] [] (He.ma K (He.ga K "Maps") "whole") (D ("Maps", some "whole")) := hD 5 rfl
  have m_Maps_whole : MtAt K D "Maps" "whole" "Maps.whole" s_Maps_whole ["self"] := ⟨F5, He.meth_ok (c.fact 8 rfl), F5.bindsN (fun _ _ _ _ _ _ us hl => match us, hl with | [_], _ => rfl)⟩
  have F6 : FunD K "maps" "Maps.maps" (defArgs s_Maps_maps) (defBody s_Maps_maps) (defScope s_Maps_maps) [] [] (He.ma K (He.ga K "Maps") "maps") (D ("Maps", some "maps")) := hD 6 rfl
  have m_Maps_maps : MtAt K D "Maps" "maps" "Maps.maps" s_Maps_maps ["self"] := ⟨F6, He.meth_ok (c.fact 9 rfl), F6.bindsN (fun _ _ _ _ _ _ us hl => match us, hl with | [_], _ => rfl)⟩
  have F7 : FunD K "at" "Maps.at" (defArgs s_Maps_at) (defBody s_Maps_at) (defScope s_Maps_at) [] [] (He.ma K (He.ga K "Maps") "at") (D ("Maps", some "at")) := hD 7 rfl
  have m_Maps_at : MtAt K D "Maps" "at" "Maps.at" s_Maps_at ["self", "number"] := ⟨F7, He.meth_ok (c.fact 10 rfl), F7.bindsN (fun _ _ _ _ _ _ us hl => match us, hl with | [_, _], _ => rfl)⟩
  have F8 : FunD K "_law_cell" "_law_cell" (defArgs s_l_cell) (defBody s_l_cell) (defScope s_l_cell) [] [] (He.ga K "_law_cell") (D ("_law_cell", none)) := hD 8 rfl
  have m_l_cell : FnAt K mg D "_law_cell" s_l_cell ["_law_script", "_law_k"] := ⟨F8, He.glo_ok X G (c.fact 11 rfl), F8.bindsN (fun _ _ _ _ _ _ us hl => match us, hl with | [_, _], _ => rfl)⟩
  have F9 : FunD K "_law_mix" "_law_mix" (defArgs s_l_mix) (defBody s_l_mix) (defScope s_l_mix) [] [] (He.ga K "_law_mix") (D ("_law_mix", none)) := hD 9 rfl
  have m_l_mix : FnAt K mg D "_law_mix" s_l_mix ["_law_script", "_law_k"] := ⟨F9, He.glo_ok X G (c.fact 12 rfl), F9.bindsN (fun _ _ _ _ _ _ us hl => match us, hl with | [_, _], _ => rfl)⟩
  have F10 : FunD K "_law_whole" "_law_whole" (defArgs s_l_whole) (defBody s_l_whole) (defScope s_l_whole) [] [] (He.ga K "_law_whole") (D ("_law_whole", none)) := hD 10 rfl
  have m_l_whole : FnAt K mg D "_law_whole" s_l_whole ["_law_found"] := ⟨F10, He.glo_ok X G (c.fact 13 rfl), F10.bindsN (fun _ _ _ _ _ _ us hl => match us, hl with | [_], _ => rfl)⟩
  have F11 : FunD K "_law_thing" "_law_thing" (defArgs s_l_thing) (defBody s_l_thing) (defScope s_l_thing) [] [] (He.ga K "_law_thing") (D ("_law_thing", none)) := hD 11 rfl
  have m_l_thing : FnAt K mg D "_law_thing" s_l_thing ["_law_script", "_law_k"] := ⟨F11, He.glo_ok X G (c.fact 14 rfl), F11.bindsN (fun _ _ _ _ _ _ us hl => match us, hl with | [_, _], _ => rfl)⟩
  have F12 : FunD K "_law_made" "_law_made" (defArgs s_l_made) (defBody s_l_made) (defScope s_l_made) [] [] (He.ga K "_law_made") (D ("_law_made", none)) := hD 12 rfl
  have m_l_made : FnAt K mg D "_law_made" s_l_made ["_law_row", "_law_number"] := ⟨F12, He.glo_ok X G (c.fact 15 rfl), F12.bindsN (fun _ _ _ _ _ _ us hl => match us, hl with | [_, _], _ => rfl)⟩
  have F13 : FunD K "law" "law" (defArgs s_law) (defBody s_law) (defScope s_law) [] [] (He.ga K "law") (D ("law", none)) := hD 13 rfl
  have m_law : FnAt K mg D "law" s_law ["_law_script"] := ⟨F13, He.glo_ok X G (c.fact 16 rfl), F13.bindsN (fun _ _ _ _ _ _ us hl => match us, hl with | [_], _ => rfl)⟩
  exact ⟨D, ⟨cMaps, m_look_size, m_behind, m_Maps_init, m_Maps_put, m_Maps_turn, m_Maps_whole, m_Maps_maps, m_Maps_at, m_l_cell, m_l_mix, m_l_whole, m_l_thing, m_l_made, m_law, He.noat_ok (c.fact 17 rfl), He.noat_ok (c.fact 18 rfl), He.noat_ok (c.fact 19 rfl), He.noat_ok (c.fact 20 rfl), He.int_ok X G (c.fact 21 rfl), He.int_ok X G (c.fact 22 rfl), He.free_ok X G (c.fact 23 rfl), He.free_ok X G (c.fact 24 rfl), He.free_ok X G (c.fact 25 rfl), He.free_ok X G (c.fact 26 rfl), He.free_ok X G (c.fact 27 rfl), He.free_ok X G (c.fact 28 rfl), He.free_ok X G (c.fact 29 rfl), He.free_ok X G (c.fact 30 rfl)⟩⟩
abbrev R : PySem.W.OpenRow := PySem.W.OpenLaw.row PySem.Challenge.rw_lastfew_k11_whole_maps
abbrev hk : PySem.W.Hook := He.hookD 5 fa fn
def ob (s : PySem.W.SharedT) : He.AlD := He.obsDG 5 fa fn (HandSHeadRun.getT s)
theorem ob_eq (s : PySem.W.SharedT) : ob s = hk.obs s.abs := He.obsDG_eq (HandSHeadRun.getT_eq s)
abbrev topM : Nat := 4000
set_option maxHeartbeats 0 in
theorem run (w : World) : HandSHeadRun.RunEq R (PySem.W.view R.prog [15]) hk ob topM ["FewError", "BadWindow", "MOST", "ROUND", "look_size", "behind", "Maps", "_law_cell", "_law_mix", "_law_whole", "_law_thing", "_law_made"] w := by
  intro os
  kernel_rfl

end LF
open PySem PySem.W PySem.Calls PyProof.Rows
set_option maxHeartbeats 0 in
theorem PySem.Challenge.cw_lastfew_k11_whole_maps_holds : PySem.Challenge.rw_lastfew_k11_whole_maps.Holds := by
  w_on; o_law
  refine HandSHeadRun.head_any (r := OpenLaw.row PySem.Challenge.rw_lastfew_k11_whole_maps) (q := view (OpenLaw.row PySem.Challenge.rw_lastfew_k11_whole_maps).prog [15]) (H := LF.hk) (ob := LF.ob) (M := LF.topM) (loose := ["FewError", "BadWindow", "MOST", "ROUND", "look_size", "behind", "Maps", "_law_cell", "_law_mix", "_law_whole", "_law_thing", "_law_made"]) (d := HandSHeadRun.topDef (OpenLaw.row PySem.Challenge.rw_lastfew_k11_whole_maps).prog 15) (kwd := []) LF.ob_eq
    (by kernel_rfl) (fun s => by kernel_rfl) LF.run (by kernel_rfl) (by kernel_rfl) (by kernel_rfl) (by rfl) (by first | assumption | decide +kernel) (by decide +kernel) ⟨rfl, rfl, rfl, rfl, rfl, by decide +kernel⟩ ?hw ?hc
  case hw => w_witness2
  case hc =>
    refine L2.walk_ofE (l := PySem.Challenge.rw_lastfew_k11_whole_maps) (n := 63) (k := 6) (x := "_law_script") (CX := L2.CX0) rfl (by decide) (by kernel_rfl) ⟨rfl, by decide, by decide⟩ ?F (fun _ _ _ _ z => z)
    intro w mg fa h Y G hmg0
    obtain ⟨K, KX, c⟩ := Y
    have hmg : mg ("law" : PySem.Str) = some (.ref fa) := by
      have e : (HandSHeadRun.topDef (OpenLaw.row PySem.Challenge.rw_lastfew_k11_whole_maps).prog 15).name = ("law" : PySem.Str) := by kernel_rfl
      rw [← e]
      exact hmg0
    obtain ⟨D, T⟩ := LF.txt_of KX G c
    have e := hmg.symm.trans T.law.g
    cases e
    exact ⟨K, D ("law", none), LF.spLaw K, KX, fun s v => (T.law.F.bindsA (ps := ["_law_script"]) fun _ _ _ _ _ _ us hl => match us, hl with | [_], _ => rfl) s [v] rfl, fun H a ns hl _ hS => ⟨a, ns, rfl, hS, hl, fun _ => rfl⟩, fun base _ _ => LF.ok_law T⟩
#print axioms PySem.Challenge.cw_lastfew_k11_whole_maps_holds

