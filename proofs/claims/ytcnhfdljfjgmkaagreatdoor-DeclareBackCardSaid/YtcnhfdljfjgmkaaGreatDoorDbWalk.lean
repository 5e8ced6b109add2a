/- declare: names, kinds, texts' words; what is valid. -/
import Derived.Test.YtcnhfdljfjgmkaaGreatDoorDbTab
import Derived.Test.YtcnhfdljfjgmkaaGreatDoorVmC
import Derived.Test.YtcnhfdljfjgmkaaGreatDoorDbShelf
set_option maxRecDepth 100000
namespace Go.Vm
open Go.Proofs
attribute [local irreducible] wread wwrite wcall M.get M.set St.new St.put Does lessB wrapF

theorem draw32 : DrawOk Tryz.prog := draw_sound mixed32

def letterN (b : Nat) : Bool := decide (65 ≤ b ∧ b ≤ 90 ∨ 97 ≤ b ∧ b ≤ 122)
def partN (b : Nat) : Bool := letterN b || decide (48 ≤ b ∧ b ≤ 57) || decide (b = 95) || decide (b = 45) || decide (b = 46)
def headLetter (s : List Nat) : Bool := match s with | [] => false | b :: _ => letterN b
def isNameN (s : List Nat) : Bool := decide (1 ≤ s.length ∧ s.length ≤ 40) && headLetter s && s.all partN

theorem t_letter (lo : Nat) (σ : St) (c : Nat) : Does Tryz.prog lo 68 [.int .u8 (c : Int)] σ (.bool (letterN c)) σ := by
  refine does_pure draw32 tb68 (by kernel_rfl) rfl ?_
  repeat' ((conv => whnf); split)
  all_goals (conv => whnf)
  all_goals refine ⟨boolV ?_, Keeps.refl _⟩
  all_goals simp_all [letterN]
  all_goals omega

theorem t_part (lo : Nat) (σ : St) (c : Nat) : Does Tryz.prog lo 69 [.int .u8 (c : Int)] σ (.bool (partN c)) σ := by
  refine does_pure draw32 tb69 (by kernel_rfl) rfl ?_
  conv => whnf
  refine wcall_of (t_letter _ _ _) ?_
  repeat' ((conv => whnf); split)
  all_goals (conv => whnf)
  all_goals refine ⟨boolV ?_, Keeps.refl _⟩
  all_goals simp_all [partN]
  all_goals omega

theorem isNameN_cons (b : Nat) (s : List Nat) (h : s.length < 40) : isNameN (b :: s) = (letterN b && (b :: s).all partN) := by
  simp [isNameN, headLetter, Nat.lt_iff_add_one_le.1 h]

theorem t_isName (lo : Nat) (σ : St) (s : List Nat) : Does Tryz.prog lo 31 [.str s] σ (.bool (isNameN s)) σ := by
  refine does_pure draw32 tb31 (by kernel_rfl) rfl ?_
  (conv => whnf)
  split
  · (conv => whnf)
    refine ⟨boolV ?_, Keeps.refl _⟩
    have : s = [] := by simp_all; exact List.length_eq_zero_iff.1 (by omega)
    subst this; rfl
  · (conv => whnf); split
    · (conv => whnf)
      refine ⟨boolV ?_, Keeps.refl _⟩
      simp_all [isNameN]; omega
    · (conv => whnf)
      refine ⟨by omega, ?_⟩
      cases s with
      | nil => simp at *
      | cons b s =>
        rename_i h1 _ h2
        have hl : s.length < 40 := by simp at h2; omega
        rw [isNameN_cons b s hl]
        refine ⟨b, rfl, ?_⟩
        (conv => whnf)
        refine wcall_of (t_letter _ _ _) ?_
        (conv => whnf); split
        · (conv => whnf)
          refine ⟨boolV ?_, Keeps.refl _⟩
          simp_all
        · (conv => whnf)
          refine WL.run (fun n F σ' => ∃ F0 i, F = put (put (put F0 0 (.str (b :: s))) 19 (.int .i64 ((b :: s).length : Nat))) 20 (.int .i64 (i : Nat)) ∧ σ' = σ ∧ i + n = (b :: s).length ∧ ((b :: s).take i).all partN = true) ?_ (b :: s).length _ _ ⟨_, 0, fix3 rfl rfl rfl, rfl, by omega, rfl⟩
          rintro n F σ' ⟨F0, i, rfl, rfl, hi, hall⟩
          (conv => whnf); split
          · rename_i h3
            have h3 : i < (b :: s).length := by have := of_decide_eq_true h3; omega
            (conv => whnf)
            refine ⟨by omega, _, List.getElem?_eq_getElem h3, ?_⟩
            (conv => whnf)
            refine wcall_of (t_part _ _ _) ?_
            (conv => whnf); split
            · (conv => whnf)
              rename_i h4
              refine ⟨boolV ?_, Keeps.refl _⟩
              have hm : (b :: s)[i] ∈ b :: s := List.getElem_mem _
              simp only [Bool.not_eq_true', Bool.false_eq_true, false_iff, Bool.and_eq_true, List.all_eq_true, not_and] at h4 ⊢
              intro _ h5
              rw [h5 _ hm] at h4; cases h4
            · rename_i h4
              (conv => whnf)
              refine ⟨by simp at h3; omega, ?_⟩
              (conv => whnf)
              refine ⟨n - 1, by omega, _, i + 1, fix3 rfl rfl rfl, rfl, by omega, ?_⟩
              rw [List.take_succ_eq_append_getElem h3, List.all_append, hall]
              simpa using h4
          · rename_i h3
            have h3 : ¬ i < (b :: s).length := by have := of_decide_eq_false h3; omega
            (conv => whnf)
            refine ⟨boolV ?_, Keeps.refl _⟩
            rw [List.take_of_length_le (by omega)] at hall
            simp_all

def words : List (List Nat) := [[], [101, 120, 105, 115, 116, 101, 110, 99, 101], [97, 98, 115, 101, 110, 99, 101], [101, 120, 97, 99, 116, 108, 121], [105, 110, 105, 116], [101, 110, 100], [114, 101, 115, 112, 111, 110, 115, 101], [112, 114, 101, 99, 101, 100, 101, 110, 99, 101], [115, 117, 99, 99, 101, 115, 115, 105, 111, 110], [97, 108, 116, 101, 114, 110, 97, 116, 101, 95, 114, 101, 115, 112, 111, 110, 115, 101], [97, 108, 116, 101, 114, 110, 97, 116, 101, 95, 112, 114, 101, 99, 101, 100, 101, 110, 99, 101], [99, 104, 97, 105, 110, 95, 114, 101, 115, 112, 111, 110, 115, 101], [99, 104, 97, 105, 110, 95, 112, 114, 101, 99, 101, 100, 101, 110, 99, 101], [110, 111, 116, 95, 99, 111, 101, 120, 105, 115, 116, 101, 110, 99, 101], [110, 111, 116, 95, 115, 117, 99, 99, 101, 115, 115, 105, 111, 110], [114, 101, 115, 112, 111, 110, 100, 101, 100], [99, 104, 111, 105, 99, 101], [101, 120, 99, 108, 117, 115, 105, 118, 101]]
def wordN (k : Nat) : List Nat := words.getD k []
def countedN (k : Int) : Bool := decide (k = 1 ∨ k = 2 ∨ k = 3)

theorem t_counted (lo : Nat) (σ : St) (k : Int) : Does Tryz.prog lo 28 [.int .i64 k] σ (.bool (countedN k)) σ := by
  refine does_pure draw32 tb28 (by kernel_rfl) rfl ?_
  repeat' ((conv => whnf); split)
  all_goals (conv => whnf)
  all_goals refine ⟨boolV ?_, Keeps.refl _⟩
  all_goals simp_all [countedN]

theorem t_word (lo : Nat) (σ : St) (k : Nat) (hk : k < 18) : Does Tryz.prog lo 27 [.int .i64 (k : Int)] σ (.str (wordN k)) σ := by
  refine does_pure draw32 tb27 (by kernel_rfl) rfl ?_
  (conv => whnf)
  refine ⟨by omega, ?_⟩
  (conv => whnf)
  refine ⟨hk, ?_⟩
  (conv => whnf)
  refine wread_one (St.new_get _ _) (x := .str (wordN k)) ?_ ?_
  · show (words.map V.str)[0 + k]? = _
    rw [Nat.zero_add, List.getElem?_map, wordN, List.getD]
    have : k < words.length := hk
    simp [this]
  · (conv => whnf)
    exact ⟨rfl, Keeps.new _ _⟩

structure Rul where
  k : Int
  A : List Nat
  B : List Nat
  N : Int
def Rul.v (r : Rul) : V := .agg [.int .i64 r.k, .str r.A, .str r.B, .int .i64 r.N]

def validN (r : Rul) : Bool :=
  decide (1 ≤ r.k ∧ r.k ≤ 17) && isNameN r.A &&
    cond (countedN r.k) (decide (r.B = []) && decide ((if r.k = 1 then 1 else 0) ≤ r.N) && decide (r.N ≤ 5))
      (cond (decide (r.k = 4 ∨ r.k = 5)) (decide (r.B = []) && decide (r.N = 0)) (decide (r.N = 0) && isNameN r.B && decide (r.B ≠ r.A)))

theorem t_valid (lo : Nat) (σ : St) (r : Rul) : Does Tryz.prog lo 10 [r.v] σ (.bool (validN r)) σ := by
  obtain ⟨k, A, B, N⟩ := r
  show Does _ _ _ [.agg [.int .i64 k, .str A, .str B, .int .i64 N]] _ _ _
  refine does_pure draw32 tb10 (by kernel_rfl) rfl ?_
  repeat' ((conv => whnf); first | split | refine wread_of (St.new_get _ _) ?_ | refine wcall_of (t_isName _ _ _) ?_ | refine wcall_of (t_counted _ _ _) ?_)
  all_goals (conv => whnf)
  all_goals refine ⟨boolV ?_, Keeps.new _ _⟩
  all_goals simp_all [validN]
  all_goals (intros; omega)

/-- The first place at which a predicate holds. -/
def findN {α : Type} (p : α → Bool) : List α → Int
  | [] => -1
  | x :: xs => if p x then 0 else if findN p xs = -1 then -1 else findN p xs + 1
theorem findN_skip {α : Type} {p : α → Bool} {xs : List α} {i : Nat} (h : (xs.take i).all (fun x => !p x) = true) (hi : i < xs.length) (hp : p xs[i] = true) : findN p xs = (i : Int) := by
  induction xs generalizing i with
  | nil => cases hi
  | cons x xs ih =>
    cases i with
    | zero => simp at hp; simp [findN, hp]
    | succ i =>
      simp at h hp hi
      have := ih (i := i) (by simpa using h.2) hi hp
      simp [findN, h.1, this]
theorem findN_none {α : Type} {p : α → Bool} {xs : List α} (h : xs.all (fun x => !p x) = true) : findN p xs = -1 := by
  induction xs with
  | nil => rfl
  | cons x xs ih =>
    simp at h
    simp [findN, h.1, ih (by simpa using h.2)]
theorem findN_ge {α : Type} (p : α → Bool) (xs : List α) : -1 ≤ findN p xs := by
  induction xs with
  | nil => simp [findN]
  | cons y ys ih2 => simp only [findN]; split <;> (try split) <;> omega
theorem findN_any {α : Type} (p : α → Bool) (xs : List α) : decide (0 ≤ findN p xs) = xs.any p := by
  induction xs with
  | nil => rfl
  | cons x xs ih =>
    simp only [findN, List.any_cons]
    split
    · simp_all
    · rename_i h
      simp only [Bool.not_eq_true] at h
      rw [h, Bool.false_or, ← ih]
      split
      · rename_i h1; simp [h1]
      · have := findN_ge p xs
        simp only [decide_eq_decide]; omega

theorem str_at {xs : List (List Nat)} {i : Nat} (h : i < xs.length) : (xs.map V.str)[i]? = some (.str xs[i]) := by rw [List.getElem?_map, List.getElem?_eq_getElem h]; rfl
theorem int_at {xs : List Int} {i : Nat} (h : i < xs.length) : (xs.map (V.int .i64))[i]? = some (.int .i64 xs[i]) := by rw [List.getElem?_map, List.getElem?_eq_getElem h]; rfl

abbrev Strs (σ : St) (v : V) (xs : List (List Nat)) : Prop := Elems σ v (xs.map V.str)
abbrev Ints (σ : St) (v : V) (xs : List Int) : Prop := Elems σ v (xs.map (V.int .i64))

theorem t_indexFuncS (lo : Nat) (σ : St) (v : V) (xs : List (List Nat)) (hx : Strs σ v xs) (hn : xs.length ≤ 9223372036854775807) (g : Nat) (fs cs : List V) (p : List Nat → Bool) (hp : ∀ x ∈ xs, ∀ lo, Does Tryz.prog lo g (fs ++ ([.str x] ++ cs)) σ (.bool (p x)) σ) :
    Does Tryz.prog lo 62 [v, .func g fs cs] σ (.int .i64 (findN p xs)) σ := by
  refine does_pure draw32 tb62 (by kernel_rfl) rfl ?_
  rcases hx with ⟨rfl, hx⟩ | ⟨b, o, cap, l, rw', anc, rfl, hb, hg, hl⟩
  · obtain rfl : xs = [] := by simpa using hx
    (conv => whnf)
    refine WL.step ?_
    (conv => whnf)
    exact ⟨rfl, Keeps.refl _⟩
  · rw [List.length_map]
    (conv => whnf)
    refine WL.run (fun n F σ' => ∃ F0 i, F = put (put (put (put F0 0 (.slice b o xs.length cap)) 1 (.func g fs cs)) 7 (.int .i64 (xs.length : Nat))) 8 (.int .i64 (i : Nat)) ∧ σ' = σ ∧ i + n = xs.length ∧ (xs.take i).all (fun x => !p x) = true) ?_ xs.length _ _ ⟨_, 0, fix4 rfl rfl rfl rfl, rfl, by omega, rfl⟩
    rintro n F σ' ⟨F0, i, rfl, rfl, hi, hall⟩
    (conv => whnf); split
    · rename_i h3
      have h3 : i < xs.length := by have := of_decide_eq_true h3; omega
      (conv => whnf)
      refine ⟨by omega, ?_⟩
      (conv => whnf)
      refine ⟨h3, ?_⟩
      (conv => whnf)
      refine wread_one hg (hl i _ (str_at h3)) ?_
      (conv => whnf)
      refine wcall_of (hp _ (List.getElem_mem h3) _) ?_
      (conv => whnf); split
      · rename_i h4
        (conv => whnf)
        rw [findN_skip hall h3 h4]
        exact ⟨rfl, Keeps.refl _⟩
      · rename_i h4
        (conv => whnf)
        refine ⟨by omega, ?_⟩
        (conv => whnf)
        refine ⟨n - 1, by omega, _, i + 1, fix4 rfl rfl rfl rfl, rfl, by omega, ?_⟩
        rw [List.take_succ_eq_append_getElem h3, List.all_append, hall]
        simpa using h4
    · rename_i h3
      have h3 : ¬ i < xs.length := by have := of_decide_eq_false h3; omega
      (conv => whnf)
      rw [List.take_of_length_le (by omega)] at hall
      rw [findN_none hall]
      exact ⟨rfl, Keeps.refl _⟩

theorem t_containsFuncS (lo : Nat) (σ : St) (v : V) (xs : List (List Nat)) (hx : Strs σ v xs) (hn : xs.length ≤ 9223372036854775807) (g : Nat) (fs cs : List V) (p : List Nat → Bool) (hp : ∀ x ∈ xs, ∀ lo, Does Tryz.prog lo g (fs ++ ([.str x] ++ cs)) σ (.bool (p x)) σ) :
    Does Tryz.prog lo 23 [v, .func g fs cs] σ (.bool (xs.any p)) σ := by
  refine does_pure draw32 tb23 (by kernel_rfl) rfl ?_
  have key := t_indexFuncS lo σ v xs hx hn g fs cs p hp
  rcases hx with ⟨rfl, hx⟩ | ⟨b, o, cap, l, rw', anc, rfl, hb, hg, hl⟩
  all_goals
    (conv => whnf)
    refine wcall_of key ?_
    (conv => whnf)
    rw [← findN_any]
    exact ⟨rfl, Keeps.refl _⟩

theorem t_short1 (lo : Nat) (σ : St) (s : List Nat) : Does Tryz.prog lo 24 [.str s] σ (.bool (decide (100 < s.length))) σ := by
  refine does_pure draw32 tb24 (by kernel_rfl) rfl ?_
  (conv => whnf)
  exact ⟨boolV (by simp; omega), Keeps.refl _⟩
theorem t_proper1 (lo : Nat) (σ : St) (s : List Nat) : Does Tryz.prog lo 70 [.str s] σ (.bool (!isNameN s)) σ := by
  refine does_pure draw32 tb70 (by kernel_rfl) rfl ?_
  (conv => whnf)
  refine wcall_of (t_isName _ _ _) ?_
  (conv => whnf)
  exact ⟨rfl, Keeps.refl _⟩

theorem t_indexS (lo : Nat) (σ : St) (v : V) (xs : List (List Nat)) (hx : Strs σ v xs) (hn : xs.length ≤ 9223372036854775807) (s : List Nat) :
    Does Tryz.prog lo 56 [v, .str s] σ (.int .i64 (findN (fun x => decide (s = x)) xs)) σ := by
  refine does_pure draw32 tb56 (by kernel_rfl) rfl ?_
  rcases hx with ⟨rfl, hx⟩ | ⟨b, o, cap, l, rw', anc, rfl, hb, hg, hl⟩
  · obtain rfl : xs = [] := by simpa using hx
    (conv => whnf)
    refine WL.step ?_
    (conv => whnf)
    exact ⟨rfl, Keeps.refl _⟩
  · rw [List.length_map]
    (conv => whnf)
    refine WL.run (fun n F σ' => ∃ F0 i, F = put (put (put (put F0 0 (.slice b o xs.length cap)) 1 (.str s)) 7 (.int .i64 (xs.length : Nat))) 8 (.int .i64 (i : Nat)) ∧ σ' = σ ∧ i + n = xs.length ∧ (xs.take i).all (fun x => !decide (s = x)) = true) ?_ xs.length _ _ ⟨_, 0, fix4 rfl rfl rfl rfl, rfl, by omega, rfl⟩
    rintro n F σ' ⟨F0, i, rfl, rfl, hi, hall⟩
    (conv => whnf); split
    · rename_i h3
      have h3 : i < xs.length := by have := of_decide_eq_true h3; omega
      (conv => whnf)
      refine ⟨by omega, ?_⟩
      (conv => whnf)
      refine ⟨h3, ?_⟩
      (conv => whnf)
      refine wread_one hg (hl i _ (str_at h3)) ?_
      (conv => whnf); split
      · rename_i h4
        (conv => whnf)
        rw [findN_skip hall h3 h4]
        exact ⟨rfl, Keeps.refl _⟩
      · rename_i h4
        (conv => whnf)
        refine ⟨by omega, ?_⟩
        (conv => whnf)
        refine ⟨n - 1, by omega, _, i + 1, fix4 rfl rfl rfl rfl, rfl, by omega, ?_⟩
        rw [List.take_succ_eq_append_getElem h3, List.all_append, hall]
        simpa using h4
    · rename_i h3
      have h3 : ¬ i < xs.length := by have := of_decide_eq_false h3; omega
      (conv => whnf)
      rw [List.take_of_length_le (by omega)] at hall
      rw [findN_none hall]
      exact ⟨rfl, Keeps.refl _⟩

theorem t_containsS (lo : Nat) (σ : St) (v : V) (xs : List (List Nat)) (hx : Strs σ v xs) (hn : xs.length ≤ 9223372036854775807) (s : List Nat) :
    Does Tryz.prog lo 33 [v, .str s] σ (.bool (xs.any fun x => decide (s = x))) σ := by
  refine does_pure draw32 tb33 (by kernel_rfl) rfl ?_
  have key := t_indexS lo σ v xs hx hn s
  rcases hx with ⟨rfl, hx⟩ | ⟨b, o, cap, l, rw', anc, rfl, hb, hg, hl⟩
  all_goals
    (conv => whnf)
    refine wcall_of key ?_
    (conv => whnf)
    rw [← findN_any]
    exact ⟨rfl, Keeps.refl _⟩

theorem t_indexI (lo : Nat) (σ : St) (v : V) (xs : List Int) (hx : Ints σ v xs) (hn : xs.length ≤ 9223372036854775807) (s : Int) :
    Does Tryz.prog lo 130 [v, .int .i64 s] σ (.int .i64 (findN (fun x => decide (s = x)) xs)) σ := by
  refine does_pure draw32 tb130 (by kernel_rfl) rfl ?_
  rcases hx with ⟨rfl, hx⟩ | ⟨b, o, cap, l, rw', anc, rfl, hb, hg, hl⟩
  · obtain rfl : xs = [] := by simpa using hx
    (conv => whnf)
    refine WL.step ?_
    (conv => whnf)
    exact ⟨rfl, Keeps.refl _⟩
  · rw [List.length_map]
    (conv => whnf)
    refine WL.run (fun n F σ' => ∃ F0 i, F = put (put (put (put F0 0 (.slice b o xs.length cap)) 1 (.int .i64 s)) 7 (.int .i64 (xs.length : Nat))) 8 (.int .i64 (i : Nat)) ∧ σ' = σ ∧ i + n = xs.length ∧ (xs.take i).all (fun x => !decide (s = x)) = true) ?_ xs.length _ _ ⟨_, 0, fix4 rfl rfl rfl rfl, rfl, by omega, rfl⟩
    rintro n F σ' ⟨F0, i, rfl, rfl, hi, hall⟩
    (conv => whnf); split
    · rename_i h3
      have h3 : i < xs.length := by have := of_decide_eq_true h3; omega
      (conv => whnf)
      refine ⟨by omega, ?_⟩
      (conv => whnf)
      refine ⟨h3, ?_⟩
      (conv => whnf)
      refine wread_one hg (hl i _ (int_at h3)) ?_
      (conv => whnf); split
      · rename_i h4
        (conv => whnf)
        rw [findN_skip hall h3 h4]
        exact ⟨rfl, Keeps.refl _⟩
      · rename_i h4
        (conv => whnf)
        refine ⟨by omega, ?_⟩
        (conv => whnf)
        refine ⟨n - 1, by omega, _, i + 1, fix4 rfl rfl rfl rfl, rfl, by omega, ?_⟩
        rw [List.take_succ_eq_append_getElem h3, List.all_append, hall]
        simpa using h4
    · rename_i h3
      have h3 : ¬ i < xs.length := by have := of_decide_eq_false h3; omega
      (conv => whnf)
      rw [List.take_of_length_le (by omega)] at hall
      rw [findN_none hall]
      exact ⟨rfl, Keeps.refl _⟩

theorem t_containsI (lo : Nat) (σ : St) (v : V) (xs : List Int) (hx : Ints σ v xs) (hn : xs.length ≤ 9223372036854775807) (s : Int) :
    Does Tryz.prog lo 107 [v, .int .i64 s] σ (.bool (xs.any fun x => decide (s = x))) σ := by
  refine does_pure draw32 tb107 (by kernel_rfl) rfl ?_
  have key := t_indexI lo σ v xs hx hn s
  rcases hx with ⟨rfl, hx⟩ | ⟨b, o, cap, l, rw', anc, rfl, hb, hg, hl⟩
  all_goals
    (conv => whnf)
    refine wcall_of key ?_
    (conv => whnf)
    rw [← findN_any]
    exact ⟨rfl, Keeps.refl _⟩
end Go.Vm

/- declare: the machines of rules. -/
set_option maxRecDepth 100000
namespace Go.Vm
open Go.Proofs
attribute [local irreducible] wread wwrite wcall M.get M.set St.new St.put Does lessB wrapF

def isN (r : Rul) (act : List Nat) : Nat := if act = r.A then 1 else if act = r.B then 2 else 0

theorem t_is (lo : Nat) (σ : St) (r : Rul) (act : List Nat) : Does Tryz.prog lo 35 [r.v, .str act] σ (.int .i64 (isN r act : Nat)) σ := by
  obtain ⟨k, A, B, N⟩ := r
  show Does _ _ _ [.agg [.int .i64 k, .str A, .str B, .int .i64 N], _] _ _ _
  refine does_pure draw32 tb35 (by kernel_rfl) rfl ?_
  repeat' ((conv => whnf); first | split | refine wread_of (St.new_get _ _) ?_)
  all_goals (conv => whnf)
  all_goals refine ⟨?_, Keeps.new _ _⟩
  all_goals simp_all [isN, tupV]

theorem t_of1 (lo : Nat) (σ : St) (b : Nat) (rw' : Bool) (anc : List Nat) (k : Int) (A B : List Nat) (N : Nat) (hg : σ.mem.get b = .cells [.int .i64 k, .str A, .str B, .int .i64 (N : Int)] rw' anc) (s c : Nat) (hs : s < 1000000) (hN : N < 1000000) :
    Does Tryz.prog lo 71 [.int .i64 (s : Int), .int .i64 (c : Int), .ptr b 0] σ (.int .i64 ((if c = 1 then min (s + 1) (N + 1) else s : Nat) : Int)) σ := by
  refine does_pure draw32 tb71 (by kernel_rfl) rfl ?_
  (conv => whnf); split
  · rename_i h
    have h : c = 1 := by have := of_decide_eq_true h; omega
    subst h
    (conv => whnf)
    refine ⟨by omega, ?_⟩
    (conv => whnf)
    refine wread_of hg ?_
    (conv => whnf)
    refine ⟨by omega, ?_⟩
    (conv => whnf)
    refine ⟨?_, Keeps.refl _⟩
    have : min ((s : Int) + 1) ((N : Int) + 1) = ((min (s + 1) (N + 1) : Nat) : Int) := by omega
    simp only [tupV, if_true, cond_false, this]
  · rename_i h
    have h : c ≠ 1 := by have := of_decide_eq_false h; omega
    (conv => whnf)
    refine ⟨?_, Keeps.refl _⟩
    simp only [tupV, if_neg h]

theorem t_of2 (lo : Nat) (σ : St) (b : Nat) (rw' : Bool) (anc : List Nat) (k : Int) (A B : List Nat) (N : Nat) (hg : σ.mem.get b = .cells [.int .i64 k, .str A, .str B, .int .i64 (N : Int)] rw' anc) (s : Nat) :
    Does Tryz.prog lo 72 [.int .i64 (s : Int), .ptr b 0] σ (.bool ((decide (N ≤ s) || decide (k = 2)) && (decide (s ≤ N) || decide (k = 1)))) σ := by
  refine does_pure draw32 tb72 (by kernel_rfl) rfl ?_
  repeat' ((conv => whnf); first | split | refine wread_of hg ?_)
  all_goals (conv => whnf)
  all_goals refine ⟨boolV ?_, Keeps.refl _⟩
  all_goals simp_all
  all_goals omega

theorem t_tab1 (lo : Nat) (σ : St) (b b2 : Nat) (rw' rw2 : Bool) (anc anc2 : List Nat) (n : Nat) (cap : Cap) (hg : σ.mem.get b = .cells [.slice b2 0 n cap] rw' anc) (zs : List Int) (hg2 : σ.mem.get b2 = .cells (zs.map (V.int .i64)) rw2 anc2)
    (s c : Nat) (hs : s < n) (hc : c < 3) (x : Int) (hx : zs[s * 3 + c]? = some x) :
    Does Tryz.prog lo 105 [.int .i64 (s : Int), .int .i64 (c : Int), .ptr b 0] σ (.int .i64 x) σ := by
  refine does_pure draw32 tb105 (by kernel_rfl) rfl ?_
  (conv => whnf)
  refine wread_of hg ?_
  (conv => whnf)
  refine ⟨by omega, ?_⟩
  (conv => whnf)
  refine ⟨hs, ?_⟩
  (conv => whnf)
  refine ⟨by omega, ?_⟩
  (conv => whnf)
  refine ⟨hc, ?_⟩
  (conv => whnf)
  refine wread_one hg2 (x := .int .i64 x) ?_ ?_
  · show (zs.map (V.int .i64))[0 + s * 3 + c]? = _
    rw [Nat.zero_add, List.getElem?_map, hx]; rfl
  · (conv => whnf)
    exact ⟨rfl, Keeps.refl _⟩

theorem t_tab2 (lo : Nat) (σ : St) (b : Nat) (rw' : Bool) (anc : List Nat) (v : V) (zs : List Int) (hv : Ints σ v zs) (hn : zs.length ≤ 9223372036854775807) (hg : σ.mem.get b = .cells [v] rw' anc) (s : Int) :
    Does Tryz.prog lo 106 [.int .i64 s, .ptr b 0] σ (.bool (zs.any fun x => decide (s = x))) σ := by
  refine does_pure draw32 tb106 (by kernel_rfl) rfl ?_
  have key := t_containsI lo σ v zs hv hn s
  rcases hv with ⟨rfl, hx⟩ | ⟨b, o, cap, l, rw', anc, rfl, hb, hg, hl⟩
  all_goals
    (conv => whnf)
    refine wread_of (by assumption) ?_
    (conv => whnf)
    refine wcall_of key ?_
    (conv => whnf)
    exact ⟨rfl, Keeps.refl _⟩

/-- A machine of a rule, that needs some blocks. -/
def MachS (S : List Nat) (σ : St) (v : V) (n : Nat) (step : Nat → Nat → Nat) (ends : Nat → Bool) : Prop :=
  ∃ f1 c1 f2 c2, v = .agg [.func f1 [] c1, .func f2 [] c2] ∧ ∀ σ', σ.next ≤ σ'.next → (∀ id ∈ S, σ'.mem.get id = σ.mem.get id) → ∀ lo s, s < n →
    (∀ c, c < 3 → Does Tryz.prog lo f1 ([] ++ ([.int .i64 (s : Int), .int .i64 (c : Int)] ++ c1)) σ' (.int .i64 (step s c : Int)) σ') ∧
    Does Tryz.prog lo f2 ([] ++ ([.int .i64 (s : Int)] ++ c2)) σ' (.bool (ends s)) σ'
def Mach (σ : St) (v : V) (n : Nat) (step : Nat → Nat → Nat) (ends : Nat → Bool) : Prop := ∃ S, (∀ id ∈ S, id < σ.next) ∧ MachS S σ v n step ends

theorem MachS.move {S : List Nat} {σ σ2 : St} {v : V} {n : Nat} {step : Nat → Nat → Nat} {ends : Nat → Bool} (h : MachS S σ v n step ends) (hn : σ.next ≤ σ2.next) (hs : ∀ id ∈ S, σ2.mem.get id = σ.mem.get id) : MachS S σ2 v n step ends := by
  obtain ⟨f1, c1, f2, c2, rfl, h⟩ := h
  exact ⟨f1, c1, f2, c2, rfl, fun σ' h1 h2 => h σ' (Nat.le_trans hn h1) fun id hid => (h2 id hid).trans (hs id hid)⟩

theorem Mach.keeps {σ σ2 : St} {v : V} {n : Nat} {step : Nat → Nat → Nat} {ends : Nat → Bool} (h : Mach σ v n step ends) (hk : Keeps σ σ2) : Mach σ2 v n step ends := by
  obtain ⟨S, h1, h2⟩ := h
  exact ⟨S, fun id hid => Nat.lt_of_lt_of_le (h1 id hid) hk.next, h2.move hk.next fun id hid => hk.get id (h1 id hid)⟩

theorem t_table (lo : Nat) (σ : St) (hlo : lo ≤ σ.next) (b1 b2 n1 n2 : Nat) (c1 c2 : Cap) (zs es : List Int) (n : Nat) (step : Nat → Nat → Nat) (ends : Nat → Bool) (rw1 rw2 : Bool) (a1 a2 : List Nat)
    (h1 : σ.mem.get b1 = .cells (zs.map (V.int .i64)) rw1 a1) (hb1 : b1 < σ.next) (h2 : σ.mem.get b2 = .cells (es.map (V.int .i64)) rw2 a2) (hb2 : b2 < σ.next) (hn1 : n1 = n) (hn2 : es.length = n2) (hes : es.length < 100)
    (hz : ∀ s, s < n → ∀ c, c < 3 → zs[s * 3 + c]? = some (step s c : Int)) (he : ∀ s, s < n → ends s = es.any fun x => decide ((s : Int) = x)) :
    ∃ v σ', Does Tryz.prog lo 73 [.slice b1 0 n1 c1, .slice b2 0 n2 c2] σ v σ' ∧ (Keeps σ σ' ∧ σ'.next = σ.next + 3 ∧ MachS [b1, b2, σ.next, σ.next + 1] σ' v n step ends) := by
  subst hn1 hn2
  refine does_wf draw32 tb73 (by kernel_rfl) ?_
  (conv => whnf)
  refine wwrite_all (St.new_get _ _) ?_ rfl rfl ?_
  · simp only [St.new_next]; omega
  (conv => whnf)
  refine wread_of (St.put_get _ _ _) ?_
  (conv => whnf)
  refine ⟨(((Keeps.new _ _).add _).add _).put (by simp only [St.new_next]; omega) _, by simp only [St.new_next, St.put_next], _, _, _, _, rfl, ?_⟩
  intro σ' hnx hk lo s hs
  have hn1 : σ.next + 3 ≤ σ'.next := by simp only [St.new_next, St.put_next] at hnx; omega
  have e1 : σ'.mem.get σ.next = .cells [.slice b1 0 n1 c1] true [] := (hk _ (by simp)).trans (by
    simp only [St.new_get', St.put_get', St.new_next, ↓reduceIte]
    repeat' split
    all_goals first | omega | rfl)
  have e2 : σ'.mem.get (σ.next + 1) = .cells [.slice b2 0 es.length c2] true [] := (hk _ (by simp)).trans (by
    simp only [St.new_get', St.put_get', St.new_next, ↓reduceIte]
    repeat' split
    all_goals first | omega | rfl)
  have e3 : σ'.mem.get b1 = .cells (zs.map (V.int .i64)) rw1 a1 := (hk _ (by simp)).trans (by
    simp only [St.new_get', St.put_get', St.new_next]
    repeat' split
    all_goals first | omega | exact h1)
  have e4 : σ'.mem.get b2 = .cells (es.map (V.int .i64)) rw2 a2 := (hk _ (by simp)).trans (by
    simp only [St.new_get', St.put_get', St.new_next]
    repeat' split
    all_goals first | omega | exact h2)
  refine ⟨fun c hc => ?_, ?_⟩
  · exact t_tab1 lo σ' _ _ _ _ _ _ _ _ e1 zs e3 s c hs hc _ (hz s hs c hc)
  · rw [he s hs]
    refine t_tab2 lo σ' _ _ _ (.slice b2 0 es.length c2) es ?_ (by omega) (by rw [St.new_next]; exact e2) s
    exact .inr ⟨b2, 0, c2, _, _, _, by rw [List.length_map], by omega, e4, fun i x hx => by rw [Nat.zero_add]; exact hx⟩

def rowsOf (k : Int) : List Int := match k with
  | 4 => [2, 1, 2, 1, 1, 1, 2, 2, 2]
  | 5 => [2, 1, 2, 2, 1, 2, 2, 1, 2]
  | 6 => [0, 1, 0, 1, 1, 0]
  | 7 => [0, 1, 2, 1, 1, 1, 2, 2, 2]
  | 8 => [0, 1, 3, 1, 1, 2, 2, 1, 2, 3, 3, 3]
  | 9 => [0, 1, 0, 1, 2, 0, 2, 2, 2]
  | 10 => [0, 1, 2, 1, 1, 0, 2, 2, 2]
  | 11 => [0, 1, 0, 2, 2, 0, 2, 2, 2]
  | 12 => [0, 1, 2, 0, 1, 0, 2, 2, 2]
  | 13 => [0, 1, 2, 1, 1, 3, 2, 3, 2, 3, 3, 3]
  | 14 => [0, 1, 0, 1, 1, 2, 2, 2, 2]
  | 15 => [0, 1, 2, 1, 1, 3, 2, 3, 2, 3, 3, 3]
  | 16 => [0, 1, 2, 1, 1, 3, 2, 3, 2, 3, 3, 3]
  | 17 => [0, 1, 2, 1, 1, 3, 2, 3, 2, 3, 3, 3]
  | _ => []
def endsOf (k : Int) : List Int := match k with
  | 4 => [0, 1]
  | 5 => [0, 1]
  | 6 => [0]
  | 7 => [0, 1]
  | 8 => [0, 2]
  | 9 => [0]
  | 10 => [0, 1]
  | 11 => [0]
  | 12 => [0, 1]
  | 13 => [0, 1, 2]
  | 14 => [0, 1]
  | 15 => [0, 2, 3]
  | 16 => [1, 2, 3]
  | 17 => [1, 2]
  | _ => []
def stepT (k : Int) (s c : Nat) : Nat := ((rowsOf k).getD (s * 3 + c) 0).toNat
def endsT (k : Int) (s : Nat) : Bool := (endsOf k).any fun x => decide ((s : Int) = x)

def nOf (r : Rul) : Nat := if r.k ≤ 3 then r.N.toNat + 2 else (rowsOf r.k).length / 3
def stepN (r : Rul) (s c : Nat) : Nat := if r.k ≤ 3 then (if c = 1 then min (s + 1) (r.N.toNat + 1) else s) else stepT r.k s c
def endsN (r : Rul) (s : Nat) : Bool := if r.k ≤ 3 then (decide (r.N.toNat ≤ s) || decide (r.k = 2)) && (decide (s ≤ r.N.toNat) || decide (r.k = 1)) else endsT r.k s

theorem t_of (lo : Nat) (σ : St) (hlo : lo ≤ σ.next) (r : Rul) (hk : 1 ≤ r.k ∧ r.k ≤ 17) (hN : 0 ≤ r.N ∧ r.N ≤ 5) : ∃ v σ', Does Tryz.prog lo 34 [r.v] σ v σ' ∧ (Keeps σ σ' ∧ Mach σ' v (nOf r) (stepN r) (endsN r)) := by
  obtain ⟨k, A, B, N⟩ := r
  simp only at hk hN
  obtain ⟨N, rfl⟩ : ∃ n : Nat, N = n := ⟨N.toNat, by omega⟩
  show ∃ v σ', Does _ _ _ [.agg [.int .i64 k, .str A, .str B, .int .i64 N]] _ _ _ ∧ _
  have hc : (k = 1 ∨ k = 2 ∨ k = 3) ∨ k = 4 ∨ k = 5 ∨ k = 6 ∨ k = 7 ∨ k = 8 ∨ k = 9 ∨ k = 10 ∨ k = 11 ∨ k = 12 ∨ k = 14 ∨ k = 13 ∨ k = 15 ∨ k = 16 ∨ k = 17 := by omega
  rcases hc with (rfl | rfl | rfl) | rfl | rfl | rfl | rfl | rfl | rfl | rfl | rfl | rfl | rfl | rfl | rfl | rfl | rfl
  · refine does_wf draw32 tb34 (by kernel_rfl) ?_
    (conv => whnf)
    refine wread_of ((St.new_get_ne _ _ (by rw [St.new_next]; omega)).trans (St.new_get _ _)) ?_
    (conv => whnf)
    refine wwrite_all (St.new_get _ _) (by simp only [St.new_next]; omega) rfl rfl ?_
    (conv => whnf)
    refine wread_of (St.put_get _ _ _) ?_
    (conv => whnf)
    refine ⟨((Keeps.new _ _).add _).put (by simp only [St.new_next]; omega) _, [σ.next], ?_, _, _, _, _, rfl, ?_⟩
    · intro id hid; simp only [List.mem_singleton] at hid; simp only [St.new_next, St.put_next]; omega
    · intro σ' hnx hk lo s hs
      have e1 := (hk _ (List.mem_singleton.2 rfl)).trans ((St.put_get_ne _ _ (by rw [St.new_next]; omega)).trans ((St.new_get_ne _ _ (by rw [St.new_next]; omega)).trans (St.new_get _ _)))
      have hs' : s < 10 := by simp [nOf] at hs; omega
      refine ⟨fun c hc => ?_, ?_⟩
      · refine Eq.subst (motive := fun x => Does Tryz.prog lo 71 _ σ' (.int .i64 x) σ') ?_ (t_of1 lo σ' σ.next _ _ _ _ _ N e1 s c (by omega) (by omega))
        simp [stepN]
      · refine Eq.subst (motive := fun x => Does Tryz.prog lo 72 _ σ' (.bool x) σ') ?_ (t_of2 lo σ' σ.next _ _ _ _ _ N e1 s)
        simp [endsN]
  · refine does_wf draw32 tb34 (by kernel_rfl) ?_
    (conv => whnf)
    refine wread_of ((St.new_get_ne _ _ (by rw [St.new_next]; omega)).trans (St.new_get _ _)) ?_
    (conv => whnf)
    refine wwrite_all (St.new_get _ _) (by simp only [St.new_next]; omega) rfl rfl ?_
    (conv => whnf)
    refine wread_of (St.put_get _ _ _) ?_
    (conv => whnf)
    refine ⟨((Keeps.new _ _).add _).put (by simp only [St.new_next]; omega) _, [σ.next], ?_, _, _, _, _, rfl, ?_⟩
    · intro id hid; simp only [List.mem_singleton] at hid; simp only [St.new_next, St.put_next]; omega
    · intro σ' hnx hk lo s hs
      have e1 := (hk _ (List.mem_singleton.2 rfl)).trans ((St.put_get_ne _ _ (by rw [St.new_next]; omega)).trans ((St.new_get_ne _ _ (by rw [St.new_next]; omega)).trans (St.new_get _ _)))
      have hs' : s < 10 := by simp [nOf] at hs; omega
      refine ⟨fun c hc => ?_, ?_⟩
      · refine Eq.subst (motive := fun x => Does Tryz.prog lo 71 _ σ' (.int .i64 x) σ') ?_ (t_of1 lo σ' σ.next _ _ _ _ _ N e1 s c (by omega) (by omega))
        simp [stepN]
      · refine Eq.subst (motive := fun x => Does Tryz.prog lo 72 _ σ' (.bool x) σ') ?_ (t_of2 lo σ' σ.next _ _ _ _ _ N e1 s)
        simp [endsN]
  · refine does_wf draw32 tb34 (by kernel_rfl) ?_
    (conv => whnf)
    refine wread_of ((St.new_get_ne _ _ (by rw [St.new_next]; omega)).trans (St.new_get _ _)) ?_
    (conv => whnf)
    refine wwrite_all (St.new_get _ _) (by simp only [St.new_next]; omega) rfl rfl ?_
    (conv => whnf)
    refine wread_of (St.put_get _ _ _) ?_
    (conv => whnf)
    refine ⟨((Keeps.new _ _).add _).put (by simp only [St.new_next]; omega) _, [σ.next], ?_, _, _, _, _, rfl, ?_⟩
    · intro id hid; simp only [List.mem_singleton] at hid; simp only [St.new_next, St.put_next]; omega
    · intro σ' hnx hk lo s hs
      have e1 := (hk _ (List.mem_singleton.2 rfl)).trans ((St.put_get_ne _ _ (by rw [St.new_next]; omega)).trans ((St.new_get_ne _ _ (by rw [St.new_next]; omega)).trans (St.new_get _ _)))
      have hs' : s < 10 := by simp [nOf] at hs; omega
      refine ⟨fun c hc => ?_, ?_⟩
      · refine Eq.subst (motive := fun x => Does Tryz.prog lo 71 _ σ' (.int .i64 x) σ') ?_ (t_of1 lo σ' σ.next _ _ _ _ _ N e1 s c (by omega) (by omega))
        simp [stepN]
      · refine Eq.subst (motive := fun x => Does Tryz.prog lo 72 _ σ' (.bool x) σ') ?_ (t_of2 lo σ' σ.next _ _ _ _ _ N e1 s)
        simp [endsN]
  · refine does_wf draw32 tb34 (by kernel_rfl) ?_
    (conv => whnf)
    refine wread_of ((St.new_get_ne _ _ (by rw [St.new_next]; omega)).trans (St.new_get _ _)) ?_
    (conv => whnf)
    refine wcall_ex (t_table lo _ (by simp only [St.new_next]; omega) _ _ _ _ _ _ (rowsOf 4) (endsOf 4) 3 (stepT 4) (endsT 4) _ _ _ _ ((St.new_get_ne _ _ (by simp only [St.new_next]; omega)).trans (St.new_get _ _)) (by simp only [St.new_next]; omega)
      (St.new_get _ _) (by simp only [St.new_next]; omega) rfl rfl (by decide) (by decide) (fun _ _ => rfl)) ?_
    rintro v σ' ⟨hk, hnx, f1, c1, f2, c2, rfl, hm⟩
    (conv => whnf)
    refine wwrite_all (hk.old ((St.new_get_ne _ _ (by simp only [St.new_next]; omega)).trans ((St.new_get_ne _ _ (by simp only [St.new_next]; omega)).trans (St.new_get _ _))) (by simp only [St.new_next]; omega)) (by simp only [St.new_next]; omega) rfl rfl ?_
    (conv => whnf)
    refine wread_of (St.put_get _ _ _) ?_
    (conv => whnf)
    have hk0 : Keeps σ σ' := ((((Keeps.new _ _).add _).add _).add _).trans hk
    simp only [St.new_next] at hnx
    have hm' : MachS _ σ' _ _ _ _ := ⟨f1, c1, f2, c2, rfl, hm⟩
    rw [show nOf ⟨4, A, B, (N : Int)⟩ = 3 from by simp [nOf, rowsOf], show stepN ⟨4, A, B, (N : Int)⟩ = stepT 4 from by funext s c; simp [stepN], show endsN ⟨4, A, B, (N : Int)⟩ = endsT 4 from by funext s; simp [endsN]]
    refine ⟨hk0.put (by simp only [St.new_next]; omega) _, _, ?_, hm'.move (Nat.le_of_eq (St.put_next _ _ _).symm) ?_⟩
    · intro id hid; simp only [List.mem_cons, List.not_mem_nil, or_false, St.new_next] at hid; simp only [St.put_next]; omega
    · intro id hid; simp only [List.mem_cons, List.not_mem_nil, or_false, St.new_next] at hid; exact St.put_get_ne _ _ (by simp only [St.new_next]; omega)
  · refine does_wf draw32 tb34 (by kernel_rfl) ?_
    (conv => whnf)
    refine wread_of ((St.new_get_ne _ _ (by rw [St.new_next]; omega)).trans (St.new_get _ _)) ?_
    (conv => whnf)
    refine wcall_ex (t_table lo _ (by simp only [St.new_next]; omega) _ _ _ _ _ _ (rowsOf 5) (endsOf 5) 3 (stepT 5) (endsT 5) _ _ _ _ ((St.new_get_ne _ _ (by simp only [St.new_next]; omega)).trans (St.new_get _ _)) (by simp only [St.new_next]; omega)
      (St.new_get _ _) (by simp only [St.new_next]; omega) rfl rfl (by decide) (by decide) (fun _ _ => rfl)) ?_
    rintro v σ' ⟨hk, hnx, f1, c1, f2, c2, rfl, hm⟩
    (conv => whnf)
    refine wwrite_all (hk.old ((St.new_get_ne _ _ (by simp only [St.new_next]; omega)).trans ((St.new_get_ne _ _ (by simp only [St.new_next]; omega)).trans (St.new_get _ _))) (by simp only [St.new_next]; omega)) (by simp only [St.new_next]; omega) rfl rfl ?_
    (conv => whnf)
    refine wread_of (St.put_get _ _ _) ?_
    (conv => whnf)
    have hk0 : Keeps σ σ' := ((((Keeps.new _ _).add _).add _).add _).trans hk
    simp only [St.new_next] at hnx
    have hm' : MachS _ σ' _ _ _ _ := ⟨f1, c1, f2, c2, rfl, hm⟩
    rw [show nOf ⟨5, A, B, (N : Int)⟩ = 3 from by simp [nOf, rowsOf], show stepN ⟨5, A, B, (N : Int)⟩ = stepT 5 from by funext s c; simp [stepN], show endsN ⟨5, A, B, (N : Int)⟩ = endsT 5 from by funext s; simp [endsN]]
    refine ⟨hk0.put (by simp only [St.new_next]; omega) _, _, ?_, hm'.move (Nat.le_of_eq (St.put_next _ _ _).symm) ?_⟩
    · intro id hid; simp only [List.mem_cons, List.not_mem_nil, or_false, St.new_next] at hid; simp only [St.put_next]; omega
    · intro id hid; simp only [List.mem_cons, List.not_mem_nil, or_false, St.new_next] at hid; exact St.put_get_ne _ _ (by simp only [St.new_next]; omega)
  · refine does_wf draw32 tb34 (by kernel_rfl) ?_
    (conv => whnf)
    refine wread_of ((St.new_get_ne _ _ (by rw [St.new_next]; omega)).trans (St.new_get _ _)) ?_
    (conv => whnf)
    refine wcall_ex (t_table lo _ (by simp only [St.new_next]; omega) _ _ _ _ _ _ (rowsOf 6) (endsOf 6) 2 (stepT 6) (endsT 6) _ _ _ _ ((St.new_get_ne _ _ (by simp only [St.new_next]; omega)).trans (St.new_get _ _)) (by simp only [St.new_next]; omega)
      (St.new_get _ _) (by simp only [St.new_next]; omega) rfl rfl (by decide) (by decide) (fun _ _ => rfl)) ?_
    rintro v σ' ⟨hk, hnx, f1, c1, f2, c2, rfl, hm⟩
    (conv => whnf)
    refine wwrite_all (hk.old ((St.new_get_ne _ _ (by simp only [St.new_next]; omega)).trans ((St.new_get_ne _ _ (by simp only [St.new_next]; omega)).trans (St.new_get _ _))) (by simp only [St.new_next]; omega)) (by simp only [St.new_next]; omega) rfl rfl ?_
    (conv => whnf)
    refine wread_of (St.put_get _ _ _) ?_
    (conv => whnf)
    have hk0 : Keeps σ σ' := ((((Keeps.new _ _).add _).add _).add _).trans hk
    simp only [St.new_next] at hnx
    have hm' : MachS _ σ' _ _ _ _ := ⟨f1, c1, f2, c2, rfl, hm⟩
    rw [show nOf ⟨6, A, B, (N : Int)⟩ = 2 from by simp [nOf, rowsOf], show stepN ⟨6, A, B, (N : Int)⟩ = stepT 6 from by funext s c; simp [stepN], show endsN ⟨6, A, B, (N : Int)⟩ = endsT 6 from by funext s; simp [endsN]]
    refine ⟨hk0.put (by simp only [St.new_next]; omega) _, _, ?_, hm'.move (Nat.le_of_eq (St.put_next _ _ _).symm) ?_⟩
    · intro id hid; simp only [List.mem_cons, List.not_mem_nil, or_false, St.new_next] at hid; simp only [St.put_next]; omega
    · intro id hid; simp only [List.mem_cons, List.not_mem_nil, or_false, St.new_next] at hid; exact St.put_get_ne _ _ (by simp only [St.new_next]; omega)
  · refine does_wf draw32 tb34 (by kernel_rfl) ?_
    (conv => whnf)
    refine wread_of ((St.new_get_ne _ _ (by rw [St.new_next]; omega)).trans (St.new_get _ _)) ?_
    (conv => whnf)
    refine wcall_ex (t_table lo _ (by simp only [St.new_next]; omega) _ _ _ _ _ _ (rowsOf 7) (endsOf 7) 3 (stepT 7) (endsT 7) _ _ _ _ ((St.new_get_ne _ _ (by simp only [St.new_next]; omega)).trans (St.new_get _ _)) (by simp only [St.new_next]; omega)
      (St.new_get _ _) (by simp only [St.new_next]; omega) rfl rfl (by decide) (by decide) (fun _ _ => rfl)) ?_
    rintro v σ' ⟨hk, hnx, f1, c1, f2, c2, rfl, hm⟩
    (conv => whnf)
    refine wwrite_all (hk.old ((St.new_get_ne _ _ (by simp only [St.new_next]; omega)).trans ((St.new_get_ne _ _ (by simp only [St.new_next]; omega)).trans (St.new_get _ _))) (by simp only [St.new_next]; omega)) (by simp only [St.new_next]; omega) rfl rfl ?_
    (conv => whnf)
    refine wread_of (St.put_get _ _ _) ?_
    (conv => whnf)
    have hk0 : Keeps σ σ' := ((((Keeps.new _ _).add _).add _).add _).trans hk
    simp only [St.new_next] at hnx
    have hm' : MachS _ σ' _ _ _ _ := ⟨f1, c1, f2, c2, rfl, hm⟩
    rw [show nOf ⟨7, A, B, (N : Int)⟩ = 3 from by simp [nOf, rowsOf], show stepN ⟨7, A, B, (N : Int)⟩ = stepT 7 from by funext s c; simp [stepN], show endsN ⟨7, A, B, (N : Int)⟩ = endsT 7 from by funext s; simp [endsN]]
    refine ⟨hk0.put (by simp only [St.new_next]; omega) _, _, ?_, hm'.move (Nat.le_of_eq (St.put_next _ _ _).symm) ?_⟩
    · intro id hid; simp only [List.mem_cons, List.not_mem_nil, or_false, St.new_next] at hid; simp only [St.put_next]; omega
    · intro id hid; simp only [List.mem_cons, List.not_mem_nil, or_false, St.new_next] at hid; exact St.put_get_ne _ _ (by simp only [St.new_next]; omega)
  · refine does_wf draw32 tb34 (by kernel_rfl) ?_
    (conv => whnf)
    refine wread_of ((St.new_get_ne _ _ (by rw [St.new_next]; omega)).trans (St.new_get _ _)) ?_
    (conv => whnf)
    refine wcall_ex (t_table lo _ (by simp only [St.new_next]; omega) _ _ _ _ _ _ (rowsOf 8) (endsOf 8) 4 (stepT 8) (endsT 8) _ _ _ _ ((St.new_get_ne _ _ (by simp only [St.new_next]; omega)).trans (St.new_get _ _)) (by simp only [St.new_next]; omega)
      (St.new_get _ _) (by simp only [St.new_next]; omega) rfl rfl (by decide) (by decide) (fun _ _ => rfl)) ?_
    rintro v σ' ⟨hk, hnx, f1, c1, f2, c2, rfl, hm⟩
    (conv => whnf)
    refine wwrite_all (hk.old ((St.new_get_ne _ _ (by simp only [St.new_next]; omega)).trans ((St.new_get_ne _ _ (by simp only [St.new_next]; omega)).trans (St.new_get _ _))) (by simp only [St.new_next]; omega)) (by simp only [St.new_next]; omega) rfl rfl ?_
    (conv => whnf)
    refine wread_of (St.put_get _ _ _) ?_
    (conv => whnf)
    have hk0 : Keeps σ σ' := ((((Keeps.new _ _).add _).add _).add _).trans hk
    simp only [St.new_next] at hnx
    have hm' : MachS _ σ' _ _ _ _ := ⟨f1, c1, f2, c2, rfl, hm⟩
    rw [show nOf ⟨8, A, B, (N : Int)⟩ = 4 from by simp [nOf, rowsOf], show stepN ⟨8, A, B, (N : Int)⟩ = stepT 8 from by funext s c; simp [stepN], show endsN ⟨8, A, B, (N : Int)⟩ = endsT 8 from by funext s; simp [endsN]]
    refine ⟨hk0.put (by simp only [St.new_next]; omega) _, _, ?_, hm'.move (Nat.le_of_eq (St.put_next _ _ _).symm) ?_⟩
    · intro id hid; simp only [List.mem_cons, List.not_mem_nil, or_false, St.new_next] at hid; simp only [St.put_next]; omega
    · intro id hid; simp only [List.mem_cons, List.not_mem_nil, or_false, St.new_next] at hid; exact St.put_get_ne _ _ (by simp only [St.new_next]; omega)
  · refine does_wf draw32 tb34 (by kernel_rfl) ?_
    (conv => whnf)
    refine wread_of ((St.new_get_ne _ _ (by rw [St.new_next]; omega)).trans (St.new_get _ _)) ?_
    (conv => whnf)
    refine wcall_ex (t_table lo _ (by simp only [St.new_next]; omega) _ _ _ _ _ _ (rowsOf 9) (endsOf 9) 3 (stepT 9) (endsT 9) _ _ _ _ ((St.new_get_ne _ _ (by simp only [St.new_next]; omega)).trans (St.new_get _ _)) (by simp only [St.new_next]; omega)
      (St.new_get _ _) (by simp only [St.new_next]; omega) rfl rfl (by decide) (by decide) (fun _ _ => rfl)) ?_
    rintro v σ' ⟨hk, hnx, f1, c1, f2, c2, rfl, hm⟩
    (conv => whnf)
    refine wwrite_all (hk.old ((St.new_get_ne _ _ (by simp only [St.new_next]; omega)).trans ((St.new_get_ne _ _ (by simp only [St.new_next]; omega)).trans (St.new_get _ _))) (by simp only [St.new_next]; omega)) (by simp only [St.new_next]; omega) rfl rfl ?_
    (conv => whnf)
    refine wread_of (St.put_get _ _ _) ?_
    (conv => whnf)
    have hk0 : Keeps σ σ' := ((((Keeps.new _ _).add _).add _).add _).trans hk
    simp only [St.new_next] at hnx
    have hm' : MachS _ σ' _ _ _ _ := ⟨f1, c1, f2, c2, rfl, hm⟩
    rw [show nOf ⟨9, A, B, (N : Int)⟩ = 3 from by simp [nOf, rowsOf], show stepN ⟨9, A, B, (N : Int)⟩ = stepT 9 from by funext s c; simp [stepN], show endsN ⟨9, A, B, (N : Int)⟩ = endsT 9 from by funext s; simp [endsN]]
    refine ⟨hk0.put (by simp only [St.new_next]; omega) _, _, ?_, hm'.move (Nat.le_of_eq (St.put_next _ _ _).symm) ?_⟩
    · intro id hid; simp only [List.mem_cons, List.not_mem_nil, or_false, St.new_next] at hid; simp only [St.put_next]; omega
    · intro id hid; simp only [List.mem_cons, List.not_mem_nil, or_false, St.new_next] at hid; exact St.put_get_ne _ _ (by simp only [St.new_next]; omega)
  · refine does_wf draw32 tb34 (by kernel_rfl) ?_
    (conv => whnf)
    refine wread_of ((St.new_get_ne _ _ (by rw [St.new_next]; omega)).trans (St.new_get _ _)) ?_
    (conv => whnf)
    refine wcall_ex (t_table lo _ (by simp only [St.new_next]; omega) _ _ _ _ _ _ (rowsOf 10) (endsOf 10) 3 (stepT 10) (endsT 10) _ _ _ _ ((St.new_get_ne _ _ (by simp only [St.new_next]; omega)).trans (St.new_get _ _)) (by simp only [St.new_next]; omega)
      (St.new_get _ _) (by simp only [St.new_next]; omega) rfl rfl (by decide) (by decide) (fun _ _ => rfl)) ?_
    rintro v σ' ⟨hk, hnx, f1, c1, f2, c2, rfl, hm⟩
    (conv => whnf)
    refine wwrite_all (hk.old ((St.new_get_ne _ _ (by simp only [St.new_next]; omega)).trans ((St.new_get_ne _ _ (by simp only [St.new_next]; omega)).trans (St.new_get _ _))) (by simp only [St.new_next]; omega)) (by simp only [St.new_next]; omega) rfl rfl ?_
    (conv => whnf)
    refine wread_of (St.put_get _ _ _) ?_
    (conv => whnf)
    have hk0 : Keeps σ σ' := ((((Keeps.new _ _).add _).add _).add _).trans hk
    simp only [St.new_next] at hnx
    have hm' : MachS _ σ' _ _ _ _ := ⟨f1, c1, f2, c2, rfl, hm⟩
    rw [show nOf ⟨10, A, B, (N : Int)⟩ = 3 from by simp [nOf, rowsOf], show stepN ⟨10, A, B, (N : Int)⟩ = stepT 10 from by funext s c; simp [stepN], show endsN ⟨10, A, B, (N : Int)⟩ = endsT 10 from by funext s; simp [endsN]]
    refine ⟨hk0.put (by simp only [St.new_next]; omega) _, _, ?_, hm'.move (Nat.le_of_eq (St.put_next _ _ _).symm) ?_⟩
    · intro id hid; simp only [List.mem_cons, List.not_mem_nil, or_false, St.new_next] at hid; simp only [St.put_next]; omega
    · intro id hid; simp only [List.mem_cons, List.not_mem_nil, or_false, St.new_next] at hid; exact St.put_get_ne _ _ (by simp only [St.new_next]; omega)
  · refine does_wf draw32 tb34 (by kernel_rfl) ?_
    (conv => whnf)
    refine wread_of ((St.new_get_ne _ _ (by rw [St.new_next]; omega)).trans (St.new_get _ _)) ?_
    (conv => whnf)
    refine wcall_ex (t_table lo _ (by simp only [St.new_next]; omega) _ _ _ _ _ _ (rowsOf 11) (endsOf 11) 3 (stepT 11) (endsT 11) _ _ _ _ ((St.new_get_ne _ _ (by simp only [St.new_next]; omega)).trans (St.new_get _ _)) (by simp only [St.new_next]; omega)
      (St.new_get _ _) (by simp only [St.new_next]; omega) rfl rfl (by decide) (by decide) (fun _ _ => rfl)) ?_
    rintro v σ' ⟨hk, hnx, f1, c1, f2, c2, rfl, hm⟩
    (conv => whnf)
    refine wwrite_all (hk.old ((St.new_get_ne _ _ (by simp only [St.new_next]; omega)).trans ((St.new_get_ne _ _ (by simp only [St.new_next]; omega)).trans (St.new_get _ _))) (by simp only [St.new_next]; omega)) (by simp only [St.new_next]; omega) rfl rfl ?_
    (conv => whnf)
    refine wread_of (St.put_get _ _ _) ?_
    (conv => whnf)
    have hk0 : Keeps σ σ' := ((((Keeps.new _ _).add _).add _).add _).trans hk
    simp only [St.new_next] at hnx
    have hm' : MachS _ σ' _ _ _ _ := ⟨f1, c1, f2, c2, rfl, hm⟩
    rw [show nOf ⟨11, A, B, (N : Int)⟩ = 3 from by simp [nOf, rowsOf], show stepN ⟨11, A, B, (N : Int)⟩ = stepT 11 from by funext s c; simp [stepN], show endsN ⟨11, A, B, (N : Int)⟩ = endsT 11 from by funext s; simp [endsN]]
    refine ⟨hk0.put (by simp only [St.new_next]; omega) _, _, ?_, hm'.move (Nat.le_of_eq (St.put_next _ _ _).symm) ?_⟩
    · intro id hid; simp only [List.mem_cons, List.not_mem_nil, or_false, St.new_next] at hid; simp only [St.put_next]; omega
    · intro id hid; simp only [List.mem_cons, List.not_mem_nil, or_false, St.new_next] at hid; exact St.put_get_ne _ _ (by simp only [St.new_next]; omega)
  · refine does_wf draw32 tb34 (by kernel_rfl) ?_
    (conv => whnf)
    refine wread_of ((St.new_get_ne _ _ (by rw [St.new_next]; omega)).trans (St.new_get _ _)) ?_
    (conv => whnf)
    refine wcall_ex (t_table lo _ (by simp only [St.new_next]; omega) _ _ _ _ _ _ (rowsOf 12) (endsOf 12) 3 (stepT 12) (endsT 12) _ _ _ _ ((St.new_get_ne _ _ (by simp only [St.new_next]; omega)).trans (St.new_get _ _)) (by simp only [St.new_next]; omega)
      (St.new_get _ _) (by simp only [St.new_next]; omega) rfl rfl (by decide) (by decide) (fun _ _ => rfl)) ?_
    rintro v σ' ⟨hk, hnx, f1, c1, f2, c2, rfl, hm⟩
    (conv => whnf)
    refine wwrite_all (hk.old ((St.new_get_ne _ _ (by simp only [St.new_next]; omega)).trans ((St.new_get_ne _ _ (by simp only [St.new_next]; omega)).trans (St.new_get _ _))) (by simp only [St.new_next]; omega)) (by simp only [St.new_next]; omega) rfl rfl ?_
    (conv => whnf)
    refine wread_of (St.put_get _ _ _) ?_
    (conv => whnf)
    have hk0 : Keeps σ σ' := ((((Keeps.new _ _).add _).add _).add _).trans hk
    simp only [St.new_next] at hnx
    have hm' : MachS _ σ' _ _ _ _ := ⟨f1, c1, f2, c2, rfl, hm⟩
    rw [show nOf ⟨12, A, B, (N : Int)⟩ = 3 from by simp [nOf, rowsOf], show stepN ⟨12, A, B, (N : Int)⟩ = stepT 12 from by funext s c; simp [stepN], show endsN ⟨12, A, B, (N : Int)⟩ = endsT 12 from by funext s; simp [endsN]]
    refine ⟨hk0.put (by simp only [St.new_next]; omega) _, _, ?_, hm'.move (Nat.le_of_eq (St.put_next _ _ _).symm) ?_⟩
    · intro id hid; simp only [List.mem_cons, List.not_mem_nil, or_false, St.new_next] at hid; simp only [St.put_next]; omega
    · intro id hid; simp only [List.mem_cons, List.not_mem_nil, or_false, St.new_next] at hid; exact St.put_get_ne _ _ (by simp only [St.new_next]; omega)
  · refine does_wf draw32 tb34 (by kernel_rfl) ?_
    (conv => whnf)
    refine wread_of ((St.new_get_ne _ _ (by rw [St.new_next]; omega)).trans (St.new_get _ _)) ?_
    (conv => whnf)
    refine wcall_ex (t_table lo _ (by simp only [St.new_next]; omega) _ _ _ _ _ _ (rowsOf 14) (endsOf 14) 3 (stepT 14) (endsT 14) _ _ _ _ ((St.new_get_ne _ _ (by simp only [St.new_next]; omega)).trans (St.new_get _ _)) (by simp only [St.new_next]; omega)
      (St.new_get _ _) (by simp only [St.new_next]; omega) rfl rfl (by decide) (by decide) (fun _ _ => rfl)) ?_
    rintro v σ' ⟨hk, hnx, f1, c1, f2, c2, rfl, hm⟩
    (conv => whnf)
    refine wwrite_all (hk.old ((St.new_get_ne _ _ (by simp only [St.new_next]; omega)).trans ((St.new_get_ne _ _ (by simp only [St.new_next]; omega)).trans (St.new_get _ _))) (by simp only [St.new_next]; omega)) (by simp only [St.new_next]; omega) rfl rfl ?_
    (conv => whnf)
    refine wread_of (St.put_get _ _ _) ?_
    (conv => whnf)
    have hk0 : Keeps σ σ' := ((((Keeps.new _ _).add _).add _).add _).trans hk
    simp only [St.new_next] at hnx
    have hm' : MachS _ σ' _ _ _ _ := ⟨f1, c1, f2, c2, rfl, hm⟩
    rw [show nOf ⟨14, A, B, (N : Int)⟩ = 3 from by simp [nOf, rowsOf], show stepN ⟨14, A, B, (N : Int)⟩ = stepT 14 from by funext s c; simp [stepN], show endsN ⟨14, A, B, (N : Int)⟩ = endsT 14 from by funext s; simp [endsN]]
    refine ⟨hk0.put (by simp only [St.new_next]; omega) _, _, ?_, hm'.move (Nat.le_of_eq (St.put_next _ _ _).symm) ?_⟩
    · intro id hid; simp only [List.mem_cons, List.not_mem_nil, or_false, St.new_next] at hid; simp only [St.put_next]; omega
    · intro id hid; simp only [List.mem_cons, List.not_mem_nil, or_false, St.new_next] at hid; exact St.put_get_ne _ _ (by simp only [St.new_next]; omega)
  · refine does_wf draw32 tb34 (by kernel_rfl) ?_
    (conv => whnf)
    refine wread_of ((St.new_get_ne _ _ (by rw [St.new_next]; omega)).trans (St.new_get _ _)) ?_
    (conv => whnf)
    refine wread_of ((St.new_get_ne _ _ (by simp only [St.new_next]; omega)).trans ((St.new_get_ne _ _ (by rw [St.new_next]; omega)).trans (St.new_get _ _))) ?_
    (conv => whnf)
    refine wcall_ex (t_table lo _ (by simp only [St.new_next]; omega) _ _ _ _ _ _ (rowsOf 13) (endsOf 13) 4 (stepT 13) (endsT 13) _ _ _ _ ((St.new_get_ne _ _ (by simp only [St.new_next]; omega)).trans (St.new_get _ _)) (by simp only [St.new_next]; omega)
      (St.new_get _ _) (by simp only [St.new_next]; omega) rfl rfl (by decide) (by decide) (fun _ _ => rfl)) ?_
    rintro v σ' ⟨hk, hnx, f1, c1, f2, c2, rfl, hm⟩
    (conv => whnf)
    refine wwrite_all (hk.old ((St.new_get_ne _ _ (by simp only [St.new_next]; omega)).trans ((St.new_get_ne _ _ (by simp only [St.new_next]; omega)).trans (St.new_get _ _))) (by simp only [St.new_next]; omega)) (by simp only [St.new_next]; omega) rfl rfl ?_
    (conv => whnf)
    refine wread_of (St.put_get _ _ _) ?_
    (conv => whnf)
    have hk0 : Keeps σ σ' := ((((Keeps.new _ _).add _).add _).add _).trans hk
    simp only [St.new_next] at hnx
    have hm' : MachS _ σ' _ _ _ _ := ⟨f1, c1, f2, c2, rfl, hm⟩
    rw [show nOf ⟨13, A, B, (N : Int)⟩ = 4 from by simp [nOf, rowsOf], show stepN ⟨13, A, B, (N : Int)⟩ = stepT 13 from by funext s c; simp [stepN], show endsN ⟨13, A, B, (N : Int)⟩ = endsT 13 from by funext s; simp [endsN]]
    refine ⟨hk0.put (by simp only [St.new_next]; omega) _, _, ?_, hm'.move (Nat.le_of_eq (St.put_next _ _ _).symm) ?_⟩
    · intro id hid; simp only [List.mem_cons, List.not_mem_nil, or_false, St.new_next] at hid; simp only [St.put_next]; omega
    · intro id hid; simp only [List.mem_cons, List.not_mem_nil, or_false, St.new_next] at hid; exact St.put_get_ne _ _ (by simp only [St.new_next]; omega)
  · refine does_wf draw32 tb34 (by kernel_rfl) ?_
    (conv => whnf)
    refine wread_of ((St.new_get_ne _ _ (by rw [St.new_next]; omega)).trans (St.new_get _ _)) ?_
    (conv => whnf)
    refine wread_of ((St.new_get_ne _ _ (by simp only [St.new_next]; omega)).trans ((St.new_get_ne _ _ (by rw [St.new_next]; omega)).trans (St.new_get _ _))) ?_
    (conv => whnf)
    refine wcall_ex (t_table lo _ (by simp only [St.new_next]; omega) _ _ _ _ _ _ (rowsOf 15) (endsOf 15) 4 (stepT 15) (endsT 15) _ _ _ _ ((St.new_get_ne _ _ (by simp only [St.new_next]; omega)).trans (St.new_get _ _)) (by simp only [St.new_next]; omega)
      (St.new_get _ _) (by simp only [St.new_next]; omega) rfl rfl (by decide) (by decide) (fun _ _ => rfl)) ?_
    rintro v σ' ⟨hk, hnx, f1, c1, f2, c2, rfl, hm⟩
    (conv => whnf)
    refine wwrite_all (hk.old ((St.new_get_ne _ _ (by simp only [St.new_next]; omega)).trans ((St.new_get_ne _ _ (by simp only [St.new_next]; omega)).trans (St.new_get _ _))) (by simp only [St.new_next]; omega)) (by simp only [St.new_next]; omega) rfl rfl ?_
    (conv => whnf)
    refine wread_of (St.put_get _ _ _) ?_
    (conv => whnf)
    have hk0 : Keeps σ σ' := ((((Keeps.new _ _).add _).add _).add _).trans hk
    simp only [St.new_next] at hnx
    have hm' : MachS _ σ' _ _ _ _ := ⟨f1, c1, f2, c2, rfl, hm⟩
    rw [show nOf ⟨15, A, B, (N : Int)⟩ = 4 from by simp [nOf, rowsOf], show stepN ⟨15, A, B, (N : Int)⟩ = stepT 15 from by funext s c; simp [stepN], show endsN ⟨15, A, B, (N : Int)⟩ = endsT 15 from by funext s; simp [endsN]]
    refine ⟨hk0.put (by simp only [St.new_next]; omega) _, _, ?_, hm'.move (Nat.le_of_eq (St.put_next _ _ _).symm) ?_⟩
    · intro id hid; simp only [List.mem_cons, List.not_mem_nil, or_false, St.new_next] at hid; simp only [St.put_next]; omega
    · intro id hid; simp only [List.mem_cons, List.not_mem_nil, or_false, St.new_next] at hid; exact St.put_get_ne _ _ (by simp only [St.new_next]; omega)
  · refine does_wf draw32 tb34 (by kernel_rfl) ?_
    (conv => whnf)
    refine wread_of ((St.new_get_ne _ _ (by rw [St.new_next]; omega)).trans (St.new_get _ _)) ?_
    (conv => whnf)
    refine wread_of ((St.new_get_ne _ _ (by simp only [St.new_next]; omega)).trans ((St.new_get_ne _ _ (by rw [St.new_next]; omega)).trans (St.new_get _ _))) ?_
    (conv => whnf)
    refine wcall_ex (t_table lo _ (by simp only [St.new_next]; omega) _ _ _ _ _ _ (rowsOf 16) (endsOf 16) 4 (stepT 16) (endsT 16) _ _ _ _ ((St.new_get_ne _ _ (by simp only [St.new_next]; omega)).trans (St.new_get _ _)) (by simp only [St.new_next]; omega)
      (St.new_get _ _) (by simp only [St.new_next]; omega) rfl rfl (by decide) (by decide) (fun _ _ => rfl)) ?_
    rintro v σ' ⟨hk, hnx, f1, c1, f2, c2, rfl, hm⟩
    (conv => whnf)
    refine wwrite_all (hk.old ((St.new_get_ne _ _ (by simp only [St.new_next]; omega)).trans ((St.new_get_ne _ _ (by simp only [St.new_next]; omega)).trans (St.new_get _ _))) (by simp only [St.new_next]; omega)) (by simp only [St.new_next]; omega) rfl rfl ?_
    (conv => whnf)
    refine wread_of (St.put_get _ _ _) ?_
    (conv => whnf)
    have hk0 : Keeps σ σ' := ((((Keeps.new _ _).add _).add _).add _).trans hk
    simp only [St.new_next] at hnx
    have hm' : MachS _ σ' _ _ _ _ := ⟨f1, c1, f2, c2, rfl, hm⟩
    rw [show nOf ⟨16, A, B, (N : Int)⟩ = 4 from by simp [nOf, rowsOf], show stepN ⟨16, A, B, (N : Int)⟩ = stepT 16 from by funext s c; simp [stepN], show endsN ⟨16, A, B, (N : Int)⟩ = endsT 16 from by funext s; simp [endsN]]
    refine ⟨hk0.put (by simp only [St.new_next]; omega) _, _, ?_, hm'.move (Nat.le_of_eq (St.put_next _ _ _).symm) ?_⟩
    · intro id hid; simp only [List.mem_cons, List.not_mem_nil, or_false, St.new_next] at hid; simp only [St.put_next]; omega
    · intro id hid; simp only [List.mem_cons, List.not_mem_nil, or_false, St.new_next] at hid; exact St.put_get_ne _ _ (by simp only [St.new_next]; omega)
  · refine does_wf draw32 tb34 (by kernel_rfl) ?_
    (conv => whnf)
    refine wread_of ((St.new_get_ne _ _ (by rw [St.new_next]; omega)).trans (St.new_get _ _)) ?_
    (conv => whnf)
    refine wread_of ((St.new_get_ne _ _ (by simp only [St.new_next]; omega)).trans ((St.new_get_ne _ _ (by rw [St.new_next]; omega)).trans (St.new_get _ _))) ?_
    (conv => whnf)
    refine wcall_ex (t_table lo _ (by simp only [St.new_next]; omega) _ _ _ _ _ _ (rowsOf 17) (endsOf 17) 4 (stepT 17) (endsT 17) _ _ _ _ ((St.new_get_ne _ _ (by simp only [St.new_next]; omega)).trans (St.new_get _ _)) (by simp only [St.new_next]; omega)
      (St.new_get _ _) (by simp only [St.new_next]; omega) rfl rfl (by decide) (by decide) (fun _ _ => rfl)) ?_
    rintro v σ' ⟨hk, hnx, f1, c1, f2, c2, rfl, hm⟩
    (conv => whnf)
    refine wwrite_all (hk.old ((St.new_get_ne _ _ (by simp only [St.new_next]; omega)).trans ((St.new_get_ne _ _ (by simp only [St.new_next]; omega)).trans (St.new_get _ _))) (by simp only [St.new_next]; omega)) (by simp only [St.new_next]; omega) rfl rfl ?_
    (conv => whnf)
    refine wread_of (St.put_get _ _ _) ?_
    (conv => whnf)
    have hk0 : Keeps σ σ' := ((((Keeps.new _ _).add _).add _).add _).trans hk
    simp only [St.new_next] at hnx
    have hm' : MachS _ σ' _ _ _ _ := ⟨f1, c1, f2, c2, rfl, hm⟩
    rw [show nOf ⟨17, A, B, (N : Int)⟩ = 4 from by simp [nOf, rowsOf], show stepN ⟨17, A, B, (N : Int)⟩ = stepT 17 from by funext s c; simp [stepN], show endsN ⟨17, A, B, (N : Int)⟩ = endsT 17 from by funext s; simp [endsN]]
    refine ⟨hk0.put (by simp only [St.new_next]; omega) _, _, ?_, hm'.move (Nat.le_of_eq (St.put_next _ _ _).symm) ?_⟩
    · intro id hid; simp only [List.mem_cons, List.not_mem_nil, or_false, St.new_next] at hid; simp only [St.put_next]; omega
    · intro id hid; simp only [List.mem_cons, List.not_mem_nil, or_false, St.new_next] at hid; exact St.put_get_ne _ _ (by simp only [St.new_next]; omega)
end Go.Vm

/- declare: words that satisfy rules, that activate them. -/
set_option maxRecDepth 100000
namespace Go.Vm
open Go.Proofs
attribute [local irreducible] wread wwrite wcall M.get M.set St.new St.put Does lessB wrapF

def properN (r : Rul) (w : List (List Nat)) : Int := if (!validN r || w.any fun s => !isNameN s) = true then 1 else if 200 < w.length then 5 else 0

theorem Elems.shape {σ : St} {v : V} {xs : List V} (h : Elems σ v xs) : (v = .nilsl ∧ xs.length = 0) ∨ ∃ b o c, v = .slice b o xs.length c := by
  rcases h with ⟨h, h2⟩ | ⟨b, o, cap, l, rw', anc, h, _⟩
  · exact .inl ⟨h, by simp [h2]⟩
  · exact .inr ⟨b, o, cap, h⟩
theorem Strs.shape {σ : St} {v : V} {xs : List (List Nat)} (h : Strs σ v xs) : (v = .nilsl ∧ xs.length = 0) ∨ ∃ b o c, v = .slice b o xs.length c := by
  have := Elems.shape h
  simpa using this

theorem t_proper (lo : Nat) (σ : St) (r : Rul) (v : V) (w : List (List Nat)) (hw : Strs σ v w) (hn : w.length ≤ 9223372036854775807) : Does Tryz.prog lo 32 [r.v, v] σ (.int .i64 (properN r w)) σ := by
  have hr := t_valid lo (σ.new (.cells [.int .i64 r.k, .str r.A, .str r.B, .int .i64 r.N] true [])) r
  have key := t_containsFuncS lo (σ.new (.cells [.int .i64 r.k, .str r.A, .str r.B, .int .i64 r.N] true [])) v w (hw.keeps (Keeps.new _ _)) hn 70 [] [] (fun s => !isNameN s) (fun x _ lo => t_proper1 lo _ x)
  have hp1 : validN r = false → properN r w = 1 := by intro h; simp [properN, h]
  have hp2 : (w.any fun s => !isNameN s) = true → properN r w = 1 := by intro h; unfold properN; rw [h]; simp
  have hp3 : validN r = true → (w.any fun s => !isNameN s) = false → 200 < w.length → properN r w = 5 := by intro h1 h2 h3; unfold properN; rw [h1, h2]; simp [h3]
  have hp4 : validN r = true → (w.any fun s => !isNameN s) = false → ¬ 200 < w.length → properN r w = 0 := by intro h1 h2 h3; unfold properN; rw [h1, h2]; simp [h3]
  have hs := hw.shape
  obtain ⟨k, A, B, N⟩ := r
  change Does _ _ _ [.agg [.int .i64 k, .str A, .str B, .int .i64 N]] _ _ _ at hr
  show Does _ _ _ [.agg [.int .i64 k, .str A, .str B, .int .i64 N], _] _ _ _
  refine does_pure draw32 tb32 (by kernel_rfl) rfl ?_
  rcases hs with ⟨rfl, h0⟩ | ⟨b, o, c, rfl⟩
  all_goals
    (conv => whnf)
    refine wread_of (St.new_get _ _) ?_
    (conv => whnf)
    refine wcall_of hr ?_
    (conv => whnf); split
    · rename_i h1
      (conv => whnf)
      rw [hp1 (by simpa using h1)]
      exact ⟨rfl, Keeps.new _ _⟩
    · rename_i h1
      (conv => whnf)
      refine wcall_of key ?_
      (conv => whnf); split
      · rename_i h2
        (conv => whnf)
        rw [hp2 h2]
        exact ⟨rfl, Keeps.new _ _⟩
      · rename_i h2
        (conv => whnf)
        first
          | (rw [hp4 (by simpa using h1) h2 (by omega)]; exact ⟨rfl, Keeps.new _ _⟩)
          | (split
             · rename_i h3
               (conv => whnf)
               rw [hp3 (by simpa using h1) h2 (by have := of_decide_eq_true h3; omega)]
               exact ⟨rfl, Keeps.new _ _⟩
             · rename_i h3
               (conv => whnf)
               rw [hp4 (by simpa using h1) h2 (by have := of_decide_eq_false h3; omega)]
               exact ⟨rfl, Keeps.new _ _⟩)

theorem isN_lt (r : Rul) (s : List Nat) : isN r s < 3 := by unfold isN; split <;> (try split) <;> omega

theorem nOf_pos (r : Rul) (h : 1 ≤ r.k ∧ r.k ≤ 17) : 0 < nOf r := by
  unfold nOf
  split
  · omega
  · have hc : r.k = 4 ∨ r.k = 5 ∨ r.k = 6 ∨ r.k = 7 ∨ r.k = 8 ∨ r.k = 9 ∨ r.k = 10 ∨ r.k = 11 ∨ r.k = 12 ∨ r.k = 14 ∨ r.k = 13 ∨ r.k = 15 ∨ r.k = 16 ∨ r.k = 17 := by omega
    rcases hc with h | h | h | h | h | h | h | h | h | h | h | h | h | h <;> rw [h] <;> decide

theorem step_lt (r : Rul) (h : 1 ≤ r.k ∧ r.k ≤ 17) (s c : Nat) (hs : s < nOf r) (hc : c < 3) : stepN r s c < nOf r := by
  unfold nOf stepN at *
  split
  · rename_i h3
    rw [if_pos h3] at hs
    split <;> omega
  · rename_i h3
    rw [if_neg h3] at hs
    have hk : r.k = 4 ∨ r.k = 5 ∨ r.k = 6 ∨ r.k = 7 ∨ r.k = 8 ∨ r.k = 9 ∨ r.k = 10 ∨ r.k = 11 ∨ r.k = 12 ∨ r.k = 14 ∨ r.k = 13 ∨ r.k = 15 ∨ r.k = 16 ∨ r.k = 17 := by omega
    have key : ∀ k, (∀ s, s < (rowsOf k).length / 3 → ∀ c, c < 3 → stepT k s c < (rowsOf k).length / 3) → s < (rowsOf k).length / 3 → stepT k s c < (rowsOf k).length / 3 := fun k h hs => h s hs c hc
    rcases hk with h | h | h | h | h | h | h | h | h | h | h | h | h | h <;> rw [h] at hs ⊢ <;> exact key _ (by decide) hs

def runN (r : Rul) (w : List (List Nat)) : Nat := w.foldl (fun s act => stepN r s (isN r act)) 0
theorem run_lt (r : Rul) (h : 1 ≤ r.k ∧ r.k ≤ 17) (w : List (List Nat)) : runN r w < nOf r := by
  have : ∀ (w : List (List Nat)) s, s < nOf r → w.foldl (fun s act => stepN r s (isN r act)) s < nOf r := by
    intro w
    induction w with
    | nil => intro s hs; exact hs
    | cons x w ih => intro s hs; exact ih _ (step_lt r h s _ hs (isN_lt r x))
  exact this w 0 (nOf_pos r h)

def holdsN (r : Rul) (w : List (List Nat)) : Bool := endsN r (runN r w)

theorem validN_k {r : Rul} (h : validN r = true) : (1 ≤ r.k ∧ r.k ≤ 17) ∧ 0 ≤ r.N ∧ r.N ≤ 5 := by
  unfold validN at h
  simp only [Bool.and_eq_true, decide_eq_true_eq] at h
  refine ⟨h.1.1, ?_⟩
  have h2 := h.2
  cases hc : countedN r.k
  · rw [hc, cond_false] at h2
    by_cases h45 : r.k = 4 ∨ r.k = 5
    · simp only [h45, decide_true, cond_true, Bool.and_eq_true, decide_eq_true_eq] at h2; omega
    · simp only [h45, decide_false, cond_false, Bool.and_eq_true, decide_eq_true_eq] at h2; omega
  · rw [hc, cond_true] at h2
    simp only [Bool.and_eq_true, decide_eq_true_eq] at h2
    split at h2 <;> omega

theorem str_take_succ {xs : List (List Nat)} {i : Nat} (h : i < xs.length) {α : Type} (f : α → List Nat → α) (a : α) : (xs.take (i + 1)).foldl f a = f ((xs.take i).foldl f a) xs[i] := by
  rw [List.take_succ_eq_append_getElem h, List.foldl_append]; rfl

theorem t_holds (lo : Nat) (σ : St) (hlo : lo ≤ σ.next) (r : Rul) (v : V) (w : List (List Nat)) (hw : Strs σ v w) (hn : w.length ≤ 9223372036854775807) :
    Does Tryz.prog lo 12 [r.v, v] σ (if properN r w = 0 then .tuple [.bool (holdsN r w), .int .i64 0] else .tuple [.bool false, .int .i64 (properN r w)]) σ := by
  have hr := t_proper lo (σ.new (.cells [.int .i64 r.k, .str r.A, .str r.B, .int .i64 r.N] true [])) r v w (hw.keeps (Keeps.new _ _)) hn
  have ho := fun h1 h2 => t_of lo (σ.new (.cells [.int .i64 r.k, .str r.A, .str r.B, .int .i64 r.N] true [])) (by rw [St.new_next]; omega) r h1 h2
  have hs := hw.shape
  by_cases h0 : properN r w = 0
  · have hv : validN r = true := by
      unfold properN at h0
      cases hv : validN r with
      | true => rfl
      | false => rw [hv] at h0; simp at h0
    obtain ⟨hk, hN⟩ := validN_k hv
    have ho := ho hk hN
    rw [if_pos h0]
    rw [h0] at hr
    refine does_pure draw32 tb12 (by kernel_rfl) rfl ?_
    rcases hs with ⟨rfl, hl⟩ | ⟨b, o, c, rfl⟩
    · have hw0 : w = [] := List.length_eq_zero_iff.1 hl
      (conv => whnf)
      refine wread_of (St.new_get _ _) ?_
      (conv => whnf)
      refine wcall_of hr ?_
      (conv => whnf)
      refine wread_of (St.new_get _ _) ?_
      (conv => whnf)
      refine wcall_ex ho ?_
      rintro v σ1 ⟨hk1, S, hS, f1, c1, f2, c2, rfl, hm⟩
      (conv => whnf)
      refine wwrite_all (St.new_get _ _) ?_ rfl rfl ?_
      · have := hk1.next; rw [St.new_next] at this; omega
      (conv => whnf)
      refine WL.step ?_
      (conv => whnf)
      refine wread_of (St.put_get _ _ _) ?_
      (conv => whnf)
      have hm0 := (hm ((σ1.new (.cells [.nilFunc, .nilFunc] true [])).put σ1.next (.cells [.func f1 [] c1, .func f2 [] c2] true [])) (by rw [St.put_next, St.new_next]; omega)
        (fun id hid => by have := hS id hid; rw [St.put_get_ne _ _ (by omega), St.new_get_ne _ _ (by omega)]) lo 0 (nOf_pos r hk)).2
      refine wcall_of hm0 ?_
      (conv => whnf)
      refine ⟨?_, (((Keeps.new _ _).trans hk1).add _).put (by have := hk1.next; rw [St.new_next] at this; omega) _⟩
      subst hw0
      rfl
    · have hb : ∃ l rw' anc, b < σ.next ∧ σ.mem.get b = .cells l rw' anc ∧ ∀ (i : Nat) (x : V), (w.map V.str)[i]? = some x → l[o + i]? = some x := by
        rcases hw with ⟨h, _⟩ | ⟨b', o', cap, l, rw', anc, h, hb, hg, hl⟩
        · cases h
        · rw [List.length_map] at h
          cases h; exact ⟨l, rw', anc, hb, hg, hl⟩
      obtain ⟨l, rw', anc, hb, hg, hl⟩ := hb
      (conv => whnf)
      refine wread_of (St.new_get _ _) ?_
      (conv => whnf)
      refine wcall_of hr ?_
      (conv => whnf)
      refine wread_of (St.new_get _ _) ?_
      (conv => whnf)
      refine wcall_ex ho ?_
      rintro v σ1 ⟨hk1, S, hS, f1, c1, f2, c2, rfl, hm⟩
      (conv => whnf)
      have hnx := hk1.next
      rw [St.new_next] at hnx
      refine wwrite_all (St.new_get _ _) (by omega) rfl rfl ?_
      (conv => whnf)
      have hm0 := hm ((σ1.new (.cells [.nilFunc, .nilFunc] true [])).put σ1.next (.cells [.func f1 [] c1, .func f2 [] c2] true [])) (by rw [St.put_next, St.new_next]; omega)
        (fun id hid => by have := hS id hid; rw [St.put_get_ne _ _ (by omega), St.new_get_ne _ _ (by omega)])
      have hk2 : Keeps σ ((σ1.new (.cells [.nilFunc, .nilFunc] true [])).put σ1.next (.cells [.func f1 [] c1, .func f2 [] c2] true [])) := (((Keeps.new _ _).trans hk1).add _).put (by omega) _
      have gm : ((σ1.new (.cells [.nilFunc, .nilFunc] true [])).put σ1.next (.cells [.func f1 [] c1, .func f2 [] c2] true [])).mem.get σ1.next = .cells [.func f1 [] c1, .func f2 [] c2] true [] := St.put_get _ _ _
      have gr : ((σ1.new (.cells [.nilFunc, .nilFunc] true [])).put σ1.next (.cells [.func f1 [] c1, .func f2 [] c2] true [])).mem.get σ.next = .cells [.int .i64 r.k, .str r.A, .str r.B, .int .i64 r.N] true [] := by
        rw [St.put_get_ne _ _ (by omega), St.new_get_ne _ _ (by omega)]
        exact hk1.old (St.new_get _ _) (by rw [St.new_next]; omega)
      have gw := hk2.old hg hb
      generalize (σ1.new (.cells [.nilFunc, .nilFunc] true [])).put σ1.next (.cells [.func f1 [] c1, .func f2 [] c2] true []) = σ2 at *
      refine WL.run (fun n F σ' => ∃ F0 i, F = put (put (put (put (put (put F0 2 (.ptr σ.next 0)) 7 (.ptr σ1.next 0)) 8 (.int .i64 (runN r (w.take i) : Nat))) 19 (.slice b o w.length c)) 20 (.int .i64 (w.length : Nat))) 21 (.int .i64 (i : Nat)) ∧ σ' = σ2 ∧ i + n = w.length)
        ?_ w.length _ _ ⟨_, 0, fix6 rfl rfl rfl rfl rfl rfl, rfl, by omega⟩
      rintro n F σ' ⟨F0, i, rfl, rfl, hi⟩
      (conv => whnf); split
      · rename_i h3
        have h3 : i < w.length := by have := of_decide_eq_true h3; omega
        (conv => whnf)
        refine ⟨by omega, ?_⟩
        (conv => whnf)
        refine ⟨h3, ?_⟩
        (conv => whnf)
        refine wread_one gw (hl i _ (str_at h3)) ?_
        (conv => whnf)
        refine wread_of gm ?_
        (conv => whnf)
        refine wread_of gr ?_
        (conv => whnf)
        refine wcall_of (t_is _ _ r _) ?_
        (conv => whnf)
        refine wcall_of ((hm0 _ _ (run_lt r hk _)).1 _ (isN_lt r _)) ?_
        (conv => whnf)
        refine ⟨by omega, ?_⟩
        (conv => whnf)
        refine ⟨n - 1, by omega, _, i + 1, fix6 rfl rfl ?_ rfl rfl rfl, rfl, by omega⟩
        show V.int .i64 _ = V.int .i64 _
        congr 2
        exact (str_take_succ h3 (fun s act => stepN r s (isN r act)) 0).symm
      · rename_i h3
        have h3 : ¬ i < w.length := by have := of_decide_eq_false h3; omega
        (conv => whnf)
        refine wread_of gm ?_
        (conv => whnf)
        refine wcall_of (hm0 _ _ (run_lt r hk _)).2 ?_
        (conv => whnf)
        refine ⟨?_, hk2⟩
        rw [List.take_of_length_le (by omega)]
        rfl
  · rw [if_neg h0]
    refine does_pure draw32 tb12 (by kernel_rfl) rfl ?_
    generalize properN r w = e at *
    rcases hs with ⟨rfl, hl⟩ | ⟨b, o, c, rfl⟩
    all_goals
      (conv => whnf)
      refine wread_of (St.new_get _ _) ?_
      (conv => whnf)
      refine wcall_of hr ?_
      (conv => whnf); split
      · (conv => whnf)
        exact ⟨rfl, Keeps.new _ _⟩
      · rename_i h1
        simp at h1
        exact absurd h1 h0

def actN (r : Rul) (w : List (List Nat)) : Bool :=
  let a := w.any fun x => decide (r.A = x)
  let b := decide (r.B ≠ []) && w.any fun x => decide (r.B = x)
  if r.k = 4 ∨ r.k = 5 then decide (0 < w.length) else if r.k = 7 ∨ r.k = 10 ∨ r.k = 12 then b else if r.k = 8 ∨ r.k = 13 ∨ r.k = 16 ∨ r.k = 17 then a || b else a

theorem t_activated (lo : Nat) (σ : St) (r : Rul) (v : V) (w : List (List Nat)) (hw : Strs σ v w) (hn : w.length ≤ 9223372036854775807) :
    Does Tryz.prog lo 11 [r.v, v] σ (if properN r w = 0 then .tuple [.bool (actN r w), .int .i64 0] else .tuple [.bool false, .int .i64 (properN r w)]) σ := by
  have hr := t_proper lo (σ.new (.cells [.int .i64 r.k, .str r.A, .str r.B, .int .i64 r.N] true [])) r v w (hw.keeps (Keeps.new _ _)) hn
  have hc := fun lo s => t_containsS lo (σ.new (.cells [.int .i64 r.k, .str r.A, .str r.B, .int .i64 r.N] true [])) v w (hw.keeps (Keeps.new _ _)) hn s
  have hs := hw.shape
  by_cases h0 : properN r w = 0
  · rw [if_pos h0]
    rw [h0] at hr
    refine does_pure draw32 tb11 (by kernel_rfl) rfl ?_
    have hA : ∃ a, (w.any fun x => decide (r.A = x)) = a := ⟨_, rfl⟩
    have hB : ∃ b, (w.any fun x => decide (r.B = x)) = b := ⟨_, rfl⟩
    obtain ⟨a, hA⟩ := hA
    obtain ⟨b', hB⟩ := hB
    have hca := fun lo => hA ▸ hc lo r.A
    have hcb := fun lo => hB ▸ hc lo r.B
    have hact : actN r w = if r.k = 4 ∨ r.k = 5 then decide (0 < w.length) else if r.k = 7 ∨ r.k = 10 ∨ r.k = 12 then (decide (r.B ≠ []) && b') else if r.k = 8 ∨ r.k = 13 ∨ r.k = 16 ∨ r.k = 17 then a || (decide (r.B ≠ []) && b') else a := by
      rw [← hA, ← hB]; rfl
    generalize actN r w = e at *
    clear hA hB hc
    rcases hs with ⟨rfl, hl⟩ | ⟨b, o, c, rfl⟩
    all_goals
      (conv => whnf)
      refine wread_of (St.new_get _ _) ?_
      (conv => whnf)
      refine wcall_of hr ?_
      (conv => whnf)
      refine wread_of (St.new_get _ _) ?_
      (conv => whnf)
      refine wcall_of (hca _) ?_
      repeat' ((conv => whnf); first | split | refine wread_of (St.new_get _ _) ?_ | refine wcall_of (hcb _) ?_)
      all_goals (conv => whnf)
      all_goals refine ⟨congrArg (fun b => V.tuple [.bool b, .int .i64 0]) ?_, Keeps.new _ _⟩
      all_goals simp_all
  · rw [if_neg h0]
    refine does_pure draw32 tb11 (by kernel_rfl) rfl ?_
    generalize properN r w = e at *
    rcases hs with ⟨rfl, hl⟩ | ⟨b, o, c, rfl⟩
    all_goals
      (conv => whnf)
      refine wread_of (St.new_get _ _) ?_
      (conv => whnf)
      refine wcall_of hr ?_
      (conv => whnf); split
      · (conv => whnf)
        exact ⟨rfl, Keeps.new _ _⟩
      · rename_i h1
        simp at h1
        exact absurd h1 h0
end Go.Vm

/- declare: the library's functions that the texts of rules use. -/
set_option maxRecDepth 100000
namespace Go.Vm
open Go.Proofs Go.RowKit
attribute [local irreducible] wread wwrite wcall M.get M.set St.new St.put lessB wrapF

def indexN : List Nat → List Nat → Int
  | [], sub => if sub.isEmpty then 0 else -1
  | b :: l, sub => if sub.isPrefixOf (b :: l) then 0 else if indexN l sub == -1 then -1 else indexN l sub + 1
def cutN (s sep : List Nat) : List Nat × List Nat × Bool :=
  if 0 ≤ indexN s sep then (s.take (indexN s sep).toNat, s.drop ((indexN s sep).toNat + sep.length), true) else (s, [], false)

theorem prefix_map : ∀ (a b : List UInt8), (a.map (·.toNat)).isPrefixOf (b.map (·.toNat)) = a.isPrefixOf b
  | [], _ => rfl
  | _ :: _, [] => rfl
  | x :: a, y :: b => by
    have h : (x.toNat == y.toNat) = (x == y) := by rw [Bool.eq_iff_iff]; simp [UInt8.toNat_inj]
    simp only [List.map_cons, List.isPrefixOf_cons_cons, prefix_map a b, h]
theorem index_map (sub : List UInt8) : ∀ l : List UInt8, Lib.index l sub = indexN (l.map (·.toNat)) (sub.map (·.toNat))
  | [] => by cases sub <;> rfl
  | b :: l => by
    have h : (sub.map (·.toNat)).isPrefixOf (b.toNat :: l.map (·.toNat)) = sub.isPrefixOf (b :: l) := prefix_map sub (b :: l)
    show (if sub.isPrefixOf (b :: l) then (0 : Int) else if Lib.index l sub == -1 then -1 else Lib.index l sub + 1) =
      if (sub.map (·.toNat)).isPrefixOf (b.toNat :: l.map (·.toNat)) then 0 else if indexN (l.map (·.toNat)) (sub.map (·.toNat)) == -1 then -1 else indexN (l.map (·.toNat)) (sub.map (·.toNat)) + 1
    rw [h, index_map sub l]
theorem cut_map (l sub : List UInt8) : cutN (l.map (·.toNat)) (sub.map (·.toNat)) = ((Lib.cut l sub).1.map (·.toNat), (Lib.cut l sub).2.1.map (·.toNat), (Lib.cut l sub).2.2) := by
  unfold cutN Lib.cut
  rw [← index_map]
  split
  · simp [List.map_take, List.map_drop]
  · rfl

def suffixN (s p : List Nat) : Bool := p.isSuffixOf s
def trimN (s p : List Nat) : List Nat := if suffixN s p then s.take (s.length - p.length) else s

theorem suffix_map (a b : List UInt8) : suffixN (a.map (·.toNat)) (b.map (·.toNat)) = Lib.hasSuffix a b := by
  unfold suffixN Lib.hasSuffix List.isSuffixOf
  rw [← List.map_reverse, ← List.map_reverse, prefix_map]
theorem trim_map (a b : List UInt8) : trimN (a.map (·.toNat)) (b.map (·.toNat)) = (Lib.trimSuffix a b).map (·.toNat) := by
  unfold trimN Lib.trimSuffix
  rw [suffix_map]
  split
  · simp [List.map_take]
  · rfl

theorem t_cut (lo : Nat) (σ : St) (x : Int) (rw' : Bool) (anc : List Nat) (hM : σ.mem.get 0 = .cells [.int .i64 x] rw' anc) (s t : List Nat) (hs : s.length < 4294967281) :
    Does Tryz.prog lo 25 [.str s, .str t] σ (.tuple [.str (cutN s t).1, .str (cutN s t).2.1, .bool (cutN s t).2.2]) σ := by
  refine Does.of_below ⟨_, _, Tryz.func25, rfl, by decide⟩ fun m w cargs hR ha => ?_
  obtain ⟨b, c, rfl, ⟨hb, hb2⟩, hc, hc2⟩ := VRs2 ha
  obtain ⟨cv, h1, h2⟩ := hR.global (g := 0) (by decide) hM (j := 0) rfl
  simp only [VR] at h2
  subst h2
  refine (Tryz.strings_Cut b c x w (by rw [Lib.size_eq, hb]; simpa [bytes] using hs) h1).mono ?_
  rintro e w' ⟨rfl, n, rfl⟩
  refine ⟨_, rfl, ?_, below_drewN w n⟩
  have hcut := cut_map b.data.toList c.data.toList
  rw [hb2, hc2] at hcut
  rw [hcut]
  simp only [VR, VRs]
  exact ⟨_, rfl, _, _, rfl, ⟨_, rfl, by simp⟩, _, _, rfl, ⟨_, rfl, by simp⟩, _, _, rfl, rfl, rfl⟩

theorem t_cutSuffix (lo : Nat) (σ : St) (s t : List Nat) (hs : s.length ≤ 9223372036854775807) : Does Tryz.prog lo 26 [.str s, .str t] σ (.tuple [.str (trimN s t), .bool (suffixN s t)]) σ := by
  refine Does.of_below ⟨_, _, Tryz.func26, rfl, by decide⟩ fun m w cargs hR ha => ?_
  obtain ⟨b, c, rfl, ⟨hb, hb2⟩, hc, hc2⟩ := VRs2 ha
  refine (Tryz.strings_CutSuffix b c w (by rw [Lib.size_eq, hb]; simpa [bytes] using hs)).mono ?_
  rintro e w' ⟨rfl, rfl⟩
  refine ⟨_, rfl, ?_, Below.refl _ _⟩
  rw [← hb2, ← hc2, trim_map, suffix_map]
  simp only [VR, VRs]
  exact ⟨_, rfl, _, _, rfl, ⟨_, rfl, by simp⟩, _, _, rfl, rfl, rfl⟩

theorem t_itoa (lo : Nat) (σ : St) (n : Nat) (hn : n < 10) : Does Tryz.prog lo 30 [.int .i64 (n : Int)] σ (.str [48 + n]) σ := by
  refine Does.of_below ⟨_, _, Tryz.func30, rfl, by decide⟩ fun m w cargs hR ha => ?_
  obtain rfl := VRsI ha
  refine (Tryz.strconv_Itoa_small n (by omega) w).mono ?_
  rintro e w' ⟨rfl, rfl⟩
  refine ⟨_, rfl, ?_, Below.refl _ _⟩
  simp only [VR]
  refine ⟨_, rfl, ?_⟩
  unfold Lib.decDigits
  rw [dif_pos hn]
  simp only [List.map_cons, List.map_nil, UInt8.toNat_ofNat']
  congr 1; omega

def atoiN (s : List Nat) : Lib.NumEnd Int := Lib.atoiAll (bytes s)

theorem t_atoi_ok (lo : Nat) (σ : St) (s : List Nat) (hs : s.length ≤ 1000) (n : Int) (h : atoiN s = .ok n) : Does Tryz.prog lo 29 [.str s] σ (.tuple [.int .i64 n, .nilIface]) σ := by
  refine Does.of_below ⟨_, _, Tryz.func29, rfl, by decide⟩ fun m w cargs hR ha => ?_
  obtain ⟨b, rfl, hb, hb2⟩ := VRs1 ha
  refine (Tryz.strconv_Atoi_ok b (by rw [Lib.size_eq, hb]; simp [bytes]; omega) n (by rw [hb]; exact h) w).mono ?_
  rintro e w' ⟨rfl, hw⟩
  refine ⟨_, rfl, ?_, ?_⟩
  · simp only [VR, VRs]
    exact ⟨_, rfl, _, _, rfl, rfl, _, _, rfl, rfl, rfl⟩
  · rcases hw with rfl | ⟨t, rfl⟩
    · exact Below.refl _ _
    · exact below_bytes _ _ _

/-- What the package variables hold. -/
structure Glob (σ : St) : Prop where
  len : ∃ x rw' anc, σ.mem.get 0 = .cells [.int .i64 x] rw' anc
  syn : ∃ t v rw' anc, σ.mem.get 1 = .cells [.iface t v] rw' anc
  ran : ∃ t v rw' anc, σ.mem.get 2 = .cells [.iface t v] rw' anc
  next : 6 ≤ σ.next
theorem Glob.keeps {σ σ' : St} (h : Glob σ) (hk : Keeps σ σ') : Glob σ' := by
  obtain ⟨⟨x, r1, a1, h1⟩, ⟨t, v, r2, a2, h2⟩, ⟨t3, v3, r3, a3, h3⟩, hn⟩ := h
  exact ⟨⟨x, r1, a1, hk.old h1 (by omega)⟩, ⟨t, v, r2, a2, hk.old h2 (by omega)⟩, ⟨t3, v3, r3, a3, hk.old h3 (by omega)⟩, Nat.le_trans hn hk.next⟩

theorem t_atoi_err (lo : Nat) (σ : St) (hG : Glob σ) (s : List Nat) (hs : s.length ≤ 1000) (h : ∀ n, atoiN s ≠ .ok n) : ∃ n, Does Tryz.prog lo 29 [.str s] σ (.tuple [.int .i64 n, .iface 153 (.ptr σ.next 0)]) (σ.new .none) := by
  have fin : ∀ (m : Mp) (n : Int) (N : Nat), VR (Vm.upd m σ.next ⟨N, 0, 0⟩) (.tuple [.int .i64 n, .iface 153 (.ptr σ.next 0)]) (.tuple #[.int .i64 n, .iface 153 (.pointer (some ⟨N, 0, none⟩))]) := by
    intro m n N
    simp only [VR, VRs]
    exact ⟨_, rfl, _, _, rfl, rfl, _, _, rfl, ⟨_, rfl, _, upd_same _ _ _, rfl⟩, rfl⟩
  cases hc : atoiN s with
  | ok n => exact absurd hc (h n)
  | range =>
    refine ⟨Lib.atoiSat (bytes s), Does.of_hint ⟨_, _, Tryz.func29, rfl, by decide⟩ fun m w cargs hR ha => ?_⟩
    obtain ⟨b, rfl, hb, hb2⟩ := VRs1 ha
    obtain ⟨t, v, r2, a2, h2⟩ := hG.ran
    obtain ⟨cv, h3, h4⟩ := hR.global (g := 2) (by decide) h2 (j := 0) rfl
    simp only [VR] at h4
    obtain ⟨y, rfl, _⟩ := h4
    refine (Tryz.strconv_Atoi_range b (by rw [Lib.size_eq, hb]; simp [bytes]; omega) (by rw [hb]; exact hc) _ w h3 (.inr ⟨_, _, rfl⟩)).mono ?_
    rintro e w' ⟨N, rfl, q1, q2, q3⟩
    rw [hb]
    exact ⟨_, N, rfl, fin m _ N, q3, q1, (Array.getElem?_eq_some_iff.1 q2).1⟩
  | _ =>
    refine ⟨0, Does.of_hint ⟨_, _, Tryz.func29, rfl, by decide⟩ fun m w cargs hR ha => ?_⟩
    obtain ⟨b, rfl, hb, hb2⟩ := VRs1 ha
    obtain ⟨t, v, r2, a2, h2⟩ := hG.syn
    obtain ⟨cv, h3, h4⟩ := hR.global (g := 1) (by decide) h2 (j := 0) rfl
    simp only [VR] at h4
    obtain ⟨y, rfl, _⟩ := h4
    refine (Any.strconv_Atoi_syntax Tryz.laysC172 b (by rw [Lib.size_eq, hb]; simp [bytes]; omega) (by rw [hb]; exact hc) _ w h3 (.inr ⟨_, _, rfl⟩)).mono ?_
    rintro e w' ⟨N, rfl, q1, q2, q3⟩
    exact ⟨_, N, rfl, fin m 0 N, q3, q1, (Array.getElem?_eq_some_iff.1 q2).1⟩
end Go.Vm

/- declare: texts of rules, and rules of texts. -/
set_option maxRecDepth 100000
namespace Go.Vm
open Go.Proofs
attribute [local irreducible] wread wwrite wcall M.get M.set St.new St.put Does lessB wrapF

def tailN (r : Rul) : List Nat := if countedN r.k = true then [44, 32] ++ [48 + r.N.toNat] else if r.B ≠ [] then [44, 32] ++ r.B else []
def textN (r : Rul) : List Nat := wordN r.k.toNat ++ [40] ++ r.A ++ tailN r ++ [41]

theorem word_len (k : Nat) : (wordN k).length ≤ 20 := by
  unfold wordN
  by_cases h : k < words.length
  · have : ∀ k, k < words.length → (words.getD k []).length ≤ 20 := by decide
    exact this k h
  · rw [List.getD_eq_getElem?_getD, List.getElem?_eq_none (by omega)]; simp

theorem name_len {s : List Nat} (h : isNameN s = true) : s.length ≤ 40 := by
  unfold isNameN at h
  simp only [Bool.and_eq_true, decide_eq_true_eq] at h
  omega
theorem name_pos {s : List Nat} (h : isNameN s = true) : s ≠ [] := by
  unfold isNameN at h
  simp only [Bool.and_eq_true, decide_eq_true_eq] at h
  intro e; subst e; simp at h

theorem validN_A {r : Rul} (h : validN r = true) : isNameN r.A = true := by
  unfold validN at h
  simp only [Bool.and_eq_true] at h
  exact h.1.2
theorem validN_B {r : Rul} (h : validN r = true) : r.B = [] ∨ isNameN r.B = true := by
  unfold validN at h
  simp only [Bool.and_eq_true] at h
  have h2 := h.2
  cases hc : countedN r.k
  · rw [hc, cond_false] at h2
    by_cases h45 : r.k = 4 ∨ r.k = 5
    · simp only [h45, decide_true, cond_true, Bool.and_eq_true, decide_eq_true_eq] at h2; exact .inl h2.1
    · simp only [h45, decide_false, cond_false, Bool.and_eq_true, decide_eq_true_eq] at h2; exact .inr h2.1.2
  · rw [hc, cond_true] at h2
    simp only [Bool.and_eq_true, decide_eq_true_eq] at h2
    exact .inl h2.1.1

theorem t_text (lo : Nat) (σ : St) (r : Rul) : Does Tryz.prog lo 9 [r.v] σ (if validN r = true then .tuple [.str (textN r), .int .i64 0] else .tuple [.str [], .int .i64 1]) σ := by
  have hv := t_valid lo (σ.new (.cells [.int .i64 r.k, .str r.A, .str r.B, .int .i64 r.N] true [])) r
  by_cases h : validN r = true
  · rw [if_pos h]
    rw [h] at hv
    obtain ⟨hk, hN⟩ := validN_k h
    have hA := name_len (validN_A h)
    have hB : r.B.length ≤ 40 := by
      rcases validN_B h with h | h
      · rw [h]; simp
      · exact name_len h
    have hw := word_len r.k.toNat
    obtain ⟨k, A, B, N⟩ := r
    obtain ⟨k, rfl⟩ : ∃ n : Nat, k = n := ⟨k.toNat, by simp only at hk; omega⟩
    obtain ⟨N, rfl⟩ : ∃ n : Nat, N = n := ⟨N.toNat, by simp only at hN; omega⟩
    simp only [Int.toNat_natCast] at hk hN hA hB hw
    refine does_pure draw32 tb9 (by kernel_rfl) rfl ?_
    (conv => whnf)
    refine wread_of (St.new_get _ _) ?_
    (conv => whnf)
    refine wcall_of hv ?_
    (conv => whnf)
    refine wread_of (St.new_get _ _) ?_
    (conv => whnf)
    refine wcall_of (t_word _ _ k (by omega)) ?_
    (conv => whnf)
    refine ⟨by simp; omega, ?_⟩
    (conv => whnf)
    refine wread_of (St.new_get _ _) ?_
    (conv => whnf)
    refine ⟨by simp; omega, ?_⟩
    (conv => whnf)
    refine wread_of (St.new_get _ _) ?_
    (conv => whnf)
    refine wcall_of (t_counted _ _ _) ?_
    (conv => whnf); split
    · rename_i h1
      (conv => whnf)
      refine wread_of (St.new_get _ _) ?_
      (conv => whnf)
      refine wcall_of (t_itoa _ _ N (by omega)) ?_
      (conv => whnf)
      refine ⟨by simp, ?_⟩
      (conv => whnf)
      refine ⟨by simp; omega, ?_⟩
      (conv => whnf)
      refine ⟨by simp; omega, ?_⟩
      (conv => whnf)
      refine ⟨?_, Keeps.new _ _⟩
      simp only [tupV, textN, tailN, h1, if_true, Int.toNat_natCast]
    · rename_i h1
      (conv => whnf)
      refine wread_of (St.new_get _ _) ?_
      (conv => whnf); split
      · rename_i h2
        have h2 := of_decide_eq_true h2
        (conv => whnf)
        refine wread_of (St.new_get _ _) ?_
        (conv => whnf)
        refine ⟨by simp; omega, ?_⟩
        (conv => whnf)
        refine ⟨by simp; omega, ?_⟩
        (conv => whnf)
        refine ⟨by simp; omega, ?_⟩
        (conv => whnf)
        refine ⟨?_, Keeps.new _ _⟩
        simp only [tupV, textN, tailN, h1, Int.toNat_natCast]
        rw [if_neg (by simp), if_pos h2]
      · rename_i h2
        have h2 := of_decide_eq_false h2
        (conv => whnf)
        refine ⟨by simp; omega, ?_⟩
        (conv => whnf)
        refine ⟨?_, Keeps.new _ _⟩
        simp only [tupV, textN, tailN, h1, Int.toNat_natCast]
        rw [if_neg (by simp), if_neg h2, List.append_nil]
  · rw [if_neg h]
    simp only [Bool.not_eq_true] at h
    rw [h] at hv
    refine does_pure draw32 tb9 (by kernel_rfl) rfl ?_
    (conv => whnf)
    refine wread_of (St.new_get _ _) ?_
    (conv => whnf)
    refine wcall_of hv ?_
    (conv => whnf)
    exact ⟨rfl, Keeps.new _ _⟩

theorem t_plain (lo : Nat) (σ : St) (r : Rul) : Does Tryz.prog lo 6 [r.v] σ (.bool (decide (r.A.length ≤ 100) && decide (r.B.length ≤ 100))) σ := by
  refine does_pure draw32 tb6 (by kernel_rfl) rfl ?_
  repeat' ((conv => whnf); first | split | refine wread_of (St.new_get _ _) ?_)
  all_goals (conv => whnf)
  all_goals refine ⟨boolV ?_, Keeps.new _ _⟩
  all_goals simp_all
  all_goals omega

theorem t_short (lo : Nat) (σ : St) (v : V) (w : List (List Nat)) (hw : Strs σ v w) (hn : w.length ≤ 9223372036854775807) (n : Nat) :
    Does Tryz.prog lo 7 [v, .int .i64 (n : Int)] σ (.bool (decide (w.length ≤ n) && !w.any fun s => decide (100 < s.length))) σ := by
  have key := t_containsFuncS lo σ v w hw hn 24 [] [] (fun s => decide (100 < s.length)) (fun x _ lo => t_short1 lo _ x)
  refine does_pure draw32 tb7 (by kernel_rfl) rfl ?_
  generalize (w.any fun s => decide (100 < s.length)) = b at *
  rcases hw.shape with ⟨rfl, h0⟩ | ⟨b, o, c, rfl⟩
  all_goals
    repeat' ((conv => whnf); first | split | refine wcall_of key ?_)
    all_goals (conv => whnf)
    all_goals refine ⟨boolV ?_, Keeps.refl _⟩
    all_goals simp_all
    all_goals omega

/-- The rules that a text's parts may mean, the kinds one after the other. -/
def parseL (s head a b : List Nat) : List Nat → Option Rul
  | [] => none
  | k :: ks =>
    if wordN k ≠ head then parseL s head a b ks
    else if countedN k = true then match atoiN b with
      | .ok n => if validN ⟨k, a, [], n⟩ = true ∧ textN ⟨k, a, [], n⟩ = s then some ⟨k, a, [], n⟩ else parseL s head a b ks
      | _ => none
    else if validN ⟨k, a, b, 0⟩ = true ∧ textN ⟨k, a, b, 0⟩ = s then some ⟨k, a, b, 0⟩ else parseL s head a b ks

def parseN (s : List Nat) : Option Rul :=
  let c := cutN s [40]
  let d := cutN (trimN c.2.1 [41]) [44, 32]
  if suffixN c.2.1 [41] = true then parseL s c.1 d.1 d.2.1 (List.range' 1 17) else none

def zeroR : Rul := ⟨0, [], [], 0⟩
def parseV (o : Option Rul) : V := match o with | some r => .tuple [r.v, .int .i64 0] | none => .tuple [zeroR.v, .int .i64 3]

theorem cut_len (s t : List Nat) : (cutN s t).1.length ≤ s.length ∧ (cutN s t).2.1.length ≤ s.length := by
  unfold cutN
  split <;> simp <;> omega
theorem trim_len (s t : List Nat) : (trimN s t).length ≤ s.length := by
  unfold trimN
  split <;> simp

theorem t_parse (lo : Nat) (σ : St) (hlo : lo ≤ σ.next) (hG : Glob σ) (s : List Nat) (hs : s.length ≤ 1000) : Does Tryz.prog lo 8 [.str s] σ (parseV (parseN s)) σ := by
  have hnr : noRef (parseV (parseN s)) = true := by
    cases parseN s with
    | none => rfl
    | some r => rfl
  obtain ⟨x, r0, a0, hM⟩ := hG.len
  have hnx := hG.next
  refine does_pure draw32 tb8 (by kernel_rfl) hnr ?_
  clear hnr
  (conv => whnf); split
  · rename_i h
    have := of_decide_eq_true h
    omega
  (conv => whnf)
  refine wcall_of (t_cut _ _ x r0 a0 (St.new_old hM (by omega)) _ _ (by omega)) ?_
  have hc := cut_len s [40]
  have hp : parseN s = if suffixN (cutN s [40]).2.1 [41] = true then parseL s (cutN s [40]).1 (cutN (trimN (cutN s [40]).2.1 [41]) [44, 32]).1 (cutN (trimN (cutN s [40]).2.1 [41]) [44, 32]).2.1 (List.range' 1 17) else none := rfl
  generalize parseN s = res at *
  generalize cutN s [40] = c1 at *
  obtain ⟨head, rest, bb⟩ := c1
  simp only at hc hp
  (conv => whnf)
  refine wcall_of (t_cutSuffix _ _ rest _ (by omega)) ?_
  have ht := trim_len rest [41]
  generalize trimN rest [41] = rest2 at *
  generalize suffixN rest [41] = ok at *
  (conv => whnf)
  refine wcall_of (t_cut _ _ x r0 a0 (St.new_old hM (by omega)) rest2 _ (by omega)) ?_
  have hd := cut_len rest2 [44, 32]
  generalize cutN rest2 [44, 32] = c2 at *
  obtain ⟨a, b, bb2⟩ := c2
  simp only at hd hp
  (conv => whnf); split
  · rename_i h
    have h : ok = false := by simpa using h
    rw [h] at hp
    (conv => whnf)
    refine wwrite_all (St.new_get _ _) (by omega) rfl rfl ?_
    (conv => whnf)
    refine wread_of (St.put_get _ _ _) ?_
    (conv => whnf)
    refine ⟨?_, (Keeps.new _ _).put (Nat.le_refl _) _⟩
    rw [hp]; rfl
  · rename_i h
    have h : ok = true := by simpa using h
    rw [h, if_pos rfl] at hp
    (conv => whnf)
    have hG1 : Glob (σ.new (.cells [.int .i64 0, .str [], .str [], .int .i64 0] true [])) := hG.keeps (Keeps.new _ _)
    have hz : (σ.new (.cells [.int .i64 0, .str [], .str [], .int .i64 0] true [])).mem.get σ.next = .cells [.int .i64 0, .str [], .str [], .int .i64 0] true [] := St.new_get _ _
    have hk0 : Keeps σ (σ.new (.cells [.int .i64 0, .str [], .str [], .int .i64 0] true [])) := Keeps.new _ _
    have hlt : σ.next < (σ.new (.cells [.int .i64 0, .str [], .str [], .int .i64 0] true [])).next := by rw [St.new_next]; omega
    generalize σ.new (.cells [.int .i64 0, .str [], .str [], .int .i64 0] true []) = σ1 at *
    refine WL.run (fun n F σ' => ∃ F0 i, F = put (put (put (put (put (put F0 0 (.str s)) 2 (.ptr σ.next 0)) 4 (.str head)) 8 (.str a)) 9 (.str b)) 11 (.int .i64 (i : Nat)) ∧ Keeps σ1 σ' ∧ i + n = 18 ∧ 1 ≤ i ∧ res = parseL s head a b (List.range' i n))
      ?_ 17 _ _ ⟨_, 1, fix6 rfl rfl rfl rfl rfl rfl, Keeps.refl _, by omega, by omega, hp⟩
    rintro n F σ' ⟨F0, i, rfl, hk1, hi, hi1, hr⟩
    have hz1 := hk1.old hz hlt
    have hn1 := hk1.next
    (conv => whnf); split
    · rename_i h2
      have h2 : i < 18 := by have := of_decide_eq_true h2; omega
      obtain ⟨n, rfl⟩ : ∃ j, n = j + 1 := ⟨n - 1, by omega⟩
      rw [List.range'_succ] at hr
      (conv => whnf)
      refine wcall_of (t_word _ _ i h2) ?_
      (conv => whnf); split
      · rename_i h3
        have h3 := of_decide_eq_true h3
        (conv => whnf)
        refine ⟨by omega, ?_⟩
        (conv => whnf)
        refine ⟨n, by omega, _, i + 1, fix6 rfl rfl rfl rfl rfl rfl, hk1, by omega, by omega, ?_⟩
        rw [hr, parseL, if_pos h3]
      · rename_i h3
        have h3 := of_decide_eq_false h3
        rw [parseL, if_neg h3] at hr
        (conv => whnf)
        refine wwrite_all (St.new_get _ _) (by omega) rfl rfl ?_
        have hk2 : Keeps σ1 ((σ'.new (.cells [.int .i64 0, .str [], .str [], .int .i64 0] true [])).put σ'.next (.cells [.int .i64 (i : Int), .str a, .str b, .int .i64 0] true [])) := (hk1.add _).put (by omega) _
        have hr2 : ((σ'.new (.cells [.int .i64 0, .str [], .str [], .int .i64 0] true [])).put σ'.next (.cells [.int .i64 (i : Int), .str a, .str b, .int .i64 0] true [])).mem.get σ'.next = .cells [.int .i64 (i : Int), .str a, .str b, .int .i64 0] true [] := St.put_get _ _ _
        have hlt2 : σ'.next < ((σ'.new (.cells [.int .i64 0, .str [], .str [], .int .i64 0] true [])).put σ'.next (.cells [.int .i64 (i : Int), .str a, .str b, .int .i64 0] true [])).next := by rw [St.put_next, St.new_next]; omega
        (conv => whnf)
        refine wcall_of (t_counted _ _ _) ?_
        (conv => whnf)
        generalize (σ'.new (.cells [.int .i64 0, .str [], .str [], .int .i64 0] true [])).put σ'.next (.cells [.int .i64 (i : Int), .str a, .str b, .int .i64 0] true []) = σ2 at *
        have hz2 := hk2.old hz hlt
        have hG2 := hG1.keeps hk2
        split
        · rename_i h4
          rw [if_pos h4] at hr
          (conv => whnf)
          cases hat : atoiN b with
          | ok nn =>
            rw [hat] at hr
            simp only at hr
            refine wcall_of (t_atoi_ok _ _ b (by omega) nn hat) ?_
            (conv => whnf)
            refine wwrite_one hr2 (by omega) rfl (by simp) ?_
            (conv => whnf)
            refine wwrite_one (St.put_get _ _ _) (by omega) rfl (by simp) ?_
            have hk3 := (hk2.put (b := σ'.next) (by omega) (.cells [.int .i64 (i : Int), .str a, .str [], .int .i64 0] true [])).put (b := σ'.next) (by omega) (.cells [.int .i64 (i : Int), .str a, .str [], .int .i64 nn] true [])
            have hz3 : ((σ2.put σ'.next (.cells [.int .i64 (i : Int), .str a, .str [], .int .i64 0] true [])).put σ'.next (.cells [.int .i64 (i : Int), .str a, .str [], .int .i64 nn] true [])).mem.get σ.next = _ := St.put_old (St.put_old hz2 (by omega)) (by omega)
            (conv => whnf)
            refine wread_of (St.put_get _ _ _) ?_
            (conv => whnf)
            have htx := fun σ => t_text lo σ ⟨(i : Int), a, [], nn⟩
            by_cases hv : validN ⟨(i : Int), a, [], nn⟩ = true
            · rw [if_pos hv] at htx
              refine wcall_of (htx _) ?_
              (conv => whnf); split
              · rename_i h5
                have h5 := of_decide_eq_true h5
                rw [if_pos ⟨hv, h5⟩] at hr
                (conv => whnf)
                refine wread_of (St.put_get _ _ _) ?_
                (conv => whnf)
                refine wwrite_all hz3 (by omega) rfl rfl ?_
                (conv => whnf)
                refine wread_of (St.put_get _ _ _) ?_
                (conv => whnf)
                refine ⟨?_, (hk0.trans hk3).put (Nat.le_refl _) _⟩
                rw [hr]; rfl
              · rename_i h5
                have h5 := of_decide_eq_false h5
                rw [if_neg (fun h => h5 h.2)] at hr
                (conv => whnf)
                refine ⟨by omega, ?_⟩
                (conv => whnf)
                exact ⟨n, by omega, _, i + 1, fix6 rfl rfl rfl rfl rfl rfl, hk3, by omega, by omega, hr⟩
            · rw [if_neg hv] at htx
              rw [if_neg (fun h => hv h.1)] at hr
              refine wcall_of (htx _) ?_
              (conv => whnf)
              refine ⟨by omega, ?_⟩
              (conv => whnf)
              exact ⟨n, by omega, _, i + 1, fix6 rfl rfl rfl rfl rfl rfl, hk3, by omega, by omega, hr⟩
          | range =>
            rw [hat] at hr
            obtain ⟨nn, he⟩ := t_atoi_err lo σ2 hG2 b (by omega) (by rw [hat]; intro n h; cases h)
            refine wcall_of he ?_
            (conv => whnf)
            refine wwrite_all (St.new_old hz2 (by omega)) (by omega) rfl rfl ?_
            (conv => whnf)
            refine wread_of (St.put_get _ _ _) ?_
            (conv => whnf)
            refine ⟨?_, (hk0.trans (hk2.add _)).put (Nat.le_refl _) _⟩
            rw [hr]; rfl
          | _ =>
            rw [hat] at hr
            obtain ⟨nn, he⟩ := t_atoi_err lo σ2 hG2 b (by omega) (by rw [hat]; intro n h; cases h)
            refine wcall_of he ?_
            (conv => whnf)
            refine wwrite_all (St.new_old hz2 (by omega)) (by omega) rfl rfl ?_
            (conv => whnf)
            refine wread_of (St.put_get _ _ _) ?_
            (conv => whnf)
            refine ⟨?_, (hk0.trans (hk2.add _)).put (Nat.le_refl _) _⟩
            rw [hr]; rfl
        · rename_i h4
          rw [if_neg (by simp [h4])] at hr
          (conv => whnf)
          refine wread_of hr2 ?_
          (conv => whnf)
          have htx := fun σ => t_text lo σ ⟨(i : Int), a, b, 0⟩
          by_cases hv : validN ⟨(i : Int), a, b, 0⟩ = true
          · rw [if_pos hv] at htx
            refine wcall_of (htx _) ?_
            (conv => whnf); split
            · rename_i h5
              have h5 := of_decide_eq_true h5
              rw [if_pos ⟨hv, h5⟩] at hr
              (conv => whnf)
              refine wread_of hr2 ?_
              (conv => whnf)
              refine wwrite_all hz2 (by omega) rfl rfl ?_
              (conv => whnf)
              refine wread_of (St.put_get _ _ _) ?_
              (conv => whnf)
              refine ⟨?_, (hk0.trans hk2).put (Nat.le_refl _) _⟩
              rw [hr]; rfl
            · rename_i h5
              have h5 := of_decide_eq_false h5
              rw [if_neg (fun h => h5 h.2)] at hr
              (conv => whnf)
              refine ⟨by omega, ?_⟩
              (conv => whnf)
              exact ⟨n, by omega, _, i + 1, fix6 rfl rfl rfl rfl rfl rfl, hk2, by omega, by omega, hr⟩
          · rw [if_neg hv] at htx
            rw [if_neg (fun h => hv h.1)] at hr
            refine wcall_of (htx _) ?_
            (conv => whnf)
            refine ⟨by omega, ?_⟩
            (conv => whnf)
            exact ⟨n, by omega, _, i + 1, fix6 rfl rfl rfl rfl rfl rfl, hk2, by omega, by omega, hr⟩
    · rename_i h2
      have h2 : ¬ i < 18 := by have := of_decide_eq_false h2; omega
      obtain rfl : n = 0 := by omega
      (conv => whnf)
      refine wwrite_all hz1 (by omega) rfl rfl ?_
      (conv => whnf)
      refine wread_of (St.put_get _ _ _) ?_
      (conv => whnf)
      refine ⟨?_, (hk0.trans hk1).put (Nat.le_refl _) _⟩
      rw [hr]; rfl
end Go.Vm

/- declare: the law, walked. -/
set_option maxRecDepth 100000
namespace Go.Vm
open Go.Proofs
attribute [local irreducible] wread wwrite wcall M.get M.set St.new St.put Does lessB wrapF

def asks (r : Rul) : Prop := r.k = 1 ∨ r.k = 3 ∨ r.k = 16 ∨ r.k = 17

theorem parseL_some {s head a b : List Nat} : ∀ {ks : List Nat} {x : Rul}, parseL s head a b ks = some x → textN x = s ∧ validN x = true
  | [], _, h => by cases h
  | k :: ks, x, h => by
    unfold parseL at h
    split at h
    · exact parseL_some h
    · split at h
      · split at h
        · split at h
          · rename_i h2; cases h; exact ⟨h2.2, h2.1⟩
          · exact parseL_some h
        · cases h
      · split at h
        · rename_i h2; cases h; exact ⟨h2.2, h2.1⟩
        · exact parseL_some h

theorem parseN_some {s : List Nat} {x : Rul} (h : parseN s = some x) : textN x = s ∧ validN x = true := by
  unfold parseN at h
  simp only at h
  split at h
  · exact parseL_some h
  · cases h

theorem cut_one {c : Nat} {p q : List Nat} (h : c ∉ p) : cutN (p ++ [c] ++ q) [c] = (p, q, true) := by
  have hi : indexN (p ++ [c] ++ q) [c] = (p.length : Int) := by
    induction p with
    | nil => simp [indexN, List.isPrefixOf]
    | cons x p ih =>
      simp only [List.mem_cons, not_or] at h
      have := ih h.2
      simp only [List.cons_append, indexN, this]
      have hx : ([c].isPrefixOf (x :: (p ++ [c] ++ q))) = false := by simp [List.isPrefixOf]; exact h.1
      rw [hx]
      simp
  unfold cutN
  rw [hi, if_pos (by omega)]
  simp
theorem cut_two {c d : Nat} {p q : List Nat} (h : c ∉ p) : cutN (p ++ ([c, d] ++ q)) [c, d] = (p, q, true) := by
  have hi : indexN (p ++ ([c, d] ++ q)) [c, d] = (p.length : Int) := by
    induction p with
    | nil => simp [indexN, List.isPrefixOf]
    | cons x p ih =>
      simp only [List.mem_cons, not_or] at h
      have := ih h.2
      have hx : ([c, d].isPrefixOf (x :: (p ++ ([c, d] ++ q)))) = false := by simp [List.isPrefixOf]; intro e; exact absurd e h.1
      show (if ([c, d].isPrefixOf (x :: (p ++ ([c, d] ++ q)))) = true then (0 : Int) else if (indexN (p ++ ([c, d] ++ q)) [c, d] == -1) = true then -1 else indexN (p ++ ([c, d] ++ q)) [c, d] + 1) = _
      rw [hx, this]
      simp
  unfold cutN
  rw [hi, if_pos (by omega)]
  simp
theorem cut_no {c d : Nat} {p : List Nat} (h : c ∉ p) : cutN p [c, d] = (p, [], false) := by
  have hi : indexN p [c, d] = -1 := by
    induction p with
    | nil => rfl
    | cons x p ih =>
      simp only [List.mem_cons, not_or] at h
      have := ih h.2
      simp only [indexN]
      rw [this]
      have hx : ([c, d].isPrefixOf (x :: p)) = false := by simp [List.isPrefixOf]; intro e; exact absurd e h.1
      rw [hx]
      rfl
  unfold cutN
  rw [hi, if_neg (by omega)]
theorem trim_end (p : List Nat) (c : Nat) : suffixN (p ++ [c]) [c] = true ∧ trimN (p ++ [c]) [c] = p := by
  have h : suffixN (p ++ [c]) [c] = true := by simp [suffixN]
  refine ⟨h, ?_⟩
  unfold trimN
  rw [h]; simp

theorem name_no {s : List Nat} (h : isNameN s = true) {c : Nat} (hc : partN c = false) : c ∉ s := by
  unfold isNameN at h
  simp only [Bool.and_eq_true, List.all_eq_true] at h
  intro hm
  have := h.2 c hm
  rw [hc] at this; cases this

theorem words_apart : ∀ i, i < 18 → ∀ k, k < 18 → wordN i = wordN k → i = k := by decide
theorem words_no : ∀ k, k < 18 → 40 ∉ wordN k := by decide

theorem parseL_at (s a b : List Nat) (k : Nat) (hk : k < 18) (res : Option Rul) (h : ∀ ks, parseL s (wordN k) a b (k :: ks) = res) : ∀ n i, i ≤ k → k < i + n → parseL s (wordN k) a b (List.range' i n) = res
  | 0, i, h1, h2 => by omega
  | n + 1, i, h1, h2 => by
    rw [List.range'_succ]
    by_cases e : i = k
    · subst e; exact h _
    · unfold parseL
      rw [if_pos (fun e' => e (words_apart i (by omega) k hk e'))]
      exact parseL_at s a b k hk res h n (i + 1) (by omega) (by omega)

theorem atoi_digit : ∀ n, n < 10 → atoiN [48 + n] = .ok (n : Int) := by
  intro n hn
  have : ∀ n, n < 10 → Lib.atoiAll [UInt8.ofNat (48 + n)] = .ok (n : Int) := by
    intro n hn
    match n, hn with
    | 0, _ => rfl | 1, _ => rfl | 2, _ => rfl | 3, _ => rfl | 4, _ => rfl | 5, _ => rfl | 6, _ => rfl | 7, _ => rfl | 8, _ => rfl | 9, _ => rfl
    | _ + 10, h => omega
  exact this n hn

theorem parse_text (r : Rul) (h : validN r = true) : parseN (textN r) = some r := by
  obtain ⟨hk, hN⟩ := validN_k h
  have hA := validN_A h
  have hB := validN_B h
  have hA44 : 44 ∉ r.A := name_no hA (by decide)
  have hform : textN r = wordN r.k.toNat ++ [40] ++ (r.A ++ tailN r ++ [41]) := by simp [textN]
  have hc1 := cut_one (c := 40) (q := r.A ++ tailN r ++ [41]) (words_no r.k.toNat (by omega))
  obtain ⟨hs, ht⟩ := trim_end (r.A ++ tailN r) 41
  have hp : ∀ d, cutN (r.A ++ tailN r) [44, 32] = d → parseN (textN r) = parseL (textN r) (wordN r.k.toNat) d.1 d.2.1 (List.range' 1 17) := by
    intro d hd
    unfold parseN
    rw [hform, hc1]
    simp only [hs, ht, hd, if_true]
  by_cases hc : countedN r.k = true
  · have htail : tailN r = [44, 32] ++ [48 + r.N.toNat] := by unfold tailN; rw [if_pos hc]
    have hBe : r.B = [] := by
      unfold validN at h
      rw [hc] at h
      simp only [Bool.and_eq_true, cond_true, decide_eq_true_eq] at h
      exact h.2.1.1
    have hd : cutN (r.A ++ tailN r) [44, 32] = (r.A, [48 + r.N.toNat], true) := by rw [htail]; exact cut_two hA44
    rw [hp _ hd]
    refine parseL_at _ _ _ _ (by omega) _ (fun ks => ?_) 17 1 (by omega) (by omega)
    have hkk : ((r.k.toNat : Nat) : Int) = r.k := by omega
    have hNN : ((r.N.toNat : Nat) : Int) = r.N := by omega
    unfold parseL
    rw [if_neg (by simp), hkk, if_pos hc, atoi_digit _ (by omega), hNN]
    have hr : (⟨r.k, r.A, [], r.N⟩ : Rul) = r := by cases r; simp at hBe; subst hBe; rfl
    simp only [hr, h, true_and, if_true]
  · have hkk : ((r.k.toNat : Nat) : Int) = r.k := by omega
    have hN0 : r.N = 0 := by
      unfold validN at h
      simp only [Bool.not_eq_true] at hc
      rw [hc] at h
      simp only [Bool.and_eq_true, cond_false] at h
      have h2 := h.2
      by_cases h45 : r.k = 4 ∨ r.k = 5
      · simp only [h45, decide_true, cond_true, Bool.and_eq_true, decide_eq_true_eq] at h2; exact h2.2
      · simp only [h45, decide_false, cond_false, Bool.and_eq_true, decide_eq_true_eq] at h2; exact h2.1.1
    have hr : (⟨r.k, r.A, r.B, 0⟩ : Rul) = r := by cases r; simp at hN0; subst hN0; rfl
    have hd : ∃ b, cutN (r.A ++ tailN r) [44, 32] = (r.A, r.B, b) := by
      unfold tailN
      rw [if_neg hc]
      by_cases hb : r.B = []
      · rw [if_neg (by simp [hb]), List.append_nil, cut_no hA44, hb]; exact ⟨_, rfl⟩
      · rw [if_pos hb, cut_two hA44]; exact ⟨_, rfl⟩
    obtain ⟨b, hd⟩ := hd
    rw [hp _ hd]
    refine parseL_at _ _ _ _ (by omega) _ (fun ks => ?_) 17 1 (by omega) (by omega)
    unfold parseL
    rw [if_neg (by simp), hkk, if_neg hc]
    simp only [hr, h, true_and, if_true]

theorem runIn (r : Rul) (S C : Nat → Bool) (h0 : S 0 = true) (hstep : ∀ s c, S s = true → C c = true → S (stepN r s c) = true) (w : List (List Nat)) (hw : ∀ x ∈ w, C (isN r x) = true) : S (runN r w) = true := by
  have : ∀ (w : List (List Nat)) s, S s = true → (∀ x ∈ w, C (isN r x) = true) → S (w.foldl (fun s act => stepN r s (isN r act)) s) = true := by
    intro w
    induction w with
    | nil => intro s hs _; exact hs
    | cons x w ih => intro s hs hx; exact ih _ (hstep s _ hs (hx x (by simp))) fun y hy => hx y (by simp [hy])
  exact this w 0 h0 hw

theorem run_tab (r : Rul) (k : Int) (hk : r.k = k) (h3 : ¬ k ≤ 3) (L : List Nat) (Cs : List Nat) (h0 : 0 ∈ L) (hstep : ∀ s ∈ L, ∀ c ∈ Cs, stepT k s c ∈ L) (hends : ∀ s ∈ L, endsT k s = true) (w : List (List Nat)) (hw : ∀ x ∈ w, isN r x ∈ Cs) : holdsN r w = true := by
  have key := runIn r (fun s => decide (s ∈ L)) (fun c => decide (c ∈ Cs)) (by simpa using h0) (by
    intro s c hs hc
    simp only [decide_eq_true_eq] at hs hc ⊢
    unfold stepN
    rw [hk, if_neg h3]
    exact hstep s hs c hc) w (by intro x hx; simpa using hw x hx)
  simp only [decide_eq_true_eq] at key
  unfold holdsN endsN
  rw [hk, if_neg h3]
  exact hends _ key

theorem idle_holds (r : Rul) (w : List (List Nat)) (hp : properN r w = 0) (ha : actN r w = false) (hs : ¬ asks r) : holdsN r w = true := by
  have hv : validN r = true := by
    unfold properN at hp
    cases hv : validN r with
    | true => rfl
    | false => rw [hv] at hp; simp at hp
  obtain ⟨hk, hN⟩ := validN_k hv
  have noA : (w.any fun x => decide (r.A = x)) = false → ∀ x ∈ w, isN r x ∈ [0, 2] := by
    intro h x hx
    have h1 : ¬ r.A = x := by have := List.any_eq_false.1 h x hx; simpa using this
    unfold isN
    rw [if_neg (fun e => h1 e.symm)]
    split <;> simp
  have noB : (w.any fun x => decide (r.B = x)) = false → ∀ x ∈ w, isN r x ∈ [0, 1] := by
    intro h x hx
    have h1 : ¬ r.B = x := by have := List.any_eq_false.1 h x hx; simpa using this
    unfold isN
    split
    · simp
    · rw [if_neg (fun e => h1 e.symm)]; simp
  have noAB : (w.any fun x => decide (r.A = x)) = false → (w.any fun x => decide (r.B = x)) = false → ∀ x ∈ w, isN r x ∈ [0] := by
    intro h h' x hx
    have h1 := noA h x hx
    have h2 := noB h' x hx
    simp only [List.mem_cons, List.not_mem_nil, or_false] at h1 h2 ⊢
    omega
  have hBne : ¬ (r.k = 1 ∨ r.k = 2 ∨ r.k = 3 ∨ r.k = 4 ∨ r.k = 5) → r.B ≠ [] := by
    intro hn
    have hv2 := hv
    unfold validN at hv2
    have hc : countedN r.k = false := by simp [countedN]; omega
    rw [hc] at hv2
    have h45 : ¬ (r.k = 4 ∨ r.k = 5) := by omega
    simp only [h45, decide_false, cond_false, Bool.and_eq_true] at hv2
    exact name_pos hv2.2.1.2
  unfold asks at hs
  unfold actN at ha
  have hcase : r.k = 2 ∨ r.k = 4 ∨ r.k = 5 ∨ r.k = 6 ∨ r.k = 7 ∨ r.k = 8 ∨ r.k = 9 ∨ r.k = 10 ∨ r.k = 11 ∨ r.k = 12 ∨ r.k = 13 ∨ r.k = 14 ∨ r.k = 15 := by omega
  rcases hcase with h | h | h | h | h | h | h | h | h | h | h | h | h
  · rw [h] at ha
    simp at ha
    have hA := noA (by simpa using ha)
    have key := runIn r (fun s => decide (s = 0)) (fun c => decide (c ∈ [0, 2])) rfl (by
      intro s c hs hc
      simp only [decide_eq_true_eq] at hs hc ⊢
      subst hs
      unfold stepN
      rw [h, if_pos (by decide)]
      simp only [List.mem_cons, List.not_mem_nil, or_false] at hc
      rw [if_neg (by omega)]) w (by intro x hx; simpa using hA x hx)
    simp only [decide_eq_true_eq] at key
    unfold holdsN endsN
    rw [h, key]
    simp
  · rw [h] at ha
    simp at ha
    exact run_tab r 4 h (by decide) [0] [] (by decide) (by decide) (by decide) w (by subst ha; simp)
  · rw [h] at ha
    simp at ha
    exact run_tab r 5 h (by decide) [0] [] (by decide) (by decide) (by decide) w (by subst ha; simp)
  · rw [h] at ha; simp at ha
    exact run_tab r 6 h (by decide) [0] [0, 2] (by decide) (by decide) (by decide) w (noA (by simpa using ha))
  · have hb := hBne (by omega)
    rw [h] at ha; simp [hb] at ha
    exact run_tab r 7 h (by decide) [0, 1] [0, 1] (by decide) (by decide) (by decide) w (noB (by simpa using ha))
  · have hb := hBne (by omega)
    rw [h] at ha; simp [hb] at ha
    exact run_tab r 8 h (by decide) [0] [0] (by decide) (by decide) (by decide) w (noAB (by simpa using ha.1) (by simpa using ha.2))
  · rw [h] at ha; simp at ha
    exact run_tab r 9 h (by decide) [0] [0, 2] (by decide) (by decide) (by decide) w (noA (by simpa using ha))
  · have hb := hBne (by omega)
    rw [h] at ha; simp [hb] at ha
    exact run_tab r 10 h (by decide) [0, 1] [0, 1] (by decide) (by decide) (by decide) w (noB (by simpa using ha))
  · rw [h] at ha; simp at ha
    exact run_tab r 11 h (by decide) [0] [0, 2] (by decide) (by decide) (by decide) w (noA (by simpa using ha))
  · have hb := hBne (by omega)
    rw [h] at ha; simp [hb] at ha
    exact run_tab r 12 h (by decide) [0, 1] [0, 1] (by decide) (by decide) (by decide) w (noB (by simpa using ha))
  · have hb := hBne (by omega)
    rw [h] at ha; simp [hb] at ha
    exact run_tab r 13 h (by decide) [0] [0] (by decide) (by decide) (by decide) w (noAB (by simpa using ha.1) (by simpa using ha.2))
  · rw [h] at ha; simp at ha
    exact run_tab r 14 h (by decide) [0] [0, 2] (by decide) (by decide) (by decide) w (noA (by simpa using ha))
  · rw [h] at ha; simp at ha
    exact run_tab r 15 h (by decide) [0, 2] [0, 2] (by decide) (by decide) (by decide) w (noA (by simpa using ha))

theorem text_len (r : Rul) (h : validN r = true) : (textN r).length ≤ 200 := by
  have hA := name_len (validN_A h)
  have hB : r.B.length ≤ 40 := by
    rcases validN_B h with h | h
    · rw [h]; simp
    · exact name_len h
  have hw := word_len r.k.toNat
  unfold textN tailN
  split
  · simp; omega
  · split
    · simp; omega
    · simp; omega

theorem t_law (lo : Nat) (σ : St) (hlo : lo ≤ σ.next) (hG : Glob σ) (r : Rul) (v : V) (w : List (List Nat)) (hw : Strs σ v w) (hn : w.length ≤ 9223372036854775807) (s : List Nat) :
    Does Tryz.prog lo 3 [r.v, v, .str s] σ (.bool true) σ := by
  have h5 := awake5
  have hpl := fun σ => t_plain lo σ r
  have hsh := fun σ' (hk : Keeps σ σ') => t_short lo σ' v w (hw.keeps hk) hn 12
  have hac := fun σ' (hk : Keeps σ σ') => t_activated lo σ' r v w (hw.keeps hk) hn
  have hho := fun σ' (hk : Keeps σ σ') => t_holds lo σ' (Nat.le_trans hlo hk.next) r v w (hw.keeps hk) hn
  have hpa := fun σ' (hk : Keeps σ σ') s (hs : List.length s ≤ 1000) => t_parse lo σ' (Nat.le_trans hlo hk.next) (hG.keeps hk) s hs
  have htx := fun σ r => t_text lo σ r
  have hva := fun σ r => t_valid lo σ r
  refine does_pure draw32 tb3 (by kernel_rfl) rfl ?_
  rcases hw.shape with ⟨rfl, h0⟩ | ⟨b, o, c, rfl⟩
  · (conv => whnf)
    refine wcall_of (h5 _ _) ?_
    (conv => whnf)
    refine wread_of (St.new_get _ _) ?_
    (conv => whnf)
    refine wcall_of (hpl _) ?_
    (conv => whnf); split
    · (conv => whnf)
      refine wcall_of (h5 _ _) ?_
      (conv => whnf)
      exact ⟨rfl, Keeps.new _ _⟩
    (conv => whnf)
    refine wcall_of (hsh _ (Keeps.new _ _)) ?_
    (conv => whnf); split
    · (conv => whnf)
      refine wcall_of (h5 _ _) ?_
      (conv => whnf)
      exact ⟨rfl, Keeps.new _ _⟩
    (conv => whnf); split
    · (conv => whnf)
      refine wcall_of (h5 _ _) ?_
      (conv => whnf)
      exact ⟨rfl, Keeps.new _ _⟩
    rename_i hs
    have hs : s.length ≤ 200 := by have := of_decide_eq_false hs; omega
    (conv => whnf)
    refine wcall_of (hpa _ (Keeps.new _ _) s (by omega)) ?_
    have kr : Keeps σ (σ.new (.cells [.int .i64 r.k, .str r.A, .str r.B, .int .i64 r.N] true [])) := Keeps.new _ _
    have gr0 : (σ.new (.cells [.int .i64 r.k, .str r.A, .str r.B, .int .i64 r.N] true [])).mem.get σ.next = .cells [.int .i64 r.k, .str r.A, .str r.B, .int .i64 r.N] true [] := St.new_get _ _
    have gr1 : σ.next < (σ.new (.cells [.int .i64 r.k, .str r.A, .str r.B, .int .i64 r.N] true [])).next := by rw [St.new_next]; omega
    have gr := fun σ' (hk : Keeps (σ.new (.cells [.int .i64 r.k, .str r.A, .str r.B, .int .i64 r.N] true [])) σ') => hk.old gr0 gr1
    have hps := @parseN_some s
    cases hpp : parseN s with
    | none =>
      (conv => whnf)
      refine wwrite_all (St.new_get _ _) (Nat.le_trans hlo kr.next) rfl rfl ?_
      have k1 := ((Keeps.refl (σ.new (.cells [.int .i64 r.k, .str r.A, .str r.B, .int .i64 r.N] true []))).add (.cells [.int .i64 0, .str [], .str [], .int .i64 0] true [])).put (Nat.le_refl _) (.cells [.int .i64 0, .str [], .str [], .int .i64 0] true [])
      (conv => whnf)
      refine wread_of (gr _ k1) ?_
      (conv => whnf)
      by_cases hv : validN r = true
      · have htr := fun σ => htx σ r
        simp only [if_pos hv] at htr
        refine wcall_of (htr _) ?_
        (conv => whnf)
        refine wcall_of (hpa _ (kr.trans k1) (textN r) (by have := text_len r hv; omega)) ?_
        rw [parse_text r hv]
        (conv => whnf)
        refine wwrite_all (St.new_get _ _) (by have := (kr.trans k1).next; omega) rfl rfl ?_
        (conv => whnf)
        refine wread_of (St.put_get _ _ _) ?_
        (conv => whnf)
        have k2 := (k1.add (.cells [.int .i64 0, .str [], .str [], .int .i64 0] true [])).put (Nat.le_trans (Nat.le_refl _) k1.next) (.cells [.int .i64 r.k, .str r.A, .str r.B, .int .i64 r.N] true [])
        refine wread_of (gr _ k2) ?_
        (conv => whnf); split
        · rename_i hx
          simp at hx
        · (conv => whnf)
          refine wread_of (gr _ k2) ?_
          (conv => whnf)
          refine wcall_of (hac _ (kr.trans k2)) ?_
          by_cases hp : properN r w = 0
          · have hh := hho
            simp only [if_pos hp] at hh ⊢
            (conv => whnf)
            refine wread_of (gr _ k2) ?_
            (conv => whnf)
            refine wcall_of (hh _ (kr.trans k2)) ?_
            have hid := idle_holds r w hp
            generalize actN r w = on at *
            generalize holdsN r w = ok at *
            repeat' ((conv => whnf); first | split | refine wread_of (gr _ k2) ?_)
            all_goals (conv => whnf)
            all_goals refine ⟨boolV ?_, kr.trans k2⟩
            all_goals simp_all [asks]
          · have hh := hho
            simp only [if_neg hp] at hh ⊢
            generalize properN r w = e at *
            (conv => whnf)
            refine wread_of (gr _ k2) ?_
            (conv => whnf)
            refine wcall_of (hh _ (kr.trans k2)) ?_
            (conv => whnf); split
            · (conv => whnf)
              refine ⟨boolV ?_, kr.trans k2⟩
              simp
            · rename_i hx
              simp at hx
              exact absurd hx hp
      · have htr := fun σ => htx σ r
        simp only [if_neg hv] at htr
        refine wcall_of (htr _) ?_
        (conv => whnf)
        refine wread_of (gr _ k1) ?_
        (conv => whnf)
        refine wcall_of (hva _ r) ?_
        (conv => whnf)
        refine ⟨boolV ?_, kr.trans k1⟩
        simp_all
    | some x =>
      obtain ⟨hx1, hx2⟩ := hps hpp
      (conv => whnf)
      refine wwrite_all (St.new_get _ _) (Nat.le_trans hlo kr.next) rfl rfl ?_
      have k1 := ((Keeps.refl (σ.new (.cells [.int .i64 r.k, .str r.A, .str r.B, .int .i64 r.N] true []))).add (.cells [.int .i64 0, .str [], .str [], .int .i64 0] true [])).put (Nat.le_refl _) (.cells [.int .i64 x.k, .str x.A, .str x.B, .int .i64 x.N] true [])
      (conv => whnf)
      refine wread_of (St.put_get _ _ _) ?_
      (conv => whnf)
      have htr := fun σ => htx σ x
      simp only [if_pos hx2] at htr
      refine wcall_of (htr _) ?_
      (conv => whnf); split
      · rename_i hx
        simp [hx1] at hx
      (conv => whnf)
      refine wread_of (St.put_get _ _ _) ?_
      (conv => whnf)
      refine wcall_of (hva _ x) ?_
      (conv => whnf); split
      · rename_i hx
        simp [hx2] at hx
      (conv => whnf)
      refine wread_of (gr _ k1) ?_
      (conv => whnf)
      by_cases hv : validN r = true
      · have htr := fun σ => htx σ r
        simp only [if_pos hv] at htr
        refine wcall_of (htr _) ?_
        (conv => whnf)
        refine wcall_of (hpa _ (kr.trans k1) (textN r) (by have := text_len r hv; omega)) ?_
        rw [parse_text r hv]
        (conv => whnf)
        refine wwrite_all (St.new_get _ _) (by have := (kr.trans k1).next; omega) rfl rfl ?_
        (conv => whnf)
        refine wread_of (St.put_get _ _ _) ?_
        (conv => whnf)
        have k2 := (k1.add (.cells [.int .i64 0, .str [], .str [], .int .i64 0] true [])).put (Nat.le_trans (Nat.le_refl _) k1.next) (.cells [.int .i64 r.k, .str r.A, .str r.B, .int .i64 r.N] true [])
        refine wread_of (gr _ k2) ?_
        (conv => whnf); split
        · rename_i hx
          simp at hx
        · (conv => whnf)
          refine wread_of (gr _ k2) ?_
          (conv => whnf)
          refine wcall_of (hac _ (kr.trans k2)) ?_
          by_cases hp : properN r w = 0
          · have hh := hho
            simp only [if_pos hp] at hh ⊢
            (conv => whnf)
            refine wread_of (gr _ k2) ?_
            (conv => whnf)
            refine wcall_of (hh _ (kr.trans k2)) ?_
            have hid := idle_holds r w hp
            generalize actN r w = on at *
            generalize holdsN r w = ok at *
            repeat' ((conv => whnf); first | split | refine wread_of (gr _ k2) ?_)
            all_goals (conv => whnf)
            all_goals refine ⟨boolV ?_, kr.trans k2⟩
            all_goals simp_all [asks]
          · have hh := hho
            simp only [if_neg hp] at hh ⊢
            generalize properN r w = e at *
            (conv => whnf)
            refine wread_of (gr _ k2) ?_
            (conv => whnf)
            refine wcall_of (hh _ (kr.trans k2)) ?_
            (conv => whnf); split
            · (conv => whnf)
              refine ⟨boolV ?_, kr.trans k2⟩
              simp
            · rename_i hx
              simp at hx
              exact absurd hx hp
      · have htr := fun σ => htx σ r
        simp only [if_neg hv] at htr
        refine wcall_of (htr _) ?_
        (conv => whnf)
        refine wread_of (gr _ k1) ?_
        (conv => whnf)
        refine wcall_of (hva _ r) ?_
        (conv => whnf)
        refine ⟨boolV ?_, kr.trans k1⟩
        simp_all
  · (conv => whnf)
    refine wcall_of (h5 _ _) ?_
    (conv => whnf)
    refine wread_of (St.new_get _ _) ?_
    (conv => whnf)
    refine wcall_of (hpl _) ?_
    (conv => whnf); split
    · (conv => whnf)
      refine wcall_of (h5 _ _) ?_
      (conv => whnf)
      exact ⟨rfl, Keeps.new _ _⟩
    (conv => whnf)
    refine wcall_of (hsh _ (Keeps.new _ _)) ?_
    (conv => whnf); split
    · (conv => whnf)
      refine wcall_of (h5 _ _) ?_
      (conv => whnf)
      exact ⟨rfl, Keeps.new _ _⟩
    (conv => whnf); split
    · (conv => whnf)
      refine wcall_of (h5 _ _) ?_
      (conv => whnf)
      exact ⟨rfl, Keeps.new _ _⟩
    rename_i hs
    have hs : s.length ≤ 200 := by have := of_decide_eq_false hs; omega
    (conv => whnf)
    refine wcall_of (hpa _ (Keeps.new _ _) s (by omega)) ?_
    have kr : Keeps σ (σ.new (.cells [.int .i64 r.k, .str r.A, .str r.B, .int .i64 r.N] true [])) := Keeps.new _ _
    have gr0 : (σ.new (.cells [.int .i64 r.k, .str r.A, .str r.B, .int .i64 r.N] true [])).mem.get σ.next = .cells [.int .i64 r.k, .str r.A, .str r.B, .int .i64 r.N] true [] := St.new_get _ _
    have gr1 : σ.next < (σ.new (.cells [.int .i64 r.k, .str r.A, .str r.B, .int .i64 r.N] true [])).next := by rw [St.new_next]; omega
    have gr := fun σ' (hk : Keeps (σ.new (.cells [.int .i64 r.k, .str r.A, .str r.B, .int .i64 r.N] true [])) σ') => hk.old gr0 gr1
    have hps := @parseN_some s
    cases hpp : parseN s with
    | none =>
      (conv => whnf)
      refine wwrite_all (St.new_get _ _) (Nat.le_trans hlo kr.next) rfl rfl ?_
      have k1 := ((Keeps.refl (σ.new (.cells [.int .i64 r.k, .str r.A, .str r.B, .int .i64 r.N] true []))).add (.cells [.int .i64 0, .str [], .str [], .int .i64 0] true [])).put (Nat.le_refl _) (.cells [.int .i64 0, .str [], .str [], .int .i64 0] true [])
      (conv => whnf)
      refine wread_of (gr _ k1) ?_
      (conv => whnf)
      by_cases hv : validN r = true
      · have htr := fun σ => htx σ r
        simp only [if_pos hv] at htr
        refine wcall_of (htr _) ?_
        (conv => whnf)
        refine wcall_of (hpa _ (kr.trans k1) (textN r) (by have := text_len r hv; omega)) ?_
        rw [parse_text r hv]
        (conv => whnf)
        refine wwrite_all (St.new_get _ _) (by have := (kr.trans k1).next; omega) rfl rfl ?_
        (conv => whnf)
        refine wread_of (St.put_get _ _ _) ?_
        (conv => whnf)
        have k2 := (k1.add (.cells [.int .i64 0, .str [], .str [], .int .i64 0] true [])).put (Nat.le_trans (Nat.le_refl _) k1.next) (.cells [.int .i64 r.k, .str r.A, .str r.B, .int .i64 r.N] true [])
        refine wread_of (gr _ k2) ?_
        (conv => whnf); split
        · rename_i hx
          simp at hx
        · (conv => whnf)
          refine wread_of (gr _ k2) ?_
          (conv => whnf)
          refine wcall_of (hac _ (kr.trans k2)) ?_
          by_cases hp : properN r w = 0
          · have hh := hho
            simp only [if_pos hp] at hh ⊢
            (conv => whnf)
            refine wread_of (gr _ k2) ?_
            (conv => whnf)
            refine wcall_of (hh _ (kr.trans k2)) ?_
            have hid := idle_holds r w hp
            generalize actN r w = on at *
            generalize holdsN r w = ok at *
            repeat' ((conv => whnf); first | split | refine wread_of (gr _ k2) ?_)
            all_goals (conv => whnf)
            all_goals refine ⟨boolV ?_, kr.trans k2⟩
            all_goals simp_all [asks]
          · have hh := hho
            simp only [if_neg hp] at hh ⊢
            generalize properN r w = e at *
            (conv => whnf)
            refine wread_of (gr _ k2) ?_
            (conv => whnf)
            refine wcall_of (hh _ (kr.trans k2)) ?_
            (conv => whnf); split
            · (conv => whnf)
              refine ⟨boolV ?_, kr.trans k2⟩
              simp
            · rename_i hx
              simp at hx
              exact absurd hx hp
      · have htr := fun σ => htx σ r
        simp only [if_neg hv] at htr
        refine wcall_of (htr _) ?_
        (conv => whnf)
        refine wread_of (gr _ k1) ?_
        (conv => whnf)
        refine wcall_of (hva _ r) ?_
        (conv => whnf)
        refine ⟨boolV ?_, kr.trans k1⟩
        simp_all
    | some x =>
      obtain ⟨hx1, hx2⟩ := hps hpp
      (conv => whnf)
      refine wwrite_all (St.new_get _ _) (Nat.le_trans hlo kr.next) rfl rfl ?_
      have k1 := ((Keeps.refl (σ.new (.cells [.int .i64 r.k, .str r.A, .str r.B, .int .i64 r.N] true []))).add (.cells [.int .i64 0, .str [], .str [], .int .i64 0] true [])).put (Nat.le_refl _) (.cells [.int .i64 x.k, .str x.A, .str x.B, .int .i64 x.N] true [])
      (conv => whnf)
      refine wread_of (St.put_get _ _ _) ?_
      (conv => whnf)
      have htr := fun σ => htx σ x
      simp only [if_pos hx2] at htr
      refine wcall_of (htr _) ?_
      (conv => whnf); split
      · rename_i hx
        simp [hx1] at hx
      (conv => whnf)
      refine wread_of (St.put_get _ _ _) ?_
      (conv => whnf)
      refine wcall_of (hva _ x) ?_
      (conv => whnf); split
      · rename_i hx
        simp [hx2] at hx
      (conv => whnf)
      refine wread_of (gr _ k1) ?_
      (conv => whnf)
      by_cases hv : validN r = true
      · have htr := fun σ => htx σ r
        simp only [if_pos hv] at htr
        refine wcall_of (htr _) ?_
        (conv => whnf)
        refine wcall_of (hpa _ (kr.trans k1) (textN r) (by have := text_len r hv; omega)) ?_
        rw [parse_text r hv]
        (conv => whnf)
        refine wwrite_all (St.new_get _ _) (by have := (kr.trans k1).next; omega) rfl rfl ?_
        (conv => whnf)
        refine wread_of (St.put_get _ _ _) ?_
        (conv => whnf)
        have k2 := (k1.add (.cells [.int .i64 0, .str [], .str [], .int .i64 0] true [])).put (Nat.le_trans (Nat.le_refl _) k1.next) (.cells [.int .i64 r.k, .str r.A, .str r.B, .int .i64 r.N] true [])
        refine wread_of (gr _ k2) ?_
        (conv => whnf); split
        · rename_i hx
          simp at hx
        · (conv => whnf)
          refine wread_of (gr _ k2) ?_
          (conv => whnf)
          refine wcall_of (hac _ (kr.trans k2)) ?_
          by_cases hp : properN r w = 0
          · have hh := hho
            simp only [if_pos hp] at hh ⊢
            (conv => whnf)
            refine wread_of (gr _ k2) ?_
            (conv => whnf)
            refine wcall_of (hh _ (kr.trans k2)) ?_
            have hid := idle_holds r w hp
            generalize actN r w = on at *
            generalize holdsN r w = ok at *
            repeat' ((conv => whnf); first | split | refine wread_of (gr _ k2) ?_)
            all_goals (conv => whnf)
            all_goals refine ⟨boolV ?_, kr.trans k2⟩
            all_goals simp_all [asks]
          · have hh := hho
            simp only [if_neg hp] at hh ⊢
            generalize properN r w = e at *
            (conv => whnf)
            refine wread_of (gr _ k2) ?_
            (conv => whnf)
            refine wcall_of (hh _ (kr.trans k2)) ?_
            (conv => whnf); split
            · (conv => whnf)
              refine ⟨boolV ?_, kr.trans k2⟩
              simp
            · rename_i hx
              simp at hx
              exact absurd hx hp
      · have htr := fun σ => htx σ r
        simp only [if_neg hv] at htr
        refine wcall_of (htr _) ?_
        (conv => whnf)
        refine wread_of (gr _ k1) ?_
        (conv => whnf)
        refine wcall_of (hva _ r) ?_
        (conv => whnf)
        refine ⟨boolV ?_, kr.trans k1⟩
        simp_all
end Go.Vm

