/- Numbers: texts; the document's. -/
import Derived.Test.YtpmpclbdnakniaaGreatDoorV5
set_option linter.all false
set_option linter.unusedVariables false
set_option linter.unusedSimpArgs false
namespace Go.Vc.Z
open Go Go.Vc Go.Proofs Go.RowKit Go.Pl Go.Lib
noncomputable section
set_option maxRecDepth 100000
set_option linter.unusedSimpArgs false
set_option linter.unusedVariables false
attribute [local irreducible] inK Utf8.decode Utf8.encode Lib.itoa Pl.worth Pl.allDig

/-- The number of a text, and what is wrong. -/
@[irreducible] def numOf (s : List UInt8) : Int × Int :=
  if s.length = 13 ∧ allDig s = true then (if checkN (worth s) = 0 then ((worth s : Int), 0) else (0, checkN (worth s))) else (0, 4)
def pcNOf : PC := PC.fun fun | [.str s] => some (True, .tup [.int .u64 (sI (numOf s).1), .int .i64 (sI (numOf s).2)]) | _ => none
def LNOf (s : List UInt8) : LoopSpec := {
  α := Nat
  keep := [4, 5, 10]
  vals i := [.int .u64 (worth (s.take i)), .int .i64 i, .iter 0]
  heap i := [.iter s i]
  ok i := i ≤ 13 ∧ i ≤ s.length ∧ allDig (s.take i) = true
  μ i := s.length - i }
def D_number_Of : PT := tabD [(127, pcCheck)]
def C_number_Of : FuncId → Option Ctr := tabC D_number_Of []
def L_number_Of : List AV → Nat → Option LR := fun cs i => match cs with | [.str s] => cond (Nat.beq i 3) (some (.inv (LNOf s))) (none) | _ => none
theorem g_number_Of {W : World} (hW : Tabs W) : GoodP (Fw W) Tryz.prog 153 pcNOf := by
  have hD : PTOk (Fw W) Tryz.prog D_number_Of := (tabD_cons Tryz.call127 (g_number_Check hW) tabD_nil)
  have hC0 : CtrOk (Fw W) Tryz.prog C_number_Of := (tabC_nil hD)
  refine goodP_fun (D := D_number_Of) (C := C_number_Of) (wr := (fun _ => false)) rfl tyOk hD hC0 Tryz.func153 (L_number_Of) ?_
  clear hC0 hD hW
  intro cs p r h hf hp
  split at h
  case h_2 => cases h
  rename_i s
  cases h
  try simp only [factL, factA, inK_def, Go.Vc.lo, Go.Vc.hi, and_true] at hf
  (conv => whnf)
  all_goals (try (show _ = _; simp only [sI_eq, sB_eq, sS_eq, sN_eq]))
  refine ⟨?_, fun (i : Nat) (hi : i ≤ 13 ∧ i ≤ s.length ∧ allDig (s.take i) = true) => ?_⟩
  · (conv => whnf)
    refine ⟨(0 : Nat), [], ?_, ⟨⟨rfl, Nat.le_of_ble_eq_true rfl, rfl⟩, ?_, ?_⟩⟩
    · exact ⟨Nat.zero_le _, Nat.zero_le _, by simp [allDig]⟩
    · (conv => whnf)
      (repeat' ((first | with_reducible exact True.intro | ((with_reducible refine And.intro ?_ ?_); focus (first | with_reducible rfl | omega | exact Nat.le_of_ble_eq_true rfl | rfl)) | with_reducible refine And.intro (?_ : leA _ _ _) ?_ | fail) <;> (conv => whnf)))
      all_goals (try simp only [sI_eq, sB_eq, sS_eq, sN_eq])
      all_goals (try first | omega)
      simp [worth]
    · (conv => whnf)
      (repeat' ((first | with_reducible exact True.intro | ((with_reducible refine And.intro ?_ ?_); focus (first | with_reducible rfl | omega | exact Nat.le_of_ble_eq_true rfl | rfl)) | with_reducible refine And.intro (?_ : leBlk _ _ _ _) ?_ | fail) <;> (conv => whnf)))
      all_goals (try simp only [sI_eq, sB_eq, sS_eq, sN_eq])
  · obtain ⟨h1, h2, h3⟩ := hi
    have hw := worth_take_lt' h3 h1
    have hbad : i < s.length → 13 ≤ i ∨ ¬ (48 ≤ runeAt s i ∧ runeAt s i ≤ 57) → numOf s = (0, 4) := fun h hc => by
      unfold numOf
      rw [if_neg]
      rintro ⟨h4, h5⟩
      have := dig_at h h5
      rcases rune_cases h with h6 | h6 <;> omega
    have hlen : s.length ≤ i → ¬ (i : Int) = 13 → numOf s = (0, 4) := fun h hc => by
      unfold numOf
      rw [if_neg]
      rintro ⟨h4, h5⟩
      omega
    have hok : s.length ≤ i → (i : Int) = 13 → numOf s = if checkN (worth (s.take i)) = 0 then ((worth (s.take i) : Int), 0) else (0, checkN (worth (s.take i))) := fun h hc => by
      rw [List.take_of_length_le h] at h3 ⊢
      unfold numOf
      rw [if_pos ⟨by omega, h3⟩]
    (conv => whnf)
    (repeat' ((first
      | with_reducible exact True.intro
      | ((with_reducible refine And.intro ?_ ?_); focus (first | with_reducible exact True.intro | with_reducible rfl | (simp only [inK_def, Go.Vc.lo, Go.Vc.hi]; omega)))
      | (split <;> rename_i hh <;> (try simp only [ble_true, ble_false, beq_true, beq_false, sI_eq, sB_eq, sS_eq, sN_eq, ltI_eq, leI_eq, eqI_eq, decide_eq_true_eq, decide_eq_false_iff_not, beq_iff_eq, bne_iff_ne, ne_eq, beq_eq_false_iff_ne, bne_eq_false_iff_eq, Bool.not_eq_true, Bool.not_eq_false, Int.not_lt, Int.not_le, gt_iff_lt, ge_iff_le, Nat.not_lt, Nat.not_le, Decidable.not_not, Bool.not_eq_eq_eq_not, Bool.not_true, Bool.not_false, cond_true, cond_false, Bool.or_eq_true, Bool.and_eq_true, Bool.or_eq_false_iff, Bool.and_eq_false_iff] at hh) <;> (try simp (disch := omega) only [Int.tdiv_eq_ediv_of_nonneg, Int.tmod_eq_emod_of_nonneg] at hh))
      | with_reducible refine And.intro (?_ : leA _ _ _) ?_
      | fail) <;> (conv => whnf)))
    all_goals (try (show _ = _; simp only [sI_eq, sB_eq, sS_eq, sN_eq]))
    all_goals try (rw [hbad (by omega) (by omega)]; done)
    · obtain ⟨h6, h7, h8⟩ : runeAt s i = ((s.getD i 0).toNat : Int) ∧ runeW s i = 1 ∧ (s.getD i 0).toNat < 128 := by
        rcases rune_cases (l := s) (p := i) (by omega) with h6 | h6 <;> omega
      (conv => whnf)
      refine ⟨(i + 1 : Nat), [], ?_, ⟨⟨rfl, Nat.le_of_ble_eq_true rfl, rfl⟩, ?_, ?_⟩⟩
      · exact ⟨⟨show i + 1 ≤ 13 by omega, show i + 1 ≤ s.length by omega, allDig_take_succ (by omega) h3 (by omega) (by omega)⟩, show s.length - (i + 1) < s.length - i by omega⟩
      · (conv => whnf)
        (repeat' ((first | with_reducible exact True.intro | ((with_reducible refine And.intro ?_ ?_); focus (first | with_reducible rfl | omega | exact Nat.le_of_ble_eq_true rfl | rfl)) | with_reducible refine And.intro (?_ : leA _ _ _) ?_ | fail) <;> (conv => whnf)))
        all_goals (try simp only [sI_eq, sB_eq, sS_eq, sN_eq])
        all_goals (try first | omega)
        rw [worth_take_succ (by omega)]; omega
      · (conv => whnf)
        (repeat' ((first | with_reducible exact True.intro | ((with_reducible refine And.intro ?_ ?_); focus (first | with_reducible rfl | omega | exact Nat.le_of_ble_eq_true rfl | rfl)) | with_reducible refine And.intro (?_ : leBlk _ _ _ _) ?_ | fail) <;> (conv => whnf)))
        all_goals (try simp only [sI_eq, sB_eq, sS_eq, sN_eq])
        all_goals (try first | omega)
    all_goals first | (rw [hlen (by omega) (by assumption)]; done) | (rw [hok (by omega) (by assumption), if_pos (by assumption)]; done) | (rw [hok (by omega) (by assumption), if_neg (by assumption)]; done)

/-! ### The document's -/
def pcDigits : PC := PC.fun fun | [.int .u64 n] => some (True, .str (sS (decDigits n.toNat))) | _ => none
def LDigits (n0 : Int) : LoopSpec := {
  α := Nat × List UInt8
  keep := [0, 3]
  vals x := [.int .u64 x.1, .str x.2]
  heap _ := []
  ok x := x.1 ≤ n0.toNat ∧ (if x.1 = 0 ∧ x.2 ≠ [] then x.2 else decDigits x.1 ++ x.2) = decDigits n0.toNat
  μ x := 2 * x.1 + if x.2 = [] then 1 else 0 }
theorem digits_step {n : Nat} {s : List UInt8} (h : 0 < n ∨ s = []) : (if n / 10 = 0 ∧ UInt8.ofNat (48 + n % 10) :: s ≠ [] then UInt8.ofNat (48 + n % 10) :: s else decDigits (n / 10) ++ (UInt8.ofNat (48 + n % 10) :: s)) = if n = 0 ∧ s ≠ [] then s else decDigits n ++ s := by
  by_cases hn : n < 10
  · rw [if_pos ⟨by omega, by simp⟩, if_neg, dec_small hn]
    · rfl
    · rintro ⟨h1, h2⟩
      rcases h with h | h
      · omega
      · exact h2 h
  · rw [if_neg (fun h => by omega), if_neg (fun h => by omega), dec_big (u := n) (by omega), List.append_assoc]; rfl
def D_couponref10_Digits : PT := tabD []
def C_couponref10_Digits : FuncId → Option Ctr := tabC D_couponref10_Digits []
def L_couponref10_Digits : List AV → Nat → Option LR := fun cs i => match cs with | [.int .u64 n] => cond (Nat.beq i 2) (some (.inv (LDigits n))) (none) | _ => none
theorem g_couponref10_Digits {W : World} (hW : Tabs W) : GoodP (Fw W) Tryz.prog 81 pcDigits := by
  have hD : PTOk (Fw W) Tryz.prog D_couponref10_Digits := tabD_nil
  have hC0 : CtrOk (Fw W) Tryz.prog C_couponref10_Digits := (tabC_nil hD)
  refine goodP_fun (D := D_couponref10_Digits) (C := C_couponref10_Digits) (wr := (fun _ => false)) rfl tyOk hD hC0 Tryz.func81 (L_couponref10_Digits) ?_
  clear hC0 hD hW
  intro cs p r h hf hp
  split at h
  case h_2 => cases h
  rename_i n
  cases h
  try simp only [factL, factA, inK_def, Go.Vc.lo, Go.Vc.hi, and_true] at hf
  (conv => whnf)
  all_goals (try (show _ = _; simp only [sI_eq, sB_eq, sS_eq, sN_eq]))
  refine ⟨?_, fun (x : Nat × List UInt8) (hx : x.1 ≤ n.toNat ∧ (if x.1 = 0 ∧ x.2 ≠ [] then x.2 else decDigits x.1 ++ x.2) = decDigits n.toNat) => ?_⟩
  · (conv => whnf)
    refine ⟨((n.toNat, []) : Nat × List UInt8), [], ?_, ⟨⟨rfl, Nat.le_of_ble_eq_true rfl, rfl⟩, ?_, ?_⟩⟩
    · exact ⟨Nat.le_refl _, by simp⟩
    · (conv => whnf)
      (repeat' ((first | with_reducible exact True.intro | ((with_reducible refine And.intro ?_ ?_); focus (first | with_reducible rfl | omega | exact Nat.le_of_ble_eq_true rfl | rfl)) | with_reducible refine And.intro (?_ : leA _ _ _) ?_ | fail) <;> (conv => whnf)))
      all_goals (try simp only [sI_eq, sB_eq, sS_eq, sN_eq])
      all_goals (try first | omega)
    · (conv => whnf)
      (repeat' ((first | with_reducible exact True.intro | fail) <;> (conv => whnf)))
      all_goals (try simp only [sI_eq, sB_eq, sS_eq, sN_eq])
  · obtain ⟨h1, h2⟩ := hx
    have hl : x.2.length ≤ 30 := by
      have := congrArg List.length h2
      have h20 : (decDigits n.toNat).length ≤ 30 := by rw [decDigits_length]; exact Nat.le_trans (nDigits_le 29 _ (by omega)) (by omega)
      split at this <;> (try simp at this) <;> omega
    (conv => whnf)
    (repeat' ((first
      | ((with_reducible refine And.intro ?_ ?_); focus (first | omega | (intro e he; rcases (by omega : e = 0 ∨ e = 1 ∨ e = 2) with rfl | rfl | rfl <;> first | rfl | (exfalso; omega)) | (simp only [inK_def, Go.Vc.lo, Go.Vc.hi]; omega) | (simp only [List.length_append, bytesOf_length, List.toList_toArray, List.length_cons, List.length_nil, List.length_take, List.length_drop, sS_eq]; omega)))
      | (split <;> rename_i hh <;> (try simp only [ble_true, ble_false, beq_true, beq_false, sI_eq, sB_eq, sS_eq, sN_eq, ltI_eq, leI_eq, eqI_eq, decide_eq_true_eq, decide_eq_false_iff_not, beq_iff_eq, bne_iff_ne, ne_eq, beq_eq_false_iff_ne, bne_eq_false_iff_eq, Bool.not_eq_true, Bool.not_eq_false, Int.not_lt, Int.not_le, gt_iff_lt, ge_iff_le, Nat.not_lt, Nat.not_le, Decidable.not_not, Bool.not_eq_eq_eq_not, Bool.not_true, Bool.not_false, cond_true, cond_false, Bool.or_eq_true, Bool.and_eq_true, Bool.or_eq_false_iff, Bool.and_eq_false_iff] at hh) <;> (try simp (disch := omega) only [Int.tdiv_eq_ediv_of_nonneg, Int.tmod_eq_emod_of_nonneg] at hh))
      | fail) <;> (conv => whnf)))
    all_goals (try (show _ = _; simp only [sI_eq, sB_eq, sS_eq, sN_eq]))
    · (conv => whnf)
      refine ⟨((x.1 / 10, UInt8.ofNat (48 + x.1 % 10) :: x.2) : Nat × List UInt8), [], ?_, ⟨⟨rfl, Nat.le_of_ble_eq_true rfl, rfl⟩, ?_, ?_⟩⟩
      · refine ⟨⟨show x.1 / 10 ≤ n.toNat by omega, (digits_step (n := x.1) (s := x.2) (.inl (by omega))).trans h2⟩, ?_⟩
        show 2 * (x.1 / 10) + (if UInt8.ofNat (48 + x.1 % 10) :: x.2 = [] then 1 else 0) < 2 * x.1 + (if x.2 = [] then 1 else 0)
        rw [if_neg (by simp)]; omega
      · (conv => whnf)
        (repeat' ((first | with_reducible exact True.intro | ((with_reducible refine And.intro ?_ ?_); focus (first | with_reducible rfl | omega | exact Nat.le_of_ble_eq_true rfl | rfl)) | with_reducible refine And.intro (?_ : leA _ _ _) ?_ | fail) <;> (conv => whnf)))
        all_goals (try simp only [sI_eq, sB_eq, sS_eq, sN_eq])
        all_goals (try first | omega)
      · (conv => whnf)
        (repeat' ((first | with_reducible exact True.intro | fail) <;> (conv => whnf)))
        all_goals (try simp only [sI_eq, sB_eq, sS_eq, sN_eq])
    · (conv => whnf)
      refine ⟨((x.1 / 10, UInt8.ofNat (48 + x.1 % 10) :: x.2) : Nat × List UInt8), [], ?_, ⟨⟨rfl, Nat.le_of_ble_eq_true rfl, rfl⟩, ?_, ?_⟩⟩
      · refine ⟨⟨show x.1 / 10 ≤ n.toNat by omega, (digits_step (n := x.1) (s := x.2) (.inr (by assumption))).trans h2⟩, ?_⟩
        show 2 * (x.1 / 10) + (if UInt8.ofNat (48 + x.1 % 10) :: x.2 = [] then 1 else 0) < 2 * x.1 + (if x.2 = [] then 1 else 0)
        rw [if_neg (by simp), if_pos (by assumption)]; omega
      · (conv => whnf)
        (repeat' ((first | with_reducible exact True.intro | ((with_reducible refine And.intro ?_ ?_); focus (first | with_reducible rfl | omega | exact Nat.le_of_ble_eq_true rfl | rfl)) | with_reducible refine And.intro (?_ : leA _ _ _) ?_ | fail) <;> (conv => whnf)))
        all_goals (try simp only [sI_eq, sB_eq, sS_eq, sN_eq])
        all_goals (try first | omega)
      · (conv => whnf)
        (repeat' ((first | with_reducible exact True.intro | fail) <;> (conv => whnf)))
        all_goals (try simp only [sI_eq, sB_eq, sS_eq, sN_eq])
    · have h0 : x.1 = 0 := by omega
      rw [← h2, if_pos ⟨h0, by assumption⟩]
end
end Go.Vc.Z

/- Numbers: the document's, and locators. -/
namespace Go.Vc.Z
open Go Go.Vc Go.Proofs Go.RowKit Go.Pl Go.Lib
noncomputable section
set_option maxRecDepth 100000
set_option linter.unusedSimpArgs false
set_option linter.unusedVariables false
attribute [local irreducible] inK Utf8.decode Utf8.encode Lib.itoa Pl.worth Pl.allDig

def pcWorth : PC := PC.fun fun | [.str s] => some (allDig s = true ∧ s.length ≤ 19, .int .u64 (sI (worth s))) | _ => none
def LWorth (s : List UInt8) : LoopSpec := {
  α := Nat
  keep := [0, 3, 4]
  vals i := [.str s, .int .u64 (sI (worth (s.take i))), .int .i64 i]
  heap _ := []
  ok i := i ≤ s.length
  μ i := s.length - i }
def D_couponref10_worth : PT := tabD []
def C_couponref10_worth : FuncId → Option Ctr := tabC D_couponref10_worth []
def L_couponref10_worth : List AV → Nat → Option LR := fun cs i => match cs with | [.str s] => cond (Nat.beq i 3) (some (.inv (LWorth s))) (none) | _ => none
theorem g_couponref10_worth {W : World} (hW : Tabs W) : GoodP (Fw W) Tryz.prog 174 pcWorth := by
  have hD : PTOk (Fw W) Tryz.prog D_couponref10_worth := tabD_nil
  have hC0 : CtrOk (Fw W) Tryz.prog C_couponref10_worth := (tabC_nil hD)
  refine goodP_fun (D := D_couponref10_worth) (C := C_couponref10_worth) (wr := (fun _ => false)) rfl tyOk hD hC0 Tryz.func174 (L_couponref10_worth) ?_
  clear hC0 hD hW
  intro cs p r h hf hp
  split at h
  case h_2 => cases h
  rename_i s
  cases h
  try simp only [factL, factA, inK_def, Go.Vc.lo, Go.Vc.hi, and_true] at hf
  obtain ⟨hd, hl⟩ := hp
  (conv => whnf)
  all_goals (try (show _ = _; simp only [sI_eq, sB_eq, sS_eq, sN_eq]))
  refine ⟨?_, fun (i : Nat) (hi : i ≤ s.length) => ?_⟩
  · (conv => whnf)
    refine ⟨(0 : Nat), [], ?_, ⟨⟨rfl, Nat.le_of_ble_eq_true rfl, rfl⟩, ?_, ?_⟩⟩
    · exact Nat.zero_le _
    · (conv => whnf)
      (repeat' ((first | with_reducible exact True.intro | ((with_reducible refine And.intro ?_ ?_); focus (first | with_reducible rfl | omega | exact Nat.le_of_ble_eq_true rfl | rfl)) | with_reducible refine And.intro (?_ : leA _ _ _) ?_ | fail) <;> (conv => whnf)))
      all_goals (try simp only [sI_eq, sB_eq, sS_eq, sN_eq])
      all_goals (try first | omega)
      simp [worth]
    · (conv => whnf)
      (repeat' ((first | with_reducible exact True.intro | fail) <;> (conv => whnf)))
      all_goals (try simp only [sI_eq, sB_eq, sS_eq, sN_eq])
  · have hw := worth_take_le hd hi
    have hw2 : 10 ^ s.length ≤ 10 ^ 19 := Nat.pow_le_pow_right (by omega) hl
    have hdig : i < s.length → 48 ≤ (s.getD (Int.toNat (i : Int)) 0).toNat ∧ (s.getD (Int.toNat (i : Int)) 0).toNat ≤ 57 := fun h => dig_at h hd
    have hw3 : i < s.length → worth (s.take (i + 1)) = 10 * worth (s.take i) + ((s.getD (Int.toNat (i : Int)) 0).toNat - 48) := fun h => worth_take_succ h
    have hw5 : i < s.length → worth (s.take (i + 1)) < 10 ^ s.length := fun h => worth_take_le hd (by omega)
    have hsi := sI_eq (worth (s.take i))
    (conv => whnf)
    (repeat' ((first
      | ((with_reducible refine And.intro ?_ ?_); focus (first | with_reducible rfl | omega | (simp only [inK_def, Go.Vc.lo, Go.Vc.hi]; omega)))
      | (split <;> rename_i hh <;> (try simp only [ble_true, ble_false, beq_true, beq_false, sI_eq, sB_eq, sS_eq, sN_eq, ltI_eq, leI_eq, eqI_eq, decide_eq_true_eq, decide_eq_false_iff_not, beq_iff_eq, bne_iff_ne, ne_eq, beq_eq_false_iff_ne, bne_eq_false_iff_eq, Bool.not_eq_true, Bool.not_eq_false, Int.not_lt, Int.not_le, gt_iff_lt, ge_iff_le, Nat.not_lt, Nat.not_le, Decidable.not_not, Bool.not_eq_eq_eq_not, Bool.not_true, Bool.not_false, cond_true, cond_false, Bool.or_eq_true, Bool.and_eq_true, Bool.or_eq_false_iff, Bool.and_eq_false_iff] at hh) <;> (try simp (disch := omega) only [Int.tdiv_eq_ediv_of_nonneg, Int.tmod_eq_emod_of_nonneg] at hh))
      | with_reducible refine (fun (hln : (_ : Int) ≤ 9223372036854775807) => ?_)
      | fail) <;> (conv => whnf)))
    all_goals (try (show _ = _; simp only [sI_eq, sB_eq, sS_eq, sN_eq]))
    · (conv => whnf)
      refine ⟨(i + 1 : Nat), [], ?_, ⟨⟨rfl, Nat.le_of_ble_eq_true rfl, rfl⟩, ?_, ?_⟩⟩
      · exact ⟨show i + 1 ≤ s.length by omega, show s.length - (i + 1) < s.length - i by omega⟩
      · (conv => whnf)
        (repeat' ((first | with_reducible exact True.intro | ((with_reducible refine And.intro ?_ ?_); focus (first | with_reducible rfl | omega | exact Nat.le_of_ble_eq_true rfl | rfl)) | with_reducible refine And.intro (?_ : leA _ _ _) ?_ | fail) <;> (conv => whnf)))
        all_goals (try simp only [sI_eq, sB_eq, sS_eq, sN_eq])
        all_goals (try first | omega)
      · (conv => whnf)
        (repeat' ((first | with_reducible exact True.intro | fail) <;> (conv => whnf)))
        all_goals (try simp only [sI_eq, sB_eq, sS_eq, sN_eq])
    · rw [List.take_of_length_le (by omega)]
def pcDigit : PC := PC.fun fun | [.str s] => some (allDig s = true, .int .u8 (sI ((48 + worth s % 7 : Nat) : Int))) | _ => none
def LDigit (s : List UInt8) : LoopSpec := {
  α := Nat
  keep := [0, 3, 4]
  vals i := [.str s, .int .i64 (sI ((worth (s.take i) % 7 : Nat) : Int)), .int .i64 i]
  heap _ := []
  ok i := i ≤ s.length
  μ i := s.length - i }
def D_couponref10_digit : PT := tabD []
def C_couponref10_digit : FuncId → Option Ctr := tabC D_couponref10_digit []
def L_couponref10_digit : List AV → Nat → Option LR := fun cs i => match cs with | [.str s] => cond (Nat.beq i 3) (some (.inv (LDigit s))) (none) | _ => none
theorem g_couponref10_digit {W : World} (hW : Tabs W) : GoodP (Fw W) Tryz.prog 173 pcDigit := by
  have hD : PTOk (Fw W) Tryz.prog D_couponref10_digit := tabD_nil
  have hC0 : CtrOk (Fw W) Tryz.prog C_couponref10_digit := (tabC_nil hD)
  refine goodP_fun (D := D_couponref10_digit) (C := C_couponref10_digit) (wr := (fun _ => false)) rfl tyOk hD hC0 Tryz.func173 (L_couponref10_digit) ?_
  clear hC0 hD hW
  intro cs p r h hf hp
  split at h
  case h_2 => cases h
  rename_i s
  cases h
  try simp only [factL, factA, inK_def, Go.Vc.lo, Go.Vc.hi, and_true] at hf
  (conv => whnf)
  all_goals (try (show _ = _; simp only [sI_eq, sB_eq, sS_eq, sN_eq]))
  refine ⟨?_, fun (i : Nat) (hi : i ≤ s.length) => ?_⟩
  · (conv => whnf)
    refine ⟨(0 : Nat), [], ?_, ⟨⟨rfl, Nat.le_of_ble_eq_true rfl, rfl⟩, ?_, ?_⟩⟩
    · exact Nat.zero_le _
    · (conv => whnf)
      (repeat' ((first | with_reducible exact True.intro | ((with_reducible refine And.intro ?_ ?_); focus (first | with_reducible rfl | omega | exact Nat.le_of_ble_eq_true rfl | rfl)) | with_reducible refine And.intro (?_ : leA _ _ _) ?_ | fail) <;> (conv => whnf)))
      all_goals (try simp only [sI_eq, sB_eq, sS_eq, sN_eq])
      all_goals (try first | omega)
      simp [worth]
    · (conv => whnf)
      (repeat' ((first | with_reducible exact True.intro | fail) <;> (conv => whnf)))
      all_goals (try simp only [sI_eq, sB_eq, sS_eq, sN_eq])
  · have hdig : i < s.length → 48 ≤ (s.getD (Int.toNat (i : Int)) 0).toNat ∧ (s.getD (Int.toNat (i : Int)) 0).toNat ≤ 57 := fun h => dig_at h hp
    have hw3 : i < s.length → worth (s.take (i + 1)) = 10 * worth (s.take i) + ((s.getD (Int.toNat (i : Int)) 0).toNat - 48) := fun h => worth_take_succ h
    have hsi := sI_eq ((worth (s.take i) % 7 : Nat) : Int)
    (conv => whnf)
    (repeat' ((first
      | ((with_reducible refine And.intro ?_ ?_); focus (first | with_reducible rfl | omega | (simp only [inK_def, Go.Vc.lo, Go.Vc.hi]; omega)))
      | (split <;> rename_i hh <;> (try simp only [ble_true, ble_false, beq_true, beq_false, sI_eq, sB_eq, sS_eq, sN_eq, ltI_eq, leI_eq, eqI_eq, decide_eq_true_eq, decide_eq_false_iff_not, beq_iff_eq, bne_iff_ne, ne_eq, beq_eq_false_iff_ne, bne_eq_false_iff_eq, Bool.not_eq_true, Bool.not_eq_false, Int.not_lt, Int.not_le, gt_iff_lt, ge_iff_le, Nat.not_lt, Nat.not_le, Decidable.not_not, Bool.not_eq_eq_eq_not, Bool.not_true, Bool.not_false, cond_true, cond_false, Bool.or_eq_true, Bool.and_eq_true, Bool.or_eq_false_iff, Bool.and_eq_false_iff] at hh) <;> (try simp (disch := omega) only [Int.tdiv_eq_ediv_of_nonneg, Int.tmod_eq_emod_of_nonneg] at hh))
      | with_reducible refine (fun (hln : (_ : Int) ≤ 9223372036854775807) => ?_)
      | fail) <;> (conv => whnf)))
    all_goals (try (show _ = _; simp only [sI_eq, sB_eq, sS_eq, sN_eq]))
    · (conv => whnf)
      refine ⟨(i + 1 : Nat), [], ?_, ⟨⟨rfl, Nat.le_of_ble_eq_true rfl, rfl⟩, ?_, ?_⟩⟩
      · exact ⟨show i + 1 ≤ s.length by omega, show s.length - (i + 1) < s.length - i by omega⟩
      · (conv => whnf)
        (repeat' ((first | with_reducible exact True.intro | ((with_reducible refine And.intro ?_ ?_); focus (first | with_reducible rfl | omega | exact Nat.le_of_ble_eq_true rfl | rfl)) | with_reducible refine And.intro (?_ : leA _ _ _) ?_ | fail) <;> (conv => whnf)))
        all_goals (try simp only [sI_eq, sB_eq, sS_eq, sN_eq])
        all_goals (try first | omega)
        rw [hw3 (by omega)]
        rw [Int.tmod_eq_emod_of_nonneg (by omega)]
        omega
      · (conv => whnf)
        (repeat' ((first | with_reducible exact True.intro | fail) <;> (conv => whnf)))
        all_goals (try simp only [sI_eq, sB_eq, sS_eq, sN_eq])
    · rw [List.take_of_length_le (by omega)]; omega

theorem worth_split13 {s : List UInt8} (h : s.length = 13) : worth s = 10 * worth (s.take 12) + ((s.getD 12 0).toNat - 48) := by
  rw [← worth_take_succ (by omega), List.take_of_length_le (by omega)]
theorem checkN_ne2 {n : Int} (h0 : 1000000000000 ≤ n) (h1 : n ≤ 9999999999999) : checkN n = if n / 10 % 7 = n % 10 then 0 else 11 := by
  unfold checkN; rw [if_neg (by omega)]
theorem checkN_lo {n : Int} (h0 : n < 1000000000000) : checkN n = 2 := by
  unfold checkN; rw [if_pos (.inl h0)]
theorem worth_head {s : List UInt8} (h : s.length = 13) (hd : allDig s = true) : worth s = ((s.getD 0 0).toNat - 48) * 1000000000000 + worth (s.drop 1) ∧ worth (s.drop 1) < 1000000000000 := by
  match s, h with
  | c :: t, h =>
    have ht : t.length = 12 := by simpa using h
    have h1 := worth_lt (allDig_drop hd 1)
    have h2 := worth_cons c t
    simp only [List.drop_succ_cons, List.drop_zero, ht] at h1 ⊢
    rw [ht] at h2
    exact ⟨h2, h1⟩
def LROf (s : List UInt8) : LoopSpec := {
  α := Nat
  keep := [0, 4]
  vals i := [.str s, .int .i64 i]
  heap _ := []
  ok i := i ≤ 13 ∧ allDig (s.take i) = true
  μ i := 13 - i }
def pcROf : PC := PC.fun fun | [.str s] => some (True, .tup [.int .u64 (sI (numOf s).1), .int .i64 (sI (numOf s).2)]) | _ => none
def D_couponref10_Of : PT := tabD [(173, pcDigit), (174, pcWorth)]
def C_couponref10_Of : FuncId → Option Ctr := tabC D_couponref10_Of []
def L_couponref10_Of : List AV → Nat → Option LR := fun cs i => match cs with | [.str s] => cond (Nat.beq i 4) (some (.inv (LROf s))) (none) | _ => none
theorem g_couponref10_Of {W : World} (hW : Tabs W) : GoodP (Fw W) Tryz.prog 88 pcROf := by
  have hD : PTOk (Fw W) Tryz.prog D_couponref10_Of := (tabD_cons Tryz.call173 (g_couponref10_digit hW) (tabD_cons Tryz.call174 (g_couponref10_worth hW) tabD_nil))
  have hC0 : CtrOk (Fw W) Tryz.prog C_couponref10_Of := (tabC_nil hD)
  refine goodP_fun (D := D_couponref10_Of) (C := C_couponref10_Of) (wr := (fun _ => false)) rfl tyOk hD hC0 Tryz.func88 (L_couponref10_Of) ?_
  clear hC0 hD hW
  intro cs p r h hf hp
  split at h
  case h_2 => cases h
  rename_i s
  cases h
  try simp only [factL, factA, inK_def, Go.Vc.lo, Go.Vc.hi, and_true] at hf
  (conv => whnf)
  (repeat' ((first
    | with_reducible exact True.intro
    | ((with_reducible refine And.intro ?_ ?_); focus (with_reducible rfl))
    | (split <;> rename_i hh <;> (try simp only [ble_true, ble_false, beq_true, beq_false, sI_eq, sB_eq, sS_eq, sN_eq, ltI_eq, leI_eq, eqI_eq, decide_eq_true_eq, decide_eq_false_iff_not, beq_iff_eq, bne_iff_ne, ne_eq, beq_eq_false_iff_ne, bne_eq_false_iff_eq, Bool.not_eq_true, Bool.not_eq_false, Int.not_lt, Int.not_le, gt_iff_lt, ge_iff_le, Nat.not_lt, Nat.not_le, Decidable.not_not, Bool.not_eq_eq_eq_not, Bool.not_true, Bool.not_false, cond_true, cond_false, Bool.or_eq_true, Bool.and_eq_true, Bool.or_eq_false_iff, Bool.and_eq_false_iff] at hh) <;> (try simp (disch := omega) only [Int.tdiv_eq_ediv_of_nonneg, Int.tmod_eq_emod_of_nonneg] at hh))
    | with_reducible refine (fun (hln : (_ : Int) ≤ 9223372036854775807) => ?_)
    | with_reducible refine And.intro (?_ : leA _ _ _) ?_
    | fail) <;> (conv => whnf)))
  all_goals (try (show _ = _; simp only [sI_eq, sB_eq, sS_eq, sN_eq]))
  · have hx : numOf s = (0, 4) := by
      unfold numOf; rw [if_neg]; rintro ⟨h1, _⟩; omega
    rw [hx]
  · have hx : numOf s = (0, 4) := by
      unfold numOf; rw [if_neg]; rintro ⟨h1, _⟩; omega
    rw [hx]
  · have hl : s.length = 13 := by omega
    refine ⟨?_, fun (i : Nat) (hi : i ≤ 13 ∧ allDig (s.take i) = true) => ?_⟩
    · (conv => whnf)
      refine ⟨(0 : Nat), [], ?_, ⟨⟨rfl, Nat.le_of_ble_eq_true rfl, rfl⟩, ?_, ?_⟩⟩
      · exact ⟨Nat.zero_le _, by simp [allDig]⟩
      · (conv => whnf)
        (repeat' ((first | with_reducible exact True.intro | ((with_reducible refine And.intro ?_ ?_); focus (first | with_reducible rfl | omega | exact Nat.le_of_ble_eq_true rfl | rfl)) | with_reducible refine And.intro (?_ : leA _ _ _) ?_ | fail) <;> (conv => whnf)))
        all_goals (try simp only [sI_eq, sB_eq, sS_eq, sN_eq])
        all_goals (try first | omega)
      · (conv => whnf)
        (repeat' ((first | with_reducible exact True.intro | fail) <;> (conv => whnf)))
        all_goals (try simp only [sI_eq, sB_eq, sS_eq, sN_eq])
    · obtain ⟨h1, h2⟩ := hi
      have ei : (s.getD (Int.toNat (i : Int)) 0).toNat = (s.getD i 0).toNat := rfl
      have hbad : i < 13 → ¬ (48 ≤ (s.getD (Int.toNat (i : Int)) 0).toNat ∧ (s.getD (Int.toNat (i : Int)) 0).toNat ≤ 57) → numOf s = (0, 4) := fun h hc => by
        unfold numOf; rw [if_neg]; rintro ⟨_, h3⟩
        exact hc (dig_at (by omega) h3)
      have hdg : 13 ≤ i → allDig s = true := fun h => by rwa [List.take_of_length_le (by omega)] at h2
      have hdd : 13 ≤ i → allDig ((s.drop 0).take (Int.toNat 12 - 0)) = true := fun h => allDig_take (hdg h) 12
      have hh0 : 13 ≤ i → ((s.getD (Int.toNat 0) 0).toNat : Int) = 48 → numOf s = (0, 2) := fun h h3 => by
        obtain ⟨h4, h5⟩ := worth_head hl (hdg h)
        have h3 : (s.getD 0 0).toNat = 48 := Int.ofNat.inj h3
        have h6 : checkN (worth s) = 2 := checkN_lo (by rw [h3] at h4; omega)
        unfold numOf; rw [if_pos ⟨hl, hdg h⟩, h6]; rfl
      have hfin : 13 ≤ i → ¬ ((s.getD (Int.toNat 0) 0).toNat : Int) = 48 → numOf s = if (48 + (worth ((s.drop 0).take (Int.toNat 12 - 0)) : Int) % 7) = ((s.getD (Int.toNat 12) 0).toNat : Int) then ((worth s : Int), 0) else (0, 11) := fun h h3 => by
        obtain ⟨h4, h5⟩ := worth_head hl (hdg h)
        have h3 : ¬ (s.getD 0 0).toNat = 48 := fun h => h3 (congrArg Int.ofNat h)
        have h7 := dig_at (l := s) (i := 0) (by omega) (hdg h)
        have h8 := worth_split13 hl
        have h9 := dig_at (l := s) (i := 12) (by omega) (hdg h)
        have h10 := worth_lt (hdg h)
        rw [hl] at h10
        have e : (s.drop 0).take (Int.toNat 12 - 0) = s.take 12 := rfl
        have e2 : s.getD (Int.toNat 12) 0 = s.getD 12 0 := rfl
        rw [e, e2]
        have a1 : (worth s : Int) / 10 = worth (s.take 12) := by omega
        have a2 : (worth s : Int) % 10 = (s.getD 12 0).toNat - 48 := by omega
        unfold numOf; rw [if_pos ⟨hl, hdg h⟩, checkN_ne2 (by omega) (by omega), a1, a2]
        by_cases hc : (48 + (worth (s.take 12) : Int) % 7) = ((s.getD 12 0).toNat : Int)
        · rw [if_pos (by omega), if_pos hc]
        · rw [if_neg (by omega), if_neg hc, if_neg (by omega)]
      (conv => whnf)
      (repeat' ((first
        | with_reducible exact True.intro
        | ((with_reducible refine And.intro ?_ ?_); focus (first | with_reducible rfl | omega | (simp only [inK_def, Go.Vc.lo, Go.Vc.hi]; omega)))
        | (split <;> rename_i hh <;> (try simp only [ble_true, ble_false, beq_true, beq_false, sI_eq, sB_eq, sS_eq, sN_eq, ltI_eq, leI_eq, eqI_eq, decide_eq_true_eq, decide_eq_false_iff_not, beq_iff_eq, bne_iff_ne, ne_eq, beq_eq_false_iff_ne, bne_eq_false_iff_eq, Bool.not_eq_true, Bool.not_eq_false, Int.not_lt, Int.not_le, gt_iff_lt, ge_iff_le, Nat.not_lt, Nat.not_le, Decidable.not_not, Bool.not_eq_eq_eq_not, Bool.not_true, Bool.not_false, cond_true, cond_false, Bool.or_eq_true, Bool.and_eq_true, Bool.or_eq_false_iff, Bool.and_eq_false_iff] at hh) <;> (try simp (disch := omega) only [Int.tdiv_eq_ediv_of_nonneg, Int.tmod_eq_emod_of_nonneg] at hh))
        | with_reducible refine And.intro (?_ : leA _ _ _) ?_
        | fail) <;> (conv => whnf)))
      all_goals (try (show _ = _; simp only [sI_eq, sB_eq, sS_eq, sN_eq]))
      all_goals try (rw [hbad (by omega) (by omega)]; done)
      all_goals try (rw [hh0 (by omega) (by assumption)]; done)
      · (conv => whnf)
        refine ⟨(i + 1 : Nat), [], ?_, ⟨⟨rfl, Nat.le_of_ble_eq_true rfl, rfl⟩, ?_, ?_⟩⟩
        · exact ⟨⟨show i + 1 ≤ 13 by omega, allDig_take_succ (by omega) h2 (by omega) (by omega)⟩, show 13 - (i + 1) < 13 - i by omega⟩
        · (conv => whnf)
          (repeat' ((first | with_reducible exact True.intro | ((with_reducible refine And.intro ?_ ?_); focus (first | with_reducible rfl | omega | exact Nat.le_of_ble_eq_true rfl | rfl)) | with_reducible refine And.intro (?_ : leA _ _ _) ?_ | fail) <;> (conv => whnf)))
          all_goals (try simp only [sI_eq, sB_eq, sS_eq, sN_eq])
          all_goals (try first | omega)
        · (conv => whnf)
          (repeat' ((first | with_reducible exact True.intro | fail) <;> (conv => whnf)))
          all_goals (try simp only [sI_eq, sB_eq, sS_eq, sN_eq])
      refine ⟨hdd (by omega), ?_⟩
      have hda := hdg (by omega)
      (conv => whnf)
      (repeat' ((first
        | with_reducible exact True.intro
        | ((with_reducible refine And.intro ?_ ?_); focus (first | ((with_reducible show okB _ _ _ = true); rfl) | with_reducible rfl | omega | ((with_reducible refine ⟨?_, ?_⟩) <;> first | with_reducible assumption | omega)))
        | (split <;> rename_i hh <;> (try simp only [ble_true, ble_false, beq_true, beq_false, sI_eq, sB_eq, sS_eq, sN_eq, ltI_eq, leI_eq, eqI_eq, decide_eq_true_eq, decide_eq_false_iff_not, beq_iff_eq, bne_iff_ne, ne_eq, beq_eq_false_iff_ne, bne_eq_false_iff_eq, Bool.not_eq_true, Bool.not_eq_false, Int.not_lt, Int.not_le, gt_iff_lt, ge_iff_le, Nat.not_lt, Nat.not_le, Decidable.not_not, Bool.not_eq_eq_eq_not, Bool.not_true, Bool.not_false, cond_true, cond_false, Bool.or_eq_true, Bool.and_eq_true, Bool.or_eq_false_iff, Bool.and_eq_false_iff] at hh) <;> (try simp (disch := omega) only [Int.tdiv_eq_ediv_of_nonneg, Int.tmod_eq_emod_of_nonneg] at hh))
        | with_reducible refine And.intro (?_ : leA _ _ _) ?_
        | fail) <;> (conv => whnf)))
      all_goals (try (show _ = _; simp only [sI_eq, sB_eq, sS_eq, sN_eq]))
      all_goals have hfi := hfin (by omega) (by assumption)
      all_goals first | (rw [hfi, if_neg (by omega)]; done) | (rw [hfi, if_pos (by omega)]; done) | trace_state
end
end Go.Vc.Z

/- Numbers: parts, locators, made ones. -/
namespace Go.Vc.Z
open Go Go.Vc Go.Proofs Go.RowKit Go.Pl Go.Lib
noncomputable section
set_option maxRecDepth 100000
set_option linter.unusedSimpArgs false
set_option linter.unusedVariables false
attribute [local irreducible] inK Utf8.decode Utf8.encode Lib.itoa Pl.worth Pl.allDig
theorem numOf_dec {n : Int} (h0 : 0 ≤ n) (h1 : n ≤ 18446744073709551615) : numOf (decDigits n.toNat) = if 1000000000000 ≤ n ∧ n ≤ 9999999999999 then (if checkN n = 0 then (n, 0) else (0, checkN n)) else (0, 4) := by
  unfold numOf
  have hw := worth_dec n.toNat
  have hl := dec_len_iff n.toNat 12 (by omega)
  by_cases h : 1000000000000 ≤ n ∧ n ≤ 9999999999999
  · rw [if_pos ⟨hl.2 (by omega), allDig_dec _⟩, if_pos h, hw, show ((n.toNat : Nat) : Int) = n by omega]
  · rw [if_neg (fun hh => h (by have := hl.1 hh.1; omega)), if_neg h]
def D_couponref10_Check : PT := tabD [(81, pcDigits), (88, pcROf)]
def C_couponref10_Check : FuncId → Option Ctr := tabC D_couponref10_Check []
theorem g_couponref10_Check {W : World} (hW : Tabs W) : GoodP (Fw W) Tryz.prog 135 pcCheck := by
  have hD : PTOk (Fw W) Tryz.prog D_couponref10_Check := (tabD_cons Tryz.call81 (g_couponref10_Digits hW) (tabD_cons Tryz.call88 (g_couponref10_Of hW) tabD_nil))
  have hC0 : CtrOk (Fw W) Tryz.prog C_couponref10_Check := (tabC_nil hD)
  refine goodP_fun (D := D_couponref10_Check) (C := C_couponref10_Check) (wr := (fun _ => false)) rfl tyOk hD hC0 Tryz.func135 (fun _ _ => none) ?_
  clear hC0 hD hW
  intro cs p r h hf hp
  split at h
  case h_2 => cases h
  rename_i n
  cases h
  try simp only [factL, factA, inK_def, Go.Vc.lo, Go.Vc.hi, and_true] at hf
  have hx := numOf_dec hf.1 hf.2
  have h2 : ¬ (1000000000000 ≤ n ∧ n ≤ 9999999999999) → checkN n = 2 := fun h => by unfold checkN; rw [if_pos (by omega)]
  have h3 : (1000000000000 ≤ n ∧ n ≤ 9999999999999) → checkN n ≠ 4 := fun h => by rw [checkN_ne2 h.1 h.2]; split <;> omega
  have h4 : (numOf (decDigits n.toNat)).2 = 4 → checkN n = 2 := fun h => by
    rw [hx] at h
    by_cases hc : 1000000000000 ≤ n ∧ n ≤ 9999999999999
    · rw [if_pos hc] at h; split at h
      · cases h
      · exact absurd h (h3 hc)
    · exact h2 hc
  have h5 : ¬ (numOf (decDigits n.toNat)).2 = 4 → (numOf (decDigits n.toNat)).2 = checkN n := fun h => by
    rw [hx] at h ⊢
    by_cases hc : 1000000000000 ≤ n ∧ n ≤ 9999999999999
    · rw [if_pos hc]; split
      · rename_i h6; exact h6.symm
      · rfl
    · rw [if_neg hc] at h; exact absurd rfl h
  (conv => whnf)
  (repeat' ((first
    | ((with_reducible refine And.intro ?_ ?_); focus (first | with_reducible exact True.intro | with_reducible rfl))
    | (split <;> rename_i hh <;> (try simp only [ble_true, ble_false, beq_true, beq_false, sI_eq, sB_eq, sS_eq, sN_eq, ltI_eq, leI_eq, eqI_eq, decide_eq_true_eq, decide_eq_false_iff_not, beq_iff_eq, bne_iff_ne, ne_eq, beq_eq_false_iff_ne, bne_eq_false_iff_eq, Bool.not_eq_true, Bool.not_eq_false, Int.not_lt, Int.not_le, gt_iff_lt, ge_iff_le, Nat.not_lt, Nat.not_le, Decidable.not_not, Bool.not_eq_eq_eq_not, Bool.not_true, Bool.not_false, cond_true, cond_false, Bool.or_eq_true, Bool.and_eq_true, Bool.or_eq_false_iff, Bool.and_eq_false_iff] at hh) <;> (try simp (disch := omega) only [Int.tdiv_eq_ediv_of_nonneg, Int.tmod_eq_emod_of_nonneg] at hh))
    | fail) <;> (conv => whnf)))
  all_goals (try (show _ = _; simp only [sI_eq, sB_eq, sS_eq, sN_eq]))
  · exact h5 (by assumption)
  · rw [h4 (by assumption)]
theorem parts_dec {n : Int} (h : checkN n = 0) : carrierN n = worth ((decDigits n.toNat).take 3) ∧ serialN n = worth (((decDigits n.toNat).drop 3).take 9) ∧ (decDigits n.toNat).length = 13 := by
  obtain ⟨h0, h1⟩ := checkN_zero h
  have hl := (dec_len_iff n.toNat 12 (by omega)).2 (by omega)
  have hw := worth_dec n.toNat
  have hd := allDig_dec n.toNat
  generalize decDigits n.toNat = s at hl hw hd
  have e1 := worth_append (s.take 3) (s.drop 3)
  have e2 := worth_append ((s.drop 3).take 9) ((s.drop 3).drop 9)
  rw [List.take_append_drop] at e1 e2
  have l1 : (s.drop 3).length = 10 := by simp [hl]
  have l2 : ((s.drop 3).drop 9).length = 1 := by simp [hl]
  rw [l1] at e1
  rw [l2] at e2
  have b1 := worth_lt (allDig_drop hd 3)
  have b2 := worth_lt (allDig_drop (allDig_drop hd 3) 9)
  have b3 := worth_lt (allDig_take (allDig_drop hd 3) 9)
  have l3 : ((s.drop 3).take 9).length = 9 := by simp [hl]
  rw [l1] at b1
  rw [l2] at b2
  rw [l3] at b3
  unfold carrierN serialN
  rw [if_pos h, if_pos h]
  refine ⟨?_, ?_, by omega⟩ <;> omega
def D_couponref10_Parts : PT := tabD [(135, pcCheck), (81, pcDigits), (174, pcWorth)]
def C_couponref10_Parts : FuncId → Option Ctr := tabC D_couponref10_Parts []
theorem g_couponref10_Parts {W : World} (hW : Tabs W) : GoodP (Fw W) Tryz.prog 210 pcParts := by
  have hD : PTOk (Fw W) Tryz.prog D_couponref10_Parts := (tabD_cons Tryz.call135 (g_couponref10_Check hW) (tabD_cons Tryz.call81 (g_couponref10_Digits hW) (tabD_cons Tryz.call174 (g_couponref10_worth hW) tabD_nil)))
  have hC0 : CtrOk (Fw W) Tryz.prog C_couponref10_Parts := (tabC_nil hD)
  refine goodP_fun (D := D_couponref10_Parts) (C := C_couponref10_Parts) (wr := (fun _ => false)) rfl tyOk hD hC0 Tryz.func210 (fun _ _ => none) ?_
  clear hC0 hD hW
  intro cs p r h hf hp
  split at h
  case h_2 => cases h
  rename_i n
  cases h
  try simp only [factL, factA, inK_def, Go.Vc.lo, Go.Vc.hi, and_true] at hf
  have hp : checkN n = 0 → _ := parts_dec (n := n)
  have h1 : ¬ checkN n = 0 → carrierN n = 0 ∧ serialN n = 0 := fun h => by unfold carrierN serialN; rw [if_neg h, if_neg h]; exact ⟨rfl, rfl⟩
  have hl : checkN n = 0 → (sS (decDigits n.toNat)).length = 13 := fun h => by rw [sS_eq]; exact (parts_dec h).2.2
  have hd : allDig (sS (decDigits n.toNat)) = true := by rw [sS_eq]; exact allDig_dec _
  have w1 : worth (((sS (decDigits n.toNat)).drop 0).take (Int.toNat 3 - 0)) < 10 ^ 3 := worth_take_le (by simpa using hd) (by decide)
  have w2 : worth (((sS (decDigits n.toNat)).drop (Int.toNat 3)).take (Int.toNat 12 - Int.toNat 3)) < 10 ^ 9 := worth_take_le (allDig_drop hd _) (by decide)
  have s1 := sI_eq (worth (((sS (decDigits n.toNat)).drop 0).take (Int.toNat 3 - 0)))
  have s2 := sI_eq (worth (((sS (decDigits n.toNat)).drop (Int.toNat 3)).take (Int.toNat 12 - Int.toNat 3)))
  (conv => whnf)
  (repeat' ((first
    | with_reducible exact True.intro
    | ((with_reducible refine And.intro ?_ ?_); focus (first | with_reducible exact True.intro | with_reducible rfl | omega))
    | (split <;> rename_i hh <;> (try simp only [ble_true, ble_false, beq_true, beq_false, sI_eq, sB_eq, sS_eq, sN_eq, ltI_eq, leI_eq, eqI_eq, decide_eq_true_eq, decide_eq_false_iff_not, beq_iff_eq, bne_iff_ne, ne_eq, beq_eq_false_iff_ne, bne_eq_false_iff_eq, Bool.not_eq_true, Bool.not_eq_false, Int.not_lt, Int.not_le, gt_iff_lt, ge_iff_le, Nat.not_lt, Nat.not_le, Decidable.not_not, Bool.not_eq_eq_eq_not, Bool.not_true, Bool.not_false, cond_true, cond_false, Bool.or_eq_true, Bool.and_eq_true, Bool.or_eq_false_iff, Bool.and_eq_false_iff] at hh) <;> (try simp (disch := omega) only [Int.tdiv_eq_ediv_of_nonneg, Int.tmod_eq_emod_of_nonneg] at hh))
    | with_reducible refine And.intro (?_ : leA _ _ _) ?_
    | fail) <;> (conv => whnf)))
  all_goals (try (show _ = _; simp only [sI_eq, sB_eq, sS_eq, sN_eq]))
  · rw [(h1 (by assumption)).1]
  · rw [(h1 (by assumption)).2]
  · have hl := hl (by assumption)
    have l1 : (((sS (decDigits n.toNat)).drop 0).take (Int.toNat 3 - 0)).length ≤ 19 := by rw [List.length_take]; simp; omega
    have l2 : (((sS (decDigits n.toNat)).drop (Int.toNat 3)).take (Int.toNat 12 - Int.toNat 3)).length ≤ 19 := by rw [List.length_take, List.length_drop, hl]; decide
    have d1 : allDig (((sS (decDigits n.toNat)).drop 0).take (Int.toNat 3 - 0)) = true := allDig_take (by simpa using hd) _
    have d2 : allDig (((sS (decDigits n.toNat)).drop (Int.toNat 3)).take (Int.toNat 12 - Int.toNat 3)) = true := allDig_take (allDig_drop hd _) _
    (conv => whnf)
    (repeat' ((first
      | with_reducible exact True.intro
      | ((with_reducible refine And.intro ?_ ?_); focus (first | ((with_reducible show okB _ _ _ = true); rfl) | with_reducible rfl | omega | ((with_reducible refine ⟨?_, ?_⟩) <;> first | with_reducible assumption | omega) | (simp only [inK_def, Go.Vc.lo, Go.Vc.hi]; omega)))
      | with_reducible refine And.intro (?_ : leA _ _ _) ?_
      | fail) <;> (conv => whnf)))
    all_goals (try (show _ = _; simp only [sI_eq, sB_eq, sS_eq, sN_eq]))
    · exact (hp (by assumption)).1.symm
    · exact (hp (by assumption)).2.1.symm
def isLoc (c : UInt8) : Bool := (decide (65 ≤ c.toNat) && decide (c.toNat ≤ 90)) || (decide (50 ≤ c.toNat) && decide (c.toNat ≤ 57))
@[irreducible] def locOk (s : List UInt8) : Bool := s.all isLoc && decide (s.length = 6)
def pcLocator : PC := PC.fun fun | [.str s] => some (True, .bool (sB (locOk s))) | _ => none
def LLoc (s : List UInt8) : LoopSpec := {
  α := Nat
  keep := [0, 6]
  vals i := [.str s, .iter 0]
  heap i := [.iter s i]
  ok i := i ≤ s.length ∧ (s.take i).all isLoc = true
  μ i := s.length - i }
def D_number_Locator : PT := tabD []
def C_number_Locator : FuncId → Option Ctr := tabC D_number_Locator []
def L_number_Locator : List AV → Nat → Option LR := fun cs i => match cs with | [.str s] => cond (Nat.beq i 2) (some (.inv (LLoc s))) (none) | _ => none
theorem g_number_Locator {W : World} (hW : Tabs W) : GoodP (Fw W) Tryz.prog 195 pcLocator := by
  have hD : PTOk (Fw W) Tryz.prog D_number_Locator := tabD_nil
  have hC0 : CtrOk (Fw W) Tryz.prog C_number_Locator := (tabC_nil hD)
  refine goodP_fun (D := D_number_Locator) (C := C_number_Locator) (wr := (fun _ => false)) rfl tyOk hD hC0 Tryz.func195 (L_number_Locator) ?_
  clear hC0 hD hW
  intro cs p r h hf hp
  split at h
  case h_2 => cases h
  rename_i s
  cases h
  try simp only [factL, factA, inK_def, Go.Vc.lo, Go.Vc.hi, and_true] at hf
  (conv => whnf)
  all_goals (try (show _ = _; simp only [sI_eq, sB_eq, sS_eq, sN_eq]))
  refine ⟨?_, fun (i : Nat) (hi : i ≤ s.length ∧ (s.take i).all isLoc = true) => ?_⟩
  · (conv => whnf)
    refine ⟨(0 : Nat), [], ?_, ⟨⟨rfl, Nat.le_of_ble_eq_true rfl, rfl⟩, ?_, ?_⟩⟩
    · exact ⟨Nat.zero_le _, rfl⟩
    · (conv => whnf)
      (repeat' ((first | with_reducible exact True.intro | ((with_reducible refine And.intro ?_ ?_); focus (first | with_reducible rfl | omega | exact Nat.le_of_ble_eq_true rfl | rfl)) | fail) <;> (conv => whnf)))
      all_goals (try simp only [sI_eq, sB_eq, sS_eq, sN_eq])
    · (conv => whnf)
      (repeat' ((first | with_reducible exact True.intro | ((with_reducible refine And.intro ?_ ?_); focus (first | with_reducible rfl | omega | exact Nat.le_of_ble_eq_true rfl | rfl)) | with_reducible refine And.intro (?_ : leBlk _ _ _ _) ?_ | fail) <;> (conv => whnf)))
      all_goals (try simp only [sI_eq, sB_eq, sS_eq, sN_eq])
  · obtain ⟨h1, h2⟩ := hi
    have hbad : i < s.length → ¬ (65 ≤ runeAt s i ∧ runeAt s i ≤ 90 ∨ 50 ≤ runeAt s i ∧ runeAt s i ≤ 57) → locOk s = false := fun h hc => by
      have : isLoc (s.getD i 0) = false := by
        simp only [isLoc, Bool.or_eq_false_iff, Bool.and_eq_false_iff, decide_eq_false_iff_not]
        rcases rune_cases h with h6 | h6 <;> omega
      unfold locOk; rw [not_all_of h this]; rfl
    have hgood : i < s.length → (65 ≤ runeAt s i ∧ runeAt s i ≤ 90 ∨ 50 ≤ runeAt s i ∧ runeAt s i ≤ 57) → (s.take (i + 1)).all isLoc = true ∧ runeW s i = 1 := fun h hc => by
      rcases rune_cases h with h6 | h6
      · refine ⟨?_, h6.2.1⟩
        rw [all_take_succ h, h2, Bool.true_and]
        simp only [isLoc, Bool.or_eq_true, Bool.and_eq_true, decide_eq_true_eq]; omega
      · omega
    have hfin : s.length ≤ i → locOk s = decide (s.length = 6) := fun h => by
      rw [List.take_of_length_le h] at h2
      unfold locOk; rw [h2]; rfl
    (conv => whnf)
    (repeat' ((first
      | (split <;> rename_i hh <;> (try simp only [ble_true, ble_false, beq_true, beq_false, sI_eq, sB_eq, sS_eq, sN_eq, ltI_eq, leI_eq, eqI_eq, decide_eq_true_eq, decide_eq_false_iff_not, beq_iff_eq, bne_iff_ne, ne_eq, beq_eq_false_iff_ne, bne_eq_false_iff_eq, Bool.not_eq_true, Bool.not_eq_false, Int.not_lt, Int.not_le, gt_iff_lt, ge_iff_le, Nat.not_lt, Nat.not_le, Decidable.not_not, Bool.not_eq_eq_eq_not, Bool.not_true, Bool.not_false, cond_true, cond_false, Bool.or_eq_true, Bool.and_eq_true, Bool.or_eq_false_iff, Bool.and_eq_false_iff] at hh) <;> (try simp (disch := omega) only [Int.tdiv_eq_ediv_of_nonneg, Int.tmod_eq_emod_of_nonneg] at hh))
      | with_reducible refine (fun (hln : (_ : Int) ≤ 9223372036854775807) => ?_)
      | fail) <;> (conv => whnf)))
    all_goals (try (show _ = _; simp only [sI_eq, sB_eq, sS_eq, sN_eq]))
    all_goals try (rw [hbad (by omega) (by omega)]; done)
    all_goals try (
      obtain ⟨g1, g2⟩ := hgood (by omega) (by omega)
      (conv => whnf)
      refine ⟨(i + 1 : Nat), [], ?_, ⟨⟨rfl, Nat.le_of_ble_eq_true rfl, rfl⟩, ?_, ?_⟩⟩
      · exact ⟨⟨show i + 1 ≤ s.length by omega, g1⟩, show s.length - (i + 1) < s.length - i by omega⟩
      · (conv => whnf)
        (repeat' ((first | with_reducible exact True.intro | ((with_reducible refine And.intro ?_ ?_); focus (first | with_reducible rfl | omega | exact Nat.le_of_ble_eq_true rfl | rfl)) | fail) <;> (conv => whnf)))
        all_goals (try simp only [sI_eq, sB_eq, sS_eq, sN_eq])
      · (conv => whnf)
        (repeat' ((first | with_reducible exact True.intro | ((with_reducible refine And.intro ?_ ?_); focus (first | with_reducible rfl | omega | exact Nat.le_of_ble_eq_true rfl | rfl)) | with_reducible refine And.intro (?_ : leBlk _ _ _ _) ?_ | fail) <;> (conv => whnf)))
        all_goals (try simp only [sI_eq, sB_eq, sS_eq, sN_eq])
        all_goals (try first | omega)
      )
    · rw [hfin (by omega), eqI_eq, Bool.eq_iff_iff, beq_iff_eq, decide_eq_true_eq]; omega
def LRLoc (s : List UInt8) : LoopSpec := {
  α := Nat
  keep := [0, 3]
  vals i := [.str s, .int .i64 i]
  heap _ := []
  ok i := i ≤ s.length ∧ (s.take i).all isLoc = true
  μ i := s.length - i }
def D_couponref10_Locator : PT := tabD []
def C_couponref10_Locator : FuncId → Option Ctr := tabC D_couponref10_Locator []
def L_couponref10_Locator : List AV → Nat → Option LR := fun cs i => match cs with | [.str s] => cond (Nat.beq i 2) (some (.inv (LRLoc s))) (none) | _ => none
theorem g_couponref10_Locator {W : World} (hW : Tabs W) : GoodP (Fw W) Tryz.prog 64 pcLocator := by
  have hD : PTOk (Fw W) Tryz.prog D_couponref10_Locator := tabD_nil
  have hC0 : CtrOk (Fw W) Tryz.prog C_couponref10_Locator := (tabC_nil hD)
  refine goodP_fun (D := D_couponref10_Locator) (C := C_couponref10_Locator) (wr := (fun _ => false)) rfl tyOk hD hC0 Tryz.func64 (L_couponref10_Locator) ?_
  clear hC0 hD hW
  intro cs p r h hf hp
  split at h
  case h_2 => cases h
  rename_i s
  cases h
  try simp only [factL, factA, inK_def, Go.Vc.lo, Go.Vc.hi, and_true] at hf
  (conv => whnf)
  all_goals (try (show _ = _; simp only [sI_eq, sB_eq, sS_eq, sN_eq]))
  refine ⟨?_, fun (i : Nat) (hi : i ≤ s.length ∧ (s.take i).all isLoc = true) => ?_⟩
  · (conv => whnf)
    refine ⟨(0 : Nat), [], ?_, ⟨⟨rfl, Nat.le_of_ble_eq_true rfl, rfl⟩, ?_, ?_⟩⟩
    · exact ⟨Nat.zero_le _, rfl⟩
    · (conv => whnf)
      (repeat' ((first | with_reducible exact True.intro | ((with_reducible refine And.intro ?_ ?_); focus (first | with_reducible rfl | omega | exact Nat.le_of_ble_eq_true rfl | rfl)) | with_reducible refine And.intro (?_ : leA _ _ _) ?_ | fail) <;> (conv => whnf)))
      all_goals (try simp only [sI_eq, sB_eq, sS_eq, sN_eq])
      all_goals (try first | omega)
    · (conv => whnf)
      (repeat' ((first | with_reducible exact True.intro | fail) <;> (conv => whnf)))
      all_goals (try simp only [sI_eq, sB_eq, sS_eq, sN_eq])
  · obtain ⟨h1, h2⟩ := hi
    have ei : (s.getD (Int.toNat (i : Int)) 0).toNat = (s.getD i 0).toNat := rfl
    have hbad : i < s.length → ¬ (65 ≤ (s.getD i 0).toNat ∧ (s.getD i 0).toNat ≤ 90 ∨ 50 ≤ (s.getD i 0).toNat ∧ (s.getD i 0).toNat ≤ 57) → locOk s = false := fun h hc => by
      have : isLoc (s.getD i 0) = false := by
        simp only [isLoc, Bool.or_eq_false_iff, Bool.and_eq_false_iff, decide_eq_false_iff_not]; omega
      unfold locOk; rw [not_all_of h this]; rfl
    have hgood : i < s.length → (65 ≤ (s.getD i 0).toNat ∧ (s.getD i 0).toNat ≤ 90 ∨ 50 ≤ (s.getD i 0).toNat ∧ (s.getD i 0).toNat ≤ 57) → (s.take (i + 1)).all isLoc = true := fun h hc => by
      rw [all_take_succ h, h2, Bool.true_and]
      simp only [isLoc, Bool.or_eq_true, Bool.and_eq_true, decide_eq_true_eq]; omega
    have hfin : s.length ≤ i → locOk s = decide (s.length = 6) := fun h => by
      rw [List.take_of_length_le h] at h2
      unfold locOk; rw [h2]; rfl
    (conv => whnf)
    (repeat' ((first
      | ((with_reducible refine And.intro ?_ ?_); focus (first | omega | (simp only [inK_def, Go.Vc.lo, Go.Vc.hi]; omega)))
      | (split <;> rename_i hh <;> (try simp only [ble_true, ble_false, beq_true, beq_false, sI_eq, sB_eq, sS_eq, sN_eq, ltI_eq, leI_eq, eqI_eq, decide_eq_true_eq, decide_eq_false_iff_not, beq_iff_eq, bne_iff_ne, ne_eq, beq_eq_false_iff_ne, bne_eq_false_iff_eq, Bool.not_eq_true, Bool.not_eq_false, Int.not_lt, Int.not_le, gt_iff_lt, ge_iff_le, Nat.not_lt, Nat.not_le, Decidable.not_not, Bool.not_eq_eq_eq_not, Bool.not_true, Bool.not_false, cond_true, cond_false, Bool.or_eq_true, Bool.and_eq_true, Bool.or_eq_false_iff, Bool.and_eq_false_iff] at hh) <;> (try simp (disch := omega) only [Int.tdiv_eq_ediv_of_nonneg, Int.tmod_eq_emod_of_nonneg] at hh))
      | with_reducible refine (fun (hln : (_ : Int) ≤ 9223372036854775807) => ?_)
      | fail) <;> (conv => whnf)))
    all_goals (try (show _ = _; simp only [sI_eq, sB_eq, sS_eq, sN_eq]))
    all_goals try (rw [hbad (by omega) (by omega)]; done)
    all_goals try (
      have g1 := hgood (by omega) (by omega)
      (conv => whnf)
      refine ⟨(i + 1 : Nat), [], ?_, ⟨⟨rfl, Nat.le_of_ble_eq_true rfl, rfl⟩, ?_, ?_⟩⟩
      · exact ⟨⟨show i + 1 ≤ s.length by omega, g1⟩, show s.length - (i + 1) < s.length - i by omega⟩
      · (conv => whnf)
        (repeat' ((first | with_reducible exact True.intro | ((with_reducible refine And.intro ?_ ?_); focus (first | with_reducible rfl | omega | exact Nat.le_of_ble_eq_true rfl | rfl)) | with_reducible refine And.intro (?_ : leA _ _ _) ?_ | fail) <;> (conv => whnf)))
        all_goals (try simp only [sI_eq, sB_eq, sS_eq, sN_eq])
        all_goals (try first | omega)
      · (conv => whnf)
        (repeat' ((first | with_reducible exact True.intro | fail) <;> (conv => whnf)))
        all_goals (try simp only [sI_eq, sB_eq, sS_eq, sN_eq])
      )
    · rw [hfin (by omega), eqI_eq, Bool.eq_iff_iff, beq_iff_eq, decide_eq_true_eq]; omega
/-- The number of a carrier and a serial, and what is wrong. -/
@[irreducible] def makeN (c s : Int) : Int × Int := if mayCar c = true ∧ maySer s = true then (10 * (c * 1000000000 + s) + (c * 1000000000 + s) % 7, 0) else (0, 2)
def pcMake : PC := PC.fun fun | [.int .i64 c, .int .i64 s] => some (True, .tup [.int .u64 (sI (makeN c s).1), .int .i64 (sI (makeN c s).2)]) | _ => none
def D_number_Make : PT := tabD [(292, pcMayCarrier), (293, pcMaySerial)]
def C_number_Make : FuncId → Option Ctr := tabC D_number_Make []
theorem g_number_Make {W : World} (hW : Tabs W) : GoodP (Fw W) Tryz.prog 263 pcMake := by
  have hD : PTOk (Fw W) Tryz.prog D_number_Make := (tabD_cons Tryz.call292 (g_number_mayCarrier hW) (tabD_cons Tryz.call293 (g_number_maySerial hW) tabD_nil))
  have hC0 : CtrOk (Fw W) Tryz.prog C_number_Make := (tabC_nil hD)
  refine goodP_fun (D := D_number_Make) (C := C_number_Make) (wr := (fun _ => false)) rfl tyOk hD hC0 Tryz.func263 (fun _ _ => none) ?_
  clear hC0 hD hW
  intro cs p r h hf hp
  split at h
  case h_2 => cases h
  rename_i c s
  cases h
  try simp only [factL, factA, inK_def, Go.Vc.lo, Go.Vc.hi, and_true] at hf
  have hm : mayCar c = true → 100 ≤ c ∧ c ≤ 999 := fun h => by simpa [mayCar] using h
  have hs : maySer s = true → 0 ≤ s ∧ s ≤ 999999999 := fun h => by simpa [maySer] using h
  by_cases h1 : mayCar c = true
  · by_cases h2 : maySer s = true
    · have h3 := hm h1
      have h4 := hs h2
      have e : makeN c s = (10 * (c * 1000000000 + s) + (c * 1000000000 + s) % 7, 0) := by unfold makeN; rw [if_pos ⟨h1, h2⟩]
      (conv => whnf)
      (repeat' ((first
        | with_reducible exact True.intro
        | ((with_reducible refine And.intro ?_ ?_); focus (first | with_reducible exact True.intro | with_reducible rfl | (simp only [inK_def, Go.Vc.lo, Go.Vc.hi]; omega)))
        | (split <;> rename_i hh <;> (try simp only [ble_true, ble_false, beq_true, beq_false, sI_eq, sB_eq, sS_eq, sN_eq, ltI_eq, leI_eq, eqI_eq, decide_eq_true_eq, decide_eq_false_iff_not, beq_iff_eq, bne_iff_ne, ne_eq, beq_eq_false_iff_ne, bne_eq_false_iff_eq, Bool.not_eq_true, Bool.not_eq_false, Int.not_lt, Int.not_le, gt_iff_lt, ge_iff_le, Nat.not_lt, Nat.not_le, Decidable.not_not, Bool.not_eq_eq_eq_not, Bool.not_true, Bool.not_false, cond_true, cond_false, Bool.or_eq_true, Bool.and_eq_true, Bool.or_eq_false_iff, Bool.and_eq_false_iff] at hh) <;> (try simp (disch := omega) only [Int.tdiv_eq_ediv_of_nonneg, Int.tmod_eq_emod_of_nonneg] at hh))
        | with_reducible refine And.intro (?_ : leA _ _ _) ?_
        | fail) <;> (conv => whnf)))
      all_goals (try (show _ = _; simp only [sI_eq, sB_eq, sS_eq, sN_eq]))
      all_goals first | (rw [e]; done) | (simp_all; done) | skip
    · have e : makeN c s = (0, 2) := by unfold makeN; rw [if_neg (fun h => h2 h.2)]
      (conv => whnf)
      (repeat' ((first
        | with_reducible exact True.intro
        | ((with_reducible refine And.intro ?_ ?_); focus (first | with_reducible exact True.intro | with_reducible rfl))
        | (split <;> rename_i hh <;> (try simp only [ble_true, ble_false, beq_true, beq_false, sI_eq, sB_eq, sS_eq, sN_eq, ltI_eq, leI_eq, eqI_eq, decide_eq_true_eq, decide_eq_false_iff_not, beq_iff_eq, bne_iff_ne, ne_eq, beq_eq_false_iff_ne, bne_eq_false_iff_eq, Bool.not_eq_true, Bool.not_eq_false, Int.not_lt, Int.not_le, gt_iff_lt, ge_iff_le, Nat.not_lt, Nat.not_le, Decidable.not_not, Bool.not_eq_eq_eq_not, Bool.not_true, Bool.not_false, cond_true, cond_false, Bool.or_eq_true, Bool.and_eq_true, Bool.or_eq_false_iff, Bool.and_eq_false_iff] at hh) <;> (try simp (disch := omega) only [Int.tdiv_eq_ediv_of_nonneg, Int.tmod_eq_emod_of_nonneg] at hh))
        | with_reducible refine And.intro (?_ : leA _ _ _) ?_
        | fail) <;> (conv => whnf)))
      all_goals (try (show _ = _; simp only [sI_eq, sB_eq, sS_eq, sN_eq]))
      all_goals first | (rw [e]; done) | (simp_all; done) | skip
  · have e : makeN c s = (0, 2) := by unfold makeN; rw [if_neg (fun h => h1 h.1)]
    (conv => whnf)
    (repeat' ((first
      | with_reducible exact True.intro
      | ((with_reducible refine And.intro ?_ ?_); focus (first | with_reducible exact True.intro | with_reducible rfl))
      | (split <;> rename_i hh <;> (try simp only [ble_true, ble_false, beq_true, beq_false, sI_eq, sB_eq, sS_eq, sN_eq, ltI_eq, leI_eq, eqI_eq, decide_eq_true_eq, decide_eq_false_iff_not, beq_iff_eq, bne_iff_ne, ne_eq, beq_eq_false_iff_ne, bne_eq_false_iff_eq, Bool.not_eq_true, Bool.not_eq_false, Int.not_lt, Int.not_le, gt_iff_lt, ge_iff_le, Nat.not_lt, Nat.not_le, Decidable.not_not, Bool.not_eq_eq_eq_not, Bool.not_true, Bool.not_false, cond_true, cond_false, Bool.or_eq_true, Bool.and_eq_true, Bool.or_eq_false_iff, Bool.and_eq_false_iff] at hh) <;> (try simp (disch := omega) only [Int.tdiv_eq_ediv_of_nonneg, Int.tmod_eq_emod_of_nonneg] at hh))
      | with_reducible refine And.intro (?_ : leA _ _ _) ?_
      | fail) <;> (conv => whnf)))
    all_goals (try (show _ = _; simp only [sI_eq, sB_eq, sS_eq, sN_eq]))
    all_goals first | (rw [e]; done) | (simp_all; done) | skip
def pcMayStock : PC := PC.fun fun | [.agg [.int .i64 c, .int .i64 f, .int .i64 n]] => some (True, .bool (sB (mayCar c && maySer f && decide (1 ≤ n) && decide (n - 1 ≤ 999999999 - f)))) | _ => none
end
end Go.Vc.Z

/- Statuses: the program's and the document's. -/
namespace Go.Vc.Z
open Go Go.Vc Go.Proofs Go.RowKit Go.Pl Go.Lib
noncomputable section
set_option maxRecDepth 100000
set_option linter.unusedSimpArgs false
set_option linter.unusedVariables false
attribute [local irreducible] inK Utf8.decode Utf8.encode Lib.itoa Pl.worth Pl.allDig
@[irreducible] def mayS (s : Int) : Bool := decide (1 ≤ s) && decide (s ≤ 9)
theorem mayS_iff {s : Int} : mayS s = true ↔ 1 ≤ s ∧ s ≤ 9 := by unfold mayS; simp
theorem mayS_cases {s : Int} (h : mayS s = true) : s = 1 ∨ s = 2 ∨ s = 3 ∨ s = 4 ∨ s = 5 ∨ s = 6 ∨ s = 7 ∨ s = 8 ∨ s = 9 := by have := mayS_iff.1 h; omega
def pcMayS : PC := PC.fun fun | [.int .i64 s] => some (True, .bool (sB (mayS s))) | _ => none
def D_status_May : PT := tabD []
def C_status_May : FuncId → Option Ctr := tabC D_status_May []
theorem g_status_May {W : World} (hW : Tabs W) : GoodP (Fw W) Tryz.prog 133 pcMayS := by
  have hD : PTOk (Fw W) Tryz.prog D_status_May := tabD_nil
  have hC0 : CtrOk (Fw W) Tryz.prog C_status_May := (tabC_nil hD)
  refine goodP_fun (D := D_status_May) (C := C_status_May) (wr := (fun _ => false)) rfl tyOk hD hC0 Tryz.func133 (fun _ _ => none) ?_
  clear hC0 hD hW
  intro cs p r h hf hp
  split at h
  case h_2 => cases h
  rename_i s
  cases h
  try simp only [factL, factA, inK_def, Go.Vc.lo, Go.Vc.hi, and_true] at hf
  (conv => whnf)
  (repeat' ((first
    | (split <;> rename_i hh <;> (try simp only [ble_true, ble_false, beq_true, beq_false, sI_eq, sB_eq, sS_eq, sN_eq, ltI_eq, leI_eq, eqI_eq, decide_eq_true_eq, decide_eq_false_iff_not, beq_iff_eq, bne_iff_ne, ne_eq, beq_eq_false_iff_ne, bne_eq_false_iff_eq, Bool.not_eq_true, Bool.not_eq_false, Int.not_lt, Int.not_le, gt_iff_lt, ge_iff_le, Nat.not_lt, Nat.not_le, Decidable.not_not, Bool.not_eq_eq_eq_not, Bool.not_true, Bool.not_false, cond_true, cond_false, Bool.or_eq_true, Bool.and_eq_true, Bool.or_eq_false_iff, Bool.and_eq_false_iff] at hh) <;> (try simp (disch := omega) only [Int.tdiv_eq_ediv_of_nonneg, Int.tmod_eq_emod_of_nonneg] at hh))
    | fail) <;> (conv => whnf)))
  all_goals (try (show _ = _; simp only [sI_eq, sB_eq, sS_eq, sN_eq]))
  all_goals (try simp (disch := omega) only [Int.tdiv_eq_ediv_of_nonneg, Int.tmod_eq_emod_of_nonneg]); all_goals (first | (simp_all [sI_eq, sB_eq, sS_eq, ltI_eq, leI_eq, eqI_eq, mayS]; done) | (simp_all [sI_eq, sB_eq, sS_eq, ltI_eq, leI_eq, eqI_eq, mayS]; omega))
def D_couponref12_May : PT := tabD []
def C_couponref12_May : FuncId → Option Ctr := tabC D_couponref12_May []
theorem g_couponref12_May {W : World} (hW : Tabs W) : GoodP (Fw W) Tryz.prog 69 pcMayS := by
  have hD : PTOk (Fw W) Tryz.prog D_couponref12_May := tabD_nil
  have hC0 : CtrOk (Fw W) Tryz.prog C_couponref12_May := (tabC_nil hD)
  refine goodP_fun (D := D_couponref12_May) (C := C_couponref12_May) (wr := (fun _ => false)) rfl tyOk hD hC0 Tryz.func69 (fun _ _ => none) ?_
  clear hC0 hD hW
  intro cs p r h hf hp
  split at h
  case h_2 => cases h
  rename_i s
  cases h
  try simp only [factL, factA, inK_def, Go.Vc.lo, Go.Vc.hi, and_true] at hf
  (conv => whnf)
  (repeat' ((first
    | (split <;> rename_i hh <;> (try simp only [ble_true, ble_false, beq_true, beq_false, sI_eq, sB_eq, sS_eq, sN_eq, ltI_eq, leI_eq, eqI_eq, decide_eq_true_eq, decide_eq_false_iff_not, beq_iff_eq, bne_iff_ne, ne_eq, beq_eq_false_iff_ne, bne_eq_false_iff_eq, Bool.not_eq_true, Bool.not_eq_false, Int.not_lt, Int.not_le, gt_iff_lt, ge_iff_le, Nat.not_lt, Nat.not_le, Decidable.not_not, Bool.not_eq_eq_eq_not, Bool.not_true, Bool.not_false, cond_true, cond_false, Bool.or_eq_true, Bool.and_eq_true, Bool.or_eq_false_iff, Bool.and_eq_false_iff] at hh) <;> (try simp (disch := omega) only [Int.tdiv_eq_ediv_of_nonneg, Int.tmod_eq_emod_of_nonneg] at hh))
    | fail) <;> (conv => whnf)))
  all_goals (try (show _ = _; simp only [sI_eq, sB_eq, sS_eq, sN_eq]))
  all_goals (try simp (disch := omega) only [Int.tdiv_eq_ediv_of_nonneg, Int.tmod_eq_emod_of_nonneg]); all_goals (first | (simp_all [sI_eq, sB_eq, sS_eq, ltI_eq, leI_eq, eqI_eq, mayS]; done) | (simp_all [sI_eq, sB_eq, sS_eq, ltI_eq, leI_eq, eqI_eq, mayS]; omega))
@[irreducible] def bitsN (s : Int) : Int := if s = 1 then 996 else if s = 2 then 10 else if s = 3 then 20 else if s = 8 then 66 else if s = 9 then 18 else 0
def pcBits : PC := PC.fun fun | [.int .i64 s] => some (True, .int .i64 (sI (bitsN s))) | _ => none
def D_status_bits : PT := tabD []
def C_status_bits : FuncId → Option Ctr := tabC D_status_bits []
theorem g_status_bits {W : World} (hW : Tabs W) : GoodP (Fw W) Tryz.prog 265 pcBits := by
  have hD : PTOk (Fw W) Tryz.prog D_status_bits := tabD_nil
  have hC0 : CtrOk (Fw W) Tryz.prog C_status_bits := (tabC_nil hD)
  refine goodP_fun (D := D_status_bits) (C := C_status_bits) (wr := (fun _ => false)) rfl tyOk hD hC0 Tryz.func265 (fun _ _ => none) ?_
  clear hC0 hD hW
  intro cs p r h hf hp
  split at h
  case h_2 => cases h
  rename_i s
  cases h
  try simp only [factL, factA, inK_def, Go.Vc.lo, Go.Vc.hi, and_true] at hf
  (conv => whnf)
  (repeat' ((first
    | ((with_reducible refine And.intro ?_ ?_); focus (with_reducible rfl))
    | (split <;> rename_i hh <;> (try simp only [ble_true, ble_false, beq_true, beq_false, sI_eq, sB_eq, sS_eq, sN_eq, ltI_eq, leI_eq, eqI_eq, decide_eq_true_eq, decide_eq_false_iff_not, beq_iff_eq, bne_iff_ne, ne_eq, beq_eq_false_iff_ne, bne_eq_false_iff_eq, Bool.not_eq_true, Bool.not_eq_false, Int.not_lt, Int.not_le, gt_iff_lt, ge_iff_le, Nat.not_lt, Nat.not_le, Decidable.not_not, Bool.not_eq_eq_eq_not, Bool.not_true, Bool.not_false, cond_true, cond_false, Bool.or_eq_true, Bool.and_eq_true, Bool.or_eq_false_iff, Bool.and_eq_false_iff] at hh) <;> (try simp (disch := omega) only [Int.tdiv_eq_ediv_of_nonneg, Int.tmod_eq_emod_of_nonneg] at hh))
    | fail) <;> (conv => whnf)))
  all_goals (try (show _ = _; simp only [sI_eq, sB_eq, sS_eq, sN_eq]))
  all_goals (try simp (disch := omega) only [Int.tdiv_eq_ediv_of_nonneg, Int.tmod_eq_emod_of_nonneg]); all_goals (first | (simp_all [sI_eq, sB_eq, sS_eq, ltI_eq, leI_eq, eqI_eq, bitsN]; done))
def stL : List UInt8 := [79, 67, 76, 70, 69, 82, 86, 83, 65]
@[irreducible] def letterS (s : Int) : List UInt8 := if mayS s = true then (stL.drop (s - 1).toNat).take 1 else []
def pcLetter : PC := PC.fun fun | [.int .i64 s] => some (True, .str (sS (letterS s))) | _ => none
def D_status_Letter : PT := tabD [(133, pcMayS)]
def C_status_Letter : FuncId → Option Ctr := tabC D_status_Letter []
theorem g_status_Letter {W : World} (hW : Tabs W) : GoodP (Fw W) Tryz.prog 61 pcLetter := by
  have hD : PTOk (Fw W) Tryz.prog D_status_Letter := (tabD_cons Tryz.call133 (g_status_May hW) tabD_nil)
  have hC0 : CtrOk (Fw W) Tryz.prog C_status_Letter := (tabC_nil hD)
  refine goodP_fun (D := D_status_Letter) (C := C_status_Letter) (wr := (fun _ => false)) rfl tyOk hD hC0 Tryz.func61 (fun _ _ => none) ?_
  clear hC0 hD hW
  intro cs p r h hf hp
  split at h
  case h_2 => cases h
  rename_i s
  cases h
  try simp only [factL, factA, inK_def, Go.Vc.lo, Go.Vc.hi, and_true] at hf
  have hi := mayS_iff (s := s)
  (conv => whnf)
  (repeat' ((first
    | ((with_reducible refine And.intro ?_ ?_); focus (with_reducible exact True.intro))
    | (split <;> rename_i hh <;> (try simp only [ble_true, ble_false, beq_true, beq_false, sI_eq, sB_eq, sS_eq, sN_eq, ltI_eq, leI_eq, eqI_eq, decide_eq_true_eq, decide_eq_false_iff_not, beq_iff_eq, bne_iff_ne, ne_eq, beq_eq_false_iff_ne, bne_eq_false_iff_eq, Bool.not_eq_true, Bool.not_eq_false, Int.not_lt, Int.not_le, gt_iff_lt, ge_iff_le, Nat.not_lt, Nat.not_le, Decidable.not_not, Bool.not_eq_eq_eq_not, Bool.not_true, Bool.not_false, cond_true, cond_false, Bool.or_eq_true, Bool.and_eq_true, Bool.or_eq_false_iff, Bool.and_eq_false_iff] at hh) <;> (try simp (disch := omega) only [Int.tdiv_eq_ediv_of_nonneg, Int.tmod_eq_emod_of_nonneg] at hh))
    | fail) <;> (conv => whnf)))
  all_goals (try (show _ = _; simp only [sI_eq, sB_eq, sS_eq, sN_eq]))
  · unfold letterS; rw [if_neg (by simp_all)]
  · have := hi.1 (by assumption)
    (conv => whnf)
    (repeat' ((first
      | ((with_reducible refine And.intro ?_ ?_); focus (first | omega | (simp only [inK_def, Go.Vc.lo, Go.Vc.hi]; omega) | (simp only [List.length_append, bytesOf_length, List.toList_toArray, List.length_cons, List.length_nil, List.length_take, List.length_drop, sS_eq]; omega)))
      | fail) <;> (conv => whnf)))
    all_goals (try (show _ = _; simp only [sI_eq, sB_eq, sS_eq, sN_eq]))
    unfold letterS
    rw [if_pos (by assumption)]
    show (stL.drop (s - 1).toNat).take (s.toNat - (s - 1).toNat) = _
    congr 1; omega
def rowsL : List (List UInt8) := [[79, 67, 69, 82, 86, 83, 65], [67, 79, 76], [76, 67, 70], [70], [69], [82], [86], [83, 79, 82], [65, 79, 70]]
def pcRows : PC := PC.fun fun | [] => some (True, .sl false 1 9 (fun e => [.str (rowsL.getD e [])])) | _ => none
def D_couponref12_Rows : PT := tabD []
def C_couponref12_Rows : FuncId → Option Ctr := tabC D_couponref12_Rows []
theorem g_couponref12_Rows {W : World} (hW : Tabs W) : GoodP (Fw W) Tryz.prog 169 pcRows := by
  have hD : PTOk (Fw W) Tryz.prog D_couponref12_Rows := tabD_nil
  have hC0 : CtrOk (Fw W) Tryz.prog C_couponref12_Rows := (tabC_nil hD)
  refine goodP_fun (D := D_couponref12_Rows) (C := C_couponref12_Rows) (wr := (fun _ => false)) rfl tyOk hD hC0 Tryz.func169 (fun _ _ => none) ?_
  clear hC0 hD hW
  intro cs p r h hf hp
  split at h
  case h_2 => cases h
  skip
  cases h
  try simp only [factL, factA, inK_def, Go.Vc.lo, Go.Vc.hi, and_true] at hf
  (conv => whnf)
  (repeat' ((first
    | ((with_reducible refine And.intro ?_ ?_); focus (first | with_reducible rfl | decide))
    | fail) <;> (conv => whnf)))
  all_goals (try (show _ = _; simp only [sI_eq, sB_eq, sS_eq, sN_eq]))
  intro e he
  match e, he with
  | 0, _ => first | rfl | exact ⟨rfl, rfl⟩
  | 1, _ => first | rfl | exact ⟨rfl, rfl⟩
  | 2, _ => first | rfl | exact ⟨rfl, rfl⟩
  | 3, _ => first | rfl | exact ⟨rfl, rfl⟩
  | 4, _ => first | rfl | exact ⟨rfl, rfl⟩
  | 5, _ => first | rfl | exact ⟨rfl, rfl⟩
  | 6, _ => first | rfl | exact ⟨rfl, rfl⟩
  | 7, _ => first | rfl | exact ⟨rfl, rfl⟩
  | 8, _ => first | rfl | exact ⟨rfl, rfl⟩
  | e + 9, he => exact absurd he (by omega)
theorem letter_rows {s : Int} (h : mayS s = true) : (rowsL.getD (s - 1).toNat []).take 1 = letterS s ∧ 1 ≤ (rowsL.getD (s - 1).toNat []).length := by
  unfold letterS; rw [if_pos h]
  rcases mayS_cases h with rfl | rfl | rfl | rfl | rfl | rfl | rfl | rfl | rfl <;> exact ⟨rfl, by decide⟩
def D_couponref12_Letter : PT := tabD [(69, pcMayS), (169, pcRows)]
def C_couponref12_Letter : FuncId → Option Ctr := tabC D_couponref12_Letter []
theorem g_couponref12_Letter {W : World} (hW : Tabs W) : GoodP (Fw W) Tryz.prog 82 pcLetter := by
  have hD : PTOk (Fw W) Tryz.prog D_couponref12_Letter := (tabD_cons Tryz.call69 (g_couponref12_May hW) (tabD_cons Tryz.call169 (g_couponref12_Rows hW) tabD_nil))
  have hC0 : CtrOk (Fw W) Tryz.prog C_couponref12_Letter := (tabC_nil hD)
  refine goodP_fun (D := D_couponref12_Letter) (C := C_couponref12_Letter) (wr := (fun _ => false)) rfl tyOk hD hC0 Tryz.func82 (fun _ _ => none) ?_
  clear hC0 hD hW
  intro cs p r h hf hp
  split at h
  case h_2 => cases h
  rename_i s
  cases h
  try simp only [factL, factA, inK_def, Go.Vc.lo, Go.Vc.hi, and_true] at hf
  have hi := mayS_iff (s := s)
  have hr := letter_rows (s := s)
  (conv => whnf)
  (repeat' ((first
    | ((with_reducible refine And.intro ?_ ?_); focus (with_reducible exact True.intro))
    | (split <;> rename_i hh <;> (try simp only [ble_true, ble_false, beq_true, beq_false, sI_eq, sB_eq, sS_eq, sN_eq, ltI_eq, leI_eq, eqI_eq, decide_eq_true_eq, decide_eq_false_iff_not, beq_iff_eq, bne_iff_ne, ne_eq, beq_eq_false_iff_ne, bne_eq_false_iff_eq, Bool.not_eq_true, Bool.not_eq_false, Int.not_lt, Int.not_le, gt_iff_lt, ge_iff_le, Nat.not_lt, Nat.not_le, Decidable.not_not, Bool.not_eq_eq_eq_not, Bool.not_true, Bool.not_false, cond_true, cond_false, Bool.or_eq_true, Bool.and_eq_true, Bool.or_eq_false_iff, Bool.and_eq_false_iff] at hh) <;> (try simp (disch := omega) only [Int.tdiv_eq_ediv_of_nonneg, Int.tmod_eq_emod_of_nonneg] at hh))
    | fail) <;> (conv => whnf)))
  all_goals (try (show _ = _; simp only [sI_eq, sB_eq, sS_eq, sN_eq]))
  · unfold letterS; rw [if_neg (by simp_all)]
  · have h1 := hi.1 (by assumption)
    have h2 := hr (by assumption)
    have h3 : Int.toNat 1 ≤ (rowsL.getD (s - 1).toNat []).length := h2.2
    (conv => whnf)
    (repeat' ((first
      | ((with_reducible refine And.intro ?_ ?_); focus (first | omega | (simp only [inK_def, Go.Vc.lo, Go.Vc.hi]; omega)))
      | fail) <;> (conv => whnf)))
    all_goals (try (show _ = _; simp only [sI_eq, sB_eq, sS_eq, sN_eq]))
    exact h2.1
def leadsL (f : Int) : List Int := if f = 1 then [2, 5, 6, 7, 8, 9] else if f = 2 then [1, 3] else if f = 3 then [2, 4] else if f = 8 then [1, 6] else if f = 9 then [1, 4] else []
@[irreducible] def leadsN (f t : Int) : Bool := (leadsL f).contains t
def pcLeads : PC := PC.fun fun | [.int .i64 f, .int .i64 t] => some (True, .bool (sB (leadsN f t))) | _ => none
theorem leads_may {f t : Int} (h : leadsN f t = true) : mayS f = true ∧ mayS t = true := by
  unfold leadsN leadsL at h
  rw [mayS_iff, mayS_iff]
  repeat' split at h
  all_goals simp at h
  all_goals omega
theorem leads_bits (f t : Int) (h : mayS t = true) : eqI (bitsA .and .i64 ((sI (bitsN f)).fdiv (2 ^ (min t.toNat 64))) 1) 1 = leadsN f t := by
  rw [sI_eq]
  unfold bitsN leadsN leadsL
  by_cases h1 : f = 1
  · subst h1; rcases mayS_cases h with rfl | rfl | rfl | rfl | rfl | rfl | rfl | rfl | rfl <;> decide
  by_cases h2 : f = 2
  · subst h2; rcases mayS_cases h with rfl | rfl | rfl | rfl | rfl | rfl | rfl | rfl | rfl <;> decide
  by_cases h3 : f = 3
  · subst h3; rcases mayS_cases h with rfl | rfl | rfl | rfl | rfl | rfl | rfl | rfl | rfl <;> decide
  by_cases h8 : f = 8
  · subst h8; rcases mayS_cases h with rfl | rfl | rfl | rfl | rfl | rfl | rfl | rfl | rfl <;> decide
  by_cases h9 : f = 9
  · subst h9; rcases mayS_cases h with rfl | rfl | rfl | rfl | rfl | rfl | rfl | rfl | rfl <;> decide
  · simp only [h1, h2, h3, h8, h9, if_false]
    rcases mayS_cases h with rfl | rfl | rfl | rfl | rfl | rfl | rfl | rfl | rfl <;> decide
def D_status_Leads : PT := tabD [(133, pcMayS), (265, pcBits)]
def C_status_Leads : FuncId → Option Ctr := tabC D_status_Leads []
theorem g_status_Leads {W : World} (hW : Tabs W) : GoodP (Fw W) Tryz.prog 202 pcLeads := by
  have hD : PTOk (Fw W) Tryz.prog D_status_Leads := (tabD_cons Tryz.call133 (g_status_May hW) (tabD_cons Tryz.call265 (g_status_bits hW) tabD_nil))
  have hC0 : CtrOk (Fw W) Tryz.prog C_status_Leads := (tabC_nil hD)
  refine goodP_fun (D := D_status_Leads) (C := C_status_Leads) (wr := (fun _ => false)) rfl tyOk hD hC0 Tryz.func202 (fun _ _ => none) ?_
  clear hC0 hD hW
  intro cs p r h hf hp
  split at h
  case h_2 => cases h
  rename_i f t
  cases h
  try simp only [factL, factA, inK_def, Go.Vc.lo, Go.Vc.hi, and_true] at hf
  have hi : mayS t = true → 0 ≤ t := fun h => by have := mayS_iff.1 h; omega
  have hb := leads_bits f t
  have hl := leads_may (f := f) (t := t)
  by_cases hm : mayS t = true
  · have h0 := hi hm
    (conv => whnf)
    (repeat' ((first
      | ((with_reducible refine And.intro ?_ ?_); focus (first | with_reducible exact True.intro | with_reducible assumption))
      | (split <;> rename_i hh <;> (try simp only [ble_true, ble_false, beq_true, beq_false, sI_eq, sB_eq, sS_eq, sN_eq, ltI_eq, leI_eq, eqI_eq, decide_eq_true_eq, decide_eq_false_iff_not, beq_iff_eq, bne_iff_ne, ne_eq, beq_eq_false_iff_ne, bne_eq_false_iff_eq, Bool.not_eq_true, Bool.not_eq_false, Int.not_lt, Int.not_le, gt_iff_lt, ge_iff_le, Nat.not_lt, Nat.not_le, Decidable.not_not, Bool.not_eq_eq_eq_not, Bool.not_true, Bool.not_false, cond_true, cond_false, Bool.or_eq_true, Bool.and_eq_true, Bool.or_eq_false_iff, Bool.and_eq_false_iff] at hh) <;> (try simp (disch := omega) only [Int.tdiv_eq_ediv_of_nonneg, Int.tmod_eq_emod_of_nonneg] at hh))
      | fail) <;> (conv => whnf)))
    all_goals (try (show _ = _; simp only [sI_eq, sB_eq, sS_eq, sN_eq]))
    · have := hb hm; rw [sI_eq] at this; exact this
    · simp_all
  · (conv => whnf)
    (repeat' ((first
      | ((with_reducible refine And.intro ?_ ?_); focus (with_reducible exact True.intro))
      | (split <;> rename_i hh <;> (try simp only [ble_true, ble_false, beq_true, beq_false, sI_eq, sB_eq, sS_eq, sN_eq, ltI_eq, leI_eq, eqI_eq, decide_eq_true_eq, decide_eq_false_iff_not, beq_iff_eq, bne_iff_ne, ne_eq, beq_eq_false_iff_ne, bne_eq_false_iff_eq, Bool.not_eq_true, Bool.not_eq_false, Int.not_lt, Int.not_le, gt_iff_lt, ge_iff_le, Nat.not_lt, Nat.not_le, Decidable.not_not, Bool.not_eq_eq_eq_not, Bool.not_true, Bool.not_false, cond_true, cond_false, Bool.or_eq_true, Bool.and_eq_true, Bool.or_eq_false_iff, Bool.and_eq_false_iff] at hh) <;> (try simp (disch := omega) only [Int.tdiv_eq_ediv_of_nonneg, Int.tmod_eq_emod_of_nonneg] at hh))
      | fail) <;> (conv => whnf)))
    all_goals (try (show _ = _; simp only [sI_eq, sB_eq, sS_eq, sN_eq]))
    all_goals (cases hc : leadsN f t with
      | false => first | rfl | simp_all
      | true => exact absurd (hl hc).2 hm)
theorem letter_one {s : Int} (h : mayS s = true) : ∃ c, letterS s = [c] ∧ stL[(s - 1).toNat]? = some c := by
  unfold letterS; rw [if_pos h]
  rcases mayS_cases h with rfl | rfl | rfl | rfl | rfl | rfl | rfl | rfl | rfl <;> exact ⟨_, rfl, rfl⟩
def LRLeads (f t : Int) (k : Nat) : LoopSpec := {
  α := Nat
  keep := [1, 5, 6]
  vals i := [.int .i64 t, .str (rowsL.getD (f - 1).toNat []), .int .i64 i]
  heap _ := []
  ok i := 1 ≤ i ∧ ((rowsL.getD (f - 1).toNat []).drop i).contains ((letterS t).getD 0 0) = leadsN f t
  μ i := 10 - i }
theorem leads_rows {f t : Int} (hf : mayS f = true) (ht : mayS t = true) : ((rowsL.getD (f - 1).toNat []).drop 1).contains ((letterS t).getD 0 0) = leadsN f t := by
  unfold letterS leadsN; rw [if_pos ht]
  rcases mayS_cases hf with rfl | rfl | rfl | rfl | rfl | rfl | rfl | rfl | rfl <;> rcases mayS_cases ht with rfl | rfl | rfl | rfl | rfl | rfl | rfl | rfl | rfl <;> decide
def D_couponref12_Leads : PT := tabD [(69, pcMayS), (169, pcRows), (82, pcLetter)]
def C_couponref12_Leads : FuncId → Option Ctr := tabC D_couponref12_Leads []
def L_couponref12_Leads : List AV → Nat → Option LR := fun cs i => match cs with | [.int _ f, .int _ t] => cond (Nat.beq i 5) (some (.inv (LRLeads f t 0))) (none) | _ => none
theorem g_couponref12_Leads {W : World} (hW : Tabs W) : GoodP (Fw W) Tryz.prog 137 pcLeads := by
  have hD : PTOk (Fw W) Tryz.prog D_couponref12_Leads := (tabD_cons Tryz.call69 (g_couponref12_May hW) (tabD_cons Tryz.call169 (g_couponref12_Rows hW) (tabD_cons Tryz.call82 (g_couponref12_Letter hW) tabD_nil)))
  have hC0 : CtrOk (Fw W) Tryz.prog C_couponref12_Leads := (tabC_nil hD)
  refine goodP_fun (D := D_couponref12_Leads) (C := C_couponref12_Leads) (wr := (fun _ => false)) rfl tyOk hD hC0 Tryz.func137 (L_couponref12_Leads) ?_
  clear hC0 hD hW
  intro cs p r h hf hp
  split at h
  case h_2 => cases h
  rename_i f t
  cases h
  try simp only [factL, factA, inK_def, Go.Vc.lo, Go.Vc.hi, and_true] at hf
  have hif := mayS_iff (s := f)
  have hit := mayS_iff (s := t)
  have hm := leads_may (f := f) (t := t)
  have hn : ¬ (mayS f = true ∧ mayS t = true) → leadsN f t = false := fun h => by
    cases hc : leadsN f t with
    | false => rfl
    | true => exact absurd (hm hc) h
  by_cases h1 : mayS f = true
  · by_cases h2 : mayS t = true
    · have h3 := hif.1 h1
      have hr := (letter_rows h1).2
      have hlen : (rowsL.getD (f - 1).toNat []).length ≤ 7 := by
        rcases mayS_cases h1 with rfl | rfl | rfl | rfl | rfl | rfl | rfl | rfl | rfl <;> decide
      obtain ⟨c, hc, _⟩ := letter_one h2
      obtain ⟨row, hrow⟩ : ∃ row, row = rowsL.getD (f - 1).toNat [] := ⟨_, rfl⟩
      (conv => whnf)
      (repeat' ((first
        | ((with_reducible refine And.intro ?_ ?_); focus (first | with_reducible exact True.intro | omega | (simp only [inK_def, Go.Vc.lo, Go.Vc.hi]; omega)))
        | (split <;> rename_i hh <;> (try simp only [ble_true, ble_false, beq_true, beq_false, sI_eq, sB_eq, sS_eq, sN_eq, ltI_eq, leI_eq, eqI_eq, decide_eq_true_eq, decide_eq_false_iff_not, beq_iff_eq, bne_iff_ne, ne_eq, beq_eq_false_iff_ne, bne_eq_false_iff_eq, Bool.not_eq_true, Bool.not_eq_false, Int.not_lt, Int.not_le, gt_iff_lt, ge_iff_le, Nat.not_lt, Nat.not_le, Decidable.not_not, Bool.not_eq_eq_eq_not, Bool.not_true, Bool.not_false, cond_true, cond_false, Bool.or_eq_true, Bool.and_eq_true, Bool.or_eq_false_iff, Bool.and_eq_false_iff] at hh) <;> (try simp (disch := omega) only [Int.tdiv_eq_ediv_of_nonneg, Int.tmod_eq_emod_of_nonneg] at hh))
        | fail) <;> (conv => whnf)))
      all_goals (try (show _ = _; simp only [sI_eq, sB_eq, sS_eq, sN_eq]))
      · simp_all
      · simp_all
      · refine ⟨?_, fun (i : Nat) (hi : 1 ≤ i ∧ ((rowsL.getD (f - 1).toNat []).drop i).contains ((letterS t).getD 0 0) = leadsN f t) => ?_⟩
        · (conv => whnf)
          refine ⟨(1 : Nat), [], ?_, ⟨⟨rfl, Nat.le_of_ble_eq_true rfl, rfl⟩, ?_, ?_⟩⟩
          · exact ⟨Nat.le_refl _, leads_rows h1 h2⟩
          · (conv => whnf)
            (repeat' ((first | with_reducible exact True.intro | ((with_reducible refine And.intro ?_ ?_); focus (first | with_reducible rfl | omega | exact Nat.le_of_ble_eq_true rfl | rfl)) | with_reducible refine And.intro (?_ : leA _ _ _) ?_ | fail) <;> (conv => whnf)))
            all_goals (try simp only [sI_eq, sB_eq, sS_eq, sN_eq])
            all_goals (try first | omega)
          · (conv => whnf)
            (repeat' ((first | with_reducible exact True.intro | fail) <;> (conv => whnf)))
            all_goals (try simp only [sI_eq, sB_eq, sS_eq, sN_eq])
        · obtain ⟨hi1, hi2⟩ := hi
          rw [← hrow, hc] at hi2
          have e1 : i < row.length → (row.drop i) = row.getD i 0 :: row.drop (i + 1) := fun h => by
            rw [List.drop_eq_getElem_cons h, List.getD_eq_getElem?_getD, List.getElem?_eq_getElem h]; rfl
          have e2 : i < row.length → (row.drop (Int.toNat (i : Int))).take (Int.toNat ((i : Int) + 1) - Int.toNat (i : Int)) = [row.getD i 0] := fun h => by
            rw [show Int.toNat (i : Int) = i from rfl, e1 h, show Int.toNat ((i : Int) + 1) - i = 1 by omega]; rfl
          (conv => whnf)
          (repeat' ((first
            | ((with_reducible refine And.intro ?_ ?_); focus (first | with_reducible exact True.intro | ((with_reducible show okB _ _ _ = true); rfl) | omega | (simp only [inK_def, Go.Vc.lo, Go.Vc.hi]; omega)))
            | (split <;> rename_i hh <;> (try simp only [ble_true, ble_false, beq_true, beq_false, sI_eq, sB_eq, sS_eq, sN_eq, ltI_eq, leI_eq, eqI_eq, decide_eq_true_eq, decide_eq_false_iff_not, beq_iff_eq, bne_iff_ne, ne_eq, beq_eq_false_iff_ne, bne_eq_false_iff_eq, Bool.not_eq_true, Bool.not_eq_false, Int.not_lt, Int.not_le, gt_iff_lt, ge_iff_le, Nat.not_lt, Nat.not_le, Decidable.not_not, Bool.not_eq_eq_eq_not, Bool.not_true, Bool.not_false, cond_true, cond_false, Bool.or_eq_true, Bool.and_eq_true, Bool.or_eq_false_iff, Bool.and_eq_false_iff] at hh) <;> (try simp (disch := omega) only [Int.tdiv_eq_ediv_of_nonneg, Int.tmod_eq_emod_of_nonneg] at hh))
            | with_reducible refine (fun (hln : (_ : Int) ≤ 9223372036854775807) => ?_)
            | fail) <;> (conv => whnf)))
          all_goals (try (show _ = _; simp only [sI_eq, sB_eq, sS_eq, sN_eq]))
          · rename_i hlt hh
            rw [← hrow] at hlt hh
            rw [e2 (by omega), hc] at hh
            rw [e1 (by omega), List.contains_cons] at hi2
            rw [← hi2]
            cases hh; simp
          · rename_i hlt hh
            rw [← hrow] at hlt hh
            rw [e2 (by omega), hc] at hh
            rw [e1 (by omega), List.contains_cons] at hi2
            rw [← hrow] at hlen
            (conv => whnf)
            refine ⟨(i + 1 : Nat), [], ?_, ⟨⟨rfl, Nat.le_of_ble_eq_true rfl, rfl⟩, ?_, ?_⟩⟩
            · refine ⟨⟨show 1 ≤ i + 1 by omega, ?_⟩, show 10 - (i + 1) < 10 - i by omega⟩
              rw [← hi2, hc, ← hrow]
              have : ((c : UInt8) == row.getD i 0) = false := by
                rw [beq_eq_false_iff_ne]; rintro rfl; exact hh rfl
              show _ = (_ || _)
              rw [show ([c] : List UInt8).getD 0 0 = c from rfl, this, Bool.false_or]
            · (conv => whnf)
              (repeat' ((first | with_reducible exact True.intro | ((with_reducible refine And.intro ?_ ?_); focus (first | with_reducible rfl | omega | exact Nat.le_of_ble_eq_true rfl | rfl)) | with_reducible refine And.intro (?_ : leA _ _ _) ?_ | fail) <;> (conv => whnf)))
              all_goals (try simp only [sI_eq, sB_eq, sS_eq, sN_eq])
              all_goals (try first | omega)
            · (conv => whnf)
              (repeat' ((first | with_reducible exact True.intro | fail) <;> (conv => whnf)))
              all_goals (try simp only [sI_eq, sB_eq, sS_eq, sN_eq])
          · have hlt : row.length ≤ i := by rw [hrow]; omega
            rw [← hi2, List.drop_eq_nil_of_le (by omega)]
            rfl
    · have hn := hn (fun h => h2 h.2)
      (conv => whnf)
      (repeat' ((first
        | ((with_reducible refine And.intro ?_ ?_); focus (with_reducible exact True.intro))
        | (split <;> rename_i hh <;> (try simp only [ble_true, ble_false, beq_true, beq_false, sI_eq, sB_eq, sS_eq, sN_eq, ltI_eq, leI_eq, eqI_eq, decide_eq_true_eq, decide_eq_false_iff_not, beq_iff_eq, bne_iff_ne, ne_eq, beq_eq_false_iff_ne, bne_eq_false_iff_eq, Bool.not_eq_true, Bool.not_eq_false, Int.not_lt, Int.not_le, gt_iff_lt, ge_iff_le, Nat.not_lt, Nat.not_le, Decidable.not_not, Bool.not_eq_eq_eq_not, Bool.not_true, Bool.not_false, cond_true, cond_false, Bool.or_eq_true, Bool.and_eq_true, Bool.or_eq_false_iff, Bool.and_eq_false_iff] at hh) <;> (try simp (disch := omega) only [Int.tdiv_eq_ediv_of_nonneg, Int.tmod_eq_emod_of_nonneg] at hh))
        | fail) <;> (conv => whnf)))
      all_goals (try (show _ = _; simp only [sI_eq, sB_eq, sS_eq, sN_eq]))
      all_goals simp_all
  · have hn := hn (fun h => h1 h.1)
    (conv => whnf)
    (repeat' ((first
      | ((with_reducible refine And.intro ?_ ?_); focus (with_reducible exact True.intro))
      | (split <;> rename_i hh <;> (try simp only [ble_true, ble_false, beq_true, beq_false, sI_eq, sB_eq, sS_eq, sN_eq, ltI_eq, leI_eq, eqI_eq, decide_eq_true_eq, decide_eq_false_iff_not, beq_iff_eq, bne_iff_ne, ne_eq, beq_eq_false_iff_ne, bne_eq_false_iff_eq, Bool.not_eq_true, Bool.not_eq_false, Int.not_lt, Int.not_le, gt_iff_lt, ge_iff_le, Nat.not_lt, Nat.not_le, Decidable.not_not, Bool.not_eq_eq_eq_not, Bool.not_true, Bool.not_false, cond_true, cond_false, Bool.or_eq_true, Bool.and_eq_true, Bool.or_eq_false_iff, Bool.and_eq_false_iff] at hh) <;> (try simp (disch := omega) only [Int.tdiv_eq_ediv_of_nonneg, Int.tmod_eq_emod_of_nonneg] at hh))
      | fail) <;> (conv => whnf)))
    all_goals (try (show _ = _; simp only [sI_eq, sB_eq, sS_eq, sN_eq]))
    all_goals simp_all
end
end Go.Vc.Z

/- Parts of tickets. -/
namespace Go.Vc.Z
open Go Go.Vc Go.Proofs Go.RowKit Go.Pl Go.Lib
noncomputable section
set_option maxRecDepth 100000
set_option linter.unusedSimpArgs false
set_option linter.unusedVariables false
attribute [local irreducible] inK Utf8.decode Utf8.encode Lib.itoa Pl.worth Pl.allDig
@[irreducible] def dayB (n : Int) : Bool := decide (0 ≤ n) && decide (n ≤ 1000000)
@[irreducible] def moneyB (n : Int) : Bool := decide (-1000000000000 ≤ n) && decide (n ≤ 1000000000000)
@[irreducible] def someB (n : Int) : Bool := decide (0 ≤ n) && decide (n ≤ 1000000000000)
@[irreducible] def numdB (n : Int) : Bool := decide (checkN n = 0)
@[irreducible] def otherB (num n : Int) : Bool := numdB n && decide (n ≠ num)
def pcDay : PC := PC.fun fun | [.int .i64 n] => some (True, .bool (sB (dayB n))) | _ => none
def pcMoney : PC := PC.fun fun | [.int .i64 n] => some (True, .bool (sB (moneyB n))) | _ => none
def pcSome : PC := PC.fun fun | [.int .i64 n] => some (True, .bool (sB (someB n))) | _ => none
def pcNumd : PC := PC.fun fun | [.int .u64 n] => some (True, .bool (sB (numdB n))) | _ => none
def pcOther : PC := PC.fun fun | [.agg [.int .u64 num, .str loc, .int .i64 iss, .sl false 6 n1 g1, .sl false 2 n2 g2, .int .u64 prev, .int .u64 orig, .int .u64 frst, .int .i64 vou, .int .i64 posts, .sl false 4 n3 g3], .int .u64 n] => some (True, .bool (sB (otherB num n))) | _ => none
def D_ticket_day : PT := tabD []
def C_ticket_day : FuncId → Option Ctr := tabC D_ticket_day []
theorem g_ticket_day {W : World} (hW : Tabs W) : GoodP (Fw W) Tryz.prog 196 pcDay := by
  have hD : PTOk (Fw W) Tryz.prog D_ticket_day := tabD_nil
  have hC0 : CtrOk (Fw W) Tryz.prog C_ticket_day := (tabC_nil hD)
  refine goodP_fun (D := D_ticket_day) (C := C_ticket_day) (wr := (fun _ => false)) rfl tyOk hD hC0 Tryz.func196 (fun _ _ => none) ?_
  clear hC0 hD hW
  intro cs p r h hf hp
  split at h
  case h_2 => cases h
  rename_i n
  cases h
  try simp only [factL, factA, inK_def, Go.Vc.lo, Go.Vc.hi, and_true] at hf
  (conv => whnf)
  (repeat' ((first
    | (split <;> rename_i hh <;> (try simp only [ble_true, ble_false, beq_true, beq_false, sI_eq, sB_eq, sS_eq, sN_eq, ltI_eq, leI_eq, eqI_eq, decide_eq_true_eq, decide_eq_false_iff_not, beq_iff_eq, bne_iff_ne, ne_eq, beq_eq_false_iff_ne, bne_eq_false_iff_eq, Bool.not_eq_true, Bool.not_eq_false, Int.not_lt, Int.not_le, gt_iff_lt, ge_iff_le, Nat.not_lt, Nat.not_le, Decidable.not_not, Bool.not_eq_eq_eq_not, Bool.not_true, Bool.not_false, cond_true, cond_false, Bool.or_eq_true, Bool.and_eq_true, Bool.or_eq_false_iff, Bool.and_eq_false_iff] at hh) <;> (try simp (disch := omega) only [Int.tdiv_eq_ediv_of_nonneg, Int.tmod_eq_emod_of_nonneg] at hh))
    | fail) <;> (conv => whnf)))
  all_goals (try (show _ = _; simp only [sI_eq, sB_eq, sS_eq, sN_eq]))
  all_goals (try simp (disch := omega) only [Int.tdiv_eq_ediv_of_nonneg, Int.tmod_eq_emod_of_nonneg]); all_goals (first | (simp_all [sI_eq, sB_eq, sS_eq, ltI_eq, leI_eq, eqI_eq, dayB]; done) | (simp_all [sI_eq, sB_eq, sS_eq, ltI_eq, leI_eq, eqI_eq, dayB]; omega))
def D_couponref13_day : PT := tabD []
def C_couponref13_day : FuncId → Option Ctr := tabC D_couponref13_day []
theorem g_couponref13_day {W : World} (hW : Tabs W) : GoodP (Fw W) Tryz.prog 65 pcDay := by
  have hD : PTOk (Fw W) Tryz.prog D_couponref13_day := tabD_nil
  have hC0 : CtrOk (Fw W) Tryz.prog C_couponref13_day := (tabC_nil hD)
  refine goodP_fun (D := D_couponref13_day) (C := C_couponref13_day) (wr := (fun _ => false)) rfl tyOk hD hC0 Tryz.func65 (fun _ _ => none) ?_
  clear hC0 hD hW
  intro cs p r h hf hp
  split at h
  case h_2 => cases h
  rename_i n
  cases h
  try simp only [factL, factA, inK_def, Go.Vc.lo, Go.Vc.hi, and_true] at hf
  (conv => whnf)
  (repeat' ((first
    | (split <;> rename_i hh <;> (try simp only [ble_true, ble_false, beq_true, beq_false, sI_eq, sB_eq, sS_eq, sN_eq, ltI_eq, leI_eq, eqI_eq, decide_eq_true_eq, decide_eq_false_iff_not, beq_iff_eq, bne_iff_ne, ne_eq, beq_eq_false_iff_ne, bne_eq_false_iff_eq, Bool.not_eq_true, Bool.not_eq_false, Int.not_lt, Int.not_le, gt_iff_lt, ge_iff_le, Nat.not_lt, Nat.not_le, Decidable.not_not, Bool.not_eq_eq_eq_not, Bool.not_true, Bool.not_false, cond_true, cond_false, Bool.or_eq_true, Bool.and_eq_true, Bool.or_eq_false_iff, Bool.and_eq_false_iff] at hh) <;> (try simp (disch := omega) only [Int.tdiv_eq_ediv_of_nonneg, Int.tmod_eq_emod_of_nonneg] at hh))
    | fail) <;> (conv => whnf)))
  all_goals (try (show _ = _; simp only [sI_eq, sB_eq, sS_eq, sN_eq]))
  all_goals (try simp (disch := omega) only [Int.tdiv_eq_ediv_of_nonneg, Int.tmod_eq_emod_of_nonneg]); all_goals (first | (simp_all [sI_eq, sB_eq, sS_eq, ltI_eq, leI_eq, eqI_eq, dayB]; done) | (simp_all [sI_eq, sB_eq, sS_eq, ltI_eq, leI_eq, eqI_eq, dayB]; omega))
def D_couponref16_day : PT := tabD []
def C_couponref16_day : FuncId → Option Ctr := tabC D_couponref16_day []
theorem g_couponref16_day {W : World} (hW : Tabs W) : GoodP (Fw W) Tryz.prog 138 pcDay := by
  have hD : PTOk (Fw W) Tryz.prog D_couponref16_day := tabD_nil
  have hC0 : CtrOk (Fw W) Tryz.prog C_couponref16_day := (tabC_nil hD)
  refine goodP_fun (D := D_couponref16_day) (C := C_couponref16_day) (wr := (fun _ => false)) rfl tyOk hD hC0 Tryz.func138 (fun _ _ => none) ?_
  clear hC0 hD hW
  intro cs p r h hf hp
  split at h
  case h_2 => cases h
  rename_i n
  cases h
  try simp only [factL, factA, inK_def, Go.Vc.lo, Go.Vc.hi, and_true] at hf
  (conv => whnf)
  (repeat' ((first
    | (split <;> rename_i hh <;> (try simp only [ble_true, ble_false, beq_true, beq_false, sI_eq, sB_eq, sS_eq, sN_eq, ltI_eq, leI_eq, eqI_eq, decide_eq_true_eq, decide_eq_false_iff_not, beq_iff_eq, bne_iff_ne, ne_eq, beq_eq_false_iff_ne, bne_eq_false_iff_eq, Bool.not_eq_true, Bool.not_eq_false, Int.not_lt, Int.not_le, gt_iff_lt, ge_iff_le, Nat.not_lt, Nat.not_le, Decidable.not_not, Bool.not_eq_eq_eq_not, Bool.not_true, Bool.not_false, cond_true, cond_false, Bool.or_eq_true, Bool.and_eq_true, Bool.or_eq_false_iff, Bool.and_eq_false_iff] at hh) <;> (try simp (disch := omega) only [Int.tdiv_eq_ediv_of_nonneg, Int.tmod_eq_emod_of_nonneg] at hh))
    | fail) <;> (conv => whnf)))
  all_goals (try (show _ = _; simp only [sI_eq, sB_eq, sS_eq, sN_eq]))
  all_goals (try simp (disch := omega) only [Int.tdiv_eq_ediv_of_nonneg, Int.tmod_eq_emod_of_nonneg]); all_goals (first | (simp_all [sI_eq, sB_eq, sS_eq, ltI_eq, leI_eq, eqI_eq, dayB]; done) | (simp_all [sI_eq, sB_eq, sS_eq, ltI_eq, leI_eq, eqI_eq, dayB]; omega))
def D_fare_May : PT := tabD []
def C_fare_May : FuncId → Option Ctr := tabC D_fare_May []
theorem g_fare_May {W : World} (hW : Tabs W) : GoodP (Fw W) Tryz.prog 207 pcMoney := by
  have hD : PTOk (Fw W) Tryz.prog D_fare_May := tabD_nil
  have hC0 : CtrOk (Fw W) Tryz.prog C_fare_May := (tabC_nil hD)
  refine goodP_fun (D := D_fare_May) (C := C_fare_May) (wr := (fun _ => false)) rfl tyOk hD hC0 Tryz.func207 (fun _ _ => none) ?_
  clear hC0 hD hW
  intro cs p r h hf hp
  split at h
  case h_2 => cases h
  rename_i n
  cases h
  try simp only [factL, factA, inK_def, Go.Vc.lo, Go.Vc.hi, and_true] at hf
  (conv => whnf)
  (repeat' ((first
    | (split <;> rename_i hh <;> (try simp only [ble_true, ble_false, beq_true, beq_false, sI_eq, sB_eq, sS_eq, sN_eq, ltI_eq, leI_eq, eqI_eq, decide_eq_true_eq, decide_eq_false_iff_not, beq_iff_eq, bne_iff_ne, ne_eq, beq_eq_false_iff_ne, bne_eq_false_iff_eq, Bool.not_eq_true, Bool.not_eq_false, Int.not_lt, Int.not_le, gt_iff_lt, ge_iff_le, Nat.not_lt, Nat.not_le, Decidable.not_not, Bool.not_eq_eq_eq_not, Bool.not_true, Bool.not_false, cond_true, cond_false, Bool.or_eq_true, Bool.and_eq_true, Bool.or_eq_false_iff, Bool.and_eq_false_iff] at hh) <;> (try simp (disch := omega) only [Int.tdiv_eq_ediv_of_nonneg, Int.tmod_eq_emod_of_nonneg] at hh))
    | fail) <;> (conv => whnf)))
  all_goals (try (show _ = _; simp only [sI_eq, sB_eq, sS_eq, sN_eq]))
  all_goals (try simp (disch := omega) only [Int.tdiv_eq_ediv_of_nonneg, Int.tmod_eq_emod_of_nonneg]); all_goals (first | (simp_all [sI_eq, sB_eq, sS_eq, ltI_eq, leI_eq, eqI_eq, moneyB]; done) | (simp_all [sI_eq, sB_eq, sS_eq, ltI_eq, leI_eq, eqI_eq, moneyB]; omega))
def D_ticket_some : PT := tabD [(207, pcMoney)]
def C_ticket_some : FuncId → Option Ctr := tabC D_ticket_some []
theorem g_ticket_some {W : World} (hW : Tabs W) : GoodP (Fw W) Tryz.prog 197 pcSome := by
  have hD : PTOk (Fw W) Tryz.prog D_ticket_some := (tabD_cons Tryz.call207 (g_fare_May hW) tabD_nil)
  have hC0 : CtrOk (Fw W) Tryz.prog C_ticket_some := (tabC_nil hD)
  refine goodP_fun (D := D_ticket_some) (C := C_ticket_some) (wr := (fun _ => false)) rfl tyOk hD hC0 Tryz.func197 (fun _ _ => none) ?_
  clear hC0 hD hW
  intro cs p r h hf hp
  split at h
  case h_2 => cases h
  rename_i n
  cases h
  try simp only [factL, factA, inK_def, Go.Vc.lo, Go.Vc.hi, and_true] at hf
  (conv => whnf)
  (repeat' ((first
    | ((with_reducible refine And.intro ?_ ?_); focus (with_reducible exact True.intro))
    | (split <;> rename_i hh <;> (try simp only [ble_true, ble_false, beq_true, beq_false, sI_eq, sB_eq, sS_eq, sN_eq, ltI_eq, leI_eq, eqI_eq, decide_eq_true_eq, decide_eq_false_iff_not, beq_iff_eq, bne_iff_ne, ne_eq, beq_eq_false_iff_ne, bne_eq_false_iff_eq, Bool.not_eq_true, Bool.not_eq_false, Int.not_lt, Int.not_le, gt_iff_lt, ge_iff_le, Nat.not_lt, Nat.not_le, Decidable.not_not, Bool.not_eq_eq_eq_not, Bool.not_true, Bool.not_false, cond_true, cond_false, Bool.or_eq_true, Bool.and_eq_true, Bool.or_eq_false_iff, Bool.and_eq_false_iff] at hh) <;> (try simp (disch := omega) only [Int.tdiv_eq_ediv_of_nonneg, Int.tmod_eq_emod_of_nonneg] at hh))
    | fail) <;> (conv => whnf)))
  all_goals (try (show _ = _; simp only [sI_eq, sB_eq, sS_eq, sN_eq]))
  all_goals (try simp (disch := omega) only [Int.tdiv_eq_ediv_of_nonneg, Int.tmod_eq_emod_of_nonneg]); all_goals (first | (simp_all [sI_eq, sB_eq, sS_eq, ltI_eq, leI_eq, eqI_eq, moneyB, someB]; done) | (simp_all [sI_eq, sB_eq, sS_eq, ltI_eq, leI_eq, eqI_eq, moneyB, someB]; omega))
def D_couponref13_some : PT := tabD []
def C_couponref13_some : FuncId → Option Ctr := tabC D_couponref13_some []
theorem g_couponref13_some {W : World} (hW : Tabs W) : GoodP (Fw W) Tryz.prog 67 pcSome := by
  have hD : PTOk (Fw W) Tryz.prog D_couponref13_some := tabD_nil
  have hC0 : CtrOk (Fw W) Tryz.prog C_couponref13_some := (tabC_nil hD)
  refine goodP_fun (D := D_couponref13_some) (C := C_couponref13_some) (wr := (fun _ => false)) rfl tyOk hD hC0 Tryz.func67 (fun _ _ => none) ?_
  clear hC0 hD hW
  intro cs p r h hf hp
  split at h
  case h_2 => cases h
  rename_i n
  cases h
  try simp only [factL, factA, inK_def, Go.Vc.lo, Go.Vc.hi, and_true] at hf
  (conv => whnf)
  (repeat' ((first
    | (split <;> rename_i hh <;> (try simp only [ble_true, ble_false, beq_true, beq_false, sI_eq, sB_eq, sS_eq, sN_eq, ltI_eq, leI_eq, eqI_eq, decide_eq_true_eq, decide_eq_false_iff_not, beq_iff_eq, bne_iff_ne, ne_eq, beq_eq_false_iff_ne, bne_eq_false_iff_eq, Bool.not_eq_true, Bool.not_eq_false, Int.not_lt, Int.not_le, gt_iff_lt, ge_iff_le, Nat.not_lt, Nat.not_le, Decidable.not_not, Bool.not_eq_eq_eq_not, Bool.not_true, Bool.not_false, cond_true, cond_false, Bool.or_eq_true, Bool.and_eq_true, Bool.or_eq_false_iff, Bool.and_eq_false_iff] at hh) <;> (try simp (disch := omega) only [Int.tdiv_eq_ediv_of_nonneg, Int.tmod_eq_emod_of_nonneg] at hh))
    | fail) <;> (conv => whnf)))
  all_goals (try (show _ = _; simp only [sI_eq, sB_eq, sS_eq, sN_eq]))
  all_goals (try simp (disch := omega) only [Int.tdiv_eq_ediv_of_nonneg, Int.tmod_eq_emod_of_nonneg]); all_goals (first | (simp_all [sI_eq, sB_eq, sS_eq, ltI_eq, leI_eq, eqI_eq, someB]; done) | (simp_all [sI_eq, sB_eq, sS_eq, ltI_eq, leI_eq, eqI_eq, someB]; omega))
def D_couponref16_some : PT := tabD []
def C_couponref16_some : FuncId → Option Ctr := tabC D_couponref16_some []
theorem g_couponref16_some {W : World} (hW : Tabs W) : GoodP (Fw W) Tryz.prog 139 pcSome := by
  have hD : PTOk (Fw W) Tryz.prog D_couponref16_some := tabD_nil
  have hC0 : CtrOk (Fw W) Tryz.prog C_couponref16_some := (tabC_nil hD)
  refine goodP_fun (D := D_couponref16_some) (C := C_couponref16_some) (wr := (fun _ => false)) rfl tyOk hD hC0 Tryz.func139 (fun _ _ => none) ?_
  clear hC0 hD hW
  intro cs p r h hf hp
  split at h
  case h_2 => cases h
  rename_i n
  cases h
  try simp only [factL, factA, inK_def, Go.Vc.lo, Go.Vc.hi, and_true] at hf
  (conv => whnf)
  (repeat' ((first
    | (split <;> rename_i hh <;> (try simp only [ble_true, ble_false, beq_true, beq_false, sI_eq, sB_eq, sS_eq, sN_eq, ltI_eq, leI_eq, eqI_eq, decide_eq_true_eq, decide_eq_false_iff_not, beq_iff_eq, bne_iff_ne, ne_eq, beq_eq_false_iff_ne, bne_eq_false_iff_eq, Bool.not_eq_true, Bool.not_eq_false, Int.not_lt, Int.not_le, gt_iff_lt, ge_iff_le, Nat.not_lt, Nat.not_le, Decidable.not_not, Bool.not_eq_eq_eq_not, Bool.not_true, Bool.not_false, cond_true, cond_false, Bool.or_eq_true, Bool.and_eq_true, Bool.or_eq_false_iff, Bool.and_eq_false_iff] at hh) <;> (try simp (disch := omega) only [Int.tdiv_eq_ediv_of_nonneg, Int.tmod_eq_emod_of_nonneg] at hh))
    | fail) <;> (conv => whnf)))
  all_goals (try (show _ = _; simp only [sI_eq, sB_eq, sS_eq, sN_eq]))
  all_goals (try simp (disch := omega) only [Int.tdiv_eq_ediv_of_nonneg, Int.tmod_eq_emod_of_nonneg]); all_goals (first | (simp_all [sI_eq, sB_eq, sS_eq, ltI_eq, leI_eq, eqI_eq, someB]; done) | (simp_all [sI_eq, sB_eq, sS_eq, ltI_eq, leI_eq, eqI_eq, someB]; omega))
def D_ticket_numbered : PT := tabD [(127, pcCheck)]
def C_ticket_numbered : FuncId → Option Ctr := tabC D_ticket_numbered []
theorem g_ticket_numbered {W : World} (hW : Tabs W) : GoodP (Fw W) Tryz.prog 194 pcNumd := by
  have hD : PTOk (Fw W) Tryz.prog D_ticket_numbered := (tabD_cons Tryz.call127 (g_number_Check hW) tabD_nil)
  have hC0 : CtrOk (Fw W) Tryz.prog C_ticket_numbered := (tabC_nil hD)
  refine goodP_fun (D := D_ticket_numbered) (C := C_ticket_numbered) (wr := (fun _ => false)) rfl tyOk hD hC0 Tryz.func194 (fun _ _ => none) ?_
  clear hC0 hD hW
  intro cs p r h hf hp
  split at h
  case h_2 => cases h
  rename_i n
  cases h
  try simp only [factL, factA, inK_def, Go.Vc.lo, Go.Vc.hi, and_true] at hf
  (conv => whnf)
  (repeat' ((first
    | ((with_reducible refine And.intro ?_ ?_); focus (with_reducible exact True.intro))
    | fail) <;> (conv => whnf)))
  all_goals (try (show _ = _; simp only [sI_eq, sB_eq, sS_eq, sN_eq]))
  all_goals (try simp (disch := omega) only [Int.tdiv_eq_ediv_of_nonneg, Int.tmod_eq_emod_of_nonneg]); all_goals (first | (rw [Bool.eq_iff_iff]; simp [sI_eq, sB_eq, sS_eq, ltI_eq, leI_eq, eqI_eq, numdB]; done))
def D_couponref13_Numbered : PT := tabD [(135, pcCheck)]
def C_couponref13_Numbered : FuncId → Option Ctr := tabC D_couponref13_Numbered []
theorem g_couponref13_Numbered {W : World} (hW : Tabs W) : GoodP (Fw W) Tryz.prog 63 pcNumd := by
  have hD : PTOk (Fw W) Tryz.prog D_couponref13_Numbered := (tabD_cons Tryz.call135 (g_couponref10_Check hW) tabD_nil)
  have hC0 : CtrOk (Fw W) Tryz.prog C_couponref13_Numbered := (tabC_nil hD)
  refine goodP_fun (D := D_couponref13_Numbered) (C := C_couponref13_Numbered) (wr := (fun _ => false)) rfl tyOk hD hC0 Tryz.func63 (fun _ _ => none) ?_
  clear hC0 hD hW
  intro cs p r h hf hp
  split at h
  case h_2 => cases h
  rename_i n
  cases h
  try simp only [factL, factA, inK_def, Go.Vc.lo, Go.Vc.hi, and_true] at hf
  (conv => whnf)
  (repeat' ((first
    | ((with_reducible refine And.intro ?_ ?_); focus (with_reducible exact True.intro))
    | fail) <;> (conv => whnf)))
  all_goals (try (show _ = _; simp only [sI_eq, sB_eq, sS_eq, sN_eq]))
  all_goals (try simp (disch := omega) only [Int.tdiv_eq_ediv_of_nonneg, Int.tmod_eq_emod_of_nonneg]); all_goals (first | (rw [Bool.eq_iff_iff]; simp [sI_eq, sB_eq, sS_eq, ltI_eq, leI_eq, eqI_eq, numdB]; done))
def D_ticket_other : PT := tabD [(194, pcNumd)]
def C_ticket_other : FuncId → Option Ctr := tabC D_ticket_other []
theorem g_ticket_other {W : World} (hW : Tabs W) : GoodP (Fw W) Tryz.prog 193 pcOther := by
  have hD : PTOk (Fw W) Tryz.prog D_ticket_other := (tabD_cons Tryz.call194 (g_ticket_numbered hW) tabD_nil)
  have hC0 : CtrOk (Fw W) Tryz.prog C_ticket_other := (tabC_nil hD)
  refine goodP_fun (D := D_ticket_other) (C := C_ticket_other) (wr := (fun _ => false)) rfl tyOk hD hC0 Tryz.func193 (fun _ _ => none) ?_
  clear hC0 hD hW
  intro cs p r h hf hp
  split at h
  case h_2 => cases h
  rename_i num loc iss n1 g1 n2 g2 prev orig frst vou posts n3 g3 n
  cases h
  try simp only [factL, factA, inK_def, Go.Vc.lo, Go.Vc.hi, and_true] at hf
  (conv => whnf)
  (repeat' ((first
    | ((with_reducible refine And.intro ?_ ?_); focus (with_reducible exact True.intro))
    | (split <;> rename_i hh <;> (try simp only [ble_true, ble_false, beq_true, beq_false, sI_eq, sB_eq, sS_eq, sN_eq, ltI_eq, leI_eq, eqI_eq, decide_eq_true_eq, decide_eq_false_iff_not, beq_iff_eq, bne_iff_ne, ne_eq, beq_eq_false_iff_ne, bne_eq_false_iff_eq, Bool.not_eq_true, Bool.not_eq_false, Int.not_lt, Int.not_le, gt_iff_lt, ge_iff_le, Nat.not_lt, Nat.not_le, Decidable.not_not, Bool.not_eq_eq_eq_not, Bool.not_true, Bool.not_false, cond_true, cond_false, Bool.or_eq_true, Bool.and_eq_true, Bool.or_eq_false_iff, Bool.and_eq_false_iff] at hh) <;> (try simp (disch := omega) only [Int.tdiv_eq_ediv_of_nonneg, Int.tmod_eq_emod_of_nonneg] at hh))
    | fail) <;> (conv => whnf)))
  all_goals (try (show _ = _; simp only [sI_eq, sB_eq, sS_eq, sN_eq]))
  all_goals (try simp (disch := omega) only [Int.tdiv_eq_ediv_of_nonneg, Int.tmod_eq_emod_of_nonneg]); all_goals (first | (simp_all [sI_eq, sB_eq, sS_eq, ltI_eq, leI_eq, eqI_eq, otherB]; done) | (rw [Bool.eq_iff_iff]; simp_all [sI_eq, sB_eq, sS_eq, ltI_eq, leI_eq, eqI_eq, otherB]; done))
@[irreducible] def holderB (num n : Int) : Bool := decide (101 ≤ n) && decide (n ≤ 1000) && decide (n - 1 ≠ carrierN num)
def pcHolder : PC := PC.fun fun | [.agg [.int .u64 num, .str loc, .int .i64 iss, .sl false 6 n1 g1, .sl false 2 n2 g2, .int .u64 prev, .int .u64 orig, .int .u64 frst, .int .i64 vou, .int .i64 posts, .sl false 4 n3 g3], .int .u64 n] => some (n ≤ 9223372036854775807, .bool (sB (holderB num n))) | _ => none
theorem makeN_two (c : Int) : (makeN c 0).2 = if mayCar c = true then 0 else 2 := by
  unfold makeN
  have h : maySer 0 = true := by unfold maySer; rfl
  rw [h]
  by_cases hc : mayCar c = true
  · rw [if_pos ⟨hc, rfl⟩, if_pos hc]
  · rw [if_neg (fun h => hc h.1), if_neg hc]
theorem mayCar_iff (c : Int) : mayCar c = true ↔ 100 ≤ c ∧ c ≤ 999 := by unfold mayCar; simp
def D_ticket_holder : PT := tabD [(263, pcMake), (264, pcCarrier)]
def C_ticket_holder : FuncId → Option Ctr := tabC D_ticket_holder []
theorem g_ticket_holder {W : World} (hW : Tabs W) : GoodP (Fw W) Tryz.prog 199 pcHolder := by
  have hD : PTOk (Fw W) Tryz.prog D_ticket_holder := (tabD_cons Tryz.call263 (g_number_Make hW) (tabD_cons Tryz.call264 (g_number_Carrier hW) tabD_nil))
  have hC0 : CtrOk (Fw W) Tryz.prog C_ticket_holder := (tabC_nil hD)
  refine goodP_fun (D := D_ticket_holder) (C := C_ticket_holder) (wr := (fun _ => false)) rfl tyOk hD hC0 Tryz.func199 (fun _ _ => none) ?_
  clear hC0 hD hW
  intro cs p r h hf hp
  split at h
  case h_2 => cases h
  rename_i num loc iss n1 g1 n2 g2 prev orig frst vou posts n3 g3 n
  cases h
  try simp only [factL, factA, inK_def, Go.Vc.lo, Go.Vc.hi, and_true] at hf
  have hm := makeN_two ((if 1048576 < n then 1048576 else n) - 1)
  have hc := mayCar_iff ((if 1048576 < n then 1048576 else n) - 1)
  have hx : (makeN ((if 1048576 < n then 1048576 else n) - 1) 0).2 = 0 ↔ 101 ≤ n ∧ n ≤ 1000 := by
    rw [hm]
    by_cases h : mayCar ((if 1048576 < n then 1048576 else n) - 1) = true
    · rw [if_pos h]; have := hc.1 h; split at this <;> simp <;> omega
    · rw [if_neg h]
      constructor
      · intro h2; cases h2
      · intro h2; exact absurd (hc.2 (by rw [if_neg (by omega)]; omega)) h
  have hlo : (if 1048576 < n then (1048576 : Int) else n) = 1048576 ∨ (if 1048576 < n then (1048576 : Int) else n) = n := by split <;> simp
  have hb : ¬ (101 ≤ n ∧ n ≤ 1000) → holderB num n = false := fun h => by unfold holderB; simp; omega
  have hg : (101 ≤ n ∧ n ≤ 1000) → holderB num n = !eqI (n - 1) (carrierN num) := fun h => by
    unfold holderB; rw [eqI_eq, decide_eq_true h.1, decide_eq_true h.2, Bool.eq_iff_iff]; simp
  (conv => whnf)
  (repeat' ((first
    | ((with_reducible refine And.intro ?_ ?_); focus (first | with_reducible exact True.intro | (simp only [inK_def, Go.Vc.lo, Go.Vc.hi]; omega)))
    | (split <;> rename_i hh <;> (try simp only [ble_true, ble_false, beq_true, beq_false, sI_eq, sB_eq, sS_eq, sN_eq, ltI_eq, leI_eq, eqI_eq, decide_eq_true_eq, decide_eq_false_iff_not, beq_iff_eq, bne_iff_ne, ne_eq, beq_eq_false_iff_ne, bne_eq_false_iff_eq, Bool.not_eq_true, Bool.not_eq_false, Int.not_lt, Int.not_le, gt_iff_lt, ge_iff_le, Nat.not_lt, Nat.not_le, Decidable.not_not, Bool.not_eq_eq_eq_not, Bool.not_true, Bool.not_false, cond_true, cond_false, Bool.or_eq_true, Bool.and_eq_true, Bool.or_eq_false_iff, Bool.and_eq_false_iff] at hh) <;> (try simp (disch := omega) only [Int.tdiv_eq_ediv_of_nonneg, Int.tmod_eq_emod_of_nonneg] at hh))
    | fail) <;> (conv => whnf)))
  all_goals (try (show _ = _; simp only [sI_eq, sB_eq, sS_eq, sN_eq]))
  · rw [hg (hx.1 (by assumption))]; rfl
  · rw [hb (fun h => absurd (hx.2 h) (by assumption))]
@[irreducible] def mayCouponB (num f d v s h x : Int) : Bool :=
  decide (1 ≤ f) && decide (f ≤ 9999) && dayB d && someB v && mayS s && (if s = 9 then holderB num h else decide (h = 0)) && (if s = 5 then otherB num x else decide (x = 0))
def pcMayCoupon : PC := PC.fun fun | [.agg [.int .u64 num, .str loc, .int .i64 iss, .sl false 6 n1 g1, .sl false 2 n2 g2, .int .u64 prev, .int .u64 orig, .int .u64 frst, .int .i64 vou, .int .i64 posts, .sl false 4 n3 g3], .agg [.int .i64 f, .int .i64 d, .int .i64 v, .int .i64 s, .int .i64 h, .int .u64 x]] => some (True, .bool (sB (mayCouponB num f d v s h x))) | _ => none
def D_ticket_mayCoupon : PT := tabD [(199, pcHolder), (193, pcOther), (196, pcDay), (197, pcSome), (133, pcMayS)]
def C_ticket_mayCoupon : FuncId → Option Ctr := tabC D_ticket_mayCoupon []
theorem g_ticket_mayCoupon {W : World} (hW : Tabs W) : GoodP (Fw W) Tryz.prog 125 pcMayCoupon := by
  have hD : PTOk (Fw W) Tryz.prog D_ticket_mayCoupon := (tabD_cons Tryz.call199 (g_ticket_holder hW) (tabD_cons Tryz.call193 (g_ticket_other hW) (tabD_cons Tryz.call196 (g_ticket_day hW) (tabD_cons Tryz.call197 (g_ticket_some hW) (tabD_cons Tryz.call133 (g_status_May hW) tabD_nil)))))
  have hC0 : CtrOk (Fw W) Tryz.prog C_ticket_mayCoupon := (tabC_nil hD)
  refine goodP_fun (D := D_ticket_mayCoupon) (C := C_ticket_mayCoupon) (wr := (fun _ => false)) rfl tyOk hD hC0 Tryz.func125 (fun _ _ => none) ?_
  clear hC0 hD hW
  intro cs p r h hf hp
  split at h
  case h_2 => cases h
  rename_i num loc iss n1 g1 n2 g2 prev orig frst vou posts n3 g3 f d v s h x
  cases h
  try simp only [factL, factA, inK_def, Go.Vc.lo, Go.Vc.hi, and_true] at hf
  have h9 : h ≤ 0 → holderB num h = false := fun hh => by unfold holderB; simp; omega
  have hhb : -9223372036854775808 ≤ h ∧ h ≤ 9223372036854775807 := by omega
  clear hf
  (conv => whnf)
  (repeat' ((first
    | ((with_reducible refine And.intro ?_ ?_); focus (first | with_reducible exact True.intro | ((with_reducible show okB _ _ _ = true); rfl) | omega | (simp only [inK_def, Go.Vc.lo, Go.Vc.hi]; omega)))
    | (split <;> rename_i hh <;> (try simp only [ble_true, ble_false, beq_true, beq_false, sI_eq, sB_eq, sS_eq, sN_eq, ltI_eq, leI_eq, eqI_eq, decide_eq_true_eq, decide_eq_false_iff_not, beq_iff_eq, bne_iff_ne, ne_eq, beq_eq_false_iff_ne, bne_eq_false_iff_eq, Bool.not_eq_true, Bool.not_eq_false, Int.not_lt, Int.not_le, gt_iff_lt, ge_iff_le, Nat.not_lt, Nat.not_le, Decidable.not_not, Bool.not_eq_eq_eq_not, Bool.not_true, Bool.not_false, cond_true, cond_false, Bool.or_eq_true, Bool.and_eq_true, Bool.or_eq_false_iff, Bool.and_eq_false_iff] at hh) <;> (try simp (disch := omega) only [Int.tdiv_eq_ediv_of_nonneg, Int.tmod_eq_emod_of_nonneg] at hh))
    | fail) <;> (conv => whnf)))
  all_goals (try (show _ = _; simp only [sI_eq, sB_eq, sS_eq, sN_eq]))
  all_goals first | (simp_all [ltI_eq, leI_eq, eqI_eq, mayCouponB]; done) | (rw [Bool.eq_iff_iff]; simp_all [ltI_eq, leI_eq, eqI_eq, mayCouponB]; done) | (rw [Bool.eq_iff_iff]; simp_all [ltI_eq, leI_eq, eqI_eq, mayCouponB]; omega) | skip
/-- What a coupon of a status may have beside it. -/
@[irreducible] def withB (num s w : Int) : Bool := if s = 9 then holderB num w else if s = 5 then otherB num w else decide (w = 0)
def pcMayWith : PC := PC.fun fun | [.int .u64 num, .int .i64 s, .int .u64 w] => some (True, .bool (sB (withB num s w))) | _ => none
theorem carrierN_bound (n : Int) : 0 ≤ carrierN n ∧ carrierN n ≤ 999 := by
  unfold carrierN
  split
  · have := checkN_zero (by assumption); omega
  · omega
def D_couponref13_MayWith : PT := tabD [(210, pcParts), (63, pcNumd)]
def C_couponref13_MayWith : FuncId → Option Ctr := tabC D_couponref13_MayWith []
theorem g_couponref13_MayWith {W : World} (hW : Tabs W) : GoodP (Fw W) Tryz.prog 136 pcMayWith := by
  have hD : PTOk (Fw W) Tryz.prog D_couponref13_MayWith := (tabD_cons Tryz.call210 (g_couponref10_Parts hW) (tabD_cons Tryz.call63 (g_couponref13_Numbered hW) tabD_nil))
  have hC0 : CtrOk (Fw W) Tryz.prog C_couponref13_MayWith := (tabC_nil hD)
  refine goodP_fun (D := D_couponref13_MayWith) (C := C_couponref13_MayWith) (wr := (fun _ => false)) rfl tyOk hD hC0 Tryz.func136 (fun _ _ => none) ?_
  clear hC0 hD hW
  intro cs p r h hf hp
  split at h
  case h_2 => cases h
  rename_i num s w
  cases h
  try simp only [factL, factA, inK_def, Go.Vc.lo, Go.Vc.hi, and_true] at hf
  have hcb := carrierN_bound num
  have hsc := sI_eq (carrierN num)
  (conv => whnf)
  (repeat' ((first
    | ((with_reducible refine And.intro ?_ ?_); focus (first | with_reducible exact True.intro | (simp only [inK_def, Go.Vc.lo, Go.Vc.hi]; omega)))
    | (split <;> rename_i hh <;> (try simp only [ble_true, ble_false, beq_true, beq_false, sI_eq, sB_eq, sS_eq, sN_eq, ltI_eq, leI_eq, eqI_eq, decide_eq_true_eq, decide_eq_false_iff_not, beq_iff_eq, bne_iff_ne, ne_eq, beq_eq_false_iff_ne, bne_eq_false_iff_eq, Bool.not_eq_true, Bool.not_eq_false, Int.not_lt, Int.not_le, gt_iff_lt, ge_iff_le, Nat.not_lt, Nat.not_le, Decidable.not_not, Bool.not_eq_eq_eq_not, Bool.not_true, Bool.not_false, cond_true, cond_false, Bool.or_eq_true, Bool.and_eq_true, Bool.or_eq_false_iff, Bool.and_eq_false_iff] at hh) <;> (try simp (disch := omega) only [Int.tdiv_eq_ediv_of_nonneg, Int.tmod_eq_emod_of_nonneg] at hh))
    | fail) <;> (conv => whnf)))
  all_goals (try (show _ = _; simp only [sI_eq, sB_eq, sS_eq, sN_eq]))
  all_goals (try simp (disch := omega) only [Int.tdiv_eq_ediv_of_nonneg, Int.tmod_eq_emod_of_nonneg]); all_goals (first | (simp_all [sI_eq, sB_eq, sS_eq, ltI_eq, leI_eq, eqI_eq, withB, holderB, otherB]; done) | (simp_all [sI_eq, sB_eq, sS_eq, ltI_eq, leI_eq, eqI_eq, withB, holderB, otherB]; omega) | (rw [Bool.eq_iff_iff]; simp_all [sI_eq, sB_eq, sS_eq, ltI_eq, leI_eq, eqI_eq, withB, holderB, otherB]; done) | (rw [Bool.eq_iff_iff]; simp_all [sI_eq, sB_eq, sS_eq, ltI_eq, leI_eq, eqI_eq, withB, holderB, otherB]; omega))
def pcMayCouponR : PC := PC.fun fun | [.int .u64 num, .agg [.int .i64 f, .int .i64 d, .int .i64 v, .int .i64 s, .int .i64 h, .int .u64 x]] => some (True, .bool (sB (mayCouponB num f d v s h x))) | _ => none
def D_couponref13_mayCoupon : PT := tabD [(65, pcDay), (67, pcSome), (69, pcMayS), (136, pcMayWith)]
def C_couponref13_mayCoupon : FuncId → Option Ctr := tabC D_couponref13_mayCoupon []
theorem g_couponref13_mayCoupon {W : World} (hW : Tabs W) : GoodP (Fw W) Tryz.prog 66 pcMayCouponR := by
  have hD : PTOk (Fw W) Tryz.prog D_couponref13_mayCoupon := (tabD_cons Tryz.call65 (g_couponref13_day hW) (tabD_cons Tryz.call67 (g_couponref13_some hW) (tabD_cons Tryz.call69 (g_couponref12_May hW) (tabD_cons Tryz.call136 (g_couponref13_MayWith hW) tabD_nil))))
  have hC0 : CtrOk (Fw W) Tryz.prog C_couponref13_mayCoupon := (tabC_nil hD)
  refine goodP_fun (D := D_couponref13_mayCoupon) (C := C_couponref13_mayCoupon) (wr := (fun _ => false)) rfl tyOk hD hC0 Tryz.func66 (fun _ _ => none) ?_
  clear hC0 hD hW
  intro cs p r h hf hp
  split at h
  case h_2 => cases h
  rename_i num f d v s h x
  cases h
  try simp only [factL, factA, inK_def, Go.Vc.lo, Go.Vc.hi, and_true] at hf
  have h9 : h < 0 → holderB num h = false := fun hh => by unfold holderB; simp; omega
  have hhb : -9223372036854775808 ≤ h ∧ h ≤ 9223372036854775807 := by omega
  clear hf
  have hw9 : withB num 9 h = holderB num h := by unfold withB; rfl
  have hw5 : withB num 5 x = otherB num x := by unfold withB; rfl
  have hw : s ≠ 9 → s ≠ 5 → withB num s x = decide (x = 0) := fun h1 h2 => by unfold withB; rw [if_neg h1, if_neg h2]
  (conv => whnf)
  (repeat' ((first
    | ((with_reducible refine And.intro ?_ ?_); focus (first | with_reducible exact True.intro | omega | (simp only [inK_def, Go.Vc.lo, Go.Vc.hi]; omega)))
    | (split <;> rename_i hh <;> (try simp only [ble_true, ble_false, beq_true, beq_false, sI_eq, sB_eq, sS_eq, sN_eq, ltI_eq, leI_eq, eqI_eq, decide_eq_true_eq, decide_eq_false_iff_not, beq_iff_eq, bne_iff_ne, ne_eq, beq_eq_false_iff_ne, bne_eq_false_iff_eq, Bool.not_eq_true, Bool.not_eq_false, Int.not_lt, Int.not_le, gt_iff_lt, ge_iff_le, Nat.not_lt, Nat.not_le, Decidable.not_not, Bool.not_eq_eq_eq_not, Bool.not_true, Bool.not_false, cond_true, cond_false, Bool.or_eq_true, Bool.and_eq_true, Bool.or_eq_false_iff, Bool.and_eq_false_iff] at hh) <;> (try simp (disch := omega) only [Int.tdiv_eq_ediv_of_nonneg, Int.tmod_eq_emod_of_nonneg] at hh))
    | fail) <;> (conv => whnf)))
  all_goals (try (show _ = _; simp only [sI_eq, sB_eq, sS_eq, sN_eq]))
  all_goals first | (simp_all [ltI_eq, leI_eq, eqI_eq, mayCouponB]; done) | (rw [Bool.eq_iff_iff]; simp_all [ltI_eq, leI_eq, eqI_eq, mayCouponB]; done) | (rw [Bool.eq_iff_iff]; simp_all [ltI_eq, leI_eq, eqI_eq, mayCouponB]; omega) | skip
end
end Go.Vc.Z

/- Tickets: heads and taxes. -/
namespace Go.Vc.Z
open Go Go.Vc Go.Proofs Go.RowKit Go.Pl Go.Lib
noncomputable section
set_option maxRecDepth 100000
set_option linter.unusedSimpArgs false
set_option linter.unusedVariables false
attribute [local irreducible] inK Utf8.decode Utf8.encode Lib.itoa Pl.worth Pl.allDig
def taxesFrom : Int → List Tax → Bool
  | _, [] => true
  | least, x :: t => decide (least ≤ x.code) && decide (x.code ≤ 99) && someB x.amount && taxesFrom (x.code + 1) t
@[irreducible] def taxesB (l : List Tax) : Bool := taxesFrom 1 l && decide (l.length ≤ 4)
def pcTaxes : PC := PC.of (fun l : List Tax => [slE 2 Tax.enc l]) (fun _ => True) (fun l => .bool (sB (taxesB l)))
def LTaxes (l : List Tax) : LoopSpec := {
  α := Nat × Int
  keep := [0, 3, 6, 7, 8]
  vals x := [slE 2 Tax.enc l, .int .i64 x.2, slE 2 Tax.enc l, .int .i64 l.length, .int .i64 x.1]
  heap _ := []
  ok x := x.1 ≤ l.length ∧ taxesFrom x.2 (l.drop x.1) = taxesFrom 1 l
  μ x := l.length - x.1 }
theorem drop_getD {α : Type} [Inhabited α] {l : List α} {i : Nat} (h : i < l.length) : l.drop i = l.getD i default :: l.drop (i + 1) := by
  rw [List.drop_eq_getElem_cons h, List.getD_eq_getElem?_getD, List.getElem?_eq_getElem h]; rfl
theorem factL_code {l : List Tax} {i : Nat} (h : factL [slE 2 Tax.enc l]) : i < l.length → -9223372036854775808 ≤ (l.getD i default).code ∧ (l.getD i default).code ≤ 9223372036854775807 := fun hi => by
  simp only [factL, factA, and_true] at h
  have := (h.2 i hi).2.1
  simpa [inK_def, Go.Vc.lo, Go.Vc.hi] using this
def D_ticket_mayTaxes : PT := tabD [(197, pcSome)]
def C_ticket_mayTaxes : FuncId → Option Ctr := tabC D_ticket_mayTaxes []
def L_ticket_mayTaxes : List Tax → Nat → Option LR := fun l i => cond (Nat.beq i 3) (some (.inv (LTaxes l))) (none)
theorem g_ticket_mayTaxes {W : World} (hW : Tabs W) : GoodP (Fw W) Tryz.prog 122 pcTaxes := by
  have hD : PTOk (Fw W) Tryz.prog D_ticket_mayTaxes := (tabD_cons Tryz.call197 (g_ticket_some hW) tabD_nil)
  have hC0 : ∀ l : List Tax, CtrOk (Fw W) Tryz.prog (C_ticket_mayTaxes) := fun l => (tabC_nil hD)
  refine goodP_ofC (D := D_ticket_mayTaxes) (C := fun l => C_ticket_mayTaxes) (wr := (fun _ => false)) rfl tyOk hD hC0 Tryz.func122 (L_ticket_mayTaxes) (fun _ => rfl) ?_
  intro l hf hp
  (conv => whnf)
  (repeat' ((first
    | with_reducible refine (fun (hln : (_ : Int) ≤ 9223372036854775807) => ?_)
    | fail) <;> (conv => whnf)))
  all_goals (try (show _ = _; simp only [sI_eq, sB_eq, sS_eq, sN_eq]))
  refine ⟨?_, fun (x : Nat × Int) (hx : x.1 ≤ l.length ∧ taxesFrom x.2 (l.drop x.1) = taxesFrom 1 l) => ?_⟩
  · (conv => whnf)
    refine ⟨((0, 1) : Nat × Int), [], ?_, ⟨⟨rfl, Nat.le_of_ble_eq_true rfl, rfl⟩, ?_, ?_⟩⟩
    · exact ⟨Nat.zero_le _, rfl⟩
    · (conv => whnf)
      (repeat' ((first | with_reducible exact True.intro | ((with_reducible refine And.intro ?_ ?_); focus (first | with_reducible rfl | omega | exact Nat.le_of_ble_eq_true rfl | rfl)) | with_reducible refine And.intro (?_ : leA _ _ _) ?_ | fail) <;> (conv => whnf)))
      all_goals (try simp only [sI_eq, sB_eq, sS_eq, sN_eq])
      all_goals (try first | omega | exact ⟨fun h => h, fun _ _ => True.intro⟩)
    · (conv => whnf)
      (repeat' ((first | with_reducible exact True.intro | fail) <;> (conv => whnf)))
      all_goals (try simp only [sI_eq, sB_eq, sS_eq, sN_eq])
  · obtain ⟨h1, h2⟩ := hx
    have hd : x.1 < l.length → taxesFrom 1 l = (decide (x.2 ≤ (l.getD (Int.toNat (x.1 : Int)) default).code) && decide ((l.getD (Int.toNat (x.1 : Int)) default).code ≤ 99) && someB (l.getD (Int.toNat (x.1 : Int)) default).amount && taxesFrom ((l.getD (Int.toNat (x.1 : Int)) default).code + 1) (l.drop (x.1 + 1))) := fun h => by
      rw [← h2, drop_getD h]; rfl
    have ht : taxesFrom 1 l = false → taxesB l = false := fun h => by unfold taxesB; rw [h]; rfl
    have hb : x.1 < l.length → (x.2 ≤ (l.getD (Int.toNat (x.1 : Int)) default).code → (l.getD (Int.toNat (x.1 : Int)) default).code ≤ 99 → someB (l.getD (Int.toNat (x.1 : Int)) default).amount = false) → taxesB l = false := fun h hc => ht (by
      rw [hd h]
      by_cases g1 : x.2 ≤ (l.getD (Int.toNat (x.1 : Int)) default).code
      · by_cases g2 : (l.getD (Int.toNat (x.1 : Int)) default).code ≤ 99
        · rw [hc g1 g2]; simp
        · rw [decide_eq_false g2]; simp
      · rw [decide_eq_false g1]; simp)
    have hcode := factL_code (l := l) (i := Int.toNat (x.1 : Int)) hf
    (conv => whnf)
    (repeat' ((first
      | ((with_reducible refine And.intro ?_ ?_); focus (first | with_reducible exact True.intro | omega | (simp only [inK_def, Go.Vc.lo, Go.Vc.hi]; omega)))
      | (split <;> rename_i hh <;> (try simp only [ble_true, ble_false, beq_true, beq_false, sI_eq, sB_eq, sS_eq, sN_eq, ltI_eq, leI_eq, eqI_eq, decide_eq_true_eq, decide_eq_false_iff_not, beq_iff_eq, bne_iff_ne, ne_eq, beq_eq_false_iff_ne, bne_eq_false_iff_eq, Bool.not_eq_true, Bool.not_eq_false, Int.not_lt, Int.not_le, gt_iff_lt, ge_iff_le, Nat.not_lt, Nat.not_le, Decidable.not_not, Bool.not_eq_eq_eq_not, Bool.not_true, Bool.not_false, cond_true, cond_false, Bool.or_eq_true, Bool.and_eq_true, Bool.or_eq_false_iff, Bool.and_eq_false_iff] at hh) <;> (try simp (disch := omega) only [Int.tdiv_eq_ediv_of_nonneg, Int.tmod_eq_emod_of_nonneg] at hh))
      | with_reducible refine (fun (hln : (_ : Int) ≤ 9223372036854775807) => ?_)
      | fail) <;> (conv => whnf)))
    all_goals (try (show _ = _; simp only [sI_eq, sB_eq, sS_eq, sN_eq]))
    all_goals try (rw [hb (by omega) (by intros; first | omega | assumption)]; done)
    · (conv => whnf)
      refine ⟨((x.1 + 1, (l.getD (Int.toNat (x.1 : Int)) default).code + 1) : Nat × Int), [], ?_, ⟨⟨rfl, Nat.le_of_ble_eq_true rfl, rfl⟩, ?_, ?_⟩⟩
      · refine ⟨⟨show x.1 + 1 ≤ l.length by omega, ?_⟩, show l.length - (x.1 + 1) < l.length - x.1 by omega⟩
        have := hd (by omega)
        rw [decide_eq_true (by assumption), decide_eq_true (by assumption), (by assumption : someB _ = true)] at this
        exact this.symm
      · (conv => whnf)
        (repeat' ((first | with_reducible exact True.intro | ((with_reducible refine And.intro ?_ ?_); focus (first | with_reducible rfl | omega | exact Nat.le_of_ble_eq_true rfl | rfl)) | with_reducible refine And.intro (?_ : leA _ _ _) ?_ | fail) <;> (conv => whnf)))
        all_goals (try simp only [sI_eq, sB_eq, sS_eq, sN_eq])
        all_goals (try first | omega | exact ⟨fun h => h, fun _ _ => True.intro⟩)
      · (conv => whnf)
        (repeat' ((first | with_reducible exact True.intro | fail) <;> (conv => whnf)))
        all_goals (try simp only [sI_eq, sB_eq, sS_eq, sN_eq])
    · have : taxesFrom 1 l = true := by rw [← h2, List.drop_eq_nil_of_le (by omega)]; rfl
      unfold taxesB
      rw [this, leI_eq, Bool.true_and, Bool.eq_iff_iff, decide_eq_true_eq, decide_eq_true_eq]; omega
@[irreducible] def ownB (num prev orig : Int) : Bool := (decide (prev = 0) && decide (orig = num)) || (otherB num prev && otherB num orig)
@[irreducible] def mayHeadB (num : Int) (loc : List UInt8) (iss prev orig frst vou posts : Int) : Bool :=
  numdB num && locOk loc && dayB iss && ownB num prev orig && numdB frst && decide (0 ≤ vou) && decide (vou ≤ 1125899906842624) && decide (0 ≤ posts) && decide (posts ≤ 200)
def pcMayHead : PC := PC.fun fun | [.agg [.int .u64 num, .str loc, .int .i64 iss, .sl false 6 n1 g1, .sl false 2 n2 g2, .int .u64 prev, .int .u64 orig, .int .u64 frst, .int .i64 vou, .int .i64 posts, .sl false 4 n3 g3]] => some (True, .bool (sB (mayHeadB num loc iss prev orig frst vou posts))) | _ => none
def D_ticket_mayHead : PT := tabD [(193, pcOther), (194, pcNumd), (195, pcLocator), (196, pcDay)]
def C_ticket_mayHead : FuncId → Option Ctr := tabC D_ticket_mayHead []
set_option maxHeartbeats 2000000 in
theorem g_ticket_mayHead {W : World} (hW : Tabs W) : GoodP (Fw W) Tryz.prog 121 pcMayHead := by
  have hD : PTOk (Fw W) Tryz.prog D_ticket_mayHead := (tabD_cons Tryz.call193 (g_ticket_other hW) (tabD_cons Tryz.call194 (g_ticket_numbered hW) (tabD_cons Tryz.call195 (g_number_Locator hW) (tabD_cons Tryz.call196 (g_ticket_day hW) tabD_nil))))
  have hC0 : CtrOk (Fw W) Tryz.prog C_ticket_mayHead := (tabC_nil hD)
  refine goodP_fun (D := D_ticket_mayHead) (C := C_ticket_mayHead) (wr := (fun _ => false)) rfl tyOk hD hC0 Tryz.func121 (fun _ _ => none) ?_
  clear hC0 hD hW
  intro cs p r h hf hp
  split at h
  case h_2 => cases h
  rename_i num loc iss n1 g1 n2 g2 prev orig frst vou posts n3 g3
  cases h
  try simp only [factL, factA, inK_def, Go.Vc.lo, Go.Vc.hi, and_true] at hf
  clear hf
  (conv => whnf)
  (repeat' ((first
    | ((with_reducible refine And.intro ?_ ?_); focus (with_reducible exact True.intro))
    | (split <;> rename_i hh <;> (try simp only [ble_true, ble_false, beq_true, beq_false, sI_eq, sB_eq, sS_eq, sN_eq, ltI_eq, leI_eq, eqI_eq, decide_eq_true_eq, decide_eq_false_iff_not, beq_iff_eq, bne_iff_ne, ne_eq, beq_eq_false_iff_ne, bne_eq_false_iff_eq, Bool.not_eq_true, Bool.not_eq_false, Int.not_lt, Int.not_le, gt_iff_lt, ge_iff_le, Nat.not_lt, Nat.not_le, Decidable.not_not, Bool.not_eq_eq_eq_not, Bool.not_true, Bool.not_false, cond_true, cond_false, Bool.or_eq_true, Bool.and_eq_true, Bool.or_eq_false_iff, Bool.and_eq_false_iff] at hh) <;> (try simp (disch := omega) only [Int.tdiv_eq_ediv_of_nonneg, Int.tmod_eq_emod_of_nonneg] at hh))
    | fail) <;> (conv => whnf)))
  all_goals (try (show _ = _; simp only [sI_eq, sB_eq, sS_eq, sN_eq]))
  all_goals first | (simp_all [ltI_eq, leI_eq, eqI_eq, mayHeadB, ownB]; done) | (rw [Bool.eq_iff_iff]; simp_all [ltI_eq, leI_eq, eqI_eq, mayHeadB, ownB]; done) | (rw [Bool.eq_iff_iff]; simp_all [ltI_eq, leI_eq, eqI_eq, mayHeadB, ownB]; omega) | skip
end
end Go.Vc.Z
