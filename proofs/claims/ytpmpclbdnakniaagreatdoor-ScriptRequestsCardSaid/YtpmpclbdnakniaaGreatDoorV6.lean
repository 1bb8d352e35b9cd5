/- Numbers: parts, locators, made ones. -/
import Derived.Test.YtpmpclbdnakniaaGreatDoorV5
import Derived.Test.YtpmpclbdnakniaaGreatDoorProg
import Derived.Ground.NamesProg
import Derived.Shelf.Strings.OnBuilder
import Derived.Shelf.Strings.Builder1
import Derived.Shelf.Strconv.Itoa4
set_option linter.all false
set_option linter.unusedVariables false
set_option linter.unusedSimpArgs false
namespace Go.Vc.Z
open Go Go.Vc Go.Proofs Go.RowKit Go.Pl Go.Lib
noncomputable section
set_option maxRecDepth 100000
set_option linter.unusedSimpArgs false
set_option linter.unusedVariables false
attribute [local irreducible] inK Utf8.decode Utf8.encode Lib.itoa Pl.worth Pl.allDig
theorem numOf_dec {n : Int} (h0 : 0 ≤ n) (h1 : n ≤ 18446744073709551615) : numOf (decDigits n.toNat) = if 1000000000000 ≤ n ∧ n ≤ 9999999999999 then (if checkN n = 0 then (n, 0) else (0, checkN n)) else (0, 4) := by
 unfold numOf
 have hw := worth_dec n.toNat
 have hl := dec_len_iff n.toNat 12 (by omega)
 by_cases h : 1000000000000 ≤ n ∧ n ≤ 9999999999999
 ·rw [if_pos ⟨hl.2 (by omega), allDig_dec _⟩, if_pos h, hw, show ((n.toNat : Nat) : Int) = n by omega]
 ·rw [if_neg (fun hh => h (by have := hl.1 hh.1; omega)), if_neg h]
def D_couponref10_Check : PT := tabD [(81, pcDigits), (88, pcROf)]
theorem d_couponref10_Check {W : World} (hW : Tabs W) : PTOk (Fw W) Tryz.prog D_couponref10_Check := (tabD_cons Tryz.call81 (g_couponref10_Digits hW) (tabD_cons Tryz.call88 (g_couponref10_Of hW) tabD_nil))
def C_couponref10_Check : FuncId → Option Ctr := tabC D_couponref10_Check []
theorem c_couponref10_Check {W : World} (hW : Tabs W) : CtrOk (Fw W) Tryz.prog C_couponref10_Check := (tabC_nil (d_couponref10_Check hW))
theorem g_couponref10_Check {W : World} (hW : Tabs W) : GoodP (Fw W) Tryz.prog 135 pcCheck := by
 have hD := d_couponref10_Check hW
 have hC0 : CtrOk (Fw W) Tryz.prog C_couponref10_Check := (c_couponref10_Check hW)
 refine goodP_fun (D := D_couponref10_Check) (C := C_couponref10_Check) (wr := (fun _ => false)) rfl tyOk hD hC0 Tryz.func135 (fun _ _ => none) ?_
 clear hC0 hD hW
 intro cs p r h hf hp
 split at h
 case h_2 => cases h
 rename_i n
 cases h
 try simp only [factL, factA, inK_def, Go.Vc.lo, Go.Vc.hi, and_true] at hf
 have hx := numOf_dec hf.1 hf.2
 have h2 : ¬ (1000000000000 ≤ n ∧ n ≤ 9999999999999) → checkN n = 2 := fun h => by unfold checkN; rw [if_pos (by omega)]
 have h3 : (1000000000000 ≤ n ∧ n ≤ 9999999999999) → checkN n ≠ 4 := fun h => by rw [checkN_ne2 h.1 h.2]; split <;> omega
 have h4 : (numOf (decDigits n.toNat)).2 = 4 → checkN n = 2 := fun h => by
  rw [hx] at h
  by_cases hc : 1000000000000 ≤ n ∧ n ≤ 9999999999999
  ·rw [if_pos hc] at h; split at h
   ·cases h
   ·exact absurd h (h3 hc)
  ·exact h2 hc
 have h5 : ¬ (numOf (decDigits n.toNat)).2 = 4 → (numOf (decDigits n.toNat)).2 = checkN n := fun h => by
  rw [hx] at h ⊢
  by_cases hc : 1000000000000 ≤ n ∧ n ≤ 9999999999999
  ·rw [if_pos hc]; split
   ·rename_i h6; exact h6.symm
   ·rfl
  ·rw [if_neg hc] at h; exact absurd rfl h
 (conv => whnf)
 (repeat' ((first
  | ((with_reducible refine And.intro ?_ ?_); focus (first | with_reducible exact True.intro | with_reducible rfl))
  | (split <;> rename_i hh <;> (try simp only [wS] at hh) <;> (try simp (disch := omega) only [wT] at hh))
  | fail) <;> (conv => whnf)))
 all_goals (try (show _ = _; simp only [wQ]))
 ·exact h5 (by assumption)
 ·rw [h4 (by assumption)]
def isLoc (c : UInt8) : Bool := (decide (65 ≤ c.toNat) && decide (c.toNat ≤ 90)) || (decide (50 ≤ c.toNat) && decide (c.toNat ≤ 57))
@[irreducible] def locOk (s : List UInt8) : Bool := s.all isLoc && decide (s.length = 6)
def pcLocator : PC := PC.fun fun | [.str s] => some (True, .bool (sB (locOk s))) | _ => none
def LLoc (s : List UInt8) : LoopSpec := {
 α := Nat
 keep := [0, 6]
 vals i := [.str s, .iter 0]
 heap i := [.iter s i]
 ok i := i ≤ s.length ∧ (s.take i).all isLoc = true
 μ i := s.length - i }
def L_number_Locator : List AV → Nat → Option LR := fun cs i => match cs with | [.str s] => cond (Nat.beq i 2) (some (.inv (LLoc s))) (none) | _ => none
theorem g_number_Locator {W : World} (hW : Tabs W) : GoodP (Fw W) Tryz.prog 195 pcLocator := by
 have hD := d_number_Check hW
 have hC0 : CtrOk (Fw W) Tryz.prog C_number_Check := (c_number_Check hW)
 refine goodP_fun (D := D_number_Check) (C := C_number_Check) (wr := (fun _ => false)) rfl tyOk hD hC0 Tryz.func195 (L_number_Locator) ?_
 clear hC0 hD hW
 intro cs p r h hf hp
 split at h
 case h_2 => cases h
 rename_i s
 cases h
 try simp only [factL, factA, inK_def, Go.Vc.lo, Go.Vc.hi, and_true] at hf
 (conv => whnf)
 all_goals (try (show _ = _; simp only [wQ]))
 refine ⟨?_, fun (i : Nat) (hi : i ≤ s.length ∧ (s.take i).all isLoc = true) => ?_⟩
 ·(conv => whnf)
  refine ⟨(0 : Nat), [], ?_, ⟨⟨rfl, Nat.le_of_ble_eq_true rfl, rfl⟩, ?_, ?_⟩⟩
  ·exact ⟨Nat.zero_le _, rfl⟩
  ·(conv => whnf)
   (repeat' ((first | with_reducible exact True.intro | ((with_reducible refine And.intro ?_ ?_); focus (first | with_reducible rfl | omega | exact Nat.le_of_ble_eq_true rfl | rfl)) | fail) <;> (conv => whnf)))
   all_goals (try simp only [wQ])
  ·(conv => whnf)
   (repeat' ((first | with_reducible exact True.intro | ((with_reducible refine And.intro ?_ ?_); focus (first | with_reducible rfl | omega | exact Nat.le_of_ble_eq_true rfl | rfl)) | with_reducible refine And.intro (?_ : leBlk _ _ _ _) ?_ | fail) <;> (conv => whnf)))
   all_goals (try simp only [wQ])
 ·obtain ⟨h1, h2⟩ := hi
  have hbad : i < s.length → ¬ (65 ≤ runeAt s i ∧ runeAt s i ≤ 90 ∨ 50 ≤ runeAt s i ∧ runeAt s i ≤ 57) → locOk s = false := fun h hc => by
   have : isLoc (s.getD i 0) = false := by
    simp only [isLoc, Bool.or_eq_false_iff, Bool.and_eq_false_iff, decide_eq_false_iff_not]
    rcases rune_cases h with h6 | h6 <;> omega
   unfold locOk; rw [not_all_of h this]; rfl
  have hgood : i < s.length → (65 ≤ runeAt s i ∧ runeAt s i ≤ 90 ∨ 50 ≤ runeAt s i ∧ runeAt s i ≤ 57) → (s.take (i + 1)).all isLoc = true ∧ runeW s i = 1 := fun h hc => by
   rcases rune_cases h with h6 | h6
   ·refine ⟨?_, h6.2.1⟩
    rw [all_take_succ h, h2, Bool.true_and]
    simp only [isLoc, Bool.or_eq_true, Bool.and_eq_true, decide_eq_true_eq]; omega
   ·omega
  have hfin : s.length ≤ i → locOk s = decide (s.length = 6) := fun h => by
   rw [List.take_of_length_le h] at h2
   unfold locOk; rw [h2]; rfl
  (conv => whnf)
  (repeat' ((first
   | (split <;> rename_i hh <;> (try simp only [wS] at hh) <;> (try simp (disch := omega) only [wT] at hh))
   | with_reducible refine (fun (hln : (_ : Int) ≤ 9223372036854775807) => ?_)
   | fail) <;> (conv => whnf)))
  all_goals (try (show _ = _; simp only [wQ]))
  all_goals try (rw [hbad (by omega) (by omega)]; done)
  all_goals try (
   obtain ⟨g1, g2⟩ := hgood (by omega) (by omega)
   (conv => whnf)
   refine ⟨(i + 1 : Nat), [], ?_, ⟨⟨rfl, Nat.le_of_ble_eq_true rfl, rfl⟩, ?_, ?_⟩⟩
   ·exact ⟨⟨show i + 1 ≤ s.length by omega, g1⟩, show s.length - (i + 1) < s.length - i by omega⟩
   ·(conv => whnf)
    (repeat' ((first | with_reducible exact True.intro | ((with_reducible refine And.intro ?_ ?_); focus (first | with_reducible rfl | omega | exact Nat.le_of_ble_eq_true rfl | rfl)) | fail) <;> (conv => whnf)))
    all_goals (try simp only [wQ])
   ·(conv => whnf)
    (repeat' ((first | with_reducible exact True.intro | ((with_reducible refine And.intro ?_ ?_); focus (first | with_reducible rfl | omega | exact Nat.le_of_ble_eq_true rfl | rfl)) | with_reducible refine And.intro (?_ : leBlk _ _ _ _) ?_ | fail) <;> (conv => whnf)))
    all_goals (try simp only [wQ])
    all_goals (try first | omega)
   )
  ·rw [hfin (by omega), eqI_eq, Bool.eq_iff_iff, beq_iff_eq, decide_eq_true_eq]; omega
def LRLoc (s : List UInt8) : LoopSpec := {
 α := Nat
 keep := [0, 3]
 vals i := [.str s, .int .i64 i]
 heap _ := []
 ok i := i ≤ s.length ∧ (s.take i).all isLoc = true
 μ i := s.length - i }
def L_couponref10_Locator : List AV → Nat → Option LR := fun cs i => match cs with | [.str s] => cond (Nat.beq i 2) (some (.inv (LRLoc s))) (none) | _ => none
theorem g_couponref10_Locator {W : World} (hW : Tabs W) : GoodP (Fw W) Tryz.prog 64 pcLocator := by
 have hD := d_number_Check hW
 have hC0 : CtrOk (Fw W) Tryz.prog C_number_Check := (c_number_Check hW)
 refine goodP_fun (D := D_number_Check) (C := C_number_Check) (wr := (fun _ => false)) rfl tyOk hD hC0 Tryz.func64 (L_couponref10_Locator) ?_
 clear hC0 hD hW
 intro cs p r h hf hp
 split at h
 case h_2 => cases h
 rename_i s
 cases h
 try simp only [factL, factA, inK_def, Go.Vc.lo, Go.Vc.hi, and_true] at hf
 (conv => whnf)
 all_goals (try (show _ = _; simp only [wQ]))
 refine ⟨?_, fun (i : Nat) (hi : i ≤ s.length ∧ (s.take i).all isLoc = true) => ?_⟩
 ·(conv => whnf)
  refine ⟨(0 : Nat), [], ?_, ⟨⟨rfl, Nat.le_of_ble_eq_true rfl, rfl⟩, ?_, ?_⟩⟩
  ·exact ⟨Nat.zero_le _, rfl⟩
  ·exact leL_rfl _
  ·(conv => whnf)
   (repeat' ((first | with_reducible exact True.intro | fail) <;> (conv => whnf)))
   all_goals (try simp only [wQ])
 ·obtain ⟨h1, h2⟩ := hi
  have ei : (s.getD (Int.toNat (i : Int)) 0).toNat = (s.getD i 0).toNat := rfl
  have hbad : i < s.length → ¬ (65 ≤ (s.getD i 0).toNat ∧ (s.getD i 0).toNat ≤ 90 ∨ 50 ≤ (s.getD i 0).toNat ∧ (s.getD i 0).toNat ≤ 57) → locOk s = false := fun h hc => by
   have : isLoc (s.getD i 0) = false := by
    simp only [isLoc, Bool.or_eq_false_iff, Bool.and_eq_false_iff, decide_eq_false_iff_not]; omega
   unfold locOk; rw [not_all_of h this]; rfl
  have hgood : i < s.length → (65 ≤ (s.getD i 0).toNat ∧ (s.getD i 0).toNat ≤ 90 ∨ 50 ≤ (s.getD i 0).toNat ∧ (s.getD i 0).toNat ≤ 57) → (s.take (i + 1)).all isLoc = true := fun h hc => by
   rw [all_take_succ h, h2, Bool.true_and]
   simp only [isLoc, Bool.or_eq_true, Bool.and_eq_true, decide_eq_true_eq]; omega
  have hfin : s.length ≤ i → locOk s = decide (s.length = 6) := fun h => by
   rw [List.take_of_length_le h] at h2
   unfold locOk; rw [h2]; rfl
  (conv => whnf)
  (repeat' ((first
   | ((with_reducible refine And.intro ?_ ?_); focus (first | omega | (simp only [inK_def, Go.Vc.lo, Go.Vc.hi]; omega)))
   | (split <;> rename_i hh <;> (try simp only [wS] at hh) <;> (try simp (disch := omega) only [wT] at hh))
   | with_reducible refine (fun (hln : (_ : Int) ≤ 9223372036854775807) => ?_)
   | fail) <;> (conv => whnf)))
  all_goals (try (show _ = _; simp only [wQ]))
  all_goals try (rw [hbad (by omega) (by omega)]; done)
  all_goals try (
   have g1 := hgood (by omega) (by omega)
   (conv => whnf)
   refine ⟨(i + 1 : Nat), [], ?_, ⟨⟨rfl, Nat.le_of_ble_eq_true rfl, rfl⟩, ?_, ?_⟩⟩
   ·exact ⟨⟨show i + 1 ≤ s.length by omega, g1⟩, show s.length - (i + 1) < s.length - i by omega⟩
   ·exact leL_rfl _
   ·(conv => whnf)
    (repeat' ((first | with_reducible exact True.intro | fail) <;> (conv => whnf)))
    all_goals (try simp only [wQ])
   )
  ·rw [hfin (by omega), eqI_eq, Bool.eq_iff_iff, beq_iff_eq, decide_eq_true_eq]; omega
end
end Go.Vc.Z
namespace Go.Vc.Z
open Go Go.Vc Go.Proofs Go.RowKit Go.Pl Go.Lib
noncomputable section
set_option maxRecDepth 100000
set_option linter.unusedSimpArgs false
set_option linter.unusedVariables false
attribute [local irreducible] inK Utf8.decode Utf8.encode Lib.itoa Pl.worth Pl.allDig
@[irreducible] def mayS (s : Int) : Bool := decide (1 ≤ s) && decide (s ≤ 9)
theorem mayS_iff {s : Int} : mayS s = true ↔ 1 ≤ s ∧ s ≤ 9 := by unfold mayS; simp
theorem mayS_cases {s : Int} (h : mayS s = true) : s = 1 ∨ s = 2 ∨ s = 3 ∨ s = 4 ∨ s = 5 ∨ s = 6 ∨ s = 7 ∨ s = 8 ∨ s = 9 := by have := mayS_iff.1 h; omega
def pcMayS : PC := PC.fun fun | [.int .i64 s] => some (True, .bool (sB (mayS s))) | _ => none
theorem g_status_May {W : World} (hW : Tabs W) : GoodP (Fw W) Tryz.prog 133 pcMayS := by
 have hD := d_number_Check hW
 have hC0 : CtrOk (Fw W) Tryz.prog C_number_Check := (c_number_Check hW)
 refine goodP_fun (D := D_number_Check) (C := C_number_Check) (wr := (fun _ => false)) rfl tyOk hD hC0 Tryz.func133 (fun _ _ => none) ?_
 clear hC0 hD hW
 intro cs p r h hf hp
 split at h
 case h_2 => cases h
 rename_i s
 cases h
 try simp only [factL, factA, inK_def, Go.Vc.lo, Go.Vc.hi, and_true] at hf
 (conv => whnf)
 (repeat' ((first
  | (split <;> rename_i hh <;> (try simp only [wS] at hh) <;> (try simp (disch := omega) only [wT] at hh))
  | fail) <;> (conv => whnf)))
 all_goals (try (show _ = _; simp only [wQ]))
 all_goals (try simp (disch := omega) only [Int.tdiv_eq_ediv_of_nonneg, Int.tmod_eq_emod_of_nonneg]); all_goals (first | (simp_all [sI_eq, sB_eq, sS_eq, ltI_eq, leI_eq, eqI_eq, mayS]; done) | (simp_all [sI_eq, sB_eq, sS_eq, ltI_eq, leI_eq, eqI_eq, mayS]; omega))
theorem g_couponref12_May {W : World} (hW : Tabs W) : GoodP (Fw W) Tryz.prog 69 pcMayS := by
 have hD := d_number_Check hW
 have hC0 : CtrOk (Fw W) Tryz.prog C_number_Check := (c_number_Check hW)
 refine goodP_fun (D := D_number_Check) (C := C_number_Check) (wr := (fun _ => false)) rfl tyOk hD hC0 Tryz.func69 (fun _ _ => none) ?_
 clear hC0 hD hW
 intro cs p r h hf hp
 split at h
 case h_2 => cases h
 rename_i s
 cases h
 try simp only [factL, factA, inK_def, Go.Vc.lo, Go.Vc.hi, and_true] at hf
 (conv => whnf)
 (repeat' ((first
  | (split <;> rename_i hh <;> (try simp only [wS] at hh) <;> (try simp (disch := omega) only [wT] at hh))
  | fail) <;> (conv => whnf)))
 all_goals (try (show _ = _; simp only [wQ]))
 all_goals (try simp (disch := omega) only [Int.tdiv_eq_ediv_of_nonneg, Int.tmod_eq_emod_of_nonneg]); all_goals (first | (simp_all [sI_eq, sB_eq, sS_eq, ltI_eq, leI_eq, eqI_eq, mayS]; done) | (simp_all [sI_eq, sB_eq, sS_eq, ltI_eq, leI_eq, eqI_eq, mayS]; omega))
def stL : List UInt8 := [79, 67, 76, 70, 69, 82, 86, 83, 65]
@[irreducible] def letterS (s : Int) : List UInt8 := if mayS s = true then (stL.drop (s - 1).toNat).take 1 else []
def pcLetter : PC := PC.fun fun | [.int .i64 s] => some (True, .str (sS (letterS s))) | _ => none
def D_status_Letter : PT := tabD [(133, pcMayS)]
theorem d_status_Letter {W : World} (hW : Tabs W) : PTOk (Fw W) Tryz.prog D_status_Letter := (tabD_cons Tryz.call133 (g_status_May hW) tabD_nil)
def C_status_Letter : FuncId → Option Ctr := tabC D_status_Letter []
theorem c_status_Letter {W : World} (hW : Tabs W) : CtrOk (Fw W) Tryz.prog C_status_Letter := (tabC_nil (d_status_Letter hW))
theorem g_status_Letter {W : World} (hW : Tabs W) : GoodP (Fw W) Tryz.prog 61 pcLetter := by
 have hD := d_status_Letter hW
 have hC0 : CtrOk (Fw W) Tryz.prog C_status_Letter := (c_status_Letter hW)
 refine goodP_fun (D := D_status_Letter) (C := C_status_Letter) (wr := (fun _ => false)) rfl tyOk hD hC0 Tryz.func61 (fun _ _ => none) ?_
 clear hC0 hD hW
 intro cs p r h hf hp
 split at h
 case h_2 => cases h
 rename_i s
 cases h
 try simp only [factL, factA, inK_def, Go.Vc.lo, Go.Vc.hi, and_true] at hf
 have hi := mayS_iff (s := s)
 (conv => whnf)
 (repeat' ((first
  | ((with_reducible refine And.intro ?_ ?_); focus (with_reducible exact True.intro))
  | (split <;> rename_i hh <;> (try simp only [wS] at hh) <;> (try simp (disch := omega) only [wT] at hh))
  | fail) <;> (conv => whnf)))
 all_goals (try (show _ = _; simp only [wQ]))
 ·unfold letterS; rw [if_neg (by simp_all)]
 ·have := hi.1 (by assumption)
  (conv => whnf)
  (repeat' ((first
   | ((with_reducible refine And.intro ?_ ?_); focus (first | omega | (simp only [inK_def, Go.Vc.lo, Go.Vc.hi]; omega) | (simp only [List.length_append, bytesOf_length, List.toList_toArray, List.length_cons, List.length_nil, List.length_take, List.length_drop, sS_eq]; omega)))
   | fail) <;> (conv => whnf)))
  all_goals (try (show _ = _; simp only [wQ]))
  unfold letterS
  rw [if_pos (by assumption)]
  show (stL.drop (s - 1).toNat).take (s.toNat - (s - 1).toNat) = _
  congr 1; omega
def rowsL : List (List UInt8) := [[79, 67, 69, 82, 86, 83, 65], [67, 79, 76], [76, 67, 70], [70], [69], [82], [86], [83, 79, 82], [65, 79, 70]]
def pcRows : PC := PC.fun fun | [] => some (True, .sl false 1 9 (fun e => [.str (rowsL.getD e [])])) | _ => none
theorem g_couponref12_Rows {W : World} (hW : Tabs W) : GoodP (Fw W) Tryz.prog 169 pcRows := by
 have hD := d_number_Check hW
 have hC0 : CtrOk (Fw W) Tryz.prog C_number_Check := (c_number_Check hW)
 refine goodP_fun (D := D_number_Check) (C := C_number_Check) (wr := (fun _ => false)) rfl tyOk hD hC0 Tryz.func169 (fun _ _ => none) ?_
 clear hC0 hD hW
 intro cs p r h hf hp
 split at h
 case h_2 => cases h
 skip
 cases h
 try simp only [factL, factA, inK_def, Go.Vc.lo, Go.Vc.hi, and_true] at hf
 (conv => whnf)
 (repeat' ((first
  | ((with_reducible refine And.intro ?_ ?_); focus (first | with_reducible rfl | decide))
  | fail) <;> (conv => whnf)))
 all_goals (try (show _ = _; simp only [wQ]))
 intro e he
 match e, he with
 | 0, _ => first | rfl | exact ⟨rfl, rfl⟩
 | 1, _ => first | rfl | exact ⟨rfl, rfl⟩
 | 2, _ => first | rfl | exact ⟨rfl, rfl⟩
 | 3, _ => first | rfl | exact ⟨rfl, rfl⟩
 | 4, _ => first | rfl | exact ⟨rfl, rfl⟩
 | 5, _ => first | rfl | exact ⟨rfl, rfl⟩
 | 6, _ => first | rfl | exact ⟨rfl, rfl⟩
 | 7, _ => first | rfl | exact ⟨rfl, rfl⟩
 | 8, _ => first | rfl | exact ⟨rfl, rfl⟩
 | e + 9, he => exact absurd he (by omega)
theorem letter_rows {s : Int} (h : mayS s = true) : (rowsL.getD (s - 1).toNat []).take 1 = letterS s ∧ 1 ≤ (rowsL.getD (s - 1).toNat []).length := by
 unfold letterS; rw [if_pos h]
 rcases mayS_cases h with rfl | rfl | rfl | rfl | rfl | rfl | rfl | rfl | rfl <;> exact ⟨rfl, by decide⟩
def D_couponref12_Letter : PT := tabD [(69, pcMayS), (169, pcRows)]
theorem d_couponref12_Letter {W : World} (hW : Tabs W) : PTOk (Fw W) Tryz.prog D_couponref12_Letter := (tabD_cons Tryz.call69 (g_couponref12_May hW) (tabD_cons Tryz.call169 (g_couponref12_Rows hW) tabD_nil))
def C_couponref12_Letter : FuncId → Option Ctr := tabC D_couponref12_Letter []
theorem c_couponref12_Letter {W : World} (hW : Tabs W) : CtrOk (Fw W) Tryz.prog C_couponref12_Letter := (tabC_nil (d_couponref12_Letter hW))
theorem g_couponref12_Letter {W : World} (hW : Tabs W) : GoodP (Fw W) Tryz.prog 82 pcLetter := by
 have hD := d_couponref12_Letter hW
 have hC0 : CtrOk (Fw W) Tryz.prog C_couponref12_Letter := (c_couponref12_Letter hW)
 refine goodP_fun (D := D_couponref12_Letter) (C := C_couponref12_Letter) (wr := (fun _ => false)) rfl tyOk hD hC0 Tryz.func82 (fun _ _ => none) ?_
 clear hC0 hD hW
 intro cs p r h hf hp
 split at h
 case h_2 => cases h
 rename_i s
 cases h
 try simp only [factL, factA, inK_def, Go.Vc.lo, Go.Vc.hi, and_true] at hf
 have hi := mayS_iff (s := s)
 have hr := letter_rows (s := s)
 (conv => whnf)
 (repeat' ((first
  | ((with_reducible refine And.intro ?_ ?_); focus (with_reducible exact True.intro))
  | (split <;> rename_i hh <;> (try simp only [wS] at hh) <;> (try simp (disch := omega) only [wT] at hh))
  | fail) <;> (conv => whnf)))
 all_goals (try (show _ = _; simp only [wQ]))
 ·unfold letterS; rw [if_neg (by simp_all)]
 ·have h1 := hi.1 (by assumption)
  have h2 := hr (by assumption)
  have h3 : Int.toNat 1 ≤ (rowsL.getD (s - 1).toNat []).length := h2.2
  (conv => whnf)
  (repeat' ((first
   | ((with_reducible refine And.intro ?_ ?_); focus (first | omega | (simp only [inK_def, Go.Vc.lo, Go.Vc.hi]; omega)))
   | fail) <;> (conv => whnf)))
  all_goals (try (show _ = _; simp only [wQ]))
  exact h2.1
theorem letter_one {s : Int} (h : mayS s = true) : ∃ c, letterS s = [c] ∧ stL[(s - 1).toNat]? = some c := by
 unfold letterS; rw [if_pos h]
 rcases mayS_cases h with rfl | rfl | rfl | rfl | rfl | rfl | rfl | rfl | rfl <;> exact ⟨_, rfl, rfl⟩
end
end Go.Vc.Z
namespace Go.Vc.Z
open Go Go.Vc Go.Proofs Go.RowKit Go.Pl Go.Lib
noncomputable section
set_option maxRecDepth 100000
set_option linter.unusedSimpArgs false
set_option linter.unusedVariables false
attribute [local irreducible] inK Utf8.decode Utf8.encode Lib.itoa Pl.worth Pl.allDig
@[irreducible] def dayB (n : Int) : Bool := decide (0 ≤ n) && decide (n ≤ 1000000)
@[irreducible] def moneyB (n : Int) : Bool := decide (-1000000000000 ≤ n) && decide (n ≤ 1000000000000)
@[irreducible] def someB (n : Int) : Bool := decide (0 ≤ n) && decide (n ≤ 1000000000000)
@[irreducible] def numdB (n : Int) : Bool := decide (checkN n = 0)
def pcDay : PC := PC.fun fun | [.int .i64 n] => some (True, .bool (sB (dayB n))) | _ => none
def pcMoney : PC := PC.fun fun | [.int .i64 n] => some (True, .bool (sB (moneyB n))) | _ => none
def pcSome : PC := PC.fun fun | [.int .i64 n] => some (True, .bool (sB (someB n))) | _ => none
def pcNumd : PC := PC.fun fun | [.int .u64 n] => some (True, .bool (sB (numdB n))) | _ => none
theorem g_couponref16_day {W : World} (hW : Tabs W) : GoodP (Fw W) Tryz.prog 138 pcDay := by
 have hD := d_number_Check hW
 have hC0 : CtrOk (Fw W) Tryz.prog C_number_Check := (c_number_Check hW)
 refine goodP_fun (D := D_number_Check) (C := C_number_Check) (wr := (fun _ => false)) rfl tyOk hD hC0 Tryz.func138 (fun _ _ => none) ?_
 clear hC0 hD hW
 intro cs p r h hf hp
 split at h
 case h_2 => cases h
 rename_i n
 cases h
 try simp only [factL, factA, inK_def, Go.Vc.lo, Go.Vc.hi, and_true] at hf
 (conv => whnf)
 (repeat' ((first
  | (split <;> rename_i hh <;> (try simp only [wS] at hh) <;> (try simp (disch := omega) only [wT] at hh))
  | fail) <;> (conv => whnf)))
 all_goals (try (show _ = _; simp only [wQ]))
 all_goals (try simp (disch := omega) only [Int.tdiv_eq_ediv_of_nonneg, Int.tmod_eq_emod_of_nonneg]); all_goals (first | (simp_all [sI_eq, sB_eq, sS_eq, ltI_eq, leI_eq, eqI_eq, dayB]; done) | (simp_all [sI_eq, sB_eq, sS_eq, ltI_eq, leI_eq, eqI_eq, dayB]; omega))
theorem g_fare_May {W : World} (hW : Tabs W) : GoodP (Fw W) Tryz.prog 207 pcMoney := by
 have hD := d_number_Check hW
 have hC0 : CtrOk (Fw W) Tryz.prog C_number_Check := (c_number_Check hW)
 refine goodP_fun (D := D_number_Check) (C := C_number_Check) (wr := (fun _ => false)) rfl tyOk hD hC0 Tryz.func207 (fun _ _ => none) ?_
 clear hC0 hD hW
 intro cs p r h hf hp
 split at h
 case h_2 => cases h
 rename_i n
 cases h
 try simp only [factL, factA, inK_def, Go.Vc.lo, Go.Vc.hi, and_true] at hf
 (conv => whnf)
 (repeat' ((first
  | (split <;> rename_i hh <;> (try simp only [wS] at hh) <;> (try simp (disch := omega) only [wT] at hh))
  | fail) <;> (conv => whnf)))
 all_goals (try (show _ = _; simp only [wQ]))
 all_goals (try simp (disch := omega) only [Int.tdiv_eq_ediv_of_nonneg, Int.tmod_eq_emod_of_nonneg]); all_goals (first | (simp_all [sI_eq, sB_eq, sS_eq, ltI_eq, leI_eq, eqI_eq, moneyB]; done) | (simp_all [sI_eq, sB_eq, sS_eq, ltI_eq, leI_eq, eqI_eq, moneyB]; omega))
def D_ticket_some : PT := tabD [(207, pcMoney)]
theorem d_ticket_some {W : World} (hW : Tabs W) : PTOk (Fw W) Tryz.prog D_ticket_some := (tabD_cons Tryz.call207 (g_fare_May hW) tabD_nil)
theorem g_couponref16_some {W : World} (hW : Tabs W) : GoodP (Fw W) Tryz.prog 139 pcSome := by
 have hD := d_number_Check hW
 have hC0 : CtrOk (Fw W) Tryz.prog C_number_Check := (c_number_Check hW)
 refine goodP_fun (D := D_number_Check) (C := C_number_Check) (wr := (fun _ => false)) rfl tyOk hD hC0 Tryz.func139 (fun _ _ => none) ?_
 clear hC0 hD hW
 intro cs p r h hf hp
 split at h
 case h_2 => cases h
 rename_i n
 cases h
 try simp only [factL, factA, inK_def, Go.Vc.lo, Go.Vc.hi, and_true] at hf
 (conv => whnf)
 (repeat' ((first
  | (split <;> rename_i hh <;> (try simp only [wS] at hh) <;> (try simp (disch := omega) only [wT] at hh))
  | fail) <;> (conv => whnf)))
 all_goals (try (show _ = _; simp only [wQ]))
 all_goals (try simp (disch := omega) only [Int.tdiv_eq_ediv_of_nonneg, Int.tmod_eq_emod_of_nonneg]); all_goals (first | (simp_all [sI_eq, sB_eq, sS_eq, ltI_eq, leI_eq, eqI_eq, someB]; done) | (simp_all [sI_eq, sB_eq, sS_eq, ltI_eq, leI_eq, eqI_eq, someB]; omega))
def D_couponref13_Numbered : PT := tabD [(135, pcCheck)]
theorem d_couponref13_Numbered {W : World} (hW : Tabs W) : PTOk (Fw W) Tryz.prog D_couponref13_Numbered := (tabD_cons Tryz.call135 (g_couponref10_Check hW) tabD_nil)
def C_couponref13_Numbered : FuncId → Option Ctr := tabC D_couponref13_Numbered []
theorem c_couponref13_Numbered {W : World} (hW : Tabs W) : CtrOk (Fw W) Tryz.prog C_couponref13_Numbered := (tabC_nil (d_couponref13_Numbered hW))
theorem g_couponref13_Numbered {W : World} (hW : Tabs W) : GoodP (Fw W) Tryz.prog 63 pcNumd := by
 have hD := d_couponref13_Numbered hW
 have hC0 : CtrOk (Fw W) Tryz.prog C_couponref13_Numbered := (c_couponref13_Numbered hW)
 refine goodP_fun (D := D_couponref13_Numbered) (C := C_couponref13_Numbered) (wr := (fun _ => false)) rfl tyOk hD hC0 Tryz.func63 (fun _ _ => none) ?_
 clear hC0 hD hW
 intro cs p r h hf hp
 split at h
 case h_2 => cases h
 rename_i n
 cases h
 try simp only [factL, factA, inK_def, Go.Vc.lo, Go.Vc.hi, and_true] at hf
 (conv => whnf)
 (repeat' ((first
  | ((with_reducible refine And.intro ?_ ?_); focus (with_reducible exact True.intro))
  | fail) <;> (conv => whnf)))
 all_goals (try (show _ = _; simp only [wQ]))
 all_goals (try simp (disch := omega) only [Int.tdiv_eq_ediv_of_nonneg, Int.tmod_eq_emod_of_nonneg]); all_goals (first | (rw [Bool.eq_iff_iff]; simp [sI_eq, sB_eq, sS_eq, ltI_eq, leI_eq, eqI_eq, numdB]; done))
end
end Go.Vc.Z
namespace Go.Vc.Z
open Go Go.Vc Go.Proofs Go.RowKit Go.Pl Go.Lib
noncomputable section
set_option maxRecDepth 100000
set_option linter.unusedSimpArgs false
set_option linter.unusedVariables false
attribute [local irreducible] inK Utf8.decode Utf8.encode Lib.itoa Pl.worth Pl.allDig
def taxesFrom : Int → List Tax → Bool
 | _, [] => true
 | least, x :: t => decide (least ≤ x.code) && decide (x.code ≤ 99) && someB x.amount && taxesFrom (x.code + 1) t
@[irreducible] def taxesB (l : List Tax) : Bool := taxesFrom 1 l && decide (l.length ≤ 4)
def pcTaxes : PC := PC.of (fun l : List Tax => [slE 2 Tax.enc l]) (fun _ => True) (fun l => .bool (sB (taxesB l)))
theorem drop_getD {α : Type} [Inhabited α] {l : List α} {i : Nat} (h : i < l.length) : l.drop i = l.getD i default :: l.drop (i + 1) := by
 rw [List.drop_eq_getElem_cons h, List.getD_eq_getElem?_getD, List.getElem?_eq_getElem h]; rfl
end
end Go.Vc.Z
namespace Go.Vc.Z
open Go Go.Vc Go.Proofs Go.RowKit Go.Pl Go.Lib
noncomputable section
set_option maxRecDepth 100000
set_option linter.unusedSimpArgs false
set_option linter.unusedVariables false
attribute [local irreducible] inK Utf8.decode Utf8.encode Lib.itoa Pl.worth Pl.allDig
end
end Go.Vc.Z
namespace Go.Vc.Z
open Go Go.Vc Go.Proofs Go.RowKit Go.Pl Go.Lib
noncomputable section
set_option maxRecDepth 100000
set_option linter.unusedSimpArgs false
set_option linter.unusedVariables false
attribute [local irreducible] inK Utf8.decode Utf8.encode Lib.itoa Pl.worth Pl.allDig
theorem dayB_le {n : Int} (h : dayB n = true) : 0 ≤ n ∧ n ≤ 1000000 := by
 unfold dayB at h; simp at h; omega
end
end Go.Vc.Z
namespace Go.Vc.Z
open Go Go.Vc Go.Proofs Go.RowKit Go.Pl Go.Lib
noncomputable section
set_option maxRecDepth 100000
set_option linter.unusedSimpArgs false
set_option linter.unusedVariables false
attribute [local irreducible] inK Utf8.decode Utf8.encode Lib.itoa Pl.worth Pl.allDig
end
end Go.Vc.Z
namespace Go.Vc.Z
open Go Go.Vc Go.Proofs Go.RowKit Go.Pl Go.Lib
noncomputable section
set_option maxRecDepth 100000
set_option linter.unusedSimpArgs false
set_option linter.unusedVariables false
attribute [local irreducible] inK Utf8.decode Utf8.encode Lib.itoa Pl.worth Pl.allDig
@[irreducible] def plainB (c : Coupon) (s : Int) : Bool :=
 decide (1 ≤ c.flight) && decide (c.flight ≤ 9999) && dayB c.day && someB c.value && decide (c.status = s) && decide (c.holder = 0) && decide (c.next = 0)
theorem eqA_coupon (k : Nat) (f d v s h x f' d' v' s' h' x' : Int) : eqA TY (k + 3) 45 (.agg [.int .i64 f, .int .i64 d, .int .i64 v, .int .i64 s, .int .i64 h, .int .u64 x]) (.agg [.int .i64 f', .int .i64 d', .int .i64 v', .int .i64 s', .int .i64 h', .int .u64 x']) = some (f == f' && (d == d' && (v == v' && (s == s' && (h == h' && x == x'))))) := by
 have e45 : TY 45 = some ty45 := rfl
 have e3 : TY 3 = some ty3 := rfl
 have e2 : TY 2 = some ty2 := rfl
 have e43 : TY 43 = some ty43 := rfl
 have e37 : TY 37 = some ty37 := rfl
 simp [eqA, eqFs, e45, e3, e2, e43, e37, ty45, ty3, ty2, ty43, ty37, loadA, eqI_eq]
theorem optP_coupon {k : Nat} {f d v s h x f' d' v' s' h' x' : Int} {N : Bool → Prop} (hN : N (f == f' && (d == d' && (v == v' && (s == s' && (h == h' && x == x')))))) : optP (eqA TY (k + 3) 45 (.agg [.int .i64 f, .int .i64 d, .int .i64 v, .int .i64 s, .int .i64 h, .int .u64 x]) (.agg [.int .i64 f', .int .i64 d', .int .i64 v', .int .i64 s', .int .i64 h', .int .u64 x'])) N := by
 rw [eqA_coupon]; exact hN
def pcPlain : PC := PC.of (fun x : Coupon × Int => [.agg x.1.enc, .int .i64 x.2]) (fun _ => True) (fun x => .bool (sB (plainB x.1 x.2)))
def D_couponref16_plain : PT := tabD [(138, pcDay), (139, pcSome)]
theorem d_couponref16_plain {W : World} (hW : Tabs W) : PTOk (Fw W) Tryz.prog D_couponref16_plain := (tabD_cons Tryz.call138 (g_couponref16_day hW) (tabD_cons Tryz.call139 (g_couponref16_some hW) tabD_nil))
def C_couponref16_plain : FuncId → Option Ctr := tabC D_couponref16_plain []
theorem c_couponref16_plain {W : World} (hW : Tabs W) : CtrOk (Fw W) Tryz.prog C_couponref16_plain := (tabC_nil (d_couponref16_plain hW))
set_option maxHeartbeats 2000000 in
theorem g_couponref16_plain {W : World} (hW : Tabs W) : GoodP (Fw W) Tryz.prog 70 pcPlain := by
 have hD := d_couponref16_plain hW
 have hC0 : ∀ x : Coupon × Int, CtrOk (Fw W) Tryz.prog C_couponref16_plain := fun x => (c_couponref16_plain hW)
 refine goodP_ofC (D := D_couponref16_plain) (C := fun x => C_couponref16_plain) (wr := (fun _ => false)) rfl tyOk hD hC0 Tryz.func70 (fun _ _ => none) (fun _ => rfl) ?_
 rintro ⟨c, s⟩ hf hp
 clear hf
 (conv => whnf)
 (repeat' ((first
  | ((with_reducible refine And.intro ?_ ?_); focus (with_reducible exact True.intro))
  | (split <;> rename_i hh <;> (try simp only [wS] at hh) <;> (try simp (disch := omega) only [wT] at hh))
  | fail) <;> (conv => whnf)))
 all_goals (try (show _ = _; simp only [wQ]))
 all_goals (unfold plainB; first | (simp_all [ltI_eq, leI_eq, eqI_eq]; done) | (rw [Bool.eq_iff_iff]; simp_all [ltI_eq, leI_eq, eqI_eq]; done) | (rw [Bool.eq_iff_iff]; simp_all [ltI_eq, leI_eq, eqI_eq]; omega))
def cellOf (H : List Blk) (p k : Nat) : Option AV := match H[p]? with | some (.var cs _) => cs[k]? | _ => none
def numOk (g : Bool) (lo n hi : Int) : Bool := g && (leI lo n && leI n hi)
theorem numOk_lo {g : Bool} {lo n hi : Int} (h : n < lo) : false = numOk g lo n hi := by
 unfold numOk; rw [leI_eq, decide_eq_false (by omega)]; simp
theorem numOk_hi {lo n hi : Int} (h : lo ≤ n) : leI n hi = numOk true lo n hi := by
 unfold numOk; rw [leI_eq lo, decide_eq_true h]; simp
theorem inlC_number {TY : TypeId → Option TI} {C : FuncId → Option Ctr} {D : PT} {wr : Tmp → Bool} {L : List AV → List Blk → Nat → Option LR} {fn : Func} {H : List Blk} {Q : AV → List Blk → Prop} {p q j : Nat} {sz lo hi n : Int} {g : Bool} (hg : cellOf H p 2 = some (.bool g)) (hn : cellOf H q j = some (.int .i64 n))
  (h1 : fnE TY C D wr (L [.ptr p 0, .ptr q j, .int .i64 sz, .int .i64 lo, .int .i64 hi] H) fn [.ptr p 0, .ptr q j, .int .i64 sz, .int .i64 lo, .int .i64 hi] H (fun c H' => c = .tup [] ∧ ∃ b, b = numOk g lo n hi ∧ H' = setCell (setCell H p 2 (.bool b)) q j (.int .i64 0)))
  (h2 : Q (.tup []) (setCell (setCell H p 2 (.bool (sB (numOk g lo n hi)))) q j (.int .i64 0))) : inlC TY C D wr L fn [.ptr p 0, .ptr q j, .int .i64 sz, .int .i64 lo, .int .i64 hi] H Q :=
 inlC_num _ p 2 q j _ _ h1 h2
end
end Go.Vc.Z
namespace Go.Vc.Z
open Go Go.Vc Go.Proofs Go.RowKit Go.Pl Go.Lib
noncomputable section
set_option maxRecDepth 100000
set_option linter.unusedSimpArgs false
set_option linter.unusedVariables false
attribute [local irreducible] inK Utf8.decode Utf8.encode Lib.itoa Pl.worth Pl.allDig
end
end Go.Vc.Z
namespace Go.Vc.Z
open Go Go.Vc Go.Proofs Go.RowKit Go.Pl Go.Lib
noncomputable section
set_option maxRecDepth 100000
set_option linter.unusedSimpArgs false
set_option linter.unusedVariables false
attribute [local irreducible] inK Utf8.decode Utf8.encode Lib.itoa Pl.worth Pl.allDig
end
end Go.Vc.Z
namespace Go.Vc.Z
open Go Go.Vc Go.Proofs Go.RowKit Go.Pl Go.Lib
noncomputable section
set_option maxRecDepth 100000
set_option linter.unusedSimpArgs false
set_option linter.unusedVariables false
attribute [local irreducible] inK Utf8.decode Utf8.encode Lib.itoa Pl.worth Pl.allDig
def L_couponref01_Text : List AV → Nat → Option LR := fun cs i => match cs with | [.int .u64 n] => cond (Nat.beq i 2) (some (.inv (LDigits n))) (none) | _ => none
theorem g_couponref01_Text {W : World} (hW : Tabs W) : GoodP (Fw W) Tryz.prog 192 pcDigits := by
 have hD := d_number_Check hW
 have hC0 : CtrOk (Fw W) Tryz.prog C_number_Check := (c_number_Check hW)
 refine goodP_fun (D := D_number_Check) (C := C_number_Check) (wr := (fun _ => false)) rfl tyOk hD hC0 Tryz.func192 (L_couponref01_Text) ?_
 clear hC0 hD hW
 intro cs p r h hf hp
 split at h
 case h_2 => cases h
 rename_i n
 cases h
 try simp only [factL, factA, inK_def, Go.Vc.lo, Go.Vc.hi, and_true] at hf
 (conv => whnf)
 all_goals (try (show _ = _; simp only [wQ]))
 refine ⟨?_, fun (x : Nat × List UInt8) (hx : x.1 ≤ n.toNat ∧ (if x.1 = 0 ∧ x.2 ≠ [] then x.2 else decDigits x.1 ++ x.2) = decDigits n.toNat) => ?_⟩
 ·(conv => whnf)
  refine ⟨((n.toNat, []) : Nat × List UInt8), [], ?_, ⟨⟨rfl, Nat.le_of_ble_eq_true rfl, rfl⟩, ?_, ?_⟩⟩
  ·exact ⟨Nat.le_refl _, by simp⟩
  ·(conv => whnf)
   (repeat' ((first | with_reducible exact True.intro | ((with_reducible refine And.intro ?_ ?_); focus (first | with_reducible rfl | omega | exact Nat.le_of_ble_eq_true rfl | rfl)) | with_reducible refine And.intro (?_ : leA _ _ _) ?_ | fail) <;> (conv => whnf)))
   all_goals (try simp only [wQ])
   all_goals (try first | omega)
  ·(conv => whnf)
   (repeat' ((first | with_reducible exact True.intro | fail) <;> (conv => whnf)))
   all_goals (try simp only [wQ])
 ·obtain ⟨h1, h2⟩ := hx
  have hl : x.2.length ≤ 30 := by
   have := congrArg List.length h2
   have h20 : (decDigits n.toNat).length ≤ 30 := by rw [decDigits_length]; exact Nat.le_trans (nDigits_le 29 _ (by omega)) (by omega)
   split at this <;> (try simp at this) <;> omega
  (conv => whnf)
  (repeat' ((first
   | ((with_reducible refine And.intro ?_ ?_); focus (first | omega | (intro e he; rcases (by omega : e = 0 ∨ e = 1 ∨ e = 2) with rfl | rfl | rfl <;> first | rfl | (exfalso; omega)) | (simp only [inK_def, Go.Vc.lo, Go.Vc.hi]; omega) | (simp only [List.length_append, bytesOf_length, List.toList_toArray, List.length_cons, List.length_nil, List.length_take, List.length_drop, sS_eq]; omega)))
   | (split <;> rename_i hh <;> (try simp only [wS] at hh) <;> (try simp (disch := omega) only [wT] at hh))
   | fail) <;> (conv => whnf)))
  all_goals (try (show _ = _; simp only [wQ]))
  ·(conv => whnf)
   refine ⟨((x.1 / 10, UInt8.ofNat (48 + x.1 % 10) :: x.2) : Nat × List UInt8), [], ?_, ⟨⟨rfl, Nat.le_of_ble_eq_true rfl, rfl⟩, ?_, ?_⟩⟩
   ·refine ⟨⟨show x.1 / 10 ≤ n.toNat by omega, (digits_step (n := x.1) (s := x.2) (.inl (by omega))).trans h2⟩, ?_⟩
    show 2 * (x.1 / 10) + (if UInt8.ofNat (48 + x.1 % 10) :: x.2 = [] then 1 else 0) < 2 * x.1 + (if x.2 = [] then 1 else 0)
    rw [if_neg (by simp)]; omega
   ·exact leL_rfl _
   ·(conv => whnf)
    (repeat' ((first | with_reducible exact True.intro | fail) <;> (conv => whnf)))
    all_goals (try simp only [wQ])
  ·(conv => whnf)
   refine ⟨((x.1 / 10, UInt8.ofNat (48 + x.1 % 10) :: x.2) : Nat × List UInt8), [], ?_, ⟨⟨rfl, Nat.le_of_ble_eq_true rfl, rfl⟩, ?_, ?_⟩⟩
   ·refine ⟨⟨show x.1 / 10 ≤ n.toNat by omega, (digits_step (n := x.1) (s := x.2) (.inr (by assumption))).trans h2⟩, ?_⟩
    show 2 * (x.1 / 10) + (if UInt8.ofNat (48 + x.1 % 10) :: x.2 = [] then 1 else 0) < 2 * x.1 + (if x.2 = [] then 1 else 0)
    rw [if_neg (by simp), if_pos (by assumption)]; omega
   ·exact leL_rfl _
   ·(conv => whnf)
    (repeat' ((first | with_reducible exact True.intro | fail) <;> (conv => whnf)))
    all_goals (try simp only [wQ])
  ·have h0 : x.1 = 0 := by omega
   rw [← h2, if_pos ⟨h0, by assumption⟩]
def pcNum : PC := PC.fun fun | [.int .i64 n] => some (True, .str (sS (Lib.itoa n))) | _ => none
def D_couponref01_Whole : PT := tabD [(192, pcDigits)]
theorem d_couponref01_Whole {W : World} (hW : Tabs W) : PTOk (Fw W) Tryz.prog D_couponref01_Whole := (tabD_cons Tryz.call192 (g_couponref01_Text hW) tabD_nil)
def C_couponref01_Whole : FuncId → Option Ctr := tabC D_couponref01_Whole []
theorem c_couponref01_Whole {W : World} (hW : Tabs W) : CtrOk (Fw W) Tryz.prog C_couponref01_Whole := (tabC_nil (d_couponref01_Whole hW))
theorem g_couponref01_Whole {W : World} (hW : Tabs W) : GoodP (Fw W) Tryz.prog 117 pcNum := by
 have hD := d_couponref01_Whole hW
 have hC0 : CtrOk (Fw W) Tryz.prog C_couponref01_Whole := (c_couponref01_Whole hW)
 refine goodP_fun (D := D_couponref01_Whole) (C := C_couponref01_Whole) (wr := (fun _ => false)) rfl tyOk hD hC0 Tryz.func117 (fun _ _ => none) ?_
 clear hC0 hD hW
 intro cs p r h hf hp
 split at h
 case h_2 => cases h
 rename_i n
 cases h
 try simp only [factL, factA, inK_def, Go.Vc.lo, Go.Vc.hi, and_true] at hf
 have e1 : 0 ≤ n → Lib.itoa n = decDigits n.toNat := fun h => by unfold Lib.itoa; rw [if_neg (by omega)]
 have e2 : n < 0 → Lib.itoa n = 45 :: decDigits (-(n + 1) + 1).toNat := fun h => by unfold Lib.itoa; rw [if_pos h]; congr 2; omega
 have h20 : (decDigits (-(n + 1) + 1).toNat).length ≤ 30 := by
  rw [decDigits_length]
  exact Nat.le_trans (nDigits_le 29 _ (by omega)) (by omega)
 (conv => whnf)
 (repeat' ((first
  | ((with_reducible refine And.intro ?_ ?_); focus (first | with_reducible exact True.intro | (simp only [inK_def, Go.Vc.lo, Go.Vc.hi]; omega) | (simp only [List.length_append, bytesOf_length, List.toList_toArray, List.length_cons, List.length_nil, List.length_take, List.length_drop, sS_eq]; omega)))
  | (split <;> rename_i hh <;> (try simp only [wS] at hh) <;> (try simp (disch := omega) only [wT] at hh))
  | fail) <;> (conv => whnf)))
 all_goals (try (show _ = _; simp only [wQ]))
 ·rw [e1 (by assumption)]
 ·rw [e2 (by assumption)]; rfl
def D_couponref26_num : PT := tabD [(117, pcNum)]
theorem d_couponref26_num {W : World} (hW : Tabs W) : PTOk (Fw W) Tryz.prog D_couponref26_num := (tabD_cons Tryz.call117 (g_couponref01_Whole hW) tabD_nil)
def C_couponref26_num : FuncId → Option Ctr := tabC D_couponref26_num []
theorem c_couponref26_num {W : World} (hW : Tabs W) : CtrOk (Fw W) Tryz.prog C_couponref26_num := (tabC_nil (d_couponref26_num hW))
theorem g_couponref26_num {W : World} (hW : Tabs W) : GoodP (Fw W) Tryz.prog 49 pcNum := by
 have hD := d_couponref26_num hW
 have hC0 : CtrOk (Fw W) Tryz.prog C_couponref26_num := (c_couponref26_num hW)
 refine goodP_fun (D := D_couponref26_num) (C := C_couponref26_num) (wr := (fun _ => false)) rfl tyOk hD hC0 Tryz.func49 (fun _ _ => none) ?_
 clear hC0 hD hW
 intro cs p r h hf hp
 split at h
 case h_2 => cases h
 rename_i n
 cases h
 try simp only [factL, factA, inK_def, Go.Vc.lo, Go.Vc.hi, and_true] at hf
 (conv => whnf)
 (repeat' ((first
  | ((with_reducible refine And.intro ?_ ?_); focus (with_reducible exact True.intro))
  | fail) <;> (conv => whnf)))
 all_goals (try (show _ = _; simp only [wQ]))
@[irreducible] def isDec (s : List UInt8) : Bool := allDig s && (s == [48] || (s != [] && s.getD 0 0 != 48))
theorem isDec_spec {s : List UInt8} (h : isDec s = true) : allDig s = true ∧ s ≠ [] ∧ (∀ t, s = 48 :: t → t = []) := by
 unfold isDec at h
 simp only [Bool.and_eq_true, Bool.or_eq_true, beq_iff_eq, bne_iff_ne] at h
 obtain ⟨h1, h2⟩ := h
 refine ⟨h1, ?_, ?_⟩
 ·rcases h2 with rfl | ⟨h2, _⟩
  ·simp
  ·exact h2
 ·rintro t rfl
  rcases h2 with h2 | ⟨_, h2⟩
  ·simpa using h2
  ·exact absurd rfl h2
@[irreducible] def decOf (s : List UInt8) (m : Int) : Int × Int := if isDec s = true then (if m < (worth s : Int) then (0, 5) else ((worth s : Int), 0)) else (0, 4)
def pcDecimal : PC := PC.fun fun | [.str s, .int .u64 m] => some (True, .tup [.int .u64 (sI (decOf s m).1), .int .i64 (sI (decOf s m).2)]) | _ => none
def digitW (c b : Int) : Int := if 48 ≤ c ∧ c ≤ 57 then (if c - 48 ≥ b then -1 else c - 48) else if 97 ≤ c ∧ c ≤ 102 then (if c - 87 ≥ b then -1 else c - 87) else -1
def pcDig : PC := PC.fun fun | [.int .i32 c, .int .i64 b] => some (2 ≤ b, .int .i64 (sI (digitW c b))) | _ => none
theorem g_wire_digit {W : World} (hW : Tabs W) : GoodP (Fw W) Tryz.prog 242 pcDig := by
 have hD := d_number_Check hW
 have hC0 : CtrOk (Fw W) Tryz.prog C_number_Check := (c_number_Check hW)
 refine goodP_fun (D := D_number_Check) (C := C_number_Check) (wr := (fun _ => false)) rfl tyOk hD hC0 Tryz.func242 (fun _ _ => none) ?_
 clear hC0 hD hW
 intro cs p r h hf hp
 split at h
 case h_2 => cases h
 rename_i c b
 cases h
 try simp only [factL, factA, inK_def, Go.Vc.lo, Go.Vc.hi, and_true] at hf
 (conv => whnf)
 (repeat' ((first
  | ((with_reducible refine And.intro ?_ ?_); focus (first | with_reducible rfl | omega | (simp only [inK_def, Go.Vc.lo, Go.Vc.hi]; omega)))
  | (split <;> rename_i hh <;> (try simp only [wS] at hh) <;> (try simp (disch := omega) only [wT] at hh))
  | fail) <;> (conv => whnf)))
 all_goals (try (show _ = _; simp only [wQ]))
 all_goals (unfold digitW; repeat' split) <;> omega
end
end Go.Vc.Z
namespace Go.Vc.Z
open Go Go.Vc Go.Proofs Go.RowKit Go.Pl Go.Lib
noncomputable section
set_option maxRecDepth 100000
set_option linter.unusedSimpArgs false
set_option linter.unusedVariables false
attribute [local irreducible] inK Utf8.decode Utf8.encode Lib.itoa Pl.worth Pl.allDig
theorem wrap_u64 (n : Int) : IntKind.u64.wrap n = n % 18446744073709551616 := by simp [IntKind.wrap, IntKind.bits, IntKind.signed]
def LDecimal (s : List UInt8) (m : Int) : LoopSpec := {
 α := Nat
 keep := [1, 6, 7, 23]
 vals i := [.int .u64 m, .int .u64 (sI ((worth (s.take i) % 18446744073709551616 : Nat) : Int)), .bool (sB (decide (18446744073709551615 < worth (s.take i)))), .iter 0]
 heap i := [.iter s i]
 ok i := i ≤ s.length ∧ allDig (s.take i) = true
 μ i := s.length - i }
def D_wire_Decimal : PT := tabD [(242, pcDig)]
theorem d_wire_Decimal {W : World} (hW : Tabs W) : PTOk (Fw W) Tryz.prog D_wire_Decimal := (tabD_cons Tryz.call242 (g_wire_digit hW) tabD_nil)
def C_wire_Decimal : FuncId → Option Ctr := tabC D_wire_Decimal []
theorem c_wire_Decimal {W : World} (hW : Tabs W) : CtrOk (Fw W) Tryz.prog C_wire_Decimal := (tabC_nil (d_wire_Decimal hW))
def L_wire_Decimal : List AV → Nat → Option LR := fun cs i => match cs with | [.str s, .int _ m] => cond (Nat.beq i 5) (some (.inv (LDecimal s m))) (none) | _ => none
set_option maxHeartbeats 2000000 in
theorem g_wire_Decimal {W : World} (hW : Tabs W) : GoodP (Fw W) Tryz.prog 176 pcDecimal := by
 have hD := d_wire_Decimal hW
 have hC0 : CtrOk (Fw W) Tryz.prog C_wire_Decimal := (c_wire_Decimal hW)
 refine goodP_fun (D := D_wire_Decimal) (C := C_wire_Decimal) (wr := (fun t => Nat.beq t 41 || Nat.beq t 44)) rfl tyOk hD hC0 Tryz.func176 (L_wire_Decimal) ?_
 clear hC0 hD hW
 intro cs p r h hf hp
 split at h
 case h_2 => cases h
 rename_i s m
 cases h
 try simp only [factL, factA, inK_def, Go.Vc.lo, Go.Vc.hi, and_true] at hf
 have e0 : s.getD (Int.toNat 0) 0 = s.getD 0 0 := rfl
 have hbyte : ∀ c : UInt8, eqI (c.toNat : Int) 48 = (c == 48) := fun c => eqI_byte c 48
 by_cases hs : s = []
 ·subst hs
  have e : decOf [] m = (0, 4) := by unfold decOf; rw [if_neg (by simp [isDec])]
  (conv => whnf)
  (repeat' ((first
   | with_reducible exact True.intro
   | ((with_reducible refine And.intro ?_ ?_); focus (with_reducible rfl))
   | with_reducible refine And.intro (?_ : leA _ _ _) ?_
   | fail) <;> (conv => whnf)))
  all_goals (try (show _ = _; simp only [wQ]))
  all_goals first | (rw [e]; done) | skip
 ·have hpos : 0 < s.length := List.length_pos_iff.2 hs
  by_cases hz : ((s.getD (Int.toNat 0) 0).toNat : Int) = 48 ∧ ¬ s = [48]
  ·have e : decOf s m = (0, 4) := by
    unfold decOf; rw [if_neg]
    unfold isDec
    have a1 : (s == [48]) = false := by rw [beq_eq_false_iff_ne]; exact hz.2
    have a2 : s.getD 0 0 = 48 := UInt8.toNat_inj.1 (Int.ofNat.inj hz.1)
    rw [a1, a2]; simp
   (conv => whnf)
   (repeat' ((first
    | with_reducible exact True.intro
    | ((with_reducible refine And.intro ?_ ?_); focus (first | with_reducible rfl | omega))
    | (split <;> rename_i hh <;> (try simp only [wS] at hh) <;> (try simp (disch := omega) only [wT] at hh))
    | with_reducible refine And.intro (?_ : leA _ _ _) ?_
    | fail) <;> (conv => whnf)))
   all_goals (try (show _ = _; simp only [wQ]))
   all_goals first | (rw [e]; done) | (simp_all; done) | skip
  ·have hdec : allDig s = true → isDec s = true := fun h => by
    unfold isDec
    rw [h, Bool.true_and, Bool.or_eq_true, Bool.and_eq_true, beq_iff_eq, bne_iff_ne, bne_iff_ne]
    by_cases h1 : s = [48]
    ·exact .inl h1
    ·refine .inr ⟨hs, fun h2 => hz ⟨?_, h1⟩⟩
     rw [e0, h2]; rfl
   (conv => whnf)
   (repeat' ((first
    | with_reducible exact True.intro
    | ((with_reducible refine And.intro ?_ ?_); focus (first | with_reducible rfl | omega))
    | (split <;> rename_i hh <;> (try simp only [wS] at hh) <;> (try simp (disch := omega) only [wT] at hh))
    | with_reducible refine And.intro (?_ : leA _ _ _) ?_
    | fail) <;> (conv => whnf)))
   all_goals (try (show _ = _; simp only [wQ]))
   all_goals first | exact absurd (by assumption) hs | exact absurd ⟨by assumption, by assumption⟩ hz | skip
   all_goals (
    refine ⟨?_, fun (i : Nat) (hi : i ≤ s.length ∧ allDig (s.take i) = true) => ?_⟩
    ·(conv => whnf)
     refine ⟨(0 : Nat), [], ?_, ⟨⟨rfl, Nat.le_of_ble_eq_true rfl, rfl⟩, ?_, ?_⟩⟩
     ·exact ⟨Nat.zero_le _, by simp [allDig]⟩
     ·(conv => whnf)
      (repeat' ((first | with_reducible exact True.intro | ((with_reducible refine And.intro ?_ ?_); focus (first | with_reducible rfl | omega | exact Nat.le_of_ble_eq_true rfl | rfl)) | with_reducible refine And.intro (?_ : leA _ _ _) ?_ | fail) <;> (conv => whnf)))
      all_goals (try simp only [wQ])
      all_goals simp [worth]
     ·(conv => whnf)
      (repeat' ((first | with_reducible exact True.intro | ((with_reducible refine And.intro ?_ ?_); focus (first | with_reducible rfl | omega | exact Nat.le_of_ble_eq_true rfl | rfl)) | with_reducible refine And.intro (?_ : leBlk _ _ _ _) ?_ | fail) <;> (conv => whnf)))
      all_goals (try simp only [wQ])
    ·obtain ⟨h1, h2⟩ := hi
     have hdw : sI (digitW (runeAt s i) 10) = digitW (runeAt s i) 10 := sI_eq _
     have hcase : (48 ≤ runeAt s i ∧ runeAt s i ≤ 57 ∧ digitW (runeAt s i) 10 = runeAt s i - 48) ∨ (¬ (48 ≤ runeAt s i ∧ runeAt s i ≤ 57) ∧ digitW (runeAt s i) 10 = -1) := by
      unfold digitW; repeat' split
      all_goals omega
     have hbad : i < s.length → ¬ (48 ≤ runeAt s i ∧ runeAt s i ≤ 57) → decOf s m = (0, 4) := fun h hc => by
      have : allDig s = false := not_allDig h (by rcases rune_cases h with h6 | h6 <;> omega)
      unfold decOf; rw [if_neg]; unfold isDec; rw [this]; simp
     have hsi := sI_eq ((worth (s.take i) % 18446744073709551616 : Nat) : Int)
     have hE : s.length ≤ i → decOf s m = if m < (worth (s.take i) : Int) then (0, 5) else ((worth (s.take i) : Int), 0) := fun h => by
      rw [List.take_of_length_le h] at h2 ⊢
      unfold decOf; rw [if_pos (hdec h2)]
     have hE1 : s.length ≤ i → (18446744073709551615 < worth (s.take i) ∨ m < (worth (s.take i) : Int)) → decOf s m = (0, 5) := fun h hc => by rw [hE h, if_pos (by omega)]
     have hE2 : s.length ≤ i → (worth (s.take i) : Int) ≤ m → decOf s m = ((worth (s.take i) : Int), 0) := fun h hc => by rw [hE h, if_neg (by omega)]
     (conv => whnf)
     (repeat' ((first
      | with_reducible exact True.intro
      | ((with_reducible refine And.intro ?_ ?_); focus (first | with_reducible rfl | omega | (simp only [inK_def, Go.Vc.lo, Go.Vc.hi]; omega)))
      | (split <;> rename_i hh <;> (try simp only [wS] at hh) <;> (try simp (disch := omega) only [wT] at hh))
      | with_reducible refine And.intro (?_ : leA _ _ _) ?_
      | fail) <;> (conv => whnf)))
     all_goals (try (show _ = _; simp only [wQ]))
     all_goals first | (rw [hbad (by omega) (by omega)]; done) | (rw [hE1 (by omega) (by omega)]; done) | (rw [hE2 (by omega) (by omega)]; done) | (rw [hE2 (by omega) (by omega)]; omega) | skip
     all_goals (
      obtain ⟨h6, h7, h8⟩ : runeAt s i = ((s.getD i 0).toNat : Int) ∧ runeW s i = 1 ∧ (s.getD i 0).toNat < 128 := by
       rcases rune_cases (l := s) (p := i) (by omega) with h6 | h6 <;> omega
      have hst := worth_take_succ (l := s) (i := i) (by omega)
      (conv => whnf)
      refine ⟨(i + 1 : Nat), [], ?_, ⟨⟨rfl, Nat.le_of_ble_eq_true rfl, rfl⟩, ?_, ?_⟩⟩
      ·exact ⟨⟨show i + 1 ≤ s.length by omega, allDig_take_succ (by omega) h2 (by omega) (by omega)⟩, show s.length - (i + 1) < s.length - i by omega⟩
      ·(conv => whnf)
       (repeat' ((first | with_reducible exact True.intro | ((with_reducible refine And.intro ?_ ?_); focus (first | with_reducible rfl | omega | exact Nat.le_of_ble_eq_true rfl | rfl)) | with_reducible refine And.intro (?_ : leA _ _ _) ?_ | fail) <;> (conv => whnf)))
       all_goals (try simp only [wQ])
       all_goals first | (rw [wrapS_eq, wrapS_eq, wrap_u64, wrap_u64]; omega) | (symm; rw [decide_eq_true_eq]; omega) | (show ltI _ _ = _; rw [ltI_eq, Bool.eq_iff_iff, decide_eq_true_eq, decide_eq_true_eq]; omega)
      ·(conv => whnf)
       (repeat' ((first | with_reducible exact True.intro | ((with_reducible refine And.intro ?_ ?_); focus (first | with_reducible rfl | omega | exact Nat.le_of_ble_eq_true rfl | rfl)) | with_reducible refine And.intro (?_ : leBlk _ _ _ _) ?_ | fail) <;> (conv => whnf)))
       all_goals (try simp only [wQ])
       all_goals (try first | omega)
      )
    )
@[irreducible] def wholeN (s : List UInt8) : Int × Bool := ((decOf s 9223372036854775807).1, decide ((decOf s 9223372036854775807).2 = 0))
theorem decOf_le (s : List UInt8) (m : Int) (hm : 0 ≤ m) : 0 ≤ (decOf s m).1 ∧ (decOf s m).1 ≤ m := by
 unfold decOf; repeat' split
 all_goals (simp only []; omega)
def pcWhole : PC := PC.fun fun | [.str s] => some (True, .tup [.int .i64 (sI (wholeN s).1), .bool (sB (wholeN s).2)]) | _ => none
def D_script_whole : PT := tabD [(176, pcDecimal)]
theorem d_script_whole {W : World} (hW : Tabs W) : PTOk (Fw W) Tryz.prog D_script_whole := (tabD_cons Tryz.call176 (g_wire_Decimal hW) tabD_nil)
def C_script_whole : FuncId → Option Ctr := tabC D_script_whole []
theorem c_script_whole {W : World} (hW : Tabs W) : CtrOk (Fw W) Tryz.prog C_script_whole := (tabC_nil (d_script_whole hW))
theorem g_script_whole {W : World} (hW : Tabs W) : GoodP (Fw W) Tryz.prog 93 pcWhole := by
 have hD := d_script_whole hW
 have hC0 : CtrOk (Fw W) Tryz.prog C_script_whole := (c_script_whole hW)
 refine goodP_fun (D := D_script_whole) (C := C_script_whole) (wr := (fun _ => false)) rfl tyOk hD hC0 Tryz.func93 (fun _ _ => none) ?_
 clear hC0 hD hW
 intro cs p r h hf hp
 split at h
 case h_2 => cases h
 rename_i s
 cases h
 try simp only [factL, factA, inK_def, Go.Vc.lo, Go.Vc.hi, and_true] at hf
 have h1 := decOf_le s 9223372036854775807 (by decide)
 have h2 := sI_eq (decOf s 9223372036854775807).1
 have h3 : (wholeN s).1 = (decOf s 9223372036854775807).1 := by unfold wholeN; rfl
 have h4 : (wholeN s).2 = decide ((decOf s 9223372036854775807).2 = 0) := by unfold wholeN; rfl
 (conv => whnf)
 (repeat' ((first
  | with_reducible exact True.intro
  | ((with_reducible refine And.intro ?_ ?_); focus (first | with_reducible exact True.intro | with_reducible rfl | (simp only [inK_def, Go.Vc.lo, Go.Vc.hi]; omega)))
  | with_reducible refine And.intro (?_ : leA _ _ _) ?_
  | fail) <;> (conv => whnf)))
 all_goals (try (show _ = _; simp only [wQ]))
 ·rw [h3]
 ·rw [h4, eqI_eq, Bool.eq_iff_iff, beq_iff_eq, decide_eq_true_eq]
end
end Go.Vc.Z
namespace Go.Proofs
open Go.Shelf Go.RowKit
set_option maxRecDepth 1000000
def Tryz.laysJoin_ren : Go.Shelf.Ren := ⟨fun | 156 => 62 | 165 => 134 | 166 => 101 | 169 => 102 | 240 => 182 | 241 => 209 | 276 => 249 | 277 => 271 | n => n, fun | 31 => 32 | 9 => 9 | 3 => 3 | 4 => 4 | 0 => 0 | 20 => 20 | 72 => 152 | 76 => 155 | 70 => 149 | 37 => 150 | 75 => 154 | 127 => 221 | 164 => 264 | 5 => 5 | 80 => 162 | n => n, fun | n => n⟩
theorem Tryz.laysJoin : Go.Proofs.Lays.n156 Tryz.prog Tryz.laysJoin_ren := {
 mixed := by kernel_rfl
 f156 := Tryz.func62.trans (congrArg some (by kernel_rfl))
 f165 := Tryz.func134.trans (congrArg some (by kernel_rfl))
 f166 := Tryz.func101.trans (congrArg some (by kernel_rfl))
 f169 := Tryz.func102.trans (congrArg some (by kernel_rfl))
 f240 := Tryz.func182.trans (congrArg some (by kernel_rfl))
 f241 := Tryz.func209.trans (congrArg some (by kernel_rfl))
 f276 := Tryz.func249.trans (congrArg some (by kernel_rfl))
 f277 := Tryz.func271.trans (congrArg some (by kernel_rfl))
 t0 := Tryz.underlying0
 a0 := Tryz.isAgg0
 z0 := Tryz.sizeOf0
 v0 := Tryz.zeroValue0
 t3 := Tryz.underlying3
 a3 := Tryz.isAgg3
 z3 := Tryz.sizeOf3
 v3 := Tryz.zeroValue3
 t4 := Tryz.underlying4
 a4 := Tryz.isAgg4
 z4 := Tryz.sizeOf4
 v4 := Tryz.zeroValue4
 t9 := Tryz.underlying9
 a9 := Tryz.isAgg9
 z9 := Tryz.sizeOf9
 v9 := Tryz.zeroValue9
 t20 := Tryz.underlying20
 a20 := Tryz.isAgg20
 z20 := Tryz.sizeOf20
 v20 := Tryz.zeroValue20
 t31 := Tryz.underlying32
 a31 := Tryz.isAgg32
 z31 := Tryz.sizeOf32
 v31 := Tryz.zeroValue32
 t37 := Tryz.underlying150
 a37 := Tryz.isAgg150
 z37 := Tryz.sizeOf150
 v37 := Tryz.zeroValue150
 t70 := Tryz.underlying149
 a70 := Tryz.isAgg149
 z70 := Tryz.sizeOf149
 v70 := Tryz.zeroValue149
 t72 := Tryz.underlying152
 a72 := Tryz.isAgg152
 z72 := Tryz.sizeOf152
 v72 := Tryz.zeroValue152
 t75 := Tryz.underlying154
 a75 := Tryz.isAgg154
 z75 := Tryz.sizeOf154
 v75 := Tryz.zeroValue154
 t76 := Tryz.underlying155
 a76 := Tryz.isAgg155
 z76 := Tryz.sizeOf155
 v76 := Tryz.zeroValue155
 t127 := Tryz.underlying221
 a127 := Tryz.isAgg221
 z127 := Tryz.sizeOf221
 v127 := Tryz.zeroValue221
 t164 := Tryz.underlying264
 a164 := Tryz.isAgg264
 z164 := Tryz.sizeOf264
 v164 := Tryz.zeroValue264 }
def Tryz.laysItoa_ren : Go.Shelf.Ren := ⟨fun | 171 => 111 | 243 => 189 | 246 => 190 | 283 => 203 | 284 => 204 | 285 => 205 | 286 => 206 | 129 => 267 | 317 => 266 | 318 => 268 | 319 => 269 | 320 => 270 | 337 => 301 | 338 => 302 | n => n, fun | 3 => 3 | 9 => 9 | 2 => 2 | 4 => 4 | 171 => 233 | 0 => 0 | 53 => 37 | 37 => 150 | 5 => 5 | 173 => 235 | 212 => 281 | 51 => 282 | 20 => 20 | 213 => 283 | 46 => 284 | 232 => 323 | 233 => 324 | n => n, fun | 17 => 0 | 18 => 4 | 19 => 5 | n => n⟩
theorem Tryz.laysItoa : Go.Proofs.LaysM.n171 Tryz.prog Tryz.laysItoa_ren := {
 mixed := by kernel_rfl
 f129 := Tryz.func267.trans (congrArg some (by kernel_rfl))
 f171 := Tryz.func111.trans (congrArg some (by kernel_rfl))
 f243 := Tryz.func189.trans (congrArg some (by kernel_rfl))
 f246 := Tryz.func190.trans (congrArg some (by kernel_rfl))
 f283 := Tryz.func203.trans (congrArg some (by kernel_rfl))
 f284 := Tryz.func204.trans (congrArg some (by kernel_rfl))
 f285 := Tryz.func205.trans (congrArg some (by kernel_rfl))
 f286 := Tryz.func206.trans (congrArg some (by kernel_rfl))
 f317 := Tryz.func266.trans (congrArg some (by kernel_rfl))
 f318 := Tryz.func268.trans (congrArg some (by kernel_rfl))
 f319 := Tryz.func269.trans (congrArg some (by kernel_rfl))
 f320 := Tryz.func270.trans (congrArg some (by kernel_rfl))
 f337 := Tryz.func301.trans (congrArg some (by kernel_rfl))
 f338 := Tryz.func302.trans (congrArg some (by kernel_rfl))
 t0 := Tryz.underlying0
 a0 := Tryz.isAgg0
 z0 := Tryz.sizeOf0
 v0 := Tryz.zeroValue0
 t2 := Tryz.underlying2
 a2 := Tryz.isAgg2
 z2 := Tryz.sizeOf2
 v2 := Tryz.zeroValue2
 t3 := Tryz.underlying3
 a3 := Tryz.isAgg3
 z3 := Tryz.sizeOf3
 v3 := Tryz.zeroValue3
 t4 := Tryz.underlying4
 a4 := Tryz.isAgg4
 z4 := Tryz.sizeOf4
 v4 := Tryz.zeroValue4
 t5 := Tryz.underlying5
 a5 := Tryz.isAgg5
 z5 := Tryz.sizeOf5
 v5 := Tryz.zeroValue5
 t9 := Tryz.underlying9
 a9 := Tryz.isAgg9
 z9 := Tryz.sizeOf9
 v9 := Tryz.zeroValue9
 t20 := Tryz.underlying20
 a20 := Tryz.isAgg20
 z20 := Tryz.sizeOf20
 v20 := Tryz.zeroValue20
 t37 := Tryz.underlying150
 a37 := Tryz.isAgg150
 z37 := Tryz.sizeOf150
 v37 := Tryz.zeroValue150
 t46 := Tryz.underlying284
 a46 := Tryz.isAgg284
 z46 := Tryz.sizeOf284
 v46 := Tryz.zeroValue284
 t51 := Tryz.underlying282
 a51 := Tryz.isAgg282
 z51 := Tryz.sizeOf282
 v51 := Tryz.zeroValue282
 t53 := Tryz.underlying37
 a53 := Tryz.isAgg37
 z53 := Tryz.sizeOf37
 v53 := Tryz.zeroValue37
 t171 := Tryz.underlying233
 a171 := Tryz.isAgg233
 z171 := Tryz.sizeOf233
 v171 := Tryz.zeroValue233
 t173 := Tryz.underlying235
 a173 := Tryz.isAgg235
 z173 := Tryz.sizeOf235
 v173 := Tryz.zeroValue235
 t212 := Tryz.underlying281
 a212 := Tryz.isAgg281
 z212 := Tryz.sizeOf281
 v212 := Tryz.zeroValue281
 t213 := Tryz.underlying283
 a213 := Tryz.isAgg283
 z213 := Tryz.sizeOf283
 t232 := Tryz.underlying323
 a232 := Tryz.isAgg323
 z232 := Tryz.sizeOf323
 v232 := Tryz.zeroValue323
 t233 := Tryz.underlying324
 a233 := Tryz.isAgg324
 z233 := Tryz.sizeOf324
 v233 := Tryz.zeroValue324
 g17 := by kernel_rfl
 g18 := by kernel_rfl
 g19 := by kernel_rfl
 i0 := by kernel_rfl
 i2 := by kernel_rfl
 i3 := by kernel_rfl
 i4 := by kernel_rfl
 i5 := by kernel_rfl
 i9 := by kernel_rfl
 i20 := by kernel_rfl
 i37 := by kernel_rfl
 i46 := by kernel_rfl
 i51 := by kernel_rfl
 i53 := by kernel_rfl
 i171 := by kernel_rfl
 i173 := by kernel_rfl
 i212 := by kernel_rfl
 i232 := by kernel_rfl
 i233 := by kernel_rfl
 m17 := by kernel_rfl
 m18 := by kernel_rfl
 m19 := by kernel_rfl }
end Go.Proofs
namespace Go.Proofs
open Go.Shelf Go.RowKit
theorem Tryz.extra : Builder.Extra Tryz.prog Tryz.laysJoin_ren := {
 sizeBuilder := by kernel_rfl
 liesBuilder := by kernel_rfl
 t5 := by kernel_rfl
 a5 := fun w => Tryz.isAgg5 w
 z5 := fun w => Tryz.sizeOf5 w
 v5 := fun w => Tryz.zeroValue5 w
 infoByte := by kernel_rfl
 cellsByte := by kernel_rfl
 sizeByte := by kernel_rfl
 neB5 := by decide }
end Go.Proofs
namespace Go.Vc
open Go Go.Proofs Go.RowKit
theorem ext_below {S : Nat → Prop} {w w' : World} (h : Below w.heap.size w w') : Ext (fun _ => none) S w (fun _ => none) S w' :=
 ⟨fun _ _ h => (by cases h), fun _ h => h, fun b hb _ => h.block b hb, h.size, fun b arr T fr hb => ⟨arr, fr, (h.block b (lt_of_some hb)).trans hb, rfl⟩, fun _ _ h => (by cases h), fun _ h => .inl h, h.os, h.tape, h.output⟩
theorem goodP_below {F : Nat → Obj → Prop} {P : Program} {f : FuncId} {α : Type} {args : α → List AV} {pre : α → Prop} {res : α → AV} (hflat : ∀ x, (res x).flat = true) (hu : ∀ x, underL 0 (args x) = true)
  (h : ∀ x S w vs, pre x → factL (args x) → Sok F S w → VL (fun _ => none) S w (args x) vs → Calls P f vs w fun e w' => ∃ v, e = .returned v ∧ (∀ S' w', V (fun _ => none) S' w' (res x) v) ∧ Below w.heap.size w w') : GoodP F P f (PC.of args pre res) := by
 intro S w cs vs Q hs hv hpre
 obtain ⟨x, h1, h2, h3⟩ := hpre
 have hl := leL_length h2
 have hv' : VL (fun _ => none) S w (args x) vs := by
  refine ⟨by rw [← hl]; exact hv.1, fun i c v hc hv' => ?_⟩
  have hi : i < cs.length := by
   rcases Nat.lt_or_ge i (args x).length with h' | h'
   ·omega
   ·rw [List.getElem?_eq_none h'] at hc; cases hc
  exact (hv.2 i cs[i] v (List.getElem?_eq_getElem hi) hv').le (σ := fun i => i) (n := 0) (fun i b hi => by omega) (leL_get h2 i _ _ (List.getElem?_eq_getElem hi) hc) (underL_get (hu x) i c hc)
 refine (h x S w vs h1 hv'.fact hs hv').mono ?_
 rintro e w' ⟨v, rfl, hV, hb⟩
 exact ⟨v, res x, S, rfl, h3, hV S w', ext_below hb, hs.still (ext_below hb)⟩
theorem V.slR {ρ : Nat → Option Nat} {S : Nat → Prop} {w : World} {clip : Bool} {sz len : Nat} {get : Nat → List AV} {v : Value} (h : V ρ S w (.sl clip sz len get) v) :
  (len = 0 ∧ ∃ ao, v = .slice ao 0 0) ∨ ∃ b o cap, ∃ f : Nat → Nat → Value, v = .slice (some ⟨b, o, none⟩) len cap ∧ (0 < len → S b ∧ b < w.heap.size) ∧ len ≤ cap ∧ cap ≤ maxLen ∧ (∀ e, e < len → (get e).length = sz) ∧
   (∀ e j, e < len → j < sz → w.cell? ⟨b, o + e * sz + j, none⟩ = some (f e j)) ∧ (∀ (e j : Nat) (c : AV), e < len → (get e)[j]? = some c → VI S w (fun _ => none) c (f e j)) := by
 cases h with
 | sln => exact .inl ⟨rfl, _, rfl⟩
 | sl _ _ _ _ b o cap f hs hl hm hcl hz hc hv => exact .inr ⟨b, o, cap, f, rfl, hs, hl, hm, hz, hc, hv⟩
theorem V.strR' {ρ : Nat → Option Nat} {S : Nat → Prop} {w : World} {l : List UInt8} {v : Value} (h : V ρ S w (.str l) v) : ∃ s : ByteArray, v = .string s ∧ s.data.toList = l ∧ l.length ≤ maxLen := by
 cases h with | str _ s h1 h2 => exact ⟨s, rfl, h1, h2⟩
abbrev slS (l : List (List UInt8)) : AV := .sl false 1 l.length (fun e => [.str (l.getD e [])])
def pcJoin : PC := PC.of (fun x : List (List UInt8) × List UInt8 => [slS x.1, .str x.2]) (fun x => (Lib.join x.1 x.2).length ≤ 140737488355328 ∧ x.1.length ≤ 140737488355328) (fun x => .str (Lib.join x.1 x.2))
theorem goodJoin {F : Nat → Obj → Prop} : GoodP F Tryz.prog 62 pcJoin := by
 refine goodP_below (fun _ => rfl) (fun _ => rfl) ?_
 rintro ⟨l, sep⟩ S w vs ⟨hpre, hlen⟩ hf hs hv
 simp only at hpre hlen hv
 obtain ⟨vs⟩ := vs
 match vs, hv with
 | [a, b], hv =>
  have ha := hv.2 0 _ _ rfl rfl
  have hb := hv.2 1 _ _ rfl rfl
  obtain ⟨sb, rfl, hsb, h2⟩ := V.strR' hb
  have fin : ∀ r : List UInt8, r.length ≤ 140737488355328 → ∀ S' w', V (fun _ => none) S' w' (.str r) (.string ⟨r.toArray⟩) := fun r hr S' w' => .str _ _ (by simp) (by rw [maxLen_eq]; omega)
  rcases ha.slR with ⟨h0, ao, rfl⟩ | ⟨b, o, cap, f, rfl, hst, hl, hm, hz, hc, hv'⟩
  ·obtain rfl : l = [] := List.length_eq_zero_iff.1 h0
   refine (Any.strings_Join_none Tryz.laysJoin Tryz.extra ao 0 sb w).mono ?_
   rintro e w' ⟨rfl, rfl⟩
   exact ⟨_, rfl, fin [] (by simp), Below.refl _ _⟩
  ·have hstr : ∀ (j : Nat), j < l.length → ∃ s : ByteArray, f j 0 = .string s ∧ s.data.toList = l.getD j [] := fun j hj => by
    obtain ⟨s, h1, h3, _⟩ := V.strR' (hv' j 0 _ hj rfl)
    exact ⟨s, h1, h3⟩
   have hxs : ∃ xs : List ByteArray, xs.map (·.data.toList) = l ∧ ∀ (j : Nat) x, xs[j]? = some x → w.cell? ⟨b, o + j, none⟩ = some (.string x) := by
    refine ⟨l.map fun s => ⟨s.toArray⟩, by simp [Function.comp_def], fun j x hx => ?_⟩
    rw [List.getElem?_map] at hx
    cases hj : l[j]? with
    | none => rw [hj] at hx; cases hx
    | some s =>
     rw [hj] at hx
     cases hx
     have hlt : j < l.length := (List.getElem?_eq_some_iff.1 hj).1
     obtain ⟨s', h1, h3⟩ := hstr j hlt
     have := hc j 0 hlt (by omega)
     rw [Nat.mul_one, Nat.add_zero] at this
     rw [this, h1]
     have e : l.getD j [] = s := by rw [List.getD_eq_getElem?_getD, hj]; rfl
     rw [e] at h3
     rw [← h3]
   obtain ⟨xs, hx1, hx2⟩ := hxs
   have hxl : xs.length = l.length := by rw [← hx1]; simp
   by_cases h0 : l.length = 0
   ·obtain rfl : l = [] := List.length_eq_zero_iff.1 h0
    refine (Any.strings_Join_none Tryz.laysJoin Tryz.extra (some ⟨b, o, none⟩) cap sb w).mono ?_
    rintro e w' ⟨rfl, rfl⟩
    exact ⟨_, rfl, fin [] (by simp), Below.refl _ _⟩
   ·have := Any.strings_Join Tryz.laysJoin Tryz.extra b o cap xs sb w hx2 (hst (by omega)).2 (by omega) (by omega) (by rw [hx1, hsb]; exact hpre)
    rw [hx1, hsb, hxl] at this
    refine this.mono ?_
    rintro e w' ⟨rfl, hb⟩
    exact ⟨_, rfl, fin _ hpre, hb⟩
 | [], hv => simp [VL] at hv
 | [_], hv => simp [VL] at hv
 | _ :: _ :: _ :: _, hv => have := hv.1; simp at this
end Go.Vc
namespace Go.Vc
open Go Go.Proofs Go.RowKit Go.Sort
theorem below_grow {w : World} (k : Nat) (os : Array Obj) : Below w.heap.size w (grow (w.drewN k) os) := by
 refine ⟨rfl, rfl, rfl, ?_, fun b hb => ?_⟩
 ·show w.heap.size ≤ (w.heap ++ os).size
  simp
 ·show (w.heap ++ os)[b]? = w.heap[b]?
  rw [Array.getElem?_append_left hb]
def pcItoa : PC := PC.of (fun n : Int => [.int .i64 n]) (fun _ => True) (fun n => .str (Lib.itoa n))
theorem nDigits_lt : ∀ (k u : Nat), u < 10 ^ (k + 1) → Lib.nDigits u ≤ k + 1
 | 0, u, h => by rw [Lib.nDigits_small (by simpa using h)]; omega
 | k + 1, u, h => by
  by_cases h1 : u < 10
  ·rw [Lib.nDigits_small h1]; omega
  ·rw [Lib.nDigits_big h1]
   have := nDigits_lt k (u / 10) (by rw [Nat.pow_succ] at h; omega)
   omega
theorem dec_len {u : Nat} (h : u < 10000000000000000000000000000000) : (Lib.decDigits u).length ≤ 31 := by
 rw [Lib.decDigits_length]
 exact nDigits_lt 30 u h
theorem itoa_len (n : Int) (h0 : -9223372036854775808 ≤ n) (h1 : n ≤ 9223372036854775807) : (Lib.itoa n).length ≤ 32 := by
 unfold Lib.itoa
 split
 ·have := dec_len (u := n.natAbs) (by omega)
  simp; omega
 ·have := dec_len (u := n.toNat) (by omega)
  omega
theorem goodItoa {W : World} (hW : Tabs W) : GoodP (Fw W) Tryz.prog 111 pcItoa := by
 refine goodP_below (fun _ => rfl) (fun _ => rfl) ?_
 intro n S w vs _ hf hs hv
 obtain ⟨vs⟩ := vs
 match vs, hv with
 | [a], hv =>
  obtain ⟨rfl, hn⟩ := (hv.2 0 _ _ rfl rfl).intR
  obtain ⟨h0, h1⟩ := hn
  refine (Any.strconv_Itoa Tryz.laysItoa n h0 h1 w (hW.pow hs)).mono ?_
  rintro e w' ⟨rfl, k, os, rfl⟩
  exact ⟨_, rfl, fun S' w' => .str _ _ (by simp) (by rw [maxLen_eq]; have := itoa_len n h0 h1; omega), below_grow k os⟩
 | [], hv => simp [VL] at hv
 | _ :: _ :: _, hv => have := hv.1; simp at this
end Go.Vc
namespace Go.Vc
open Go Go.Proofs Go.RowKit Go.Sort
end Go.Vc
namespace Go.Vc
open Go Go.Proofs Go.RowKit Go.Sort
end Go.Vc
namespace Go.Vc.Z
open Go Go.Vc Go.Proofs Go.RowKit
set_option maxRecDepth 100000
attribute [local irreducible] inK
end Go.Vc.Z
namespace Go.Vc.Z
open Go Go.Vc Go.Proofs Go.RowKit
set_option maxRecDepth 100000
attribute [local irreducible] inK
end Go.Vc.Z
namespace Go.Proofs
open Go.Shelf Go.RowKit
set_option maxRecDepth 1000000
theorem Tryz.laysCopyCheck : Lays.n240 Tryz.prog Tryz.laysJoin_ren := { Tryz.laysJoin with }
theorem Tryz.laysBString : Lays.n169 Tryz.prog Tryz.laysJoin_ren := { Tryz.laysJoin with }
theorem Tryz.x72 : Builder.X72 Tryz.prog Tryz.laysJoin_ren := {
 sizeBuilder := by kernel_rfl
 liesBuilder := by kernel_rfl }
section
variable {P : Program} {ρ : Ren}
set_option maxHeartbeats 2000000 in
theorem bString_walk (L : Lays.n169 P ρ) (X : Builder.Extra P ρ) (b g n cap : Nat) (p : Value) (cs cur : Array Value) (T : TypeId) (fr fr' : Nat × Nat) (l : List UInt8) (w : World)
  (hbk : w.heap[b]? = some (.cells cs T fr)) (hcs : cs[1]? = some (.slice (some ⟨g, 0, none⟩) l.length cap)) (hg : w.heap[g]? = some (.cells cur (ρ.t 5) fr')) (h0 : 0 < l.length) (hcap : l.length ≤ cap) (hm : cap ≤ maxLen) (hle : l.length ≤ cur.size)
  (hcell : ∀ (j : Nat) (x : UInt8), l[j]? = some x → w.cell? ⟨g, j, none⟩ = some (.int .u8 x.toNat)) :
  Calls P (ρ.f 169) #[.pointer (some ⟨b, 0, none⟩)] w fun e w' => e = .returned (.string ⟨l.toArray⟩) ∧ w' = w.drew.freeze ⟨g, 0, none⟩ l.length := by
 have hl0 : l ≠ [] := by rintro rfl; simp at h0
 have c1 : w.drew.cell? ⟨b, 1, none⟩ = some (.slice (some ⟨g, 0, none⟩) l.length cap) := by
  have : w.drew.heap[b]? = some (.cells cs T fr) := hbk
  rw [Lib.cell_of_heap this]; exact hcs
 have hSD : (Builtin.unsafeSliceData_ #[(ρ.t 37)] (ρ.t 127) #[.slice (some ⟨g, 0, none⟩) l.length cap]).run P w.drew = .ok (.pointer (some ⟨g, 0, none⟩)) w.drew :=
  Lib.run_unsafeSliceData_row _ _ _ _ _ _ (by omega)
 have hUS : (Builtin.unsafeString_ #[(ρ.t 127), (ρ.t 3)] (ρ.t 9) #[.pointer (some ⟨g, 0, none⟩), .int .i64 l.length]).run P w.drew = .ok (.string ⟨l.toArray⟩) (w.drew.freeze ⟨g, 0, none⟩ l.length) := by
  refine Lib.run_unsafeString_row w.drew (ρ.t 127) (ρ.t 3) (ρ.t 9) (ρ.t 5) L.t127 X.cellsByte g cur.size (by have hg' : w.drew.heap[g]? = some (.cells cur (ρ.t 5) fr') := hg; simp [World.shape?, hg']) l hl0 (by omega) (by unfold maxLen at hm; omega) ?_
  intro j x hx
  rw [Go.Vc.addr_add, Nat.zero_add]
  exact hcell j x hx
 have mixed := L.mixed
 have t72 := L.t72; have a72 := L.a72; have z72 := L.z72; have v72 := L.v72; have u72 := run_underlying L.t72
 have t70 := L.t70; have a70 := L.a70; have z70 := L.z70; have v70 := L.v70; have u70 := run_underlying L.t70
 have t37 := L.t37; have a37 := L.a37; have z37 := L.z37; have v37 := L.v37; have u37 := run_underlying L.t37
 have t127 := L.t127; have a127 := L.a127; have z127 := L.z127; have v127 := L.v127; have u127 := run_underlying L.t127
 have t3 := L.t3; have a3 := L.a3; have z3 := L.z3; have v3 := L.v3; have u3 := run_underlying L.t3
 have t9 := L.t9; have a9 := L.a9; have z9 := L.z9; have v9 := L.v9; have u9 := run_underlying L.t9
 have t5 := X.t5; have a5 := X.a5; have z5 := X.z5; have v5 := X.v5; have u5 := run_underlying X.t5
 go_enter L.f169, Body.n169_ntmps ρ
 go_wp2
 go_region_o
 all_goals (go_wp2; go_ret; exact ⟨rfl, rfl⟩)
end
end Go.Proofs
namespace Go.Vc
open Go Go.Proofs Go.RowKit
def tBld : Nat := 152
def tByte : Nat := 5
def kCopyCheck : Ctr := fun cs H Q => match cs with
 | [.ptr id 0] => (match H[id]? with
  | some (.var [p, buf] (some T)) => T = tBld ∧ (match p with
   | .nilp => Q (.tup []) (H.set id (.var [.ptr id 0, buf] (some T)))
   | .ptr id' 0 => id' = id ∧ Q (.tup []) H
   | _ => False)
  | _ => False)
 | _ => False
theorem goodCopyCheck {F : Nat → Obj → Prop} : Good F Tryz.prog 182 kCopyCheck := by
 intro ρ S w H cs vs Q hs hH hv hK
 unfold kCopyCheck at hK
 split at hK
 ·rename_i id
  split at hK
  ·rename_i p buf T hid
   obtain ⟨rfl, hK⟩ := hK
   obtain ⟨vs⟩ := vs
   match vs, hv with
   | [a], hv =>
    obtain ⟨b, rfl, hb⟩ := (hv.2 0 _ _ rfl rfl).ptrR
    obtain ⟨hns, arr, T', fr, h1, h2, h3, h4⟩ := hH.blk _ _ hid b hb
    have h1 : w.heap[b]? = some (.cells arr tBld fr) := h1
    have h2 : arr.size = 2 := h2
    have e0 : arr[0]? = some (arr.getD 0 undef) := by simp [h2]
    have hsh : w.shape? b = some (tBld, 2) := by simp [World.shape?, h1, h2]
    have hc : w.cell? ⟨b, 0, none⟩ = some (arr.getD 0 undef) := by simp only [World.cell?, h1]; exact e0
    have v0 := h4 0 p _ rfl e0
    split at hK
    ·cases hv0 : arr.getD 0 undef <;> rw [hv0] at v0 <;> cases v0
     rw [hv0] at hc
     refine (Any.Builder_copyCheck_fresh Tryz.laysCopyCheck Tryz.x72 b w hc hsh (h3 0 (by omega))).mono ?_
     rintro e w' ⟨rfl, rfl⟩
     have hw : w.setCell ⟨b, 0, none⟩ (.pointer (some ⟨b, 0, none⟩)) = w.setCells b 0 [.pointer (some ⟨b, 0, none⟩)] := rfl
     rw [hw]
     have hheap := setCells_heap b [.pointer (some ⟨b, 0, none⟩)] 0 w arr tBld fr h1
     have hE : Ext ρ S w ρ S (w.setCells b 0 [.pointer (some ⟨b, 0, none⟩)]) := ext_upd hH hb hns (setCells_size _ _ _ _) (fun k hk => setCells_other b _ _ _ k hk)
      (fun a' T2 f' h' => by rw [h1] at h'; cases h'; exact ⟨_, _, hheap, spl_size _ _ _⟩) (setCells_rest _ _ _ _).1 (setCells_rest _ _ _ _).2.1 (setCells_rest _ _ _ _).2.2
     refine ⟨_, .tup [], _, ρ, S, rfl, hK, .tup _ _ rfl (fun i c v hc => by simp at hc), hrel_upd hH hid rfl hb hE (setCells_size _ _ _ _) (fun k hk => setCells_other b _ _ _ k hk) ?_, hE, hs.still hE⟩
     intro b' hb'
     rw [hb] at hb'; cases hb'
     refine ⟨hns, _, T', fr, hheap, by rw [spl_size]; exact h2, fun o ho => ?_, fun k c v hk hv => ?_⟩
     ·rw [spl_size] at ho
      rw [World.frozen?_setCells]; exact h3 o ho
     ·rw [spl_get _ _ _ _ (by simp; omega)] at hv
      cases k with
      | zero => simp at hk hv; subst hk; subst hv; exact .ptr _ _ _ hb
      | succ k =>
       rw [if_neg (by simp)] at hv
       exact (h4 (k + 1) c v hk hv).mono hE
    ·obtain ⟨rfl, hK⟩ := hK
     obtain ⟨b', hb', hb''⟩ := v0.ptrR
     rw [hb] at hb''; cases hb''
     rw [hb'] at hc
     refine (Any.Builder_copyCheck_used Tryz.laysCopyCheck Tryz.x72 b w hc).mono ?_
     rintro e w' ⟨rfl, rfl⟩
     exact ⟨_, .tup [], _, ρ, S, rfl, hK, .tup _ _ rfl (fun i c v hc => by simp at hc), hH, Ext.refl _ _ _, hs⟩
    ·exact hK.elim
   | [], hv => simp [VL] at hv
   | _ :: _ :: _, hv => have := hv.1; simp at this
  ·exact hK.elim
 ·exact hK.elim
def kBString : Ctr := fun cs H Q => match cs with
 | [.ptr id 0] => (match H[id]? with
  | some (.var [_, .osl r 1 0 n _] (some _)) => (match H[r]? with
   | some (.row 1 L get (some E)) => (E = tByte ∧ 0 < n ∧ n ≤ L ∧ ∀ e, e < n → (byteCell (get e)).isSome = true) ∧ Q (.str (bytesOf n get)) (H.set r .dead)
   | _ => False)
  | _ => False)
 | _ => False
theorem goodBString {F : Nat → Obj → Prop} : Good F Tryz.prog 102 kBString := by
 intro ρ S w H cs vs Q hs hH hv hK
 unfold kBString at hK
 split at hK
 ·rename_i id
  split at hK
  ·rename_i p r n cap T hid
   split at hK
   ·rename_i L get E hr
    obtain ⟨⟨rfl, h0, hnL, hby⟩, hK⟩ := hK
    obtain ⟨vs⟩ := vs
    match vs, hv with
    | [a], hv =>
     obtain ⟨b, rfl, hb⟩ := (hv.2 0 _ _ rfl rfl).ptrR
     obtain ⟨hns, arr, T', fr, h1, h2, h3, h4⟩ := hH.blk _ _ hid b hb
     have h2 : arr.size = 2 := h2
     have e1 : arr[1]? = some (arr.getD 1 undef) := by simp [h2]
     obtain ⟨g, o, cp, hsl, hg, hl, hm, ho, _, _⟩ := (h4 1 _ _ rfl e1).oslR
     have ho : o = 0 := by rw [ho (by omega)]
     subst ho
     obtain ⟨hgs, cur, T2, fr2, g1, g2, g3, g4, g5⟩ := hH.blk _ _ hr g hg
     have g1 : w.heap[g]? = some (.cells cur tByte fr2) := g1
     rw [Nat.mul_one] at g2
     have hbl : (bytesOf n get).length = n := by simp [bytesOf]
     have hcell : ∀ (j : Nat) (x : UInt8), (bytesOf n get)[j]? = some x → w.cell? ⟨g, j, none⟩ = some (.int .u8 x.toNat) := fun j x hx => by
      have hj : j < n := by
       rcases Nat.lt_or_ge j n with h | h
       ·exact h
       ·rw [List.getElem?_eq_none (by rw [hbl]; exact h)] at hx; cases hx
      obtain ⟨k, hk1, hk2, hk3⟩ : ∃ k : Int, get j = [.int .u8 k] ∧ True ∧ True := by
       have := hby j hj
       unfold byteCell at this
       split at this
       ·rename_i k hk; exact ⟨k, hk, trivial, trivial⟩
       ·cases this
      have hlt : j < cur.size := by omega
      have hv := g5 j 0 (.int .u8 k) cur[j] (by omega) (by rw [hk1]; rfl) (by simp [hlt])
      obtain ⟨hv1, hv2⟩ := hv.intR
      simp only [bytesOf, List.getElem?_map, List.getElem?_range hj, Option.map_some, Option.some.injEq, hk1, byteCell, Option.getD_some] at hx
      simp only [World.cell?, g1]
      rw [Array.getElem?_eq_getElem hlt, hv1, ← hx]
      have : 0 ≤ k ∧ k ≤ 255 := hv2
      congr 2
      simp [UInt8.toNat_ofNat]; omega
     have call := bString_walk Tryz.laysBString Tryz.extra b g n cp (arr.getD 0 undef) arr cur _ fr fr2 (bytesOf n get) w h1 (by rw [e1, hsl, hbl]) g1 (by omega) (by omega) hm (by omega) hcell
     rw [hbl] at call
     refine call.mono ?_
     rintro e w' ⟨rfl, rfl⟩
     have hn0 : ¬ n = 0 := by omega
     have hoth : ∀ k, k ≠ g → (w.drew.freeze ⟨g, 0, none⟩ n).heap[k]? = w.heap[k]? := fun k hk => by
      unfold World.freeze
      rw [if_neg hn0]
      show (w.heap.modify g _)[k]? = _
      rw [Array.getElem?_modify, if_neg (Ne.symm hk)]
     have hsz : (w.drew.freeze ⟨g, 0, none⟩ n).heap.size = w.heap.size := by
      unfold World.freeze
      rw [if_neg hn0]
      show (w.heap.modify g _).size = _
      simp
     have hE : Ext ρ S w ρ S (w.drew.freeze ⟨g, 0, none⟩ n) :=
      ext_upd hH hg hgs hsz hoth (fun arr2 T3 fr3 h => by
       obtain ⟨lo, hi⟩ := fr3
       refine ⟨arr2, (if lo == hi then (0, 0 + n) else (min lo 0, max hi (0 + n))), ?_, rfl⟩
       unfold World.freeze
       rw [if_neg hn0]
       show (w.heap.modify g _)[g]? = _
       rw [Array.getElem?_modify, if_pos rfl, h]; rfl)
       (by unfold World.freeze; rw [if_neg hn0]; rfl) (by unfold World.freeze; rw [if_neg hn0]; rfl) (by unfold World.freeze; rw [if_neg hn0]; rfl)
     exact ⟨_, .str _, _, ρ, S, rfl, hK, .str _ _ (by simp) (by rw [hbl]; omega), hrel_upd hH hr rfl hg hE hsz hoth trivial, hE, hs.still hE⟩
    | [], hv => simp [VL] at hv
    | _ :: _ :: _, hv => have := hv.1; simp at this
   ·exact hK.elim
  ·exact hK.elim
 ·exact hK.elim
end Go.Vc
namespace Go.Vc
open Go Go.Proofs Go.RowKit
theorem GoodP.imp {F : Nat → Obj → Prop} {P : Program} {f : FuncId} {pc pc' : PC} (h : GoodP F P f pc) (hi : ∀ cs Q, pc'.T cs Q → pc.T cs Q) : GoodP F P f pc' :=
 fun S w cs vs Q hs hv hT => h S w cs vs Q hs hv (hi cs Q hT)
namespace Z
noncomputable section
def pcItoaS : PC := PC.fun fun | [.int .i64 n] => some (True, .str (sS (Lib.itoa n))) | _ => none
theorem goodItoaS {W : World} (hW : Tabs W) : GoodP (Fw W) Tryz.prog 111 pcItoaS := by
 refine (goodItoa hW).imp fun cs Q h => ?_
 simp only [pcItoaS, PC.fun] at h
 split at h
 ·rename_i p r hf
  split at hf
  ·cases hf
   rename_i n
   rw [sS_eq] at h
   exact ⟨n, trivial, ⟨⟨rfl, rfl⟩, trivial⟩, h.2⟩
  ·cases hf
 ·exact h.elim
def pcJoinS : PC := PC.of (fun x : List (List UInt8) × List UInt8 => [slS x.1, .str x.2]) (fun x => (Lib.join x.1 x.2).length ≤ 140737488355328 ∧ x.1.length ≤ 140737488355328) (fun x => .str (sS (Lib.join x.1 x.2)))
theorem goodJoinS {W : World} (_ : Tabs W) : GoodP (Fw W) Tryz.prog 62 pcJoinS := by
 refine goodJoin.imp fun cs Q h => ?_
 obtain ⟨x, h1, h2, h3⟩ := h
 simp only [sS_eq] at h3
 exact ⟨x, h1, h2, h3⟩
end
end Z
end Go.Vc
namespace Go.Vc.Z
open Go Go.Vc Go.Proofs Go.RowKit Go.Pl Go.Lib
noncomputable section
set_option maxRecDepth 100000
set_option linter.unusedSimpArgs false
set_option linter.unusedVariables false
attribute [local irreducible] inK Utf8.decode Utf8.encode Lib.itoa Pl.worth Pl.allDig
attribute [local irreducible] Lib.join
theorem cat_str {L : List (List UInt8)} {w : List UInt8} {b : Nat → List AV} (hb : b 0 = [.str w]) {e : Nat} (he : e < (L ++ [w]).length) : catRow L.length (fun e => [AV.str (L.getD e [])]) b e = [AV.str ((L ++ [w]).getD e [])] := by
 unfold catRow
 rw [List.length_append, List.length_singleton] at he
 rcases Nat.lt_or_ge e L.length with h | h
 ·rw [if_pos h]
  simp [List.getD_eq_getElem?_getD, List.getElem?_append_left h]
 ·obtain rfl : e = L.length := by omega
  rw [if_neg (by omega), Nat.sub_self, hb]
  simp [List.getD_eq_getElem?_getD]
theorem lens_le (m : Nat) : ∀ (L : List (List UInt8)), (∀ s ∈ L, s.length ≤ m) → Lib.lens L ≤ L.length * m
 | [], _ => by simp [Lib.lens]
 | x :: r, h => by
  have h1 := lens_le m r fun s hs => h s (List.mem_cons_of_mem _ hs)
  have h2 := h x List.mem_cons_self
  simp only [Lib.lens, List.map_cons, List.sum_cons, List.length_cons] at h1 ⊢
  rw [Nat.add_mul]; omega
theorem join_le (sep : List UInt8) (m : Nat) (L : List (List UInt8)) (h : ∀ s ∈ L, s.length ≤ m) : (Lib.join L sep).length ≤ L.length * (m + sep.length) := by
 cases L with
 | nil => simp [Lib.join_nil]
 | cons x r =>
  rw [Lib.join_length]
  have := lens_le m (x :: r) h
  rw [Nat.mul_add]
  have : sep.length * r.length ≤ (x :: r).length * sep.length := by
   rw [Nat.mul_comm]; exact Nat.mul_le_mul_right _ (by simp)
  omega
theorem numText_len (n : Int) : (numText n).length ≤ 20 := by
 unfold numText
 split
 ·have := checkN_zero (by assumption)
  exact dec_len_le _ (by omega)
 ·simp
end
end Go.Vc.Z
namespace Go.Vc.Z
open Go Go.Vc Go.Proofs Go.RowKit Go.Pl Go.Lib
noncomputable section
set_option maxRecDepth 100000
set_option linter.unusedSimpArgs false
set_option linter.unusedVariables false
attribute [local irreducible] inK Utf8.decode Utf8.encode Lib.itoa Pl.worth Pl.allDig
attribute [local irreducible] Lib.join
theorem join_snoc {L : List (List UInt8)} (h : L ≠ []) (w sep : List UInt8) : Lib.join (L ++ [w]) sep = Lib.join L sep ++ (sep ++ w) := by
 cases L with
 | nil => exact absurd rfl h
 | cons x r =>
  rw [List.cons_append, Lib.join_cons, Lib.join_cons, List.append_assoc]
  simp [Lib.joinTail]
end
end Go.Vc.Z
namespace Go.Vc.Z
open Go Go.Vc Go.Proofs Go.RowKit Go.Pl Go.Lib
noncomputable section
set_option maxRecDepth 100000
set_option linter.unusedSimpArgs false
set_option linter.unusedVariables false
attribute [local irreducible] inK Utf8.decode Utf8.encode Lib.itoa Pl.worth Pl.allDig
abbrev digB (n : Int) : UInt8 := UInt8.ofNat (48 + n % 10).toNat
@[irreducible] def centsT (n : Int) : List UInt8 := decDigits (n / 10 / 10).toNat ++ [46, digB (n / 10), digB n]
@[irreducible] def moneyT (n : Int) : List UInt8 := if n < 0 then 45 :: centsT (-n) else centsT n
@[irreducible] def fareT (n : Int) : List UInt8 := if moneyB n = true then moneyT n else []
def dig11 (n least : Int) : List UInt8 := if least = 1 then decDigits n.toNat else [digB (n / 10), digB n]
def pcDig11 : PC := PC.fun fun | [.int .i64 n, .int .i64 least] => some (0 ≤ n ∧ (least = 1 ∨ (least = 2 ∧ n < 100)), .str (sS (dig11 n least))) | _ => none
def LDig11 (n : Int) : LoopSpec := {
 α := Nat × List UInt8
 keep := [0, 1, 5]
 vals x := [.int .i64 (x.1 : Int), .int .i64 1, .str x.2]
 heap _ := []
 ok x := x.1 ≤ n.toNat ∧ (if x.1 = 0 ∧ x.2 ≠ [] then x.2 else decDigits x.1 ++ x.2) = decDigits n.toNat
 μ x := 2 * x.1 + (if x.2 = [] then 1 else 0) }
def L_couponref11_digits : List AV → Nat → Option LR := fun cs i => match cs with | [.int _ n, .int _ least] => cond (Nat.beq i 2) (some ((match decide (least = 1) with | true => .inv (LDig11 n) | false => .unroll 3))) (none) | _ => none
theorem g_couponref11_digits {W : World} (hW : Tabs W) : GoodP (Fw W) Tryz.prog 170 pcDig11 := by
 have hD := d_number_Check hW
 have hC0 : CtrOk (Fw W) Tryz.prog C_number_Check := (c_number_Check hW)
 refine goodP_fun (D := D_number_Check) (C := C_number_Check) (wr := (fun _ => false)) rfl tyOk hD hC0 Tryz.func170 (L_couponref11_digits) ?_
 clear hC0 hD hW
 intro cs p r h hf hp
 split at h
 case h_2 => cases h
 rename_i n least
 cases h
 try simp only [factL, factA, inK_def, Go.Vc.lo, Go.Vc.hi, and_true] at hf
 obtain ⟨h0, hl⟩ := hp
 rcases hl with rfl | ⟨rfl, h100⟩
 ·(conv => whnf)
  all_goals (try (show _ = _; simp only [wQ]))
  refine ⟨?_, fun (x : Nat × List UInt8) (hx : x.1 ≤ n.toNat ∧ (if x.1 = 0 ∧ x.2 ≠ [] then x.2 else decDigits x.1 ++ x.2) = decDigits n.toNat) => ?_⟩
  ·(conv => whnf)
   refine ⟨((n.toNat, []) : Nat × List UInt8), [], ?_, ⟨⟨rfl, Nat.le_of_ble_eq_true rfl, rfl⟩, ?_, ?_⟩⟩
   ·exact ⟨Nat.le_refl _, by simp⟩
   ·(conv => whnf)
    (repeat' ((first | with_reducible exact True.intro | ((with_reducible refine And.intro ?_ ?_); focus (first | with_reducible rfl | omega | exact Nat.le_of_ble_eq_true rfl | rfl)) | with_reducible refine And.intro (?_ : leA _ _ _) ?_ | fail) <;> (conv => whnf)))
    all_goals (try simp only [wQ])
    all_goals (try first | omega)
   ·(conv => whnf)
    (repeat' ((first | with_reducible exact True.intro | fail) <;> (conv => whnf)))
    all_goals (try simp only [wQ])
  ·obtain ⟨h1, h2⟩ := hx
   have hl : x.2.length ≤ 30 := by
    have := congrArg List.length h2
    have h20 : (decDigits n.toNat).length ≤ 30 := by rw [decDigits_length]; exact Nat.le_trans (nDigits_le 29 _ (by omega)) (by omega)
    split at this <;> (try simp at this) <;> omega
   have hz : x.2.length < 1 ↔ x.2 = [] := by rw [← List.length_eq_zero_iff]; omega
   (conv => whnf)
   (repeat' ((first
    | ((with_reducible refine And.intro ?_ ?_); focus (first | omega | (intro e he; rcases (by omega : e = 0 ∨ e = 1 ∨ e = 2) with rfl | rfl | rfl <;> first | rfl | (exfalso; omega)) | (simp only [inK_def, Go.Vc.lo, Go.Vc.hi]; simp (disch := omega) only [Int.tdiv_eq_ediv_of_nonneg, Int.tmod_eq_emod_of_nonneg, sI_eq, sN_eq]; omega) | (simp only [List.length_append, bytesOf_length, List.toList_toArray, List.length_cons, List.length_nil, List.length_take, List.length_drop, sS_eq]; omega)))
    | (split <;> rename_i hh <;> (try simp only [wS] at hh) <;> (try simp (disch := omega) only [wT] at hh))
    | with_reducible refine (fun (hln : (_ : Int) ≤ 9223372036854775807) => ?_)
    | fail) <;> (conv => whnf)))
   all_goals (try (show _ = _; simp only [wQ]))
   ·(conv => whnf)
    refine ⟨((x.1 / 10, UInt8.ofNat (48 + x.1 % 10) :: x.2) : Nat × List UInt8), [], ?_, ⟨⟨rfl, Nat.le_of_ble_eq_true rfl, rfl⟩, ?_, ?_⟩⟩
    ·refine ⟨⟨show x.1 / 10 ≤ n.toNat by omega, (digits_step (n := x.1) (s := x.2) (.inl (by omega))).trans h2⟩, ?_⟩
     show 2 * (x.1 / 10) + (if UInt8.ofNat (48 + x.1 % 10) :: x.2 = [] then 1 else 0) < 2 * x.1 + (if x.2 = [] then 1 else 0)
     rw [if_neg (by simp)]; omega
    ·exact leL_rfl _
    ·(conv => whnf)
     (repeat' ((first | with_reducible exact True.intro | fail) <;> (conv => whnf)))
     all_goals (try simp only [wQ])
   ·have hs : x.2 = [] := hz.1 (by omega)
    (conv => whnf)
    refine ⟨((x.1 / 10, UInt8.ofNat (48 + x.1 % 10) :: x.2) : Nat × List UInt8), [], ?_, ⟨⟨rfl, Nat.le_of_ble_eq_true rfl, rfl⟩, ?_, ?_⟩⟩
    ·refine ⟨⟨show x.1 / 10 ≤ n.toNat by omega, (digits_step (n := x.1) (s := x.2) (.inr hs)).trans h2⟩, ?_⟩
     show 2 * (x.1 / 10) + (if UInt8.ofNat (48 + x.1 % 10) :: x.2 = [] then 1 else 0) < 2 * x.1 + (if x.2 = [] then 1 else 0)
     rw [if_neg (by simp), if_pos hs]; omega
    ·exact leL_rfl _
    ·(conv => whnf)
     (repeat' ((first | with_reducible exact True.intro | fail) <;> (conv => whnf)))
     all_goals (try simp only [wQ])
   ·have hs : x.2 ≠ [] := fun h => by have := hz.2 h; omega
    have h0 : x.1 = 0 := by omega
    rw [if_pos ⟨h0, hs⟩] at h2
    exact h2
 ·(conv => whnf)
  (repeat' ((first
   | ((with_reducible refine And.intro ?_ ?_); focus (first | omega | (intro e he; rcases (by omega : e = 0 ∨ e = 1 ∨ e = 2) with rfl | rfl | rfl <;> first | rfl | (exfalso; omega)) | (simp only [inK_def, Go.Vc.lo, Go.Vc.hi]; simp (disch := omega) only [Int.tdiv_eq_ediv_of_nonneg, Int.tmod_eq_emod_of_nonneg, sI_eq, sN_eq]; omega) | (simp only [List.length_append, bytesOf_length, List.toList_toArray, List.length_cons, List.length_nil, List.length_take, List.length_drop, sS_eq]; omega)))
   | (split <;> rename_i hh <;> (try simp only [wS] at hh) <;> (try simp (disch := omega) only [wT] at hh))
   | with_reducible refine (fun (hln : (_ : Int) ≤ 9223372036854775807) => ?_)
   | fail) <;> (conv => whnf)))
  all_goals (try (show _ = _; simp only [wQ]))
  all_goals try (exfalso; omega)
  all_goals (
   show [UInt8.ofNat (48 + (n.tdiv 10).tmod 10).toNat, UInt8.ofNat (48 + n.tmod 10).toNat] = _
   rw [Int.tdiv_eq_ediv_of_nonneg h0, Int.tmod_eq_emod_of_nonneg h0, Int.tmod_eq_emod_of_nonneg (by omega)]
   rfl)
theorem centsT_len {n : Int} (h0 : 0 ≤ n) (h : n ≤ 9223372036854775807) : (centsT n).length ≤ 30 := by
 unfold centsT
 have := dec_len_le (n / 10 / 10).toNat (by omega)
 simp only [List.length_append, List.length_cons, List.length_nil]; omega
theorem moneyT_len {n : Int} (h : -9223372036854775807 ≤ n ∧ n ≤ 9223372036854775807) : (moneyT n).length ≤ 31 := by
 unfold moneyT
 split
 ·have := centsT_len (n := -n) (by omega) (by omega)
  simp only [List.length_cons]; omega
 ·have := centsT_len (n := n) (by omega) (by omega)
  omega
def pcMoneyT0 : PC := PC.fun fun | [.int .i64 n] => some (0 ≤ n, .str (sS (centsT n))) | _ => none
def pcMoneyT : PC := PC.fun fun | [.int .i64 n] => some (-9223372036854775807 ≤ n, .str (sS (moneyT n))) | _ => none
theorem centsT_dig {n : Int} (h : 0 ≤ n) : dig11 (n.tdiv 100) 1 ++ [46] ++ dig11 (n.tmod 100) 2 = centsT n := by
 have e1 : n.tdiv 100 = n / 100 := Int.tdiv_eq_ediv_of_nonneg (by omega)
 have e2 : n.tmod 100 = n % 100 := Int.tmod_eq_emod_of_nonneg (by omega)
 unfold dig11 centsT
 rw [if_pos rfl, if_neg (by omega), e1, e2, show n / 100 = n / 10 / 10 by omega]
 unfold digB
 rw [show n % 100 / 10 % 10 = n / 10 % 10 by omega, show n % 100 % 10 = n % 10 by omega]
 simp
def D_moneyT0 : PT := tabD [(170, pcDig11)]
theorem d_moneyT0 {W : World} (hW : Tabs W) : PTOk (Fw W) Tryz.prog D_moneyT0 := (tabD_cons Tryz.call170 (g_couponref11_digits hW) tabD_nil)
def C_moneyT0 : FuncId → Option Ctr := tabC D_moneyT0 []
theorem c_moneyT0 {W : World} (hW : Tabs W) : CtrOk (Fw W) Tryz.prog C_moneyT0 := (tabC_nil (d_moneyT0 hW))
theorem g_moneyT0 {W : World} (hW : Tabs W) : GoodP (Fw W) Tryz.prog 83 pcMoneyT0 := by
 have hD := d_moneyT0 hW
 have hC0 : CtrOk (Fw W) Tryz.prog C_moneyT0 := (c_moneyT0 hW)
 refine goodP_fun (D := D_moneyT0) (C := C_moneyT0) (wr := (fun _ => false)) rfl tyOk hD hC0 Tryz.func83 (fun _ _ => none) ?_
 clear hC0 hD hW
 intro cs p r h hf hp
 split at h
 case h_2 => cases h
 rename_i n
 cases h
 try simp only [factL, factA, inK_def, Go.Vc.lo, Go.Vc.hi, and_true] at hf
 have e1 : n.tdiv 100 = n / 100 := Int.tdiv_eq_ediv_of_nonneg (by omega)
 have e2 : n.tmod 100 = n % 100 := Int.tmod_eq_emod_of_nonneg (by omega)
 have d1 : (dig11 (n.tdiv 100) 1).length ≤ 20 := by unfold dig11; rw [if_pos rfl]; exact dec_len_le _ (by omega)
 have d2 : (dig11 (n.tmod 100) 2).length = 2 := rfl
 have hex : ¬ n < 0 := by omega
 (conv => whnf)
 (repeat' ((first
  | (exact absurd (by with_reducible assumption) hex)
  | ((with_reducible refine And.intro ?_ ?_); focus (first | omega | (simp only [inK_def, Go.Vc.lo, Go.Vc.hi]; omega) | (simp only [List.length_append, bytesOf_length, List.toList_toArray, List.length_cons, List.length_nil, List.length_take, List.length_drop, sS_eq]; omega)))
  | (split <;> rename_i hh <;> (try simp only [wS] at hh) <;> (try simp (disch := omega) only [wT] at hh))
  | fail) <;> (conv => whnf)))
 all_goals (try (show _ = _; simp only [wQ]))
 exact centsT_dig hp
def D_couponref11_Text : PT := tabD [(83, pcMoneyT0), (170, pcDig11)]
theorem d_couponref11_Text {W : World} (hW : Tabs W) : PTOk (Fw W) Tryz.prog D_couponref11_Text := (tabD_cons Tryz.call83 (g_moneyT0 hW) (tabD_cons Tryz.call170 (g_couponref11_digits hW) tabD_nil))
def C_couponref11_Text : FuncId → Option Ctr := tabC D_couponref11_Text []
theorem c_couponref11_Text {W : World} (hW : Tabs W) : CtrOk (Fw W) Tryz.prog C_couponref11_Text := (tabC_nil (d_couponref11_Text hW))
theorem g_couponref11_Text {W : World} (hW : Tabs W) : GoodP (Fw W) Tryz.prog 83 pcMoneyT := by
 have hD := d_couponref11_Text hW
 have hC0 : CtrOk (Fw W) Tryz.prog C_couponref11_Text := (c_couponref11_Text hW)
 refine goodP_fun (D := D_couponref11_Text) (C := C_couponref11_Text) (wr := (fun _ => false)) rfl tyOk hD hC0 Tryz.func83 (fun _ _ => none) ?_
 clear hC0 hD hW
 intro cs p r h hf hp
 split at h
 case h_2 => cases h
 rename_i n
 cases h
 try simp only [factL, factA, inK_def, Go.Vc.lo, Go.Vc.hi, and_true] at hf
 by_cases h0 : 0 ≤ n
 ·have e1 : n.tdiv 100 = n / 100 := Int.tdiv_eq_ediv_of_nonneg (by omega)
  have e2 : n.tmod 100 = n % 100 := Int.tmod_eq_emod_of_nonneg (by omega)
  have d1 : (dig11 (n.tdiv 100) 1).length ≤ 20 := by unfold dig11; rw [if_pos rfl]; exact dec_len_le _ (by omega)
  have d2 : (dig11 (n.tmod 100) 2).length = 2 := rfl
  have hex : ¬ n < 0 := by omega
  (conv => whnf)
  (repeat' ((first
   | (exact absurd (by with_reducible assumption) hex)
   | ((with_reducible refine And.intro ?_ ?_); focus (first | omega | (simp only [inK_def, Go.Vc.lo, Go.Vc.hi]; omega) | (simp only [List.length_append, bytesOf_length, List.toList_toArray, List.length_cons, List.length_nil, List.length_take, List.length_drop, sS_eq]; omega)))
   | (split <;> rename_i hh <;> (try simp only [wS] at hh) <;> (try simp (disch := omega) only [wT] at hh))
   | fail) <;> (conv => whnf)))
  all_goals (try (show _ = _; simp only [wQ]))
  unfold moneyT; rw [if_neg hex]; exact centsT_dig h0
 ·have hex : ¬ 0 ≤ n := by omega
  have h1 := centsT_len (n := -n) (by omega) (by omega)
  (conv => whnf)
  (repeat' ((first
   | (exact absurd (by with_reducible assumption) hex)
   | ((with_reducible refine And.intro ?_ ?_); focus (first | omega | (simp only [inK_def, Go.Vc.lo, Go.Vc.hi]; omega) | (simp only [List.length_append, bytesOf_length, List.toList_toArray, List.length_cons, List.length_nil, List.length_take, List.length_drop, sS_eq]; omega)))
   | (split <;> rename_i hh <;> (try simp only [wS] at hh) <;> (try simp (disch := omega) only [wT] at hh))
   | fail) <;> (conv => whnf)))
  all_goals (try (show _ = _; simp only [wQ]))
  unfold moneyT; rw [if_pos (by omega)]; rfl
def restT (m : Int) : Nat → List UInt8
 | 0 => centsT m
 | 1 => decDigits (m / 10).toNat ++ [46, digB m]
 | 2 => decDigits m.toNat ++ [46]
 | _ + 3 => if m = 0 then [] else decDigits m.toNat
theorem rest_3 {m : Int} (h : 0 ≤ m) : (if m / 10 = 0 then [] else decDigits (m / 10).toNat) ++ [digB m] = decDigits m.toNat := by
 obtain ⟨u, rfl⟩ : ∃ u : Nat, m = u := ⟨m.toNat, by omega⟩
 have e : digB (u : Int) = UInt8.ofNat (48 + u % 10) := by unfold digB; congr 1
 rw [e, show ((u : Int) / 10).toNat = u / 10 by omega, Int.toNat_natCast]
 split
 ·rw [dec_small (by omega)]; rfl
 ·rw [dec_big (u := u) (by omega)]
theorem rest_step {m : Int} {i : Nat} (h : 0 ≤ m) (hi : i < 3 ∨ 0 < m) : restT (m / 10) (i + 1) ++ (if i = 2 then [digB m, 46] else [digB m]) = restT m i := by
 rcases Nat.lt_or_ge i 3 with h3 | h3
 rcases (by omega : i = 0 ∨ i = 1 ∨ i = 2) with rfl | rfl | rfl
 ·simp [restT, centsT]
 ·simp [restT]
 ·have := rest_3 h
  simp only [restT]
  rw [if_pos True.intro, show [digB m, 46] = [digB m] ++ [46] from rfl, ← List.append_assoc, this]
 ·obtain ⟨k, rfl⟩ : ∃ k, i = k + 3 := ⟨i - 3, by omega⟩
  have := rest_3 h
  rw [if_neg (by omega)]
  show (if m / 10 = 0 then [] else decDigits (m / 10).toNat) ++ [digB m] = if m = 0 then [] else decDigits m.toNat
  rw [this, if_neg (by omega)]
def rowB (l : List UInt8) : Blk := match l with
 | [] => .dead
 | c :: l => .row 1 (l.length + 1) (fun e => [.int .u8 ((c :: l).getD e 0).toNat])
def oslB (id : Nat) : List UInt8 → AV
 | [] => .nilsl
 | _ :: l => .osl id 1 0 (l.length + 1) none
abbrev FS := Nat × List UInt8 × Int
def LFare7 (n : Int) : LoopSpec := {
 α := FS
 keep := [0, 3, 4]
 vals x := [.int .i64 x.2.2, oslB 0 x.2.1, .int .i64 x.1]
 heap x := [rowB x.2.1]
 ok x := 0 ≤ x.2.2 ∧ x.2.2 ≤ n ∧ ((x.1 = 0 ↔ x.2.1 = []) ∧ x.1 ≤ x.2.1.length) ∧ restT x.2.2 x.1 ++ x.2.1.reverse = centsT n
 μ x := (3 - x.1) + 2 * x.2.2.toNat }
def bldRow (T : List UInt8) (k : Nat) : Blk := .row 1 k (fun e => [.int .u8 (T.getD e 0).toNat]) (some 5)
def LFare15 (n : Int) : LoopSpec := {
 α := Nat
 keep := [3, 5, 41, 42]
 vals k := [.osl 0 1 0 (centsT n).length none, .ptr 1 0, .int .i64 (centsT n).length, .int .i64 k]
 heap k := match k with
  | 0 => [.row 1 (centsT n).length (fun e => [.int .u8 ((centsT n).reverse.getD e 0).toNat]), .var [.nilp, .nilsl] (some 152), .dead]
  | k + 1 => [.row 1 (centsT n).length (fun e => [.int .u8 ((centsT n).reverse.getD e 0).toNat]), .var [.ptr 1 0, .osl 2 1 0 (k + 1) none] (some 152), bldRow (centsT n) (k + 1)]
 ok k := k ≤ (centsT n).length
 μ k := (centsT n).length - k }
def pcFareT0 : PC := PC.fun fun | [.int .i64 n] => some (0 ≤ n ∧ moneyB n = true, .str (sS (centsT n))) | _ => none
theorem digB_nat {m : Int} (h : 0 ≤ m) : (((digB m).toNat : Nat) : Int) = 48 + m.tmod 10 := by
 rw [Int.tmod_eq_emod_of_nonneg h]
 unfold digB
 have : (UInt8.ofNat (48 + m % 10).toNat).toNat = (48 + m % 10).toNat % 256 := UInt8.toNat_ofNat'
 omega
theorem rest_ne {m : Int} {i : Nat} (h : 0 ≤ m) (hi : i < 3 ∨ 0 < m) (h2 : i ≠ 2) : restT (m / 10) (i + 1) ++ [digB m] = restT m i := by
 have := rest_step h hi
 rw [if_neg h2] at this; exact this
theorem rest_two {m : Int} (h : 0 ≤ m) : restT (m / 10) 3 ++ [digB m, 46] = restT m 2 := rest_step h (.inl (by omega))
theorem rev_getD {T : List UInt8} {j : Nat} (h : j < T.length) : T.reverse.getD (0 + ((T.length : Int) - 1 - (j : Int)).toNat) 0 = T.getD j 0 := by
 rw [show 0 + ((T.length : Int) - 1 - (j : Int)).toNat = T.length - 1 - j by omega]
 simp only [List.getD_eq_getElem?_getD]
 rw [List.getElem?_reverse (by omega), show T.length - 1 - (T.length - 1 - j) = j by omega]
theorem cat_tab {T : List UInt8} {k : Nat} {b : Nat → List AV} (hb : b 0 = [.int .u8 (T.getD k 0).toNat]) {e : Nat} (he : e < k + 1) : catRow k (fun e => [AV.int .u8 (T.getD e 0).toNat]) b e = [AV.int .u8 (T.getD e 0).toNat] := by
 unfold catRow
 rcases Nat.lt_or_ge e k with h | h
 ·rw [if_pos h]
 ·obtain rfl : e = k := by omega
  rw [if_neg (by omega), Nat.sub_self, hb]
theorem bytesOf_tab (T : List UInt8) : bytesOf T.length (fun e => [AV.int .u8 (T.getD e 0).toNat]) = T := by
 refine List.ext_getElem? fun j => ?_
 simp only [bytesOf, List.getElem?_map]
 rcases Nat.lt_or_ge j T.length with h | h
 ·rw [List.getElem?_range h, List.getElem?_eq_getElem h]
  simp [byteCell, List.getD_eq_getElem?_getD, h]
 ·rw [List.getElem?_eq_none (by simpa using h), List.getElem?_eq_none h]; rfl
theorem cat_u8 {l : List UInt8} {d : UInt8} {b : Nat → List AV} (hb : b 0 = [.int .u8 d.toNat]) {e : Nat} (he : e < l.length + 1) : catRow l.length (fun e => [AV.int .u8 (l.getD e 0).toNat]) b e = [AV.int .u8 ((l ++ [d]).getD e 0).toNat] := by
 unfold catRow
 rcases Nat.lt_or_ge e l.length with h | h
 ·rw [if_pos h]
  simp [List.getD_eq_getElem?_getD, List.getElem?_append_left h]
 ·obtain rfl : e = l.length := by omega
  rw [if_neg (by omega), Nat.sub_self, hb]
  simp [List.getD_eq_getElem?_getD]
theorem cat_u8n {l : List UInt8} {n : Nat} {d : UInt8} {g b : Nat → List AV} (hn : n = l.length) (hg : ∀ e, e < l.length → g e = [.int .u8 (l.getD e 0).toNat]) (hb : b 0 = [.int .u8 d.toNat]) {e : Nat} (he : e < n + 1) : catRow n g b e = [AV.int .u8 ((l ++ [d]).getD e 0).toNat] := by
 subst hn
 rw [← cat_u8 (l := l) (b := b) hb he]
 unfold catRow
 split
 ·exact hg e (by assumption)
 ·rfl
theorem centsT_pos (n : Int) : 0 < (centsT n).length := by unfold centsT; simp
def C_fareT0 : FuncId → Option Ctr := tabC D_ticket_some [(102, kBString), (182, kCopyCheck)]
theorem c_fareT0 {W : World} (hW : Tabs W) : CtrOk (Fw W) Tryz.prog C_fareT0 := (tabC_cons Tryz.call102 goodBString (tabC_cons Tryz.call182 goodCopyCheck (tabC_nil (d_ticket_some hW))))
def I1_fareT0 : List (FuncId × Ctr) := (208, inl TY C_fareT0 D_ticket_some (fun _ => false) (fun _ _ _ => none) Tryz.f208) :: [(102, kBString), (182, kCopyCheck)]
def C1_fareT0 : FuncId → Option Ctr := tabC D_ticket_some I1_fareT0
theorem c1_fareT0 {W : World} (hW : Tabs W) : CtrOk (Fw W) Tryz.prog C1_fareT0 := tabC_cons Tryz.call208 (good_inl rfl tyOk (d_ticket_some hW) (c_fareT0 hW) Tryz.func208 (fun _ _ _ => none)) (c_fareT0 hW)
def L_fareT0 : List AV → Nat → Option LR := fun cs i => match cs with | [.int _ n] => cond (Nat.beq i 7) (some (.inv (LFare7 n))) (cond (Nat.beq i 15) (some (.inv (LFare15 n))) (none)) | _ => none
set_option maxHeartbeats 2000000 in
theorem g_fareT0 {W : World} (hW : Tabs W) : GoodP (Fw W) Tryz.prog 132 pcFareT0 := by
 have hD := d_ticket_some hW
 have hC0 : CtrOk (Fw W) Tryz.prog C1_fareT0 := (c1_fareT0 hW)
 refine goodP_fun (D := D_ticket_some) (C := C1_fareT0) (wr := (fun _ => false)) rfl tyOk hD hC0 Tryz.func132 (L_fareT0) ?_
 clear hC0 hD hW
 intro cs p r h hf hp
 split at h
 case h_2 => cases h
 rename_i n
 cases h
 try simp only [factL, factA, inK_def, Go.Vc.lo, Go.Vc.hi, and_true] at hf
 obtain ⟨h0, hm⟩ := hp
 have hb : 0 ≤ n ∧ n ≤ 1000000000000 := by have := hm; unfold moneyB at this; simp at this; omega
 have hex : ¬ moneyB n = false := by rw [hm]; simp
 (conv => whnf)
 (repeat' ((first
  | (exact absurd (by with_reducible assumption) hex)
  | ((with_reducible refine And.intro ?_ ?_); focus (first | with_reducible exact True.intro | omega))
  | (split <;> rename_i hh <;> (try simp only [wS] at hh) <;> (try simp (disch := omega) only [wT] at hh))
  | fail) <;> (conv => whnf)))
 all_goals (try (show _ = _; simp only [wQ]))
 ·exfalso; omega
 refine ⟨?_, fun (x : FS) hx => ?_⟩
 ·(conv => whnf)
  refine ⟨((0, [], n) : FS), [0], ?_, ⟨⟨rfl, Nat.le_of_ble_eq_true rfl, rfl⟩, ?_, ?_⟩⟩
  ·exact ⟨h0, Int.le_refl _, ⟨by simp, Nat.le_refl _⟩, by simp [restT]⟩
  ·(conv => whnf)
   (repeat' ((first | with_reducible exact True.intro | ((with_reducible refine And.intro ?_ ?_); focus (first | with_reducible rfl | omega | exact Nat.le_of_ble_eq_true rfl | rfl)) | with_reducible refine And.intro (?_ : leA _ _ _) ?_ | fail) <;> (conv => whnf)))
   all_goals (try simp only [wQ])
   all_goals (try first | omega)
  ·(conv => whnf)
   (repeat' ((first | with_reducible exact True.intro | fail) <;> (conv => whnf)))
   all_goals (try simp only [wQ])
 ·obtain ⟨i, back, m⟩ := x
  obtain ⟨h1, h2, ⟨h3, h5⟩, h4⟩ := hx
  change i ≤ back.length at h5
  change 0 ≤ m at h1
  change m ≤ n at h2
  change i = 0 ↔ back = [] at h3
  change restT m i ++ back.reverse = centsT n at h4
  have hd := digB_nat h1
  have htd : m.tdiv 10 = m / 10 := Int.tdiv_eq_ediv_of_nonneg h1
  have hl : back.length ≤ 40 := by
   have := congrArg List.length h4
   have := centsT_len h0 (by omega)
   simp at *; omega
  rcases back with _ | ⟨c, l⟩
  ·have hi := h3.2 rfl
   subst hi
   (conv => whnf)
   (repeat' ((first
    | ((with_reducible refine And.intro ?_ ?_); focus (first | omega | (simp only [inK_def, Go.Vc.lo, Go.Vc.hi]; omega) | (simp only [inK_def, Go.Vc.lo, Go.Vc.hi]; simp (disch := omega) only [Int.tdiv_eq_ediv_of_nonneg, Int.tmod_eq_emod_of_nonneg, sI_eq, sN_eq]; omega) | (simp only [growOk, ty2, ty3, ty4, ty5, ty9, ty21, ty37, ty42, ty43, ty45, ty47, ty67, ty95, ty105, ty113, ty150, ty161, ty198, ty242, ty275]; first | omega | (refine ⟨?_, ?_⟩ <;> omega))))
    | fail) <;> (conv => whnf)))
   all_goals (try (show _ = _; simp only [wQ]))
   ·(conv => whnf)
    refine ⟨((1, [digB m], m / 10) : FS), [2], ?_, ⟨⟨rfl, Nat.le_of_ble_eq_true rfl, rfl⟩, ?_, ?_⟩⟩
    ·refine ⟨⟨show 0 ≤ m / 10 by omega, show m / 10 ≤ n by omega, ⟨by simp, Nat.le_refl _⟩, ?_⟩, show (3 - 1) + 2 * (m / 10).toNat < (3 - 0) + 2 * m.toNat by omega⟩
     rw [← h4]
     have := rest_ne (i := 0) h1 (.inl (by omega)) (by omega)
     simpa using this
    ·(conv => whnf)
     (repeat' ((first | with_reducible exact True.intro | ((with_reducible refine Or.inr ?_); rfl) | ((with_reducible refine And.intro ?_ ?_); focus (first | with_reducible rfl | omega | exact Nat.le_of_ble_eq_true rfl | rfl)) | with_reducible refine And.intro (?_ : leA _ _ _) ?_ | fail) <;> (conv => whnf)))
     all_goals (try simp only [wQ])
     all_goals (try first | omega)
    ·(conv => whnf)
     (repeat' ((first | with_reducible exact True.intro | ((with_reducible refine And.intro ?_ ?_); focus (first | with_reducible rfl | omega | exact Nat.le_of_ble_eq_true rfl | rfl)) | with_reducible refine And.intro (?_ : leBlk _ _ _ _) ?_ | fail) <;> (conv => whnf)))
     all_goals (try simp only [wQ])
     intro e he
     have he : e < 1 := he
     obtain rfl : e = 0 := by omega
     refine ⟨?_, rfl⟩
     show [AV.int .u8 (48 + m.tmod 10)] = [AV.int .u8 ((digB m).toNat : Int)]
     rw [hd]
  ·have hi : i ≠ 0 := fun h => by have := h3.1 h; cases this
   have hl2 : l.length ≤ 39 := by simp at hl; omega
   have h6 : i ≤ l.length + 1 := h5
   clear hl
   have hdr : [AV.int .u8 (48 + m.tmod 10)] = [AV.int .u8 ((digB m).toNat : Int)] := by rw [hd]
   have hfin : ¬ 0 < m → 3 ≤ i → c :: l = (centsT n).reverse := fun hm0 hi3 => by
    obtain ⟨k, rfl⟩ : ∃ k, i = k + 3 := ⟨i - 3, by omega⟩
    have hz : m = 0 := by omega
    simp only [restT] at h4
    rw [if_pos hz, List.nil_append] at h4
    rw [← h4, List.reverse_reverse]
   (conv => whnf)
   (repeat' ((first
    | ((with_reducible refine And.intro ?_ ?_); focus (first | ((with_reducible refine ⟨?_, ?_, ?_⟩) <;> first | (intro e he; rcases (by omega : e = 0 ∨ e = 1 ∨ e = 2 ∨ e = 3 ∨ e = 4 ∨ e = 5) with rfl | rfl | rfl | rfl | rfl | rfl <;> first | rfl | (exfalso; omega)) | (with_reducible assumption) | omega | ((with_reducible show growOk _ _); simp only [growOk, ty2, ty3, ty4, ty5, ty9, ty21, ty37, ty42, ty43, ty45, ty47, ty67, ty95, ty105, ty113, ty150, ty161, ty198, ty242, ty275, List.length_cons, List.length_nil]; first | omega | (refine ⟨?_, ?_⟩ <;> omega))) | omega | (simp only [inK_def, Go.Vc.lo, Go.Vc.hi]; omega) | (simp only [inK_def, Go.Vc.lo, Go.Vc.hi]; simp (disch := omega) only [Int.tdiv_eq_ediv_of_nonneg, Int.tmod_eq_emod_of_nonneg, sI_eq, sN_eq]; omega)))
    | (split <;> rename_i hh <;> (try simp only [wS] at hh) <;> (try simp (disch := omega) only [wT] at hh))
    | with_reducible refine (fun (hln : (_ : Int) ≤ 9223372036854775807) => ?_)
    | fail) <;> (conv => whnf)))
   all_goals (try (show _ = _; simp only [wQ]))
   ·(conv => whnf)
    refine ⟨((i + 1, c :: l ++ [46] ++ [digB m], m / 10) : FS), [4], ?_, ⟨⟨rfl, Nat.le_of_ble_eq_true rfl, rfl⟩, ?_, ?_⟩⟩
    ·refine ⟨⟨show 0 ≤ m / 10 by omega, show m / 10 ≤ n by omega, ⟨by simp, by simp; omega⟩, ?_⟩, show (3 - (i + 1)) + 2 * (m / 10).toNat < (3 - i) + 2 * m.toNat by omega⟩
     rw [← h4]
     obtain rfl : i = 2 := by omega
     have := rest_two h1
     show restT (m / 10) 3 ++ _ = restT m 2 ++ _
     rw [← this]; simp
    ·(conv => whnf)
     (repeat' ((first | with_reducible exact True.intro | ((with_reducible refine And.intro ?_ ?_); focus (first | with_reducible rfl | omega | exact Nat.le_of_ble_eq_true rfl | rfl)) | with_reducible refine And.intro (?_ : leA _ _ _) ?_ | fail) <;> (conv => whnf)))
     all_goals (try simp only [wQ])
     all_goals (try first | omega)
     all_goals (try first | exact ⟨by simp, Or.inl trivial⟩)
    ·(conv => whnf)
     (repeat' ((first | with_reducible exact True.intro | ((with_reducible refine And.intro ?_ ?_); focus (first | with_reducible rfl | omega | exact Nat.le_of_ble_eq_true rfl | rfl)) | with_reducible refine And.intro (?_ : leBlk _ _ _ _) ?_ | fail) <;> (conv => whnf)))
     all_goals (try simp only [wQ])
     exact ⟨by simp, fun e he => ⟨cat_u8n (l := c :: l ++ [46]) (by simp) (fun e he => cat_u8n (l := c :: l) rfl (fun _ _ => rfl) rfl (by simpa using he)) hdr (by simpa using he), rfl⟩⟩
   ·(conv => whnf)
    refine ⟨((i + 1, c :: l ++ [digB m], m / 10) : FS), [2], ?_, ⟨⟨rfl, Nat.le_of_ble_eq_true rfl, rfl⟩, ?_, ?_⟩⟩
    ·refine ⟨⟨show 0 ≤ m / 10 by omega, show m / 10 ≤ n by omega, ⟨by simp, by simp; omega⟩, ?_⟩, show (3 - (i + 1)) + 2 * (m / 10).toNat < (3 - i) + 2 * m.toNat by omega⟩
     rw [← h4]
     have := rest_ne (i := i) h1 (.inl (by omega)) (by omega)
     show restT (m / 10) (i + 1) ++ _ = restT m i ++ _
     rw [← this]; simp
    ·(conv => whnf)
     (repeat' ((first | with_reducible exact True.intro | ((with_reducible refine And.intro ?_ ?_); focus (first | with_reducible rfl | omega | exact Nat.le_of_ble_eq_true rfl | rfl)) | with_reducible refine And.intro (?_ : leA _ _ _) ?_ | fail) <;> (conv => whnf)))
     all_goals (try simp only [wQ])
     all_goals (try first | omega)
     all_goals (try first | exact ⟨by simp, Or.inl trivial⟩)
    ·(conv => whnf)
     (repeat' ((first | with_reducible exact True.intro | ((with_reducible refine And.intro ?_ ?_); focus (first | with_reducible rfl | omega | exact Nat.le_of_ble_eq_true rfl | rfl)) | with_reducible refine And.intro (?_ : leBlk _ _ _ _) ?_ | fail) <;> (conv => whnf)))
     all_goals (try simp only [wQ])
     exact ⟨by simp, fun e he => ⟨cat_u8n (l := c :: l) rfl (fun _ _ => rfl) hdr (by simpa using he), rfl⟩⟩
   ·exfalso; omega
   ·(conv => whnf)
    refine ⟨((i + 1, c :: l ++ [digB m], m / 10) : FS), [2], ?_, ⟨⟨rfl, Nat.le_of_ble_eq_true rfl, rfl⟩, ?_, ?_⟩⟩
    ·refine ⟨⟨show 0 ≤ m / 10 by omega, show m / 10 ≤ n by omega, ⟨by simp, by simp; omega⟩, ?_⟩, show (3 - (i + 1)) + 2 * (m / 10).toNat < (3 - i) + 2 * m.toNat by omega⟩
     rw [← h4]
     have := rest_ne (i := i) h1 (.inr (by omega)) (by omega)
     show restT (m / 10) (i + 1) ++ _ = restT m i ++ _
     rw [← this]; simp
    ·(conv => whnf)
     (repeat' ((first | with_reducible exact True.intro | ((with_reducible refine And.intro ?_ ?_); focus (first | with_reducible rfl | omega | exact Nat.le_of_ble_eq_true rfl | rfl)) | with_reducible refine And.intro (?_ : leA _ _ _) ?_ | fail) <;> (conv => whnf)))
     all_goals (try simp only [wQ])
     all_goals (try first | omega)
     all_goals (try first | exact ⟨by simp, Or.inl trivial⟩)
    ·(conv => whnf)
     (repeat' ((first | with_reducible exact True.intro | ((with_reducible refine And.intro ?_ ?_); focus (first | with_reducible rfl | omega | exact Nat.le_of_ble_eq_true rfl | rfl)) | with_reducible refine And.intro (?_ : leBlk _ _ _ _) ?_ | fail) <;> (conv => whnf)))
     all_goals (try simp only [wQ])
     exact ⟨by simp, fun e he => ⟨cat_u8n (l := c :: l) rfl (fun _ _ => rfl) hdr (by simpa using he), rfl⟩⟩
   ·have hcl := hfin (by omega) (by omega)
    have hll : l.length + 1 = (centsT n).length := by have := congrArg List.length hcl; simpa using this
    refine ⟨?_, fun (k : Nat) (hk : k ≤ (centsT n).length) => ?_⟩
    ·(conv => whnf)
     refine ⟨(0 : Nat), [], ?_, ⟨⟨rfl, Nat.le_of_ble_eq_true rfl, rfl⟩, ?_, ?_⟩⟩
     ·exact Nat.zero_le _
     ·(conv => whnf)
      (repeat' ((first | with_reducible exact True.intro | ((with_reducible refine Or.inr ?_); rfl) | ((with_reducible refine And.intro ?_ ?_); focus (first | with_reducible rfl | omega | exact Nat.le_of_ble_eq_true rfl | rfl)) | with_reducible refine And.intro (?_ : leA _ _ _) ?_ | fail) <;> (conv => whnf)))
      all_goals (try simp only [wQ])
      all_goals (try first | omega)
     ·(conv => whnf)
      (repeat' ((first | with_reducible exact True.intro | ((with_reducible refine And.intro ?_ ?_); focus (first | with_reducible rfl | omega | exact Nat.le_of_ble_eq_true rfl | rfl)) | with_reducible refine And.intro (?_ : leA _ _ _) ?_ | with_reducible refine And.intro (?_ : leL _ _ _) ?_ | with_reducible refine And.intro (?_ : leBlk _ _ _ _) ?_ | fail) <;> (conv => whnf)))
      all_goals (try simp only [wQ])
      intro e he
      rw [hcl]; exact ⟨rfl, rfl⟩
    ·have hr : ∀ k : Nat, k < (centsT n).length → [AV.int .u8 (((centsT n).reverse.getD (0 + (((centsT n).length : Int) - 1 - (k : Int)).toNat) 0).toNat : Int)] = [AV.int .u8 ((centsT n).getD k 0).toNat] := fun k hk => by rw [rev_getD hk]
     have hpos := centsT_pos n
     have h30 := centsT_len h0 (by omega)
     rcases k with _ | k
     ·(conv => whnf)
      (repeat' ((first
       | (with_reducible refine inl_intro ?_)
       | ((with_reducible refine And.intro ?_ ?_); focus (first | omega | (simp only [inK_def, Go.Vc.lo, Go.Vc.hi]; omega) | (simp only [growOk, ty2, ty3, ty4, ty5, ty9, ty21, ty37, ty42, ty43, ty45, ty47, ty67, ty95, ty105, ty113, ty150, ty161, ty198, ty242, ty275]; first | omega | (refine ⟨?_, ?_⟩ <;> omega)) | decide))
       | (split <;> rename_i hh <;> (try simp only [wS] at hh) <;> (try simp (disch := omega) only [wT] at hh))
       | with_reducible refine (fun (hln : (_ : Int) ≤ 9223372036854775807) => ?_)
       | fail) <;> (conv => whnf)))
      all_goals (try (show _ = _; simp only [wQ]))
      ·(conv => whnf)
       refine ⟨(1 : Nat), [4], ?_, ⟨⟨rfl, Nat.le_of_ble_eq_true rfl, rfl⟩, ?_, ?_⟩⟩
       ·exact ⟨show 1 ≤ (centsT n).length by omega, show (centsT n).length - 1 < (centsT n).length - 0 by omega⟩
       ·(conv => whnf)
        (repeat' ((first | with_reducible exact True.intro | ((with_reducible refine Or.inr ?_); rfl) | ((with_reducible refine And.intro ?_ ?_); focus (first | with_reducible rfl | omega | exact Nat.le_of_ble_eq_true rfl | rfl)) | with_reducible refine And.intro (?_ : leA _ _ _) ?_ | fail) <;> (conv => whnf)))
        all_goals (try simp only [wQ])
        all_goals (try first | omega)
       ·(conv => whnf)
        (repeat' ((first | with_reducible exact True.intro | ((with_reducible refine Or.inr ?_); rfl) | ((with_reducible refine And.intro ?_ ?_); focus (first | with_reducible rfl | omega | exact Nat.le_of_ble_eq_true rfl | rfl)) | with_reducible refine And.intro (?_ : leA _ _ _) ?_ | with_reducible refine And.intro (?_ : leL _ _ _) ?_ | with_reducible refine And.intro (?_ : leBlk _ _ _ _) ?_ | fail) <;> (conv => whnf)))
        all_goals (try simp only [wQ])
        all_goals (try first | exact fun _ _ => ⟨True.intro, rfl⟩)
        refine ⟨⟨rfl, Nat.le_refl _, fun e he => ?_⟩, trivial⟩
        have he : e < 1 := he
        obtain rfl : e = 0 := by omega
        exact ⟨hr 0 (by omega), rfl⟩
      ·exfalso; omega
     ·(conv => whnf)
      (repeat' ((first
       | (with_reducible refine inl_intro ?_)
       | ((with_reducible refine And.intro ?_ ?_); focus (first | ((with_reducible refine ⟨?_, ?_, ?_⟩) <;> first | (intro e he; rcases (by omega : e = 0 ∨ e = 1 ∨ e = 2 ∨ e = 3 ∨ e = 4 ∨ e = 5) with rfl | rfl | rfl | rfl | rfl | rfl <;> first | rfl | (exfalso; omega)) | (with_reducible assumption) | omega | ((with_reducible show growOk _ _); simp only [growOk, ty2, ty3, ty4, ty5, ty9, ty21, ty37, ty42, ty43, ty45, ty47, ty67, ty95, ty105, ty113, ty150, ty161, ty198, ty242, ty275, List.length_cons, List.length_nil]; first | omega | (refine ⟨?_, ?_⟩ <;> omega))) | with_reducible rfl | omega | (simp only [inK_def, Go.Vc.lo, Go.Vc.hi]; omega) | decide))
       | (split <;> rename_i hh <;> (try simp only [wS] at hh) <;> (try simp (disch := omega) only [wT] at hh))
       | with_reducible refine (fun (hln : (_ : Int) ≤ 9223372036854775807) => ?_)
       | fail) <;> (conv => whnf)))
      all_goals (try (show _ = _; simp only [wQ]))
      ·(conv => whnf)
       refine ⟨(k + 2 : Nat), [4], ?_, ⟨⟨rfl, Nat.le_of_ble_eq_true rfl, rfl⟩, ?_, ?_⟩⟩
       ·exact ⟨show k + 2 ≤ (centsT n).length by omega, show (centsT n).length - (k + 2) < (centsT n).length - (k + 1) by omega⟩
       ·(conv => whnf)
        (repeat' ((first | with_reducible exact True.intro | ((with_reducible refine Or.inr ?_); rfl) | ((with_reducible refine And.intro ?_ ?_); focus (first | with_reducible rfl | omega | exact Nat.le_of_ble_eq_true rfl | rfl)) | with_reducible refine And.intro (?_ : leA _ _ _) ?_ | fail) <;> (conv => whnf)))
        all_goals (try simp only [wQ])
        all_goals (try first | omega)
       ·(conv => whnf)
        (repeat' ((first | with_reducible exact True.intro | ((with_reducible refine Or.inr ?_); rfl) | ((with_reducible refine And.intro ?_ ?_); focus (first | with_reducible rfl | omega | exact Nat.le_of_ble_eq_true rfl | rfl)) | with_reducible refine And.intro (?_ : leA _ _ _) ?_ | with_reducible refine And.intro (?_ : leL _ _ _) ?_ | with_reducible refine And.intro (?_ : leBlk _ _ _ _) ?_ | fail) <;> (conv => whnf)))
        all_goals (try simp only [wQ])
        all_goals (try first | exact fun _ _ => ⟨True.intro, rfl⟩)
        exact ⟨⟨trivial, Nat.le_refl _, fun e he => ⟨cat_tab (hr (k + 1) (by omega)) (by simpa using he), rfl⟩⟩, rfl⟩
      ·refine ⟨⟨rfl, by omega, Nat.le_refl _, fun e he => rfl⟩, ?_⟩
       (conv => whnf)
       all_goals (try (show _ = _; simp only [wQ]))
       have hk1 : k + 1 = (centsT n).length := by omega
       rw [hk1]; exact bytesOf_tab _
def pcFareT1 : PC := PC.fun fun | [.int .i64 n] => some (n < 0 ∨ moneyB n = false, .str (sS (fareT n))) | _ => none
def D_fareT1 : PT := tabD [(132, pcFareT0), (207, pcMoney)]
theorem d_fareT1 {W : World} (hW : Tabs W) : PTOk (Fw W) Tryz.prog D_fareT1 := (tabD_cons Tryz.call132 (g_fareT0 hW) (tabD_cons Tryz.call207 (g_fare_May hW) tabD_nil))
def C_fareT1 : FuncId → Option Ctr := tabC D_fareT1 [(102, kBString)]
theorem c_fareT1 {W : World} (hW : Tabs W) : CtrOk (Fw W) Tryz.prog C_fareT1 := (tabC_cons Tryz.call102 goodBString (tabC_nil (d_fareT1 hW)))
theorem g_fareT1 {W : World} (hW : Tabs W) : GoodP (Fw W) Tryz.prog 132 pcFareT1 := by
 have hD := d_fareT1 hW
 have hC0 : CtrOk (Fw W) Tryz.prog C_fareT1 := (c_fareT1 hW)
 refine goodP_fun (D := D_fareT1) (C := C_fareT1) (wr := (fun _ => false)) rfl tyOk hD hC0 Tryz.func132 (fun _ _ => none) ?_
 clear hC0 hD hW
 intro cs p r h hf hp
 split at h
 case h_2 => cases h
 rename_i n
 cases h
 try simp only [factL, factA, inK_def, Go.Vc.lo, Go.Vc.hi, and_true] at hf
 have hbd : moneyB n = true → -1000000000000 ≤ n ∧ n ≤ 1000000000000 := fun h => by have := h; unfold moneyB at this; simp at this; omega
 by_cases hm : moneyB n = true
 ·have hn : n < 0 := by rcases hp with h | h; exact h; rw [hm] at h; cases h
  have hb := hbd hm
  have hex : ¬ 0 ≤ n := by omega
  have h1 := centsT_len (n := -n) (by omega) (by omega)
  have hm2 : 0 ≤ -n ∧ moneyB (-n) = true := ⟨by omega, by unfold moneyB; simp; omega⟩
  (conv => whnf)
  (repeat' ((first
   | (exact absurd (by with_reducible assumption) hex)
   | ((with_reducible refine And.intro ?_ ?_); focus (first | with_reducible exact True.intro | with_reducible assumption | (simp only [inK_def, Go.Vc.lo, Go.Vc.hi]; omega) | (simp only [List.length_append, bytesOf_length, List.toList_toArray, List.length_cons, List.length_nil, List.length_take, List.length_drop, sS_eq]; omega)))
   | (split <;> rename_i hh <;> (try simp only [wS] at hh) <;> (try simp (disch := omega) only [wT] at hh))
   | fail) <;> (conv => whnf)))
  all_goals (try (show _ = _; simp only [wQ]))
  all_goals try (rename_i hh; exact absurd hm hh)
  all_goals try (rename_i hh; rw [hm] at hh; cases hh; done)
  all_goals (unfold fareT moneyT; rw [if_pos hm, if_pos hn]; rfl)
 ·have hex : ¬ moneyB n = true := hm
  (conv => whnf)
  (repeat' ((first
   | (exact absurd (by with_reducible assumption) hex)
   | ((with_reducible refine And.intro ?_ ?_); focus (with_reducible exact True.intro))
   | (split <;> rename_i hh <;> (try simp only [wS] at hh) <;> (try simp (disch := omega) only [wT] at hh))
   | fail) <;> (conv => whnf)))
  all_goals (try (show _ = _; simp only [wQ]))
  unfold fareT; rw [if_neg hm]
theorem PC.split {F : Nat → Obj → Prop} {P : Program} {i : FuncId} {f f1 f2 : List AV → Option (Prop × AV)} (h1 : GoodP F P i (PC.fun f1)) (h2 : GoodP F P i (PC.fun f2))
  (h : ∀ cs p r, f cs = some (p, r) → p → (∃ p1, f1 cs = some (p1, r) ∧ p1) ∨ (∃ p2, f2 cs = some (p2, r) ∧ p2)) : GoodP F P i (PC.fun f) := by
 intro S w cs vs Q hs hv hT
 simp only [PC.fun] at hT
 cases hf : f cs with
 | none => rw [hf] at hT; exact hT.elim
 | some pr =>
  obtain ⟨p, r⟩ := pr
  rw [hf] at hT
  rcases h cs p r hf hT.1 with ⟨p1, hc, hp⟩ | ⟨p1, hc, hp⟩
  ·refine h1 S w cs vs Q hs hv ?_
   simp only [PC.fun]; rw [hc]; exact ⟨hp, hT.2⟩
  ·refine h2 S w cs vs Q hs hv ?_
   simp only [PC.fun]; rw [hc]; exact ⟨hp, hT.2⟩
def pcFareT : PC := PC.fun fun | [.int .i64 n] => some (True, .str (sS (fareT n))) | _ => none
theorem g_fareT {W : World} (hW : Tabs W) : GoodP (Fw W) Tryz.prog 132 pcFareT := by
 refine PC.split (g_fareT0 hW) (g_fareT1 hW) fun cs p r h hp => ?_
 split at h
 ·rename_i n
  cases h
  by_cases hc : 0 ≤ n ∧ moneyB n = true
  ·refine .inl ⟨_, ?_, hc⟩
   have : fareT n = centsT n := by unfold fareT moneyT; rw [if_pos hc.2, if_neg (by omega)]
   rw [this]
  ·exact .inr ⟨_, rfl, by
    by_cases h1 : n < 0
    ·exact .inl h1
    ·exact .inr (Bool.eq_false_iff.2 fun h2 => hc ⟨by omega, h2⟩)⟩
 ·cases h
end
end Go.Vc.Z
