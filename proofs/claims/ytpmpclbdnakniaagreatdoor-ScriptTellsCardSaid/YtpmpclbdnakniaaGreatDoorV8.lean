/- Postings: may one be? -/
import Derived.Test.YtpmpclbdnakniaaGreatDoorV7
import Derived.Test.YtpmpclbdnakniaaGreatDoorProg
import Derived.Ground.NamesProg
import Derived.Shelf.Strings.OnBuilder
import Derived.Shelf.Strings.Builder1
import Derived.Shelf.Strconv.Itoa4
set_option linter.all false
set_option linter.unusedVariables false
set_option linter.unusedSimpArgs false
namespace Go.Vc.Z
open Go Go.Vc Go.Proofs Go.RowKit Go.Pl Go.Lib
noncomputable section
set_option maxRecDepth 100000
set_option linter.unusedSimpArgs false
set_option linter.unusedVariables false
attribute [local irreducible] inK Utf8.decode Utf8.encode Lib.itoa Pl.worth Pl.allDig
def belowL (k : Int) : List Bool := if k = 1 then [false, true, false, true, false, false] else if k = 2 then [true, false, false, false, false, false] else if k = 3 then [false, false, true, false, false, false] else if k = 4 then [true, false, false, false, true, false] else [false, true, false, true, true, true]
def aboveL (k : Int) : List Bool := if k = 1 then [true, false, false, false, false, false] else if k = 2 then [false, true, false, true, false, false] else if k = 3 then [false, true, false, false, false, false] else if k = 4 then [false, true, false, true, false, false] else [true, true, false, true, false, false]
def pcBelow : PC := PC.fun fun | [.int .i64 k] => some (1 ≤ k ∧ k ≤ 5, .sl false 1 6 (fun e => [.bool ((belowL k).getD e false)])) | _ => none
def pcAbove6 : PC := PC.fun fun | [.int .i64 k] => some (1 ≤ k ∧ k ≤ 5, .sl false 1 6 (fun e => [.bool ((aboveL k).getD e false)])) | _ => none
def D_couponref14_Below : PT := tabD []
def C_couponref14_Below : FuncId → Option Ctr := tabC D_couponref14_Below []
theorem g_couponref14_Below {W : World} (hW : Tabs W) : GoodP (Fw W) Tryz.prog 261 pcBelow := by
  have hD : PTOk (Fw W) Tryz.prog D_couponref14_Below := tabD_nil
  have hC0 : CtrOk (Fw W) Tryz.prog C_couponref14_Below := (tabC_nil hD)
  refine goodP_fun (D := D_couponref14_Below) (C := C_couponref14_Below) (wr := (fun _ => false)) rfl tyOk hD hC0 Tryz.func261 (fun _ _ => none) ?_
  clear hC0 hD hW
  intro cs p r h hf hp
  split at h
  case h_2 => cases h
  rename_i k
  cases h
  try simp only [factL, factA, inK_def, Go.Vc.lo, Go.Vc.hi, and_true] at hf
  rcases (by omega : k = 1 ∨ k = 2 ∨ k = 3 ∨ k = 4 ∨ k = 5) with rfl | rfl | rfl | rfl | rfl
  all_goals (
    (conv => whnf)
    (repeat' ((first
      | ((with_reducible refine And.intro ?_ ?_); focus (first | with_reducible rfl | omega | (simp only [inK_def, Go.Vc.lo, Go.Vc.hi]; omega) | decide))
      | fail) <;> (conv => whnf)))
    all_goals (try (show _ = _; simp only [sI_eq, sB_eq, sS_eq, sN_eq])))
  all_goals (
    intro e he
    match e, he with
    | 0, _ => first | rfl | exact ⟨rfl, rfl⟩
    | 1, _ => first | rfl | exact ⟨rfl, rfl⟩
    | 2, _ => first | rfl | exact ⟨rfl, rfl⟩
    | 3, _ => first | rfl | exact ⟨rfl, rfl⟩
    | 4, _ => first | rfl | exact ⟨rfl, rfl⟩
    | 5, _ => first | rfl | exact ⟨rfl, rfl⟩
    | e + 6, he => exact absurd he (by omega)
    )
def D_couponref14_Above : PT := tabD []
def C_couponref14_Above : FuncId → Option Ctr := tabC D_couponref14_Above []
theorem g_couponref14_Above {W : World} (hW : Tabs W) : GoodP (Fw W) Tryz.prog 262 pcAbove6 := by
  have hD : PTOk (Fw W) Tryz.prog D_couponref14_Above := tabD_nil
  have hC0 : CtrOk (Fw W) Tryz.prog C_couponref14_Above := (tabC_nil hD)
  refine goodP_fun (D := D_couponref14_Above) (C := C_couponref14_Above) (wr := (fun _ => false)) rfl tyOk hD hC0 Tryz.func262 (fun _ _ => none) ?_
  clear hC0 hD hW
  intro cs p r h hf hp
  split at h
  case h_2 => cases h
  rename_i k
  cases h
  try simp only [factL, factA, inK_def, Go.Vc.lo, Go.Vc.hi, and_true] at hf
  rcases (by omega : k = 1 ∨ k = 2 ∨ k = 3 ∨ k = 4 ∨ k = 5) with rfl | rfl | rfl | rfl | rfl
  all_goals (
    (conv => whnf)
    (repeat' ((first
      | ((with_reducible refine And.intro ?_ ?_); focus (first | with_reducible rfl | omega | (simp only [inK_def, Go.Vc.lo, Go.Vc.hi]; omega) | decide))
      | fail) <;> (conv => whnf)))
    all_goals (try (show _ = _; simp only [sI_eq, sB_eq, sS_eq, sN_eq])))
  all_goals (
    intro e he
    match e, he with
    | 0, _ => first | rfl | exact ⟨rfl, rfl⟩
    | 1, _ => first | rfl | exact ⟨rfl, rfl⟩
    | 2, _ => first | rfl | exact ⟨rfl, rfl⟩
    | 3, _ => first | rfl | exact ⟨rfl, rfl⟩
    | 4, _ => first | rfl | exact ⟨rfl, rfl⟩
    | 5, _ => first | rfl | exact ⟨rfl, rfl⟩
    | e + 6, he => exact absurd he (by omega)
    )
def sumN (l : List Int) : Nat → Int
  | 0 => 0
  | n + 1 => sumN l n + l.getD n 0
@[irreducible] def colOk (k : Int) (l : List Int) (j : Nat) : Bool := decide (-1125899906842624 ≤ l.getD j 0) && decide (l.getD j 0 ≤ 1125899906842624) && fitI ((signsL k).getD j 0).toNat (l.getD j 0)
@[irreducible] def columnsB (k : Int) (l : List Int) : Bool := ((List.range 6).all fun j => colOk k l j) && decide (sumN l 6 = 0) && (decide (k ≠ 5) || decide (l.getD 0 0 = 0) || decide (l.getD 5 0 = 0))
theorem colOk_iff {k : Int} {l : List Int} {j : Nat} : colOk k l j = true ↔ -1125899906842624 ≤ l.getD j 0 ∧ l.getD j 0 ≤ 1125899906842624 ∧ fitI ((signsL k).getD j 0).toNat (l.getD j 0) = true := by
  unfold colOk; simp [and_assoc]
theorem fit_col {k : Int} {j : Nat} (v : Int) (hk : 1 ≤ k ∧ k ≤ 5) (hj : j < 6) : fitI ((signsL k).getD j 0).toNat v = true ↔ (v < 0 → (belowL k).getD j false = true) ∧ (0 < v → (aboveL k).getD j false = true) := by
  have hj' : j = 0 ∨ j = 1 ∨ j = 2 ∨ j = 3 ∨ j = 4 ∨ j = 5 := by omega
  rcases (by omega : k = 1 ∨ k = 2 ∨ k = 3 ∨ k = 4 ∨ k = 5) with rfl | rfl | rfl | rfl | rfl <;> rcases hj' with rfl | rfl | rfl | rfl | rfl | rfl <;> simp [fitI, signsL, belowL, aboveL] <;> omega
theorem sumN_le {k : Int} {l : List Int} : ∀ {i : Nat}, (∀ j, j < i → colOk k l j = true) → -1125899906842624 * (i : Int) ≤ sumN l i ∧ sumN l i ≤ 1125899906842624 * (i : Int)
  | 0, _ => by simp [sumN]
  | i + 1, h => by
    have h1 := sumN_le (i := i) fun j hj => h j (by omega)
    have h2 := colOk_iff.1 (h i (by omega))
    simp only [sumN]
    omega
theorem columnsB_bad {k : Int} {l : List Int} {i : Nat} (hi : i < 6) (h : ¬ colOk k l i = true) : columnsB k l = false := by
  unfold columnsB
  rw [show ((List.range 6).all fun j => colOk k l j) = false from ?_]
  · simp
  · refine Bool.eq_false_iff.2 fun ha => h ?_
    exact List.all_eq_true.1 ha i (List.mem_range.2 hi)
theorem columnsB_good {k : Int} {l : List Int} (h : ∀ j, j < 6 → colOk k l j = true) : columnsB k l = (decide (sumN l 6 = 0) && (decide (k ≠ 5) || decide (l.getD 0 0 = 0) || decide (l.getD 5 0 = 0))) := by
  unfold columnsB
  rw [show ((List.range 6).all fun j => colOk k l j) = true from List.all_eq_true.2 fun j hj => h j (List.mem_range.1 hj), Bool.true_and]
def LCols (k : Int) (l : List Int) : LoopSpec := {
  α := Nat × Int
  keep := [0, 1, 5, 6]
  vals x := [.int .i64 k, .sl false 1 6 (fun e => [.int .i64 (l.getD e 0)]), .int .i64 x.2, .int .i64 x.1]
  heap _ := []
  ok x := x.1 ≤ 6 ∧ (∀ j, j < x.1 → colOk k l j = true) ∧ x.2 = sumN l x.1
  μ x := 6 - x.1 }
def pcCols : PC := PC.of (fun x : Int × List Int => [.int .i64 x.1, .sl false 1 6 (fun e => [.int .i64 (x.2.getD e 0)])]) (fun x => 1 ≤ x.1 ∧ x.1 ≤ 5) (fun x => .bool (sB (columnsB x.1 x.2)))
def D_couponref14_Columns : PT := tabD [(261, pcBelow), (262, pcAbove6)]
def C_couponref14_Columns : FuncId → Option Ctr := tabC D_couponref14_Columns []
def L_couponref14_Columns : Int × List Int → Nat → Option LR := fun x i => cond (Nat.beq i 3) (some (.inv (LCols x.1 x.2))) (none)
set_option maxHeartbeats 2000000 in
theorem g_couponref14_Columns {W : World} (hW : Tabs W) : GoodP (Fw W) Tryz.prog 191 pcCols := by
  have hD : PTOk (Fw W) Tryz.prog D_couponref14_Columns := (tabD_cons Tryz.call261 (g_couponref14_Below hW) (tabD_cons Tryz.call262 (g_couponref14_Above hW) tabD_nil))
  have hC0 : ∀ x : Int × List Int, CtrOk (Fw W) Tryz.prog (C_couponref14_Columns) := fun x => (tabC_nil hD)
  refine goodP_ofC (D := D_couponref14_Columns) (C := fun x => C_couponref14_Columns) (wr := (fun _ => false)) rfl tyOk hD hC0 Tryz.func191 (L_couponref14_Columns) (fun _ => rfl) ?_
  rintro ⟨k, l⟩ hf hp
  clear hf
  have hk : 1 ≤ k ∧ k ≤ 5 := hp
  clear hp
  (conv => whnf)
  all_goals (try (show _ = _; simp only [sI_eq, sB_eq, sS_eq, sN_eq]))
  refine ⟨?_, fun (x : Nat × Int) hx => ?_⟩
  · (conv => whnf)
    refine ⟨((0, 0) : Nat × Int), [], ?_, ⟨⟨rfl, Nat.le_of_ble_eq_true rfl, rfl⟩, ?_, ?_⟩⟩
    · exact ⟨Nat.zero_le _, fun j hj => absurd hj (Nat.not_lt_zero _), rfl⟩
    · (conv => whnf)
      (repeat' ((first | with_reducible exact True.intro | ((with_reducible refine And.intro ?_ ?_); focus (first | with_reducible rfl | omega | exact Nat.le_of_ble_eq_true rfl | rfl)) | with_reducible refine And.intro (?_ : leA _ _ _) ?_ | fail) <;> (conv => whnf)))
      all_goals (try simp only [sI_eq, sB_eq, sS_eq, sN_eq])
      all_goals (try first | omega | exact ⟨fun h => h, fun _ _ => True.intro⟩)
    · (conv => whnf)
      (repeat' ((first | with_reducible exact True.intro | fail) <;> (conv => whnf)))
      all_goals (try simp only [sI_eq, sB_eq, sS_eq, sN_eq])
  · obtain ⟨i, sum⟩ := x
    obtain ⟨h1, h2, h3⟩ := hx
    change i ≤ 6 at h1
    change ∀ j, j < i → colOk k l j = true at h2
    change sum = sumN l i at h3
    have hb := sumN_le h2
    rw [← h3] at hb
    have ei : Int.toNat (i : Int) = i := rfl
    have hcol : i < 6 → (colOk k l i = true ↔ -1125899906842624 ≤ l.getD (Int.toNat (i : Int)) 0 ∧ l.getD (Int.toNat (i : Int)) 0 ≤ 1125899906842624 ∧ (l.getD (Int.toNat (i : Int)) 0 < 0 → (belowL k).getD (Int.toNat (i : Int)) false = true) ∧ (0 < l.getD (Int.toNat (i : Int)) 0 → (aboveL k).getD (Int.toNat (i : Int)) false = true)) := fun h => by
      rw [colOk_iff, fit_col _ hk h]; rfl
    have hbad : i < 6 → ¬ colOk k l i = true → columnsB k l = false := columnsB_bad
    have hgo : i < 6 → colOk k l i = true → (LCols k l).ok ((i + 1, sum + l.getD (Int.toNat (i : Int)) 0) : Nat × Int) ∧ (LCols k l).μ ((i + 1, sum + l.getD (Int.toNat (i : Int)) 0) : Nat × Int) < (LCols k l).μ ((i, sum) : Nat × Int) := fun h hc => by
      refine ⟨⟨show i + 1 ≤ 6 by omega, fun j hj => ?_, ?_⟩, show 6 - (i + 1) < 6 - i by omega⟩
      · have hj : j < i + 1 := hj
        by_cases he : j = i
        · subst he; exact hc
        · exact h2 j (by omega)
      · show sum + l.getD i 0 = sumN l i + l.getD i 0
        rw [h3]
    have hfin : i = 6 → columnsB k l = (decide (sum = 0) && (decide (k ≠ 5) || decide (l.getD 0 0 = 0) || decide (l.getD 5 0 = 0))) := fun h => by
      subst h; rw [columnsB_good h2, h3]
    (conv => whnf)
    (repeat' ((first
      | ((with_reducible refine And.intro ?_ ?_); focus (first | with_reducible assumption | omega | (simp only [inK_def, Go.Vc.lo, Go.Vc.hi]; omega)))
      | (split <;> rename_i hh <;> (try simp only [ble_true, ble_false, beq_true, beq_false, sI_eq, sB_eq, sS_eq, sN_eq, ltI_eq, leI_eq, eqI_eq, decide_eq_true_eq, decide_eq_false_iff_not, beq_iff_eq, bne_iff_ne, ne_eq, beq_eq_false_iff_ne, bne_eq_false_iff_eq, Bool.not_eq_true, Bool.not_eq_false, Int.not_lt, Int.not_le, gt_iff_lt, ge_iff_le, Nat.not_lt, Nat.not_le, Decidable.not_not, Bool.not_eq_eq_eq_not, Bool.not_true, Bool.not_false, cond_true, cond_false, Bool.or_eq_true, Bool.and_eq_true, Bool.or_eq_false_iff, Bool.and_eq_false_iff] at hh) <;> (try simp (disch := omega) only [Int.tdiv_eq_ediv_of_nonneg, Int.tmod_eq_emod_of_nonneg] at hh))
      | fail) <;> (conv => whnf)))
    all_goals (try (show _ = _; simp only [sI_eq, sB_eq, sS_eq, sN_eq]))
    all_goals try (exfalso; omega)
    all_goals try (
      symm; refine hbad (by omega) fun hc => ?_
      obtain ⟨c1, c2, c3, c4⟩ := (hcol (by omega)).1 hc
      rename_i hh
      first | omega | (rw [c3 (by omega)] at hh; cases hh) | (rw [c4 (by omega)] at hh; cases hh))
    all_goals try (
      (conv => whnf)
      refine ⟨((i + 1, sum + l.getD (Int.toNat (i : Int)) 0) : Nat × Int), [], ?_, ⟨⟨rfl, Nat.le_of_ble_eq_true rfl, rfl⟩, ?_, ?_⟩⟩
      · exact hgo (by omega) ((hcol (by omega)).2 ⟨by omega, by omega, fun _ => by first | assumption | omega, fun _ => by first | assumption | omega⟩)
      · (conv => whnf)
        (repeat' ((first | with_reducible exact True.intro | ((with_reducible refine And.intro ?_ ?_); focus (first | with_reducible rfl | omega | exact Nat.le_of_ble_eq_true rfl | rfl)) | with_reducible refine And.intro (?_ : leA _ _ _) ?_ | fail) <;> (conv => whnf)))
        all_goals (try simp only [sI_eq, sB_eq, sS_eq, sN_eq])
        all_goals (try first | omega | exact ⟨fun h => h, fun _ _ => True.intro⟩)
      · (conv => whnf)
        (repeat' ((first | with_reducible exact True.intro | fail) <;> (conv => whnf)))
        all_goals (try simp only [sI_eq, sB_eq, sS_eq, sN_eq])
      done)
    all_goals (
      rw [hfin (by omega)]
      clear hfin hgo hbad hcol hb h3 h2 hk
      have e0 : Int.toNat 0 = 0 := rfl
      have e5 : Int.toNat 5 = 5 := rfl
      first | (simp_all [eqI_eq]; done) | (rw [Bool.eq_iff_iff]; simp_all [eqI_eq]; done))
@[irreducible] def mayPostB (p : Posting) : Bool := dayB p.day && numdB p.ticket && decide (1 ≤ p.seq) && decide (p.seq ≤ 200) && decide (1 ≤ p.kind) && decide (p.kind ≤ 5) && columnsB p.kind (amtsL p)
def pcMayPost : PC := PC.fun fun | [.agg [.int .i64 pd, .int .u64 pt, .int .i64 ps, .int .i64 pk, .int .i64 a0, .int .i64 a1, .int .i64 a2, .int .i64 a3, .int .i64 a4, .int .i64 a5]] => some (True, .bool (sB (mayPostB (Posting.mk pd pt ps pk a0 a1 a2 a3 a4 a5)))) | _ => none
def D_couponref14_May : PT := tabD [(135, pcCheck), (120, pcAmounts), (191, pcCols)]
def C_couponref14_May : FuncId → Option Ctr := tabC D_couponref14_May []
theorem g_couponref14_May {W : World} (hW : Tabs W) : GoodP (Fw W) Tryz.prog 116 pcMayPost := by
  have hD : PTOk (Fw W) Tryz.prog D_couponref14_May := (tabD_cons Tryz.call135 (g_couponref10_Check hW) (tabD_cons Tryz.call120 (g_couponref14_Amounts hW) (tabD_cons Tryz.call191 (g_couponref14_Columns hW) tabD_nil)))
  have hC0 : CtrOk (Fw W) Tryz.prog C_couponref14_May := (tabC_nil hD)
  refine goodP_fun (D := D_couponref14_May) (C := C_couponref14_May) (wr := (fun _ => false)) rfl tyOk hD hC0 Tryz.func116 (fun _ _ => none) ?_
  clear hC0 hD hW
  intro cs p r h hf hp
  split at h
  case h_2 => cases h
  rename_i pd pt ps pk a0 a1 a2 a3 a4 a5
  cases h
  try simp only [factL, factA, inK_def, Go.Vc.lo, Go.Vc.hi, and_true] at hf
  clear hf
  have hm : mayPostB (Posting.mk pd pt ps pk a0 a1 a2 a3 a4 a5) = (dayB pd && numdB pt && decide (1 ≤ ps) && decide (ps ≤ 200) && decide (1 ≤ pk) && decide (pk ≤ 5) && columnsB pk (amtsL (Posting.mk pd pt ps pk a0 a1 a2 a3 a4 a5))) := by unfold mayPostB; rfl
  (conv => whnf)
  (repeat' ((first
    | ((with_reducible refine And.intro ?_ ?_); focus (first | with_reducible exact True.intro | ((with_reducible show okB _ _ _ = true); rfl)))
    | (split <;> rename_i hh <;> (try simp only [ble_true, ble_false, beq_true, beq_false, sI_eq, sB_eq, sS_eq, sN_eq, ltI_eq, leI_eq, eqI_eq, decide_eq_true_eq, decide_eq_false_iff_not, beq_iff_eq, bne_iff_ne, ne_eq, beq_eq_false_iff_ne, bne_eq_false_iff_eq, Bool.not_eq_true, Bool.not_eq_false, Int.not_lt, Int.not_le, gt_iff_lt, ge_iff_le, Nat.not_lt, Nat.not_le, Decidable.not_not, Bool.not_eq_eq_eq_not, Bool.not_true, Bool.not_false, cond_true, cond_false, Bool.or_eq_true, Bool.and_eq_true, Bool.or_eq_false_iff, Bool.and_eq_false_iff] at hh) <;> (try simp (disch := omega) only [Int.tdiv_eq_ediv_of_nonneg, Int.tmod_eq_emod_of_nonneg] at hh))
    | fail) <;> (conv => whnf)))
  all_goals (try (show _ = _; simp only [sI_eq, sB_eq, sS_eq, sN_eq]))
  all_goals try (symm; rw [hm]; refine Bool.eq_false_iff.2 fun h => ?_; unfold dayB numdB at h; simp only [Bool.and_eq_true, decide_eq_true_eq] at h; omega)
  refine ⟨((pk, amtsL (Posting.mk pd pt ps pk a0 a1 a2 a3 a4 a5)) : Int × List Int), ⟨by omega, by omega⟩, ?_, ?_⟩
  · (conv => whnf)
    (repeat' ((first | with_reducible exact True.intro | ((with_reducible refine And.intro ?_ ?_); focus (first | with_reducible rfl | omega | exact Nat.le_of_ble_eq_true rfl | rfl)) | with_reducible refine And.intro (?_ : leA _ _ _) ?_ | fail) <;> (conv => whnf)))
    all_goals (try simp only [sI_eq, sB_eq, sS_eq, sN_eq])
    all_goals (try first | exact ⟨fun h => h, fun _ _ => True.intro⟩)
  (conv => whnf)
  all_goals (try (show _ = _; simp only [sI_eq, sB_eq, sS_eq, sN_eq]))
  rw [hm]; unfold dayB numdB; simp [*]
theorem sign_ne {k : Int} (h : ¬ signsL k = []) : 1 ≤ k ∧ k ≤ 5 := by
  unfold signsL at h
  repeat' split at h
  all_goals first | omega | exact absurd rfl h
theorem sign_nil {k : Int} (h : signsL k = []) : ¬ (1 ≤ k ∧ k ≤ 5) := by
  unfold signsL at h
  repeat' split at h
  all_goals first | (cases h; done) | omega
theorem sign_byte {k : Int} {i : Nat} (hk : 1 ≤ k ∧ k ≤ 5) (hi : i < 6) : ((signsL k).getD i 0).toNat < 128 ∧ (signsL k).length = 6 := by
  rcases (by omega : k = 1 ∨ k = 2 ∨ k = 3 ∨ k = 4 ∨ k = 5) with rfl | rfl | rfl | rfl | rfl <;> rcases (by omega : i = 0 ∨ i = 1 ∨ i = 2 ∨ i = 3 ∨ i = 4 ∨ i = 5) with rfl | rfl | rfl | rfl | rfl | rfl <;> decide
theorem outB_iff {b : Int} {l : List Int} : outB b l = false ↔ ∀ x ∈ l, -b ≤ x ∧ x ≤ b := by
  unfold outB
  simp only [List.any_eq_false, Bool.or_eq_true, decide_eq_true_eq]
  constructor
  · intro h x hx; have := h x hx; omega
  · intro h x hx; have := h x hx; omega
def LPost (p : Posting) : LoopSpec := {
  α := Nat × Int
  keep := [1, 3, 6, 25]
  vals x := [.ptr 0 0, .ptr 1 0, .int .i64 x.2, .iter 2]
  heap x := [.var p.enc, .var [.int .i64 p.cash, .int .i64 p.liability, .int .i64 p.revenue, .int .i64 p.tax, .int .i64 p.penalty, .int .i64 p.voucher], .iter (sS (signsL p.kind)) x.1]
  ok x := x.1 ≤ 6 ∧ (∀ j, j < x.1 → colOk p.kind (amtsL p) j = true) ∧ x.2 = sumN (amtsL p) x.1
  μ x := 6 - x.1 }
def D_posting_May : PT := tabD [(113, pcOfP), (112, pcLook), (185, pcOut), (186, pcFits), (127, pcCheck)]
def C_posting_May : FuncId → Option Ctr := tabC D_posting_May []
def L_posting_May : List AV → Nat → Option LR := fun cs i => match cs with | [.agg [.int .i64 pd, .int .u64 pt, .int .i64 ps, .int .i64 pk, .int .i64 a0, .int .i64 a1, .int .i64 a2, .int .i64 a3, .int .i64 a4, .int .i64 a5]] => cond (Nat.beq i 7) (some (.inv (LPost (Posting.mk pd pt ps pk a0 a1 a2 a3 a4 a5)))) (none) | _ => none
set_option maxHeartbeats 4000000 in
theorem g_posting_May {W : World} (hW : Tabs W) : GoodP (Fw W) Tryz.prog 107 pcMayPost := by
  have hD : PTOk (Fw W) Tryz.prog D_posting_May := (tabD_cons Tryz.call113 (g_posting_of hW) (tabD_cons Tryz.call112 (g_posting_look hW) (tabD_cons Tryz.call185 (g_posting_amounts_out hW) (tabD_cons Tryz.call186 (g_posting_fits hW) (tabD_cons Tryz.call127 (g_number_Check hW) tabD_nil)))))
  have hC0 : CtrOk (Fw W) Tryz.prog C_posting_May := (tabC_nil hD)
  refine goodP_fun (D := D_posting_May) (C := C_posting_May) (wr := (fun _ => false)) rfl tyOk hD hC0 Tryz.func107 (L_posting_May) ?_
  clear hC0 hD hW
  intro cs p r h hf hp
  split at h
  case h_2 => cases h
  rename_i pd pt ps pk a0 a1 a2 a3 a4 a5
  cases h
  try simp only [factL, factA, inK_def, Go.Vc.lo, Go.Vc.hi, and_true] at hf
  clear hf
  have hm : mayPostB (Posting.mk pd pt ps pk a0 a1 a2 a3 a4 a5) = (dayB pd && numdB pt && decide (1 ≤ ps) && decide (ps ≤ 200) && decide (1 ≤ pk) && decide (pk ≤ 5) && columnsB pk (amtsL (Posting.mk pd pt ps pk a0 a1 a2 a3 a4 a5))) := by unfold mayPostB; rfl
  have hss := sS_eq (signsL pk)
  (conv => whnf)
  (repeat' ((first
    | ((with_reducible refine And.intro ?_ ?_); focus (first | with_reducible exact True.intro | omega))
    | (split <;> rename_i hh <;> (try simp only [ble_true, ble_false, beq_true, beq_false, sI_eq, sB_eq, sS_eq, sN_eq, ltI_eq, leI_eq, eqI_eq, decide_eq_true_eq, decide_eq_false_iff_not, beq_iff_eq, bne_iff_ne, ne_eq, beq_eq_false_iff_ne, bne_eq_false_iff_eq, Bool.not_eq_true, Bool.not_eq_false, Int.not_lt, Int.not_le, gt_iff_lt, ge_iff_le, Nat.not_lt, Nat.not_le, Decidable.not_not, Bool.not_eq_eq_eq_not, Bool.not_true, Bool.not_false, cond_true, cond_false, Bool.or_eq_true, Bool.and_eq_true, Bool.or_eq_false_iff, Bool.and_eq_false_iff] at hh) <;> (try simp (disch := omega) only [Int.tdiv_eq_ediv_of_nonneg, Int.tmod_eq_emod_of_nonneg] at hh))
    | fail) <;> (conv => whnf)))
  all_goals (try (show _ = _; simp only [sI_eq, sB_eq, sS_eq, sN_eq]))
  · rw [hm]; have := sign_nil (by assumption); symm; refine Bool.eq_false_iff.2 fun h => ?_; simp only [Bool.and_eq_true, decide_eq_true_eq] at h; omega
  · rw [hm]; symm; refine Bool.eq_false_iff.2 fun h => ?_
    have hk := sign_ne (by assumption)
    simp only [Bool.and_eq_true, decide_eq_true_eq] at h
    have ho : outB 1125899906842624 [a0, a1, a2, a3, a4, a5] = false := outB_iff.2 fun x hx => by
      have hc : ∀ i, i < 6 → colOk pk (amtsL (Posting.mk pd pt ps pk a0 a1 a2 a3 a4 a5)) i = true := fun i hi => by
        refine Decidable.of_not_not fun hn => ?_
        have := columnsB_bad hi hn
        rw [this] at h; cases h.2
      have g : ∀ i, i < 6 → -1125899906842624 ≤ (amtsL (Posting.mk pd pt ps pk a0 a1 a2 a3 a4 a5)).getD i 0 ∧ (amtsL (Posting.mk pd pt ps pk a0 a1 a2 a3 a4 a5)).getD i 0 ≤ 1125899906842624 := fun i hi => by have := colOk_iff.1 (hc i hi); omega
      simp only [List.mem_cons, List.not_mem_nil, or_false] at hx
      rcases hx with rfl | rfl | rfl | rfl | rfl | rfl
      · exact g 0 (by omega)
      · exact g 1 (by omega)
      · exact g 2 (by omega)
      · exact g 3 (by omega)
      · exact g 4 (by omega)
      · exact g 5 (by omega)
    rename_i hh; rw [ho] at hh; cases hh
  · have hk := sign_ne (by assumption)
    have hb := outB_iff.1 (by assumption : outB 1125899906842624 [a0, a1, a2, a3, a4, a5] = false)
    have hbd : ∀ i, i < 6 → -1125899906842624 ≤ (amtsL (Posting.mk pd pt ps pk a0 a1 a2 a3 a4 a5)).getD i 0 ∧ (amtsL (Posting.mk pd pt ps pk a0 a1 a2 a3 a4 a5)).getD i 0 ≤ 1125899906842624 := fun i hi => by
      refine hb _ ?_
      rcases (by omega : i = 0 ∨ i = 1 ∨ i = 2 ∨ i = 3 ∨ i = 4 ∨ i = 5) with rfl | rfl | rfl | rfl | rfl | rfl <;> simp
    have hlen := (sign_byte hk (show 0 < 6 by omega)).2
    have hru : ∀ i, i < 6 → runeAt (sS (signsL pk)) i = (((signsL pk).getD i 0).toNat : Int) ∧ runeW (sS (signsL pk)) i = 1 := fun i hi => by
      rw [hss]
      have := (sign_byte hk hi).1
      rcases rune_cases (l := signsL pk) (p := i) (by omega) with ⟨h1, h2, _⟩ | ⟨_, h2⟩
      · exact ⟨h1, h2⟩
      · omega
    refine ⟨?_, fun (x : Nat × Int) hx => ?_⟩
    · (conv => whnf)
      refine ⟨((0, 0) : Nat × Int), [], ?_, ⟨⟨rfl, Nat.le_of_ble_eq_true rfl, rfl⟩, ?_, ?_⟩⟩
      · exact ⟨Nat.zero_le _, fun j hj => absurd hj (Nat.not_lt_zero _), rfl⟩
      · (conv => whnf)
        (repeat' ((first | with_reducible exact True.intro | ((with_reducible refine And.intro ?_ ?_); focus (first | with_reducible rfl | omega | exact Nat.le_of_ble_eq_true rfl | rfl)) | with_reducible refine And.intro (?_ : leA _ _ _) ?_ | fail) <;> (conv => whnf)))
        all_goals (try simp only [sI_eq, sB_eq, sS_eq, sN_eq])
      · (conv => whnf)
        (repeat' ((first | with_reducible exact True.intro | ((with_reducible refine And.intro ?_ ?_); focus (first | with_reducible rfl | omega | exact Nat.le_of_ble_eq_true rfl | rfl)) | with_reducible refine And.intro (?_ : leA _ _ _) ?_ | with_reducible refine And.intro (?_ : leL _ _ _) ?_ | with_reducible refine And.intro (?_ : leBlk _ _ _ _) ?_ | fail) <;> (conv => whnf)))
        all_goals (try simp only [sI_eq, sB_eq, sS_eq, sN_eq])
        all_goals (try first | rfl)
    · obtain ⟨i, sum⟩ := x
      obtain ⟨h1, h2, h3⟩ := hx
      change i ≤ 6 at h1
      change ∀ j, j < i → colOk pk (amtsL (Posting.mk pd pt ps pk a0 a1 a2 a3 a4 a5)) j = true at h2
      change sum = sumN (amtsL (Posting.mk pd pt ps pk a0 a1 a2 a3 a4 a5)) i at h3
      have hbs := sumN_le h2
      rw [← h3] at hbs
      have hcol : ∀ v : Int, i < 6 → v = (amtsL (Posting.mk pd pt ps pk a0 a1 a2 a3 a4 a5)).getD i 0 → (colOk pk (amtsL (Posting.mk pd pt ps pk a0 a1 a2 a3 a4 a5)) i = true ↔ fitI (runeAt (signsL pk) i) v = true) := fun v h hv => by
        subst hv
        have hr := (hru i h).1
        rw [hss] at hr
        rw [colOk_iff, hr]
        have := hbd i h
        exact ⟨fun h => h.2.2, fun h => ⟨this.1, this.2, h⟩⟩
      have hbad : i < 6 → ¬ colOk pk (amtsL (Posting.mk pd pt ps pk a0 a1 a2 a3 a4 a5)) i = true → mayPostB (Posting.mk pd pt ps pk a0 a1 a2 a3 a4 a5) = false := fun h hc => by
        rw [hm, columnsB_bad h hc, Bool.and_false]
      have hgo : ∀ v : Int, i < 6 → v = (amtsL (Posting.mk pd pt ps pk a0 a1 a2 a3 a4 a5)).getD i 0 → colOk pk (amtsL (Posting.mk pd pt ps pk a0 a1 a2 a3 a4 a5)) i = true → (LPost (Posting.mk pd pt ps pk a0 a1 a2 a3 a4 a5)).ok ((i + 1, sum + v) : Nat × Int) ∧ (LPost (Posting.mk pd pt ps pk a0 a1 a2 a3 a4 a5)).μ ((i + 1, sum + v) : Nat × Int) < (LPost (Posting.mk pd pt ps pk a0 a1 a2 a3 a4 a5)).μ ((i, sum) : Nat × Int) := fun v h hv hc => by
        refine ⟨⟨show i + 1 ≤ 6 by omega, fun j hj => ?_, ?_⟩, show 6 - (i + 1) < 6 - i by omega⟩
        · have hj : j < i + 1 := hj
          by_cases he : j = i
          · subst he; exact hc
          · exact h2 j (by omega)
        · show sum + v = sumN (amtsL (Posting.mk pd pt ps pk a0 a1 a2 a3 a4 a5)) i + (amtsL (Posting.mk pd pt ps pk a0 a1 a2 a3 a4 a5)).getD i 0
          rw [h3, hv]
      have hfin : i = 6 → mayPostB (Posting.mk pd pt ps pk a0 a1 a2 a3 a4 a5) = (dayB pd && numdB pt && decide (1 ≤ ps) && decide (ps ≤ 200) && (decide (sum = 0) && (decide (pk ≠ 5) || decide (a0 = 0) || decide (a5 = 0)))) := fun h => by
        subst h; rw [hm, columnsB_good h2, h3, decide_eq_true hk.1, decide_eq_true hk.2, Bool.and_true, Bool.and_true]; rfl
      have b0 := hb a0 (by simp)
      have b1 := hb a1 (by simp)
      have b2 := hb a2 (by simp)
      have b3 := hb a3 (by simp)
      have b4 := hb a4 (by simp)
      have b5 := hb a5 (by simp)
      clear hm h2 h3 hb
      rcases (by omega : i < 6 ∨ i = 6) with hi | rfl
      · have hex : ¬ (signsL pk).length ≤ i := by omega
        have hr2 := hru i hi
        have hr3 := hr2.2
        rw [hss] at hr3
        rcases (by omega : i = 0 ∨ i = 1 ∨ i = 2 ∨ i = 3 ∨ i = 4 ∨ i = 5) with rfl | rfl | rfl | rfl | rfl | rfl
        all_goals (
          (conv => whnf)
          (repeat' ((first
            | (exact absurd (by with_reducible assumption) hex)
            | ((with_reducible refine And.intro ?_ ?_); focus (first | with_reducible exact True.intro | omega | (simp only [inK_def, Go.Vc.lo, Go.Vc.hi]; omega)))
            | (split <;> rename_i hh <;> (try simp only [ble_true, ble_false, beq_true, beq_false, sI_eq, sB_eq, sS_eq, sN_eq, ltI_eq, leI_eq, eqI_eq, decide_eq_true_eq, decide_eq_false_iff_not, beq_iff_eq, bne_iff_ne, ne_eq, beq_eq_false_iff_ne, bne_eq_false_iff_eq, Bool.not_eq_true, Bool.not_eq_false, Int.not_lt, Int.not_le, gt_iff_lt, ge_iff_le, Nat.not_lt, Nat.not_le, Decidable.not_not, Bool.not_eq_eq_eq_not, Bool.not_true, Bool.not_false, cond_true, cond_false, Bool.or_eq_true, Bool.and_eq_true, Bool.or_eq_false_iff, Bool.and_eq_false_iff] at hh) <;> (try simp (disch := omega) only [Int.tdiv_eq_ediv_of_nonneg, Int.tmod_eq_emod_of_nonneg] at hh))
            | fail) <;> (conv => whnf)))
          all_goals (try (show _ = _; simp only [sI_eq, sB_eq, sS_eq, sN_eq]))
          )
        all_goals try (
          symm; refine hbad (by omega) fun hc => ?_
          have hq := fun v hv => (hcol v (by omega) hv).1 hc
          rename_i hh
          first | (rw [hq a0 rfl] at hh; cases hh; done) | (rw [hq a1 rfl] at hh; cases hh; done) | (rw [hq a2 rfl] at hh; cases hh; done) | (rw [hq a3 rfl] at hh; cases hh; done) | (rw [hq a4 rfl] at hh; cases hh; done) | (rw [hq a5 rfl] at hh; cases hh; done))
        · (conv => whnf)
          refine ⟨((1, sum + a0) : Nat × Int), [], ?_, ⟨⟨rfl, Nat.le_of_ble_eq_true rfl, rfl⟩, ?_, ?_⟩⟩
          · exact hgo a0 (by omega) rfl ((hcol a0 (by omega) rfl).2 (by assumption))
          · (conv => whnf)
            (repeat' ((first | with_reducible exact True.intro | ((with_reducible refine And.intro ?_ ?_); focus (first | with_reducible rfl | omega | exact Nat.le_of_ble_eq_true rfl | rfl)) | with_reducible refine And.intro (?_ : leA _ _ _) ?_ | fail) <;> (conv => whnf)))
            all_goals (try simp only [sI_eq, sB_eq, sS_eq, sN_eq])
          · (conv => whnf)
            (repeat' ((first | with_reducible exact True.intro | ((with_reducible refine And.intro ?_ ?_); focus (first | with_reducible rfl | omega | exact Nat.le_of_ble_eq_true rfl | rfl)) | with_reducible refine And.intro (?_ : leA _ _ _) ?_ | with_reducible refine And.intro (?_ : leL _ _ _) ?_ | with_reducible refine And.intro (?_ : leBlk _ _ _ _) ?_ | fail) <;> (conv => whnf)))
            all_goals (try simp only [sI_eq, sB_eq, sS_eq, sN_eq])
            all_goals (try first | omega | rfl)
            all_goals rw [hr3]
        · (conv => whnf)
          refine ⟨((2, sum + a1) : Nat × Int), [], ?_, ⟨⟨rfl, Nat.le_of_ble_eq_true rfl, rfl⟩, ?_, ?_⟩⟩
          · exact hgo a1 (by omega) rfl ((hcol a1 (by omega) rfl).2 (by assumption))
          · (conv => whnf)
            (repeat' ((first | with_reducible exact True.intro | ((with_reducible refine And.intro ?_ ?_); focus (first | with_reducible rfl | omega | exact Nat.le_of_ble_eq_true rfl | rfl)) | with_reducible refine And.intro (?_ : leA _ _ _) ?_ | fail) <;> (conv => whnf)))
            all_goals (try simp only [sI_eq, sB_eq, sS_eq, sN_eq])
          · (conv => whnf)
            (repeat' ((first | with_reducible exact True.intro | ((with_reducible refine And.intro ?_ ?_); focus (first | with_reducible rfl | omega | exact Nat.le_of_ble_eq_true rfl | rfl)) | with_reducible refine And.intro (?_ : leA _ _ _) ?_ | with_reducible refine And.intro (?_ : leL _ _ _) ?_ | with_reducible refine And.intro (?_ : leBlk _ _ _ _) ?_ | fail) <;> (conv => whnf)))
            all_goals (try simp only [sI_eq, sB_eq, sS_eq, sN_eq])
            all_goals (try first | omega | rfl)
            all_goals rw [hr3]
        · (conv => whnf)
          refine ⟨((3, sum + a2) : Nat × Int), [], ?_, ⟨⟨rfl, Nat.le_of_ble_eq_true rfl, rfl⟩, ?_, ?_⟩⟩
          · exact hgo a2 (by omega) rfl ((hcol a2 (by omega) rfl).2 (by assumption))
          · (conv => whnf)
            (repeat' ((first | with_reducible exact True.intro | ((with_reducible refine And.intro ?_ ?_); focus (first | with_reducible rfl | omega | exact Nat.le_of_ble_eq_true rfl | rfl)) | with_reducible refine And.intro (?_ : leA _ _ _) ?_ | fail) <;> (conv => whnf)))
            all_goals (try simp only [sI_eq, sB_eq, sS_eq, sN_eq])
          · (conv => whnf)
            (repeat' ((first | with_reducible exact True.intro | ((with_reducible refine And.intro ?_ ?_); focus (first | with_reducible rfl | omega | exact Nat.le_of_ble_eq_true rfl | rfl)) | with_reducible refine And.intro (?_ : leA _ _ _) ?_ | with_reducible refine And.intro (?_ : leL _ _ _) ?_ | with_reducible refine And.intro (?_ : leBlk _ _ _ _) ?_ | fail) <;> (conv => whnf)))
            all_goals (try simp only [sI_eq, sB_eq, sS_eq, sN_eq])
            all_goals (try first | omega | rfl)
            all_goals rw [hr3]
        · (conv => whnf)
          refine ⟨((4, sum + a3) : Nat × Int), [], ?_, ⟨⟨rfl, Nat.le_of_ble_eq_true rfl, rfl⟩, ?_, ?_⟩⟩
          · exact hgo a3 (by omega) rfl ((hcol a3 (by omega) rfl).2 (by assumption))
          · (conv => whnf)
            (repeat' ((first | with_reducible exact True.intro | ((with_reducible refine And.intro ?_ ?_); focus (first | with_reducible rfl | omega | exact Nat.le_of_ble_eq_true rfl | rfl)) | with_reducible refine And.intro (?_ : leA _ _ _) ?_ | fail) <;> (conv => whnf)))
            all_goals (try simp only [sI_eq, sB_eq, sS_eq, sN_eq])
          · (conv => whnf)
            (repeat' ((first | with_reducible exact True.intro | ((with_reducible refine And.intro ?_ ?_); focus (first | with_reducible rfl | omega | exact Nat.le_of_ble_eq_true rfl | rfl)) | with_reducible refine And.intro (?_ : leA _ _ _) ?_ | with_reducible refine And.intro (?_ : leL _ _ _) ?_ | with_reducible refine And.intro (?_ : leBlk _ _ _ _) ?_ | fail) <;> (conv => whnf)))
            all_goals (try simp only [sI_eq, sB_eq, sS_eq, sN_eq])
            all_goals (try first | omega | rfl)
            all_goals rw [hr3]
        · (conv => whnf)
          refine ⟨((5, sum + a4) : Nat × Int), [], ?_, ⟨⟨rfl, Nat.le_of_ble_eq_true rfl, rfl⟩, ?_, ?_⟩⟩
          · exact hgo a4 (by omega) rfl ((hcol a4 (by omega) rfl).2 (by assumption))
          · (conv => whnf)
            (repeat' ((first | with_reducible exact True.intro | ((with_reducible refine And.intro ?_ ?_); focus (first | with_reducible rfl | omega | exact Nat.le_of_ble_eq_true rfl | rfl)) | with_reducible refine And.intro (?_ : leA _ _ _) ?_ | fail) <;> (conv => whnf)))
            all_goals (try simp only [sI_eq, sB_eq, sS_eq, sN_eq])
          · (conv => whnf)
            (repeat' ((first | with_reducible exact True.intro | ((with_reducible refine And.intro ?_ ?_); focus (first | with_reducible rfl | omega | exact Nat.le_of_ble_eq_true rfl | rfl)) | with_reducible refine And.intro (?_ : leA _ _ _) ?_ | with_reducible refine And.intro (?_ : leL _ _ _) ?_ | with_reducible refine And.intro (?_ : leBlk _ _ _ _) ?_ | fail) <;> (conv => whnf)))
            all_goals (try simp only [sI_eq, sB_eq, sS_eq, sN_eq])
            all_goals (try first | omega | rfl)
            all_goals rw [hr3]
        · (conv => whnf)
          refine ⟨((6, sum + a5) : Nat × Int), [], ?_, ⟨⟨rfl, Nat.le_of_ble_eq_true rfl, rfl⟩, ?_, ?_⟩⟩
          · exact hgo a5 (by omega) rfl ((hcol a5 (by omega) rfl).2 (by assumption))
          · (conv => whnf)
            (repeat' ((first | with_reducible exact True.intro | ((with_reducible refine And.intro ?_ ?_); focus (first | with_reducible rfl | omega | exact Nat.le_of_ble_eq_true rfl | rfl)) | with_reducible refine And.intro (?_ : leA _ _ _) ?_ | fail) <;> (conv => whnf)))
            all_goals (try simp only [sI_eq, sB_eq, sS_eq, sN_eq])
          · (conv => whnf)
            (repeat' ((first | with_reducible exact True.intro | ((with_reducible refine And.intro ?_ ?_); focus (first | with_reducible rfl | omega | exact Nat.le_of_ble_eq_true rfl | rfl)) | with_reducible refine And.intro (?_ : leA _ _ _) ?_ | with_reducible refine And.intro (?_ : leL _ _ _) ?_ | with_reducible refine And.intro (?_ : leBlk _ _ _ _) ?_ | fail) <;> (conv => whnf)))
            all_goals (try simp only [sI_eq, sB_eq, sS_eq, sN_eq])
            all_goals (try first | omega | rfl)
            all_goals rw [hr3]
      · have hex : ¬ 6 < (signsL pk).length := by omega
        (conv => whnf)
        (repeat' ((first
          | (exact absurd (by with_reducible assumption) hex)
          | ((with_reducible refine And.intro ?_ ?_); focus (with_reducible exact True.intro))
          | (split <;> rename_i hh <;> (try simp only [ble_true, ble_false, beq_true, beq_false, sI_eq, sB_eq, sS_eq, sN_eq, ltI_eq, leI_eq, eqI_eq, decide_eq_true_eq, decide_eq_false_iff_not, beq_iff_eq, bne_iff_ne, ne_eq, beq_eq_false_iff_ne, bne_eq_false_iff_eq, Bool.not_eq_true, Bool.not_eq_false, Int.not_lt, Int.not_le, gt_iff_lt, ge_iff_le, Nat.not_lt, Nat.not_le, Decidable.not_not, Bool.not_eq_eq_eq_not, Bool.not_true, Bool.not_false, cond_true, cond_false, Bool.or_eq_true, Bool.and_eq_true, Bool.or_eq_false_iff, Bool.and_eq_false_iff] at hh) <;> (try simp (disch := omega) only [Int.tdiv_eq_ediv_of_nonneg, Int.tmod_eq_emod_of_nonneg] at hh))
          | fail) <;> (conv => whnf)))
        all_goals (try (show _ = _; simp only [sI_eq, sB_eq, sS_eq, sN_eq]))
        all_goals (
          rw [hfin rfl]; unfold dayB numdB
          first | (symm; refine Bool.eq_false_iff.2 fun h => ?_; simp only [Bool.and_eq_true, Bool.or_eq_true, decide_eq_true_eq] at h; omega) | (simp [*, eqI_eq]; done) | (rw [Bool.eq_iff_iff]; simp_all [eqI_eq]; done))
end
end Go.Vc.Z

/- Decimal numerals: the program's and the document's. -/
namespace Go.Vc.Z
open Go Go.Vc Go.Proofs Go.RowKit Go.Pl Go.Lib
noncomputable section
set_option maxRecDepth 100000
set_option linter.unusedSimpArgs false
set_option linter.unusedVariables false
attribute [local irreducible] inK Utf8.decode Utf8.encode Lib.itoa Pl.worth Pl.allDig
def D_couponref01_Text : PT := tabD []
def C_couponref01_Text : FuncId → Option Ctr := tabC D_couponref01_Text []
def L_couponref01_Text : List AV → Nat → Option LR := fun cs i => match cs with | [.int .u64 n] => cond (Nat.beq i 2) (some (.inv (LDigits n))) (none) | _ => none
theorem g_couponref01_Text {W : World} (hW : Tabs W) : GoodP (Fw W) Tryz.prog 192 pcDigits := by
  have hD : PTOk (Fw W) Tryz.prog D_couponref01_Text := tabD_nil
  have hC0 : CtrOk (Fw W) Tryz.prog C_couponref01_Text := (tabC_nil hD)
  refine goodP_fun (D := D_couponref01_Text) (C := C_couponref01_Text) (wr := (fun _ => false)) rfl tyOk hD hC0 Tryz.func192 (L_couponref01_Text) ?_
  clear hC0 hD hW
  intro cs p r h hf hp
  split at h
  case h_2 => cases h
  rename_i n
  cases h
  try simp only [factL, factA, inK_def, Go.Vc.lo, Go.Vc.hi, and_true] at hf
  (conv => whnf)
  all_goals (try (show _ = _; simp only [sI_eq, sB_eq, sS_eq, sN_eq]))
  refine ⟨?_, fun (x : Nat × List UInt8) (hx : x.1 ≤ n.toNat ∧ (if x.1 = 0 ∧ x.2 ≠ [] then x.2 else decDigits x.1 ++ x.2) = decDigits n.toNat) => ?_⟩
  · (conv => whnf)
    refine ⟨((n.toNat, []) : Nat × List UInt8), [], ?_, ⟨⟨rfl, Nat.le_of_ble_eq_true rfl, rfl⟩, ?_, ?_⟩⟩
    · exact ⟨Nat.le_refl _, by simp⟩
    · (conv => whnf)
      (repeat' ((first | with_reducible exact True.intro | ((with_reducible refine And.intro ?_ ?_); focus (first | with_reducible rfl | omega | exact Nat.le_of_ble_eq_true rfl | rfl)) | with_reducible refine And.intro (?_ : leA _ _ _) ?_ | fail) <;> (conv => whnf)))
      all_goals (try simp only [sI_eq, sB_eq, sS_eq, sN_eq])
      all_goals (try first | omega)
    · (conv => whnf)
      (repeat' ((first | with_reducible exact True.intro | fail) <;> (conv => whnf)))
      all_goals (try simp only [sI_eq, sB_eq, sS_eq, sN_eq])
  · obtain ⟨h1, h2⟩ := hx
    have hl : x.2.length ≤ 30 := by
      have := congrArg List.length h2
      have h20 : (decDigits n.toNat).length ≤ 30 := by rw [decDigits_length]; exact Nat.le_trans (nDigits_le 29 _ (by omega)) (by omega)
      split at this <;> (try simp at this) <;> omega
    (conv => whnf)
    (repeat' ((first
      | ((with_reducible refine And.intro ?_ ?_); focus (first | omega | (intro e he; rcases (by omega : e = 0 ∨ e = 1 ∨ e = 2) with rfl | rfl | rfl <;> first | rfl | (exfalso; omega)) | (simp only [inK_def, Go.Vc.lo, Go.Vc.hi]; omega) | (simp only [List.length_append, bytesOf_length, List.toList_toArray, List.length_cons, List.length_nil, List.length_take, List.length_drop, sS_eq]; omega)))
      | (split <;> rename_i hh <;> (try simp only [ble_true, ble_false, beq_true, beq_false, sI_eq, sB_eq, sS_eq, sN_eq, ltI_eq, leI_eq, eqI_eq, decide_eq_true_eq, decide_eq_false_iff_not, beq_iff_eq, bne_iff_ne, ne_eq, beq_eq_false_iff_ne, bne_eq_false_iff_eq, Bool.not_eq_true, Bool.not_eq_false, Int.not_lt, Int.not_le, gt_iff_lt, ge_iff_le, Nat.not_lt, Nat.not_le, Decidable.not_not, Bool.not_eq_eq_eq_not, Bool.not_true, Bool.not_false, cond_true, cond_false, Bool.or_eq_true, Bool.and_eq_true, Bool.or_eq_false_iff, Bool.and_eq_false_iff] at hh) <;> (try simp (disch := omega) only [Int.tdiv_eq_ediv_of_nonneg, Int.tmod_eq_emod_of_nonneg] at hh))
      | fail) <;> (conv => whnf)))
    all_goals (try (show _ = _; simp only [sI_eq, sB_eq, sS_eq, sN_eq]))
    · (conv => whnf)
      refine ⟨((x.1 / 10, UInt8.ofNat (48 + x.1 % 10) :: x.2) : Nat × List UInt8), [], ?_, ⟨⟨rfl, Nat.le_of_ble_eq_true rfl, rfl⟩, ?_, ?_⟩⟩
      · refine ⟨⟨show x.1 / 10 ≤ n.toNat by omega, (digits_step (n := x.1) (s := x.2) (.inl (by omega))).trans h2⟩, ?_⟩
        show 2 * (x.1 / 10) + (if UInt8.ofNat (48 + x.1 % 10) :: x.2 = [] then 1 else 0) < 2 * x.1 + (if x.2 = [] then 1 else 0)
        rw [if_neg (by simp)]; omega
      · (conv => whnf)
        (repeat' ((first | with_reducible exact True.intro | ((with_reducible refine And.intro ?_ ?_); focus (first | with_reducible rfl | omega | exact Nat.le_of_ble_eq_true rfl | rfl)) | with_reducible refine And.intro (?_ : leA _ _ _) ?_ | fail) <;> (conv => whnf)))
        all_goals (try simp only [sI_eq, sB_eq, sS_eq, sN_eq])
        all_goals (try first | omega)
      · (conv => whnf)
        (repeat' ((first | with_reducible exact True.intro | fail) <;> (conv => whnf)))
        all_goals (try simp only [sI_eq, sB_eq, sS_eq, sN_eq])
    · (conv => whnf)
      refine ⟨((x.1 / 10, UInt8.ofNat (48 + x.1 % 10) :: x.2) : Nat × List UInt8), [], ?_, ⟨⟨rfl, Nat.le_of_ble_eq_true rfl, rfl⟩, ?_, ?_⟩⟩
      · refine ⟨⟨show x.1 / 10 ≤ n.toNat by omega, (digits_step (n := x.1) (s := x.2) (.inr (by assumption))).trans h2⟩, ?_⟩
        show 2 * (x.1 / 10) + (if UInt8.ofNat (48 + x.1 % 10) :: x.2 = [] then 1 else 0) < 2 * x.1 + (if x.2 = [] then 1 else 0)
        rw [if_neg (by simp), if_pos (by assumption)]; omega
      · (conv => whnf)
        (repeat' ((first | with_reducible exact True.intro | ((with_reducible refine And.intro ?_ ?_); focus (first | with_reducible rfl | omega | exact Nat.le_of_ble_eq_true rfl | rfl)) | with_reducible refine And.intro (?_ : leA _ _ _) ?_ | fail) <;> (conv => whnf)))
        all_goals (try simp only [sI_eq, sB_eq, sS_eq, sN_eq])
        all_goals (try first | omega)
      · (conv => whnf)
        (repeat' ((first | with_reducible exact True.intro | fail) <;> (conv => whnf)))
        all_goals (try simp only [sI_eq, sB_eq, sS_eq, sN_eq])
    · have h0 : x.1 = 0 := by omega
      rw [← h2, if_pos ⟨h0, by assumption⟩]
def pcNum : PC := PC.fun fun | [.int .i64 n] => some (True, .str (sS (Lib.itoa n))) | _ => none
def D_couponref01_Whole : PT := tabD [(192, pcDigits)]
def C_couponref01_Whole : FuncId → Option Ctr := tabC D_couponref01_Whole []
theorem g_couponref01_Whole {W : World} (hW : Tabs W) : GoodP (Fw W) Tryz.prog 117 pcNum := by
  have hD : PTOk (Fw W) Tryz.prog D_couponref01_Whole := (tabD_cons Tryz.call192 (g_couponref01_Text hW) tabD_nil)
  have hC0 : CtrOk (Fw W) Tryz.prog C_couponref01_Whole := (tabC_nil hD)
  refine goodP_fun (D := D_couponref01_Whole) (C := C_couponref01_Whole) (wr := (fun _ => false)) rfl tyOk hD hC0 Tryz.func117 (fun _ _ => none) ?_
  clear hC0 hD hW
  intro cs p r h hf hp
  split at h
  case h_2 => cases h
  rename_i n
  cases h
  try simp only [factL, factA, inK_def, Go.Vc.lo, Go.Vc.hi, and_true] at hf
  have e1 : 0 ≤ n → Lib.itoa n = decDigits n.toNat := fun h => by unfold Lib.itoa; rw [if_neg (by omega)]
  have e2 : n < 0 → Lib.itoa n = 45 :: decDigits (-(n + 1) + 1).toNat := fun h => by unfold Lib.itoa; rw [if_pos h]; congr 2; omega
  have h20 : (decDigits (-(n + 1) + 1).toNat).length ≤ 30 := by
    rw [decDigits_length]
    exact Nat.le_trans (nDigits_le 29 _ (by omega)) (by omega)
  (conv => whnf)
  (repeat' ((first
    | ((with_reducible refine And.intro ?_ ?_); focus (first | with_reducible exact True.intro | (simp only [inK_def, Go.Vc.lo, Go.Vc.hi]; omega) | (simp only [List.length_append, bytesOf_length, List.toList_toArray, List.length_cons, List.length_nil, List.length_take, List.length_drop, sS_eq]; omega)))
    | (split <;> rename_i hh <;> (try simp only [ble_true, ble_false, beq_true, beq_false, sI_eq, sB_eq, sS_eq, sN_eq, ltI_eq, leI_eq, eqI_eq, decide_eq_true_eq, decide_eq_false_iff_not, beq_iff_eq, bne_iff_ne, ne_eq, beq_eq_false_iff_ne, bne_eq_false_iff_eq, Bool.not_eq_true, Bool.not_eq_false, Int.not_lt, Int.not_le, gt_iff_lt, ge_iff_le, Nat.not_lt, Nat.not_le, Decidable.not_not, Bool.not_eq_eq_eq_not, Bool.not_true, Bool.not_false, cond_true, cond_false, Bool.or_eq_true, Bool.and_eq_true, Bool.or_eq_false_iff, Bool.and_eq_false_iff] at hh) <;> (try simp (disch := omega) only [Int.tdiv_eq_ediv_of_nonneg, Int.tmod_eq_emod_of_nonneg] at hh))
    | fail) <;> (conv => whnf)))
  all_goals (try (show _ = _; simp only [sI_eq, sB_eq, sS_eq, sN_eq]))
  · rw [e1 (by assumption)]
  · rw [e2 (by assumption)]; rfl
def D_couponref26_num : PT := tabD [(117, pcNum)]
def C_couponref26_num : FuncId → Option Ctr := tabC D_couponref26_num []
theorem g_couponref26_num {W : World} (hW : Tabs W) : GoodP (Fw W) Tryz.prog 49 pcNum := by
  have hD : PTOk (Fw W) Tryz.prog D_couponref26_num := (tabD_cons Tryz.call117 (g_couponref01_Whole hW) tabD_nil)
  have hC0 : CtrOk (Fw W) Tryz.prog C_couponref26_num := (tabC_nil hD)
  refine goodP_fun (D := D_couponref26_num) (C := C_couponref26_num) (wr := (fun _ => false)) rfl tyOk hD hC0 Tryz.func49 (fun _ _ => none) ?_
  clear hC0 hD hW
  intro cs p r h hf hp
  split at h
  case h_2 => cases h
  rename_i n
  cases h
  try simp only [factL, factA, inK_def, Go.Vc.lo, Go.Vc.hi, and_true] at hf
  (conv => whnf)
  (repeat' ((first
    | ((with_reducible refine And.intro ?_ ?_); focus (with_reducible exact True.intro))
    | fail) <;> (conv => whnf)))
  all_goals (try (show _ = _; simp only [sI_eq, sB_eq, sS_eq, sN_eq]))
/-- Is a text a number's digits? -/
@[irreducible] def isDec (s : List UInt8) : Bool := allDig s && (s == [48] || (s != [] && s.getD 0 0 != 48))
def pcMayDec : PC := PC.fun fun | [.str s] => some (True, .bool (sB (isDec s))) | _ => none
def LMayDec (s : List UInt8) : LoopSpec := {
  α := Nat
  keep := [0, 3]
  vals i := [.str s, .int .i64 i]
  heap _ := []
  ok i := i ≤ s.length ∧ allDig (s.take i) = true
  μ i := s.length - i }
def D_couponref01_MayDecimal : PT := tabD []
def C_couponref01_MayDecimal : FuncId → Option Ctr := tabC D_couponref01_MayDecimal []
def L_couponref01_MayDecimal : List AV → Nat → Option LR := fun cs i => match cs with | [.str s] => cond (Nat.beq i 2) (some (.inv (LMayDec s))) (none) | _ => none
theorem g_couponref01_MayDecimal {W : World} (hW : Tabs W) : GoodP (Fw W) Tryz.prog 238 pcMayDec := by
  have hD : PTOk (Fw W) Tryz.prog D_couponref01_MayDecimal := tabD_nil
  have hC0 : CtrOk (Fw W) Tryz.prog C_couponref01_MayDecimal := (tabC_nil hD)
  refine goodP_fun (D := D_couponref01_MayDecimal) (C := C_couponref01_MayDecimal) (wr := (fun _ => false)) rfl tyOk hD hC0 Tryz.func238 (L_couponref01_MayDecimal) ?_
  clear hC0 hD hW
  intro cs p r h hf hp
  split at h
  case h_2 => cases h
  rename_i s
  cases h
  try simp only [factL, factA, inK_def, Go.Vc.lo, Go.Vc.hi, and_true] at hf
  (conv => whnf)
  all_goals (try (show _ = _; simp only [sI_eq, sB_eq, sS_eq, sN_eq]))
  refine ⟨?_, fun (i : Nat) (hi : i ≤ s.length ∧ allDig (s.take i) = true) => ?_⟩
  · (conv => whnf)
    refine ⟨(0 : Nat), [], ?_, ⟨⟨rfl, Nat.le_of_ble_eq_true rfl, rfl⟩, ?_, ?_⟩⟩
    · exact ⟨Nat.zero_le _, by simp [allDig]⟩
    · (conv => whnf)
      (repeat' ((first | with_reducible exact True.intro | ((with_reducible refine And.intro ?_ ?_); focus (first | with_reducible rfl | omega | exact Nat.le_of_ble_eq_true rfl | rfl)) | with_reducible refine And.intro (?_ : leA _ _ _) ?_ | fail) <;> (conv => whnf)))
      all_goals (try simp only [sI_eq, sB_eq, sS_eq, sN_eq])
      all_goals (try first | omega)
    · (conv => whnf)
      (repeat' ((first | with_reducible exact True.intro | fail) <;> (conv => whnf)))
      all_goals (try simp only [sI_eq, sB_eq, sS_eq, sN_eq])
  · obtain ⟨h1, h2⟩ := hi
    have ei : (s.getD (Int.toNat (i : Int)) 0).toNat = (s.getD i 0).toNat := rfl
    have hbad : i < s.length → ¬ (48 ≤ (s.getD i 0).toNat ∧ (s.getD i 0).toNat ≤ 57) → isDec s = false := fun h hc => by
      unfold isDec; rw [not_allDig h hc]; rfl
    have hfin : s.length ≤ i → isDec s = (s == [48] || (s != [] && s.getD 0 0 != 48)) := fun h => by
      rw [List.take_of_length_le h] at h2
      unfold isDec; rw [h2]; rfl
    by_cases hs : s = []
    · subst hs
      (conv => whnf)
      (repeat' ((first
        | with_reducible refine (fun (hln : (_ : Int) ≤ 9223372036854775807) => ?_)
        | fail) <;> (conv => whnf)))
      all_goals (try (show _ = _; simp only [sI_eq, sB_eq, sS_eq, sN_eq]))
      simp [isDec, allDig]
    · have hpos : 0 < s.length := List.length_pos_iff.2 hs
      have e0 : s.getD (Int.toNat 0) 0 = s.getD 0 0 := rfl
      (conv => whnf)
      (repeat' ((first
        | ((with_reducible refine And.intro ?_ ?_); focus (first | omega | (simp only [inK_def, Go.Vc.lo, Go.Vc.hi]; omega)))
        | (split <;> rename_i hh <;> (try simp only [ble_true, ble_false, beq_true, beq_false, sI_eq, sB_eq, sS_eq, sN_eq, ltI_eq, leI_eq, eqI_eq, decide_eq_true_eq, decide_eq_false_iff_not, beq_iff_eq, bne_iff_ne, ne_eq, beq_eq_false_iff_ne, bne_eq_false_iff_eq, Bool.not_eq_true, Bool.not_eq_false, Int.not_lt, Int.not_le, gt_iff_lt, ge_iff_le, Nat.not_lt, Nat.not_le, Decidable.not_not, Bool.not_eq_eq_eq_not, Bool.not_true, Bool.not_false, cond_true, cond_false, Bool.or_eq_true, Bool.and_eq_true, Bool.or_eq_false_iff, Bool.and_eq_false_iff] at hh) <;> (try simp (disch := omega) only [Int.tdiv_eq_ediv_of_nonneg, Int.tmod_eq_emod_of_nonneg] at hh))
        | with_reducible refine (fun (hln : (_ : Int) ≤ 9223372036854775807) => ?_)
        | fail) <;> (conv => whnf)))
      all_goals (try (show _ = _; simp only [sI_eq, sB_eq, sS_eq, sN_eq]))
      all_goals try (rw [hbad (by omega) (by omega)]; done)
      · (conv => whnf)
        refine ⟨(i + 1 : Nat), [], ?_, ⟨⟨rfl, Nat.le_of_ble_eq_true rfl, rfl⟩, ?_, ?_⟩⟩
        · exact ⟨⟨show i + 1 ≤ s.length by omega, allDig_take_succ (by omega) h2 (by omega) (by omega)⟩, show s.length - (i + 1) < s.length - i by omega⟩
        · (conv => whnf)
          (repeat' ((first | with_reducible exact True.intro | ((with_reducible refine And.intro ?_ ?_); focus (first | with_reducible rfl | omega | exact Nat.le_of_ble_eq_true rfl | rfl)) | with_reducible refine And.intro (?_ : leA _ _ _) ?_ | fail) <;> (conv => whnf)))
          all_goals (try simp only [sI_eq, sB_eq, sS_eq, sN_eq])
          all_goals (try first | omega)
        · (conv => whnf)
          (repeat' ((first | with_reducible exact True.intro | fail) <;> (conv => whnf)))
          all_goals (try simp only [sI_eq, sB_eq, sS_eq, sN_eq])
      · have h : s = [48] := by assumption
        rw [hfin (by omega), h]; rfl
      · rw [hfin (by omega), show eqI ((s.getD (Int.toNat 0) 0).toNat : Int) 48 = (s.getD 0 0 == 48) from eqI_byte _ 48]
        have a1 : (s == [48]) = false := by rw [beq_eq_false_iff_ne]; assumption
        have a2 : (s != []) = true := by rw [bne_iff_ne]; assumption
        rw [a1, a2]; rfl
      · exact absurd (by assumption) hs
/-- A numeral above a bound: its digits tell. -/
theorem isDec_spec {s : List UInt8} (h : isDec s = true) : allDig s = true ∧ s ≠ [] ∧ (∀ t, s = 48 :: t → t = []) := by
  unfold isDec at h
  simp only [Bool.and_eq_true, Bool.or_eq_true, beq_iff_eq, bne_iff_ne] at h
  obtain ⟨h1, h2⟩ := h
  refine ⟨h1, ?_, ?_⟩
  · rcases h2 with rfl | ⟨h2, _⟩
    · simp
    · exact h2
  · rintro t rfl
    rcases h2 with h2 | ⟨_, h2⟩
    · simpa using h2
    · exact absurd rfl h2
theorem less_worth : ∀ (s t : List UInt8), s.length = t.length → allDig s = true → allDig t = true → Op.bytesLess s t = decide (worth s < worth t)
  | [], [], _, _, _ => by simp [Op.bytesLess, worth]
  | [], _ :: _, h, _, _ => by simp at h
  | _ :: _, [], h, _, _ => by simp at h
  | a :: s, b :: t, h, hs, ht => by
    have hl : s.length = t.length := by simpa using h
    have h1 := isDig_iff.1 (show isDig a = true by simp [allDig] at hs; exact hs.1)
    have h2 := isDig_iff.1 (show isDig b = true by simp [allDig] at ht; exact ht.1)
    have h3 : allDig s = true := by simp [allDig] at hs ⊢; exact hs.2
    have h4 : allDig t = true := by simp [allDig] at ht ⊢; exact ht.2
    have ih := less_worth s t hl h3 h4
    have w1 := worth_lt h3
    have w2 := worth_lt h4
    rw [worth_cons, worth_cons, hl]
    rw [hl] at w1
    unfold Op.bytesLess
    rw [ih]
    have hp : 0 < 10 ^ t.length := Nat.pow_pos (by omega)
    generalize 10 ^ t.length = p at *
    rcases Nat.lt_trichotomy a.toNat b.toNat with hlt | heq | hgt
    · have e1 : decide (a < b) = true := decide_eq_true (UInt8.lt_iff_toNat_lt.2 hlt)
      rw [e1, Bool.true_or]; symm; rw [decide_eq_true_eq]
      have : (a.toNat - 48 + 1) * p ≤ (b.toNat - 48) * p := Nat.mul_le_mul_right _ (by omega)
      rw [Nat.add_mul] at this; omega
    · have e2 : a = b := UInt8.toNat_inj.1 heq
      subst e2
      have e1 : decide (a < a) = false := decide_eq_false (fun h => by have := UInt8.lt_iff_toNat_lt.1 h; omega)
      rw [e1, Bool.false_or, beq_self_eq_true, Bool.true_and]
      rw [Bool.eq_iff_iff, decide_eq_true_eq, decide_eq_true_eq]; omega
    · have e1 : decide (a < b) = false := decide_eq_false (fun h => by have := UInt8.lt_iff_toNat_lt.1 h; omega)
      have e2 : (a == b) = false := by rw [beq_eq_false_iff_ne]; rintro rfl; omega
      rw [e1, e2, Bool.false_or, Bool.false_and]; symm; rw [decide_eq_false_iff_not]
      have : (b.toNat - 48 + 1) * p ≤ (a.toNat - 48) * p := Nat.mul_le_mul_right _ (by omega)
      rw [Nat.add_mul] at this; omega
theorem dec_mono (a b : Nat) (hab : a ≤ b) : (decDigits a).length ≤ (decDigits b).length := by
  rw [decDigits_length, decDigits_length]
  have := lt_pow_nDigits b
  have := nDigits_pos b
  exact Nat.le_trans (nDigits_le (nDigits b - 1) a (by rw [show nDigits b - 1 + 1 = nDigits b by omega]; omega)) (by omega)
theorem above_spec {s : List UInt8} (h : isDec s = true) (m : Nat) : ((decDigits m).length < s.length → m < worth s) ∧ (s.length < (decDigits m).length → worth s < m) ∧
    (s.length = (decDigits m).length → (!(Op.bytesLess s (decDigits m) || s == decDigits m)) = decide (m < worth s)) := by
  obtain ⟨hd, hn, hz⟩ := isDec_spec h
  have hw := dec_worth hd hn hz
  have hs : (decDigits (worth s)).length = s.length := by rw [hw]
  refine ⟨fun hlt => Nat.lt_of_not_le fun hle => by have := dec_mono _ _ hle; omega, fun hlt => Nat.lt_of_not_le fun hle => by have := dec_mono _ _ hle; omega, fun heq => ?_⟩
  rw [less_worth _ _ heq hd (allDig_dec m), worth_dec]
  by_cases he : worth s = m
  · have : (s == decDigits m) = true := by rw [beq_iff_eq, ← he, hw]
    rw [this, Bool.or_true]; symm; simp; omega
  · have : (s == decDigits m) = false := by rw [beq_eq_false_iff_ne]; rintro hc; exact he (by rw [hc, worth_dec])
    rw [this, Bool.or_false, Bool.eq_iff_iff]; simp; omega
def pcAbove : PC := PC.fun fun | [.str s, .int .u64 m] => some (isDec s = true, .bool (sB (decide (m < worth s)))) | _ => none
def D_couponref01_Above : PT := tabD [(192, pcDigits)]
def C_couponref01_Above : FuncId → Option Ctr := tabC D_couponref01_Above []
theorem g_couponref01_Above {W : World} (hW : Tabs W) : GoodP (Fw W) Tryz.prog 239 pcAbove := by
  have hD : PTOk (Fw W) Tryz.prog D_couponref01_Above := (tabD_cons Tryz.call192 (g_couponref01_Text hW) tabD_nil)
  have hC0 : CtrOk (Fw W) Tryz.prog C_couponref01_Above := (tabC_nil hD)
  refine goodP_fun (D := D_couponref01_Above) (C := C_couponref01_Above) (wr := (fun _ => false)) rfl tyOk hD hC0 Tryz.func239 (fun _ _ => none) ?_
  clear hC0 hD hW
  intro cs p r h hf hp
  split at h
  case h_2 => cases h
  rename_i s m
  cases h
  try simp only [factL, factA, inK_def, Go.Vc.lo, Go.Vc.hi, and_true] at hf
  obtain ⟨a1, a2, a3⟩ := above_spec hp m.toNat
  have hm : decide (m.toNat < worth s) = decide (m < (worth s : Int)) := by rw [Bool.eq_iff_iff, decide_eq_true_eq, decide_eq_true_eq]; omega
  (conv => whnf)
  (repeat' ((first
    | ((with_reducible refine And.intro ?_ ?_); focus (with_reducible exact True.intro))
    | (split <;> rename_i hh <;> (try simp only [ble_true, ble_false, beq_true, beq_false, sI_eq, sB_eq, sS_eq, sN_eq, ltI_eq, leI_eq, eqI_eq, decide_eq_true_eq, decide_eq_false_iff_not, beq_iff_eq, bne_iff_ne, ne_eq, beq_eq_false_iff_ne, bne_eq_false_iff_eq, Bool.not_eq_true, Bool.not_eq_false, Int.not_lt, Int.not_le, gt_iff_lt, ge_iff_le, Nat.not_lt, Nat.not_le, Decidable.not_not, Bool.not_eq_eq_eq_not, Bool.not_true, Bool.not_false, cond_true, cond_false, Bool.or_eq_true, Bool.and_eq_true, Bool.or_eq_false_iff, Bool.and_eq_false_iff] at hh) <;> (try simp (disch := omega) only [Int.tdiv_eq_ediv_of_nonneg, Int.tmod_eq_emod_of_nonneg] at hh))
    | with_reducible refine (fun (hln : (_ : Int) ≤ 9223372036854775807) => ?_)
    | fail) <;> (conv => whnf)))
  all_goals (try (show _ = _; simp only [sI_eq, sB_eq, sS_eq, sN_eq]))
  · symm; rw [decide_eq_true_eq]; have := a1 (by omega); omega
  · rw [← hm, ← a3 (by omega)]; rfl
  · show false = _
    symm; rw [decide_eq_false_iff_not]; have := a2 (by omega); omega
def LWorth1 (s : List UInt8) : LoopSpec := {
  α := Nat
  keep := [0, 3, 4]
  vals i := [.str s, .int .u64 (sI (worth (s.take i))), .int .i64 i]
  heap _ := []
  ok i := i ≤ s.length
  μ i := s.length - i }
def pcWorth1 : PC := PC.fun fun | [.str s] => some (allDig s = true ∧ worth s ≤ 18446744073709551615, .int .u64 (sI (worth s))) | _ => none
theorem worth_take_mono {s : List UInt8} {i : Nat} (h : i ≤ s.length) : worth (s.take i) ≤ worth s := by
  have := worth_append (s.take i) (s.drop i)
  rw [List.take_append_drop] at this
  have hp : 1 ≤ 10 ^ (s.drop i).length := Nat.one_le_pow _ _ (by decide)
  have := Nat.mul_le_mul_left (worth (s.take i)) hp
  omega
def D_couponref01_worth : PT := tabD []
def C_couponref01_worth : FuncId → Option Ctr := tabC D_couponref01_worth []
def L_couponref01_worth : List AV → Nat → Option LR := fun cs i => match cs with | [.str s] => cond (Nat.beq i 3) (some (.inv (LWorth1 s))) (none) | _ => none
theorem g_couponref01_worth {W : World} (hW : Tabs W) : GoodP (Fw W) Tryz.prog 240 pcWorth1 := by
  have hD : PTOk (Fw W) Tryz.prog D_couponref01_worth := tabD_nil
  have hC0 : CtrOk (Fw W) Tryz.prog C_couponref01_worth := (tabC_nil hD)
  refine goodP_fun (D := D_couponref01_worth) (C := C_couponref01_worth) (wr := (fun _ => false)) rfl tyOk hD hC0 Tryz.func240 (L_couponref01_worth) ?_
  clear hC0 hD hW
  intro cs p r h hf hp
  split at h
  case h_2 => cases h
  rename_i s
  cases h
  try simp only [factL, factA, inK_def, Go.Vc.lo, Go.Vc.hi, and_true] at hf
  obtain ⟨hd, hl⟩ := hp
  (conv => whnf)
  all_goals (try (show _ = _; simp only [sI_eq, sB_eq, sS_eq, sN_eq]))
  refine ⟨?_, fun (i : Nat) (hi : i ≤ s.length) => ?_⟩
  · (conv => whnf)
    refine ⟨(0 : Nat), [], ?_, ⟨⟨rfl, Nat.le_of_ble_eq_true rfl, rfl⟩, ?_, ?_⟩⟩
    · exact Nat.zero_le _
    · (conv => whnf)
      (repeat' ((first | with_reducible exact True.intro | ((with_reducible refine And.intro ?_ ?_); focus (first | with_reducible rfl | omega | exact Nat.le_of_ble_eq_true rfl | rfl)) | with_reducible refine And.intro (?_ : leA _ _ _) ?_ | fail) <;> (conv => whnf)))
      all_goals (try simp only [sI_eq, sB_eq, sS_eq, sN_eq])
      all_goals (try first | omega)
      simp [worth]
    · (conv => whnf)
      (repeat' ((first | with_reducible exact True.intro | fail) <;> (conv => whnf)))
      all_goals (try simp only [sI_eq, sB_eq, sS_eq, sN_eq])
  · have hw := worth_take_mono hi
    have hdig : i < s.length → 48 ≤ (s.getD (Int.toNat (i : Int)) 0).toNat ∧ (s.getD (Int.toNat (i : Int)) 0).toNat ≤ 57 := fun h => dig_at h hd
    have hw3 : i < s.length → worth (s.take (i + 1)) = 10 * worth (s.take i) + ((s.getD (Int.toNat (i : Int)) 0).toNat - 48) := fun h => worth_take_succ h
    have hw5 : i < s.length → worth (s.take (i + 1)) ≤ worth s := fun h => worth_take_mono (by omega)
    have hsi := sI_eq (worth (s.take i))
    (conv => whnf)
    (repeat' ((first
      | ((with_reducible refine And.intro ?_ ?_); focus (first | with_reducible rfl | omega | (simp only [inK_def, Go.Vc.lo, Go.Vc.hi]; omega)))
      | (split <;> rename_i hh <;> (try simp only [ble_true, ble_false, beq_true, beq_false, sI_eq, sB_eq, sS_eq, sN_eq, ltI_eq, leI_eq, eqI_eq, decide_eq_true_eq, decide_eq_false_iff_not, beq_iff_eq, bne_iff_ne, ne_eq, beq_eq_false_iff_ne, bne_eq_false_iff_eq, Bool.not_eq_true, Bool.not_eq_false, Int.not_lt, Int.not_le, gt_iff_lt, ge_iff_le, Nat.not_lt, Nat.not_le, Decidable.not_not, Bool.not_eq_eq_eq_not, Bool.not_true, Bool.not_false, cond_true, cond_false, Bool.or_eq_true, Bool.and_eq_true, Bool.or_eq_false_iff, Bool.and_eq_false_iff] at hh) <;> (try simp (disch := omega) only [Int.tdiv_eq_ediv_of_nonneg, Int.tmod_eq_emod_of_nonneg] at hh))
      | with_reducible refine (fun (hln : (_ : Int) ≤ 9223372036854775807) => ?_)
      | fail) <;> (conv => whnf)))
    all_goals (try (show _ = _; simp only [sI_eq, sB_eq, sS_eq, sN_eq]))
    · (conv => whnf)
      refine ⟨(i + 1 : Nat), [], ?_, ⟨⟨rfl, Nat.le_of_ble_eq_true rfl, rfl⟩, ?_, ?_⟩⟩
      · exact ⟨show i + 1 ≤ s.length by omega, show s.length - (i + 1) < s.length - i by omega⟩
      · (conv => whnf)
        (repeat' ((first | with_reducible exact True.intro | ((with_reducible refine And.intro ?_ ?_); focus (first | with_reducible rfl | omega | exact Nat.le_of_ble_eq_true rfl | rfl)) | with_reducible refine And.intro (?_ : leA _ _ _) ?_ | fail) <;> (conv => whnf)))
        all_goals (try simp only [sI_eq, sB_eq, sS_eq, sN_eq])
        all_goals (try first | omega)
      · (conv => whnf)
        (repeat' ((first | with_reducible exact True.intro | fail) <;> (conv => whnf)))
        all_goals (try simp only [sI_eq, sB_eq, sS_eq, sN_eq])
    · rw [List.take_of_length_le (by omega)]
/-- The number of digits, and what is wrong. -/
@[irreducible] def decOf (s : List UInt8) (m : Int) : Int × Int := if isDec s = true then (if m < (worth s : Int) then (0, 5) else ((worth s : Int), 0)) else (0, 4)
def pcDecimal : PC := PC.fun fun | [.str s, .int .u64 m] => some (True, .tup [.int .u64 (sI (decOf s m).1), .int .i64 (sI (decOf s m).2)]) | _ => none
def D_couponref01_Decimal : PT := tabD [(238, pcMayDec), (239, pcAbove), (240, pcWorth1)]
def C_couponref01_Decimal : FuncId → Option Ctr := tabC D_couponref01_Decimal []
theorem g_couponref01_Decimal {W : World} (hW : Tabs W) : GoodP (Fw W) Tryz.prog 172 pcDecimal := by
  have hD : PTOk (Fw W) Tryz.prog D_couponref01_Decimal := (tabD_cons Tryz.call238 (g_couponref01_MayDecimal hW) (tabD_cons Tryz.call239 (g_couponref01_Above hW) (tabD_cons Tryz.call240 (g_couponref01_worth hW) tabD_nil)))
  have hC0 : CtrOk (Fw W) Tryz.prog C_couponref01_Decimal := (tabC_nil hD)
  refine goodP_fun (D := D_couponref01_Decimal) (C := C_couponref01_Decimal) (wr := (fun _ => false)) rfl tyOk hD hC0 Tryz.func172 (fun _ _ => none) ?_
  clear hC0 hD hW
  intro cs p r h hf hp
  split at h
  case h_2 => cases h
  rename_i s m
  cases h
  try simp only [factL, factA, inK_def, Go.Vc.lo, Go.Vc.hi, and_true] at hf
  by_cases h1 : isDec s = true
  · by_cases h2 : m < (worth s : Int)
    · have e : decOf s m = (0, 5) := by unfold decOf; rw [if_pos h1, if_pos h2]
      (conv => whnf)
      (repeat' ((first
        | with_reducible exact True.intro
        | ((with_reducible refine And.intro ?_ ?_); focus (first | with_reducible exact True.intro | with_reducible assumption | with_reducible rfl | omega))
        | (split <;> rename_i hh <;> (try simp only [ble_true, ble_false, beq_true, beq_false, sI_eq, sB_eq, sS_eq, sN_eq, ltI_eq, leI_eq, eqI_eq, decide_eq_true_eq, decide_eq_false_iff_not, beq_iff_eq, bne_iff_ne, ne_eq, beq_eq_false_iff_ne, bne_eq_false_iff_eq, Bool.not_eq_true, Bool.not_eq_false, Int.not_lt, Int.not_le, gt_iff_lt, ge_iff_le, Nat.not_lt, Nat.not_le, Decidable.not_not, Bool.not_eq_eq_eq_not, Bool.not_true, Bool.not_false, cond_true, cond_false, Bool.or_eq_true, Bool.and_eq_true, Bool.or_eq_false_iff, Bool.and_eq_false_iff] at hh) <;> (try simp (disch := omega) only [Int.tdiv_eq_ediv_of_nonneg, Int.tmod_eq_emod_of_nonneg] at hh))
        | with_reducible refine And.intro (?_ : leA _ _ _) ?_
        | fail) <;> (conv => whnf)))
      all_goals (try (show _ = _; simp only [sI_eq, sB_eq, sS_eq, sN_eq]))
      all_goals first | (rw [e]; done) | (simp_all; done) | skip
    · have e : decOf s m = ((worth s : Int), 0) := by unfold decOf; rw [if_pos h1, if_neg h2]
      have h3 : allDig s = true ∧ worth s ≤ 18446744073709551615 := ⟨(isDec_spec h1).1, by omega⟩
      (conv => whnf)
      (repeat' ((first
        | with_reducible exact True.intro
        | ((with_reducible refine And.intro ?_ ?_); focus (first | with_reducible exact True.intro | with_reducible assumption | with_reducible rfl | omega))
        | (split <;> rename_i hh <;> (try simp only [ble_true, ble_false, beq_true, beq_false, sI_eq, sB_eq, sS_eq, sN_eq, ltI_eq, leI_eq, eqI_eq, decide_eq_true_eq, decide_eq_false_iff_not, beq_iff_eq, bne_iff_ne, ne_eq, beq_eq_false_iff_ne, bne_eq_false_iff_eq, Bool.not_eq_true, Bool.not_eq_false, Int.not_lt, Int.not_le, gt_iff_lt, ge_iff_le, Nat.not_lt, Nat.not_le, Decidable.not_not, Bool.not_eq_eq_eq_not, Bool.not_true, Bool.not_false, cond_true, cond_false, Bool.or_eq_true, Bool.and_eq_true, Bool.or_eq_false_iff, Bool.and_eq_false_iff] at hh) <;> (try simp (disch := omega) only [Int.tdiv_eq_ediv_of_nonneg, Int.tmod_eq_emod_of_nonneg] at hh))
        | with_reducible refine And.intro (?_ : leA _ _ _) ?_
        | fail) <;> (conv => whnf)))
      all_goals (try (show _ = _; simp only [sI_eq, sB_eq, sS_eq, sN_eq]))
      all_goals first | (rw [e]; done) | (simp_all; done) | skip
  · have e : decOf s m = (0, 4) := by unfold decOf; rw [if_neg h1]
    (conv => whnf)
    (repeat' ((first
      | with_reducible exact True.intro
      | ((with_reducible refine And.intro ?_ ?_); focus (first | with_reducible exact True.intro | with_reducible assumption | with_reducible rfl))
      | (split <;> rename_i hh <;> (try simp only [ble_true, ble_false, beq_true, beq_false, sI_eq, sB_eq, sS_eq, sN_eq, ltI_eq, leI_eq, eqI_eq, decide_eq_true_eq, decide_eq_false_iff_not, beq_iff_eq, bne_iff_ne, ne_eq, beq_eq_false_iff_ne, bne_eq_false_iff_eq, Bool.not_eq_true, Bool.not_eq_false, Int.not_lt, Int.not_le, gt_iff_lt, ge_iff_le, Nat.not_lt, Nat.not_le, Decidable.not_not, Bool.not_eq_eq_eq_not, Bool.not_true, Bool.not_false, cond_true, cond_false, Bool.or_eq_true, Bool.and_eq_true, Bool.or_eq_false_iff, Bool.and_eq_false_iff] at hh) <;> (try simp (disch := omega) only [Int.tdiv_eq_ediv_of_nonneg, Int.tmod_eq_emod_of_nonneg] at hh))
      | with_reducible refine And.intro (?_ : leA _ _ _) ?_
      | fail) <;> (conv => whnf)))
    all_goals (try (show _ = _; simp only [sI_eq, sB_eq, sS_eq, sN_eq]))
    all_goals first | (rw [e]; done) | (simp_all; done) | skip
def digitW (c b : Int) : Int := if 48 ≤ c ∧ c ≤ 57 then (if c - 48 ≥ b then -1 else c - 48) else if 97 ≤ c ∧ c ≤ 102 then (if c - 87 ≥ b then -1 else c - 87) else -1
def pcDig : PC := PC.fun fun | [.int .i32 c, .int .i64 b] => some (2 ≤ b, .int .i64 (sI (digitW c b))) | _ => none
def D_wire_digit : PT := tabD []
def C_wire_digit : FuncId → Option Ctr := tabC D_wire_digit []
theorem g_wire_digit {W : World} (hW : Tabs W) : GoodP (Fw W) Tryz.prog 242 pcDig := by
  have hD : PTOk (Fw W) Tryz.prog D_wire_digit := tabD_nil
  have hC0 : CtrOk (Fw W) Tryz.prog C_wire_digit := (tabC_nil hD)
  refine goodP_fun (D := D_wire_digit) (C := C_wire_digit) (wr := (fun _ => false)) rfl tyOk hD hC0 Tryz.func242 (fun _ _ => none) ?_
  clear hC0 hD hW
  intro cs p r h hf hp
  split at h
  case h_2 => cases h
  rename_i c b
  cases h
  try simp only [factL, factA, inK_def, Go.Vc.lo, Go.Vc.hi, and_true] at hf
  (conv => whnf)
  (repeat' ((first
    | ((with_reducible refine And.intro ?_ ?_); focus (first | with_reducible rfl | omega | (simp only [inK_def, Go.Vc.lo, Go.Vc.hi]; omega)))
    | (split <;> rename_i hh <;> (try simp only [ble_true, ble_false, beq_true, beq_false, sI_eq, sB_eq, sS_eq, sN_eq, ltI_eq, leI_eq, eqI_eq, decide_eq_true_eq, decide_eq_false_iff_not, beq_iff_eq, bne_iff_ne, ne_eq, beq_eq_false_iff_ne, bne_eq_false_iff_eq, Bool.not_eq_true, Bool.not_eq_false, Int.not_lt, Int.not_le, gt_iff_lt, ge_iff_le, Nat.not_lt, Nat.not_le, Decidable.not_not, Bool.not_eq_eq_eq_not, Bool.not_true, Bool.not_false, cond_true, cond_false, Bool.or_eq_true, Bool.and_eq_true, Bool.or_eq_false_iff, Bool.and_eq_false_iff] at hh) <;> (try simp (disch := omega) only [Int.tdiv_eq_ediv_of_nonneg, Int.tmod_eq_emod_of_nonneg] at hh))
    | fail) <;> (conv => whnf)))
  all_goals (try (show _ = _; simp only [sI_eq, sB_eq, sS_eq, sN_eq]))
  all_goals (unfold digitW; repeat' split) <;> omega
end
end Go.Vc.Z

/- Decimal numerals: wire.Decimal; whole numbers of scripts. -/
namespace Go.Vc.Z
open Go Go.Vc Go.Proofs Go.RowKit Go.Pl Go.Lib
noncomputable section
set_option maxRecDepth 100000
set_option linter.unusedSimpArgs false
set_option linter.unusedVariables false
attribute [local irreducible] inK Utf8.decode Utf8.encode Lib.itoa Pl.worth Pl.allDig
theorem wrap_u64 (n : Int) : IntKind.u64.wrap n = n % 18446744073709551616 := by simp [IntKind.wrap, IntKind.bits, IntKind.signed]
def LDecimal (s : List UInt8) (m : Int) : LoopSpec := {
  α := Nat
  keep := [1, 6, 7, 23]
  vals i := [.int .u64 m, .int .u64 (sI ((worth (s.take i) % 18446744073709551616 : Nat) : Int)), .bool (sB (decide (18446744073709551615 < worth (s.take i)))), .iter 0]
  heap i := [.iter s i]
  ok i := i ≤ s.length ∧ allDig (s.take i) = true
  μ i := s.length - i }
def D_wire_Decimal : PT := tabD [(242, pcDig)]
def C_wire_Decimal : FuncId → Option Ctr := tabC D_wire_Decimal []
def L_wire_Decimal : List AV → Nat → Option LR := fun cs i => match cs with | [.str s, .int _ m] => cond (Nat.beq i 5) (some (.inv (LDecimal s m))) (none) | _ => none
set_option maxHeartbeats 2000000 in
theorem g_wire_Decimal {W : World} (hW : Tabs W) : GoodP (Fw W) Tryz.prog 176 pcDecimal := by
  have hD : PTOk (Fw W) Tryz.prog D_wire_Decimal := (tabD_cons Tryz.call242 (g_wire_digit hW) tabD_nil)
  have hC0 : CtrOk (Fw W) Tryz.prog C_wire_Decimal := (tabC_nil hD)
  refine goodP_fun (D := D_wire_Decimal) (C := C_wire_Decimal) (wr := (fun t => Nat.beq t 41 || Nat.beq t 44)) rfl tyOk hD hC0 Tryz.func176 (L_wire_Decimal) ?_
  clear hC0 hD hW
  intro cs p r h hf hp
  split at h
  case h_2 => cases h
  rename_i s m
  cases h
  try simp only [factL, factA, inK_def, Go.Vc.lo, Go.Vc.hi, and_true] at hf
  have e0 : s.getD (Int.toNat 0) 0 = s.getD 0 0 := rfl
  have hbyte : ∀ c : UInt8, eqI (c.toNat : Int) 48 = (c == 48) := fun c => eqI_byte c 48
  by_cases hs : s = []
  · subst hs
    have e : decOf [] m = (0, 4) := by unfold decOf; rw [if_neg (by simp [isDec])]
    (conv => whnf)
    (repeat' ((first
      | with_reducible exact True.intro
      | ((with_reducible refine And.intro ?_ ?_); focus (with_reducible rfl))
      | with_reducible refine And.intro (?_ : leA _ _ _) ?_
      | fail) <;> (conv => whnf)))
    all_goals (try (show _ = _; simp only [sI_eq, sB_eq, sS_eq, sN_eq]))
    all_goals first | (rw [e]; done) | skip
  · have hpos : 0 < s.length := List.length_pos_iff.2 hs
    by_cases hz : ((s.getD (Int.toNat 0) 0).toNat : Int) = 48 ∧ ¬ s = [48]
    · have e : decOf s m = (0, 4) := by
        unfold decOf; rw [if_neg]
        unfold isDec
        have a1 : (s == [48]) = false := by rw [beq_eq_false_iff_ne]; exact hz.2
        have a2 : s.getD 0 0 = 48 := UInt8.toNat_inj.1 (Int.ofNat.inj hz.1)
        rw [a1, a2]; simp
      (conv => whnf)
      (repeat' ((first
        | with_reducible exact True.intro
        | ((with_reducible refine And.intro ?_ ?_); focus (first | with_reducible rfl | omega))
        | (split <;> rename_i hh <;> (try simp only [ble_true, ble_false, beq_true, beq_false, sI_eq, sB_eq, sS_eq, sN_eq, ltI_eq, leI_eq, eqI_eq, decide_eq_true_eq, decide_eq_false_iff_not, beq_iff_eq, bne_iff_ne, ne_eq, beq_eq_false_iff_ne, bne_eq_false_iff_eq, Bool.not_eq_true, Bool.not_eq_false, Int.not_lt, Int.not_le, gt_iff_lt, ge_iff_le, Nat.not_lt, Nat.not_le, Decidable.not_not, Bool.not_eq_eq_eq_not, Bool.not_true, Bool.not_false, cond_true, cond_false, Bool.or_eq_true, Bool.and_eq_true, Bool.or_eq_false_iff, Bool.and_eq_false_iff] at hh) <;> (try simp (disch := omega) only [Int.tdiv_eq_ediv_of_nonneg, Int.tmod_eq_emod_of_nonneg] at hh))
        | with_reducible refine And.intro (?_ : leA _ _ _) ?_
        | fail) <;> (conv => whnf)))
      all_goals (try (show _ = _; simp only [sI_eq, sB_eq, sS_eq, sN_eq]))
      all_goals first | (rw [e]; done) | (simp_all; done) | skip
    · have hdec : allDig s = true → isDec s = true := fun h => by
        unfold isDec
        rw [h, Bool.true_and, Bool.or_eq_true, Bool.and_eq_true, beq_iff_eq, bne_iff_ne, bne_iff_ne]
        by_cases h1 : s = [48]
        · exact .inl h1
        · refine .inr ⟨hs, fun h2 => hz ⟨?_, h1⟩⟩
          rw [e0, h2]; rfl
      (conv => whnf)
      (repeat' ((first
        | with_reducible exact True.intro
        | ((with_reducible refine And.intro ?_ ?_); focus (first | with_reducible rfl | omega))
        | (split <;> rename_i hh <;> (try simp only [ble_true, ble_false, beq_true, beq_false, sI_eq, sB_eq, sS_eq, sN_eq, ltI_eq, leI_eq, eqI_eq, decide_eq_true_eq, decide_eq_false_iff_not, beq_iff_eq, bne_iff_ne, ne_eq, beq_eq_false_iff_ne, bne_eq_false_iff_eq, Bool.not_eq_true, Bool.not_eq_false, Int.not_lt, Int.not_le, gt_iff_lt, ge_iff_le, Nat.not_lt, Nat.not_le, Decidable.not_not, Bool.not_eq_eq_eq_not, Bool.not_true, Bool.not_false, cond_true, cond_false, Bool.or_eq_true, Bool.and_eq_true, Bool.or_eq_false_iff, Bool.and_eq_false_iff] at hh) <;> (try simp (disch := omega) only [Int.tdiv_eq_ediv_of_nonneg, Int.tmod_eq_emod_of_nonneg] at hh))
        | with_reducible refine And.intro (?_ : leA _ _ _) ?_
        | fail) <;> (conv => whnf)))
      all_goals (try (show _ = _; simp only [sI_eq, sB_eq, sS_eq, sN_eq]))
      all_goals first | exact absurd (by assumption) hs | exact absurd ⟨by assumption, by assumption⟩ hz | skip
      all_goals (
        refine ⟨?_, fun (i : Nat) (hi : i ≤ s.length ∧ allDig (s.take i) = true) => ?_⟩
        · (conv => whnf)
          refine ⟨(0 : Nat), [], ?_, ⟨⟨rfl, Nat.le_of_ble_eq_true rfl, rfl⟩, ?_, ?_⟩⟩
          · exact ⟨Nat.zero_le _, by simp [allDig]⟩
          · (conv => whnf)
            (repeat' ((first | with_reducible exact True.intro | ((with_reducible refine And.intro ?_ ?_); focus (first | with_reducible rfl | omega | exact Nat.le_of_ble_eq_true rfl | rfl)) | with_reducible refine And.intro (?_ : leA _ _ _) ?_ | fail) <;> (conv => whnf)))
            all_goals (try simp only [sI_eq, sB_eq, sS_eq, sN_eq])
            all_goals simp [worth]
          · (conv => whnf)
            (repeat' ((first | with_reducible exact True.intro | ((with_reducible refine And.intro ?_ ?_); focus (first | with_reducible rfl | omega | exact Nat.le_of_ble_eq_true rfl | rfl)) | with_reducible refine And.intro (?_ : leBlk _ _ _ _) ?_ | fail) <;> (conv => whnf)))
            all_goals (try simp only [sI_eq, sB_eq, sS_eq, sN_eq])
        · obtain ⟨h1, h2⟩ := hi
          have hdw : sI (digitW (runeAt s i) 10) = digitW (runeAt s i) 10 := sI_eq _
          have hcase : (48 ≤ runeAt s i ∧ runeAt s i ≤ 57 ∧ digitW (runeAt s i) 10 = runeAt s i - 48) ∨ (¬ (48 ≤ runeAt s i ∧ runeAt s i ≤ 57) ∧ digitW (runeAt s i) 10 = -1) := by
            unfold digitW; repeat' split
            all_goals omega
          have hbad : i < s.length → ¬ (48 ≤ runeAt s i ∧ runeAt s i ≤ 57) → decOf s m = (0, 4) := fun h hc => by
            have : allDig s = false := not_allDig h (by rcases rune_cases h with h6 | h6 <;> omega)
            unfold decOf; rw [if_neg]; unfold isDec; rw [this]; simp
          have hsi := sI_eq ((worth (s.take i) % 18446744073709551616 : Nat) : Int)
          have hE : s.length ≤ i → decOf s m = if m < (worth (s.take i) : Int) then (0, 5) else ((worth (s.take i) : Int), 0) := fun h => by
            rw [List.take_of_length_le h] at h2 ⊢
            unfold decOf; rw [if_pos (hdec h2)]
          have hE1 : s.length ≤ i → (18446744073709551615 < worth (s.take i) ∨ m < (worth (s.take i) : Int)) → decOf s m = (0, 5) := fun h hc => by rw [hE h, if_pos (by omega)]
          have hE2 : s.length ≤ i → (worth (s.take i) : Int) ≤ m → decOf s m = ((worth (s.take i) : Int), 0) := fun h hc => by rw [hE h, if_neg (by omega)]
          (conv => whnf)
          (repeat' ((first
            | with_reducible exact True.intro
            | ((with_reducible refine And.intro ?_ ?_); focus (first | with_reducible rfl | omega | (simp only [inK_def, Go.Vc.lo, Go.Vc.hi]; omega)))
            | (split <;> rename_i hh <;> (try simp only [ble_true, ble_false, beq_true, beq_false, sI_eq, sB_eq, sS_eq, sN_eq, ltI_eq, leI_eq, eqI_eq, decide_eq_true_eq, decide_eq_false_iff_not, beq_iff_eq, bne_iff_ne, ne_eq, beq_eq_false_iff_ne, bne_eq_false_iff_eq, Bool.not_eq_true, Bool.not_eq_false, Int.not_lt, Int.not_le, gt_iff_lt, ge_iff_le, Nat.not_lt, Nat.not_le, Decidable.not_not, Bool.not_eq_eq_eq_not, Bool.not_true, Bool.not_false, cond_true, cond_false, Bool.or_eq_true, Bool.and_eq_true, Bool.or_eq_false_iff, Bool.and_eq_false_iff] at hh) <;> (try simp (disch := omega) only [Int.tdiv_eq_ediv_of_nonneg, Int.tmod_eq_emod_of_nonneg] at hh))
            | with_reducible refine And.intro (?_ : leA _ _ _) ?_
            | fail) <;> (conv => whnf)))
          all_goals (try (show _ = _; simp only [sI_eq, sB_eq, sS_eq, sN_eq]))
          all_goals first | (rw [hbad (by omega) (by omega)]; done) | (rw [hE1 (by omega) (by omega)]; done) | (rw [hE2 (by omega) (by omega)]; done) | (rw [hE2 (by omega) (by omega)]; omega) | skip
          all_goals (
            obtain ⟨h6, h7, h8⟩ : runeAt s i = ((s.getD i 0).toNat : Int) ∧ runeW s i = 1 ∧ (s.getD i 0).toNat < 128 := by
              rcases rune_cases (l := s) (p := i) (by omega) with h6 | h6 <;> omega
            have hst := worth_take_succ (l := s) (i := i) (by omega)
            (conv => whnf)
            refine ⟨(i + 1 : Nat), [], ?_, ⟨⟨rfl, Nat.le_of_ble_eq_true rfl, rfl⟩, ?_, ?_⟩⟩
            · exact ⟨⟨show i + 1 ≤ s.length by omega, allDig_take_succ (by omega) h2 (by omega) (by omega)⟩, show s.length - (i + 1) < s.length - i by omega⟩
            · (conv => whnf)
              (repeat' ((first | with_reducible exact True.intro | ((with_reducible refine And.intro ?_ ?_); focus (first | with_reducible rfl | omega | exact Nat.le_of_ble_eq_true rfl | rfl)) | with_reducible refine And.intro (?_ : leA _ _ _) ?_ | fail) <;> (conv => whnf)))
              all_goals (try simp only [sI_eq, sB_eq, sS_eq, sN_eq])
              all_goals first | (rw [wrapS_eq, wrapS_eq, wrap_u64, wrap_u64]; omega) | (symm; rw [decide_eq_true_eq]; omega) | (show ltI _ _ = _; rw [ltI_eq, Bool.eq_iff_iff, decide_eq_true_eq, decide_eq_true_eq]; omega)
            · (conv => whnf)
              (repeat' ((first | with_reducible exact True.intro | ((with_reducible refine And.intro ?_ ?_); focus (first | with_reducible rfl | omega | exact Nat.le_of_ble_eq_true rfl | rfl)) | with_reducible refine And.intro (?_ : leBlk _ _ _ _) ?_ | fail) <;> (conv => whnf)))
              all_goals (try simp only [sI_eq, sB_eq, sS_eq, sN_eq])
              all_goals (try first | omega)
            )
        )
/-- A whole number's digits; none's otherwise. -/
@[irreducible] def wholeN (s : List UInt8) : Int × Bool := ((decOf s 9223372036854775807).1, decide ((decOf s 9223372036854775807).2 = 0))
theorem decOf_le (s : List UInt8) (m : Int) (hm : 0 ≤ m) : 0 ≤ (decOf s m).1 ∧ (decOf s m).1 ≤ m := by
  unfold decOf; repeat' split
  all_goals (simp only []; omega)
def pcWhole : PC := PC.fun fun | [.str s] => some (True, .tup [.int .i64 (sI (wholeN s).1), .bool (sB (wholeN s).2)]) | _ => none
def D_script_whole : PT := tabD [(176, pcDecimal)]
def C_script_whole : FuncId → Option Ctr := tabC D_script_whole []
theorem g_script_whole {W : World} (hW : Tabs W) : GoodP (Fw W) Tryz.prog 93 pcWhole := by
  have hD : PTOk (Fw W) Tryz.prog D_script_whole := (tabD_cons Tryz.call176 (g_wire_Decimal hW) tabD_nil)
  have hC0 : CtrOk (Fw W) Tryz.prog C_script_whole := (tabC_nil hD)
  refine goodP_fun (D := D_script_whole) (C := C_script_whole) (wr := (fun _ => false)) rfl tyOk hD hC0 Tryz.func93 (fun _ _ => none) ?_
  clear hC0 hD hW
  intro cs p r h hf hp
  split at h
  case h_2 => cases h
  rename_i s
  cases h
  try simp only [factL, factA, inK_def, Go.Vc.lo, Go.Vc.hi, and_true] at hf
  have h1 := decOf_le s 9223372036854775807 (by decide)
  have h2 := sI_eq (decOf s 9223372036854775807).1
  have h3 : (wholeN s).1 = (decOf s 9223372036854775807).1 := by unfold wholeN; rfl
  have h4 : (wholeN s).2 = decide ((decOf s 9223372036854775807).2 = 0) := by unfold wholeN; rfl
  (conv => whnf)
  (repeat' ((first
    | with_reducible exact True.intro
    | ((with_reducible refine And.intro ?_ ?_); focus (first | with_reducible exact True.intro | with_reducible rfl | (simp only [inK_def, Go.Vc.lo, Go.Vc.hi]; omega)))
    | with_reducible refine And.intro (?_ : leA _ _ _) ?_
    | fail) <;> (conv => whnf)))
  all_goals (try (show _ = _; simp only [sI_eq, sB_eq, sS_eq, sN_eq]))
  · rw [h3]
  · rw [h4, eqI_eq, Bool.eq_iff_iff, beq_iff_eq, decide_eq_true_eq]
/-- The number of digits; of none's -1. -/
@[irreducible] def countN (s : List UInt8) : Int := if (decOf s 4611686018427387904).2 = 0 then (decOf s 4611686018427387904).1 else -1
def pcCount : PC := PC.fun fun | [.str s] => some (True, .int .i64 (sI (countN s))) | _ => none
def D_couponref26_count : PT := tabD [(172, pcDecimal)]
def C_couponref26_count : FuncId → Option Ctr := tabC D_couponref26_count []
theorem g_couponref26_count {W : World} (hW : Tabs W) : GoodP (Fw W) Tryz.prog 87 pcCount := by
  have hD : PTOk (Fw W) Tryz.prog D_couponref26_count := (tabD_cons Tryz.call172 (g_couponref01_Decimal hW) tabD_nil)
  have hC0 : CtrOk (Fw W) Tryz.prog C_couponref26_count := (tabC_nil hD)
  refine goodP_fun (D := D_couponref26_count) (C := C_couponref26_count) (wr := (fun _ => false)) rfl tyOk hD hC0 Tryz.func87 (fun _ _ => none) ?_
  clear hC0 hD hW
  intro cs p r h hf hp
  split at h
  case h_2 => cases h
  rename_i s
  cases h
  try simp only [factL, factA, inK_def, Go.Vc.lo, Go.Vc.hi, and_true] at hf
  have h1 := decOf_le s 4611686018427387904 (by decide)
  have h2 := sI_eq (decOf s 4611686018427387904).1
  (conv => whnf)
  (repeat' ((first
    | ((with_reducible refine And.intro ?_ ?_); focus (first | with_reducible exact True.intro | with_reducible rfl | (simp only [inK_def, Go.Vc.lo, Go.Vc.hi]; omega)))
    | (split <;> rename_i hh <;> (try simp only [ble_true, ble_false, beq_true, beq_false, sI_eq, sB_eq, sS_eq, sN_eq, ltI_eq, leI_eq, eqI_eq, decide_eq_true_eq, decide_eq_false_iff_not, beq_iff_eq, bne_iff_ne, ne_eq, beq_eq_false_iff_ne, bne_eq_false_iff_eq, Bool.not_eq_true, Bool.not_eq_false, Int.not_lt, Int.not_le, gt_iff_lt, ge_iff_le, Nat.not_lt, Nat.not_le, Decidable.not_not, Bool.not_eq_eq_eq_not, Bool.not_true, Bool.not_false, cond_true, cond_false, Bool.or_eq_true, Bool.and_eq_true, Bool.or_eq_false_iff, Bool.and_eq_false_iff] at hh) <;> (try simp (disch := omega) only [Int.tdiv_eq_ediv_of_nonneg, Int.tmod_eq_emod_of_nonneg] at hh))
    | fail) <;> (conv => whnf)))
  all_goals (try (show _ = _; simp only [sI_eq, sB_eq, sS_eq, sN_eq]))
  · unfold countN; rw [if_neg (by assumption)]
  · unfold countN; rw [if_pos (by assumption)]
end
end Go.Vc.Z

/- How the library functions that are met by their contracts lie in this program: strings.Join, strconv.Itoa, FormatInt, FormatUint and what they call. -/
namespace Go.Proofs
open Go.Shelf Go.RowKit
set_option maxRecDepth 1000000
def Tryz.laysJoin_ren : Go.Shelf.Ren := ⟨fun | 156 => 62 | 165 => 134 | 166 => 101 | 169 => 102 | 240 => 182 | 241 => 209 | 276 => 249 | 277 => 271 | n => n, fun | 31 => 32 | 9 => 9 | 3 => 3 | 4 => 4 | 0 => 0 | 20 => 20 | 72 => 152 | 76 => 155 | 70 => 149 | 37 => 150 | 75 => 154 | 127 => 221 | 164 => 264 | 5 => 5 | 80 => 162 | n => n, fun | n => n⟩
theorem Tryz.laysJoin : Go.Proofs.Lays.n156 Tryz.prog Tryz.laysJoin_ren := {
  mixed := by kernel_rfl
  f156 := Tryz.func62.trans (congrArg some (by kernel_rfl))
  f165 := Tryz.func134.trans (congrArg some (by kernel_rfl))
  f166 := Tryz.func101.trans (congrArg some (by kernel_rfl))
  f169 := Tryz.func102.trans (congrArg some (by kernel_rfl))
  f240 := Tryz.func182.trans (congrArg some (by kernel_rfl))
  f241 := Tryz.func209.trans (congrArg some (by kernel_rfl))
  f276 := Tryz.func249.trans (congrArg some (by kernel_rfl))
  f277 := Tryz.func271.trans (congrArg some (by kernel_rfl))
  t0 := Tryz.underlying0
  a0 := Tryz.isAgg0
  z0 := Tryz.sizeOf0
  v0 := Tryz.zeroValue0
  t3 := Tryz.underlying3
  a3 := Tryz.isAgg3
  z3 := Tryz.sizeOf3
  v3 := Tryz.zeroValue3
  t4 := Tryz.underlying4
  a4 := Tryz.isAgg4
  z4 := Tryz.sizeOf4
  v4 := Tryz.zeroValue4
  t9 := Tryz.underlying9
  a9 := Tryz.isAgg9
  z9 := Tryz.sizeOf9
  v9 := Tryz.zeroValue9
  t20 := Tryz.underlying20
  a20 := Tryz.isAgg20
  z20 := Tryz.sizeOf20
  v20 := Tryz.zeroValue20
  t31 := Tryz.underlying32
  a31 := Tryz.isAgg32
  z31 := Tryz.sizeOf32
  v31 := Tryz.zeroValue32
  t37 := Tryz.underlying150
  a37 := Tryz.isAgg150
  z37 := Tryz.sizeOf150
  v37 := Tryz.zeroValue150
  t70 := Tryz.underlying149
  a70 := Tryz.isAgg149
  z70 := Tryz.sizeOf149
  v70 := Tryz.zeroValue149
  t72 := Tryz.underlying152
  a72 := Tryz.isAgg152
  z72 := Tryz.sizeOf152
  v72 := Tryz.zeroValue152
  t75 := Tryz.underlying154
  a75 := Tryz.isAgg154
  z75 := Tryz.sizeOf154
  v75 := Tryz.zeroValue154
  t76 := Tryz.underlying155
  a76 := Tryz.isAgg155
  z76 := Tryz.sizeOf155
  v76 := Tryz.zeroValue155
  t127 := Tryz.underlying221
  a127 := Tryz.isAgg221
  z127 := Tryz.sizeOf221
  v127 := Tryz.zeroValue221
  t164 := Tryz.underlying264
  a164 := Tryz.isAgg264
  z164 := Tryz.sizeOf264
  v164 := Tryz.zeroValue264 }
def Tryz.laysItoa_ren : Go.Shelf.Ren := ⟨fun | 171 => 111 | 243 => 189 | 246 => 190 | 283 => 203 | 284 => 204 | 285 => 205 | 286 => 206 | 129 => 267 | 317 => 266 | 318 => 268 | 319 => 269 | 320 => 270 | 337 => 301 | 338 => 302 | n => n, fun | 3 => 3 | 9 => 9 | 2 => 2 | 4 => 4 | 171 => 233 | 0 => 0 | 53 => 37 | 37 => 150 | 5 => 5 | 173 => 235 | 212 => 281 | 51 => 282 | 20 => 20 | 213 => 283 | 46 => 284 | 232 => 323 | 233 => 324 | n => n, fun | 17 => 0 | 18 => 4 | 19 => 5 | n => n⟩
theorem Tryz.laysItoa : Go.Proofs.LaysM.n171 Tryz.prog Tryz.laysItoa_ren := {
  mixed := by kernel_rfl
  f129 := Tryz.func267.trans (congrArg some (by kernel_rfl))
  f171 := Tryz.func111.trans (congrArg some (by kernel_rfl))
  f243 := Tryz.func189.trans (congrArg some (by kernel_rfl))
  f246 := Tryz.func190.trans (congrArg some (by kernel_rfl))
  f283 := Tryz.func203.trans (congrArg some (by kernel_rfl))
  f284 := Tryz.func204.trans (congrArg some (by kernel_rfl))
  f285 := Tryz.func205.trans (congrArg some (by kernel_rfl))
  f286 := Tryz.func206.trans (congrArg some (by kernel_rfl))
  f317 := Tryz.func266.trans (congrArg some (by kernel_rfl))
  f318 := Tryz.func268.trans (congrArg some (by kernel_rfl))
  f319 := Tryz.func269.trans (congrArg some (by kernel_rfl))
  f320 := Tryz.func270.trans (congrArg some (by kernel_rfl))
  f337 := Tryz.func301.trans (congrArg some (by kernel_rfl))
  f338 := Tryz.func302.trans (congrArg some (by kernel_rfl))
  t0 := Tryz.underlying0
  a0 := Tryz.isAgg0
  z0 := Tryz.sizeOf0
  v0 := Tryz.zeroValue0
  t2 := Tryz.underlying2
  a2 := Tryz.isAgg2
  z2 := Tryz.sizeOf2
  v2 := Tryz.zeroValue2
  t3 := Tryz.underlying3
  a3 := Tryz.isAgg3
  z3 := Tryz.sizeOf3
  v3 := Tryz.zeroValue3
  t4 := Tryz.underlying4
  a4 := Tryz.isAgg4
  z4 := Tryz.sizeOf4
  v4 := Tryz.zeroValue4
  t5 := Tryz.underlying5
  a5 := Tryz.isAgg5
  z5 := Tryz.sizeOf5
  v5 := Tryz.zeroValue5
  t9 := Tryz.underlying9
  a9 := Tryz.isAgg9
  z9 := Tryz.sizeOf9
  v9 := Tryz.zeroValue9
  t20 := Tryz.underlying20
  a20 := Tryz.isAgg20
  z20 := Tryz.sizeOf20
  v20 := Tryz.zeroValue20
  t37 := Tryz.underlying150
  a37 := Tryz.isAgg150
  z37 := Tryz.sizeOf150
  v37 := Tryz.zeroValue150
  t46 := Tryz.underlying284
  a46 := Tryz.isAgg284
  z46 := Tryz.sizeOf284
  v46 := Tryz.zeroValue284
  t51 := Tryz.underlying282
  a51 := Tryz.isAgg282
  z51 := Tryz.sizeOf282
  v51 := Tryz.zeroValue282
  t53 := Tryz.underlying37
  a53 := Tryz.isAgg37
  z53 := Tryz.sizeOf37
  v53 := Tryz.zeroValue37
  t171 := Tryz.underlying233
  a171 := Tryz.isAgg233
  z171 := Tryz.sizeOf233
  v171 := Tryz.zeroValue233
  t173 := Tryz.underlying235
  a173 := Tryz.isAgg235
  z173 := Tryz.sizeOf235
  v173 := Tryz.zeroValue235
  t212 := Tryz.underlying281
  a212 := Tryz.isAgg281
  z212 := Tryz.sizeOf281
  v212 := Tryz.zeroValue281
  t213 := Tryz.underlying283
  a213 := Tryz.isAgg283
  z213 := Tryz.sizeOf283
  t232 := Tryz.underlying323
  a232 := Tryz.isAgg323
  z232 := Tryz.sizeOf323
  v232 := Tryz.zeroValue323
  t233 := Tryz.underlying324
  a233 := Tryz.isAgg324
  z233 := Tryz.sizeOf324
  v233 := Tryz.zeroValue324
  g17 := by kernel_rfl
  g18 := by kernel_rfl
  g19 := by kernel_rfl
  i0 := by kernel_rfl
  i2 := by kernel_rfl
  i3 := by kernel_rfl
  i4 := by kernel_rfl
  i5 := by kernel_rfl
  i9 := by kernel_rfl
  i20 := by kernel_rfl
  i37 := by kernel_rfl
  i46 := by kernel_rfl
  i51 := by kernel_rfl
  i53 := by kernel_rfl
  i171 := by kernel_rfl
  i173 := by kernel_rfl
  i212 := by kernel_rfl
  i232 := by kernel_rfl
  i233 := by kernel_rfl
  m17 := by kernel_rfl
  m18 := by kernel_rfl
  m19 := by kernel_rfl }
def Tryz.laysFormatInt_ren : Go.Shelf.Ren := ⟨fun | 173 => 114 | 246 => 190 | 283 => 203 | 284 => 204 | 285 => 205 | 286 => 206 | 129 => 267 | 317 => 266 | 318 => 268 | 319 => 269 | 320 => 270 | 337 => 301 | 338 => 302 | n => n, fun | 2 => 2 | 3 => 3 | 9 => 9 | 4 => 4 | 171 => 233 | 0 => 0 | 53 => 37 | 37 => 150 | 5 => 5 | 173 => 235 | 212 => 281 | 51 => 282 | 20 => 20 | 213 => 283 | 46 => 284 | 232 => 323 | 233 => 324 | n => n, fun | 17 => 0 | 18 => 4 | 19 => 5 | n => n⟩
theorem Tryz.laysFormatInt : Go.Proofs.LaysM.n173 Tryz.prog Tryz.laysFormatInt_ren := {
  mixed := by kernel_rfl
  f129 := Tryz.func267.trans (congrArg some (by kernel_rfl))
  f173 := Tryz.func114.trans (congrArg some (by kernel_rfl))
  f246 := Tryz.func190.trans (congrArg some (by kernel_rfl))
  f283 := Tryz.func203.trans (congrArg some (by kernel_rfl))
  f284 := Tryz.func204.trans (congrArg some (by kernel_rfl))
  f285 := Tryz.func205.trans (congrArg some (by kernel_rfl))
  f286 := Tryz.func206.trans (congrArg some (by kernel_rfl))
  f317 := Tryz.func266.trans (congrArg some (by kernel_rfl))
  f318 := Tryz.func268.trans (congrArg some (by kernel_rfl))
  f319 := Tryz.func269.trans (congrArg some (by kernel_rfl))
  f320 := Tryz.func270.trans (congrArg some (by kernel_rfl))
  f337 := Tryz.func301.trans (congrArg some (by kernel_rfl))
  f338 := Tryz.func302.trans (congrArg some (by kernel_rfl))
  t0 := Tryz.underlying0
  a0 := Tryz.isAgg0
  z0 := Tryz.sizeOf0
  v0 := Tryz.zeroValue0
  t2 := Tryz.underlying2
  a2 := Tryz.isAgg2
  z2 := Tryz.sizeOf2
  v2 := Tryz.zeroValue2
  t3 := Tryz.underlying3
  a3 := Tryz.isAgg3
  z3 := Tryz.sizeOf3
  v3 := Tryz.zeroValue3
  t4 := Tryz.underlying4
  a4 := Tryz.isAgg4
  z4 := Tryz.sizeOf4
  v4 := Tryz.zeroValue4
  t5 := Tryz.underlying5
  a5 := Tryz.isAgg5
  z5 := Tryz.sizeOf5
  v5 := Tryz.zeroValue5
  t9 := Tryz.underlying9
  a9 := Tryz.isAgg9
  z9 := Tryz.sizeOf9
  v9 := Tryz.zeroValue9
  t20 := Tryz.underlying20
  a20 := Tryz.isAgg20
  z20 := Tryz.sizeOf20
  v20 := Tryz.zeroValue20
  t37 := Tryz.underlying150
  a37 := Tryz.isAgg150
  z37 := Tryz.sizeOf150
  v37 := Tryz.zeroValue150
  t46 := Tryz.underlying284
  a46 := Tryz.isAgg284
  z46 := Tryz.sizeOf284
  v46 := Tryz.zeroValue284
  t51 := Tryz.underlying282
  a51 := Tryz.isAgg282
  z51 := Tryz.sizeOf282
  v51 := Tryz.zeroValue282
  t53 := Tryz.underlying37
  a53 := Tryz.isAgg37
  z53 := Tryz.sizeOf37
  v53 := Tryz.zeroValue37
  t171 := Tryz.underlying233
  a171 := Tryz.isAgg233
  z171 := Tryz.sizeOf233
  v171 := Tryz.zeroValue233
  t173 := Tryz.underlying235
  a173 := Tryz.isAgg235
  z173 := Tryz.sizeOf235
  v173 := Tryz.zeroValue235
  t212 := Tryz.underlying281
  a212 := Tryz.isAgg281
  z212 := Tryz.sizeOf281
  v212 := Tryz.zeroValue281
  t213 := Tryz.underlying283
  a213 := Tryz.isAgg283
  z213 := Tryz.sizeOf283
  t232 := Tryz.underlying323
  a232 := Tryz.isAgg323
  z232 := Tryz.sizeOf323
  v232 := Tryz.zeroValue323
  t233 := Tryz.underlying324
  a233 := Tryz.isAgg324
  z233 := Tryz.sizeOf324
  v233 := Tryz.zeroValue324
  g17 := by kernel_rfl
  g18 := by kernel_rfl
  g19 := by kernel_rfl
  i0 := by kernel_rfl
  i2 := by kernel_rfl
  i3 := by kernel_rfl
  i4 := by kernel_rfl
  i5 := by kernel_rfl
  i9 := by kernel_rfl
  i20 := by kernel_rfl
  i37 := by kernel_rfl
  i46 := by kernel_rfl
  i51 := by kernel_rfl
  i53 := by kernel_rfl
  i171 := by kernel_rfl
  i173 := by kernel_rfl
  i212 := by kernel_rfl
  i232 := by kernel_rfl
  i233 := by kernel_rfl
  m17 := by kernel_rfl
  m18 := by kernel_rfl
  m19 := by kernel_rfl }
def Tryz.laysBase10_ren : Go.Shelf.Ren := ⟨fun | 285 => 205 | n => n, fun | 37 => 150 | 53 => 37 | 3 => 3 | 4 => 4 | 51 => 282 | 9 => 9 | 5 => 5 | 0 => 0 | n => n, fun | n => n⟩
theorem Tryz.laysBase10 : Go.Proofs.Lays.n285 Tryz.prog Tryz.laysBase10_ren := {
  mixed := by kernel_rfl
  f285 := Tryz.func205.trans (congrArg some (by kernel_rfl))
  t0 := Tryz.underlying0
  a0 := Tryz.isAgg0
  z0 := Tryz.sizeOf0
  v0 := Tryz.zeroValue0
  t3 := Tryz.underlying3
  a3 := Tryz.isAgg3
  z3 := Tryz.sizeOf3
  v3 := Tryz.zeroValue3
  t4 := Tryz.underlying4
  a4 := Tryz.isAgg4
  z4 := Tryz.sizeOf4
  v4 := Tryz.zeroValue4
  t5 := Tryz.underlying5
  a5 := Tryz.isAgg5
  z5 := Tryz.sizeOf5
  v5 := Tryz.zeroValue5
  t9 := Tryz.underlying9
  a9 := Tryz.isAgg9
  z9 := Tryz.sizeOf9
  v9 := Tryz.zeroValue9
  t37 := Tryz.underlying150
  a37 := Tryz.isAgg150
  z37 := Tryz.sizeOf150
  v37 := Tryz.zeroValue150
  t51 := Tryz.underlying282
  a51 := Tryz.isAgg282
  z51 := Tryz.sizeOf282
  v51 := Tryz.zeroValue282
  t53 := Tryz.underlying37
  a53 := Tryz.isAgg37
  z53 := Tryz.sizeOf37
  v53 := Tryz.zeroValue37 }
def Tryz.laysSmall_ren : Go.Shelf.Ren := ⟨fun | 283 => 203 | n => n, fun | 3 => 3 | 9 => 9 | 4 => 4 | n => n, fun | n => n⟩
theorem Tryz.laysSmall : Go.Proofs.Lays.n283 Tryz.prog Tryz.laysSmall_ren := {
  mixed := by kernel_rfl
  f283 := Tryz.func203.trans (congrArg some (by kernel_rfl))
  t3 := Tryz.underlying3
  a3 := Tryz.isAgg3
  z3 := Tryz.sizeOf3
  v3 := Tryz.zeroValue3
  t4 := Tryz.underlying4
  a4 := Tryz.isAgg4
  z4 := Tryz.sizeOf4
  v4 := Tryz.zeroValue4
  t9 := Tryz.underlying9
  a9 := Tryz.isAgg9
  z9 := Tryz.sizeOf9
  v9 := Tryz.zeroValue9 }
def Tryz.laysNumDigits_ren : Go.Shelf.Ren := ⟨fun | 284 => 204 | 129 => 267 | 317 => 266 | 318 => 268 | n => n, fun | 53 => 37 | 3 => 3 | 212 => 281 | 0 => 0 | 4 => 4 | 46 => 284 | 5 => 5 | 9 => 9 | n => n, fun | 17 => 0 | n => n⟩
theorem Tryz.laysNumDigits : Go.Proofs.LaysM.n284 Tryz.prog Tryz.laysNumDigits_ren := {
  mixed := by kernel_rfl
  f129 := Tryz.func267.trans (congrArg some (by kernel_rfl))
  f284 := Tryz.func204.trans (congrArg some (by kernel_rfl))
  f317 := Tryz.func266.trans (congrArg some (by kernel_rfl))
  f318 := Tryz.func268.trans (congrArg some (by kernel_rfl))
  t0 := Tryz.underlying0
  a0 := Tryz.isAgg0
  z0 := Tryz.sizeOf0
  v0 := Tryz.zeroValue0
  t3 := Tryz.underlying3
  a3 := Tryz.isAgg3
  z3 := Tryz.sizeOf3
  v3 := Tryz.zeroValue3
  t4 := Tryz.underlying4
  a4 := Tryz.isAgg4
  z4 := Tryz.sizeOf4
  v4 := Tryz.zeroValue4
  t5 := Tryz.underlying5
  a5 := Tryz.isAgg5
  z5 := Tryz.sizeOf5
  v5 := Tryz.zeroValue5
  t9 := Tryz.underlying9
  a9 := Tryz.isAgg9
  z9 := Tryz.sizeOf9
  v9 := Tryz.zeroValue9
  t46 := Tryz.underlying284
  a46 := Tryz.isAgg284
  z46 := Tryz.sizeOf284
  v46 := Tryz.zeroValue284
  t53 := Tryz.underlying37
  a53 := Tryz.isAgg37
  z53 := Tryz.sizeOf37
  v53 := Tryz.zeroValue37
  t212 := Tryz.underlying281
  a212 := Tryz.isAgg281
  z212 := Tryz.sizeOf281
  v212 := Tryz.zeroValue281
  g17 := by kernel_rfl
  i0 := by kernel_rfl
  i3 := by kernel_rfl
  i4 := by kernel_rfl
  i5 := by kernel_rfl
  i9 := by kernel_rfl
  i46 := by kernel_rfl
  i53 := by kernel_rfl
  i212 := by kernel_rfl
  m17 := by kernel_rfl }
end Go.Proofs

/- Contracts of the library, out of the kit's shelf. -/
namespace Go.Proofs
open Go.Shelf Go.RowKit
theorem Tryz.extra : Builder.Extra Tryz.prog Tryz.laysJoin_ren := {
  sizeBuilder := by kernel_rfl
  liesBuilder := by kernel_rfl
  t5 := by kernel_rfl
  a5 := fun w => Tryz.isAgg5 w
  z5 := fun w => Tryz.sizeOf5 w
  v5 := fun w => Tryz.zeroValue5 w
  infoByte := by kernel_rfl
  cellsByte := by kernel_rfl
  sizeByte := by kernel_rfl
  neB5 := by decide }
end Go.Proofs
namespace Go.Vc
open Go Go.Proofs Go.RowKit

theorem ext_below {S : Nat → Prop} {w w' : World} (h : Below w.heap.size w w') : Ext (fun _ => none) S w (fun _ => none) S w' :=
  ⟨fun _ _ h => (by cases h), fun _ h => h, fun b hb _ => h.block b hb, h.size, fun b arr T fr hb => ⟨arr, fr, (h.block b (lt_of_some hb)).trans hb, rfl⟩, fun _ _ h => (by cases h), fun _ h => .inl h, h.os, h.tape, h.output⟩

/-- A contract of a function that hands back what leads to no memory, out of a law of the kit's. -/
theorem goodP_below {F : Nat → Obj → Prop} {P : Program} {f : FuncId} {α : Type} {args : α → List AV} {pre : α → Prop} {res : α → AV} (hflat : ∀ x, (res x).flat = true) (hu : ∀ x, underL 0 (args x) = true)
    (h : ∀ x S w vs, pre x → factL (args x) → Sok F S w → VL (fun _ => none) S w (args x) vs → Calls P f vs w fun e w' => ∃ v, e = .returned v ∧ (∀ S' w', V (fun _ => none) S' w' (res x) v) ∧ Below w.heap.size w w') : GoodP F P f (PC.of args pre res) := by
  intro S w cs vs Q hs hv hpre
  obtain ⟨x, h1, h2, h3⟩ := hpre
  have hl := leL_length h2
  have hv' : VL (fun _ => none) S w (args x) vs := by
    refine ⟨by rw [← hl]; exact hv.1, fun i c v hc hv' => ?_⟩
    have hi : i < cs.length := by
      rcases Nat.lt_or_ge i (args x).length with h' | h'
      · omega
      · rw [List.getElem?_eq_none h'] at hc; cases hc
    exact (hv.2 i cs[i] v (List.getElem?_eq_getElem hi) hv').le (σ := fun i => i) (n := 0) (fun i b hi => by omega) (leL_get h2 i _ _ (List.getElem?_eq_getElem hi) hc) (underL_get (hu x) i c hc)
  refine (h x S w vs h1 hv'.fact hs hv').mono ?_
  rintro e w' ⟨v, rfl, hV, hb⟩
  exact ⟨v, res x, S, rfl, h3, hV S w', ext_below hb, hs.still (ext_below hb)⟩

theorem V.slR {ρ : Nat → Option Nat} {S : Nat → Prop} {w : World} {clip : Bool} {sz len : Nat} {get : Nat → List AV} {v : Value} (h : V ρ S w (.sl clip sz len get) v) :
    (len = 0 ∧ ∃ ao, v = .slice ao 0 0) ∨ ∃ b o cap, ∃ f : Nat → Nat → Value, v = .slice (some ⟨b, o, none⟩) len cap ∧ (0 < len → S b ∧ b < w.heap.size) ∧ len ≤ cap ∧ cap ≤ maxLen ∧ (∀ e, e < len → (get e).length = sz) ∧
      (∀ e j, e < len → j < sz → w.cell? ⟨b, o + e * sz + j, none⟩ = some (f e j)) ∧ (∀ (e j : Nat) (c : AV), e < len → (get e)[j]? = some c → VI S w (fun _ => none) c (f e j)) := by
  cases h with
  | sln => exact .inl ⟨rfl, _, rfl⟩
  | sl _ _ _ _ b o cap f hs hl hm hcl hz hc hv => exact .inr ⟨b, o, cap, f, rfl, hs, hl, hm, hz, hc, hv⟩
theorem V.strR' {ρ : Nat → Option Nat} {S : Nat → Prop} {w : World} {l : List UInt8} {v : Value} (h : V ρ S w (.str l) v) : ∃ s : ByteArray, v = .string s ∧ s.data.toList = l ∧ l.length ≤ maxLen := by
  cases h with | str _ s h1 h2 => exact ⟨s, rfl, h1, h2⟩
abbrev slS (l : List (List UInt8)) : AV := .sl false 1 l.length (fun e => [.str (l.getD e [])])
def pcJoin : PC := PC.of (fun x : List (List UInt8) × List UInt8 => [slS x.1, .str x.2]) (fun x => (Lib.join x.1 x.2).length ≤ 140737488355328 ∧ x.1.length ≤ 140737488355328) (fun x => .str (Lib.join x.1 x.2))

theorem goodJoin {F : Nat → Obj → Prop} : GoodP F Tryz.prog 62 pcJoin := by
  refine goodP_below (fun _ => rfl) (fun _ => rfl) ?_
  rintro ⟨l, sep⟩ S w vs ⟨hpre, hlen⟩ hf hs hv
  simp only at hpre hlen hv
  obtain ⟨vs⟩ := vs
  match vs, hv with
  | [a, b], hv =>
    have ha := hv.2 0 _ _ rfl rfl
    have hb := hv.2 1 _ _ rfl rfl
    obtain ⟨sb, rfl, hsb, h2⟩ := V.strR' hb
    have fin : ∀ r : List UInt8, r.length ≤ 140737488355328 → ∀ S' w', V (fun _ => none) S' w' (.str r) (.string ⟨r.toArray⟩) := fun r hr S' w' => .str _ _ (by simp) (by rw [maxLen_eq]; omega)
    rcases ha.slR with ⟨h0, ao, rfl⟩ | ⟨b, o, cap, f, rfl, hst, hl, hm, hz, hc, hv'⟩
    · obtain rfl : l = [] := List.length_eq_zero_iff.1 h0
      refine (Any.strings_Join_none Tryz.laysJoin Tryz.extra ao 0 sb w).mono ?_
      rintro e w' ⟨rfl, rfl⟩
      exact ⟨_, rfl, fin [] (by simp), Below.refl _ _⟩
    · have hstr : ∀ (j : Nat), j < l.length → ∃ s : ByteArray, f j 0 = .string s ∧ s.data.toList = l.getD j [] := fun j hj => by
        obtain ⟨s, h1, h3, _⟩ := V.strR' (hv' j 0 _ hj rfl)
        exact ⟨s, h1, h3⟩
      have hxs : ∃ xs : List ByteArray, xs.map (·.data.toList) = l ∧ ∀ (j : Nat) x, xs[j]? = some x → w.cell? ⟨b, o + j, none⟩ = some (.string x) := by
        refine ⟨l.map fun s => ⟨s.toArray⟩, by simp [Function.comp_def], fun j x hx => ?_⟩
        rw [List.getElem?_map] at hx
        cases hj : l[j]? with
        | none => rw [hj] at hx; cases hx
        | some s =>
          rw [hj] at hx
          cases hx
          have hlt : j < l.length := (List.getElem?_eq_some_iff.1 hj).1
          obtain ⟨s', h1, h3⟩ := hstr j hlt
          have := hc j 0 hlt (by omega)
          rw [Nat.mul_one, Nat.add_zero] at this
          rw [this, h1]
          have e : l.getD j [] = s := by rw [List.getD_eq_getElem?_getD, hj]; rfl
          rw [e] at h3
          rw [← h3]
      obtain ⟨xs, hx1, hx2⟩ := hxs
      have hxl : xs.length = l.length := by rw [← hx1]; simp
      by_cases h0 : l.length = 0
      · obtain rfl : l = [] := List.length_eq_zero_iff.1 h0
        refine (Any.strings_Join_none Tryz.laysJoin Tryz.extra (some ⟨b, o, none⟩) cap sb w).mono ?_
        rintro e w' ⟨rfl, rfl⟩
        exact ⟨_, rfl, fin [] (by simp), Below.refl _ _⟩
      · have := Any.strings_Join Tryz.laysJoin Tryz.extra b o cap xs sb w hx2 (hst (by omega)).2 (by omega) (by omega) (by rw [hx1, hsb]; exact hpre)
        rw [hx1, hsb, hxl] at this
        refine this.mono ?_
        rintro e w' ⟨rfl, hb⟩
        exact ⟨_, rfl, fin _ hpre, hb⟩
  | [], hv => simp [VL] at hv
  | [_], hv => simp [VL] at hv
  | _ :: _ :: _ :: _, hv => have := hv.1; simp at this
end Go.Vc

/- strconv.Itoa, strconv.FormatInt, out of the kit's shelf; the tables that the library lays. -/
namespace Go.Vc
open Go Go.Proofs Go.RowKit Go.Sort

theorem below_grow {w : World} (k : Nat) (os : Array Obj) : Below w.heap.size w (grow (w.drewN k) os) := by
  refine ⟨rfl, rfl, rfl, ?_, fun b hb => ?_⟩
  · show w.heap.size ≤ (w.heap ++ os).size
    simp
  · show (w.heap ++ os)[b]? = w.heap[b]?
    rw [Array.getElem?_append_left hb]

def pcItoa : PC := PC.of (fun n : Int => [.int .i64 n]) (fun _ => True) (fun n => .str (Lib.itoa n))
theorem nDigits_lt : ∀ (k u : Nat), u < 10 ^ (k + 1) → Lib.nDigits u ≤ k + 1
  | 0, u, h => by rw [Lib.nDigits_small (by simpa using h)]; omega
  | k + 1, u, h => by
    by_cases h1 : u < 10
    · rw [Lib.nDigits_small h1]; omega
    · rw [Lib.nDigits_big h1]
      have := nDigits_lt k (u / 10) (by rw [Nat.pow_succ] at h; omega)
      omega
theorem dec_len {u : Nat} (h : u < 10000000000000000000000000000000) : (Lib.decDigits u).length ≤ 31 := by
  rw [Lib.decDigits_length]
  exact nDigits_lt 30 u h
theorem itoa_len (n : Int) (h0 : -9223372036854775808 ≤ n) (h1 : n ≤ 9223372036854775807) : (Lib.itoa n).length ≤ 32 := by
  unfold Lib.itoa
  split
  · have := dec_len (u := n.natAbs) (by omega)
    simp; omega
  · have := dec_len (u := n.toNat) (by omega)
    omega
theorem goodItoa {W : World} (hW : Tabs W) : GoodP (Fw W) Tryz.prog 111 pcItoa := by
  refine goodP_below (fun _ => rfl) (fun _ => rfl) ?_
  intro n S w vs _ hf hs hv
  obtain ⟨vs⟩ := vs
  match vs, hv with
  | [a], hv =>
    obtain ⟨rfl, hn⟩ := (hv.2 0 _ _ rfl rfl).intR
    obtain ⟨h0, h1⟩ := hn
    refine (Any.strconv_Itoa Tryz.laysItoa n h0 h1 w (hW.pow hs)).mono ?_
    rintro e w' ⟨rfl, k, os, rfl⟩
    exact ⟨_, rfl, fun S' w' => .str _ _ (by simp) (by rw [maxLen_eq]; have := itoa_len n h0 h1; omega), below_grow k os⟩
  | [], hv => simp [VL] at hv
  | _ :: _ :: _, hv => have := hv.1; simp at this

def pcFormatInt : PC := PC.of (fun n : Int => [.int .i64 n, .int .i64 10]) (fun _ => True) (fun n => .str (Lib.itoa n))
theorem goodFormatInt {W : World} (hW : Tabs W) : GoodP (Fw W) Tryz.prog 114 pcFormatInt := by
  refine goodP_below (fun _ => rfl) (fun _ => rfl) ?_
  intro n S w vs _ hf hs hv
  obtain ⟨vs⟩ := vs
  match vs, hv with
  | [a, b], hv =>
    obtain ⟨rfl, hn⟩ := (hv.2 0 _ _ rfl rfl).intR
    obtain ⟨rfl, _⟩ := (hv.2 1 _ _ rfl rfl).intR
    obtain ⟨h0, h1⟩ := hn
    refine (Any.strconv_FormatInt_10 Tryz.laysFormatInt n h0 h1 w (hW.pow hs)).mono ?_
    rintro e w' ⟨rfl, k, os, rfl⟩
    exact ⟨_, rfl, fun S' w' => .str _ _ (by simp) (by rw [maxLen_eq]; have := itoa_len n h0 h1; omega), below_grow k os⟩
  | [], hv => simp [VL] at hv
  | [_], hv => simp [VL] at hv
  | _ :: _ :: _ :: _, hv => have := hv.1; simp at this
end Go.Vc

/- internal/strconv.formatBase10 into one's own row. -/
namespace Go.Vc
open Go Go.Proofs Go.RowKit Go.Sort

def kBase10 : Ctr := fun cs H Q => match cs with
  | [.osl id sz off len _, .int .u64 u] => (match H[id]? with
    | some (.row sz' L get T) => (sz = 1 ∧ sz' = 1 ∧ off + len ≤ L ∧ 0 < len ∧ len ≤ 100 ∧ 0 ≤ u ∧ u.toNat < 10 ^ len ∧ u.toNat < 18446744073709551616 ∧ ∃ bs : Nat → UInt8, ∀ e, e < len → get (off + e) = [.int .u8 (bs e).toNat]) ∧
        Q (.tup []) (H.set id (.row 1 L (fun e => if off ≤ e ∧ e < off + len then [.int .u8 (Lib.dg u.toNat (len - 1 - (e - off))).toNat] else get e) T))
    | _ => False)
  | _ => False

theorem onCells_cells (f : Array Value → Array Value) (c : Array Value) (e : TypeId) (fr : Nat × Nat) : onCells f (.cells c e fr) = .cells (f c) e fr := rfl


theorem goodBase10 {F : Nat → Obj → Prop} : Good F Tryz.prog 205 kBase10 := by
  intro ρ S w H cs vs Q hs hH hv hK
  unfold kBase10 at hK
  split at hK
  · rename_i id sz off len cap u
    split at hK
    · rename_i sz' L get T0 hcs
      obtain ⟨⟨rfl, rfl, hL, h0, h100, hu0, hu, hu64, bs, hbs⟩, hQ⟩ := hK
      obtain ⟨vs⟩ := vs
      match vs, hv with
      | [a, b], hv =>
        obtain ⟨b, o, cp, rfl, hb, hl, hm, ho, ⟨arr, T, fr, h1, h2⟩, _⟩ := (hv.2 0 _ _ rfl rfl).oslR
        obtain ⟨rfl, hk⟩ := (hv.2 1 _ _ rfl rfl).intR
        obtain ⟨hns, arr', T', fr', h3, h4, h5, h6, h7⟩ := hH.blk _ _ hcs b hb
        rw [h1] at h3
        cases h3
        have ho' := ho (by omega)
        rw [Nat.mul_one] at ho'
        subst ho'
        have hcell : ∀ e, e < len → arr[o + e]? = some (.int .u8 (bs e).toNat) := fun e he => by
          have hlt : o + e < arr.size := by omega
          have := h7 (o + e) 0 (.int .u8 (bs e).toNat) arr[o + e] (by omega) (by rw [hbs e he]; rfl) (by simp [hlt])
          have e1 := (this.intR).1
          simp [hlt, e1]
        let d : Array UInt8 := ((List.range len).map bs).toArray
        have hd : d.size = len := by simp [d]
        have hdj : ∀ j, j < len → d[j]! = bs j := fun j hj => by rw [getElem!_pos _ j (by omega)]; simp [d]
        have hHolds : Holds (fun (b : UInt8) => Value.int .u8 (b.toNat : Int)) w b o d := by
          intro j hj
          rw [hd] at hj
          refine ⟨?_, h5 _ (by omega)⟩
          simp only [World.cell?, h1]
          rw [hdj j hj]
          exact hcell j hj
        have call := Any.internal_strconv_formatBase10 Tryz.laysBase10 b o cp u.toNat d w hHolds (by rw [hd]; exact hu) hu64 (by rw [hd]; omega)
        rw [hd, show ((u.toNat : Nat) : Int) = u by omega] at call
        refine call.mono ?_
        rintro e w' ⟨rfl, n, v', dk, rfl, hinv⟩
        have hdk : dk.size = len := by rw [hinv.size]
        have hheap : ∀ k, ((putRow (fun (b : UInt8) => Value.int .u8 (b.toNat : Int)) w b o dk).drewN n).heap[k]? = if b = k then (w.heap[k]?).map (onCells (putCells (fun (b : UInt8) => Value.int .u8 (b.toNat : Int)) o dk)) else w.heap[k]? := fun k => by
          show (w.heap.modify b _)[k]? = _
          rw [Array.getElem?_modify]
        have hsz : ((putRow (fun (b : UInt8) => Value.int .u8 (b.toNat : Int)) w b o dk).drewN n).heap.size = w.heap.size := by
          show (w.heap.modify b _).size = _
          simp
        have hnew : ((putRow (fun (b : UInt8) => Value.int .u8 (b.toNat : Int)) w b o dk).drewN n).heap[b]? = some (.cells (putCells (fun (b : UInt8) => Value.int .u8 (b.toNat : Int)) o dk arr) (tyOr T0 T') fr) := by
          rw [hheap, if_pos rfl, h1]; rfl
        have hE : Ext ρ S w ρ S ((putRow (fun (b : UInt8) => Value.int .u8 (b.toNat : Int)) w b o dk).drewN n) :=
          ext_upd hH hb hns hsz (fun k hk => by rw [hheap, if_neg (Ne.symm hk)]) (fun arr2 T2 fr2 h => by rw [h1] at h; cases h; exact ⟨_, _, hnew, by simp [putCells]⟩) rfl rfl rfl
        refine ⟨_, .tup [], _, ρ, S, rfl, hQ, .tup _ _ rfl (fun i c v hc => by simp at hc), hrel_upd hH hcs rfl hb hE hsz (fun k hk => by rw [hheap, if_neg (Ne.symm hk)]) ?_, hE, hs.still hE⟩
        intro b' hb'
        rw [hb] at hb'
        cases hb'
        refine ⟨hns, _, T', fr, hnew, by simpa [putCells] using h4, fun o' ho' => ?_, fun e he => ?_, fun e j c v he hc hv => ?_⟩
        · have : o' < arr.size := by simpa [putCells] using ho'
          have h8 := h5 o' this
          simp only [World.frozen?, h1] at h8
          simp only [World.frozen?, hnew]
          exact h8
        · show (if o ≤ e ∧ e < o + len then _ else get e).length = 1
          split
          · rfl
          · exact h6 e he
        · have hc' : (if o ≤ e ∧ e < o + len then [AV.int .u8 (Lib.dg u.toNat (len - 1 - (e - o))).toNat] else get e)[j]? = some c := hc
          have hlt : e < arr.size := by omega
          by_cases hin : o ≤ e ∧ e < o + len
          · rw [if_pos hin] at hc'
            have hj : j = 0 := by
              cases j with
              | zero => rfl
              | succ j => simp at hc'
            subst hj
            simp at hc'
            subst hc'
            have hv' : v = .int .u8 (dk[e - o]!).toNat := by
              rw [Nat.mul_one, Nat.add_zero] at hv
              simp [putCells, hlt, hdk, hin] at hv
              exact hv.symm
            rw [hv', hinv.done (e - o) (Nat.zero_le _) (by omega)]
            exact V.int' (by have := (Lib.dg u.toNat (len - 1 - (e - o))).toNat_lt; simp only [inK, Go.Vc.lo, Go.Vc.hi]; omega)
          · rw [if_neg hin] at hc'
            refine (h7 e j c v he hc' ?_).mono hE
            have hj : j = 0 := by
              cases j with
              | zero => rfl
              | succ j => rw [List.getElem?_eq_none (by rw [h6 e he]; omega)] at hc'; cases hc'
            subst hj
            rw [Nat.mul_one, Nat.add_zero] at hv ⊢
            simp [putCells, hlt, hdk] at hv
            rw [if_neg (by omega)] at hv
            simp [hlt]
            exact hv
      | [], hv => simp [VL] at hv
      | [_], hv => simp [VL] at hv
      | _ :: _ :: _ :: _, hv => have := hv.1; simp at this
    · exact hK.elim
  · exact hK.elim
end Go.Vc

/- strconv.FormatUint. -/
namespace Go.Vc
open Go Go.Proofs Go.RowKit Go.Sort

def pcSmall : PC := PC.of (fun n : Int => [.int .i64 n]) (fun n => 0 ≤ n ∧ n < 100) (fun n => .str (Lib.decDigits n.toNat))
theorem goodSmall {F : Nat → Obj → Prop} : GoodP F Tryz.prog 203 pcSmall := by
  refine goodP_below (fun _ => rfl) (fun _ => rfl) ?_
  rintro n S w vs ⟨h0, h1⟩ hf hs hv
  obtain ⟨vs⟩ := vs
  match vs, hv with
  | [a], hv =>
    obtain ⟨rfl, _⟩ := (hv.2 0 _ _ rfl rfl).intR
    have := Any.internal_strconv_small Tryz.laysSmall n.toNat (by omega) w
    rw [show ((n.toNat : Nat) : Int) = n by omega] at this
    refine this.mono ?_
    rintro e w' ⟨rfl, rfl⟩
    exact ⟨_, rfl, fun S' w' => .str _ _ (by simp) (by rw [maxLen_eq]; have := dec_len (u := n.toNat) (by omega); omega), Below.refl _ _⟩
  | [], hv => simp [VL] at hv
  | _ :: _ :: _, hv => have := hv.1; simp at this
def pcNumDigits : PC := PC.of (fun u : Int => [.int .u64 u]) (fun u => 1 ≤ u) (fun u => .int .i64 (Lib.nDigits u.toNat))
theorem nDigits_20 {u : Nat} (h : u < 18446744073709551616) : Lib.nDigits u ≤ 20 := nDigits_lt 19 u (by omega)
theorem goodNumDigits {W : World} (hW : Tabs W) : GoodP (Fw W) Tryz.prog 204 pcNumDigits := by
  refine goodP_below (fun _ => rfl) (fun _ => rfl) ?_
  rintro u S w vs h1 hf hs hv
  obtain ⟨vs⟩ := vs
  match vs, hv with
  | [a], hv =>
    obtain ⟨rfl, h0, h2⟩ := (hv.2 0 _ _ rfl rfl).intR
    simp only [Go.Vc.lo, Go.Vc.hi] at h0 h2
    have := Any.internal_strconv_numDigits Tryz.laysNumDigits u.toNat (by omega) (by omega) w (hW.pow hs)
    rw [show ((u.toNat : Nat) : Int) = u by omega] at this
    refine this.mono ?_
    rintro e w' ⟨rfl, rfl⟩
    exact ⟨_, rfl, fun S' w' => V.int' (by have := nDigits_20 (u := u.toNat) (by omega); simp only [inK, Go.Vc.lo, Go.Vc.hi]; omega), Below.refl _ _⟩
  | [], hv => simp [VL] at hv
  | _ :: _ :: _, hv => have := hv.1; simp at this
end Go.Vc
namespace Go.Vc.Z
open Go Go.Vc Go.Proofs Go.RowKit
set_option maxRecDepth 100000
attribute [local irreducible] inK
theorem zero24 : ∀ e : Nat, e < 24 → ((List.drop (0 + e * 1) [AV.int IntKind.u8 0, AV.int IntKind.u8 0, AV.int IntKind.u8 0, AV.int IntKind.u8 0, AV.int IntKind.u8 0, AV.int IntKind.u8 0, AV.int IntKind.u8 0, AV.int IntKind.u8 0, AV.int IntKind.u8 0, AV.int IntKind.u8 0, AV.int IntKind.u8 0, AV.int IntKind.u8 0, AV.int IntKind.u8 0, AV.int IntKind.u8 0, AV.int IntKind.u8 0, AV.int IntKind.u8 0, AV.int IntKind.u8 0, AV.int IntKind.u8 0, AV.int IntKind.u8 0, AV.int IntKind.u8 0, AV.int IntKind.u8 0, AV.int IntKind.u8 0, AV.int IntKind.u8 0, AV.int IntKind.u8 0]).take 1) = [.int .u8 ((0 : UInt8)).toNat] := by
  intro e he
  rw [Nat.zero_add, Nat.mul_one]
  match e, he with
  | 0, _ => rfl | 1, _ => rfl | 2, _ => rfl | 3, _ => rfl | 4, _ => rfl | 5, _ => rfl | 6, _ => rfl | 7, _ => rfl | 8, _ => rfl | 9, _ => rfl | 10, _ => rfl | 11, _ => rfl
  | 12, _ => rfl | 13, _ => rfl | 14, _ => rfl | 15, _ => rfl | 16, _ => rfl | 17, _ => rfl | 18, _ => rfl | 19, _ => rfl | 20, _ => rfl | 21, _ => rfl | 22, _ => rfl | 23, _ => rfl
  | e + 24, he => exact absurd he (by omega)
def pcFormatUint0 : PC := PC.of (fun u : Int => [.int .u64 u, .int .i64 10]) (fun _ => True) (fun u => .str (Lib.decDigits u.toNat))
theorem goodFormatUint0 {W : World} (hW : Tabs W) : GoodP (Fw W) Tryz.prog 128 pcFormatUint0 := by
  have hD : PTOk (Fw W) Tryz.prog (tabD [(203, pcSmall), (204, pcNumDigits)]) := tabD_cons Tryz.call203 goodSmall (tabD_cons Tryz.call204 (goodNumDigits hW) tabD_nil)
  refine goodP_of (D := tabD [(203, pcSmall), (204, pcNumDigits)]) (C := tabC (tabD [(203, pcSmall), (204, pcNumDigits)]) [(205, kBase10)]) (wr := fun _ => false) rfl tyOk hD (tabC_cons Tryz.call205 goodBase10 (tabC_nil hD)) Tryz.func128 (fun _ _ => none) (fun _ => rfl) (fun u hf _ => ?_)
  simp only [factL, factA, inK_def, Go.Vc.lo, Go.Vc.hi, and_true] at hf
  conv => whnf
  split <;> conv => whnf
  · rename_i h
    have h : u < 100 := by simpa [ltI_eq] using h
    refine ⟨inK_def.2 (by simp only [Go.Vc.lo, Go.Vc.hi]; omega), ?_⟩
    conv => whnf
    refine ⟨u, ⟨by omega, h⟩, ⟨⟨rfl, rfl⟩, trivial⟩, ?_⟩
    conv => whnf
  · rename_i h
    have h : ¬ u < 100 := by simpa [ltI_eq] using h
    have h20 := nDigits_20 (u := u.toNat) (by omega)
    have hpos : 1 ≤ Lib.nDigits u.toNat := by rw [Lib.nDigits]; split <;> omega
    refine ⟨u, show 1 ≤ u by omega, ⟨⟨rfl, rfl⟩, trivial⟩, ?_⟩
    conv => whnf
    refine ⟨by omega, ?_⟩
    conv => whnf
    refine ⟨by omega, ?_⟩
    conv => whnf
    have hlt : u.toNat < 10 ^ Lib.nDigits u.toNat := Lib.lt_pow_nDigits u.toNat
    have hn : ((Lib.nDigits u.toNat : Int)).toNat - 0 = Lib.nDigits u.toNat := by omega
    refine ⟨⟨rfl, rfl, by omega, by omega, by omega, by omega, by rw [hn]; exact hlt, by omega, ⟨fun _ => 0, fun e he => ?_⟩⟩, ?_⟩
    · have he : e < 24 := by omega
      exact zero24 e he
    conv => whnf
    refine ⟨by omega, ?_⟩
    conv => whnf
    refine ⟨by omega, ?_⟩
    conv => whnf
    refine ⟨by omega, ?_⟩
    conv => whnf
    refine ⟨fun e he => ?_, ?_⟩
    · have : 0 ≤ 0 + e ∧ 0 + e < 0 + ((Lib.nDigits u.toNat : Int).toNat - 0) := by omega
      simp only [this, and_self, if_true]
      rfl
    conv => whnf
    show bytesOf _ _ = _
    rw [Lib.decDigits_eq]
    unfold bytesOf
    rw [hn]
    refine List.map_congr_left fun e he => ?_
    have he : e < Lib.nDigits u.toNat := List.mem_range.1 he
    have : 0 ≤ 0 + e ∧ 0 + e < 0 + Lib.nDigits u.toNat := by omega
    simp only [this, and_self, if_true]
    show UInt8.ofNat ((Lib.dg u.toNat (Lib.nDigits u.toNat - 1 - (0 + e - 0))).toNat : Int).toNat = _
    rw [Int.toNat_natCast, UInt8.ofNat_toNat]
    congr 1; omega
end Go.Vc.Z
namespace Go.Vc.Z
open Go Go.Vc Go.Proofs Go.RowKit
set_option maxRecDepth 100000
attribute [local irreducible] inK
theorem goodFormatUint {W : World} (hW : Tabs W) : GoodP (Fw W) Tryz.prog 55 pcFormatUint0 := by
  have hD : PTOk (Fw W) Tryz.prog (tabD [(128, pcFormatUint0)]) := tabD_cons Tryz.call128 (goodFormatUint0 hW) tabD_nil
  refine goodP_of (D := tabD [(128, pcFormatUint0)]) (C := tabC (tabD [(128, pcFormatUint0)]) []) (wr := fun _ => false) rfl tyOk hD (tabC_nil hD) Tryz.func55 (fun _ _ => none) (fun _ => rfl) (fun u hf _ => ?_)
  conv => whnf
  refine ⟨u, trivial, ⟨⟨rfl, rfl⟩, ⟨rfl, rfl⟩, trivial⟩, ?_⟩
  conv => whnf
end Go.Vc.Z
