/- Parts of tickets. -/
import Derived.Test.YtpmpclbdnakniaaGreatDoorV5
set_option linter.all false
set_option linter.unusedVariables false
set_option linter.unusedSimpArgs false
namespace Go.Vc.Z
open Go Go.Vc Go.Proofs Go.RowKit Go.Pl Go.Lib
noncomputable section
set_option maxRecDepth 100000
set_option linter.unusedSimpArgs false
set_option linter.unusedVariables false
attribute [local irreducible] inK Utf8.decode Utf8.encode Lib.itoa Pl.worth Pl.allDig
@[irreducible] def dayB (n : Int) : Bool := decide (0 ≤ n) && decide (n ≤ 1000000)
@[irreducible] def moneyB (n : Int) : Bool := decide (-1000000000000 ≤ n) && decide (n ≤ 1000000000000)
@[irreducible] def someB (n : Int) : Bool := decide (0 ≤ n) && decide (n ≤ 1000000000000)
@[irreducible] def numdB (n : Int) : Bool := decide (checkN n = 0)
@[irreducible] def otherB (num n : Int) : Bool := numdB n && decide (n ≠ num)
def pcDay : PC := PC.fun fun | [.int .i64 n] => some (True, .bool (sB (dayB n))) | _ => none
def pcMoney : PC := PC.fun fun | [.int .i64 n] => some (True, .bool (sB (moneyB n))) | _ => none
def pcSome : PC := PC.fun fun | [.int .i64 n] => some (True, .bool (sB (someB n))) | _ => none
def pcNumd : PC := PC.fun fun | [.int .u64 n] => some (True, .bool (sB (numdB n))) | _ => none
def pcOther : PC := PC.fun fun | [.agg [.int .u64 num, .str loc, .int .i64 iss, .sl false 6 n1 g1, .sl false 2 n2 g2, .int .u64 prev, .int .u64 orig, .int .u64 frst, .int .i64 vou, .int .i64 posts, .sl false 4 n3 g3], .int .u64 n] => some (True, .bool (sB (otherB num n))) | _ => none
def D_ticket_day : PT := tabD []
def C_ticket_day : FuncId → Option Ctr := tabC D_ticket_day []
theorem g_ticket_day {W : World} (hW : Tabs W) : GoodP (Fw W) Tryz.prog 196 pcDay := by
  have hD : PTOk (Fw W) Tryz.prog D_ticket_day := tabD_nil
  have hC0 : CtrOk (Fw W) Tryz.prog C_ticket_day := (tabC_nil hD)
  refine goodP_fun (D := D_ticket_day) (C := C_ticket_day) (wr := (fun _ => false)) rfl tyOk hD hC0 Tryz.func196 (fun _ _ => none) ?_
  clear hC0 hD hW
  intro cs p r h hf hp
  split at h
  case h_2 => cases h
  rename_i n
  cases h
  try simp only [factL, factA, inK_def, Go.Vc.lo, Go.Vc.hi, and_true] at hf
  (conv => whnf)
  (repeat' ((first
    | (split <;> rename_i hh <;> (try simp only [wS] at hh) <;> (try simp (disch := omega) only [Int.tdiv_eq_ediv_of_nonneg, Int.tmod_eq_emod_of_nonneg] at hh))
    | fail) <;> (conv => whnf)))
  all_goals (try (show _ = _; simp only [wQ]))
  all_goals (try simp (disch := omega) only [Int.tdiv_eq_ediv_of_nonneg, Int.tmod_eq_emod_of_nonneg]); all_goals (first | (simp_all [sI_eq, sB_eq, sS_eq, ltI_eq, leI_eq, eqI_eq, dayB]; done) | (simp_all [sI_eq, sB_eq, sS_eq, ltI_eq, leI_eq, eqI_eq, dayB]; omega))
def D_couponref13_day : PT := tabD []
def C_couponref13_day : FuncId → Option Ctr := tabC D_couponref13_day []
theorem g_couponref13_day {W : World} (hW : Tabs W) : GoodP (Fw W) Tryz.prog 65 pcDay := by
  have hD : PTOk (Fw W) Tryz.prog D_couponref13_day := tabD_nil
  have hC0 : CtrOk (Fw W) Tryz.prog C_couponref13_day := (tabC_nil hD)
  refine goodP_fun (D := D_couponref13_day) (C := C_couponref13_day) (wr := (fun _ => false)) rfl tyOk hD hC0 Tryz.func65 (fun _ _ => none) ?_
  clear hC0 hD hW
  intro cs p r h hf hp
  split at h
  case h_2 => cases h
  rename_i n
  cases h
  try simp only [factL, factA, inK_def, Go.Vc.lo, Go.Vc.hi, and_true] at hf
  (conv => whnf)
  (repeat' ((first
    | (split <;> rename_i hh <;> (try simp only [wS] at hh) <;> (try simp (disch := omega) only [Int.tdiv_eq_ediv_of_nonneg, Int.tmod_eq_emod_of_nonneg] at hh))
    | fail) <;> (conv => whnf)))
  all_goals (try (show _ = _; simp only [wQ]))
  all_goals (try simp (disch := omega) only [Int.tdiv_eq_ediv_of_nonneg, Int.tmod_eq_emod_of_nonneg]); all_goals (first | (simp_all [sI_eq, sB_eq, sS_eq, ltI_eq, leI_eq, eqI_eq, dayB]; done) | (simp_all [sI_eq, sB_eq, sS_eq, ltI_eq, leI_eq, eqI_eq, dayB]; omega))
def D_couponref16_day : PT := tabD []
def C_couponref16_day : FuncId → Option Ctr := tabC D_couponref16_day []
theorem g_couponref16_day {W : World} (hW : Tabs W) : GoodP (Fw W) Tryz.prog 138 pcDay := by
  have hD : PTOk (Fw W) Tryz.prog D_couponref16_day := tabD_nil
  have hC0 : CtrOk (Fw W) Tryz.prog C_couponref16_day := (tabC_nil hD)
  refine goodP_fun (D := D_couponref16_day) (C := C_couponref16_day) (wr := (fun _ => false)) rfl tyOk hD hC0 Tryz.func138 (fun _ _ => none) ?_
  clear hC0 hD hW
  intro cs p r h hf hp
  split at h
  case h_2 => cases h
  rename_i n
  cases h
  try simp only [factL, factA, inK_def, Go.Vc.lo, Go.Vc.hi, and_true] at hf
  (conv => whnf)
  (repeat' ((first
    | (split <;> rename_i hh <;> (try simp only [wS] at hh) <;> (try simp (disch := omega) only [Int.tdiv_eq_ediv_of_nonneg, Int.tmod_eq_emod_of_nonneg] at hh))
    | fail) <;> (conv => whnf)))
  all_goals (try (show _ = _; simp only [wQ]))
  all_goals (try simp (disch := omega) only [Int.tdiv_eq_ediv_of_nonneg, Int.tmod_eq_emod_of_nonneg]); all_goals (first | (simp_all [sI_eq, sB_eq, sS_eq, ltI_eq, leI_eq, eqI_eq, dayB]; done) | (simp_all [sI_eq, sB_eq, sS_eq, ltI_eq, leI_eq, eqI_eq, dayB]; omega))
def D_fare_May : PT := tabD []
def C_fare_May : FuncId → Option Ctr := tabC D_fare_May []
theorem g_fare_May {W : World} (hW : Tabs W) : GoodP (Fw W) Tryz.prog 207 pcMoney := by
  have hD : PTOk (Fw W) Tryz.prog D_fare_May := tabD_nil
  have hC0 : CtrOk (Fw W) Tryz.prog C_fare_May := (tabC_nil hD)
  refine goodP_fun (D := D_fare_May) (C := C_fare_May) (wr := (fun _ => false)) rfl tyOk hD hC0 Tryz.func207 (fun _ _ => none) ?_
  clear hC0 hD hW
  intro cs p r h hf hp
  split at h
  case h_2 => cases h
  rename_i n
  cases h
  try simp only [factL, factA, inK_def, Go.Vc.lo, Go.Vc.hi, and_true] at hf
  (conv => whnf)
  (repeat' ((first
    | (split <;> rename_i hh <;> (try simp only [wS] at hh) <;> (try simp (disch := omega) only [Int.tdiv_eq_ediv_of_nonneg, Int.tmod_eq_emod_of_nonneg] at hh))
    | fail) <;> (conv => whnf)))
  all_goals (try (show _ = _; simp only [wQ]))
  all_goals (try simp (disch := omega) only [Int.tdiv_eq_ediv_of_nonneg, Int.tmod_eq_emod_of_nonneg]); all_goals (first | (simp_all [sI_eq, sB_eq, sS_eq, ltI_eq, leI_eq, eqI_eq, moneyB]; done) | (simp_all [sI_eq, sB_eq, sS_eq, ltI_eq, leI_eq, eqI_eq, moneyB]; omega))
def D_ticket_some : PT := tabD [(207, pcMoney)]
def C_ticket_some : FuncId → Option Ctr := tabC D_ticket_some []
theorem g_ticket_some {W : World} (hW : Tabs W) : GoodP (Fw W) Tryz.prog 197 pcSome := by
  have hD : PTOk (Fw W) Tryz.prog D_ticket_some := (tabD_cons Tryz.call207 (g_fare_May hW) tabD_nil)
  have hC0 : CtrOk (Fw W) Tryz.prog C_ticket_some := (tabC_nil hD)
  refine goodP_fun (D := D_ticket_some) (C := C_ticket_some) (wr := (fun _ => false)) rfl tyOk hD hC0 Tryz.func197 (fun _ _ => none) ?_
  clear hC0 hD hW
  intro cs p r h hf hp
  split at h
  case h_2 => cases h
  rename_i n
  cases h
  try simp only [factL, factA, inK_def, Go.Vc.lo, Go.Vc.hi, and_true] at hf
  (conv => whnf)
  (repeat' ((first
    | ((with_reducible refine And.intro ?_ ?_); focus (with_reducible exact True.intro))
    | (split <;> rename_i hh <;> (try simp only [wS] at hh) <;> (try simp (disch := omega) only [Int.tdiv_eq_ediv_of_nonneg, Int.tmod_eq_emod_of_nonneg] at hh))
    | fail) <;> (conv => whnf)))
  all_goals (try (show _ = _; simp only [wQ]))
  all_goals (try simp (disch := omega) only [Int.tdiv_eq_ediv_of_nonneg, Int.tmod_eq_emod_of_nonneg]); all_goals (first | (simp_all [sI_eq, sB_eq, sS_eq, ltI_eq, leI_eq, eqI_eq, moneyB, someB]; done) | (simp_all [sI_eq, sB_eq, sS_eq, ltI_eq, leI_eq, eqI_eq, moneyB, someB]; omega))
def D_couponref13_some : PT := tabD []
def C_couponref13_some : FuncId → Option Ctr := tabC D_couponref13_some []
theorem g_couponref13_some {W : World} (hW : Tabs W) : GoodP (Fw W) Tryz.prog 67 pcSome := by
  have hD : PTOk (Fw W) Tryz.prog D_couponref13_some := tabD_nil
  have hC0 : CtrOk (Fw W) Tryz.prog C_couponref13_some := (tabC_nil hD)
  refine goodP_fun (D := D_couponref13_some) (C := C_couponref13_some) (wr := (fun _ => false)) rfl tyOk hD hC0 Tryz.func67 (fun _ _ => none) ?_
  clear hC0 hD hW
  intro cs p r h hf hp
  split at h
  case h_2 => cases h
  rename_i n
  cases h
  try simp only [factL, factA, inK_def, Go.Vc.lo, Go.Vc.hi, and_true] at hf
  (conv => whnf)
  (repeat' ((first
    | (split <;> rename_i hh <;> (try simp only [wS] at hh) <;> (try simp (disch := omega) only [Int.tdiv_eq_ediv_of_nonneg, Int.tmod_eq_emod_of_nonneg] at hh))
    | fail) <;> (conv => whnf)))
  all_goals (try (show _ = _; simp only [wQ]))
  all_goals (try simp (disch := omega) only [Int.tdiv_eq_ediv_of_nonneg, Int.tmod_eq_emod_of_nonneg]); all_goals (first | (simp_all [sI_eq, sB_eq, sS_eq, ltI_eq, leI_eq, eqI_eq, someB]; done) | (simp_all [sI_eq, sB_eq, sS_eq, ltI_eq, leI_eq, eqI_eq, someB]; omega))
def D_couponref16_some : PT := tabD []
def C_couponref16_some : FuncId → Option Ctr := tabC D_couponref16_some []
theorem g_couponref16_some {W : World} (hW : Tabs W) : GoodP (Fw W) Tryz.prog 139 pcSome := by
  have hD : PTOk (Fw W) Tryz.prog D_couponref16_some := tabD_nil
  have hC0 : CtrOk (Fw W) Tryz.prog C_couponref16_some := (tabC_nil hD)
  refine goodP_fun (D := D_couponref16_some) (C := C_couponref16_some) (wr := (fun _ => false)) rfl tyOk hD hC0 Tryz.func139 (fun _ _ => none) ?_
  clear hC0 hD hW
  intro cs p r h hf hp
  split at h
  case h_2 => cases h
  rename_i n
  cases h
  try simp only [factL, factA, inK_def, Go.Vc.lo, Go.Vc.hi, and_true] at hf
  (conv => whnf)
  (repeat' ((first
    | (split <;> rename_i hh <;> (try simp only [wS] at hh) <;> (try simp (disch := omega) only [Int.tdiv_eq_ediv_of_nonneg, Int.tmod_eq_emod_of_nonneg] at hh))
    | fail) <;> (conv => whnf)))
  all_goals (try (show _ = _; simp only [wQ]))
  all_goals (try simp (disch := omega) only [Int.tdiv_eq_ediv_of_nonneg, Int.tmod_eq_emod_of_nonneg]); all_goals (first | (simp_all [sI_eq, sB_eq, sS_eq, ltI_eq, leI_eq, eqI_eq, someB]; done) | (simp_all [sI_eq, sB_eq, sS_eq, ltI_eq, leI_eq, eqI_eq, someB]; omega))
def D_ticket_numbered : PT := tabD [(127, pcCheck)]
def C_ticket_numbered : FuncId → Option Ctr := tabC D_ticket_numbered []
theorem g_ticket_numbered {W : World} (hW : Tabs W) : GoodP (Fw W) Tryz.prog 194 pcNumd := by
  have hD : PTOk (Fw W) Tryz.prog D_ticket_numbered := (tabD_cons Tryz.call127 (g_number_Check hW) tabD_nil)
  have hC0 : CtrOk (Fw W) Tryz.prog C_ticket_numbered := (tabC_nil hD)
  refine goodP_fun (D := D_ticket_numbered) (C := C_ticket_numbered) (wr := (fun _ => false)) rfl tyOk hD hC0 Tryz.func194 (fun _ _ => none) ?_
  clear hC0 hD hW
  intro cs p r h hf hp
  split at h
  case h_2 => cases h
  rename_i n
  cases h
  try simp only [factL, factA, inK_def, Go.Vc.lo, Go.Vc.hi, and_true] at hf
  (conv => whnf)
  (repeat' ((first
    | ((with_reducible refine And.intro ?_ ?_); focus (with_reducible exact True.intro))
    | fail) <;> (conv => whnf)))
  all_goals (try (show _ = _; simp only [wQ]))
  all_goals (try simp (disch := omega) only [Int.tdiv_eq_ediv_of_nonneg, Int.tmod_eq_emod_of_nonneg]); all_goals (first | (rw [Bool.eq_iff_iff]; simp [sI_eq, sB_eq, sS_eq, ltI_eq, leI_eq, eqI_eq, numdB]; done))
def D_couponref13_Numbered : PT := tabD [(135, pcCheck)]
def C_couponref13_Numbered : FuncId → Option Ctr := tabC D_couponref13_Numbered []
theorem g_couponref13_Numbered {W : World} (hW : Tabs W) : GoodP (Fw W) Tryz.prog 63 pcNumd := by
  have hD : PTOk (Fw W) Tryz.prog D_couponref13_Numbered := (tabD_cons Tryz.call135 (g_couponref10_Check hW) tabD_nil)
  have hC0 : CtrOk (Fw W) Tryz.prog C_couponref13_Numbered := (tabC_nil hD)
  refine goodP_fun (D := D_couponref13_Numbered) (C := C_couponref13_Numbered) (wr := (fun _ => false)) rfl tyOk hD hC0 Tryz.func63 (fun _ _ => none) ?_
  clear hC0 hD hW
  intro cs p r h hf hp
  split at h
  case h_2 => cases h
  rename_i n
  cases h
  try simp only [factL, factA, inK_def, Go.Vc.lo, Go.Vc.hi, and_true] at hf
  (conv => whnf)
  (repeat' ((first
    | ((with_reducible refine And.intro ?_ ?_); focus (with_reducible exact True.intro))
    | fail) <;> (conv => whnf)))
  all_goals (try (show _ = _; simp only [wQ]))
  all_goals (try simp (disch := omega) only [Int.tdiv_eq_ediv_of_nonneg, Int.tmod_eq_emod_of_nonneg]); all_goals (first | (rw [Bool.eq_iff_iff]; simp [sI_eq, sB_eq, sS_eq, ltI_eq, leI_eq, eqI_eq, numdB]; done))
def D_ticket_other : PT := tabD [(194, pcNumd)]
def C_ticket_other : FuncId → Option Ctr := tabC D_ticket_other []
theorem g_ticket_other {W : World} (hW : Tabs W) : GoodP (Fw W) Tryz.prog 193 pcOther := by
  have hD : PTOk (Fw W) Tryz.prog D_ticket_other := (tabD_cons Tryz.call194 (g_ticket_numbered hW) tabD_nil)
  have hC0 : CtrOk (Fw W) Tryz.prog C_ticket_other := (tabC_nil hD)
  refine goodP_fun (D := D_ticket_other) (C := C_ticket_other) (wr := (fun _ => false)) rfl tyOk hD hC0 Tryz.func193 (fun _ _ => none) ?_
  clear hC0 hD hW
  intro cs p r h hf hp
  split at h
  case h_2 => cases h
  rename_i num loc iss n1 g1 n2 g2 prev orig frst vou posts n3 g3 n
  cases h
  try simp only [factL, factA, inK_def, Go.Vc.lo, Go.Vc.hi, and_true] at hf
  (conv => whnf)
  (repeat' ((first
    | ((with_reducible refine And.intro ?_ ?_); focus (with_reducible exact True.intro))
    | (split <;> rename_i hh <;> (try simp only [wS] at hh) <;> (try simp (disch := omega) only [Int.tdiv_eq_ediv_of_nonneg, Int.tmod_eq_emod_of_nonneg] at hh))
    | fail) <;> (conv => whnf)))
  all_goals (try (show _ = _; simp only [wQ]))
  all_goals (try simp (disch := omega) only [Int.tdiv_eq_ediv_of_nonneg, Int.tmod_eq_emod_of_nonneg]); all_goals (first | (simp_all [sI_eq, sB_eq, sS_eq, ltI_eq, leI_eq, eqI_eq, otherB]; done) | (rw [Bool.eq_iff_iff]; simp_all [sI_eq, sB_eq, sS_eq, ltI_eq, leI_eq, eqI_eq, otherB]; done))
@[irreducible] def holderB (num n : Int) : Bool := decide (101 ≤ n) && decide (n ≤ 1000) && decide (n - 1 ≠ carrierN num)
def pcHolder : PC := PC.fun fun | [.agg [.int .u64 num, .str loc, .int .i64 iss, .sl false 6 n1 g1, .sl false 2 n2 g2, .int .u64 prev, .int .u64 orig, .int .u64 frst, .int .i64 vou, .int .i64 posts, .sl false 4 n3 g3], .int .u64 n] => some (n ≤ 9223372036854775807, .bool (sB (holderB num n))) | _ => none
theorem makeN_two (c : Int) : (makeN c 0).2 = if mayCar c = true then 0 else 2 := by
  unfold makeN
  have h : maySer 0 = true := by unfold maySer; rfl
  rw [h]
  by_cases hc : mayCar c = true
  · rw [if_pos ⟨hc, rfl⟩, if_pos hc]
  · rw [if_neg (fun h => hc h.1), if_neg hc]
theorem mayCar_iff (c : Int) : mayCar c = true ↔ 100 ≤ c ∧ c ≤ 999 := by unfold mayCar; simp
def D_ticket_holder : PT := tabD [(263, pcMake), (264, pcCarrier)]
def C_ticket_holder : FuncId → Option Ctr := tabC D_ticket_holder []
theorem g_ticket_holder {W : World} (hW : Tabs W) : GoodP (Fw W) Tryz.prog 199 pcHolder := by
  have hD : PTOk (Fw W) Tryz.prog D_ticket_holder := (tabD_cons Tryz.call263 (g_number_Make hW) (tabD_cons Tryz.call264 (g_number_Carrier hW) tabD_nil))
  have hC0 : CtrOk (Fw W) Tryz.prog C_ticket_holder := (tabC_nil hD)
  refine goodP_fun (D := D_ticket_holder) (C := C_ticket_holder) (wr := (fun _ => false)) rfl tyOk hD hC0 Tryz.func199 (fun _ _ => none) ?_
  clear hC0 hD hW
  intro cs p r h hf hp
  split at h
  case h_2 => cases h
  rename_i num loc iss n1 g1 n2 g2 prev orig frst vou posts n3 g3 n
  cases h
  try simp only [factL, factA, inK_def, Go.Vc.lo, Go.Vc.hi, and_true] at hf
  have hm := makeN_two ((if 1048576 < n then 1048576 else n) - 1)
  have hc := mayCar_iff ((if 1048576 < n then 1048576 else n) - 1)
  have hx : (makeN ((if 1048576 < n then 1048576 else n) - 1) 0).2 = 0 ↔ 101 ≤ n ∧ n ≤ 1000 := by
    rw [hm]
    by_cases h : mayCar ((if 1048576 < n then 1048576 else n) - 1) = true
    · rw [if_pos h]; have := hc.1 h; split at this <;> simp <;> omega
    · rw [if_neg h]
      constructor
      · intro h2; cases h2
      · intro h2; exact absurd (hc.2 (by rw [if_neg (by omega)]; omega)) h
  have hlo : (if 1048576 < n then (1048576 : Int) else n) = 1048576 ∨ (if 1048576 < n then (1048576 : Int) else n) = n := by split <;> simp
  have hb : ¬ (101 ≤ n ∧ n ≤ 1000) → holderB num n = false := fun h => by unfold holderB; simp; omega
  have hg : (101 ≤ n ∧ n ≤ 1000) → holderB num n = !eqI (n - 1) (carrierN num) := fun h => by
    unfold holderB; rw [eqI_eq, decide_eq_true h.1, decide_eq_true h.2, Bool.eq_iff_iff]; simp
  (conv => whnf)
  (repeat' ((first
    | ((with_reducible refine And.intro ?_ ?_); focus (first | with_reducible exact True.intro | (simp only [inK_def, Go.Vc.lo, Go.Vc.hi]; omega)))
    | (split <;> rename_i hh <;> (try simp only [wS] at hh) <;> (try simp (disch := omega) only [Int.tdiv_eq_ediv_of_nonneg, Int.tmod_eq_emod_of_nonneg] at hh))
    | fail) <;> (conv => whnf)))
  all_goals (try (show _ = _; simp only [wQ]))
  · rw [hg (hx.1 (by assumption))]; rfl
  · rw [hb (fun h => absurd (hx.2 h) (by assumption))]
@[irreducible] def mayCouponB (num f d v s h x : Int) : Bool :=
  decide (1 ≤ f) && decide (f ≤ 9999) && dayB d && someB v && mayS s && (if s = 9 then holderB num h else decide (h = 0)) && (if s = 5 then otherB num x else decide (x = 0))
def pcMayCoupon : PC := PC.fun fun | [.agg [.int .u64 num, .str loc, .int .i64 iss, .sl false 6 n1 g1, .sl false 2 n2 g2, .int .u64 prev, .int .u64 orig, .int .u64 frst, .int .i64 vou, .int .i64 posts, .sl false 4 n3 g3], .agg [.int .i64 f, .int .i64 d, .int .i64 v, .int .i64 s, .int .i64 h, .int .u64 x]] => some (True, .bool (sB (mayCouponB num f d v s h x))) | _ => none
def D_ticket_mayCoupon : PT := tabD [(199, pcHolder), (193, pcOther), (196, pcDay), (197, pcSome), (133, pcMayS)]
def C_ticket_mayCoupon : FuncId → Option Ctr := tabC D_ticket_mayCoupon []
theorem g_ticket_mayCoupon {W : World} (hW : Tabs W) : GoodP (Fw W) Tryz.prog 125 pcMayCoupon := by
  have hD : PTOk (Fw W) Tryz.prog D_ticket_mayCoupon := (tabD_cons Tryz.call199 (g_ticket_holder hW) (tabD_cons Tryz.call193 (g_ticket_other hW) (tabD_cons Tryz.call196 (g_ticket_day hW) (tabD_cons Tryz.call197 (g_ticket_some hW) (tabD_cons Tryz.call133 (g_status_May hW) tabD_nil)))))
  have hC0 : CtrOk (Fw W) Tryz.prog C_ticket_mayCoupon := (tabC_nil hD)
  refine goodP_fun (D := D_ticket_mayCoupon) (C := C_ticket_mayCoupon) (wr := (fun _ => false)) rfl tyOk hD hC0 Tryz.func125 (fun _ _ => none) ?_
  clear hC0 hD hW
  intro cs p r h hf hp
  split at h
  case h_2 => cases h
  rename_i num loc iss n1 g1 n2 g2 prev orig frst vou posts n3 g3 f d v s h x
  cases h
  try simp only [factL, factA, inK_def, Go.Vc.lo, Go.Vc.hi, and_true] at hf
  have h9 : h ≤ 0 → holderB num h = false := fun hh => by unfold holderB; simp; omega
  have hhb : -9223372036854775808 ≤ h ∧ h ≤ 9223372036854775807 := by omega
  clear hf
  (conv => whnf)
  (repeat' ((first
    | ((with_reducible refine And.intro ?_ ?_); focus (first | with_reducible exact True.intro | ((with_reducible show okB _ _ _ = true); rfl) | omega | (simp only [inK_def, Go.Vc.lo, Go.Vc.hi]; omega)))
    | (split <;> rename_i hh <;> (try simp only [wS] at hh) <;> (try simp (disch := omega) only [Int.tdiv_eq_ediv_of_nonneg, Int.tmod_eq_emod_of_nonneg] at hh))
    | fail) <;> (conv => whnf)))
  all_goals (try (show _ = _; simp only [wQ]))
  all_goals first | (simp_all [ltI_eq, leI_eq, eqI_eq, mayCouponB]; done) | (rw [Bool.eq_iff_iff]; simp_all [ltI_eq, leI_eq, eqI_eq, mayCouponB]; done) | (rw [Bool.eq_iff_iff]; simp_all [ltI_eq, leI_eq, eqI_eq, mayCouponB]; omega) | skip
/-- What a coupon of a status may have beside it. -/
@[irreducible] def withB (num s w : Int) : Bool := if s = 9 then holderB num w else if s = 5 then otherB num w else decide (w = 0)
def pcMayWith : PC := PC.fun fun | [.int .u64 num, .int .i64 s, .int .u64 w] => some (True, .bool (sB (withB num s w))) | _ => none
theorem carrierN_bound (n : Int) : 0 ≤ carrierN n ∧ carrierN n ≤ 999 := by
  unfold carrierN
  split
  · have := checkN_zero (by assumption); omega
  · omega
def D_couponref13_MayWith : PT := tabD [(210, pcParts), (63, pcNumd)]
def C_couponref13_MayWith : FuncId → Option Ctr := tabC D_couponref13_MayWith []
theorem g_couponref13_MayWith {W : World} (hW : Tabs W) : GoodP (Fw W) Tryz.prog 136 pcMayWith := by
  have hD : PTOk (Fw W) Tryz.prog D_couponref13_MayWith := (tabD_cons Tryz.call210 (g_couponref10_Parts hW) (tabD_cons Tryz.call63 (g_couponref13_Numbered hW) tabD_nil))
  have hC0 : CtrOk (Fw W) Tryz.prog C_couponref13_MayWith := (tabC_nil hD)
  refine goodP_fun (D := D_couponref13_MayWith) (C := C_couponref13_MayWith) (wr := (fun _ => false)) rfl tyOk hD hC0 Tryz.func136 (fun _ _ => none) ?_
  clear hC0 hD hW
  intro cs p r h hf hp
  split at h
  case h_2 => cases h
  rename_i num s w
  cases h
  try simp only [factL, factA, inK_def, Go.Vc.lo, Go.Vc.hi, and_true] at hf
  have hcb := carrierN_bound num
  have hsc := sI_eq (carrierN num)
  (conv => whnf)
  (repeat' ((first
    | ((with_reducible refine And.intro ?_ ?_); focus (first | with_reducible exact True.intro | (simp only [inK_def, Go.Vc.lo, Go.Vc.hi]; omega)))
    | (split <;> rename_i hh <;> (try simp only [wS] at hh) <;> (try simp (disch := omega) only [Int.tdiv_eq_ediv_of_nonneg, Int.tmod_eq_emod_of_nonneg] at hh))
    | fail) <;> (conv => whnf)))
  all_goals (try (show _ = _; simp only [wQ]))
  all_goals (try simp (disch := omega) only [Int.tdiv_eq_ediv_of_nonneg, Int.tmod_eq_emod_of_nonneg]); all_goals (first | (simp_all [sI_eq, sB_eq, sS_eq, ltI_eq, leI_eq, eqI_eq, withB, holderB, otherB]; done) | (simp_all [sI_eq, sB_eq, sS_eq, ltI_eq, leI_eq, eqI_eq, withB, holderB, otherB]; omega) | (rw [Bool.eq_iff_iff]; simp_all [sI_eq, sB_eq, sS_eq, ltI_eq, leI_eq, eqI_eq, withB, holderB, otherB]; done) | (rw [Bool.eq_iff_iff]; simp_all [sI_eq, sB_eq, sS_eq, ltI_eq, leI_eq, eqI_eq, withB, holderB, otherB]; omega))
def pcMayCouponR : PC := PC.fun fun | [.int .u64 num, .agg [.int .i64 f, .int .i64 d, .int .i64 v, .int .i64 s, .int .i64 h, .int .u64 x]] => some (True, .bool (sB (mayCouponB num f d v s h x))) | _ => none
def D_couponref13_mayCoupon : PT := tabD [(65, pcDay), (67, pcSome), (69, pcMayS), (136, pcMayWith)]
def C_couponref13_mayCoupon : FuncId → Option Ctr := tabC D_couponref13_mayCoupon []
theorem g_couponref13_mayCoupon {W : World} (hW : Tabs W) : GoodP (Fw W) Tryz.prog 66 pcMayCouponR := by
  have hD : PTOk (Fw W) Tryz.prog D_couponref13_mayCoupon := (tabD_cons Tryz.call65 (g_couponref13_day hW) (tabD_cons Tryz.call67 (g_couponref13_some hW) (tabD_cons Tryz.call69 (g_couponref12_May hW) (tabD_cons Tryz.call136 (g_couponref13_MayWith hW) tabD_nil))))
  have hC0 : CtrOk (Fw W) Tryz.prog C_couponref13_mayCoupon := (tabC_nil hD)
  refine goodP_fun (D := D_couponref13_mayCoupon) (C := C_couponref13_mayCoupon) (wr := (fun _ => false)) rfl tyOk hD hC0 Tryz.func66 (fun _ _ => none) ?_
  clear hC0 hD hW
  intro cs p r h hf hp
  split at h
  case h_2 => cases h
  rename_i num f d v s h x
  cases h
  try simp only [factL, factA, inK_def, Go.Vc.lo, Go.Vc.hi, and_true] at hf
  have h9 : h < 0 → holderB num h = false := fun hh => by unfold holderB; simp; omega
  have hhb : -9223372036854775808 ≤ h ∧ h ≤ 9223372036854775807 := by omega
  clear hf
  have hw9 : withB num 9 h = holderB num h := by unfold withB; rfl
  have hw5 : withB num 5 x = otherB num x := by unfold withB; rfl
  have hw : s ≠ 9 → s ≠ 5 → withB num s x = decide (x = 0) := fun h1 h2 => by unfold withB; rw [if_neg h1, if_neg h2]
  (conv => whnf)
  (repeat' ((first
    | ((with_reducible refine And.intro ?_ ?_); focus (first | with_reducible exact True.intro | omega | (simp only [inK_def, Go.Vc.lo, Go.Vc.hi]; omega)))
    | (split <;> rename_i hh <;> (try simp only [wS] at hh) <;> (try simp (disch := omega) only [Int.tdiv_eq_ediv_of_nonneg, Int.tmod_eq_emod_of_nonneg] at hh))
    | fail) <;> (conv => whnf)))
  all_goals (try (show _ = _; simp only [wQ]))
  all_goals first | (simp_all [ltI_eq, leI_eq, eqI_eq, mayCouponB]; done) | (rw [Bool.eq_iff_iff]; simp_all [ltI_eq, leI_eq, eqI_eq, mayCouponB]; done) | (rw [Bool.eq_iff_iff]; simp_all [ltI_eq, leI_eq, eqI_eq, mayCouponB]; omega) | skip
end
end Go.Vc.Z

/- Tickets: heads and taxes. -/
namespace Go.Vc.Z
open Go Go.Vc Go.Proofs Go.RowKit Go.Pl Go.Lib
noncomputable section
set_option maxRecDepth 100000
set_option linter.unusedSimpArgs false
set_option linter.unusedVariables false
attribute [local irreducible] inK Utf8.decode Utf8.encode Lib.itoa Pl.worth Pl.allDig
def taxesFrom : Int → List Tax → Bool
  | _, [] => true
  | least, x :: t => decide (least ≤ x.code) && decide (x.code ≤ 99) && someB x.amount && taxesFrom (x.code + 1) t
@[irreducible] def taxesB (l : List Tax) : Bool := taxesFrom 1 l && decide (l.length ≤ 4)
def pcTaxes : PC := PC.of (fun l : List Tax => [slE 2 Tax.enc l]) (fun _ => True) (fun l => .bool (sB (taxesB l)))
def LTaxes (l : List Tax) : LoopSpec := {
  α := Nat × Int
  keep := [0, 3, 6, 7, 8]
  vals x := [slE 2 Tax.enc l, .int .i64 x.2, slE 2 Tax.enc l, .int .i64 l.length, .int .i64 x.1]
  heap _ := []
  ok x := x.1 ≤ l.length ∧ taxesFrom x.2 (l.drop x.1) = taxesFrom 1 l
  μ x := l.length - x.1 }
theorem drop_getD {α : Type} [Inhabited α] {l : List α} {i : Nat} (h : i < l.length) : l.drop i = l.getD i default :: l.drop (i + 1) := by
  rw [List.drop_eq_getElem_cons h, List.getD_eq_getElem?_getD, List.getElem?_eq_getElem h]; rfl
theorem factL_code {l : List Tax} {i : Nat} (h : factL [slE 2 Tax.enc l]) : i < l.length → -9223372036854775808 ≤ (l.getD i default).code ∧ (l.getD i default).code ≤ 9223372036854775807 := fun hi => by
  simp only [factL, factA, and_true] at h
  have := (h.2 i hi).2.1
  simpa [inK_def, Go.Vc.lo, Go.Vc.hi] using this
def D_ticket_mayTaxes : PT := tabD [(197, pcSome)]
def C_ticket_mayTaxes : FuncId → Option Ctr := tabC D_ticket_mayTaxes []
def L_ticket_mayTaxes : List Tax → Nat → Option LR := fun l i => cond (Nat.beq i 3) (some (.inv (LTaxes l))) (none)
theorem g_ticket_mayTaxes {W : World} (hW : Tabs W) : GoodP (Fw W) Tryz.prog 122 pcTaxes := by
  have hD : PTOk (Fw W) Tryz.prog D_ticket_mayTaxes := (tabD_cons Tryz.call197 (g_ticket_some hW) tabD_nil)
  have hC0 : ∀ l : List Tax, CtrOk (Fw W) Tryz.prog (C_ticket_mayTaxes) := fun l => (tabC_nil hD)
  refine goodP_ofC (D := D_ticket_mayTaxes) (C := fun l => C_ticket_mayTaxes) (wr := (fun _ => false)) rfl tyOk hD hC0 Tryz.func122 (L_ticket_mayTaxes) (fun _ => rfl) ?_
  intro l hf hp
  (conv => whnf)
  (repeat' ((first
    | with_reducible refine (fun (hln : (_ : Int) ≤ 9223372036854775807) => ?_)
    | fail) <;> (conv => whnf)))
  all_goals (try (show _ = _; simp only [wQ]))
  refine ⟨?_, fun (x : Nat × Int) (hx : x.1 ≤ l.length ∧ taxesFrom x.2 (l.drop x.1) = taxesFrom 1 l) => ?_⟩
  · (conv => whnf)
    refine ⟨((0, 1) : Nat × Int), [], ?_, ⟨⟨rfl, Nat.le_of_ble_eq_true rfl, rfl⟩, ?_, ?_⟩⟩
    · exact ⟨Nat.zero_le _, rfl⟩
    · exact leL_rfl _
    · (conv => whnf)
      (repeat' ((first | with_reducible exact True.intro | fail) <;> (conv => whnf)))
      all_goals (try simp only [wQ])
  · obtain ⟨h1, h2⟩ := hx
    have hd : x.1 < l.length → taxesFrom 1 l = (decide (x.2 ≤ (l.getD (Int.toNat (x.1 : Int)) default).code) && decide ((l.getD (Int.toNat (x.1 : Int)) default).code ≤ 99) && someB (l.getD (Int.toNat (x.1 : Int)) default).amount && taxesFrom ((l.getD (Int.toNat (x.1 : Int)) default).code + 1) (l.drop (x.1 + 1))) := fun h => by
      rw [← h2, drop_getD h]; rfl
    have ht : taxesFrom 1 l = false → taxesB l = false := fun h => by unfold taxesB; rw [h]; rfl
    have hb : x.1 < l.length → (x.2 ≤ (l.getD (Int.toNat (x.1 : Int)) default).code → (l.getD (Int.toNat (x.1 : Int)) default).code ≤ 99 → someB (l.getD (Int.toNat (x.1 : Int)) default).amount = false) → taxesB l = false := fun h hc => ht (by
      rw [hd h]
      by_cases g1 : x.2 ≤ (l.getD (Int.toNat (x.1 : Int)) default).code
      · by_cases g2 : (l.getD (Int.toNat (x.1 : Int)) default).code ≤ 99
        · rw [hc g1 g2]; simp
        · rw [decide_eq_false g2]; simp
      · rw [decide_eq_false g1]; simp)
    have hcode := factL_code (l := l) (i := Int.toNat (x.1 : Int)) hf
    (conv => whnf)
    (repeat' ((first
      | ((with_reducible refine And.intro ?_ ?_); focus (first | with_reducible exact True.intro | omega | (simp only [inK_def, Go.Vc.lo, Go.Vc.hi]; omega)))
      | (split <;> rename_i hh <;> (try simp only [wS] at hh) <;> (try simp (disch := omega) only [Int.tdiv_eq_ediv_of_nonneg, Int.tmod_eq_emod_of_nonneg] at hh))
      | with_reducible refine (fun (hln : (_ : Int) ≤ 9223372036854775807) => ?_)
      | fail) <;> (conv => whnf)))
    all_goals (try (show _ = _; simp only [wQ]))
    all_goals try (rw [hb (by omega) (by intros; first | omega | assumption)]; done)
    · (conv => whnf)
      refine ⟨((x.1 + 1, (l.getD (Int.toNat (x.1 : Int)) default).code + 1) : Nat × Int), [], ?_, ⟨⟨rfl, Nat.le_of_ble_eq_true rfl, rfl⟩, ?_, ?_⟩⟩
      · refine ⟨⟨show x.1 + 1 ≤ l.length by omega, ?_⟩, show l.length - (x.1 + 1) < l.length - x.1 by omega⟩
        have := hd (by omega)
        rw [decide_eq_true (by assumption), decide_eq_true (by assumption), (by assumption : someB _ = true)] at this
        exact this.symm
      · exact leL_rfl _
      · (conv => whnf)
        (repeat' ((first | with_reducible exact True.intro | fail) <;> (conv => whnf)))
        all_goals (try simp only [wQ])
    · have : taxesFrom 1 l = true := by rw [← h2, List.drop_eq_nil_of_le (by omega)]; rfl
      unfold taxesB
      rw [this, leI_eq, Bool.true_and, Bool.eq_iff_iff, decide_eq_true_eq, decide_eq_true_eq]; omega
@[irreducible] def ownB (num prev orig : Int) : Bool := (decide (prev = 0) && decide (orig = num)) || (otherB num prev && otherB num orig)
@[irreducible] def mayHeadB (num : Int) (loc : List UInt8) (iss prev orig frst vou posts : Int) : Bool :=
  numdB num && locOk loc && dayB iss && ownB num prev orig && numdB frst && decide (0 ≤ vou) && decide (vou ≤ 1125899906842624) && decide (0 ≤ posts) && decide (posts ≤ 200)
def pcMayHead : PC := PC.fun fun | [.agg [.int .u64 num, .str loc, .int .i64 iss, .sl false 6 n1 g1, .sl false 2 n2 g2, .int .u64 prev, .int .u64 orig, .int .u64 frst, .int .i64 vou, .int .i64 posts, .sl false 4 n3 g3]] => some (True, .bool (sB (mayHeadB num loc iss prev orig frst vou posts))) | _ => none
def D_ticket_mayHead : PT := tabD [(193, pcOther), (194, pcNumd), (195, pcLocator), (196, pcDay)]
def C_ticket_mayHead : FuncId → Option Ctr := tabC D_ticket_mayHead []
set_option maxHeartbeats 2000000 in
theorem g_ticket_mayHead {W : World} (hW : Tabs W) : GoodP (Fw W) Tryz.prog 121 pcMayHead := by
  have hD : PTOk (Fw W) Tryz.prog D_ticket_mayHead := (tabD_cons Tryz.call193 (g_ticket_other hW) (tabD_cons Tryz.call194 (g_ticket_numbered hW) (tabD_cons Tryz.call195 (g_number_Locator hW) (tabD_cons Tryz.call196 (g_ticket_day hW) tabD_nil))))
  have hC0 : CtrOk (Fw W) Tryz.prog C_ticket_mayHead := (tabC_nil hD)
  refine goodP_fun (D := D_ticket_mayHead) (C := C_ticket_mayHead) (wr := (fun _ => false)) rfl tyOk hD hC0 Tryz.func121 (fun _ _ => none) ?_
  clear hC0 hD hW
  intro cs p r h hf hp
  split at h
  case h_2 => cases h
  rename_i num loc iss n1 g1 n2 g2 prev orig frst vou posts n3 g3
  cases h
  try simp only [factL, factA, inK_def, Go.Vc.lo, Go.Vc.hi, and_true] at hf
  clear hf
  (conv => whnf)
  (repeat' ((first
    | ((with_reducible refine And.intro ?_ ?_); focus (with_reducible exact True.intro))
    | (split <;> rename_i hh <;> (try simp only [wS] at hh) <;> (try simp (disch := omega) only [Int.tdiv_eq_ediv_of_nonneg, Int.tmod_eq_emod_of_nonneg] at hh))
    | fail) <;> (conv => whnf)))
  all_goals (try (show _ = _; simp only [wQ]))
  all_goals first | (simp_all [ltI_eq, leI_eq, eqI_eq, mayHeadB, ownB]; done) | (rw [Bool.eq_iff_iff]; simp_all [ltI_eq, leI_eq, eqI_eq, mayHeadB, ownB]; done) | (rw [Bool.eq_iff_iff]; simp_all [ltI_eq, leI_eq, eqI_eq, mayHeadB, ownB]; omega) | skip
end
end Go.Vc.Z

/- Tickets: what a history tells. -/
namespace Go.Vc.Z
open Go Go.Vc Go.Proofs Go.RowKit Go.Pl Go.Lib
noncomputable section
set_option maxRecDepth 100000
set_option linter.unusedSimpArgs false
set_option linter.unusedVariables false
attribute [local irreducible] inK Utf8.decode Utf8.encode Lib.itoa Pl.worth Pl.allDig
/-- May a step be? -/
def stepB (now : List Int) (last : Int) (x : Event) : Bool :=
  decide (1 ≤ x.coupon) && decide (x.coupon ≤ now.length) && decide (last ≤ x.day) && dayB x.day && decide (x.src = now.getD (x.coupon - 1).toNat 0) && leadsN x.src x.dst
def runH (til : Int) : List Int → List Int → Int → List Event → Option (List Int × List Int)
  | now, thn, _, [] => some (now, thn)
  | now, thn, last, x :: h => bif stepB now last x then runH til (now.set (x.coupon - 1).toNat x.dst) (bif decide (x.day ≤ til) then thn.set (x.coupon - 1).toNat x.dst else thn) x.day h else none
def agree : List Coupon → List Int → Bool
  | [], _ => true
  | c :: cs, now => decide (c.status = now.getD 0 0) && agree cs (now.drop 1)
def ones (n : Nat) : List Int := List.replicate n 1
@[irreducible] def toldB (t : Ticket) (til : Int) : Option (List Int) :=
  match runH til (ones t.coupons.length) (ones t.coupons.length) t.issued t.history with
  | some (now, thn) => bif agree t.coupons now then some thn else none
  | none => none
def toldR (t : Ticket) (til : Int) : AV := .tup [.any, .bool (sB (toldB t til).isSome)]
def pcTold : PC := PC.of (α := Ticket × Int) (fun (t, til) => [.agg t.enc, .int .i64 til]) (fun (t, _) => 1 ≤ t.coupons.length ∧ t.coupons.length ≤ 4 ∧ t.history.length ≤ 60 ∧ 0 ≤ t.issued) (fun x => toldR x.1 x.2)
def LTold3 (t : Ticket) (til : Int) : LoopSpec := {
  α := Nat
  keep := [2, 3, 6, 21, 22]
  vals i := [.ptr 0 0, .ptr 1 0, .ptr 3 0, .int .i64 t.coupons.length, .int .i64 i]
  heap i := [.var t.enc, .var [.int .i64 til], .row 1 t.coupons.length (fun e => [.int .i64 (if e < i then 1 else 0)]), .var [.osl 2 1 0 t.coupons.length (some t.coupons.length)]]
  ok i := i ≤ t.coupons.length
  μ i := t.coupons.length - i }
abbrev TS := Nat × List Int × Int × Bool × List Int
def rowI (n : Nat) (l : List Int) : Blk := .row 1 n (fun e => [.int .i64 (l.getD e 0)])
def toldHeap (t : Ticket) (til : Int) (x : TS) : List Blk :=
  [.var t.enc, .var [.int .i64 til], rowI t.coupons.length x.2.1, .var [.osl 2 1 0 t.coupons.length (some t.coupons.length)], .dead, .dead,
   .var [.bool x.2.2.2.1], .var [.int .i64 x.2.2.1], .dead, .dead, rowI t.coupons.length x.2.2.2.2, .var [.osl 10 1 0 t.coupons.length none]]
def LTold11 (t : Ticket) (til : Int) : LoopSpec := {
  α := TS
  keep := [2, 6, 8, 10, 11, 35, 36, 37]
  vals x := [.ptr 0 0, .ptr 3 0, .ptr 6 0, .ptr 11 0, .fn 201 [.ptr 3 0, .ptr 7 0, .ptr 6 0, .ptr 1 0, .ptr 11 0], slE 4 Event.enc t.history, .int .i64 t.history.length, .int .i64 x.1]
  heap x := toldHeap t til x
  ok x := x.1 ≤ t.history.length ∧ x.2.1.length = t.coupons.length ∧ x.2.2.2.2.length = t.coupons.length ∧
    (x.2.2.2.1 = true → 0 ≤ x.2.2.1 ∧ runH til x.2.1 x.2.2.2.2 x.2.2.1 (t.history.drop x.1) = runH til (ones t.coupons.length) (ones t.coupons.length) t.issued t.history) ∧
    (x.2.2.2.1 = false → runH til (ones t.coupons.length) (ones t.coupons.length) t.issued t.history = none)
  μ x := t.history.length - x.1 }
def LTold16 (t : Ticket) (til : Int) : LoopSpec := {
  α := TS
  keep := [6, 8, 10, 46, 47, 48]
  vals x := [.ptr 3 0, .ptr 6 0, .ptr 11 0, slE 6 Coupon.enc t.coupons, .int .i64 t.coupons.length, .int .i64 x.1]
  heap x := toldHeap t til x
  ok x := x.1 ≤ t.coupons.length ∧ x.2.1.length = t.coupons.length ∧ x.2.2.2.2.length = t.coupons.length ∧
    (x.2.2.2.1 = true → ∃ now, runH til (ones t.coupons.length) (ones t.coupons.length) t.issued t.history = some (now, x.2.2.2.2) ∧ now = x.2.1 ∧ agree (t.coupons.drop x.1) (now.drop x.1) = agree t.coupons now) ∧
    (x.2.2.2.1 = false → toldB t til = none)
  μ x := t.coupons.length - x.1 }
theorem ones_getD {n e : Nat} (h : e < n) : (ones n).getD e 0 = 1 := by
  simp [ones, List.getD_eq_getElem?_getD, List.getElem?_replicate, h]
theorem factE {t : Ticket} {til : Int} (h : factL [.agg t.enc, .int .i64 til]) {i : Nat} : i < t.history.length → -9223372036854775808 ≤ (t.history.getD (Int.toNat (i : Int)) default).coupon ∧ (t.history.getD (Int.toNat (i : Int)) default).coupon ≤ 9223372036854775807 := fun hi => by
  simp only [factL, factA, and_true] at h
  obtain ⟨⟨_, _, _, _, _, _, _, _, _, _, h⟩, _⟩ := h
  have := (h.2 i hi).2.2.1
  simpa [inK_def, Go.Vc.lo, Go.Vc.hi] using this
theorem wrap_pred {c : Int} (h : -9223372036854775808 ≤ c ∧ c ≤ 9223372036854775807) : wrapS .i64 (c - 1) = c - 1 ∨ (c < 0 ∧ wrapS .i64 (c - 1) = 9223372036854775807) := by
  simp only [wrapS_eq, IntKind.wrap, IntKind.bits, IntKind.signed]; simp; omega
theorem row_set {l : List Int} {k e : Nat} {v : Int} (he : e < l.length) : (if e = 0 + k then [AV.int .i64 v] else [AV.int .i64 (l.getD e 0)]) = [AV.int .i64 ((l.set k v).getD e 0)] := by
  simp only [List.getD_eq_getElem?_getD, List.getElem?_set, Nat.zero_add]
  by_cases h : k = e
  · subst h; simp [he]
  · rw [if_neg (fun h' => h h'.symm), if_neg h]
def D_ticket_told : PT := tabD [(196, pcDay), (202, pcLeads)]
def C_ticket_told : FuncId → Option Ctr := tabC D_ticket_told []
def C1_ticket_told (x : Ticket × Int) : FuncId → Option Ctr := tabC D_ticket_told [(200, inl TY (C_ticket_told) D_ticket_told (fun _ => false) (fun _ _ _ => none) Tryz.f200)]
def C2_ticket_told (x : Ticket × Int) : FuncId → Option Ctr := tabC D_ticket_told [(201, inl TY (C1_ticket_told x) D_ticket_told (fun t => Nat.beq t 10) (fun _ _ _ => none) Tryz.f201), (200, inl TY (C_ticket_told) D_ticket_told (fun _ => false) (fun _ _ _ => none) Tryz.f200)]
def L_ticket_told : Ticket × Int → Nat → Option LR := fun (t, til) i => cond (Nat.beq i 3) (some (.inv (LTold3 t til))) (cond (Nat.beq i 11) (some (.inv (LTold11 t til))) (cond (Nat.beq i 16) (some (.inv (LTold16 t til))) (none)))
set_option maxHeartbeats 4000000 in
theorem g_ticket_told {W : World} (hW : Tabs W) : GoodP (Fw W) Tryz.prog 126 pcTold := by
  have hD : PTOk (Fw W) Tryz.prog D_ticket_told := (tabD_cons Tryz.call196 (g_ticket_day hW) (tabD_cons Tryz.call202 (g_status_Leads hW) tabD_nil))
  have hC0 : ∀ x : Ticket × Int, CtrOk (Fw W) Tryz.prog (C_ticket_told) := fun x => (tabC_nil hD)
  have hC1 : ∀ x : Ticket × Int, CtrOk (Fw W) Tryz.prog (C1_ticket_told x) := fun x => tabC_cons Tryz.call200 (good_inl rfl tyOk hD (hC0 x) Tryz.func200 (fun _ _ _ => none)) (hC0 x)
  have hC2 : ∀ x : Ticket × Int, CtrOk (Fw W) Tryz.prog (C2_ticket_told x) := fun x => tabC_cons Tryz.call201 (good_inl rfl tyOk hD (hC1 x) Tryz.func201 (fun _ _ _ => none)) (hC1 x)
  refine goodP_ofC (D := D_ticket_told) (C := fun x => C2_ticket_told x) (wr := (fun _ => false)) rfl tyOk hD hC2 Tryz.func126 (L_ticket_told) (fun _ => rfl) ?_
  rintro ⟨t, til⟩ hf hp
  obtain ⟨hp1, hp2, hp3, hp4⟩ := hp
  (conv => whnf)
  (repeat' ((first
    | ((with_reducible refine And.intro ?_ ?_); focus ((simp only [growOk, ty2, ty3, ty4, ty5, ty9, ty21, ty37, ty42, ty43, ty45, ty47, ty67, ty95, ty105, ty113, ty150, ty161, ty198, ty242, ty275]; first | omega | (refine ⟨?_, ?_⟩ <;> omega))))
    | with_reducible refine (fun (hln : (_ : Int) ≤ 9223372036854775807) => ?_)
    | fail) <;> (conv => whnf)))
  all_goals (try (show _ = _; simp only [wQ]))
  refine ⟨?_, fun (i : Nat) (hi : i ≤ t.coupons.length) => ?_⟩
  · (conv => whnf)
    refine ⟨(0 : Nat), [], ?_, ⟨⟨rfl, Nat.le_of_ble_eq_true rfl, rfl⟩, ?_, ?_⟩⟩
    · exact Nat.zero_le _
    · (conv => whnf)
      (repeat' ((first | with_reducible exact True.intro | ((with_reducible refine And.intro ?_ ?_); focus (first | with_reducible rfl | omega | exact Nat.le_of_ble_eq_true rfl | rfl)) | with_reducible refine And.intro (?_ : leA _ _ _) ?_ | fail) <;> (conv => whnf)))
      all_goals (try simp only [wQ])
      all_goals (try first | omega)
    · (conv => whnf)
      (repeat' ((first | with_reducible exact True.intro | ((with_reducible refine Or.inr ?_); rfl) | ((with_reducible refine And.intro ?_ ?_); focus (first | with_reducible rfl | omega | exact Nat.le_of_ble_eq_true rfl | rfl)) | with_reducible refine And.intro (?_ : leA _ _ _) ?_ | with_reducible refine And.intro (?_ : leL _ _ _) ?_ | with_reducible refine And.intro (?_ : leBlk _ _ _ _) ?_ | fail) <;> (conv => whnf)))
      all_goals (try simp only [wQ])
      all_goals (try first | rfl | exact ⟨fun h => h, fun _ _ => True.intro⟩)
      intro e he
      exact ⟨rfl, rfl⟩
  · (conv => whnf)
    (repeat' ((first
      | (with_reducible refine inl_intro ?_)
      | ((with_reducible refine And.intro ?_ ?_); focus (first | ((with_reducible show okB _ _ _ = true); rfl) | omega | (simp only [inK_def, Go.Vc.lo, Go.Vc.hi]; omega) | (simp only [growOk, ty2, ty3, ty4, ty5, ty9, ty21, ty37, ty42, ty43, ty45, ty47, ty67, ty95, ty105, ty113, ty150, ty161, ty198, ty242, ty275]; first | omega | (refine ⟨?_, ?_⟩ <;> omega))))
      | (split <;> rename_i hh <;> (try simp only [wS] at hh) <;> (try simp (disch := omega) only [Int.tdiv_eq_ediv_of_nonneg, Int.tmod_eq_emod_of_nonneg] at hh))
      | with_reducible refine (fun (hln : (_ : Int) ≤ 9223372036854775807) => ?_)
      | fail) <;> (conv => whnf)))
    all_goals (try (show _ = _; simp only [wQ]))
    · (conv => whnf)
      refine ⟨(i + 1 : Nat), [], ?_, ⟨⟨rfl, Nat.le_of_ble_eq_true rfl, rfl⟩, ?_, ?_⟩⟩
      · exact ⟨show i + 1 ≤ t.coupons.length by omega, show t.coupons.length - (i + 1) < t.coupons.length - i by omega⟩
      · (conv => whnf)
        (repeat' ((first | with_reducible exact True.intro | ((with_reducible refine And.intro ?_ ?_); focus (first | with_reducible rfl | omega | exact Nat.le_of_ble_eq_true rfl | rfl)) | with_reducible refine And.intro (?_ : leA _ _ _) ?_ | fail) <;> (conv => whnf)))
        all_goals (try simp only [wQ])
        all_goals (try first | omega)
      · (conv => whnf)
        (repeat' ((first | with_reducible exact True.intro | ((with_reducible refine Or.inr ?_); rfl) | ((with_reducible refine And.intro ?_ ?_); focus (first | with_reducible rfl | omega | exact Nat.le_of_ble_eq_true rfl | rfl)) | with_reducible refine And.intro (?_ : leA _ _ _) ?_ | with_reducible refine And.intro (?_ : leL _ _ _) ?_ | with_reducible refine And.intro (?_ : leBlk _ _ _ _) ?_ | fail) <;> (conv => whnf)))
        all_goals (try simp only [wQ])
        all_goals (try first | rfl | exact ⟨fun h => h, fun _ _ => True.intro⟩)
        intro e he
        refine ⟨?_, rfl⟩
        by_cases h1 : e = i
        · subst h1
          have e1 : e = 0 + Int.toNat (e : Int) := by simp
          rw [if_pos e1]
          show [AV.int .i64 1] = _
          rw [if_pos (Nat.lt_succ_self e)]
        · rw [if_neg (by omega)]
          by_cases h2 : e < i
          · rw [if_pos h2, if_pos (by omega)]
          · rw [if_neg h2, if_neg (by omega)]
    · exfalso; omega
    · have hi' : i = t.coupons.length := by omega
      subst hi'
      refine ⟨?_, fun (x : TS) hx => ?_⟩
      · (conv => whnf)
        refine ⟨((0, ones t.coupons.length, t.issued, true, ones t.coupons.length) : TS), [], ?_, ⟨⟨rfl, Nat.le_of_ble_eq_true rfl, rfl⟩, ?_, ?_⟩⟩
        · exact ⟨Nat.zero_le _, by simp [ones], by simp [ones], fun _ => ⟨hp4, rfl⟩, fun h => by cases h⟩
        · (conv => whnf)
          (repeat' ((first | with_reducible exact True.intro | ((with_reducible refine And.intro ?_ ?_); focus (first | with_reducible rfl | omega | exact Nat.le_of_ble_eq_true rfl | rfl)) | with_reducible refine And.intro (?_ : leA _ _ _) ?_ | fail) <;> (conv => whnf)))
          all_goals (try simp only [wQ])
          all_goals (try first | omega | exact ⟨fun h => h, fun _ _ => True.intro⟩)
        · (conv => whnf)
          (repeat' ((first | with_reducible exact True.intro | ((with_reducible refine Or.inr ?_); rfl) | ((with_reducible refine And.intro ?_ ?_); focus (first | with_reducible rfl | omega | exact Nat.le_of_ble_eq_true rfl | rfl)) | with_reducible refine And.intro (?_ : leA _ _ _) ?_ | with_reducible refine And.intro (?_ : leL _ _ _) ?_ | with_reducible refine And.intro (?_ : leBlk _ _ _ _) ?_ | fail) <;> (conv => whnf)))
          all_goals (try simp only [wQ])
          all_goals (try first | rfl | exact ⟨fun h => h, fun _ _ => True.intro⟩)
          · intro e he; exact ⟨by rw [if_pos he, ones_getD he], rfl⟩
          · intro e he
            refine ⟨?_, rfl⟩
            unfold catRow
            rw [if_neg (by omega)]
            show [AV.int .i64 (if 0 + (e - 0) < t.coupons.length then 1 else 0)] = _
            rw [Nat.sub_zero, Nat.zero_add, if_pos he, ones_getD he]
      · obtain ⟨h1, h2, h3, h4, h5⟩ := hx
        have hnone : x.1 < t.history.length → stepB x.2.1 x.2.2.1 (t.history.getD (Int.toNat (x.1 : Int)) default) = false → runH til (ones t.coupons.length) (ones t.coupons.length) t.issued t.history = none := fun h hs => by
          cases hg : x.2.2.2.1 with
          | false => exact h5 hg
          | true =>
            rw [← (h4 hg).2, drop_getD h]
            show (bif stepB x.2.1 x.2.2.1 (t.history.getD (Int.toNat (x.1 : Int)) default) then _ else none) = none
            rw [hs]; rfl
        have hgo : x.1 < t.history.length → stepB x.2.1 x.2.2.1 (t.history.getD (Int.toNat (x.1 : Int)) default) = true → x.2.2.2.1 = true → 0 ≤ (t.history.getD (Int.toNat (x.1 : Int)) default).day ∧ runH til (x.2.1.set ((t.history.getD (Int.toNat (x.1 : Int)) default).coupon - 1).toNat (t.history.getD (Int.toNat (x.1 : Int)) default).dst) (bif decide ((t.history.getD (Int.toNat (x.1 : Int)) default).day ≤ til) then x.2.2.2.2.set ((t.history.getD (Int.toNat (x.1 : Int)) default).coupon - 1).toNat (t.history.getD (Int.toNat (x.1 : Int)) default).dst else x.2.2.2.2) (t.history.getD (Int.toNat (x.1 : Int)) default).day (t.history.drop (x.1 + 1)) = runH til (ones t.coupons.length) (ones t.coupons.length) t.issued t.history := fun h hs hg => by
          obtain ⟨g1, g2⟩ := h4 hg
          refine ⟨?_, ?_⟩
          · have := hs; simp only [stepB, Bool.and_eq_true, decide_eq_true_eq] at this; omega
          · rw [← g2, drop_getD h]
            show _ = (bif stepB x.2.1 x.2.2.1 (t.history.getD (Int.toNat (x.1 : Int)) default) then _ else none)
            rw [hs]; rfl
        have hgood : x.1 < t.history.length → 0 ≤ wrapS .i64 ((t.history.getD (Int.toNat (x.1 : Int)) default).coupon - 1) → wrapS .i64 ((t.history.getD (Int.toNat (x.1 : Int)) default).coupon - 1) < (t.coupons.length : Int) → x.2.2.1 ≤ (t.history.getD (Int.toNat (x.1 : Int)) default).day → dayB (t.history.getD (Int.toNat (x.1 : Int)) default).day = true → (t.history.getD (Int.toNat (x.1 : Int)) default).src = x.2.1.getD (0 + (wrapS .i64 ((t.history.getD (Int.toNat (x.1 : Int)) default).coupon - 1)).toNat) 0 → leadsN (t.history.getD (Int.toNat (x.1 : Int)) default).src (t.history.getD (Int.toNat (x.1 : Int)) default).dst = true → wrapS .i64 ((t.history.getD (Int.toNat (x.1 : Int)) default).coupon - 1) = (t.history.getD (Int.toNat (x.1 : Int)) default).coupon - 1 ∧ stepB x.2.1 x.2.2.1 (t.history.getD (Int.toNat (x.1 : Int)) default) = true := fun h a1 a2 a3 a4 a5 a6 => by
          rcases wrap_pred (factE hf (i := x.1) h) with hw | ⟨hw1, hw2⟩
          · rw [hw] at a1 a2
            rw [hw, Nat.zero_add] at a5
            refine ⟨hw, ?_⟩
            simp only [stepB, Bool.and_eq_true, decide_eq_true_eq]
            exact ⟨⟨⟨⟨⟨by omega, by omega⟩, a3⟩, a4⟩, a5⟩, a6⟩
          · omega
        have hcb := factE hf (i := x.1)
        have hwr : x.1 < t.history.length → wrapS .i64 ((t.history.getD (Int.toNat (x.1 : Int)) default).coupon - 1) = (t.history.getD (Int.toNat (x.1 : Int)) default).coupon - 1 ∨ ((t.history.getD (Int.toNat (x.1 : Int)) default).coupon < 0 ∧ wrapS .i64 ((t.history.getD (Int.toNat (x.1 : Int)) default).coupon - 1) = 9223372036854775807) := fun h => wrap_pred (hcb h)
        have hbad : x.1 < t.history.length → stepB x.2.1 x.2.2.1 (t.history.getD (Int.toNat (x.1 : Int)) default) = false → (LTold11 t til).ok ((x.1 + 1, x.2.1, x.2.2.1, false, x.2.2.2.2) : TS) ∧ (LTold11 t til).μ ((x.1 + 1, x.2.1, x.2.2.1, false, x.2.2.2.2) : TS) < (LTold11 t til).μ x := fun h hs =>
          ⟨⟨show x.1 + 1 ≤ t.history.length by omega, h2, h3, (fun h => by cases h), fun _ => hnone h hs⟩, show t.history.length - (x.1 + 1) < t.history.length - x.1 by omega⟩
        have hst : stepB x.2.1 x.2.2.1 (t.history.getD (Int.toNat (x.1 : Int)) default) = true → (1 ≤ (t.history.getD (Int.toNat (x.1 : Int)) default).coupon ∧ (t.history.getD (Int.toNat (x.1 : Int)) default).coupon ≤ x.2.1.length) ∧ x.2.2.1 ≤ (t.history.getD (Int.toNat (x.1 : Int)) default).day ∧ dayB (t.history.getD (Int.toNat (x.1 : Int)) default).day = true ∧ (t.history.getD (Int.toNat (x.1 : Int)) default).src = x.2.1.getD ((t.history.getD (Int.toNat (x.1 : Int)) default).coupon - 1).toNat 0 ∧ leadsN (t.history.getD (Int.toNat (x.1 : Int)) default).src (t.history.getD (Int.toNat (x.1 : Int)) default).dst = true := fun h => by
          simp only [stepB, Bool.and_eq_true, decide_eq_true_eq] at h
          exact ⟨h.1.1.1.1, h.1.1.1.2, h.1.1.2, h.1.2, h.2⟩
        (conv => whnf)
        (repeat' ((first
          | (with_reducible refine inl_intro ?_)
          | ((with_reducible refine And.intro ?_ ?_); focus (first | with_reducible exact True.intro | ((with_reducible show okB _ _ _ = true); rfl) | omega | (simp only [inK_def, Go.Vc.lo, Go.Vc.hi]; omega)))
          | (split <;> rename_i hh <;> (try simp only [wS] at hh) <;> (try simp (disch := omega) only [Int.tdiv_eq_ediv_of_nonneg, Int.tmod_eq_emod_of_nonneg] at hh))
          | with_reducible refine (fun (hln : (_ : Int) ≤ 9223372036854775807) => ?_)
          | fail) <;> (conv => whnf)))
        all_goals (try (show _ = _; simp only [wQ]))
        all_goals try (
          have hs : stepB x.2.1 x.2.2.1 (t.history.getD (Int.toNat (x.1 : Int)) default) = false := by
            refine Bool.eq_false_iff.2 fun h => ?_
            obtain ⟨⟨a1, a2⟩, a3, a4, a5, a6⟩ := hst h
            rcases hwr (by omega) with hw | ⟨hw1, hw2⟩
            · first | omega | (rename_i hh; first | (rw [a4] at hh; cases hh; done) | (rw [a6] at hh; cases hh; done) | (rw [hw, Nat.zero_add] at hh; exact hh a5))
            · omega
          (conv => whnf)
          refine ⟨((x.1 + 1, x.2.1, x.2.2.1, false, x.2.2.2.2) : TS), [], ?_, ⟨⟨rfl, Nat.le_of_ble_eq_true rfl, rfl⟩, ?_, ?_⟩⟩
          · exact hbad (by omega) hs
          · (conv => whnf)
            (repeat' ((first | with_reducible exact True.intro | ((with_reducible refine And.intro ?_ ?_); focus (first | with_reducible rfl | omega | exact Nat.le_of_ble_eq_true rfl | rfl)) | with_reducible refine And.intro (?_ : leA _ _ _) ?_ | fail) <;> (conv => whnf)))
            all_goals (try simp only [wQ])
            all_goals (try first | omega | exact ⟨fun h => h, fun _ _ => True.intro⟩)
          · (conv => whnf)
            (repeat' ((first | with_reducible exact True.intro | ((with_reducible refine Or.inr ?_); rfl) | ((with_reducible refine And.intro ?_ ?_); focus (first | with_reducible rfl | omega | exact Nat.le_of_ble_eq_true rfl | rfl)) | with_reducible refine And.intro (?_ : leA _ _ _) ?_ | with_reducible refine And.intro (?_ : leL _ _ _) ?_ | with_reducible refine And.intro (?_ : leBlk _ _ _ _) ?_ | fail) <;> (conv => whnf)))
            all_goals (try simp only [wQ])
            all_goals (try first | rfl | exact ⟨fun h => h, fun _ _ => True.intro⟩)
            all_goals (intro e he; exact ⟨True.intro, rfl⟩)
          done)
        · obtain ⟨hw, hs⟩ := hgood (by omega) (by assumption) (by assumption) (by assumption) (by assumption) (by assumption) (by assumption)
          (conv => whnf)
          refine ⟨((x.1 + 1, x.2.1.set ((t.history.getD (Int.toNat (x.1 : Int)) default).coupon - 1).toNat (t.history.getD (Int.toNat (x.1 : Int)) default).dst, (t.history.getD (Int.toNat (x.1 : Int)) default).day, x.2.2.2.1, x.2.2.2.2.set ((t.history.getD (Int.toNat (x.1 : Int)) default).coupon - 1).toNat (t.history.getD (Int.toNat (x.1 : Int)) default).dst) : TS), [], ?_, ⟨⟨rfl, Nat.le_of_ble_eq_true rfl, rfl⟩, ?_, ?_⟩⟩
          · refine ⟨⟨show x.1 + 1 ≤ t.history.length by omega, (List.length_set ..).trans h2, (List.length_set ..).trans h3, fun hg => ?_, fun hg => h5 hg⟩, show t.history.length - (x.1 + 1) < t.history.length - x.1 by omega⟩
            have := hgo (by omega) hs hg
            rw [decide_eq_true (by assumption)] at this
            exact this
          · (conv => whnf)
            (repeat' ((first | with_reducible exact True.intro | ((with_reducible refine And.intro ?_ ?_); focus (first | with_reducible rfl | omega | exact Nat.le_of_ble_eq_true rfl | rfl)) | with_reducible refine And.intro (?_ : leA _ _ _) ?_ | fail) <;> (conv => whnf)))
            all_goals (try simp only [wQ])
            all_goals (try first | omega | exact ⟨fun h => h, fun _ _ => True.intro⟩)
          · (conv => whnf)
            (repeat' ((first | with_reducible exact True.intro | ((with_reducible refine Or.inr ?_); rfl) | ((with_reducible refine And.intro ?_ ?_); focus (first | with_reducible rfl | omega | exact Nat.le_of_ble_eq_true rfl | rfl)) | with_reducible refine And.intro (?_ : leA _ _ _) ?_ | with_reducible refine And.intro (?_ : leL _ _ _) ?_ | with_reducible refine And.intro (?_ : leBlk _ _ _ _) ?_ | fail) <;> (conv => whnf)))
            all_goals (try simp only [wQ])
            all_goals (try first | rfl | exact ⟨fun h => h, fun _ _ => True.intro⟩)
            · intro e he; refine ⟨?_, rfl⟩; rw [hw]; exact row_set (by omega)
            · intro e he; refine ⟨?_, rfl⟩; rw [hw]; exact row_set (by omega)
        · obtain ⟨hw, hs⟩ := hgood (by omega) (by assumption) (by assumption) (by assumption) (by assumption) (by assumption) (by assumption)
          (conv => whnf)
          refine ⟨((x.1 + 1, x.2.1.set ((t.history.getD (Int.toNat (x.1 : Int)) default).coupon - 1).toNat (t.history.getD (Int.toNat (x.1 : Int)) default).dst, (t.history.getD (Int.toNat (x.1 : Int)) default).day, x.2.2.2.1, x.2.2.2.2) : TS), [], ?_, ⟨⟨rfl, Nat.le_of_ble_eq_true rfl, rfl⟩, ?_, ?_⟩⟩
          · refine ⟨⟨show x.1 + 1 ≤ t.history.length by omega, (List.length_set ..).trans h2, h3, fun hg => ?_, fun hg => h5 hg⟩, show t.history.length - (x.1 + 1) < t.history.length - x.1 by omega⟩
            have := hgo (by omega) hs hg
            rw [decide_eq_false (by omega)] at this
            exact this
          · (conv => whnf)
            (repeat' ((first | with_reducible exact True.intro | ((with_reducible refine And.intro ?_ ?_); focus (first | with_reducible rfl | omega | exact Nat.le_of_ble_eq_true rfl | rfl)) | with_reducible refine And.intro (?_ : leA _ _ _) ?_ | fail) <;> (conv => whnf)))
            all_goals (try simp only [wQ])
            all_goals (try first | omega | exact ⟨fun h => h, fun _ _ => True.intro⟩)
          · (conv => whnf)
            (repeat' ((first | with_reducible exact True.intro | ((with_reducible refine Or.inr ?_); rfl) | ((with_reducible refine And.intro ?_ ?_); focus (first | with_reducible rfl | omega | exact Nat.le_of_ble_eq_true rfl | rfl)) | with_reducible refine And.intro (?_ : leA _ _ _) ?_ | with_reducible refine And.intro (?_ : leL _ _ _) ?_ | with_reducible refine And.intro (?_ : leBlk _ _ _ _) ?_ | fail) <;> (conv => whnf)))
            all_goals (try simp only [wQ])
            all_goals (try first | rfl | exact ⟨fun h => h, fun _ _ => True.intro⟩)
            · intro e he; refine ⟨?_, rfl⟩; rw [hw]; exact row_set (by omega)
            · intro e he; exact ⟨True.intro, rfl⟩
        · have hx : t.history.drop x.1 = [] := List.drop_eq_nil_of_le (by omega)
          refine ⟨?_, fun (y : TS) hy => ?_⟩
          · (conv => whnf)
            refine ⟨((0, x.2.1, x.2.2.1, x.2.2.2.1, x.2.2.2.2) : TS), [], ?_, ⟨⟨rfl, Nat.le_of_ble_eq_true rfl, rfl⟩, ?_, ?_⟩⟩
            · refine ⟨Nat.zero_le _, h2, h3, fun hg => ⟨x.2.1, ?_, rfl, rfl⟩, fun hg => ?_⟩
              · rw [← (h4 hg).2, hx]; rfl
              · unfold toldB; rw [h5 hg]
            · (conv => whnf)
              (repeat' ((first | with_reducible exact True.intro | ((with_reducible refine And.intro ?_ ?_); focus (first | with_reducible rfl | omega | exact Nat.le_of_ble_eq_true rfl | rfl)) | with_reducible refine And.intro (?_ : leA _ _ _) ?_ | fail) <;> (conv => whnf)))
              all_goals (try simp only [wQ])
              all_goals (try first | omega | exact ⟨fun h => h, fun _ _ => True.intro⟩)
            · (conv => whnf)
              (repeat' ((first | with_reducible exact True.intro | ((with_reducible refine Or.inr ?_); rfl) | ((with_reducible refine And.intro ?_ ?_); focus (first | with_reducible rfl | omega | exact Nat.le_of_ble_eq_true rfl | rfl)) | with_reducible refine And.intro (?_ : leA _ _ _) ?_ | with_reducible refine And.intro (?_ : leL _ _ _) ?_ | with_reducible refine And.intro (?_ : leBlk _ _ _ _) ?_ | fail) <;> (conv => whnf)))
              all_goals (try simp only [wQ])
              all_goals (try first | rfl | exact ⟨fun h => h, fun _ _ => True.intro⟩)
              all_goals (intro e he; exact ⟨True.intro, rfl⟩)
          · obtain ⟨g1, g2, g3, g4, g5⟩ := hy
            have hag : y.1 < t.coupons.length → agree (t.coupons.drop y.1) (y.2.1.drop y.1) = (eqI (t.coupons.getD (Int.toNat (y.1 : Int)) default).status (y.2.1.getD (0 + Int.toNat (y.1 : Int)) 0) && agree (t.coupons.drop (y.1 + 1)) (y.2.1.drop (y.1 + 1))) := fun h => by
              rw [drop_getD h, eqI_eq]
              show (decide ((t.coupons.getD y.1 default).status = (y.2.1.drop y.1).getD 0 0) && agree _ ((y.2.1.drop y.1).drop 1)) = _
              rw [List.drop_drop]
              have : (y.2.1.drop y.1).getD 0 0 = y.2.1.getD (0 + Int.toNat (y.1 : Int)) 0 := by
                simp [List.getD_eq_getElem?_getD, List.getElem?_drop]
              rw [this]; rfl
            (conv => whnf)
            (repeat' ((first
              | ((with_reducible refine And.intro ?_ ?_); focus (first | ((with_reducible show okB _ _ _ = true); rfl) | omega | (simp only [inK_def, Go.Vc.lo, Go.Vc.hi]; omega)))
              | (split <;> rename_i hh <;> (try simp only [wS] at hh) <;> (try simp (disch := omega) only [Int.tdiv_eq_ediv_of_nonneg, Int.tmod_eq_emod_of_nonneg] at hh))
              | fail) <;> (conv => whnf)))
            all_goals (try (show _ = _; simp only [wQ]))
            · (conv => whnf)
              refine ⟨((y.1 + 1, y.2.1, y.2.2.1, eqI (t.coupons.getD (Int.toNat (y.1 : Int)) default).status (y.2.1.getD (0 + Int.toNat (y.1 : Int)) 0), y.2.2.2.2) : TS), [], ?_, ⟨⟨rfl, Nat.le_of_ble_eq_true rfl, rfl⟩, ?_, ?_⟩⟩
              · refine ⟨⟨show y.1 + 1 ≤ t.coupons.length by omega, g2, g3, fun hg => ?_, fun hg => ?_⟩, show t.coupons.length - (y.1 + 1) < t.coupons.length - y.1 by omega⟩
                · obtain ⟨now, e1, e2, e3⟩ := g4 (by assumption)
                  subst e2
                  refine ⟨_, e1, rfl, ?_⟩
                  have hg : eqI _ _ = true := hg
                  rw [hag (by omega), hg, Bool.true_and] at e3
                  exact e3
                · obtain ⟨now, e1, e2, e3⟩ := g4 (by assumption)
                  subst e2
                  unfold toldB
                  rw [e1]
                  have hg : eqI _ _ = false := hg
                  rw [hag (by omega), hg, Bool.false_and] at e3
                  simp only [← e3]; rfl
              · (conv => whnf)
                (repeat' ((first | with_reducible exact True.intro | ((with_reducible refine And.intro ?_ ?_); focus (first | with_reducible rfl | omega | exact Nat.le_of_ble_eq_true rfl | rfl)) | with_reducible refine And.intro (?_ : leA _ _ _) ?_ | fail) <;> (conv => whnf)))
                all_goals (try simp only [wQ])
                all_goals (try first | omega | exact ⟨fun h => h, fun _ _ => True.intro⟩)
              · (conv => whnf)
                (repeat' ((first | with_reducible exact True.intro | ((with_reducible refine Or.inr ?_); rfl) | ((with_reducible refine And.intro ?_ ?_); focus (first | with_reducible rfl | omega | exact Nat.le_of_ble_eq_true rfl | rfl)) | with_reducible refine And.intro (?_ : leA _ _ _) ?_ | with_reducible refine And.intro (?_ : leL _ _ _) ?_ | with_reducible refine And.intro (?_ : leBlk _ _ _ _) ?_ | fail) <;> (conv => whnf)))
                all_goals (try simp only [wQ])
                all_goals (try first | rfl | exact ⟨fun h => h, fun _ _ => True.intro⟩)
                all_goals (intro e he; exact ⟨True.intro, rfl⟩)
            · (conv => whnf)
              refine ⟨((y.1 + 1, y.2.1, y.2.2.1, false, y.2.2.2.2) : TS), [], ?_, ⟨⟨rfl, Nat.le_of_ble_eq_true rfl, rfl⟩, ?_, ?_⟩⟩
              · exact ⟨⟨show y.1 + 1 ≤ t.coupons.length by omega, g2, g3, (fun hg => by cases hg), fun _ => g5 (by assumption)⟩, show t.coupons.length - (y.1 + 1) < t.coupons.length - y.1 by omega⟩
              · (conv => whnf)
                (repeat' ((first | with_reducible exact True.intro | ((with_reducible refine And.intro ?_ ?_); focus (first | with_reducible rfl | omega | exact Nat.le_of_ble_eq_true rfl | rfl)) | with_reducible refine And.intro (?_ : leA _ _ _) ?_ | fail) <;> (conv => whnf)))
                all_goals (try simp only [wQ])
                all_goals (try first | omega | exact ⟨fun h => h, fun _ _ => True.intro⟩)
              · (conv => whnf)
                (repeat' ((first | with_reducible exact True.intro | ((with_reducible refine Or.inr ?_); rfl) | ((with_reducible refine And.intro ?_ ?_); focus (first | with_reducible rfl | omega | exact Nat.le_of_ble_eq_true rfl | rfl)) | with_reducible refine And.intro (?_ : leA _ _ _) ?_ | with_reducible refine And.intro (?_ : leL _ _ _) ?_ | with_reducible refine And.intro (?_ : leBlk _ _ _ _) ?_ | fail) <;> (conv => whnf)))
                all_goals (try simp only [wQ])
                all_goals (try first | rfl | exact ⟨fun h => h, fun _ _ => True.intro⟩)
                all_goals (intro e he; exact ⟨True.intro, rfl⟩)
            · refine ⟨⟨by omega, fun e he => rfl⟩, ?_⟩
              have hy : t.coupons.drop y.1 = [] := List.drop_eq_nil_of_le (by omega)
              have hr : (toldB t til).isSome = y.2.2.2.1 := by
                cases hg : y.2.2.2.1 with
                | false => rw [g5 hg]; rfl
                | true =>
                  obtain ⟨now, e1, e2, e3⟩ := g4 hg
                  rw [hy] at e3
                  unfold toldB; rw [e1]; simp only [← e3]; rfl
              (conv => whnf)
              (repeat' ((first
                | with_reducible exact True.intro
                | ((with_reducible refine And.intro ?_ ?_); focus (exact True.intro))
                | with_reducible refine And.intro (?_ : leA _ _ _) ?_
                | fail) <;> (conv => whnf)))
              all_goals (try (show _ = _; simp only [wQ]))
              all_goals (first | exact hr.symm | skip)
end
end Go.Vc.Z

/- Tickets: may one be? -/
namespace Go.Vc.Z
open Go Go.Vc Go.Proofs Go.RowKit Go.Pl Go.Lib
noncomputable section
set_option maxRecDepth 100000
set_option linter.unusedSimpArgs false
set_option linter.unusedVariables false
attribute [local irreducible] inK Utf8.decode Utf8.encode Lib.itoa Pl.worth Pl.allDig
abbrev couponOkB (num : Int) (c : Coupon) : Bool := mayCouponB num c.flight c.day c.value c.status c.holder c.next
def couponsB (num : Int) : List Coupon → Bool
  | [] => true
  | c :: l => couponOkB num c && couponsB num l
abbrev headB (t : Ticket) : Bool := mayHeadB t.number t.locator t.issued t.prev t.origin t.first t.voucher t.posts
@[irreducible] def mayTicketB (t : Ticket) : Bool :=
  decide (1 ≤ t.coupons.length) && decide (t.coupons.length ≤ 4) && decide (t.history.length ≤ 60) && headB t && taxesB t.taxes && couponsB t.number t.coupons && (toldB t 1000000).isSome
theorem head_issued {t : Ticket} (h : headB t = true) : 0 ≤ t.issued := by
  unfold headB mayHeadB at h
  simp only [Bool.and_eq_true] at h
  have := h.1.1.1.1.1.1.2
  unfold dayB at this
  simp at this; omega
def pcMayTicket : PC := PC.of (fun t : Ticket => [.agg t.enc]) (fun _ => True) (fun t => .bool (sB (mayTicketB t)))
def LIdxC (t : Ticket) : LoopSpec := {
  α := Nat
  keep := [0, 1, 7, 8]
  vals i := [slE 6 Coupon.enc t.coupons, .fn 124 [.ptr 0 0], .int .i64 t.coupons.length, .int .i64 i]
  heap i := [.var t.enc]
  ok i := i ≤ t.coupons.length ∧ couponsB t.number (t.coupons.drop i) = couponsB t.number t.coupons
  μ i := t.coupons.length - i }
def D_ticket_May : PT := tabD [(121, pcMayHead), (122, pcTaxes), (126, pcTold), (125, pcMayCoupon)]
def C_ticket_May : FuncId → Option Ctr := tabC D_ticket_May []
def C1_ticket_May (t : Ticket) : FuncId → Option Ctr := tabC D_ticket_May [(124, inl TY (C_ticket_May) D_ticket_May (fun _ => false) (fun _ _ _ => none) Tryz.f124)]
def LI2_ticket_May (t : Ticket) : List AV → List Blk → Nat → Option LR := fun _ _ i => cond (Nat.beq i 2) (some (.inv (LIdxC t))) none
def C2_ticket_May (t : Ticket) : FuncId → Option Ctr := tabC D_ticket_May [(198, inl TY (C1_ticket_May t) D_ticket_May (fun _ => false) (LI2_ticket_May t) Tryz.f198), (124, inl TY (C_ticket_May) D_ticket_May (fun _ => false) (fun _ _ _ => none) Tryz.f124)]
def C3_ticket_May (t : Ticket) : FuncId → Option Ctr := tabC D_ticket_May [(123, inl TY (C2_ticket_May t) D_ticket_May (fun _ => false) (fun _ _ _ => none) Tryz.f123), (198, inl TY (C1_ticket_May t) D_ticket_May (fun _ => false) (LI2_ticket_May t) Tryz.f198), (124, inl TY (C_ticket_May) D_ticket_May (fun _ => false) (fun _ _ _ => none) Tryz.f124)]
set_option maxHeartbeats 4000000 in
theorem g_ticket_May {W : World} (hW : Tabs W) : GoodP (Fw W) Tryz.prog 53 pcMayTicket := by
  have hD : PTOk (Fw W) Tryz.prog D_ticket_May := (tabD_cons Tryz.call121 (g_ticket_mayHead hW) (tabD_cons Tryz.call122 (g_ticket_mayTaxes hW) (tabD_cons Tryz.call126 (g_ticket_told hW) (tabD_cons Tryz.call125 (g_ticket_mayCoupon hW) tabD_nil))))
  have hC0 : ∀ t : Ticket, CtrOk (Fw W) Tryz.prog (C_ticket_May) := fun t => (tabC_nil hD)
  have hC1 : ∀ t : Ticket, CtrOk (Fw W) Tryz.prog (C1_ticket_May t) := fun t => tabC_cons Tryz.call124 (good_inl rfl tyOk hD (hC0 t) Tryz.func124 (fun _ _ _ => none)) (hC0 t)
  have hC2 : ∀ t : Ticket, CtrOk (Fw W) Tryz.prog (C2_ticket_May t) := fun t => tabC_cons Tryz.call198 (good_inl rfl tyOk hD (hC1 t) Tryz.func198 (LI2_ticket_May t)) (hC1 t)
  have hC3 : ∀ t : Ticket, CtrOk (Fw W) Tryz.prog (C3_ticket_May t) := fun t => tabC_cons Tryz.call123 (good_inl rfl tyOk hD (hC2 t) Tryz.func123 (fun _ _ _ => none)) (hC2 t)
  refine goodP_ofC (D := D_ticket_May) (C := fun t => C3_ticket_May t) (wr := (fun _ => false)) rfl tyOk hD hC3 Tryz.func53 (fun _ _ => none) (fun _ => rfl) ?_
  intro t hf hp
  have hbad : ∀ (h : ¬ 1 ≤ t.coupons.length ∨ ¬ t.coupons.length ≤ 4 ∨ ¬ t.history.length ≤ 60 ∨ headB t = false ∨ taxesB t.taxes = false ∨ couponsB t.number t.coupons = false), mayTicketB t = false := fun h => by
    unfold mayTicketB
    rcases h with h | h | h | h | h | h
    all_goals simp [h]
  (conv => whnf)
  (repeat' ((first
    | ((with_reducible refine And.intro ?_ ?_); focus (with_reducible exact True.intro))
    | (split <;> rename_i hh <;> (try simp only [wS] at hh) <;> (try simp (disch := omega) only [Int.tdiv_eq_ediv_of_nonneg, Int.tmod_eq_emod_of_nonneg] at hh))
    | with_reducible refine (fun (hln : (_ : Int) ≤ 9223372036854775807) => ?_)
    | fail) <;> (conv => whnf)))
  all_goals (try (show _ = _; simp only [wQ]))
  · rw [hbad (.inl (by omega))]
  · rw [hbad (.inr (.inl (by omega)))]
  · rw [hbad (.inr (.inr (.inl (by omega))))]
  · rw [hbad (.inr (.inr (.inr (.inl (by assumption)))))]
  · refine ⟨t.taxes, True.intro, ?_, ?_⟩
    · exact leL_rfl _
    (conv => whnf)
    (repeat' ((first
      | (with_reducible refine inl_intro ?_)
      | (split <;> rename_i hh <;> (try simp only [wS] at hh) <;> (try simp (disch := omega) only [Int.tdiv_eq_ediv_of_nonneg, Int.tmod_eq_emod_of_nonneg] at hh))
      | with_reducible refine (fun (hln : (_ : Int) ≤ 9223372036854775807) => ?_)
      | fail) <;> (conv => whnf)))
    all_goals (try (show _ = _; simp only [wQ]))
    · rw [hbad (.inr (.inr (.inr (.inr (.inl (by assumption))))))]
    · refine ⟨?_, fun (i : Nat) hi => ?_⟩
      · (conv => whnf)
        refine ⟨(0 : Nat), [], ?_, ⟨⟨rfl, Nat.le_of_ble_eq_true rfl, rfl⟩, ?_, ?_⟩⟩
        · exact ⟨Nat.zero_le _, rfl⟩
        · (conv => whnf)
          (repeat' ((first | with_reducible exact True.intro | ((with_reducible refine And.intro ?_ ?_); focus (first | with_reducible rfl | omega | exact Nat.le_of_ble_eq_true rfl | rfl)) | with_reducible refine And.intro (?_ : leA _ _ _) ?_ | fail) <;> (conv => whnf)))
          all_goals (try simp only [wQ])
          all_goals (try first | omega | exact ⟨fun h => h, fun _ _ => True.intro⟩)
        · (conv => whnf)
          (repeat' ((first | with_reducible exact True.intro | ((with_reducible refine And.intro ?_ ?_); focus (first | with_reducible rfl | omega | exact Nat.le_of_ble_eq_true rfl | rfl)) | with_reducible refine And.intro (?_ : leA _ _ _) ?_ | with_reducible refine And.intro (?_ : leL _ _ _) ?_ | with_reducible refine And.intro (?_ : leBlk _ _ _ _) ?_ | fail) <;> (conv => whnf)))
          all_goals (try simp only [wQ])
          all_goals (try first | rfl | exact ⟨fun h => h, fun _ _ => True.intro⟩)
      · obtain ⟨h1, h2⟩ := hi
        have hd : i < t.coupons.length → couponsB t.number t.coupons = (couponOkB t.number (t.coupons.getD (Int.toNat (i : Int)) default) && couponsB t.number (t.coupons.drop (i + 1))) := fun h => by
          rw [← h2, drop_getD h]; rfl
        (conv => whnf)
        (repeat' ((first
          | (with_reducible refine inl_intro ?_)
          | ((with_reducible refine And.intro ?_ ?_); focus (first | with_reducible exact True.intro | omega | (simp only [inK_def, Go.Vc.lo, Go.Vc.hi]; omega)))
          | (split <;> rename_i hh <;> (try simp only [wS] at hh) <;> (try simp (disch := omega) only [Int.tdiv_eq_ediv_of_nonneg, Int.tmod_eq_emod_of_nonneg] at hh))
          | fail) <;> (conv => whnf)))
        all_goals (try (show _ = _; simp only [wQ]))
        · have : couponsB t.number t.coupons = false := by rw [hd (by omega)]; simp_all [couponOkB]
          rw [hbad (.inr (.inr (.inr (.inr (.inr this)))))]
        · (conv => whnf)
          refine ⟨(i + 1 : Nat), [], ?_, ⟨⟨rfl, Nat.le_of_ble_eq_true rfl, rfl⟩, ?_, ?_⟩⟩
          · refine ⟨⟨show i + 1 ≤ t.coupons.length by omega, ?_⟩, show t.coupons.length - (i + 1) < t.coupons.length - i by omega⟩
            rw [hd (by omega), couponOkB, (by assumption : mayCouponB _ _ _ _ _ _ _ = true), Bool.true_and]
          · (conv => whnf)
            (repeat' ((first | with_reducible exact True.intro | ((with_reducible refine And.intro ?_ ?_); focus (first | with_reducible rfl | omega | exact Nat.le_of_ble_eq_true rfl | rfl)) | with_reducible refine And.intro (?_ : leA _ _ _) ?_ | fail) <;> (conv => whnf)))
            all_goals (try simp only [wQ])
            all_goals (try first | omega | exact ⟨fun h => h, fun _ _ => True.intro⟩)
          · (conv => whnf)
            (repeat' ((first | with_reducible exact True.intro | ((with_reducible refine And.intro ?_ ?_); focus (first | with_reducible rfl | omega | exact Nat.le_of_ble_eq_true rfl | rfl)) | with_reducible refine And.intro (?_ : leA _ _ _) ?_ | with_reducible refine And.intro (?_ : leL _ _ _) ?_ | with_reducible refine And.intro (?_ : leBlk _ _ _ _) ?_ | fail) <;> (conv => whnf)))
            all_goals (try simp only [wQ])
            all_goals (try first | rfl | exact ⟨fun h => h, fun _ _ => True.intro⟩)
        · have hc : couponsB t.number t.coupons = true := by rw [← h2, List.drop_eq_nil_of_le (by omega)]; rfl
          refine ⟨(t, (1000000 : Int)), ⟨by omega, by omega, by omega, head_issued (by assumption)⟩, ?_, ?_⟩
          · exact leL_rfl _
          (conv => whnf)
          all_goals (try (show _ = _; simp only [wQ]))
          unfold mayTicketB headB
          rw [hc, (by assumption : mayHeadB _ _ _ _ _ _ _ _ = true), (by assumption : taxesB _ = true), decide_eq_true (by omega), decide_eq_true (by omega), decide_eq_true (by omega)]
          rfl
/-! ### The document's -/
theorem dayB_le {n : Int} (h : dayB n = true) : 0 ≤ n ∧ n ≤ 1000000 := by
  unfold dayB at h; simp at h; omega
theorem runH_any (til til' : Int) : ∀ (h : List Event) (now thn thn' : List Int) (last : Int), (runH til now thn last h).map (·.1) = (runH til' now thn' last h).map (·.1)
  | [], now, thn, thn', last => rfl
  | x :: h, now, thn, thn', last => by
    unfold runH
    cases stepB now last x
    · rfl
    · exact runH_any til til' h _ _ _ _
theorem toldB_any (t : Ticket) (til til' : Int) : (toldB t til).isSome = (toldB t til').isSome := by
  have := runH_any til til' t.history (ones t.coupons.length) (ones t.coupons.length) (ones t.coupons.length) t.issued
  unfold toldB
  cases h1 : runH til (ones t.coupons.length) (ones t.coupons.length) t.issued t.history with
  | none =>
    cases h2 : runH til' (ones t.coupons.length) (ones t.coupons.length) t.issued t.history with
    | none => rfl
    | some q => rw [h1, h2] at this; cases this
  | some p =>
    cases h2 : runH til' (ones t.coupons.length) (ones t.coupons.length) t.issued t.history with
    | none => rw [h1, h2] at this; cases this
    | some q =>
      obtain ⟨a, b⟩ := p
      obtain ⟨c, d⟩ := q
      rw [h1, h2] at this
      simp at this
      subst this
      simp only
      cases agree t.coupons a <;> rfl
theorem eqI_ne {a b : Int} (h : ¬ a = b) : eqI a b = false := by rw [eqI_eq]; simpa using h
theorem eqI_same {a b : Int} (h : a = b) : eqI a b = true := by rw [eqI_eq]; simpa using h
theorem dayB_of {n : Int} (h : 0 ≤ n ∧ n ≤ 1000000) : dayB n = true := by unfold dayB; simp; omega
theorem cat_ones {i e : Nat} {b : Nat → List AV} (he : e < i + 2) (hb : b 0 = [.int .i64 1]) : catRow (i + 1) (fun e => [AV.int .i64 ((ones (i + 1)).getD e 0)]) b e = [.int .i64 ((ones (i + 2)).getD e 0)] := by
  unfold catRow
  rcases Nat.lt_or_ge e (i + 1) with h | h
  · rw [if_pos h]
    show [AV.int .i64 ((ones (i + 1)).getD e 0)] = _
    rw [ones_getD h, ones_getD (by omega)]
  · obtain rfl : e = i + 1 := by omega
    rw [if_neg (by omega), Nat.sub_self, ones_getD (by omega), hb]
def oslE (id : Nat) : Nat → AV
  | 0 => .nilsl
  | n + 1 => .osl id 1 0 (n + 1) none
def rowN (n : Nat) (l : List Int) : Blk := match n with
  | 0 => .dead
  | n + 1 => rowI (n + 1) l
def LThen3 (t : Ticket) (til : Int) : LoopSpec := {
  α := Nat
  keep := [1, 2, 6, 7, 8]
  vals i := [.int .i64 til, .ptr 0 0, oslE 1 i, oslE 2 i, .int .i64 i]
  heap i := [.var t.enc, rowN i (ones i), rowN i (ones i)]
  ok i := i ≤ t.coupons.length
  μ i := t.coupons.length - i }
abbrev TS3 := Nat × List Int × Int × List Int
def thenHeap (t : Ticket) (now thn : List Int) : List Blk := [.var t.enc, rowI t.coupons.length now, rowI t.coupons.length thn]
def LThen9 (t : Ticket) (til : Int) : LoopSpec := {
  α := TS3
  keep := [1, 2, 6, 7, 9, 10]
  vals x := [.int .i64 til, .ptr 0 0, .osl 1 1 0 t.coupons.length none, .osl 2 1 0 t.coupons.length none, .int .i64 x.2.2.1, .int .i64 x.1]
  heap x := thenHeap t x.2.1 x.2.2.2
  ok x := x.1 ≤ t.history.length ∧ x.2.1.length = t.coupons.length ∧ x.2.2.2.length = t.coupons.length ∧ 0 ≤ x.2.2.1 ∧
    runH til x.2.1 x.2.2.2 x.2.2.1 (t.history.drop x.1) = runH til (ones t.coupons.length) (ones t.coupons.length) t.issued t.history
  μ x := t.history.length - x.1 }
def LThen19 (t : Ticket) (til : Int) : LoopSpec := {
  α := Nat × List Int × List Int
  keep := [2, 6, 7, 12]
  vals x := [.ptr 0 0, .osl 1 1 0 t.coupons.length none, .osl 2 1 0 t.coupons.length none, .int .i64 x.1]
  heap x := thenHeap t x.2.1 x.2.2
  ok x := x.1 ≤ t.coupons.length ∧ x.2.1.length = t.coupons.length ∧ x.2.2.length = t.coupons.length ∧
    runH til (ones t.coupons.length) (ones t.coupons.length) t.issued t.history = some (x.2.1, x.2.2) ∧ agree (t.coupons.drop x.1) (x.2.1.drop x.1) = agree t.coupons x.2.1
  μ x := t.coupons.length - x.1 }
def pcThen : PC := PC.of (α := Ticket × Int) (fun (t, til) => [.agg t.enc, .int .i64 til]) (fun (t, _) => 1 ≤ t.coupons.length ∧ t.coupons.length ≤ 4 ∧ t.history.length ≤ 60 ∧ 0 ≤ t.issued) (fun x => toldR x.1 x.2)
def D_couponref13_Then : PT := tabD [(137, pcLeads)]
def C_couponref13_Then : FuncId → Option Ctr := tabC D_couponref13_Then []
def L_couponref13_Then : Ticket × Int → Nat → Option LR := fun (t, til) i => cond (Nat.beq i 3) (some (.inv (LThen3 t til))) (cond (Nat.beq i 9) (some (.inv (LThen9 t til))) (cond (Nat.beq i 19) (some (.inv (LThen19 t til))) (none)))
set_option maxHeartbeats 4000000 in
theorem g_couponref13_Then {W : World} (hW : Tabs W) : GoodP (Fw W) Tryz.prog 68 pcThen := by
  have hD : PTOk (Fw W) Tryz.prog D_couponref13_Then := (tabD_cons Tryz.call137 (g_couponref12_Leads hW) tabD_nil)
  have hC0 : ∀ x : Ticket × Int, CtrOk (Fw W) Tryz.prog (C_couponref13_Then) := fun x => (tabC_nil hD)
  refine goodP_ofC (D := D_couponref13_Then) (C := fun x => C_couponref13_Then) (wr := (fun _ => false)) rfl tyOk hD hC0 Tryz.func68 (L_couponref13_Then) (fun _ => rfl) ?_
  rintro ⟨t, til⟩ hf hp
  obtain ⟨hp1, hp2, hp3, hp4⟩ := hp
  (conv => whnf)
  all_goals (try (show _ = _; simp only [wQ]))
  refine ⟨?_, fun (i : Nat) (hi : i ≤ t.coupons.length) => ?_⟩
  · (conv => whnf)
    refine ⟨(0 : Nat), [], ?_, ⟨⟨rfl, Nat.le_of_ble_eq_true rfl, rfl⟩, ?_, ?_⟩⟩
    · exact Nat.zero_le _
    · (conv => whnf)
      (repeat' ((first | with_reducible exact True.intro | ((with_reducible refine And.intro ?_ ?_); focus (first | with_reducible rfl | omega | exact Nat.le_of_ble_eq_true rfl | rfl)) | with_reducible refine And.intro (?_ : leA _ _ _) ?_ | fail) <;> (conv => whnf)))
      all_goals (try simp only [wQ])
      all_goals (try first | omega)
    · (conv => whnf)
      (repeat' ((first | with_reducible exact True.intro | ((with_reducible refine And.intro ?_ ?_); focus (first | with_reducible rfl | omega | exact Nat.le_of_ble_eq_true rfl | rfl)) | with_reducible refine And.intro (?_ : leA _ _ _) ?_ | with_reducible refine And.intro (?_ : leL _ _ _) ?_ | with_reducible refine And.intro (?_ : leBlk _ _ _ _) ?_ | fail) <;> (conv => whnf)))
      all_goals (try simp only [wQ])
      all_goals (try first | rfl | exact ⟨fun h => h, fun _ _ => True.intro⟩)
  · have step : ∀ i, i < t.coupons.length → (LThen3 t til).ok (i + 1) ∧ (LThen3 t til).μ (i + 1) < (LThen3 t til).μ i := fun i h => ⟨show i + 1 ≤ t.coupons.length by omega, show t.coupons.length - (i + 1) < t.coupons.length - i by omega⟩
    rcases i with _ | i
    · (conv => whnf)
      (repeat' ((first
        | ((with_reducible refine And.intro ?_ ?_); focus (first | omega | (simp only [inK_def, Go.Vc.lo, Go.Vc.hi]; omega) | (simp only [growOk, ty2, ty3, ty4, ty5, ty9, ty21, ty37, ty42, ty43, ty45, ty47, ty67, ty95, ty105, ty113, ty150, ty161, ty198, ty242, ty275]; first | omega | (refine ⟨?_, ?_⟩ <;> omega))))
        | (split <;> rename_i hh <;> (try simp only [wS] at hh) <;> (try simp (disch := omega) only [Int.tdiv_eq_ediv_of_nonneg, Int.tmod_eq_emod_of_nonneg] at hh))
        | with_reducible refine (fun (hln : (_ : Int) ≤ 9223372036854775807) => ?_)
        | fail) <;> (conv => whnf)))
      all_goals (try (show _ = _; simp only [wQ]))
      · (conv => whnf)
        refine ⟨(1 : Nat), [4, 6], ?_, ⟨⟨rfl, Nat.le_of_ble_eq_true rfl, rfl⟩, ?_, ?_⟩⟩
        · exact step 0 (by omega)
        · (conv => whnf)
          (repeat' ((first | with_reducible exact True.intro | ((with_reducible refine Or.inr ?_); rfl) | ((with_reducible refine And.intro ?_ ?_); focus (first | with_reducible rfl | omega | exact Nat.le_of_ble_eq_true rfl | rfl)) | with_reducible refine And.intro (?_ : leA _ _ _) ?_ | fail) <;> (conv => whnf)))
          all_goals (try simp only [wQ])
          all_goals (try first | omega)
        · (conv => whnf)
          (repeat' ((first | with_reducible exact True.intro | ((with_reducible refine And.intro ?_ ?_); focus (first | with_reducible rfl | omega | exact Nat.le_of_ble_eq_true rfl | rfl)) | with_reducible refine And.intro (?_ : leA _ _ _) ?_ | with_reducible refine And.intro (?_ : leL _ _ _) ?_ | with_reducible refine And.intro (?_ : leBlk _ _ _ _) ?_ | fail) <;> (conv => whnf)))
          all_goals (try simp only [wQ])
          all_goals (try first | rfl | exact ⟨fun h => h, fun _ _ => True.intro⟩)
          all_goals (intro e he; obtain rfl : e = 0 := (by omega); exact ⟨rfl, rfl⟩)
      · exfalso; omega
    · (conv => whnf)
      (repeat' ((first
        | ((with_reducible refine And.intro ?_ ?_); focus (first | ((with_reducible refine ⟨?_, ?_, ?_⟩) <;> first | (intro e he; rcases (by omega : e = 0 ∨ e = 1 ∨ e = 2 ∨ e = 3 ∨ e = 4 ∨ e = 5) with rfl | rfl | rfl | rfl | rfl | rfl <;> first | rfl | (exfalso; omega)) | (with_reducible assumption) | omega | ((with_reducible show growOk _ _); simp only [growOk, ty2, ty3, ty4, ty5, ty9, ty21, ty37, ty42, ty43, ty45, ty47, ty67, ty95, ty105, ty113, ty150, ty161, ty198, ty242, ty275, List.length_cons, List.length_nil]; first | omega | (refine ⟨?_, ?_⟩ <;> omega))) | omega | (simp only [inK_def, Go.Vc.lo, Go.Vc.hi]; omega)))
        | (split <;> rename_i hh <;> (try simp only [wS] at hh) <;> (try simp (disch := omega) only [Int.tdiv_eq_ediv_of_nonneg, Int.tmod_eq_emod_of_nonneg] at hh))
        | with_reducible refine (fun (hln : (_ : Int) ≤ 9223372036854775807) => ?_)
        | fail) <;> (conv => whnf)))
      all_goals (try (show _ = _; simp only [wQ]))
      · (conv => whnf)
        refine ⟨(i + 2 : Nat), [4, 6], ?_, ⟨⟨rfl, Nat.le_of_ble_eq_true rfl, rfl⟩, ?_, ?_⟩⟩
        · exact step (i + 1) (by omega)
        · (conv => whnf)
          (repeat' ((first | with_reducible exact True.intro | ((with_reducible refine Or.inr ?_); rfl) | ((with_reducible refine And.intro ?_ ?_); focus (first | with_reducible rfl | omega | exact Nat.le_of_ble_eq_true rfl | rfl)) | with_reducible refine And.intro (?_ : leA _ _ _) ?_ | fail) <;> (conv => whnf)))
          all_goals (try simp only [wQ])
          all_goals (try first | omega)
        · (conv => whnf)
          (repeat' ((first | with_reducible exact True.intro | ((with_reducible refine And.intro ?_ ?_); focus (first | with_reducible rfl | omega | exact Nat.le_of_ble_eq_true rfl | rfl)) | with_reducible refine And.intro (?_ : leA _ _ _) ?_ | with_reducible refine And.intro (?_ : leL _ _ _) ?_ | with_reducible refine And.intro (?_ : leBlk _ _ _ _) ?_ | fail) <;> (conv => whnf)))
          all_goals (try simp only [wQ])
          all_goals (try first | rfl | exact ⟨fun h => h, fun _ _ => True.intro⟩)
          all_goals (intro e he; exact ⟨cat_ones (by omega) rfl, rfl⟩)
      · have hi : i + 1 = t.coupons.length := by omega
        refine ⟨?_, fun (x : TS3) hx => ?_⟩
        · (conv => whnf)
          refine ⟨((0, ones t.coupons.length, t.issued, ones t.coupons.length) : TS3), [], ?_, ⟨⟨rfl, Nat.le_of_ble_eq_true rfl, rfl⟩, ?_, ?_⟩⟩
          · exact ⟨Nat.zero_le _, by simp [ones], by simp [ones], hp4, rfl⟩
          · (conv => whnf)
            (repeat' ((first | with_reducible exact True.intro | ((with_reducible refine Or.inr ?_); rfl) | ((with_reducible refine And.intro ?_ ?_); focus (first | with_reducible rfl | omega | exact Nat.le_of_ble_eq_true rfl | rfl)) | with_reducible refine And.intro (?_ : leA _ _ _) ?_ | fail) <;> (conv => whnf)))
            all_goals (try simp only [wQ])
            all_goals (try first | omega)
          · (conv => whnf)
            (repeat' ((first | with_reducible exact True.intro | ((with_reducible refine And.intro ?_ ?_); focus (first | with_reducible rfl | omega | exact Nat.le_of_ble_eq_true rfl | rfl)) | with_reducible refine And.intro (?_ : leA _ _ _) ?_ | with_reducible refine And.intro (?_ : leL _ _ _) ?_ | with_reducible refine And.intro (?_ : leBlk _ _ _ _) ?_ | fail) <;> (conv => whnf)))
            all_goals (try simp only [wQ])
            all_goals (try first | rfl | exact ⟨fun h => h, fun _ _ => True.intro⟩)
            all_goals (intro e he; refine ⟨?_, rfl⟩; rw [ones_getD (by omega), ones_getD he])
        · obtain ⟨h1, h2, h3, h4, h5⟩ := hx
          have hst : stepB x.2.1 x.2.2.1 (t.history.getD (Int.toNat (x.1 : Int)) default) = true → (1 ≤ (t.history.getD (Int.toNat (x.1 : Int)) default).coupon ∧ (t.history.getD (Int.toNat (x.1 : Int)) default).coupon ≤ x.2.1.length) ∧ x.2.2.1 ≤ (t.history.getD (Int.toNat (x.1 : Int)) default).day ∧ dayB (t.history.getD (Int.toNat (x.1 : Int)) default).day = true ∧ (t.history.getD (Int.toNat (x.1 : Int)) default).src = x.2.1.getD ((t.history.getD (Int.toNat (x.1 : Int)) default).coupon - 1).toNat 0 ∧ leadsN (t.history.getD (Int.toNat (x.1 : Int)) default).src (t.history.getD (Int.toNat (x.1 : Int)) default).dst = true := fun h => by
            simp only [stepB, Bool.and_eq_true, decide_eq_true_eq] at h
            exact ⟨h.1.1.1.1, h.1.1.1.2, h.1.1.2, h.1.2, h.2⟩
          have hnone : x.1 < t.history.length → stepB x.2.1 x.2.2.1 (t.history.getD (Int.toNat (x.1 : Int)) default) = false → (toldB t til).isSome = false := fun h hs => by
            have : runH til (ones t.coupons.length) (ones t.coupons.length) t.issued t.history = none := by
              rw [← h5, drop_getD h]
              show (bif stepB x.2.1 x.2.2.1 (t.history.getD (Int.toNat (x.1 : Int)) default) then _ else none) = none
              rw [hs]; rfl
            unfold toldB; rw [this]; rfl
          have hgo : x.1 < t.history.length → stepB x.2.1 x.2.2.1 (t.history.getD (Int.toNat (x.1 : Int)) default) = true → runH til (x.2.1.set ((t.history.getD (Int.toNat (x.1 : Int)) default).coupon - 1).toNat (t.history.getD (Int.toNat (x.1 : Int)) default).dst) (bif decide ((t.history.getD (Int.toNat (x.1 : Int)) default).day ≤ til) then x.2.2.2.set ((t.history.getD (Int.toNat (x.1 : Int)) default).coupon - 1).toNat (t.history.getD (Int.toNat (x.1 : Int)) default).dst else x.2.2.2) (t.history.getD (Int.toNat (x.1 : Int)) default).day (t.history.drop (x.1 + 1)) = runH til (ones t.coupons.length) (ones t.coupons.length) t.issued t.history := fun h hs => by
            rw [← h5, drop_getD h]
            show _ = (bif stepB x.2.1 x.2.2.1 (t.history.getD (Int.toNat (x.1 : Int)) default) then _ else none)
            rw [hs]; rfl
          (conv => whnf)
          (repeat' ((first
            | with_reducible exact True.intro
            | ((with_reducible refine And.intro ?_ ?_); focus (first | with_reducible exact True.intro | ((with_reducible show okB _ _ _ = true); rfl) | omega | (simp only [inK_def, Go.Vc.lo, Go.Vc.hi]; omega) | exact True.intro))
            | (split <;> rename_i hh <;> (try simp only [wS] at hh) <;> (try simp (disch := omega) only [Int.tdiv_eq_ediv_of_nonneg, Int.tmod_eq_emod_of_nonneg] at hh))
            | with_reducible refine (fun (hln : (_ : Int) ≤ 9223372036854775807) => ?_)
            | with_reducible refine And.intro (?_ : leA _ _ _) ?_
            | fail) <;> (conv => whnf)))
          all_goals (try (show _ = _; simp only [wQ]))
          all_goals try (
            have hs : stepB x.2.1 x.2.2.1 (t.history.getD (Int.toNat (x.1 : Int)) default) = false := by
              refine Bool.eq_false_iff.2 fun h => ?_
              obtain ⟨⟨a1, a2⟩, a3, a4, a5, a6⟩ := hst h
              have := dayB_le a4
              first | omega | (rename_i hh; first | (rw [a6] at hh; cases hh; done) | (rw [Nat.zero_add] at hh; exact hh a5))
            exact (hnone (by omega) hs).symm)
          · have hs : stepB x.2.1 x.2.2.1 (t.history.getD (Int.toNat (x.1 : Int)) default) = true := by
              simp only [stepB, Bool.and_eq_true, decide_eq_true_eq]
              rw [Nat.zero_add] at *
              exact ⟨⟨⟨⟨⟨by omega, by omega⟩, by omega⟩, dayB_of ⟨by omega, by omega⟩⟩, by assumption⟩, by assumption⟩
            (conv => whnf)
            refine ⟨((x.1 + 1, x.2.1.set ((t.history.getD (Int.toNat (x.1 : Int)) default).coupon - 1).toNat (t.history.getD (Int.toNat (x.1 : Int)) default).dst, (t.history.getD (Int.toNat (x.1 : Int)) default).day, x.2.2.2.set ((t.history.getD (Int.toNat (x.1 : Int)) default).coupon - 1).toNat (t.history.getD (Int.toNat (x.1 : Int)) default).dst) : TS3), [], ?_, ⟨⟨rfl, Nat.le_of_ble_eq_true rfl, rfl⟩, ?_, ?_⟩⟩
            · refine ⟨⟨show x.1 + 1 ≤ t.history.length by omega, (List.length_set ..).trans h2, (List.length_set ..).trans h3, show 0 ≤ (t.history.getD (Int.toNat (x.1 : Int)) default).day by omega, ?_⟩, show t.history.length - (x.1 + 1) < t.history.length - x.1 by omega⟩
              have := hgo (by omega) hs
              rw [decide_eq_true (by assumption)] at this
              exact this
            · (conv => whnf)
              (repeat' ((first | with_reducible exact True.intro | ((with_reducible refine Or.inr ?_); rfl) | ((with_reducible refine And.intro ?_ ?_); focus (first | with_reducible rfl | omega | exact Nat.le_of_ble_eq_true rfl | rfl)) | with_reducible refine And.intro (?_ : leA _ _ _) ?_ | fail) <;> (conv => whnf)))
              all_goals (try simp only [wQ])
              all_goals (try first | omega)
            · (conv => whnf)
              (repeat' ((first | with_reducible exact True.intro | ((with_reducible refine And.intro ?_ ?_); focus (first | with_reducible rfl | omega | exact Nat.le_of_ble_eq_true rfl | rfl)) | with_reducible refine And.intro (?_ : leA _ _ _) ?_ | with_reducible refine And.intro (?_ : leL _ _ _) ?_ | with_reducible refine And.intro (?_ : leBlk _ _ _ _) ?_ | fail) <;> (conv => whnf)))
              all_goals (try simp only [wQ])
              all_goals (try first | rfl | exact ⟨fun h => h, fun _ _ => True.intro⟩)
              all_goals (intro e he; exact ⟨row_set (by omega), rfl⟩)
          · have hs : stepB x.2.1 x.2.2.1 (t.history.getD (Int.toNat (x.1 : Int)) default) = true := by
              simp only [stepB, Bool.and_eq_true, decide_eq_true_eq]
              rw [Nat.zero_add] at *
              exact ⟨⟨⟨⟨⟨by omega, by omega⟩, by omega⟩, dayB_of ⟨by omega, by omega⟩⟩, by assumption⟩, by assumption⟩
            (conv => whnf)
            refine ⟨((x.1 + 1, x.2.1.set ((t.history.getD (Int.toNat (x.1 : Int)) default).coupon - 1).toNat (t.history.getD (Int.toNat (x.1 : Int)) default).dst, (t.history.getD (Int.toNat (x.1 : Int)) default).day, x.2.2.2) : TS3), [], ?_, ⟨⟨rfl, Nat.le_of_ble_eq_true rfl, rfl⟩, ?_, ?_⟩⟩
            · refine ⟨⟨show x.1 + 1 ≤ t.history.length by omega, (List.length_set ..).trans h2, h3, show 0 ≤ (t.history.getD (Int.toNat (x.1 : Int)) default).day by omega, ?_⟩, show t.history.length - (x.1 + 1) < t.history.length - x.1 by omega⟩
              have := hgo (by omega) hs
              rw [decide_eq_false (by omega)] at this
              exact this
            · (conv => whnf)
              (repeat' ((first | with_reducible exact True.intro | ((with_reducible refine Or.inr ?_); rfl) | ((with_reducible refine And.intro ?_ ?_); focus (first | with_reducible rfl | omega | exact Nat.le_of_ble_eq_true rfl | rfl)) | with_reducible refine And.intro (?_ : leA _ _ _) ?_ | fail) <;> (conv => whnf)))
              all_goals (try simp only [wQ])
              all_goals (try first | omega)
            · (conv => whnf)
              (repeat' ((first | with_reducible exact True.intro | ((with_reducible refine And.intro ?_ ?_); focus (first | with_reducible rfl | omega | exact Nat.le_of_ble_eq_true rfl | rfl)) | with_reducible refine And.intro (?_ : leA _ _ _) ?_ | with_reducible refine And.intro (?_ : leL _ _ _) ?_ | with_reducible refine And.intro (?_ : leBlk _ _ _ _) ?_ | fail) <;> (conv => whnf)))
              all_goals (try simp only [wQ])
              all_goals (try first | rfl | exact ⟨fun h => h, fun _ _ => True.intro⟩)
              · intro e he; exact ⟨row_set (by omega), rfl⟩
              · intro e he; exact ⟨True.intro, rfl⟩
          · have hx : t.history.drop x.1 = [] := List.drop_eq_nil_of_le (by omega)
            rw [hx] at h5
            have h6 : runH til (ones t.coupons.length) (ones t.coupons.length) t.issued t.history = some (x.2.1, x.2.2.2) := h5.symm
            refine ⟨?_, fun (y : Nat × List Int × List Int) hy => ?_⟩
            · (conv => whnf)
              refine ⟨((0, x.2.1, x.2.2.2) : Nat × List Int × List Int), [], ?_, ⟨⟨rfl, Nat.le_of_ble_eq_true rfl, rfl⟩, ?_, ?_⟩⟩
              · exact ⟨Nat.zero_le _, h2, h3, h6, rfl⟩
              · (conv => whnf)
                (repeat' ((first | with_reducible exact True.intro | ((with_reducible refine Or.inr ?_); rfl) | ((with_reducible refine And.intro ?_ ?_); focus (first | with_reducible rfl | omega | exact Nat.le_of_ble_eq_true rfl | rfl)) | with_reducible refine And.intro (?_ : leA _ _ _) ?_ | fail) <;> (conv => whnf)))
                all_goals (try simp only [wQ])
                all_goals (try first | omega)
              · (conv => whnf)
                (repeat' ((first | with_reducible exact True.intro | ((with_reducible refine And.intro ?_ ?_); focus (first | with_reducible rfl | omega | exact Nat.le_of_ble_eq_true rfl | rfl)) | with_reducible refine And.intro (?_ : leA _ _ _) ?_ | with_reducible refine And.intro (?_ : leL _ _ _) ?_ | with_reducible refine And.intro (?_ : leBlk _ _ _ _) ?_ | fail) <;> (conv => whnf)))
                all_goals (try simp only [wQ])
                all_goals (try first | rfl | exact ⟨fun h => h, fun _ _ => True.intro⟩)
                all_goals (intro e he; exact ⟨True.intro, rfl⟩)
            · obtain ⟨g1, g2, g3, g4, g5⟩ := hy
              have hag : y.1 < t.coupons.length → agree t.coupons y.2.1 = (eqI (t.coupons.getD (Int.toNat (y.1 : Int)) default).status (y.2.1.getD (0 + Int.toNat (y.1 : Int)) 0) && agree (t.coupons.drop (y.1 + 1)) (y.2.1.drop (y.1 + 1))) := fun h => by
                rw [← g5, drop_getD h, eqI_eq]
                show (decide ((t.coupons.getD y.1 default).status = (y.2.1.drop y.1).getD 0 0) && agree _ ((y.2.1.drop y.1).drop 1)) = _
                rw [List.drop_drop]
                have : (y.2.1.drop y.1).getD 0 0 = y.2.1.getD (0 + Int.toNat (y.1 : Int)) 0 := by
                  simp [List.getD_eq_getElem?_getD, List.getElem?_drop]
                rw [this]; rfl
              have htold : (toldB t til).isSome = agree t.coupons y.2.1 := by
                unfold toldB; rw [g4]; simp only; cases agree t.coupons y.2.1 <;> rfl
              (conv => whnf)
              (repeat' ((first
                | with_reducible exact True.intro
                | ((with_reducible refine And.intro ?_ ?_); focus (first | ((with_reducible show okB _ _ _ = true); rfl) | omega | (simp only [inK_def, Go.Vc.lo, Go.Vc.hi]; omega) | exact True.intro))
                | (split <;> rename_i hh <;> (try simp only [wS] at hh) <;> (try simp (disch := omega) only [Int.tdiv_eq_ediv_of_nonneg, Int.tmod_eq_emod_of_nonneg] at hh))
                | with_reducible refine (fun (hln : (_ : Int) ≤ 9223372036854775807) => ?_)
                | with_reducible refine And.intro (?_ : leA _ _ _) ?_
                | fail) <;> (conv => whnf)))
              all_goals (try (show _ = _; simp only [wQ]))
              · rw [htold, hag (by omega), eqI_ne (fun h => (by assumption : ¬ _ = _) h.symm)]; rfl
              · (conv => whnf)
                refine ⟨((y.1 + 1, y.2.1, y.2.2) : Nat × List Int × List Int), [], ?_, ⟨⟨rfl, Nat.le_of_ble_eq_true rfl, rfl⟩, ?_, ?_⟩⟩
                · refine ⟨⟨show y.1 + 1 ≤ t.coupons.length by omega, g2, g3, g4, ?_⟩, show t.coupons.length - (y.1 + 1) < t.coupons.length - y.1 by omega⟩
                  show agree (t.coupons.drop (y.1 + 1)) (y.2.1.drop (y.1 + 1)) = agree t.coupons y.2.1
                  rw [hag (by omega), eqI_same (by symm; assumption), Bool.true_and]
                · (conv => whnf)
                  (repeat' ((first | with_reducible exact True.intro | ((with_reducible refine Or.inr ?_); rfl) | ((with_reducible refine And.intro ?_ ?_); focus (first | with_reducible rfl | omega | exact Nat.le_of_ble_eq_true rfl | rfl)) | with_reducible refine And.intro (?_ : leA _ _ _) ?_ | fail) <;> (conv => whnf)))
                  all_goals (try simp only [wQ])
                  all_goals (try first | omega)
                · (conv => whnf)
                  (repeat' ((first | with_reducible exact True.intro | ((with_reducible refine And.intro ?_ ?_); focus (first | with_reducible rfl | omega | exact Nat.le_of_ble_eq_true rfl | rfl)) | with_reducible refine And.intro (?_ : leA _ _ _) ?_ | with_reducible refine And.intro (?_ : leL _ _ _) ?_ | with_reducible refine And.intro (?_ : leBlk _ _ _ _) ?_ | fail) <;> (conv => whnf)))
                  all_goals (try simp only [wQ])
                  all_goals (try first | rfl | exact ⟨fun h => h, fun _ _ => True.intro⟩)
                  all_goals (intro e he; exact ⟨True.intro, rfl⟩)
              · refine ⟨⟨by omega, fun e he => rfl⟩, ?_⟩
                have hy : t.coupons.drop y.1 = [] := List.drop_eq_nil_of_le (by omega)
                rw [hy] at g5
                (conv => whnf)
                (repeat' ((first
                  | with_reducible exact True.intro
                  | ((with_reducible refine And.intro ?_ ?_); focus (exact True.intro))
                  | with_reducible refine And.intro (?_ : leA _ _ _) ?_
                  | fail) <;> (conv => whnf)))
                all_goals (try (show _ = _; simp only [wQ]))
                rw [htold, ← g5]; rfl
end
end Go.Vc.Z

/- Tickets: may one be? The document's. -/
namespace Go.Vc.Z
open Go Go.Vc Go.Proofs Go.RowKit Go.Pl Go.Lib
noncomputable section
set_option maxRecDepth 100000
set_option linter.unusedSimpArgs false
set_option linter.unusedVariables false
attribute [local irreducible] inK Utf8.decode Utf8.encode Lib.itoa Pl.worth Pl.allDig
def LMayR8 (t : Ticket) : LoopSpec := {
  α := Nat
  keep := [1, 3]
  vals i := [.ptr 0 0, .int .i64 i]
  heap i := [.var t.enc]
  ok i := i ≤ t.coupons.length ∧ couponsB t.number (t.coupons.drop i) = couponsB t.number t.coupons
  μ i := t.coupons.length - i }
def LMayR13 (t : Ticket) : LoopSpec := {
  α := Nat
  keep := [1, 4]
  vals i := [.ptr 0 0, .int .i64 i]
  heap i := [.var t.enc]
  ok i := i ≤ t.taxes.length ∧ (0 < i → 1 ≤ (t.taxes.getD (i - 1) default).code) ∧ taxesFrom (if i = 0 then 1 else (t.taxes.getD (i - 1) default).code + 1) (t.taxes.drop i) = taxesFrom 1 t.taxes
  μ i := t.taxes.length - i }
theorem numdB_0 : numdB 0 = false := by
  unfold numdB; rw [decide_eq_false]; decide +kernel
def D_couponref13_May : PT := tabD [(63, pcNumd), (64, pcLocator), (65, pcDay), (66, pcMayCouponR), (67, pcSome), (68, pcThen)]
def C_couponref13_May : FuncId → Option Ctr := tabC D_couponref13_May []
def L_couponref13_May : Ticket → Nat → Option LR := fun t i => cond (Nat.beq i 8) (some (.inv (LMayR8 t))) (cond (Nat.beq i 13) (some (.inv (LMayR13 t))) (none))
set_option maxHeartbeats 4000000 in
theorem g_couponref13_May {W : World} (hW : Tabs W) : GoodP (Fw W) Tryz.prog 19 pcMayTicket := by
  have hD : PTOk (Fw W) Tryz.prog D_couponref13_May := (tabD_cons Tryz.call63 (g_couponref13_Numbered hW) (tabD_cons Tryz.call64 (g_couponref10_Locator hW) (tabD_cons Tryz.call65 (g_couponref13_day hW) (tabD_cons Tryz.call66 (g_couponref13_mayCoupon hW) (tabD_cons Tryz.call67 (g_couponref13_some hW) (tabD_cons Tryz.call68 (g_couponref13_Then hW) tabD_nil))))))
  have hC0 : ∀ t : Ticket, CtrOk (Fw W) Tryz.prog (C_couponref13_May) := fun t => (tabC_nil hD)
  refine goodP_ofC (D := D_couponref13_May) (C := fun t => C_couponref13_May) (wr := (fun _ => false)) rfl tyOk hD hC0 Tryz.func19 (L_couponref13_May) (fun _ => rfl) ?_
  intro t hf hp
  have hhead : headB t = true ↔ numdB t.number = true ∧ locOk t.locator = true ∧ dayB t.issued = true ∧ ((t.prev = 0 ∧ t.origin = t.number) ∨ ((numdB t.prev = true ∧ ¬ t.prev = t.number) ∧ numdB t.origin = true ∧ ¬ t.origin = t.number)) ∧ numdB t.first = true ∧ 0 ≤ t.voucher ∧ t.voucher ≤ 1125899906842624 ∧ 0 ≤ t.posts ∧ t.posts ≤ 200 := by
    unfold headB mayHeadB ownB otherB
    simp only [Bool.and_eq_true, Bool.or_eq_true, decide_eq_true_eq, ne_eq, and_assoc]
  have hbad : ∀ (h : (headB t = true → 1 ≤ t.coupons.length → t.coupons.length ≤ 4 → t.history.length ≤ 60 → t.taxes.length ≤ 4 → taxesFrom 1 t.taxes = true → couponsB t.number t.coupons = true → False)), false = mayTicketB t := fun h => by
    symm
    refine Bool.eq_false_iff.2 fun hm => ?_
    unfold mayTicketB taxesB at hm
    simp only [Bool.and_eq_true, decide_eq_true_eq] at hm
    exact h hm.1.1.1.2 hm.1.1.1.1.1.1 hm.1.1.1.1.1.2 hm.1.1.1.1.2 hm.1.1.2.2 hm.1.1.2.1 hm.1.2
  (conv => whnf)
  (repeat' ((first
    | ((with_reducible refine And.intro ?_ ?_); focus (first | with_reducible exact True.intro | omega))
    | (split <;> rename_i hh <;> (try simp only [wS] at hh) <;> (try simp (disch := omega) only [Int.tdiv_eq_ediv_of_nonneg, Int.tmod_eq_emod_of_nonneg] at hh))
    | with_reducible refine (fun (hln : (_ : Int) ≤ 9223372036854775807) => ?_)
    | fail) <;> (conv => whnf)))
  all_goals (try (show _ = _; simp only [wQ]))
  all_goals try (refine hbad fun k1 k2 k3 k4 k5 k6 k7 => ?_; obtain ⟨a1, a2, a3, a4, a5, a6, a7, a8, a9⟩ := hhead.1 k1; first | omega | (simp_all; done) | (rcases a4 with ⟨b1, b2⟩ | ⟨⟨b1, b2⟩, b3, b4⟩ <;> first | omega | (simp_all; done) | (simp_all [numdB_0]; done)))
  all_goals try (exfalso; omega)
  all_goals (have hH : headB t = true := hhead.2 ⟨by assumption, by assumption, by assumption, by first | exact .inl ⟨by assumption, by assumption⟩ | exact .inr ⟨⟨by assumption, by assumption⟩, by assumption, by assumption⟩, by assumption, by assumption, by assumption, by assumption, by assumption⟩)
  all_goals refine ⟨?_, fun (i : Nat) hi => ?_⟩
  all_goals try (
    (conv => whnf)
    refine ⟨(0 : Nat), [], ?_, ⟨⟨rfl, Nat.le_of_ble_eq_true rfl, rfl⟩, ?_, ?_⟩⟩
    · exact ⟨Nat.zero_le _, rfl⟩
    · (conv => whnf)
      (repeat' ((first | with_reducible exact True.intro | ((with_reducible refine And.intro ?_ ?_); focus (first | with_reducible rfl | omega | exact Nat.le_of_ble_eq_true rfl | rfl)) | with_reducible refine And.intro (?_ : leA _ _ _) ?_ | fail) <;> (conv => whnf)))
      all_goals (try simp only [wQ])
      all_goals (try first | omega)
    · (conv => whnf)
      (repeat' ((first | with_reducible exact True.intro | ((with_reducible refine And.intro ?_ ?_); focus (first | with_reducible rfl | omega | exact Nat.le_of_ble_eq_true rfl | rfl)) | with_reducible refine And.intro (?_ : leA _ _ _) ?_ | with_reducible refine And.intro (?_ : leL _ _ _) ?_ | with_reducible refine And.intro (?_ : leBlk _ _ _ _) ?_ | fail) <;> (conv => whnf)))
      all_goals (try simp only [wQ])
      all_goals (try first | rfl | exact ⟨fun h => h, fun _ _ => True.intro⟩)
    done)
  all_goals (
    obtain ⟨h1, h2⟩ := hi
    have hd : i < t.coupons.length → couponsB t.number t.coupons = (couponOkB t.number (t.coupons.getD (Int.toNat (i : Int)) default) && couponsB t.number (t.coupons.drop (i + 1))) := fun h => by
      rw [← h2, drop_getD h]; rfl
    (conv => whnf)
    (repeat' ((first
      | ((with_reducible refine And.intro ?_ ?_); focus (first | with_reducible exact True.intro | ((with_reducible show okB _ _ _ = true); rfl) | omega | (simp only [inK_def, Go.Vc.lo, Go.Vc.hi]; omega)))
      | (split <;> rename_i hh <;> (try simp only [wS] at hh) <;> (try simp (disch := omega) only [Int.tdiv_eq_ediv_of_nonneg, Int.tmod_eq_emod_of_nonneg] at hh))
      | with_reducible refine (fun (hln : (_ : Int) ≤ 9223372036854775807) => ?_)
      | fail) <;> (conv => whnf)))
    all_goals (try (show _ = _; simp only [wQ])))
  all_goals try (
    have : couponsB t.number t.coupons = false := by rw [hd (by omega)]; simp_all [couponOkB]
    refine hbad fun k1 k2 k3 k4 k5 k6 k7 => ?_
    rw [this] at k7; cases k7)
  all_goals try (
    (conv => whnf)
    refine ⟨(i + 1 : Nat), [], ?_, ⟨⟨rfl, Nat.le_of_ble_eq_true rfl, rfl⟩, ?_, ?_⟩⟩
    · refine ⟨⟨show i + 1 ≤ t.coupons.length by omega, ?_⟩, show t.coupons.length - (i + 1) < t.coupons.length - i by omega⟩
      rw [hd (by omega), couponOkB, (by assumption : mayCouponB _ _ _ _ _ _ _ = true), Bool.true_and]
    · (conv => whnf)
      (repeat' ((first | with_reducible exact True.intro | ((with_reducible refine And.intro ?_ ?_); focus (first | with_reducible rfl | omega | exact Nat.le_of_ble_eq_true rfl | rfl)) | with_reducible refine And.intro (?_ : leA _ _ _) ?_ | fail) <;> (conv => whnf)))
      all_goals (try simp only [wQ])
      all_goals (try first | omega)
    · (conv => whnf)
      (repeat' ((first | with_reducible exact True.intro | ((with_reducible refine And.intro ?_ ?_); focus (first | with_reducible rfl | omega | exact Nat.le_of_ble_eq_true rfl | rfl)) | with_reducible refine And.intro (?_ : leA _ _ _) ?_ | with_reducible refine And.intro (?_ : leL _ _ _) ?_ | with_reducible refine And.intro (?_ : leBlk _ _ _ _) ?_ | fail) <;> (conv => whnf)))
      all_goals (try simp only [wQ])
      all_goals (try first | rfl | exact ⟨fun h => h, fun _ _ => True.intro⟩)
    done)
  all_goals (have hc : couponsB t.number t.coupons = true := by rw [← h2, List.drop_eq_nil_of_le (by omega)]; rfl)
  all_goals refine ⟨?_, fun (k : Nat) hk => ?_⟩
  all_goals try (
    (conv => whnf)
    refine ⟨(0 : Nat), [], ?_, ⟨⟨rfl, Nat.le_of_ble_eq_true rfl, rfl⟩, ?_, ?_⟩⟩
    · exact ⟨Nat.zero_le _, fun h => absurd h (by omega), rfl⟩
    · (conv => whnf)
      (repeat' ((first | with_reducible exact True.intro | ((with_reducible refine And.intro ?_ ?_); focus (first | with_reducible rfl | omega | exact Nat.le_of_ble_eq_true rfl | rfl)) | with_reducible refine And.intro (?_ : leA _ _ _) ?_ | fail) <;> (conv => whnf)))
      all_goals (try simp only [wQ])
      all_goals (try first | omega)
    · (conv => whnf)
      (repeat' ((first | with_reducible exact True.intro | ((with_reducible refine And.intro ?_ ?_); focus (first | with_reducible rfl | omega | exact Nat.le_of_ble_eq_true rfl | rfl)) | with_reducible refine And.intro (?_ : leA _ _ _) ?_ | with_reducible refine And.intro (?_ : leL _ _ _) ?_ | with_reducible refine And.intro (?_ : leBlk _ _ _ _) ?_ | fail) <;> (conv => whnf)))
      all_goals (try simp only [wQ])
      all_goals (try first | rfl | exact ⟨fun h => h, fun _ _ => True.intro⟩)
    done)
  all_goals (
    obtain ⟨g1, g2, g3⟩ := hk
    have e1 : Int.toNat ((k : Int) - 1) = k - 1 := by omega
    have hd2 : k < t.taxes.length → taxesFrom 1 t.taxes = true → ((0 < k → (t.taxes.getD (Int.toNat ((k : Int) - 1)) default).code + 1 ≤ (t.taxes.getD (Int.toNat (k : Int)) default).code) ∧ (k = 0 → 1 ≤ (t.taxes.getD (Int.toNat (k : Int)) default).code)) ∧ (t.taxes.getD (Int.toNat (k : Int)) default).code ≤ 99 ∧ someB (t.taxes.getD (Int.toNat (k : Int)) default).amount = true := fun h h2 => by
      rw [← g3, drop_getD h] at h2
      simp only [taxesFrom, Bool.and_eq_true, decide_eq_true_eq] at h2
      obtain ⟨⟨⟨b1, b2⟩, b3⟩, b4⟩ := h2
      rw [e1]
      refine ⟨⟨fun hk => ?_, fun hk => ?_⟩, b2, b3⟩
      · rw [if_neg (by omega)] at b1; exact b1
      · rw [if_pos hk] at b1; exact b1
    have hd3 : k < t.taxes.length → (0 < k → (t.taxes.getD (Int.toNat ((k : Int) - 1)) default).code < (t.taxes.getD (Int.toNat (k : Int)) default).code) → 1 ≤ (t.taxes.getD (Int.toNat (k : Int)) default).code → (t.taxes.getD (Int.toNat (k : Int)) default).code ≤ 99 → someB (t.taxes.getD (Int.toNat (k : Int)) default).amount = true → (LMayR13 t).ok (k + 1) ∧ (LMayR13 t).μ (k + 1) < (LMayR13 t).μ k := fun h b1 b2 b3 b4 => by
      refine ⟨⟨show k + 1 ≤ t.taxes.length by omega, fun _ => b2, ?_⟩, show t.taxes.length - (k + 1) < t.taxes.length - k by omega⟩
      show taxesFrom (if k + 1 = 0 then 1 else (t.taxes.getD k default).code + 1) (t.taxes.drop (k + 1)) = _
      rw [← g3, drop_getD h, if_neg (by omega)]
      simp only [taxesFrom]
      rw [e1] at b1
      rw [show decide ((if k = 0 then 1 else (t.taxes.getD (k - 1) default).code + 1) ≤ (t.taxes.getD k default).code) = true from ?_, decide_eq_true (show (t.taxes.getD k default).code ≤ 99 from b3), (show someB (t.taxes.getD k default).amount = true from b4)]
      · rfl
      · rw [decide_eq_true_eq]
        by_cases hk : k = 0
        · rw [if_pos hk]; exact b2
        · rw [if_neg hk]; exact b1 (by omega)
    rw [← e1] at g2
    (conv => whnf)
    (repeat' ((first
      | ((with_reducible refine And.intro ?_ ?_); focus (first | with_reducible exact True.intro | ((with_reducible show okB _ _ _ = true); rfl) | omega | (simp only [inK_def, Go.Vc.lo, Go.Vc.hi]; omega)))
      | (split <;> rename_i hh <;> (try simp only [wS] at hh) <;> (try simp (disch := omega) only [Int.tdiv_eq_ediv_of_nonneg, Int.tmod_eq_emod_of_nonneg] at hh))
      | with_reducible refine (fun (hln : (_ : Int) ≤ 9223372036854775807) => ?_)
      | fail) <;> (conv => whnf)))
    all_goals (try (show _ = _; simp only [wQ])))
  all_goals try (
    refine hbad fun k1 k2 k3 k4 k5 k6 k7 => ?_
    obtain ⟨⟨b1, b2⟩, b3, b4⟩ := hd2 (by omega) k6
    first | omega | (rename_i hh; rw [b4] at hh; cases hh))
  all_goals try (
    (conv => whnf)
    refine ⟨(k + 1 : Nat), [], ?_, ⟨⟨rfl, Nat.le_of_ble_eq_true rfl, rfl⟩, ?_, ?_⟩⟩
    · exact hd3 (by omega) (by omega) (by omega) (by omega) (by assumption)
    · (conv => whnf)
      (repeat' ((first | with_reducible exact True.intro | ((with_reducible refine And.intro ?_ ?_); focus (first | with_reducible rfl | omega | exact Nat.le_of_ble_eq_true rfl | rfl)) | with_reducible refine And.intro (?_ : leA _ _ _) ?_ | fail) <;> (conv => whnf)))
      all_goals (try simp only [wQ])
      all_goals (try first | omega)
    · (conv => whnf)
      (repeat' ((first | with_reducible exact True.intro | ((with_reducible refine And.intro ?_ ?_); focus (first | with_reducible rfl | omega | exact Nat.le_of_ble_eq_true rfl | rfl)) | with_reducible refine And.intro (?_ : leA _ _ _) ?_ | with_reducible refine And.intro (?_ : leL _ _ _) ?_ | with_reducible refine And.intro (?_ : leBlk _ _ _ _) ?_ | fail) <;> (conv => whnf)))
      all_goals (try simp only [wQ])
      all_goals (try first | rfl | exact ⟨fun h => h, fun _ _ => True.intro⟩)
    done)
  all_goals (
    have ht : taxesFrom 1 t.taxes = true := by rw [← g3, List.drop_eq_nil_of_le (by omega)]; rfl
    refine ⟨(t, (0 : Int)), ⟨by omega, by omega, by omega, head_issued (by assumption)⟩, ?_, ?_⟩
    · exact leL_rfl _
    (conv => whnf)
    all_goals (try (show _ = _; simp only [wQ]))
    unfold mayTicketB taxesB
    rw [hc, hH, ht, toldB_any t 0 1000000]
    simp only [decide_eq_true_eq, Bool.and_true, Bool.true_and]
    rw [decide_eq_true (by omega), decide_eq_true (by omega), decide_eq_true (by omega), decide_eq_true (by omega)]
    rfl)
end
end Go.Vc.Z

/- Loans. -/
namespace Go.Vc.Z
open Go Go.Vc Go.Proofs Go.RowKit Go.Pl Go.Lib
noncomputable section
set_option maxRecDepth 100000
set_option linter.unusedSimpArgs false
set_option linter.unusedVariables false
attribute [local irreducible] inK Utf8.decode Utf8.encode Lib.itoa Pl.worth Pl.allDig
@[irreducible] def plainB (c : Coupon) (s : Int) : Bool :=
  decide (1 ≤ c.flight) && decide (c.flight ≤ 9999) && dayB c.day && someB c.value && decide (c.status = s) && decide (c.holder = 0) && decide (c.next = 0)
def noneB (c : Coupon) : Bool := c.flight == 0 && (c.day == 0 && (c.value == 0 && (c.status == 0 && (c.holder == 0 && c.next == 0))))
@[irreducible] def loanB (l : Loan) : Bool :=
  numdB l.ticket && decide (1 ≤ l.coupon) && decide (l.coupon ≤ 4) && (bif l.held then mayS l.what.status && plainB l.what l.what.status else noneB l.what)
theorem eqA_coupon (k : Nat) (f d v s h x f' d' v' s' h' x' : Int) : eqA TY (k + 3) 45 (.agg [.int .i64 f, .int .i64 d, .int .i64 v, .int .i64 s, .int .i64 h, .int .u64 x]) (.agg [.int .i64 f', .int .i64 d', .int .i64 v', .int .i64 s', .int .i64 h', .int .u64 x']) = some (f == f' && (d == d' && (v == v' && (s == s' && (h == h' && x == x'))))) := by
  have e45 : TY 45 = some ty45 := rfl
  have e3 : TY 3 = some ty3 := rfl
  have e2 : TY 2 = some ty2 := rfl
  have e43 : TY 43 = some ty43 := rfl
  have e37 : TY 37 = some ty37 := rfl
  simp [eqA, eqFs, e45, e3, e2, e43, e37, ty45, ty3, ty2, ty43, ty37, loadA, eqI_eq]
theorem eqA_loan (n c : Int) (b : Bool) (f d v s h x : Int) (n' c' : Int) (b' : Bool) (f' d' v' s' h' x' : Int) : eqA TY 12 47 (.agg [.int .u64 n, .int .i64 c, .bool b, .int .i64 f, .int .i64 d, .int .i64 v, .int .i64 s, .int .i64 h, .int .u64 x]) (.agg [.int .u64 n', .int .i64 c', .bool b', .int .i64 f', .int .i64 d', .int .i64 v', .int .i64 s', .int .i64 h', .int .u64 x']) = some (n == n' && (c == c' && (b == b' && (f == f' && (d == d' && (v == v' && (s == s' && (h == h' && x == x')))))))) := by
  have e47 : TY 47 = some ty47 := rfl
  have e45 : TY 45 = some ty45 := rfl
  have e3 : TY 3 = some ty3 := rfl
  have e4 : TY 4 = some ty4 := rfl
  have e37 : TY 37 = some ty37 := rfl
  have e2 : TY 2 = some ty2 := rfl
  have e43 : TY 43 = some ty43 := rfl
  simp [eqA, eqFs, e47, e45, e3, e2, e43, e4, e37, ty47, ty45, ty3, ty4, ty37, ty2, ty43, loadA, eqI_eq]
theorem optP_coupon {k : Nat} {f d v s h x f' d' v' s' h' x' : Int} {N : Bool → Prop} (hN : N (f == f' && (d == d' && (v == v' && (s == s' && (h == h' && x == x')))))) : optP (eqA TY (k + 3) 45 (.agg [.int .i64 f, .int .i64 d, .int .i64 v, .int .i64 s, .int .i64 h, .int .u64 x]) (.agg [.int .i64 f', .int .i64 d', .int .i64 v', .int .i64 s', .int .i64 h', .int .u64 x'])) N := by
  rw [eqA_coupon]; exact hN
theorem optP_loan {n c : Int} {b : Bool} {f d v s h x : Int} {n' c' : Int} {b' : Bool} {f' d' v' s' h' x' : Int} {N : Bool → Prop} (hN : N (n == n' && (c == c' && (b == b' && (f == f' && (d == d' && (v == v' && (s == s' && (h == h' && x == x'))))))))) : optP (eqA TY 12 47 (.agg [.int .u64 n, .int .i64 c, .bool b, .int .i64 f, .int .i64 d, .int .i64 v, .int .i64 s, .int .i64 h, .int .u64 x]) (.agg [.int .u64 n', .int .i64 c', .bool b', .int .i64 f', .int .i64 d', .int .i64 v', .int .i64 s', .int .i64 h', .int .u64 x'])) N := by
  rw [eqA_loan]; exact hN
def pcPlain : PC := PC.of (fun x : Coupon × Int => [.agg x.1.enc, .int .i64 x.2]) (fun _ => True) (fun x => .bool (sB (plainB x.1 x.2)))
def pcLoan : PC := PC.of (fun l : Loan => [.agg l.enc]) (fun _ => True) (fun l => .bool (sB (loanB l)))
def D_couponref16_plain : PT := tabD [(138, pcDay), (139, pcSome)]
def C_couponref16_plain : FuncId → Option Ctr := tabC D_couponref16_plain []
set_option maxHeartbeats 2000000 in
theorem g_couponref16_plain {W : World} (hW : Tabs W) : GoodP (Fw W) Tryz.prog 70 pcPlain := by
  have hD : PTOk (Fw W) Tryz.prog D_couponref16_plain := (tabD_cons Tryz.call138 (g_couponref16_day hW) (tabD_cons Tryz.call139 (g_couponref16_some hW) tabD_nil))
  have hC0 : ∀ x : Coupon × Int, CtrOk (Fw W) Tryz.prog (C_couponref16_plain) := fun x => (tabC_nil hD)
  refine goodP_ofC (D := D_couponref16_plain) (C := fun x => C_couponref16_plain) (wr := (fun _ => false)) rfl tyOk hD hC0 Tryz.func70 (fun _ _ => none) (fun _ => rfl) ?_
  rintro ⟨c, s⟩ hf hp
  clear hf
  (conv => whnf)
  (repeat' ((first
    | ((with_reducible refine And.intro ?_ ?_); focus (with_reducible exact True.intro))
    | (split <;> rename_i hh <;> (try simp only [wS] at hh) <;> (try simp (disch := omega) only [Int.tdiv_eq_ediv_of_nonneg, Int.tmod_eq_emod_of_nonneg] at hh))
    | fail) <;> (conv => whnf)))
  all_goals (try (show _ = _; simp only [wQ]))
  all_goals (unfold plainB; first | (simp_all [ltI_eq, leI_eq, eqI_eq]; done) | (rw [Bool.eq_iff_iff]; simp_all [ltI_eq, leI_eq, eqI_eq]; done) | (rw [Bool.eq_iff_iff]; simp_all [ltI_eq, leI_eq, eqI_eq]; omega))
def D_couponref16_MayLoan : PT := tabD [(63, pcNumd), (69, pcMayS), (70, pcPlain)]
def C_couponref16_MayLoan : FuncId → Option Ctr := tabC D_couponref16_MayLoan []
set_option maxHeartbeats 2000000 in
theorem g_couponref16_MayLoan {W : World} (hW : Tabs W) : GoodP (Fw W) Tryz.prog 22 pcLoan := by
  have hD : PTOk (Fw W) Tryz.prog D_couponref16_MayLoan := (tabD_cons Tryz.call63 (g_couponref13_Numbered hW) (tabD_cons Tryz.call69 (g_couponref12_May hW) (tabD_cons Tryz.call70 (g_couponref16_plain hW) tabD_nil)))
  have hC0 : ∀ l : Loan, CtrOk (Fw W) Tryz.prog (C_couponref16_MayLoan) := fun l => (tabC_nil hD)
  refine goodP_ofC (D := D_couponref16_MayLoan) (C := fun l => C_couponref16_MayLoan) (wr := (fun _ => false)) rfl tyOk hD hC0 Tryz.func22 (fun _ _ => none) (fun _ => rfl) ?_
  intro l hf hp
  clear hf
  have hl : loanB l = (numdB l.ticket && decide (1 ≤ l.coupon) && decide (l.coupon ≤ 4) && (bif l.held then mayS l.what.status && plainB l.what l.what.status else noneB l.what)) := by unfold loanB; rfl
  (conv => whnf)
  (repeat' ((first
    | (refine optP_coupon ?_)
    | ((with_reducible refine And.intro ?_ ?_); focus (with_reducible exact True.intro))
    | (split <;> rename_i hh <;> (try simp only [wS] at hh) <;> (try simp (disch := omega) only [Int.tdiv_eq_ediv_of_nonneg, Int.tmod_eq_emod_of_nonneg] at hh))
    | fail) <;> (conv => whnf)))
  all_goals (try (show _ = _; simp only [wQ]))
  · rw [hl]; simp [*]
  · rw [hl, decide_eq_false (by omega : ¬ 1 ≤ l.coupon)]; simp
  · rw [hl, decide_eq_false (by omega : ¬ l.coupon ≤ 4)]; simp
  · rw [hl, decide_eq_true (by omega : 1 ≤ l.coupon), decide_eq_true (by omega : l.coupon ≤ 4)]; simp [*, noneB]
  · refine ⟨(l.what, l.what.status), True.intro, ?_, ?_⟩
    · exact leL_rfl _
    (conv => whnf)
    all_goals (try (show _ = _; simp only [wQ]))
    rw [hl, decide_eq_true (by omega : 1 ≤ l.coupon), decide_eq_true (by omega : l.coupon ≤ 4)]; simp [*]
  · rw [hl, decide_eq_true (by omega : 1 ≤ l.coupon), decide_eq_true (by omega : l.coupon ≤ 4)]; simp [*]
def cellOf (H : List Blk) (p k : Nat) : Option AV := match H[p]? with | some (.var cs _) => cs[k]? | _ => none
def numOk (g : Bool) (lo n hi : Int) : Bool := g && (leI lo n && leI n hi)
theorem numOk_lo {g : Bool} {lo n hi : Int} (h : n < lo) : false = numOk g lo n hi := by
  unfold numOk; rw [leI_eq, decide_eq_false (by omega)]; simp
theorem numOk_hi {lo n hi : Int} (h : lo ≤ n) : leI n hi = numOk true lo n hi := by
  unfold numOk; rw [leI_eq lo, decide_eq_true h]; simp
theorem inlC_number {TY : TypeId → Option TI} {C : FuncId → Option Ctr} {D : PT} {wr : Tmp → Bool} {L : List AV → List Blk → Nat → Option LR} {fn : Func} {H : List Blk} {Q : AV → List Blk → Prop} {p q j : Nat} {sz lo hi n : Int} {g : Bool} (hg : cellOf H p 2 = some (.bool g)) (hn : cellOf H q j = some (.int .i64 n))
    (h1 : fnE TY C D wr (L [.ptr p 0, .ptr q j, .int .i64 sz, .int .i64 lo, .int .i64 hi] H) fn [.ptr p 0, .ptr q j, .int .i64 sz, .int .i64 lo, .int .i64 hi] H (fun c H' => c = .tup [] ∧ ∃ b, b = numOk g lo n hi ∧ H' = setCell (setCell H p 2 (.bool b)) q j (.int .i64 0)))
    (h2 : Q (.tup []) (setCell (setCell H p 2 (.bool (sB (numOk g lo n hi)))) q j (.int .i64 0))) : inlC TY C D wr L fn [.ptr p 0, .ptr q j, .int .i64 sz, .int .i64 lo, .int .i64 hi] H Q :=
  inlC_num _ p 2 q j _ _ h1 h2
def D_request_mayLoan : PT := tabD [(127, pcCheck)]
def C_request_mayLoan : FuncId → Option Ctr := tabC D_request_mayLoan []
def C1_request_mayLoan (l : Loan) : FuncId → Option Ctr := tabC D_request_mayLoan [(298, inl TY (C_request_mayLoan) D_request_mayLoan (fun _ => false) (fun _ _ _ => none) Tryz.f298)]
def C2_request_mayLoan (l : Loan) : FuncId → Option Ctr := tabC D_request_mayLoan [(273, inlC TY (C1_request_mayLoan l) D_request_mayLoan (fun _ => false) (fun _ _ _ => none) Tryz.f273), (298, inl TY (C_request_mayLoan) D_request_mayLoan (fun _ => false) (fun _ _ _ => none) Tryz.f298)]
def C3_request_mayLoan (l : Loan) : FuncId → Option Ctr := tabC D_request_mayLoan [(276, inl TY (C2_request_mayLoan l) D_request_mayLoan (fun _ => false) (fun _ _ _ => none) Tryz.f276), (273, inlC TY (C1_request_mayLoan l) D_request_mayLoan (fun _ => false) (fun _ _ _ => none) Tryz.f273), (298, inl TY (C_request_mayLoan) D_request_mayLoan (fun _ => false) (fun _ _ _ => none) Tryz.f298)]
def C4_request_mayLoan (l : Loan) : FuncId → Option Ctr := tabC D_request_mayLoan [(279, inl TY (C3_request_mayLoan l) D_request_mayLoan (fun _ => false) (fun _ _ _ => none) Tryz.f279), (276, inl TY (C2_request_mayLoan l) D_request_mayLoan (fun _ => false) (fun _ _ _ => none) Tryz.f276), (273, inlC TY (C1_request_mayLoan l) D_request_mayLoan (fun _ => false) (fun _ _ _ => none) Tryz.f273), (298, inl TY (C_request_mayLoan) D_request_mayLoan (fun _ => false) (fun _ _ _ => none) Tryz.f298)]
def C5_request_mayLoan (l : Loan) : FuncId → Option Ctr := tabC D_request_mayLoan [(259, inl TY (C4_request_mayLoan l) D_request_mayLoan (fun _ => false) (fun _ _ _ => none) Tryz.f259), (279, inl TY (C3_request_mayLoan l) D_request_mayLoan (fun _ => false) (fun _ _ _ => none) Tryz.f279), (276, inl TY (C2_request_mayLoan l) D_request_mayLoan (fun _ => false) (fun _ _ _ => none) Tryz.f276), (273, inlC TY (C1_request_mayLoan l) D_request_mayLoan (fun _ => false) (fun _ _ _ => none) Tryz.f273), (298, inl TY (C_request_mayLoan) D_request_mayLoan (fun _ => false) (fun _ _ _ => none) Tryz.f298)]
def C6_request_mayLoan (l : Loan) : FuncId → Option Ctr := tabC D_request_mayLoan [(258, inl TY (C5_request_mayLoan l) D_request_mayLoan (fun _ => false) (fun _ _ _ => none) Tryz.f258), (259, inl TY (C4_request_mayLoan l) D_request_mayLoan (fun _ => false) (fun _ _ _ => none) Tryz.f259), (279, inl TY (C3_request_mayLoan l) D_request_mayLoan (fun _ => false) (fun _ _ _ => none) Tryz.f279), (276, inl TY (C2_request_mayLoan l) D_request_mayLoan (fun _ => false) (fun _ _ _ => none) Tryz.f276), (273, inlC TY (C1_request_mayLoan l) D_request_mayLoan (fun _ => false) (fun _ _ _ => none) Tryz.f273), (298, inl TY (C_request_mayLoan) D_request_mayLoan (fun _ => false) (fun _ _ _ => none) Tryz.f298)]
def C7_request_mayLoan (l : Loan) : FuncId → Option Ctr := tabC D_request_mayLoan [(260, inl TY (C6_request_mayLoan l) D_request_mayLoan (fun _ => false) (fun _ _ _ => none) Tryz.f260), (258, inl TY (C5_request_mayLoan l) D_request_mayLoan (fun _ => false) (fun _ _ _ => none) Tryz.f258), (259, inl TY (C4_request_mayLoan l) D_request_mayLoan (fun _ => false) (fun _ _ _ => none) Tryz.f259), (279, inl TY (C3_request_mayLoan l) D_request_mayLoan (fun _ => false) (fun _ _ _ => none) Tryz.f279), (276, inl TY (C2_request_mayLoan l) D_request_mayLoan (fun _ => false) (fun _ _ _ => none) Tryz.f276), (273, inlC TY (C1_request_mayLoan l) D_request_mayLoan (fun _ => false) (fun _ _ _ => none) Tryz.f273), (298, inl TY (C_request_mayLoan) D_request_mayLoan (fun _ => false) (fun _ _ _ => none) Tryz.f298)]
def C8_request_mayLoan (l : Loan) : FuncId → Option Ctr := tabC D_request_mayLoan [(255, inl TY (C7_request_mayLoan l) D_request_mayLoan (fun _ => false) (fun _ _ _ => none) Tryz.f255), (260, inl TY (C6_request_mayLoan l) D_request_mayLoan (fun _ => false) (fun _ _ _ => none) Tryz.f260), (258, inl TY (C5_request_mayLoan l) D_request_mayLoan (fun _ => false) (fun _ _ _ => none) Tryz.f258), (259, inl TY (C4_request_mayLoan l) D_request_mayLoan (fun _ => false) (fun _ _ _ => none) Tryz.f259), (279, inl TY (C3_request_mayLoan l) D_request_mayLoan (fun _ => false) (fun _ _ _ => none) Tryz.f279), (276, inl TY (C2_request_mayLoan l) D_request_mayLoan (fun _ => false) (fun _ _ _ => none) Tryz.f276), (273, inlC TY (C1_request_mayLoan l) D_request_mayLoan (fun _ => false) (fun _ _ _ => none) Tryz.f273), (298, inl TY (C_request_mayLoan) D_request_mayLoan (fun _ => false) (fun _ _ _ => none) Tryz.f298)]
def C9_request_mayLoan (l : Loan) : FuncId → Option Ctr := tabC D_request_mayLoan [(254, inl TY (C8_request_mayLoan l) D_request_mayLoan (fun _ => false) (fun _ _ _ => none) Tryz.f254), (255, inl TY (C7_request_mayLoan l) D_request_mayLoan (fun _ => false) (fun _ _ _ => none) Tryz.f255), (260, inl TY (C6_request_mayLoan l) D_request_mayLoan (fun _ => false) (fun _ _ _ => none) Tryz.f260), (258, inl TY (C5_request_mayLoan l) D_request_mayLoan (fun _ => false) (fun _ _ _ => none) Tryz.f258), (259, inl TY (C4_request_mayLoan l) D_request_mayLoan (fun _ => false) (fun _ _ _ => none) Tryz.f259), (279, inl TY (C3_request_mayLoan l) D_request_mayLoan (fun _ => false) (fun _ _ _ => none) Tryz.f279), (276, inl TY (C2_request_mayLoan l) D_request_mayLoan (fun _ => false) (fun _ _ _ => none) Tryz.f276), (273, inlC TY (C1_request_mayLoan l) D_request_mayLoan (fun _ => false) (fun _ _ _ => none) Tryz.f273), (298, inl TY (C_request_mayLoan) D_request_mayLoan (fun _ => false) (fun _ _ _ => none) Tryz.f298)]
def C10_request_mayLoan (l : Loan) : FuncId → Option Ctr := tabC D_request_mayLoan [(188, inl TY (C9_request_mayLoan l) D_request_mayLoan (fun _ => false) (fun _ _ _ => none) Tryz.f188), (254, inl TY (C8_request_mayLoan l) D_request_mayLoan (fun _ => false) (fun _ _ _ => none) Tryz.f254), (255, inl TY (C7_request_mayLoan l) D_request_mayLoan (fun _ => false) (fun _ _ _ => none) Tryz.f255), (260, inl TY (C6_request_mayLoan l) D_request_mayLoan (fun _ => false) (fun _ _ _ => none) Tryz.f260), (258, inl TY (C5_request_mayLoan l) D_request_mayLoan (fun _ => false) (fun _ _ _ => none) Tryz.f258), (259, inl TY (C4_request_mayLoan l) D_request_mayLoan (fun _ => false) (fun _ _ _ => none) Tryz.f259), (279, inl TY (C3_request_mayLoan l) D_request_mayLoan (fun _ => false) (fun _ _ _ => none) Tryz.f279), (276, inl TY (C2_request_mayLoan l) D_request_mayLoan (fun _ => false) (fun _ _ _ => none) Tryz.f276), (273, inlC TY (C1_request_mayLoan l) D_request_mayLoan (fun _ => false) (fun _ _ _ => none) Tryz.f273), (298, inl TY (C_request_mayLoan) D_request_mayLoan (fun _ => false) (fun _ _ _ => none) Tryz.f298)]
set_option maxHeartbeats 2000000 in
theorem g_request_mayLoan {W : World} (hW : Tabs W) : GoodP (Fw W) Tryz.prog 110 pcLoan := by
  have hD : PTOk (Fw W) Tryz.prog D_request_mayLoan := (tabD_cons Tryz.call127 (g_number_Check hW) tabD_nil)
  have hC0 : ∀ l : Loan, CtrOk (Fw W) Tryz.prog (C_request_mayLoan) := fun l => (tabC_nil hD)
  have hC1 : ∀ l : Loan, CtrOk (Fw W) Tryz.prog (C1_request_mayLoan l) := fun l => tabC_cons Tryz.call298 (good_inl rfl tyOk hD (hC0 l) Tryz.func298 (fun _ _ _ => none)) (hC0 l)
  have hC2 : ∀ l : Loan, CtrOk (Fw W) Tryz.prog (C2_request_mayLoan l) := fun l => tabC_cons Tryz.call273 (good_inlC rfl tyOk hD (hC1 l) Tryz.func273 (fun _ _ _ => none)) (hC1 l)
  have hC3 : ∀ l : Loan, CtrOk (Fw W) Tryz.prog (C3_request_mayLoan l) := fun l => tabC_cons Tryz.call276 (good_inl rfl tyOk hD (hC2 l) Tryz.func276 (fun _ _ _ => none)) (hC2 l)
  have hC4 : ∀ l : Loan, CtrOk (Fw W) Tryz.prog (C4_request_mayLoan l) := fun l => tabC_cons Tryz.call279 (good_inl rfl tyOk hD (hC3 l) Tryz.func279 (fun _ _ _ => none)) (hC3 l)
  have hC5 : ∀ l : Loan, CtrOk (Fw W) Tryz.prog (C5_request_mayLoan l) := fun l => tabC_cons Tryz.call259 (good_inl rfl tyOk hD (hC4 l) Tryz.func259 (fun _ _ _ => none)) (hC4 l)
  have hC6 : ∀ l : Loan, CtrOk (Fw W) Tryz.prog (C6_request_mayLoan l) := fun l => tabC_cons Tryz.call258 (good_inl rfl tyOk hD (hC5 l) Tryz.func258 (fun _ _ _ => none)) (hC5 l)
  have hC7 : ∀ l : Loan, CtrOk (Fw W) Tryz.prog (C7_request_mayLoan l) := fun l => tabC_cons Tryz.call260 (good_inl rfl tyOk hD (hC6 l) Tryz.func260 (fun _ _ _ => none)) (hC6 l)
  have hC8 : ∀ l : Loan, CtrOk (Fw W) Tryz.prog (C8_request_mayLoan l) := fun l => tabC_cons Tryz.call255 (good_inl rfl tyOk hD (hC7 l) Tryz.func255 (fun _ _ _ => none)) (hC7 l)
  have hC9 : ∀ l : Loan, CtrOk (Fw W) Tryz.prog (C9_request_mayLoan l) := fun l => tabC_cons Tryz.call254 (good_inl rfl tyOk hD (hC8 l) Tryz.func254 (fun _ _ _ => none)) (hC8 l)
  have hC10 : ∀ l : Loan, CtrOk (Fw W) Tryz.prog (C10_request_mayLoan l) := fun l => tabC_cons Tryz.call188 (good_inl rfl tyOk hD (hC9 l) Tryz.func188 (fun _ _ _ => none)) (hC9 l)
  refine goodP_ofC (D := D_request_mayLoan) (C := fun l => C10_request_mayLoan l) (wr := (fun _ => false)) rfl tyOk hD hC10 Tryz.func110 (fun _ _ => none) (fun _ => rfl) ?_
  intro l hf hp
  clear hf
  (conv => whnf)
  (repeat' ((first
    | (with_reducible refine inl_intro ?_)
    | (refine optP_loan ?_)
    | (refine inlC_number rfl rfl ?_ ?_)
    | (refine ⟨rfl, _, ?_, rfl⟩; first | exact numOk_lo (by omega) | ((try simp only [sB_eq, sI_eq, eqI_eq, cond_true]); rename_i hh; first | (rw [hh]; first | rfl | exact numOk_hi (by omega)) | (simp_all [numOk, leI_eq]; done)))
    | ((with_reducible refine And.intro ?_ ?_); focus (with_reducible exact True.intro))
    | (split <;> rename_i hh <;> (try simp only [wS] at hh) <;> (try simp (disch := omega) only [Int.tdiv_eq_ediv_of_nonneg, Int.tmod_eq_emod_of_nonneg] at hh))
    | fail) <;> (conv => whnf)))
  all_goals (try (show _ = _; simp only [wQ]))
  all_goals try (exfalso; simp_all; done)
  all_goals (
    rename_i hh
    rw [Bool.eq_iff_iff]
    unfold loanB plainB mayS numdB dayB someB noneB
    simp only [numOk, leI_eq, Bool.and_eq_true, decide_eq_true_eq, beq_iff_eq, ← Bool.not_eq_true] at hh
    simp only [(by assumption : l.held = _)] at *
    simp [leI_eq]
    omega)
end
end Go.Vc.Z

/- Postings. -/
namespace Go.Vc.Z
open Go Go.Vc Go.Proofs Go.RowKit Go.Pl Go.Lib
noncomputable section
set_option maxRecDepth 100000
set_option linter.unusedSimpArgs false
set_option linter.unusedVariables false
attribute [local irreducible] inK Utf8.decode Utf8.encode Lib.itoa Pl.worth Pl.allDig
abbrev amtsL (p : Posting) : List Int := [p.cash, p.liability, p.revenue, p.tax, p.penalty, p.voucher]
def pcOfP : PC := PC.fun fun | [.agg [.int .i64 pd, .int .u64 pt, .int .i64 ps, .int .i64 pk, .int .i64 a0, .int .i64 a1, .int .i64 a2, .int .i64 a3, .int .i64 a4, .int .i64 a5]] => some (True, .agg [.int .i64 a0, .int .i64 a1, .int .i64 a2, .int .i64 a3, .int .i64 a4, .int .i64 a5]) | _ => none
def D_posting_of : PT := tabD []
def C_posting_of : FuncId → Option Ctr := tabC D_posting_of []
theorem g_posting_of {W : World} (hW : Tabs W) : GoodP (Fw W) Tryz.prog 113 pcOfP := by
  have hD : PTOk (Fw W) Tryz.prog D_posting_of := tabD_nil
  have hC0 : CtrOk (Fw W) Tryz.prog C_posting_of := (tabC_nil hD)
  refine goodP_fun (D := D_posting_of) (C := C_posting_of) (wr := (fun _ => false)) rfl tyOk hD hC0 Tryz.func113 (fun _ _ => none) ?_
  clear hC0 hD hW
  intro cs p r h hf hp
  split at h
  case h_2 => cases h
  rename_i pd pt ps pk a0 a1 a2 a3 a4 a5
  cases h
  try simp only [factL, factA, inK_def, Go.Vc.lo, Go.Vc.hi, and_true] at hf
  (conv => whnf)
  (repeat' ((first
    | with_reducible exact True.intro
    | ((with_reducible refine And.intro ?_ ?_); focus (with_reducible rfl))
    | with_reducible refine And.intro (?_ : leA _ _ _) ?_
    | fail) <;> (conv => whnf)))
  all_goals (try (show _ = _; simp only [wQ]))
def signsL (k : Int) : List UInt8 := if k = 1 then [43, 45, 48, 45, 48, 48] else if k = 2 then [45, 43, 48, 43, 48, 48] else if k = 3 then [48, 43, 45, 48, 48, 48] else if k = 4 then [45, 43, 48, 43, 45, 48] else if k = 5 then [43, 42, 48, 42, 45, 45] else []
def pnameL (k : Int) : List UInt8 := if k = 1 then [105, 115, 115, 117, 101] else if k = 2 then [118, 111, 105, 100] else if k = 3 then [102, 108, 121] else if k = 4 then [114, 101, 102, 117, 110, 100] else if k = 5 then [101, 120, 99, 104, 97, 110, 103, 101] else []
def pcLook : PC := PC.fun fun | [.int .i64 k] => some (True, .tup [.str (sS (pnameL k)), .str (sS (signsL k))]) | _ => none
def D_posting_look : PT := tabD []
def C_posting_look : FuncId → Option Ctr := tabC D_posting_look []
theorem g_posting_look {W : World} (hW : Tabs W) : GoodP (Fw W) Tryz.prog 112 pcLook := by
  have hD : PTOk (Fw W) Tryz.prog D_posting_look := tabD_nil
  have hC0 : CtrOk (Fw W) Tryz.prog C_posting_look := (tabC_nil hD)
  refine goodP_fun (D := D_posting_look) (C := C_posting_look) (wr := (fun _ => false)) rfl tyOk hD hC0 Tryz.func112 (fun _ _ => none) ?_
  clear hC0 hD hW
  intro cs p r h hf hp
  split at h
  case h_2 => cases h
  rename_i k
  cases h
  try simp only [factL, factA, inK_def, Go.Vc.lo, Go.Vc.hi, and_true] at hf
  (conv => whnf)
  (repeat' ((first
    | with_reducible exact True.intro
    | (split <;> rename_i hh <;> (try simp only [wS] at hh) <;> (try simp (disch := omega) only [Int.tdiv_eq_ediv_of_nonneg, Int.tmod_eq_emod_of_nonneg] at hh))
    | with_reducible refine And.intro (?_ : leA _ _ _) ?_
    | fail) <;> (conv => whnf)))
  all_goals (try (show _ = _; simp only [wQ]))
  all_goals simp_all [pnameL, signsL]
@[irreducible] def fitI (c n : Int) : Bool := if c = 43 then decide (0 ≤ n) else if c = 45 then decide (n ≤ 0) else if c = 48 then decide (n = 0) else true
def pcFits : PC := PC.fun fun | [.int .i32 c, .int .i64 n] => some (True, .bool (sB (fitI c n))) | _ => none
def D_posting_fits : PT := tabD []
def C_posting_fits : FuncId → Option Ctr := tabC D_posting_fits []
theorem g_posting_fits {W : World} (hW : Tabs W) : GoodP (Fw W) Tryz.prog 186 pcFits := by
  have hD : PTOk (Fw W) Tryz.prog D_posting_fits := tabD_nil
  have hC0 : CtrOk (Fw W) Tryz.prog C_posting_fits := (tabC_nil hD)
  refine goodP_fun (D := D_posting_fits) (C := C_posting_fits) (wr := (fun _ => false)) rfl tyOk hD hC0 Tryz.func186 (fun _ _ => none) ?_
  clear hC0 hD hW
  intro cs p r h hf hp
  split at h
  case h_2 => cases h
  rename_i c n
  cases h
  try simp only [factL, factA, inK_def, Go.Vc.lo, Go.Vc.hi, and_true] at hf
  (conv => whnf)
  (repeat' ((first
    | (split <;> rename_i hh <;> (try simp only [wS] at hh) <;> (try simp (disch := omega) only [Int.tdiv_eq_ediv_of_nonneg, Int.tmod_eq_emod_of_nonneg] at hh))
    | fail) <;> (conv => whnf)))
  all_goals (try (show _ = _; simp only [wQ]))
  all_goals (try simp (disch := omega) only [Int.tdiv_eq_ediv_of_nonneg, Int.tmod_eq_emod_of_nonneg]); all_goals (first | (simp_all [sI_eq, sB_eq, sS_eq, ltI_eq, leI_eq, eqI_eq, fitI]; done) | (rw [Bool.eq_iff_iff]; simp_all [sI_eq, sB_eq, sS_eq, ltI_eq, leI_eq, eqI_eq, fitI]; done))
@[irreducible] def outB (b : Int) (l : List Int) : Bool := l.any fun n => decide (n < -b) || decide (b < n)
def pcOut : PC := PC.fun fun | [.agg [.int .i64 a0, .int .i64 a1, .int .i64 a2, .int .i64 a3, .int .i64 a4, .int .i64 a5], .int .i64 b] => some (0 ≤ b, .bool (sB (outB b [a0, a1, a2, a3, a4, a5]))) | _ => none
def D_posting_amounts_out : PT := tabD []
def C_posting_amounts_out : FuncId → Option Ctr := tabC D_posting_amounts_out []
def C1_posting_amounts_out : FuncId → Option Ctr := tabC D_posting_amounts_out [(253, inl TY (C_posting_amounts_out) D_posting_amounts_out (fun _ => false) (fun _ _ _ => none) Tryz.f253)]
def LI2_posting_amounts_out : List AV → List Blk → Nat → Option LR := fun _ _ i => cond (Nat.beq i 2) (some (.unroll 7)) none
def C2_posting_amounts_out : FuncId → Option Ctr := tabC D_posting_amounts_out [(295, inl TY (C1_posting_amounts_out) D_posting_amounts_out (fun _ => false) (LI2_posting_amounts_out) Tryz.f295), (253, inl TY (C_posting_amounts_out) D_posting_amounts_out (fun _ => false) (fun _ _ _ => none) Tryz.f253)]
def C3_posting_amounts_out : FuncId → Option Ctr := tabC D_posting_amounts_out [(252, inl TY (C2_posting_amounts_out) D_posting_amounts_out (fun _ => false) (fun _ _ _ => none) Tryz.f252), (295, inl TY (C1_posting_amounts_out) D_posting_amounts_out (fun _ => false) (LI2_posting_amounts_out) Tryz.f295), (253, inl TY (C_posting_amounts_out) D_posting_amounts_out (fun _ => false) (fun _ _ _ => none) Tryz.f253)]
theorem g_posting_amounts_out {W : World} (hW : Tabs W) : GoodP (Fw W) Tryz.prog 185 pcOut := by
  have hD : PTOk (Fw W) Tryz.prog D_posting_amounts_out := tabD_nil
  have hC0 : CtrOk (Fw W) Tryz.prog C_posting_amounts_out := (tabC_nil hD)
  have hC1 : CtrOk (Fw W) Tryz.prog (C1_posting_amounts_out) := tabC_cons Tryz.call253 (good_inl rfl tyOk hD (hC0) Tryz.func253 (fun _ _ _ => none)) (hC0)
  have hC2 : CtrOk (Fw W) Tryz.prog (C2_posting_amounts_out) := tabC_cons Tryz.call295 (good_inl rfl tyOk hD (hC1) Tryz.func295 (LI2_posting_amounts_out)) (hC1)
  have hC3 : CtrOk (Fw W) Tryz.prog (C3_posting_amounts_out) := tabC_cons Tryz.call252 (good_inl rfl tyOk hD (hC2) Tryz.func252 (fun _ _ _ => none)) (hC2)
  refine goodP_fun (D := D_posting_amounts_out) (C := C3_posting_amounts_out) (wr := (fun _ => false)) rfl tyOk hD hC3 Tryz.func185 (fun _ _ => none) ?_
  clear hC0 hD hW
  intro cs p r h hf hp
  split at h
  case h_2 => cases h
  rename_i a0 a1 a2 a3 a4 a5 b
  cases h
  try simp only [factL, factA, inK_def, Go.Vc.lo, Go.Vc.hi, and_true] at hf
  (conv => whnf)
  (repeat' ((first
    | (with_reducible refine inl_intro ?_)
    | ((with_reducible refine And.intro ?_ ?_); focus (first | omega | (simp only [inK_def, Go.Vc.lo, Go.Vc.hi]; omega)))
    | (split <;> rename_i hh <;> (try simp only [wS] at hh) <;> (try simp (disch := omega) only [Int.tdiv_eq_ediv_of_nonneg, Int.tmod_eq_emod_of_nonneg] at hh))
    | with_reducible refine (fun (hln : (_ : Int) ≤ 9223372036854775807) => ?_)
    | fail) <;> (conv => whnf)))
  all_goals (try (show _ = _; simp only [wQ]))
  all_goals (try simp (disch := omega) only [Int.tdiv_eq_ediv_of_nonneg, Int.tmod_eq_emod_of_nonneg]); all_goals (first | (simp_all [sI_eq, sB_eq, sS_eq, ltI_eq, leI_eq, eqI_eq, outB]; done))
end
end Go.Vc.Z
