/- Requests, the program's: names, kinds, which are the same. -/
import Derived.Test.YtpmpclbdnakniaaGreatDoorV8
set_option linter.all false
set_option linter.unusedVariables false
set_option linter.unusedSimpArgs false
namespace Go.Vc.Z
open Go Go.Vc Go.Proofs Go.RowKit Go.Pl Go.Lib
noncomputable section
set_option maxRecDepth 100000
set_option linter.unusedSimpArgs false
set_option linter.unusedVariables false
attribute [local irreducible] inK Utf8.decode Utf8.encode Lib.itoa Pl.worth Pl.allDig
attribute [local irreducible] Lib.join
@[irreducible] def nameQ (k : Int) : List UInt8 := if 1 ≤ k ∧ k ≤ 10 then namesL.getD (k - 1).toNat [] else []
def pcName : PC := PC.fun fun | [.int .i64 k] => some (True, .str (sS (nameQ k))) | _ => none
def D_request_Name : PT := tabD []
theorem d_request_Name {W : World} (hW : Tabs W) : PTOk (Fw W) Tryz.prog D_request_Name := tabD_nil
def C_request_Name : FuncId → Option Ctr := tabC D_request_Name []
theorem c_request_Name {W : World} (hW : Tabs W) : CtrOk (Fw W) Tryz.prog C_request_Name := (tabC_nil (d_request_Name hW))
def I1_request_Name : List (FuncId × Ctr) := (164, inl TY C_request_Name D_request_Name (fun _ => false) (fun _ _ _ => none) Tryz.f164) :: []
def C1_request_Name : FuncId → Option Ctr := tabC D_request_Name I1_request_Name
theorem c1_request_Name {W : World} (hW : Tabs W) : CtrOk (Fw W) Tryz.prog C1_request_Name := tabC_cons Tryz.call164 (good_inl rfl tyOk (d_request_Name hW) (c_request_Name hW) Tryz.func164 (fun _ _ _ => none)) (c_request_Name hW)
theorem g_request_Name {W : World} (hW : Tabs W) : GoodP (Fw W) Tryz.prog 73 pcName := by
 have hD := d_request_Name hW
 have hC0 : CtrOk (Fw W) Tryz.prog C1_request_Name := (c1_request_Name hW)
 refine goodP_fun (D := D_request_Name) (C := C1_request_Name) (wr := (fun _ => false)) rfl tyOk hD hC0 Tryz.func73 (fun _ _ => none) ?_
 clear hC0 hD hW
 intro cs p r h hf hp
 split at h
 case h_2 => cases h
 rename_i k
 cases h
 try simp only [factL, factA, inK_def, Go.Vc.lo, Go.Vc.hi, and_true] at hf
 have hn : nameQ k = if 1 ≤ k ∧ k ≤ 10 then namesL.getD (k - 1).toNat [] else [] := by unfold nameQ; rfl
 by_cases h : 1 ≤ k ∧ k ≤ 10
 ·rcases kinds h with rfl | rfl | rfl | rfl | rfl | rfl | rfl | rfl | rfl | rfl
  all_goals (
   (conv => whnf)
   (repeat' ((first
    | (with_reducible refine inl_intro ?_)
    | fail) <;> (conv => whnf)))
   all_goals (try (show _ = _; simp only [wQ]))
   )
  all_goals (rw [hn]; rfl)
 ·rw [if_neg h] at hn
  (conv => whnf)
  (repeat' ((first
   | (with_reducible refine inl_intro ?_)
   | (split <;> rename_i hh <;> (try simp only [wS] at hh) <;> (try simp (disch := omega) only [wT] at hh))
   | fail) <;> (conv => whnf)))
  all_goals (try (show _ = _; simp only [wQ]))
  all_goals first | (rw [hn]; done) | (exfalso; omega)
@[irreducible] def kindOf (s : List UInt8) : Int := if s = [105, 115, 115, 117, 101] then 1 else if s = [109, 111, 118, 101] then 2 else if s = [118, 111, 105, 100] then 3 else if s = [114, 101, 102, 117, 110, 100] then 4 else if s = [101, 120, 99, 104, 97, 110, 103, 101] then 5 else if s = [97, 115, 107] then 6 else if s = [114, 101, 116, 117, 114, 110] then 7 else if s = [115, 104, 111, 119] then 8 else if s = [102, 105, 110, 100] then 9 else if s = [114, 101, 112, 111, 114, 116] then 10 else 0
def pcKind : PC := PC.fun fun | [.str s] => some (True, .int .i64 (sI (kindOf s))) | _ => none
theorem nameQ_at {k : Int} (h : 1 ≤ k ∧ k ≤ 10) : nameQ k = namesL.getD (k - 1).toNat [] := by unfold nameQ; rw [if_pos h]
theorem nameQ_no {k : Int} (h : ¬ (1 ≤ k ∧ k ≤ 10)) : nameQ k = [] := by unfold nameQ; rw [if_neg h]
theorem kindOf_at {k : Int} (h : 1 ≤ k ∧ k ≤ 10) : kindOf (nameQ k) = k := by
 rw [nameQ_at h]; unfold kindOf
 rcases kinds h with rfl | rfl | rfl | rfl | rfl | rfl | rfl | rfl | rfl | rfl <;> rfl
theorem kindOf_no {s : List UInt8} (h : ∀ k, 1 ≤ k → k ≤ 10 → nameQ k ≠ s) : kindOf s = 0 := by
 have e : ∀ k : Int, 1 ≤ k → k ≤ 10 → ¬ s = namesL.getD (k - 1).toNat [] := fun k h1 h2 he => h k h1 h2 (by rw [nameQ_at ⟨h1, h2⟩, he])
 unfold kindOf
 rw [if_neg (show ¬ s = [105, 115, 115, 117, 101] from e 1 (by decide) (by decide)), if_neg (show ¬ s = [109, 111, 118, 101] from e 2 (by decide) (by decide)), if_neg (show ¬ s = [118, 111, 105, 100] from e 3 (by decide) (by decide)), if_neg (show ¬ s = [114, 101, 102, 117, 110, 100] from e 4 (by decide) (by decide)), if_neg (show ¬ s = [101, 120, 99, 104, 97, 110, 103, 101] from e 5 (by decide) (by decide)), if_neg (show ¬ s = [97, 115, 107] from e 6 (by decide) (by decide)), if_neg (show ¬ s = [114, 101, 116, 117, 114, 110] from e 7 (by decide) (by decide)), if_neg (show ¬ s = [115, 104, 111, 119] from e 8 (by decide) (by decide)), if_neg (show ¬ s = [102, 105, 110, 100] from e 9 (by decide) (by decide)), if_neg (show ¬ s = [114, 101, 112, 111, 114, 116] from e 10 (by decide) (by decide))]
def LKind (s : List UInt8) : LoopSpec := {
 α := Nat
 keep := [0, 3]
 vals i := [.str s, .int .i64 (i + 1)]
 heap _ := []
 ok i := i ≤ 10 ∧ ∀ k : Int, 1 ≤ k → k ≤ i → nameQ k ≠ s
 μ i := 10 - i }
def D_script_kind : PT := tabD [(73, pcName)]
theorem d_script_kind {W : World} (hW : Tabs W) : PTOk (Fw W) Tryz.prog D_script_kind := (tabD_cons Tryz.call73 (g_request_Name hW) tabD_nil)
def C_script_kind : FuncId → Option Ctr := tabC D_script_kind []
theorem c_script_kind {W : World} (hW : Tabs W) : CtrOk (Fw W) Tryz.prog C_script_kind := (tabC_nil (d_script_kind hW))
def L_script_kind : List AV → Nat → Option LR := fun cs i => match cs with | [.str s] => cond (Nat.beq i 2) (some (.inv (LKind s))) (none) | _ => none
theorem g_script_kind {W : World} (hW : Tabs W) : GoodP (Fw W) Tryz.prog 79 pcKind := by
 have hD := d_script_kind hW
 have hC0 : CtrOk (Fw W) Tryz.prog C_script_kind := (c_script_kind hW)
 refine goodP_fun (D := D_script_kind) (C := C_script_kind) (wr := (fun _ => false)) rfl tyOk hD hC0 Tryz.func79 (L_script_kind) ?_
 clear hC0 hD hW
 intro cs p r h hf hp
 split at h
 case h_2 => cases h
 rename_i s
 cases h
 try simp only [factL, factA, inK_def, Go.Vc.lo, Go.Vc.hi, and_true] at hf
 (conv => whnf)
 all_goals (try (show _ = _; simp only [wQ]))
 refine ⟨?_, fun (i : Nat) hi => ?_⟩
 ·(conv => whnf)
  refine ⟨(0 : Nat), [], ?_, ⟨⟨rfl, Nat.le_of_ble_eq_true rfl, rfl⟩, ?_, ?_⟩⟩
  ·exact ⟨Nat.zero_le _, fun k h1 h2 => absurd h2 (by have : k ≤ 0 := h2; omega)⟩
  ·exact leL_rfl _
  ·(conv => whnf)
   (repeat' ((first | with_reducible exact True.intro | fail) <;> (conv => whnf)))
   all_goals (try simp only [wQ])
 ·obtain ⟨h1, h2⟩ := hi
  have h1 : i ≤ 10 := h1
  have hz : ¬ nameQ ((i : Int) + 1) = [] → i < 10 := fun h => by
   refine Decidable.of_not_not fun hn => h (nameQ_no (by omega))
  have hk : i < 10 → nameQ ((i : Int) + 1) = s → kindOf s = (i : Int) + 1 := fun hi h => by rw [← h]; exact kindOf_at (by omega)
  have hn : nameQ ((i : Int) + 1) = [] → kindOf s = 0 := fun h => by
   refine kindOf_no fun k k1 k2 => h2 k k1 ?_
   have : ¬ i < 10 := fun hi => by
    rw [nameQ_at (by omega)] at h
    rcases (by omega : i = 0 ∨ i = 1 ∨ i = 2 ∨ i = 3 ∨ i = 4 ∨ i = 5 ∨ i = 6 ∨ i = 7 ∨ i = 8 ∨ i = 9) with rfl | rfl | rfl | rfl | rfl | rfl | rfl | rfl | rfl | rfl <;> exact absurd h (by decide)
   omega
  (conv => whnf)
  (repeat' ((first
   | ((with_reducible refine And.intro ?_ ?_); focus (first | with_reducible exact True.intro | with_reducible rfl | (simp only [inK_def, Go.Vc.lo, Go.Vc.hi]; omega)))
   | (split <;> rename_i hh <;> (try simp only [wS] at hh) <;> (try simp (disch := omega) only [wT] at hh))
   | fail) <;> (conv => whnf)))
  all_goals (try (show _ = _; simp only [wQ]))
  ·rw [hk (hz (by assumption)) (by assumption)]
  ·have := hz (by assumption)
   (conv => whnf)
   refine ⟨(i + 1 : Nat), [], ?_, ⟨⟨rfl, Nat.le_of_ble_eq_true rfl, rfl⟩, ?_, ?_⟩⟩
   ·refine ⟨⟨show i + 1 ≤ 10 by omega, fun k k1 k2 => ?_⟩, show 10 - (i + 1) < 10 - i by omega⟩
    have k2 : k ≤ (i : Int) + 1 := k2
    by_cases he : k = (i : Int) + 1
    ·subst he; assumption
    ·exact h2 k k1 (by omega)
   ·exact leL_rfl _
   ·(conv => whnf)
    (repeat' ((first | with_reducible exact True.intro | fail) <;> (conv => whnf)))
    all_goals (try simp only [wQ])
  ·rw [hn (by assumption)]
open Classical in
@[irreducible] def eqC (a b : List Coupon) : Bool := decide (a = b)
open Classical in
@[irreducible] def eqT (a b : List Tax) : Bool := decide (a = b)
theorem eqC_iff {a b : List Coupon} : eqC a b = true ↔ a = b := by unfold eqC; simp
theorem eqT_iff {a b : List Tax} : eqT a b = true ↔ a = b := by unfold eqT; simp
theorem eqC_no {a b : List Coupon} (h : a ≠ b) : false = eqC a b := by
 cases hs : eqC a b with
 | false => rfl
 | true => exact absurd (eqC_iff.1 hs) h
theorem eqT_no {a b : List Tax} (h : a ≠ b) : false = eqT a b := by
 cases hs : eqT a b with
 | false => rfl
 | true => exact absurd (eqT_iff.1 hs) h
def LEq {α : Type} [Inhabited α] (z : Nat) (enc : α → List AV) (l m : List α) : LoopSpec := {
 α := Nat
 keep := [0, 1, 12, 13]
 vals i := [slE z enc l, slE z enc m, .int .i64 l.length, .int .i64 i]
 heap _ := []
 ok i := i ≤ l.length ∧ ∀ j, j < i → l.getD j default = m.getD j default
 μ i := l.length - i }
def pcEqC : PC := PC.of (fun x : List Coupon × List Coupon => [slE 6 Coupon.enc x.1, slE 6 Coupon.enc x.2]) (fun _ => True) (fun x => .bool (sB (eqC x.1 x.2)))
def pcEqT : PC := PC.of (fun x : List Tax × List Tax => [slE 2 Tax.enc x.1, slE 2 Tax.enc x.2]) (fun _ => True) (fun x => .bool (sB (eqT x.1 x.2)))
def L_slices_Equal_api_Coupon_api_Coupon : List Coupon × List Coupon → Nat → Option LR := fun x i => cond (Nat.beq i 4) (some (.inv (LEq 6 Coupon.enc x.1 x.2))) (none)
theorem g_slices_Equal_api_Coupon_api_Coupon {W : World} (hW : Tabs W) : GoodP (Fw W) Tryz.prog 214 pcEqC := by
 have hD := d_request_Name hW
 have hC0 : ∀ x : List Coupon × List Coupon, CtrOk (Fw W) Tryz.prog C_request_Name := fun x => (c_request_Name hW)
 refine goodP_ofC (D := D_request_Name) (C := fun x => C_request_Name) (wr := (fun _ => false)) rfl tyOk hD hC0 Tryz.func214 (L_slices_Equal_api_Coupon_api_Coupon) (fun _ => rfl) ?_
 rintro ⟨a, b⟩ hf hp
 clear hf
 have kc : ∀ c : Coupon, cEq c c = true := fun c => cEq_iff.2 rfl
 (conv => whnf)
 (repeat' ((first
  | (split <;> rename_i hh <;> (try simp only [wS] at hh) <;> (try simp (disch := omega) only [wT] at hh))
  | with_reducible refine (fun (hln : (_ : Int) ≤ 9223372036854775807) => ?_)
  | fail) <;> (conv => whnf)))
 all_goals (try (show _ = _; simp only [wQ]))
 ·refine eqC_no fun h => ?_; subst h; simp_all
 refine ⟨?_, fun (i : Nat) hi => ?_⟩
 ·(conv => whnf)
  refine ⟨(0 : Nat), [], ?_, ⟨⟨rfl, Nat.le_of_ble_eq_true rfl, rfl⟩, ?_, ?_⟩⟩
  ·exact ⟨Nat.zero_le _, fun j hj => absurd hj (Nat.not_lt_zero _)⟩
  ·exact leL_rfl _
  ·(conv => whnf)
   (repeat' ((first | with_reducible exact True.intro | fail) <;> (conv => whnf)))
   all_goals (try simp only [wQ])
 ·obtain ⟨h1, m1⟩ := hi
  have h1 : i ≤ a.length := h1
  (conv => whnf)
  (repeat' ((first
   | (refine optP_cEq ?_)
   | ((with_reducible refine And.intro ?_ ?_); focus (first | ((with_reducible show okB _ _ _ = true); rfl) | ((with_reducible refine ⟨?_, ?_⟩) <;> first | with_reducible assumption | omega) | (simp only [inK_def, Go.Vc.lo, Go.Vc.hi]; omega) | (dsimp only at *; simp only [inK_def, Go.Vc.lo, Go.Vc.hi]; omega)))
   | (split <;> rename_i hh <;> (try simp only [wS] at hh) <;> (try simp (disch := omega) only [wT] at hh))
   | fail) <;> (conv => whnf)))
  all_goals (try (show _ = _; simp only [wQ]))
  ·refine eqC_no fun h => ?_; subst h; rw [kc _] at hh; cases hh
  ·(conv => whnf)
   refine ⟨(i + 1 : Nat), [], ?_, ⟨⟨rfl, Nat.le_of_ble_eq_true rfl, rfl⟩, ?_, ?_⟩⟩
   ·refine ⟨⟨show i + 1 ≤ a.length by omega, fun j hj => ?_⟩, show a.length - (i + 1) < a.length - i by omega⟩
    have hj : j < i + 1 := hj
    by_cases he : j = i
    ·subst he; exact cEq_iff.1 hh
    ·exact m1 j (by omega)
   ·exact leL_rfl _
   ·(conv => whnf)
    (repeat' ((first | with_reducible exact True.intro | fail) <;> (conv => whnf)))
    all_goals (try simp only [wQ])
  ·dsimp only at *
   exact (eqC_iff.2 (list_eq_getD (by omega) fun j hj => m1 j (by omega))).symm
def L_slices_Equal_api_Tax_api_Tax : List Tax × List Tax → Nat → Option LR := fun x i => cond (Nat.beq i 4) (some (.inv (LEq 2 Tax.enc x.1 x.2))) (none)
theorem g_slices_Equal_api_Tax_api_Tax {W : World} (hW : Tabs W) : GoodP (Fw W) Tryz.prog 215 pcEqT := by
 have hD := d_request_Name hW
 have hC0 : ∀ x : List Tax × List Tax, CtrOk (Fw W) Tryz.prog C_request_Name := fun x => (c_request_Name hW)
 refine goodP_ofC (D := D_request_Name) (C := fun x => C_request_Name) (wr := (fun _ => false)) rfl tyOk hD hC0 Tryz.func215 (L_slices_Equal_api_Tax_api_Tax) (fun _ => rfl) ?_
 rintro ⟨a, b⟩ hf hp
 clear hf
 have kc : ∀ c : Tax, xEq c c = true := fun c => xEq_iff.2 rfl
 (conv => whnf)
 (repeat' ((first
  | (split <;> rename_i hh <;> (try simp only [wS] at hh) <;> (try simp (disch := omega) only [wT] at hh))
  | with_reducible refine (fun (hln : (_ : Int) ≤ 9223372036854775807) => ?_)
  | fail) <;> (conv => whnf)))
 all_goals (try (show _ = _; simp only [wQ]))
 ·refine eqT_no fun h => ?_; subst h; simp_all
 refine ⟨?_, fun (i : Nat) hi => ?_⟩
 ·(conv => whnf)
  refine ⟨(0 : Nat), [], ?_, ⟨⟨rfl, Nat.le_of_ble_eq_true rfl, rfl⟩, ?_, ?_⟩⟩
  ·exact ⟨Nat.zero_le _, fun j hj => absurd hj (Nat.not_lt_zero _)⟩
  ·exact leL_rfl _
  ·(conv => whnf)
   (repeat' ((first | with_reducible exact True.intro | fail) <;> (conv => whnf)))
   all_goals (try simp only [wQ])
 ·obtain ⟨h1, m1⟩ := hi
  have h1 : i ≤ a.length := h1
  (conv => whnf)
  (repeat' ((first
   | (refine optP_xEq ?_)
   | ((with_reducible refine And.intro ?_ ?_); focus (first | ((with_reducible show okB _ _ _ = true); rfl) | ((with_reducible refine ⟨?_, ?_⟩) <;> first | with_reducible assumption | omega) | (simp only [inK_def, Go.Vc.lo, Go.Vc.hi]; omega) | (dsimp only at *; simp only [inK_def, Go.Vc.lo, Go.Vc.hi]; omega)))
   | (split <;> rename_i hh <;> (try simp only [wS] at hh) <;> (try simp (disch := omega) only [wT] at hh))
   | fail) <;> (conv => whnf)))
  all_goals (try (show _ = _; simp only [wQ]))
  ·refine eqT_no fun h => ?_; subst h; rw [kc _] at hh; cases hh
  ·(conv => whnf)
   refine ⟨(i + 1 : Nat), [], ?_, ⟨⟨rfl, Nat.le_of_ble_eq_true rfl, rfl⟩, ?_, ?_⟩⟩
   ·refine ⟨⟨show i + 1 ≤ a.length by omega, fun j hj => ?_⟩, show a.length - (i + 1) < a.length - i by omega⟩
    have hj : j < i + 1 := hj
    by_cases he : j = i
    ·subst he; exact xEq_iff.1 hh
    ·exact m1 j (by omega)
   ·exact leL_rfl _
   ·(conv => whnf)
    (repeat' ((first | with_reducible exact True.intro | fail) <;> (conv => whnf)))
    all_goals (try simp only [wQ])
  ·dsimp only at *
   exact (eqT_iff.2 (list_eq_getD (by omega) fun j hj => m1 j (by omega))).symm
def D_request_Same : PT := tabD [(214, pcEqC), (215, pcEqT)]
theorem d_request_Same {W : World} (hW : Tabs W) : PTOk (Fw W) Tryz.prog D_request_Same := (tabD_cons Tryz.call214 (g_slices_Equal_api_Coupon_api_Coupon hW) (tabD_cons Tryz.call215 (g_slices_Equal_api_Tax_api_Tax hW) tabD_nil))
def C_request_Same : FuncId → Option Ctr := tabC D_request_Same []
theorem c_request_Same {W : World} (hW : Tabs W) : CtrOk (Fw W) Tryz.prog C_request_Same := (tabC_nil (d_request_Same hW))
def I1_request_Same : List (FuncId × Ctr) := (213, inl TY C_request_Same D_request_Same (fun _ => false) (fun _ _ _ => none) Tryz.f213) :: []
def C1_request_Same : FuncId → Option Ctr := tabC D_request_Same I1_request_Same
theorem c1_request_Same {W : World} (hW : Tabs W) : CtrOk (Fw W) Tryz.prog C1_request_Same := tabC_cons Tryz.call213 (good_inl rfl tyOk (d_request_Same hW) (c_request_Same hW) Tryz.func213 (fun _ _ _ => none)) (c_request_Same hW)
def L_request_Same : Request × Request → Nat → Option LR := fun cs i => cond (Nat.beq i 2) (some (.order [0, 1, 3, 4, 2, 5, 6, 7, 8, 9, 10, 11, 12, 13, 14, 15, 16, 17, 18, 19, 20, 21])) (none)
set_option maxHeartbeats 2000000 in
theorem g_request_Same {W : World} (hW : Tabs W) : GoodP (Fw W) Tryz.prog 142 pcSameR := by
 have hD := d_request_Same hW
 have hC0 : ∀ x : Request × Request, CtrOk (Fw W) Tryz.prog C1_request_Same := fun x => (c1_request_Same hW)
 refine goodP_ofC (D := D_request_Same) (C := fun x => C1_request_Same) (wr := (fun _ => false)) rfl tyOk hD hC0 Tryz.func142 (L_request_Same) (fun _ => rfl) ?_
 rintro ⟨a, b⟩ hf hp
 clear hf
 (conv => whnf)
 (repeat' ((first
  | (with_reducible refine inl_intro ?_)
  | (refine optP_bare ?_)
  | with_reducible refine And.intro (?_ : opQ _ _ _ _ _ _) ?_
  | ((with_reducible refine And.intro ?_ ?_); focus (((with_reducible show okQ _ _ = true); rfl)))
  | (split <;> rename_i hh <;> (try simp only [wS] at hh) <;> (try simp (disch := omega) only [wT] at hh))
  | fail) <;> (conv => whnf)))
 all_goals (try (show _ = _; simp only [wQ]))
 ·refine ⟨(a.coupons, b.coupons), True.intro, ?_, ?_⟩
  ·exact leL_rfl _
  (conv => whnf)
  (repeat' ((first
   | (split <;> rename_i hh <;> (try simp only [wS] at hh) <;> (try simp (disch := omega) only [wT] at hh))
   | fail) <;> (conv => whnf)))
  all_goals (try (show _ = _; simp only [wQ]))
  ·refine ⟨(a.taxes, b.taxes), True.intro, ?_, ?_⟩
   ·exact leL_rfl _
   (conv => whnf)
   all_goals (try (show _ = _; simp only [wQ]))
   refine Bool.eq_iff_iff.2 ⟨fun h => sameR_iff.2 ?_, fun h => ?_⟩
   ·have h5 := eqT_iff.1 h
    have h6 := eqC_iff.1 (by assumption)
    cases a; cases b; simp only at *; simp_all
   ·have := sameR_iff.1 h; subst this; exact eqT_iff.2 rfl
  ·refine sameR_no fun h => ?_; subst h; rw [eqC_iff.2 rfl] at hh; cases hh
 ·refine sameR_no fun h => ?_; subst h; simp at hh
end
end Go.Vc.Z
namespace Go.Vc.Z
open Go Go.Vc Go.Proofs Go.RowKit Go.Pl Go.Lib
theorem numOk_iff {g : Bool} {lo n hi : Int} : numOk g lo n hi = true ↔ g = true ∧ lo ≤ n ∧ n ≤ hi := by
 unfold numOk; rw [leI_eq, leI_eq]; simp
theorem keyB_ln {s : List UInt8} (h : keyB s = true) : 1 ≤ s.length ∧ s.length ≤ 16 := by
 unfold keyB at h; simp only [Bool.and_eq_true, decide_eq_true_eq] at h; omega
section
variable {key locator : List UInt8} {day ticket coupon status amount frm til : Int} {coupons : List Coupon} {taxes : List Tax}
theorem may_iff_1 : mayReqB ⟨key, 1, day, ticket, coupon, status, locator, coupons, taxes, amount, frm, til⟩ = true ↔ keyB key = true ∧ (0 ≤ day ∧ day ≤ 1000000) ∧ locOk locator = true ∧ coupB 12 coupons = true ∧ taxesB taxes = true ∧ ticket = 0 ∧ coupon = 0 ∧ status = 0 ∧ amount = 0 ∧ frm = 0 ∧ til = 0 := by
 have ho : onlyR ⟨key, 1, day, ticket, coupon, status, locator, coupons, taxes, amount, frm, til⟩ = ⟨key, 1, day, 0, 0, 0, locator, coupons, taxes, 0, 0, 0⟩ := rfl
 rw [mayReq_1 rfl, ho]
 simp only [part_K, part_D, part_L, part_T, part_N, part_S, part_A, part_J, part_C, part_X, part_R, Bool.and_eq_true, sameR_iff, Request.mk.injEq, and_true, true_and, decide_eq_true_eq]
 all_goals (try unfold dayB); (try unfold numdB); (try unfold someB); (try unfold mayS)
 all_goals simp only [Bool.and_eq_true, decide_eq_true_eq, and_assoc, true_and, and_true]
theorem may_iff_2 : mayReqB ⟨key, 2, day, ticket, coupon, status, locator, coupons, taxes, amount, frm, til⟩ = true ↔ keyB key = true ∧ (0 ≤ day ∧ day ≤ 1000000) ∧ checkN ticket = 0 ∧ (1 ≤ coupon ∧ coupon ≤ 4) ∧ (1 ≤ status ∧ status ≤ 9) ∧ locator = [] ∧ coupons = [] ∧ taxes = [] ∧ amount = 0 ∧ frm = 0 ∧ til = 0 := by
 have ho : onlyR ⟨key, 2, day, ticket, coupon, status, locator, coupons, taxes, amount, frm, til⟩ = ⟨key, 2, day, ticket, coupon, status, [], [], [], 0, 0, 0⟩ := rfl
 rw [mayReq_2 rfl, ho]
 simp only [part_K, part_D, part_L, part_T, part_N, part_S, part_A, part_J, part_C, part_X, part_R, Bool.and_eq_true, sameR_iff, Request.mk.injEq, and_true, true_and, decide_eq_true_eq]
 all_goals (try unfold dayB); (try unfold numdB); (try unfold someB); (try unfold mayS)
 all_goals simp only [Bool.and_eq_true, decide_eq_true_eq, and_assoc, true_and, and_true]
theorem may_iff_3 : mayReqB ⟨key, 3, day, ticket, coupon, status, locator, coupons, taxes, amount, frm, til⟩ = true ↔ keyB key = true ∧ (0 ≤ day ∧ day ≤ 1000000) ∧ checkN ticket = 0 ∧ coupon = 0 ∧ status = 0 ∧ locator = [] ∧ coupons = [] ∧ taxes = [] ∧ amount = 0 ∧ frm = 0 ∧ til = 0 := by
 have ho : onlyR ⟨key, 3, day, ticket, coupon, status, locator, coupons, taxes, amount, frm, til⟩ = ⟨key, 3, day, ticket, 0, 0, [], [], [], 0, 0, 0⟩ := rfl
 rw [mayReq_3 rfl, ho]
 simp only [part_K, part_D, part_L, part_T, part_N, part_S, part_A, part_J, part_C, part_X, part_R, Bool.and_eq_true, sameR_iff, Request.mk.injEq, and_true, true_and, decide_eq_true_eq]
 all_goals (try unfold dayB); (try unfold numdB); (try unfold someB); (try unfold mayS)
 all_goals simp only [Bool.and_eq_true, decide_eq_true_eq, and_assoc, true_and, and_true]
theorem may_iff_4 : mayReqB ⟨key, 4, day, ticket, coupon, status, locator, coupons, taxes, amount, frm, til⟩ = true ↔ keyB key = true ∧ (0 ≤ day ∧ day ≤ 1000000) ∧ checkN ticket = 0 ∧ (0 ≤ amount ∧ amount ≤ 1000000000000) ∧ coupon = 0 ∧ status = 0 ∧ locator = [] ∧ coupons = [] ∧ taxes = [] ∧ frm = 0 ∧ til = 0 := by
 have ho : onlyR ⟨key, 4, day, ticket, coupon, status, locator, coupons, taxes, amount, frm, til⟩ = ⟨key, 4, day, ticket, 0, 0, [], [], [], amount, 0, 0⟩ := rfl
 rw [mayReq_4 rfl, ho]
 simp only [part_K, part_D, part_L, part_T, part_N, part_S, part_A, part_J, part_C, part_X, part_R, Bool.and_eq_true, sameR_iff, Request.mk.injEq, and_true, true_and, decide_eq_true_eq]
 all_goals (try unfold dayB); (try unfold numdB); (try unfold someB); (try unfold mayS)
 all_goals simp only [Bool.and_eq_true, decide_eq_true_eq, and_assoc, true_and, and_true]
theorem may_iff_5 : mayReqB ⟨key, 5, day, ticket, coupon, status, locator, coupons, taxes, amount, frm, til⟩ = true ↔ keyB key = true ∧ (0 ≤ day ∧ day ≤ 1000000) ∧ checkN ticket = 0 ∧ (0 ≤ amount ∧ amount ≤ 1000000000000) ∧ coupB 4 coupons = true ∧ taxesB taxes = true ∧ coupon = 0 ∧ status = 0 ∧ locator = [] ∧ frm = 0 ∧ til = 0 := by
 have ho : onlyR ⟨key, 5, day, ticket, coupon, status, locator, coupons, taxes, amount, frm, til⟩ = ⟨key, 5, day, ticket, 0, 0, [], coupons, taxes, amount, 0, 0⟩ := rfl
 rw [mayReq_5 rfl, ho]
 simp only [part_K, part_D, part_L, part_T, part_N, part_S, part_A, part_J, part_C, part_X, part_R, Bool.and_eq_true, sameR_iff, Request.mk.injEq, and_true, true_and, decide_eq_true_eq]
 all_goals (try unfold dayB); (try unfold numdB); (try unfold someB); (try unfold mayS)
 all_goals simp only [Bool.and_eq_true, decide_eq_true_eq, and_assoc, true_and, and_true]
theorem may_iff_6 : mayReqB ⟨key, 6, day, ticket, coupon, status, locator, coupons, taxes, amount, frm, til⟩ = true ↔ keyB key = true ∧ (0 ≤ day ∧ day ≤ 1000000) ∧ checkN ticket = 0 ∧ (1 ≤ coupon ∧ coupon ≤ 4) ∧ status = 0 ∧ locator = [] ∧ coupons = [] ∧ taxes = [] ∧ amount = 0 ∧ frm = 0 ∧ til = 0 := by
 have ho : onlyR ⟨key, 6, day, ticket, coupon, status, locator, coupons, taxes, amount, frm, til⟩ = ⟨key, 6, day, ticket, coupon, 0, [], [], [], 0, 0, 0⟩ := rfl
 rw [mayReq_6 rfl, ho]
 simp only [part_K, part_D, part_L, part_T, part_N, part_S, part_A, part_J, part_C, part_X, part_R, Bool.and_eq_true, sameR_iff, Request.mk.injEq, and_true, true_and, decide_eq_true_eq]
 all_goals (try unfold dayB); (try unfold numdB); (try unfold someB); (try unfold mayS)
 all_goals simp only [Bool.and_eq_true, decide_eq_true_eq, and_assoc, true_and, and_true]
theorem may_iff_7 : mayReqB ⟨key, 7, day, ticket, coupon, status, locator, coupons, taxes, amount, frm, til⟩ = true ↔ keyB key = true ∧ (0 ≤ day ∧ day ≤ 1000000) ∧ checkN ticket = 0 ∧ (1 ≤ coupon ∧ coupon ≤ 4) ∧ status = 0 ∧ locator = [] ∧ coupons = [] ∧ taxes = [] ∧ amount = 0 ∧ frm = 0 ∧ til = 0 := by
 have ho : onlyR ⟨key, 7, day, ticket, coupon, status, locator, coupons, taxes, amount, frm, til⟩ = ⟨key, 7, day, ticket, coupon, 0, [], [], [], 0, 0, 0⟩ := rfl
 rw [mayReq_7 rfl, ho]
 simp only [part_K, part_D, part_L, part_T, part_N, part_S, part_A, part_J, part_C, part_X, part_R, Bool.and_eq_true, sameR_iff, Request.mk.injEq, and_true, true_and, decide_eq_true_eq]
 all_goals (try unfold dayB); (try unfold numdB); (try unfold someB); (try unfold mayS)
 all_goals simp only [Bool.and_eq_true, decide_eq_true_eq, and_assoc, true_and, and_true]
theorem may_iff_8 : mayReqB ⟨key, 8, day, ticket, coupon, status, locator, coupons, taxes, amount, frm, til⟩ = true ↔ checkN ticket = 0 ∧ key = [] ∧ day = 0 ∧ coupon = 0 ∧ status = 0 ∧ locator = [] ∧ coupons = [] ∧ taxes = [] ∧ amount = 0 ∧ frm = 0 ∧ til = 0 := by
 have ho : onlyR ⟨key, 8, day, ticket, coupon, status, locator, coupons, taxes, amount, frm, til⟩ = ⟨[], 8, 0, ticket, 0, 0, [], [], [], 0, 0, 0⟩ := rfl
 rw [mayReq_8 rfl, ho]
 simp only [part_K, part_D, part_L, part_T, part_N, part_S, part_A, part_J, part_C, part_X, part_R, Bool.and_eq_true, sameR_iff, Request.mk.injEq, and_true, true_and, decide_eq_true_eq]
 all_goals (try unfold dayB); (try unfold numdB); (try unfold someB); (try unfold mayS)
 all_goals simp only [Bool.and_eq_true, decide_eq_true_eq, and_assoc, true_and, and_true]
theorem may_iff_9 : mayReqB ⟨key, 9, day, ticket, coupon, status, locator, coupons, taxes, amount, frm, til⟩ = true ↔ locOk locator = true ∧ key = [] ∧ day = 0 ∧ ticket = 0 ∧ coupon = 0 ∧ status = 0 ∧ coupons = [] ∧ taxes = [] ∧ amount = 0 ∧ frm = 0 ∧ til = 0 := by
 have ho : onlyR ⟨key, 9, day, ticket, coupon, status, locator, coupons, taxes, amount, frm, til⟩ = ⟨[], 9, 0, 0, 0, 0, locator, [], [], 0, 0, 0⟩ := rfl
 rw [mayReq_9 rfl, ho]
 simp only [part_K, part_D, part_L, part_T, part_N, part_S, part_A, part_J, part_C, part_X, part_R, Bool.and_eq_true, sameR_iff, Request.mk.injEq, and_true, true_and, decide_eq_true_eq]
 all_goals (try unfold dayB); (try unfold numdB); (try unfold someB); (try unfold mayS)
 all_goals simp only [Bool.and_eq_true, decide_eq_true_eq, and_assoc, true_and, and_true]
theorem may_iff_10 : mayReqB ⟨key, 10, day, ticket, coupon, status, locator, coupons, taxes, amount, frm, til⟩ = true ↔ ((0 ≤ frm ∧ frm ≤ 1000000) ∧ (0 ≤ til ∧ til ≤ 1000000)) ∧ key = [] ∧ day = 0 ∧ ticket = 0 ∧ coupon = 0 ∧ status = 0 ∧ locator = [] ∧ coupons = [] ∧ taxes = [] ∧ amount = 0 := by
 have ho : onlyR ⟨key, 10, day, ticket, coupon, status, locator, coupons, taxes, amount, frm, til⟩ = ⟨[], 10, 0, 0, 0, 0, [], [], [], 0, frm, til⟩ := rfl
 rw [mayReq_10 rfl, ho]
 simp only [part_K, part_D, part_L, part_T, part_N, part_S, part_A, part_J, part_C, part_X, part_R, Bool.and_eq_true, sameR_iff, Request.mk.injEq, and_true, true_and, decide_eq_true_eq]
 all_goals (try unfold dayB); (try unfold numdB); (try unfold someB); (try unfold mayS)
 all_goals simp only [Bool.and_eq_true, decide_eq_true_eq, and_assoc, true_and, and_true]
end
noncomputable section
set_option maxRecDepth 100000
set_option linter.unusedSimpArgs false
set_option linter.unusedVariables false
attribute [local irreducible] inK Utf8.decode Utf8.encode Lib.itoa Pl.worth Pl.allDig
attribute [local irreducible] Lib.join
def setE (H : List Blk) (q e j : Nat) (c : AV) : List Blk := match H[q]? with | some (.row sz len get T) => H.set q (.row sz len (fun k => mergeL (decide (k = e)) (over (get e) j [c]) (get k)) T) | _ => H
def cellE (H : List Blk) (q e j : Nat) : Option AV := match H[q]? with | some (.row _ _ get _) => (get e)[j]? | _ => none
theorem inlC_bool {TY : TypeId → Option TI} {C : FuncId → Option Ctr} {D : PT} {wr : Tmp → Bool} {L : List AV → List Blk → Nat → Option LR} {fn : Func} {cs : List AV} {H : List Blk} {Q : AV → List Blk → Prop} (r : AV) (F : Bool → List Blk) (B : Bool) (h1 : fnE TY C D wr (L cs H) fn cs H (fun c H' => c = r ∧ ∃ b, b = B ∧ H' = F b)) (h2 : Q r (F (sB B))) : inlC TY C D wr L fn cs H Q := by
 refine inlC_intro _ h1 ?_
 rintro c H' ⟨rfl, b, rfl, rfl⟩
 rw [sB_eq] at h2; exact h2
theorem inlC_weigh {TY : TypeId → Option TI} {C : FuncId → Option Ctr} {D : PT} {wr : Tmp → Bool} {L : List AV → List Blk → Nat → Option LR} {fn : Func} {H : List Blk} {Q : AV → List Blk → Prop} {p : Nat} {g m : Bool} (hg : cellOf H p 2 = some (.bool g))
  (h1 : fnE TY C D wr (L [.ptr p 0, .bool m] H) fn [.ptr p 0, .bool m] H (fun c H' => c = .tup [] ∧ ∃ b, b = (g && m) ∧ H' = setCell H p 2 (.bool b)))
  (h2 : Q (.tup []) (setCell H p 2 (.bool (sB (g && m))))) : inlC TY C D wr L fn [.ptr p 0, .bool m] H Q :=
 inlC_bool _ (fun b => setCell H p 2 (.bool b)) _ h1 h2
theorem inlC_numberE {TY : TypeId → Option TI} {C : FuncId → Option Ctr} {D : PT} {wr : Tmp → Bool} {L : List AV → List Blk → Nat → Option LR} {fn : Func} {H : List Blk} {Q : AV → List Blk → Prop} {p q z e j : Nat} {sz lo hi n : Int} {g : Bool} (hg : cellOf H p 2 = some (.bool g)) (hn : cellE H q e j = some (.int .i64 n))
  (h1 : fnE TY C D wr (L [.ptr p 0, .eptr q z e j, .int .i64 sz, .int .i64 lo, .int .i64 hi] H) fn [.ptr p 0, .eptr q z e j, .int .i64 sz, .int .i64 lo, .int .i64 hi] H (fun c H' => c = .tup [] ∧ ∃ b, b = numOk g lo n hi ∧ H' = setE (setCell H p 2 (.bool b)) q e j (.int .i64 0)))
  (h2 : Q (.tup []) (setE (setCell H p 2 (.bool (sB (numOk g lo n hi)))) q e j (.int .i64 0))) : inlC TY C D wr L fn [.ptr p 0, .eptr q z e j, .int .i64 sz, .int .i64 lo, .int .i64 hi] H Q :=
 inlC_bool _ (fun b => setE (setCell H p 2 (.bool b)) q e j (.int .i64 0)) _ h1 h2
theorem inlC_weigh' {TY : TypeId → Option TI} {C : FuncId → Option Ctr} {D : PT} {wr : Tmp → Bool} {L : List AV → List Blk → Nat → Option LR} {fn : Func} {cs : List AV} {H : List Blk} {Q : AV → List Blk → Prop} {p : Nat} {g m : Bool} (hcs : cs = [.ptr p 0, .bool m]) (hg : cellOf H p 2 = some (.bool g))
  (h1 : fnE TY C D wr (L [.ptr p 0, .bool m] H) fn [.ptr p 0, .bool m] H (fun c H' => c = .tup [] ∧ ∃ b, b = (g && m) ∧ H' = setCell H p 2 (.bool b)))
  (h2 : Q (.tup []) (setCell H p 2 (.bool (sB (g && m))))) : inlC TY C D wr L fn cs H Q := by
 subst hcs; exact inlC_weigh hg h1 h2
theorem inlC_number' {TY : TypeId → Option TI} {C : FuncId → Option Ctr} {D : PT} {wr : Tmp → Bool} {L : List AV → List Blk → Nat → Option LR} {fn : Func} {cs : List AV} {H : List Blk} {Q : AV → List Blk → Prop} {p q j : Nat} {sz lo hi n : Int} {g : Bool} (hcs : cs = [.ptr p 0, .ptr q j, .int .i64 sz, .int .i64 lo, .int .i64 hi]) (hg : cellOf H p 2 = some (.bool g)) (hn : cellOf H q j = some (.int .i64 n))
  (h1 : fnE TY C D wr (L [.ptr p 0, .ptr q j, .int .i64 sz, .int .i64 lo, .int .i64 hi] H) fn [.ptr p 0, .ptr q j, .int .i64 sz, .int .i64 lo, .int .i64 hi] H (fun c H' => c = .tup [] ∧ ∃ b, b = numOk g lo n hi ∧ H' = setCell (setCell H p 2 (.bool b)) q j (.int .i64 0)))
  (h2 : Q (.tup []) (setCell (setCell H p 2 (.bool (sB (numOk g lo n hi)))) q j (.int .i64 0))) : inlC TY C D wr L fn cs H Q := by
 subst hcs; exact inlC_number hg hn h1 h2
theorem inlC_numberE' {TY : TypeId → Option TI} {C : FuncId → Option Ctr} {D : PT} {wr : Tmp → Bool} {L : List AV → List Blk → Nat → Option LR} {fn : Func} {cs : List AV} {H : List Blk} {Q : AV → List Blk → Prop} {p q z e j : Nat} {sz lo hi n : Int} {g : Bool} (hcs : cs = [.ptr p 0, .eptr q z e j, .int .i64 sz, .int .i64 lo, .int .i64 hi]) (hg : cellOf H p 2 = some (.bool g)) (hn : cellE H q e j = some (.int .i64 n))
  (h1 : fnE TY C D wr (L [.ptr p 0, .eptr q z e j, .int .i64 sz, .int .i64 lo, .int .i64 hi] H) fn [.ptr p 0, .eptr q z e j, .int .i64 sz, .int .i64 lo, .int .i64 hi] H (fun c H' => c = .tup [] ∧ ∃ b, b = numOk g lo n hi ∧ H' = setE (setCell H p 2 (.bool b)) q e j (.int .i64 0)))
  (h2 : Q (.tup []) (setE (setCell H p 2 (.bool (sB (numOk g lo n hi)))) q e j (.int .i64 0))) : inlC TY C D wr L fn cs H Q := by
 subst hcs; exact inlC_numberE hg hn h1 h2
theorem numOk_in {g : Bool} {lo n hi : Int} (h : lo ≤ n) : (g && leI n hi) = numOk g lo n hi := by
 unfold numOk; rw [leI_eq lo, decide_eq_true h]; simp
def ptrOf (cs : List AV) : Nat := match cs with
 | .ptr p _ :: _ => p
 | _ => 0
def slotOf (H : List Blk) (cs : List AV) (j : Nat) : Option Nat := match cellOf H (ptrOf cs) 3 with
 | some (.ptr q _) => (match cellOf H q j with | some (.osl k _ _ _ _) => some k | _ => none)
 | _ => none
def shortR (r : Request) : Prop := r.coupons.length ≤ 200000000 ∧ r.taxes.length ≤ 200000000
def pcCloneC : PC := PC.of (fun l : List Coupon => [slE 6 Coupon.enc l]) (fun l => l.length ≤ 200000000) (fun l => slE 6 Coupon.enc l)
def D_slices_Clone_api_Coupon_api_Coupon : PT := tabD []
theorem d_slices_Clone_api_Coupon_api_Coupon {W : World} (hW : Tabs W) : PTOk (Fw W) Tryz.prog D_slices_Clone_api_Coupon_api_Coupon := tabD_nil
def C_slices_Clone_api_Coupon_api_Coupon : FuncId → Option Ctr := tabC D_slices_Clone_api_Coupon_api_Coupon []
theorem c_slices_Clone_api_Coupon_api_Coupon {W : World} (hW : Tabs W) : CtrOk (Fw W) Tryz.prog C_slices_Clone_api_Coupon_api_Coupon := (tabC_nil (d_slices_Clone_api_Coupon_api_Coupon hW))
theorem g_slices_Clone_api_Coupon_api_Coupon {W : World} (hW : Tabs W) : GoodP (Fw W) Tryz.prog 211 pcCloneC := by
 have hD := d_slices_Clone_api_Coupon_api_Coupon hW
 have hC0 : ∀ l : List Coupon, CtrOk (Fw W) Tryz.prog C_slices_Clone_api_Coupon_api_Coupon := fun l => (c_slices_Clone_api_Coupon_api_Coupon hW)
 refine goodP_ofC (D := D_slices_Clone_api_Coupon_api_Coupon) (C := fun l => C_slices_Clone_api_Coupon_api_Coupon) (wr := (fun _ => false)) rfl tyOk hD hC0 Tryz.func211 (fun _ _ => none) (fun _ => rfl) ?_
 intro l hf hp
 clear hf
 have hp : l.length ≤ 200000000 := hp
 (conv => whnf)
 (repeat' ((first
  | ((with_reducible refine And.intro ?_ ?_); focus (first | omega | ((with_reducible refine ⟨?_, ?_⟩) <;> first | with_reducible assumption | omega) | (simp only [growOk, ty2, ty3, ty4, ty5, ty9, ty21, ty37, ty42, ty43, ty45, ty47, ty67, ty95, ty105, ty113, ty150, ty161, ty198, ty242, ty275]; first | omega | (refine ⟨?_, ?_⟩ <;> omega)) | assumption | decide))
  | (split <;> rename_i hh <;> (try simp only [wS] at hh) <;> (try simp (disch := omega) only [wT] at hh))
  | fail) <;> (conv => whnf)))
 all_goals (try (show _ = _; simp only [wQ]))
 all_goals try (intro e he; exfalso; omega)
 ·refine ⟨⟨by omega, fun e he => by unfold catRow; rw [if_neg (by omega)]; rfl⟩, ?_⟩
  (conv => whnf)
  (repeat' ((first
   | ((with_reducible refine And.intro ?_ ?_); focus (first | omega | decide))
   | fail) <;> (conv => whnf)))
  all_goals (try (show _ = _; simp only [wQ]))
  intro e he
  show catRow 0 _ _ (0 + e) = _
  unfold catRow
  rw [if_neg (by omega), Nat.zero_add, Nat.sub_zero]
def pcCloneT : PC := PC.of (fun l : List Tax => [slE 2 Tax.enc l]) (fun l => l.length ≤ 200000000) (fun l => slE 2 Tax.enc l)
theorem g_slices_Clone_api_Tax_api_Tax {W : World} (hW : Tabs W) : GoodP (Fw W) Tryz.prog 212 pcCloneT := by
 have hD := d_slices_Clone_api_Coupon_api_Coupon hW
 have hC0 : ∀ l : List Tax, CtrOk (Fw W) Tryz.prog C_slices_Clone_api_Coupon_api_Coupon := fun l => (c_slices_Clone_api_Coupon_api_Coupon hW)
 refine goodP_ofC (D := D_slices_Clone_api_Coupon_api_Coupon) (C := fun l => C_slices_Clone_api_Coupon_api_Coupon) (wr := (fun _ => false)) rfl tyOk hD hC0 Tryz.func212 (fun _ _ => none) (fun _ => rfl) ?_
 intro l hf hp
 clear hf
 have hp : l.length ≤ 200000000 := hp
 (conv => whnf)
 (repeat' ((first
  | ((with_reducible refine And.intro ?_ ?_); focus (first | omega | ((with_reducible refine ⟨?_, ?_⟩) <;> first | with_reducible assumption | omega) | (simp only [growOk, ty2, ty3, ty4, ty5, ty9, ty21, ty37, ty42, ty43, ty45, ty47, ty67, ty95, ty105, ty113, ty150, ty161, ty198, ty242, ty275]; first | omega | (refine ⟨?_, ?_⟩ <;> omega)) | assumption | decide))
  | (split <;> rename_i hh <;> (try simp only [wS] at hh) <;> (try simp (disch := omega) only [wT] at hh))
  | fail) <;> (conv => whnf)))
 all_goals (try (show _ = _; simp only [wQ]))
 all_goals try (intro e he; exfalso; omega)
 ·refine ⟨⟨by omega, fun e he => by unfold catRow; rw [if_neg (by omega)]; rfl⟩, ?_⟩
  (conv => whnf)
  (repeat' ((first
   | ((with_reducible refine And.intro ?_ ?_); focus (first | omega | decide))
   | fail) <;> (conv => whnf)))
  all_goals (try (show _ = _; simp only [wQ]))
  intro e he
  show catRow 0 _ _ (0 + e) = _
  unfold catRow
  rw [if_neg (by omega), Nat.zero_add, Nat.sub_zero]
def pcClone : PC := PC.of (fun r : Request => [.agg r.enc]) shortR (fun r => .agg r.enc)
def D_request_clone : PT := tabD [(211, pcCloneC), (212, pcCloneT)]
theorem d_request_clone {W : World} (hW : Tabs W) : PTOk (Fw W) Tryz.prog D_request_clone := (tabD_cons Tryz.call211 (g_slices_Clone_api_Coupon_api_Coupon hW) (tabD_cons Tryz.call212 (g_slices_Clone_api_Tax_api_Tax hW) tabD_nil))
def C_request_clone : FuncId → Option Ctr := tabC D_request_clone []
theorem c_request_clone {W : World} (hW : Tabs W) : CtrOk (Fw W) Tryz.prog C_request_clone := (tabC_nil (d_request_clone hW))
theorem g_request_clone {W : World} (hW : Tabs W) : GoodP (Fw W) Tryz.prog 140 pcClone := by
 have hD := d_request_clone hW
 have hC0 : ∀ r : Request, CtrOk (Fw W) Tryz.prog C_request_clone := fun r => (c_request_clone hW)
 refine goodP_ofC (D := D_request_clone) (C := fun r => C_request_clone) (wr := (fun _ => false)) rfl tyOk hD hC0 Tryz.func140 (fun _ _ => none) (fun _ => rfl) ?_
 intro r hf hp
 clear hf
 obtain ⟨hp1, hp2⟩ := hp
 (conv => whnf)
 all_goals (try (show _ = _; simp only [wQ]))
 refine ⟨r.coupons, hp1, ?_, ?_⟩
 ·exact leL_rfl _
 (conv => whnf)
 all_goals (try (show _ = _; simp only [wQ]))
 refine ⟨r.taxes, hp2, ?_, ?_⟩
 ·exact leL_rfl _
 (conv => whnf)
 (repeat' ((first
  | with_reducible exact True.intro
  | ((with_reducible refine And.intro ?_ ?_); focus (first | ((with_reducible show okB _ _ _ = true); rfl) | with_reducible rfl | decide))
  | with_reducible refine And.intro (?_ : leA _ _ _) ?_
  | fail) <;> (conv => whnf)))
 all_goals (try (show _ = _; simp only [wQ]))
 all_goals (intro e he; rfl)
def pcMayA : PC := PC.of (fun r : Request => [.agg r.enc]) (fun r => (r.kind ≠ 1 ∧ r.kind ≠ 5) ∧ shortR r) (fun r => .bool (sB (mayReqB r)))
def D_mayA : PT := tabD [(73, pcName), (127, pcCheck), (140, pcClone), (142, pcSameR), (195, pcLocator), (275, pcMayKey)]
theorem d_mayA {W : World} (hW : Tabs W) : PTOk (Fw W) Tryz.prog D_mayA := (tabD_cons Tryz.call73 (g_request_Name hW) (tabD_cons Tryz.call127 (g_number_Check hW) (tabD_cons Tryz.call140 (g_request_clone hW) (tabD_cons Tryz.call142 (g_request_Same hW) (tabD_cons Tryz.call195 (g_number_Locator hW) (tabD_cons Tryz.call275 (g_request_MayKey hW) tabD_nil))))))
def C_mayA : FuncId → Option Ctr := tabC D_mayA []
theorem c_mayA {W : World} (hW : Tabs W) : CtrOk (Fw W) Tryz.prog C_mayA := (tabC_nil (d_mayA hW))
def I1_mayA : List (FuncId × Ctr) := (298, inlC TY C_mayA D_mayA (fun _ => false) (fun _ _ _ => none) Tryz.f298) :: []
def C1_mayA : FuncId → Option Ctr := tabC D_mayA I1_mayA
theorem c1_mayA {W : World} (hW : Tabs W) : CtrOk (Fw W) Tryz.prog C1_mayA := tabC_cons Tryz.call298 (good_inlC rfl tyOk (d_mayA hW) (c_mayA hW) Tryz.func298 (fun _ _ _ => none)) (c_mayA hW)
def I2_mayA : List (FuncId × Ctr) := (273, inlC TY C1_mayA D_mayA (fun _ => false) (fun _ _ _ => none) Tryz.f273) :: I1_mayA
def C2_mayA : FuncId → Option Ctr := tabC D_mayA I2_mayA
theorem c2_mayA {W : World} (hW : Tabs W) : CtrOk (Fw W) Tryz.prog C2_mayA := tabC_cons Tryz.call273 (good_inlC rfl tyOk (d_mayA hW) (c1_mayA hW) Tryz.func273 (fun _ _ _ => none)) (c1_mayA hW)
def I3_mayA : List (FuncId × Ctr) := (276, inl TY C2_mayA D_mayA (fun _ => false) (fun _ _ _ => none) Tryz.f276) :: I2_mayA
def C3_mayA : FuncId → Option Ctr := tabC D_mayA I3_mayA
theorem c3_mayA {W : World} (hW : Tabs W) : CtrOk (Fw W) Tryz.prog C3_mayA := tabC_cons Tryz.call276 (good_inl rfl tyOk (d_mayA hW) (c2_mayA hW) Tryz.func276 (fun _ _ _ => none)) (c2_mayA hW)
def I4_mayA : List (FuncId × Ctr) := (279, inl TY C3_mayA D_mayA (fun _ => false) (fun _ _ _ => none) Tryz.f279) :: I3_mayA
def C4_mayA : FuncId → Option Ctr := tabC D_mayA I4_mayA
theorem c4_mayA {W : World} (hW : Tabs W) : CtrOk (Fw W) Tryz.prog C4_mayA := tabC_cons Tryz.call279 (good_inl rfl tyOk (d_mayA hW) (c3_mayA hW) Tryz.func279 (fun _ _ _ => none)) (c3_mayA hW)
def I5_mayA : List (FuncId × Ctr) := (259, inl TY C4_mayA D_mayA (fun _ => false) (fun _ _ _ => none) Tryz.f259) :: I4_mayA
def C5_mayA : FuncId → Option Ctr := tabC D_mayA I5_mayA
theorem c5_mayA {W : World} (hW : Tabs W) : CtrOk (Fw W) Tryz.prog C5_mayA := tabC_cons Tryz.call259 (good_inl rfl tyOk (d_mayA hW) (c4_mayA hW) Tryz.func259 (fun _ _ _ => none)) (c4_mayA hW)
def I6_mayA : List (FuncId × Ctr) := (254, inl TY C5_mayA D_mayA (fun _ => false) (fun _ _ _ => none) Tryz.f254) :: I5_mayA
def C6_mayA : FuncId → Option Ctr := tabC D_mayA I6_mayA
theorem c6_mayA {W : World} (hW : Tabs W) : CtrOk (Fw W) Tryz.prog C6_mayA := tabC_cons Tryz.call254 (good_inl rfl tyOk (d_mayA hW) (c5_mayA hW) Tryz.func254 (fun _ _ _ => none)) (c5_mayA hW)
def I7_mayA : List (FuncId × Ctr) := (255, inl TY C6_mayA D_mayA (fun _ => false) (fun _ _ _ => none) Tryz.f255) :: I6_mayA
def C7_mayA : FuncId → Option Ctr := tabC D_mayA I7_mayA
theorem c7_mayA {W : World} (hW : Tabs W) : CtrOk (Fw W) Tryz.prog C7_mayA := tabC_cons Tryz.call255 (good_inl rfl tyOk (d_mayA hW) (c6_mayA hW) Tryz.func255 (fun _ _ _ => none)) (c6_mayA hW)
def I8_mayA : List (FuncId × Ctr) := (274, inl TY C7_mayA D_mayA (fun _ => false) (fun _ _ _ => none) Tryz.f274) :: I7_mayA
def C8_mayA : FuncId → Option Ctr := tabC D_mayA I8_mayA
theorem c8_mayA {W : World} (hW : Tabs W) : CtrOk (Fw W) Tryz.prog C8_mayA := tabC_cons Tryz.call274 (good_inl rfl tyOk (d_mayA hW) (c7_mayA hW) Tryz.func274 (fun _ _ _ => none)) (c7_mayA hW)
def I9_mayA : List (FuncId × Ctr) := (225, inl TY C8_mayA D_mayA (fun _ => false) (fun _ _ _ => none) Tryz.f225) :: I8_mayA
def C9_mayA : FuncId → Option Ctr := tabC D_mayA I9_mayA
theorem c9_mayA {W : World} (hW : Tabs W) : CtrOk (Fw W) Tryz.prog C9_mayA := tabC_cons Tryz.call225 (good_inl rfl tyOk (d_mayA hW) (c8_mayA hW) Tryz.func225 (fun _ _ _ => none)) (c8_mayA hW)
def I10_mayA : List (FuncId × Ctr) := (226, inl TY C9_mayA D_mayA (fun _ => false) (fun _ _ _ => none) Tryz.f226) :: I9_mayA
def C10_mayA : FuncId → Option Ctr := tabC D_mayA I10_mayA
theorem c10_mayA {W : World} (hW : Tabs W) : CtrOk (Fw W) Tryz.prog C10_mayA := tabC_cons Tryz.call226 (good_inl rfl tyOk (d_mayA hW) (c9_mayA hW) Tryz.func226 (fun _ _ _ => none)) (c9_mayA hW)
def I11_mayA : List (FuncId × Ctr) := (230, inl TY C10_mayA D_mayA (fun _ => false) (fun _ _ _ => none) Tryz.f230) :: I10_mayA
def C11_mayA : FuncId → Option Ctr := tabC D_mayA I11_mayA
theorem c11_mayA {W : World} (hW : Tabs W) : CtrOk (Fw W) Tryz.prog C11_mayA := tabC_cons Tryz.call230 (good_inl rfl tyOk (d_mayA hW) (c10_mayA hW) Tryz.func230 (fun _ _ _ => none)) (c10_mayA hW)
def I12_mayA : List (FuncId × Ctr) := (231, inl TY C11_mayA D_mayA (fun _ => false) (fun _ _ _ => none) Tryz.f231) :: I11_mayA
def C12_mayA : FuncId → Option Ctr := tabC D_mayA I12_mayA
theorem c12_mayA {W : World} (hW : Tabs W) : CtrOk (Fw W) Tryz.prog C12_mayA := tabC_cons Tryz.call231 (good_inl rfl tyOk (d_mayA hW) (c11_mayA hW) Tryz.func231 (fun _ _ _ => none)) (c11_mayA hW)
def I13_mayA : List (FuncId × Ctr) := (232, inl TY C12_mayA D_mayA (fun _ => false) (fun _ _ _ => none) Tryz.f232) :: I12_mayA
def C13_mayA : FuncId → Option Ctr := tabC D_mayA I13_mayA
theorem c13_mayA {W : World} (hW : Tabs W) : CtrOk (Fw W) Tryz.prog C13_mayA := tabC_cons Tryz.call232 (good_inl rfl tyOk (d_mayA hW) (c12_mayA hW) Tryz.func232 (fun _ _ _ => none)) (c12_mayA hW)
def I14_mayA : List (FuncId × Ctr) := (233, inl TY C13_mayA D_mayA (fun _ => false) (fun _ _ _ => none) Tryz.f233) :: I13_mayA
def C14_mayA : FuncId → Option Ctr := tabC D_mayA I14_mayA
theorem c14_mayA {W : World} (hW : Tabs W) : CtrOk (Fw W) Tryz.prog C14_mayA := tabC_cons Tryz.call233 (good_inl rfl tyOk (d_mayA hW) (c13_mayA hW) Tryz.func233 (fun _ _ _ => none)) (c13_mayA hW)
def I15_mayA : List (FuncId × Ctr) := (227, inl TY C14_mayA D_mayA (fun _ => false) (fun _ _ _ => none) Tryz.f227) :: I14_mayA
def C15_mayA : FuncId → Option Ctr := tabC D_mayA I15_mayA
theorem c15_mayA {W : World} (hW : Tabs W) : CtrOk (Fw W) Tryz.prog C15_mayA := tabC_cons Tryz.call227 (good_inl rfl tyOk (d_mayA hW) (c14_mayA hW) Tryz.func227 (fun _ _ _ => none)) (c14_mayA hW)
def I16_mayA : List (FuncId × Ctr) := (235, inl TY C15_mayA D_mayA (fun _ => false) (fun _ _ _ => none) Tryz.f235) :: I15_mayA
def C16_mayA : FuncId → Option Ctr := tabC D_mayA I16_mayA
theorem c16_mayA {W : World} (hW : Tabs W) : CtrOk (Fw W) Tryz.prog C16_mayA := tabC_cons Tryz.call235 (good_inl rfl tyOk (d_mayA hW) (c15_mayA hW) Tryz.func235 (fun _ _ _ => none)) (c15_mayA hW)
def I17_mayA : List (FuncId × Ctr) := (164, inl TY C16_mayA D_mayA (fun _ => false) (fun _ _ _ => none) Tryz.f164) :: I16_mayA
def C17_mayA : FuncId → Option Ctr := tabC D_mayA I17_mayA
theorem c17_mayA {W : World} (hW : Tabs W) : CtrOk (Fw W) Tryz.prog C17_mayA := tabC_cons Tryz.call164 (good_inl rfl tyOk (d_mayA hW) (c16_mayA hW) Tryz.func164 (fun _ _ _ => none)) (c16_mayA hW)
def LI18_mayA : List AV → List Blk → Nat → Option LR := fun _ _ i => cond (Nat.beq i 2) (some (.unroll 7)) none
def I18_mayA : List (FuncId × Ctr) := (141, inl TY C17_mayA D_mayA (fun _ => false) (LI18_mayA) Tryz.f141) :: I17_mayA
def C18_mayA : FuncId → Option Ctr := tabC D_mayA I18_mayA
theorem c18_mayA {W : World} (hW : Tabs W) : CtrOk (Fw W) Tryz.prog C18_mayA := tabC_cons Tryz.call141 (good_inl rfl tyOk (d_mayA hW) (c17_mayA hW) Tryz.func141 (LI18_mayA)) (c17_mayA hW)
set_option maxHeartbeats 4000000 in
theorem g_mayA {W : World} (hW : Tabs W) : GoodP (Fw W) Tryz.prog 71 pcMayA := by
 have hD := d_mayA hW
 have hC0 : ∀ r : Request, CtrOk (Fw W) Tryz.prog C18_mayA := fun r => (c18_mayA hW)
 refine goodP_ofC (D := D_mayA) (C := fun r => C18_mayA) (wr := (fun _ => false)) rfl tyOk hD hC0 Tryz.func71 (fun _ _ => none) (fun _ => rfl) ?_
 rintro ⟨key, kind, day, ticket, coupon, status, locator, coupons, taxes, amount, frm, til⟩ hf hp
 clear hf
 by_cases h : 1 ≤ kind ∧ kind ≤ 10
 ·rcases kinds h with rfl | rfl | rfl | rfl | rfl | rfl | rfl | rfl | rfl | rfl
  ·exact absurd rfl hp.1.1
  ·have hex : ¬ nameQ 2 = [] := by rw [nameQ_at (by decide)]; decide
   (conv => whnf)
   (repeat' ((first
    | (exact absurd (by with_reducible assumption) hex)
    | ((with_reducible refine And.intro ?_ ?_); focus (with_reducible exact True.intro))
    | (split <;> rename_i hh <;> (try simp only [wS] at hh) <;> (try simp (disch := omega) only [wT] at hh))
    | fail) <;> (conv => whnf)))
   all_goals (try (show _ = _; simp only [wQ]))
   refine ⟨(⟨key, 2, day, ticket, coupon, status, locator, coupons, taxes, amount, frm, til⟩ : Request), hp.2, ?_, ?_⟩
   ·exact leL_rfl _
   (conv => whnf)
   (repeat' ((first
    | (with_reducible refine inl_intro ?_)
    | ((with_reducible apply inlC_weigh'); (focus rfl); (focus rfl))
    | ((with_reducible apply inlC_number'); (focus rfl); (focus rfl); (focus rfl))
    | ((refine ⟨rfl, _, ?_, rfl⟩); (try simp only [sB_eq, sI_eq, eqI_eq, cond_true, cond_false, Bool.true_and, Bool.and_false, Bool.false_and]) <;> first | rfl | exact numOk_lo (by omega) | exact numOk_hi (by omega) | exact numOk_in (by omega) | (rename_i hh; first | (simp [hh]; done) | (rcases hh with hh | hh <;> simp [hh]; done)))
    | ((with_reducible refine And.intro ?_ ?_); focus (first | with_reducible exact True.intro | ((with_reducible show okB _ _ _ = true); rfl) | omega | (simp only [inK_def, Go.Vc.lo, Go.Vc.hi]; omega)))
    | (split <;> rename_i hh <;> (try simp only [wS] at hh) <;> (try simp (disch := omega) only [wT] at hh))
    | with_reducible refine (fun (hln : (_ : Int) ≤ 9223372036854775807) => ?_)
    | fail) <;> (conv => whnf)))
   all_goals (try (show _ = _; simp only [wQ]))
   ·refine ⟨((⟨[], 2, 0, 0, 0, 0, locator, coupons, taxes, amount, frm, til⟩, ⟨[], 2, 0, 0, 0, 0, [], [], [], 0, 0, 0⟩) : Request × Request), True.intro, ?_, ?_⟩
    ·(conv => whnf)
     (repeat' ((first | with_reducible exact True.intro | ((with_reducible refine And.intro ?_ ?_); focus (first | with_reducible rfl | omega | exact Nat.le_of_ble_eq_true rfl | rfl)) | with_reducible refine And.intro (?_ : leA _ _ _) ?_ | fail) <;> (conv => whnf)))
     all_goals (try simp only [wQ])
     all_goals (try first | exact ⟨fun h => h, fun _ _ => True.intro⟩)
    (conv => whnf)
    all_goals (try (show _ = _; simp only [wQ]))
    rw [cond_true, Bool.eq_iff_iff, sameR_iff, may_iff_2]
    have kl := @keyB_ln key
    simp only [numOk_iff, Bool.and_eq_true, beq_iff_eq, Request.mk.injEq, true_and, and_true] at hh ⊢
    exact ⟨fun h => by simp_all, fun h => by simp_all⟩
   ·symm
    refine Bool.eq_false_iff.2 fun hm => ?_
    rw [may_iff_2] at hm
    have kl := @keyB_ln key
    have hm2 := hm
    try simp only [and_assoc] at hm2
    simp_all [numOk, leI_eq]
    all_goals omega
  ·have hex : ¬ nameQ 3 = [] := by rw [nameQ_at (by decide)]; decide
   (conv => whnf)
   (repeat' ((first
    | (exact absurd (by with_reducible assumption) hex)
    | ((with_reducible refine And.intro ?_ ?_); focus (with_reducible exact True.intro))
    | (split <;> rename_i hh <;> (try simp only [wS] at hh) <;> (try simp (disch := omega) only [wT] at hh))
    | fail) <;> (conv => whnf)))
   all_goals (try (show _ = _; simp only [wQ]))
   refine ⟨(⟨key, 3, day, ticket, coupon, status, locator, coupons, taxes, amount, frm, til⟩ : Request), hp.2, ?_, ?_⟩
   ·exact leL_rfl _
   (conv => whnf)
   (repeat' ((first
    | (with_reducible refine inl_intro ?_)
    | ((with_reducible apply inlC_weigh'); (focus rfl); (focus rfl))
    | ((with_reducible apply inlC_number'); (focus rfl); (focus rfl); (focus rfl))
    | ((refine ⟨rfl, _, ?_, rfl⟩); (try simp only [sB_eq, sI_eq, eqI_eq, cond_true, cond_false, Bool.true_and, Bool.and_false, Bool.false_and]) <;> first | rfl | exact numOk_lo (by omega) | exact numOk_hi (by omega) | exact numOk_in (by omega) | (rename_i hh; first | (simp [hh]; done) | (rcases hh with hh | hh <;> simp [hh]; done)))
    | ((with_reducible refine And.intro ?_ ?_); focus (first | with_reducible exact True.intro | ((with_reducible show okB _ _ _ = true); rfl) | omega | (simp only [inK_def, Go.Vc.lo, Go.Vc.hi]; omega)))
    | (split <;> rename_i hh <;> (try simp only [wS] at hh) <;> (try simp (disch := omega) only [wT] at hh))
    | with_reducible refine (fun (hln : (_ : Int) ≤ 9223372036854775807) => ?_)
    | fail) <;> (conv => whnf)))
   all_goals (try (show _ = _; simp only [wQ]))
   ·refine ⟨((⟨[], 3, 0, 0, coupon, status, locator, coupons, taxes, amount, frm, til⟩, ⟨[], 3, 0, 0, 0, 0, [], [], [], 0, 0, 0⟩) : Request × Request), True.intro, ?_, ?_⟩
    ·(conv => whnf)
     (repeat' ((first | with_reducible exact True.intro | ((with_reducible refine And.intro ?_ ?_); focus (first | with_reducible rfl | omega | exact Nat.le_of_ble_eq_true rfl | rfl)) | with_reducible refine And.intro (?_ : leA _ _ _) ?_ | fail) <;> (conv => whnf)))
     all_goals (try simp only [wQ])
     all_goals (try first | exact ⟨fun h => h, fun _ _ => True.intro⟩)
    (conv => whnf)
    all_goals (try (show _ = _; simp only [wQ]))
    rw [cond_true, Bool.eq_iff_iff, sameR_iff, may_iff_3]
    have kl := @keyB_ln key
    simp only [numOk_iff, Bool.and_eq_true, beq_iff_eq, Request.mk.injEq, true_and, and_true] at hh ⊢
    exact ⟨fun h => by simp_all, fun h => by simp_all⟩
   ·symm
    refine Bool.eq_false_iff.2 fun hm => ?_
    rw [may_iff_3] at hm
    have kl := @keyB_ln key
    have hm2 := hm
    try simp only [and_assoc] at hm2
    simp_all [numOk, leI_eq]
    all_goals omega
  ·have hex : ¬ nameQ 4 = [] := by rw [nameQ_at (by decide)]; decide
   (conv => whnf)
   (repeat' ((first
    | (exact absurd (by with_reducible assumption) hex)
    | ((with_reducible refine And.intro ?_ ?_); focus (with_reducible exact True.intro))
    | (split <;> rename_i hh <;> (try simp only [wS] at hh) <;> (try simp (disch := omega) only [wT] at hh))
    | fail) <;> (conv => whnf)))
   all_goals (try (show _ = _; simp only [wQ]))
   refine ⟨(⟨key, 4, day, ticket, coupon, status, locator, coupons, taxes, amount, frm, til⟩ : Request), hp.2, ?_, ?_⟩
   ·exact leL_rfl _
   (conv => whnf)
   (repeat' ((first
    | (with_reducible refine inl_intro ?_)
    | ((with_reducible apply inlC_weigh'); (focus rfl); (focus rfl))
    | ((with_reducible apply inlC_number'); (focus rfl); (focus rfl); (focus rfl))
    | ((refine ⟨rfl, _, ?_, rfl⟩); (try simp only [sB_eq, sI_eq, eqI_eq, cond_true, cond_false, Bool.true_and, Bool.and_false, Bool.false_and]) <;> first | rfl | exact numOk_lo (by omega) | exact numOk_hi (by omega) | exact numOk_in (by omega) | (rename_i hh; first | (simp [hh]; done) | (rcases hh with hh | hh <;> simp [hh]; done)))
    | ((with_reducible refine And.intro ?_ ?_); focus (first | with_reducible exact True.intro | ((with_reducible show okB _ _ _ = true); rfl) | omega | (simp only [inK_def, Go.Vc.lo, Go.Vc.hi]; omega)))
    | (split <;> rename_i hh <;> (try simp only [wS] at hh) <;> (try simp (disch := omega) only [wT] at hh))
    | with_reducible refine (fun (hln : (_ : Int) ≤ 9223372036854775807) => ?_)
    | fail) <;> (conv => whnf)))
   all_goals (try (show _ = _; simp only [wQ]))
   ·refine ⟨((⟨[], 4, 0, 0, coupon, status, locator, coupons, taxes, 0, frm, til⟩, ⟨[], 4, 0, 0, 0, 0, [], [], [], 0, 0, 0⟩) : Request × Request), True.intro, ?_, ?_⟩
    ·(conv => whnf)
     (repeat' ((first | with_reducible exact True.intro | ((with_reducible refine And.intro ?_ ?_); focus (first | with_reducible rfl | omega | exact Nat.le_of_ble_eq_true rfl | rfl)) | with_reducible refine And.intro (?_ : leA _ _ _) ?_ | fail) <;> (conv => whnf)))
     all_goals (try simp only [wQ])
     all_goals (try first | exact ⟨fun h => h, fun _ _ => True.intro⟩)
    (conv => whnf)
    all_goals (try (show _ = _; simp only [wQ]))
    rw [cond_true, Bool.eq_iff_iff, sameR_iff, may_iff_4]
    have kl := @keyB_ln key
    simp only [numOk_iff, Bool.and_eq_true, beq_iff_eq, Request.mk.injEq, true_and, and_true] at hh ⊢
    exact ⟨fun h => by simp_all, fun h => by simp_all⟩
   ·symm
    refine Bool.eq_false_iff.2 fun hm => ?_
    rw [may_iff_4] at hm
    have kl := @keyB_ln key
    have hm2 := hm
    try simp only [and_assoc] at hm2
    simp_all [numOk, leI_eq]
    all_goals omega
  ·exact absurd rfl hp.1.2
  ·have hex : ¬ nameQ 6 = [] := by rw [nameQ_at (by decide)]; decide
   (conv => whnf)
   (repeat' ((first
    | (exact absurd (by with_reducible assumption) hex)
    | ((with_reducible refine And.intro ?_ ?_); focus (with_reducible exact True.intro))
    | (split <;> rename_i hh <;> (try simp only [wS] at hh) <;> (try simp (disch := omega) only [wT] at hh))
    | fail) <;> (conv => whnf)))
   all_goals (try (show _ = _; simp only [wQ]))
   refine ⟨(⟨key, 6, day, ticket, coupon, status, locator, coupons, taxes, amount, frm, til⟩ : Request), hp.2, ?_, ?_⟩
   ·exact leL_rfl _
   (conv => whnf)
   (repeat' ((first
    | (with_reducible refine inl_intro ?_)
    | ((with_reducible apply inlC_weigh'); (focus rfl); (focus rfl))
    | ((with_reducible apply inlC_number'); (focus rfl); (focus rfl); (focus rfl))
    | ((refine ⟨rfl, _, ?_, rfl⟩); (try simp only [sB_eq, sI_eq, eqI_eq, cond_true, cond_false, Bool.true_and, Bool.and_false, Bool.false_and]) <;> first | rfl | exact numOk_lo (by omega) | exact numOk_hi (by omega) | exact numOk_in (by omega) | (rename_i hh; first | (simp [hh]; done) | (rcases hh with hh | hh <;> simp [hh]; done)))
    | ((with_reducible refine And.intro ?_ ?_); focus (first | with_reducible exact True.intro | ((with_reducible show okB _ _ _ = true); rfl) | omega | (simp only [inK_def, Go.Vc.lo, Go.Vc.hi]; omega)))
    | (split <;> rename_i hh <;> (try simp only [wS] at hh) <;> (try simp (disch := omega) only [wT] at hh))
    | with_reducible refine (fun (hln : (_ : Int) ≤ 9223372036854775807) => ?_)
    | fail) <;> (conv => whnf)))
   all_goals (try (show _ = _; simp only [wQ]))
   ·refine ⟨((⟨[], 6, 0, 0, 0, status, locator, coupons, taxes, amount, frm, til⟩, ⟨[], 6, 0, 0, 0, 0, [], [], [], 0, 0, 0⟩) : Request × Request), True.intro, ?_, ?_⟩
    ·(conv => whnf)
     (repeat' ((first | with_reducible exact True.intro | ((with_reducible refine And.intro ?_ ?_); focus (first | with_reducible rfl | omega | exact Nat.le_of_ble_eq_true rfl | rfl)) | with_reducible refine And.intro (?_ : leA _ _ _) ?_ | fail) <;> (conv => whnf)))
     all_goals (try simp only [wQ])
     all_goals (try first | exact ⟨fun h => h, fun _ _ => True.intro⟩)
    (conv => whnf)
    all_goals (try (show _ = _; simp only [wQ]))
    rw [cond_true, Bool.eq_iff_iff, sameR_iff, may_iff_6]
    have kl := @keyB_ln key
    simp only [numOk_iff, Bool.and_eq_true, beq_iff_eq, Request.mk.injEq, true_and, and_true] at hh ⊢
    exact ⟨fun h => by simp_all, fun h => by simp_all⟩
   ·symm
    refine Bool.eq_false_iff.2 fun hm => ?_
    rw [may_iff_6] at hm
    have kl := @keyB_ln key
    have hm2 := hm
    try simp only [and_assoc] at hm2
    simp_all [numOk, leI_eq]
    all_goals omega
  ·have hex : ¬ nameQ 7 = [] := by rw [nameQ_at (by decide)]; decide
   (conv => whnf)
   (repeat' ((first
    | (exact absurd (by with_reducible assumption) hex)
    | ((with_reducible refine And.intro ?_ ?_); focus (with_reducible exact True.intro))
    | (split <;> rename_i hh <;> (try simp only [wS] at hh) <;> (try simp (disch := omega) only [wT] at hh))
    | fail) <;> (conv => whnf)))
   all_goals (try (show _ = _; simp only [wQ]))
   refine ⟨(⟨key, 7, day, ticket, coupon, status, locator, coupons, taxes, amount, frm, til⟩ : Request), hp.2, ?_, ?_⟩
   ·exact leL_rfl _
   (conv => whnf)
   (repeat' ((first
    | (with_reducible refine inl_intro ?_)
    | ((with_reducible apply inlC_weigh'); (focus rfl); (focus rfl))
    | ((with_reducible apply inlC_number'); (focus rfl); (focus rfl); (focus rfl))
    | ((refine ⟨rfl, _, ?_, rfl⟩); (try simp only [sB_eq, sI_eq, eqI_eq, cond_true, cond_false, Bool.true_and, Bool.and_false, Bool.false_and]) <;> first | rfl | exact numOk_lo (by omega) | exact numOk_hi (by omega) | exact numOk_in (by omega) | (rename_i hh; first | (simp [hh]; done) | (rcases hh with hh | hh <;> simp [hh]; done)))
    | ((with_reducible refine And.intro ?_ ?_); focus (first | with_reducible exact True.intro | ((with_reducible show okB _ _ _ = true); rfl) | omega | (simp only [inK_def, Go.Vc.lo, Go.Vc.hi]; omega)))
    | (split <;> rename_i hh <;> (try simp only [wS] at hh) <;> (try simp (disch := omega) only [wT] at hh))
    | with_reducible refine (fun (hln : (_ : Int) ≤ 9223372036854775807) => ?_)
    | fail) <;> (conv => whnf)))
   all_goals (try (show _ = _; simp only [wQ]))
   ·refine ⟨((⟨[], 7, 0, 0, 0, status, locator, coupons, taxes, amount, frm, til⟩, ⟨[], 7, 0, 0, 0, 0, [], [], [], 0, 0, 0⟩) : Request × Request), True.intro, ?_, ?_⟩
    ·(conv => whnf)
     (repeat' ((first | with_reducible exact True.intro | ((with_reducible refine And.intro ?_ ?_); focus (first | with_reducible rfl | omega | exact Nat.le_of_ble_eq_true rfl | rfl)) | with_reducible refine And.intro (?_ : leA _ _ _) ?_ | fail) <;> (conv => whnf)))
     all_goals (try simp only [wQ])
     all_goals (try first | exact ⟨fun h => h, fun _ _ => True.intro⟩)
    (conv => whnf)
    all_goals (try (show _ = _; simp only [wQ]))
    rw [cond_true, Bool.eq_iff_iff, sameR_iff, may_iff_7]
    have kl := @keyB_ln key
    simp only [numOk_iff, Bool.and_eq_true, beq_iff_eq, Request.mk.injEq, true_and, and_true] at hh ⊢
    exact ⟨fun h => by simp_all, fun h => by simp_all⟩
   ·symm
    refine Bool.eq_false_iff.2 fun hm => ?_
    rw [may_iff_7] at hm
    have kl := @keyB_ln key
    have hm2 := hm
    try simp only [and_assoc] at hm2
    simp_all [numOk, leI_eq]
    all_goals omega
  ·have hex : ¬ nameQ 8 = [] := by rw [nameQ_at (by decide)]; decide
   (conv => whnf)
   (repeat' ((first
    | (exact absurd (by with_reducible assumption) hex)
    | ((with_reducible refine And.intro ?_ ?_); focus (with_reducible exact True.intro))
    | (split <;> rename_i hh <;> (try simp only [wS] at hh) <;> (try simp (disch := omega) only [wT] at hh))
    | fail) <;> (conv => whnf)))
   all_goals (try (show _ = _; simp only [wQ]))
   refine ⟨(⟨key, 8, day, ticket, coupon, status, locator, coupons, taxes, amount, frm, til⟩ : Request), hp.2, ?_, ?_⟩
   ·exact leL_rfl _
   (conv => whnf)
   (repeat' ((first
    | (with_reducible refine inl_intro ?_)
    | ((with_reducible apply inlC_weigh'); (focus rfl); (focus rfl))
    | ((refine ⟨rfl, _, ?_, rfl⟩); (try simp only [sB_eq, sI_eq, eqI_eq, cond_true, cond_false, Bool.true_and, Bool.and_false, Bool.false_and]) <;> first | rfl | exact numOk_lo (by omega) | exact numOk_hi (by omega) | exact numOk_in (by omega) | (rename_i hh; first | (simp [hh]; done) | (rcases hh with hh | hh <;> simp [hh]; done)))
    | ((with_reducible refine And.intro ?_ ?_); focus (first | with_reducible exact True.intro | ((with_reducible show okB _ _ _ = true); rfl) | omega | (simp only [inK_def, Go.Vc.lo, Go.Vc.hi]; omega)))
    | (split <;> rename_i hh <;> (try simp only [wS] at hh) <;> (try simp (disch := omega) only [wT] at hh))
    | with_reducible refine (fun (hln : (_ : Int) ≤ 9223372036854775807) => ?_)
    | fail) <;> (conv => whnf)))
   all_goals (try (show _ = _; simp only [wQ]))
   ·refine ⟨((⟨key, 8, day, 0, coupon, status, locator, coupons, taxes, amount, frm, til⟩, ⟨[], 8, 0, 0, 0, 0, [], [], [], 0, 0, 0⟩) : Request × Request), True.intro, ?_, ?_⟩
    ·(conv => whnf)
     (repeat' ((first | with_reducible exact True.intro | ((with_reducible refine And.intro ?_ ?_); focus (first | with_reducible rfl | omega | exact Nat.le_of_ble_eq_true rfl | rfl)) | with_reducible refine And.intro (?_ : leA _ _ _) ?_ | fail) <;> (conv => whnf)))
     all_goals (try simp only [wQ])
     all_goals (try first | exact ⟨fun h => h, fun _ _ => True.intro⟩)
    (conv => whnf)
    all_goals (try (show _ = _; simp only [wQ]))
    rw [cond_true, Bool.eq_iff_iff, sameR_iff, may_iff_8]
    simp only [numOk_iff, Bool.and_eq_true, beq_iff_eq, Request.mk.injEq, true_and, and_true] at hh ⊢
    exact ⟨fun h => by simp_all, fun h => by simp_all⟩
   ·symm
    refine Bool.eq_false_iff.2 fun hm => ?_
    rw [may_iff_8] at hm
    have hm2 := hm
    try simp only [and_assoc] at hm2
    simp_all [numOk, leI_eq]
    all_goals omega
  ·have hex : ¬ nameQ 9 = [] := by rw [nameQ_at (by decide)]; decide
   (conv => whnf)
   (repeat' ((first
    | (exact absurd (by with_reducible assumption) hex)
    | ((with_reducible refine And.intro ?_ ?_); focus (with_reducible exact True.intro))
    | (split <;> rename_i hh <;> (try simp only [wS] at hh) <;> (try simp (disch := omega) only [wT] at hh))
    | fail) <;> (conv => whnf)))
   all_goals (try (show _ = _; simp only [wQ]))
   refine ⟨(⟨key, 9, day, ticket, coupon, status, locator, coupons, taxes, amount, frm, til⟩ : Request), hp.2, ?_, ?_⟩
   ·exact leL_rfl _
   (conv => whnf)
   (repeat' ((first
    | (with_reducible refine inl_intro ?_)
    | ((with_reducible apply inlC_weigh'); (focus rfl); (focus rfl))
    | ((refine ⟨rfl, _, ?_, rfl⟩); (try simp only [sB_eq, sI_eq, eqI_eq, cond_true, cond_false, Bool.true_and, Bool.and_false, Bool.false_and]) <;> first | rfl | exact numOk_lo (by omega) | exact numOk_hi (by omega) | exact numOk_in (by omega) | (rename_i hh; first | (simp [hh]; done) | (rcases hh with hh | hh <;> simp [hh]; done)))
    | ((with_reducible refine And.intro ?_ ?_); focus (first | with_reducible exact True.intro | ((with_reducible show okB _ _ _ = true); rfl) | omega | (simp only [inK_def, Go.Vc.lo, Go.Vc.hi]; omega)))
    | (split <;> rename_i hh <;> (try simp only [wS] at hh) <;> (try simp (disch := omega) only [wT] at hh))
    | with_reducible refine (fun (hln : (_ : Int) ≤ 9223372036854775807) => ?_)
    | fail) <;> (conv => whnf)))
   all_goals (try (show _ = _; simp only [wQ]))
   ·refine ⟨((⟨key, 9, day, ticket, coupon, status, [], coupons, taxes, amount, frm, til⟩, ⟨[], 9, 0, 0, 0, 0, [], [], [], 0, 0, 0⟩) : Request × Request), True.intro, ?_, ?_⟩
    ·(conv => whnf)
     (repeat' ((first | with_reducible exact True.intro | ((with_reducible refine And.intro ?_ ?_); focus (first | with_reducible rfl | omega | exact Nat.le_of_ble_eq_true rfl | rfl)) | with_reducible refine And.intro (?_ : leA _ _ _) ?_ | fail) <;> (conv => whnf)))
     all_goals (try simp only [wQ])
     all_goals (try first | exact ⟨fun h => h, fun _ _ => True.intro⟩)
    (conv => whnf)
    all_goals (try (show _ = _; simp only [wQ]))
    rw [cond_true, Bool.eq_iff_iff, sameR_iff, may_iff_9]
    simp only [numOk_iff, Bool.and_eq_true, beq_iff_eq, Request.mk.injEq, true_and, and_true] at hh ⊢
    exact ⟨fun h => by simp_all, fun h => by simp_all⟩
   ·symm
    refine Bool.eq_false_iff.2 fun hm => ?_
    rw [may_iff_9] at hm
    have hm2 := hm
    try simp only [and_assoc] at hm2
    simp_all [numOk, leI_eq]
    all_goals omega
  ·have hex : ¬ nameQ 10 = [] := by rw [nameQ_at (by decide)]; decide
   (conv => whnf)
   (repeat' ((first
    | (exact absurd (by with_reducible assumption) hex)
    | ((with_reducible refine And.intro ?_ ?_); focus (with_reducible exact True.intro))
    | (split <;> rename_i hh <;> (try simp only [wS] at hh) <;> (try simp (disch := omega) only [wT] at hh))
    | fail) <;> (conv => whnf)))
   all_goals (try (show _ = _; simp only [wQ]))
   refine ⟨(⟨key, 10, day, ticket, coupon, status, locator, coupons, taxes, amount, frm, til⟩ : Request), hp.2, ?_, ?_⟩
   ·exact leL_rfl _
   (conv => whnf)
   (repeat' ((first
    | (with_reducible refine inl_intro ?_)
    | ((with_reducible apply inlC_weigh'); (focus rfl); (focus rfl))
    | ((with_reducible apply inlC_number'); (focus rfl); (focus rfl); (focus rfl))
    | ((refine ⟨rfl, _, ?_, rfl⟩); (try simp only [sB_eq, sI_eq, eqI_eq, cond_true, cond_false, Bool.true_and, Bool.and_false, Bool.false_and]) <;> first | rfl | exact numOk_lo (by omega) | exact numOk_hi (by omega) | exact numOk_in (by omega) | (rename_i hh; first | (simp [hh]; done) | (rcases hh with hh | hh <;> simp [hh]; done)))
    | ((with_reducible refine And.intro ?_ ?_); focus (first | ((with_reducible show okB _ _ _ = true); rfl) | omega | (simp only [inK_def, Go.Vc.lo, Go.Vc.hi]; omega)))
    | (split <;> rename_i hh <;> (try simp only [wS] at hh) <;> (try simp (disch := omega) only [wT] at hh))
    | with_reducible refine (fun (hln : (_ : Int) ≤ 9223372036854775807) => ?_)
    | fail) <;> (conv => whnf)))
   all_goals (try (show _ = _; simp only [wQ]))
   ·refine ⟨((⟨key, 10, day, ticket, coupon, status, locator, coupons, taxes, amount, 0, 0⟩, ⟨[], 10, 0, 0, 0, 0, [], [], [], 0, 0, 0⟩) : Request × Request), True.intro, ?_, ?_⟩
    ·(conv => whnf)
     (repeat' ((first | with_reducible exact True.intro | ((with_reducible refine And.intro ?_ ?_); focus (first | with_reducible rfl | omega | exact Nat.le_of_ble_eq_true rfl | rfl)) | with_reducible refine And.intro (?_ : leA _ _ _) ?_ | fail) <;> (conv => whnf)))
     all_goals (try simp only [wQ])
     all_goals (try first | exact ⟨fun h => h, fun _ _ => True.intro⟩)
    (conv => whnf)
    all_goals (try (show _ = _; simp only [wQ]))
    rw [cond_true, Bool.eq_iff_iff, sameR_iff, may_iff_10]
    simp only [numOk_iff, Bool.and_eq_true, beq_iff_eq, Request.mk.injEq, true_and, and_true] at hh ⊢
    exact ⟨fun h => by simp_all, fun h => by simp_all⟩
   ·symm
    refine Bool.eq_false_iff.2 fun hm => ?_
    rw [may_iff_10] at hm
    have hm2 := hm
    try simp only [and_assoc] at hm2
    simp_all [numOk, leI_eq]
    all_goals omega
 ·have hn : nameQ kind = [] := nameQ_no h
  have hm : mayReqB ⟨key, kind, day, ticket, coupon, status, locator, coupons, taxes, amount, frm, til⟩ = false := mayReq_no h
  (conv => whnf)
  (repeat' ((first
   | ((with_reducible refine And.intro ?_ ?_); focus (with_reducible exact True.intro))
   | (split <;> rename_i hh <;> (try simp only [wS] at hh) <;> (try simp (disch := omega) only [wT] at hh))
   | fail) <;> (conv => whnf)))
  all_goals (try (show _ = _; simp only [wQ]))
  ·exact hm.symm
  all_goals exact absurd hn (by assumption)
end
end Go.Vc.Z
