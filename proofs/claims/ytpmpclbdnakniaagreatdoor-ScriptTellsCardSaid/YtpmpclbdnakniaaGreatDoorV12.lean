/- Requests: may the one be that is looked at in each statement? -/
import Derived.Test.YtpmpclbdnakniaaGreatDoorV11
set_option linter.all false
set_option linter.unusedVariables false
set_option linter.unusedSimpArgs false
namespace Go.Vc.Z
open Go Go.Vc Go.Proofs Go.RowKit Go.Pl Go.Lib
noncomputable section
set_option maxRecDepth 100000
set_option linter.unusedSimpArgs false
set_option linter.unusedVariables false
attribute [local irreducible] inK Utf8.decode Utf8.encode Lib.itoa Pl.worth Pl.allDig
attribute [local irreducible] Lib.join
def isKey (c : UInt8) : Bool := (decide (97 ≤ c.toNat) && decide (c.toNat ≤ 122)) || (decide (48 ≤ c.toNat) && decide (c.toNat ≤ 57))
theorem isKey_iff {c : UInt8} : isKey c = true ↔ (97 ≤ c.toNat ∧ c.toNat ≤ 122) ∨ (48 ≤ c.toNat ∧ c.toNat ≤ 57) := by simp [isKey]
@[irreducible] def keyB (s : List UInt8) : Bool := s.all isKey && decide (1 ≤ s.length) && decide (s.length ≤ 16)
def pcMayKey : PC := PC.fun fun | [.str s] => some (True, .bool (sB (keyB s))) | _ => none
def LKey (s : List UInt8) : LoopSpec := {
  α := Nat
  keep := [0, 6]
  vals i := [.str s, .iter 0]
  heap i := [.iter s i]
  ok i := i ≤ s.length ∧ (s.take i).all isKey = true
  μ i := s.length - i }
def D_request_MayKey : PT := tabD []
def C_request_MayKey : FuncId → Option Ctr := tabC D_request_MayKey []
def L_request_MayKey : List AV → Nat → Option LR := fun cs i => match cs with | [.str s] => cond (Nat.beq i 2) (some (.inv (LKey s))) (none) | _ => none
theorem g_request_MayKey {W : World} (hW : Tabs W) : GoodP (Fw W) Tryz.prog 275 pcMayKey := by
  have hD : PTOk (Fw W) Tryz.prog D_request_MayKey := tabD_nil
  have hC0 : CtrOk (Fw W) Tryz.prog C_request_MayKey := (tabC_nil hD)
  refine goodP_fun (D := D_request_MayKey) (C := C_request_MayKey) (wr := (fun _ => false)) rfl tyOk hD hC0 Tryz.func275 (L_request_MayKey) ?_
  clear hC0 hD hW
  intro cs p r h hf hp
  split at h
  case h_2 => cases h
  rename_i s
  cases h
  try simp only [factL, factA, inK_def, Go.Vc.lo, Go.Vc.hi, and_true] at hf
  (conv => whnf)
  all_goals (try (show _ = _; simp only [sI_eq, sB_eq, sS_eq, sN_eq]))
  refine ⟨?_, fun (i : Nat) (hi : i ≤ s.length ∧ (s.take i).all isKey = true) => ?_⟩
  · (conv => whnf)
    refine ⟨(0 : Nat), [], ?_, ⟨⟨rfl, Nat.le_of_ble_eq_true rfl, rfl⟩, ?_, ?_⟩⟩
    · exact ⟨Nat.zero_le _, by simp⟩
    · (conv => whnf)
      (repeat' ((first | with_reducible exact True.intro | ((with_reducible refine And.intro ?_ ?_); focus (first | with_reducible rfl | omega | exact Nat.le_of_ble_eq_true rfl | rfl)) | fail) <;> (conv => whnf)))
      all_goals (try simp only [sI_eq, sB_eq, sS_eq, sN_eq])
    · (conv => whnf)
      (repeat' ((first | with_reducible exact True.intro | ((with_reducible refine And.intro ?_ ?_); focus (first | with_reducible rfl | omega | exact Nat.le_of_ble_eq_true rfl | rfl)) | with_reducible refine And.intro (?_ : leBlk _ _ _ _) ?_ | fail) <;> (conv => whnf)))
      all_goals (try simp only [sI_eq, sB_eq, sS_eq, sN_eq])
  · obtain ⟨h1, h2⟩ := hi
    have hk : i < s.length → ((97 ≤ runeAt s i ∧ runeAt s i ≤ 122) ∨ (48 ≤ runeAt s i ∧ runeAt s i ≤ 57)) → isKey (s.getD i 0) = true ∧ runeW s i = 1 := fun h hc => by
      rcases rune_cases h with ⟨h6, h7, h8⟩ | ⟨h6, h7⟩
      · exact ⟨isKey_iff.2 (by omega), h7⟩
      · omega
    have hn : i < s.length → ¬ ((97 ≤ runeAt s i ∧ runeAt s i ≤ 122) ∨ (48 ≤ runeAt s i ∧ runeAt s i ≤ 57)) → keyB s = false := fun h hc => by
      unfold keyB
      rw [not_all_of h (by
        rcases rune_cases h with ⟨h6, h7, h8⟩ | ⟨h6, h7⟩
        · exact Bool.eq_false_iff.2 fun h => by have := isKey_iff.1 h; omega
        · exact Bool.eq_false_iff.2 fun h => by have := isKey_iff.1 h; omega)]
      rfl
    have hst := all_take_succ (p := isKey) (l := s) (i := i)
    have hfin : s.length ≤ i → keyB s = (decide (1 ≤ s.length) && decide (s.length ≤ 16)) := fun h => by
      rw [List.take_of_length_le h] at h2
      unfold keyB; rw [h2, Bool.true_and]
    (conv => whnf)
    (repeat' ((first
      | (split <;> rename_i hh <;> (try simp only [ble_true, ble_false, beq_true, beq_false, sI_eq, sB_eq, sS_eq, sN_eq, ltI_eq, leI_eq, eqI_eq, decide_eq_true_eq, decide_eq_false_iff_not, beq_iff_eq, bne_iff_ne, ne_eq, beq_eq_false_iff_ne, bne_eq_false_iff_eq, Bool.not_eq_true, Bool.not_eq_false, Int.not_lt, Int.not_le, gt_iff_lt, ge_iff_le, Nat.not_lt, Nat.not_le, Decidable.not_not, Bool.not_eq_eq_eq_not, Bool.not_true, Bool.not_false, cond_true, cond_false, Bool.or_eq_true, Bool.and_eq_true, Bool.or_eq_false_iff, Bool.and_eq_false_iff] at hh) <;> (try simp (disch := omega) only [Int.tdiv_eq_ediv_of_nonneg, Int.tmod_eq_emod_of_nonneg] at hh))
      | with_reducible refine (fun (hln : (_ : Int) ≤ 9223372036854775807) => ?_)
      | fail) <;> (conv => whnf)))
    all_goals (try (show _ = _; simp only [sI_eq, sB_eq, sS_eq, sN_eq]))
    all_goals try (rw [hn (by omega) (by omega)]; done)
    all_goals try (
      obtain ⟨h6, h7⟩ := hk (by omega) (by omega)
      (conv => whnf)
      refine ⟨(i + 1 : Nat), [], ?_, ⟨⟨rfl, Nat.le_of_ble_eq_true rfl, rfl⟩, ?_, ?_⟩⟩
      · exact ⟨⟨show i + 1 ≤ s.length by omega, by rw [hst (by omega), h2, h6]; rfl⟩, show s.length - (i + 1) < s.length - i by omega⟩
      · (conv => whnf)
        (repeat' ((first | with_reducible exact True.intro | ((with_reducible refine And.intro ?_ ?_); focus (first | with_reducible rfl | omega | exact Nat.le_of_ble_eq_true rfl | rfl)) | fail) <;> (conv => whnf)))
        all_goals (try simp only [sI_eq, sB_eq, sS_eq, sN_eq])
      · (conv => whnf)
        (repeat' ((first | with_reducible exact True.intro | ((with_reducible refine And.intro ?_ ?_); focus (first | with_reducible rfl | omega | exact Nat.le_of_ble_eq_true rfl | rfl)) | with_reducible refine And.intro (?_ : leBlk _ _ _ _) ?_ | fail) <;> (conv => whnf)))
        all_goals (try simp only [sI_eq, sB_eq, sS_eq, sN_eq])
        all_goals (try first | omega)
        all_goals (rw [h7])
      done)
    all_goals (rw [hfin (by omega)]; first | (rw [leI_eq, decide_eq_true (show 1 ≤ s.length by omega), Bool.true_and]; exact decide_eq_decide.2 ⟨fun h => by omega, fun h => by omega⟩) | (rw [decide_eq_false (show ¬ 1 ≤ s.length by omega)]; rfl))
theorem keyB_k7 : keyB [107, 55] = true := by unfold keyB; decide
theorem locOk_abc : locOk [65, 66, 67, 50, 51, 52] = true := by unfold locOk; decide
theorem eqA_bare {k f d u st m g j k' f' d' u' st' m' g' j' : Int} {a b a' b' : List UInt8} : eqA TY 12 244 (.agg [.int .i64 k, .str a, .str b, .int .i64 f, .int .i64 d, .int .u64 u, .int .i64 st, .int .i64 m, .int .i64 g, .int .i64 j]) (.agg [.int .i64 k', .str a', .str b', .int .i64 f', .int .i64 d', .int .u64 u', .int .i64 st', .int .i64 m', .int .i64 g', .int .i64 j']) = some (k == k' && (a == a' && (b == b' && (f == f' && (d == d' && (u == u' && (st == st' && (m == m' && (g == g' && (j == j')))))))))) := by
  have e244 : TY 244 = some ty244 := rfl
  have e54 : TY 54 = some ty54 := rfl
  have e9 : TY 9 = some ty9 := rfl
  have e3 : TY 3 = some ty3 := rfl
  have e2 : TY 2 = some ty2 := rfl
  have e43 : TY 43 = some ty43 := rfl
  have e37 : TY 37 = some ty37 := rfl
  simp [eqA, eqFs, e244, e54, e9, e3, e2, e43, e37, ty244, ty54, ty9, ty3, ty2, ty43, ty37, loadA, eqI_eq]
theorem optP_bare {k f d u st m g j k' f' d' u' st' m' g' j' : Int} {a b a' b' : List UInt8} {N : Bool → Prop} (hN : N (k == k' && (a == a' && (b == b' && (f == f' && (d == d' && (u == u' && (st == st' && (m == m' && (g == g' && (j == j'))))))))))) : optP (eqA TY 12 244 (.agg [.int .i64 k, .str a, .str b, .int .i64 f, .int .i64 d, .int .u64 u, .int .i64 st, .int .i64 m, .int .i64 g, .int .i64 j]) (.agg [.int .i64 k', .str a', .str b', .int .i64 f', .int .i64 d', .int .u64 u', .int .i64 st', .int .i64 m', .int .i64 g', .int .i64 j'])) N := by
  rw [eqA_bare]; exact hN
def c7 : Coupon := ⟨7, 9, 1000, 0, 0, 0⟩
abbrev reqI : AV := .agg [.str [107, 55], .int .i64 1, .int .i64 3, .int .u64 0, .int .i64 0, .int .i64 0, .str [65, 66, 67, 50, 51, 52], slE 6 Coupon.enc [c7], .nilsl, .int .i64 0, .int .i64 0, .int .i64 0]
def pcMayI : PC := PC.of (fun _ : Unit => [reqI]) (fun _ => True) (fun _ => .bool (sB true))
def D_request_May : PT := tabD [(275, pcMayKey), (195, pcLocator)]
def C_request_May : FuncId → Option Ctr := tabC D_request_May []
def C1_request_May (u : Unit) : FuncId → Option Ctr := tabC D_request_May [(298, inl TY (C_request_May) D_request_May (fun _ => false) (fun _ _ _ => none) Tryz.f298)]
def C2_request_May (u : Unit) : FuncId → Option Ctr := tabC D_request_May [(260, inl TY (C1_request_May u) D_request_May (fun _ => false) (fun _ _ _ => none) Tryz.f260), (298, inl TY (C_request_May) D_request_May (fun _ => false) (fun _ _ _ => none) Tryz.f298)]
def C3_request_May (u : Unit) : FuncId → Option Ctr := tabC D_request_May [(273, inl TY (C2_request_May u) D_request_May (fun _ => false) (fun _ _ _ => none) Tryz.f273), (260, inl TY (C1_request_May u) D_request_May (fun _ => false) (fun _ _ _ => none) Tryz.f260), (298, inl TY (C_request_May) D_request_May (fun _ => false) (fun _ _ _ => none) Tryz.f298)]
def C4_request_May (u : Unit) : FuncId → Option Ctr := tabC D_request_May [(276, inl TY (C3_request_May u) D_request_May (fun _ => false) (fun _ _ _ => none) Tryz.f276), (273, inl TY (C2_request_May u) D_request_May (fun _ => false) (fun _ _ _ => none) Tryz.f273), (260, inl TY (C1_request_May u) D_request_May (fun _ => false) (fun _ _ _ => none) Tryz.f260), (298, inl TY (C_request_May) D_request_May (fun _ => false) (fun _ _ _ => none) Tryz.f298)]
def C5_request_May (u : Unit) : FuncId → Option Ctr := tabC D_request_May [(279, inl TY (C4_request_May u) D_request_May (fun _ => false) (fun _ _ _ => none) Tryz.f279), (276, inl TY (C3_request_May u) D_request_May (fun _ => false) (fun _ _ _ => none) Tryz.f276), (273, inl TY (C2_request_May u) D_request_May (fun _ => false) (fun _ _ _ => none) Tryz.f273), (260, inl TY (C1_request_May u) D_request_May (fun _ => false) (fun _ _ _ => none) Tryz.f260), (298, inl TY (C_request_May) D_request_May (fun _ => false) (fun _ _ _ => none) Tryz.f298)]
def C6_request_May (u : Unit) : FuncId → Option Ctr := tabC D_request_May [(258, inl TY (C5_request_May u) D_request_May (fun _ => false) (fun _ _ _ => none) Tryz.f258), (279, inl TY (C4_request_May u) D_request_May (fun _ => false) (fun _ _ _ => none) Tryz.f279), (276, inl TY (C3_request_May u) D_request_May (fun _ => false) (fun _ _ _ => none) Tryz.f276), (273, inl TY (C2_request_May u) D_request_May (fun _ => false) (fun _ _ _ => none) Tryz.f273), (260, inl TY (C1_request_May u) D_request_May (fun _ => false) (fun _ _ _ => none) Tryz.f260), (298, inl TY (C_request_May) D_request_May (fun _ => false) (fun _ _ _ => none) Tryz.f298)]
def C7_request_May (u : Unit) : FuncId → Option Ctr := tabC D_request_May [(274, inl TY (C6_request_May u) D_request_May (fun _ => false) (fun _ _ _ => none) Tryz.f274), (258, inl TY (C5_request_May u) D_request_May (fun _ => false) (fun _ _ _ => none) Tryz.f258), (279, inl TY (C4_request_May u) D_request_May (fun _ => false) (fun _ _ _ => none) Tryz.f279), (276, inl TY (C3_request_May u) D_request_May (fun _ => false) (fun _ _ _ => none) Tryz.f276), (273, inl TY (C2_request_May u) D_request_May (fun _ => false) (fun _ _ _ => none) Tryz.f273), (260, inl TY (C1_request_May u) D_request_May (fun _ => false) (fun _ _ _ => none) Tryz.f260), (298, inl TY (C_request_May) D_request_May (fun _ => false) (fun _ _ _ => none) Tryz.f298)]
def C8_request_May (u : Unit) : FuncId → Option Ctr := tabC D_request_May [(278, inl TY (C7_request_May u) D_request_May (fun _ => false) (fun _ _ _ => none) Tryz.f278), (274, inl TY (C6_request_May u) D_request_May (fun _ => false) (fun _ _ _ => none) Tryz.f274), (258, inl TY (C5_request_May u) D_request_May (fun _ => false) (fun _ _ _ => none) Tryz.f258), (279, inl TY (C4_request_May u) D_request_May (fun _ => false) (fun _ _ _ => none) Tryz.f279), (276, inl TY (C3_request_May u) D_request_May (fun _ => false) (fun _ _ _ => none) Tryz.f276), (273, inl TY (C2_request_May u) D_request_May (fun _ => false) (fun _ _ _ => none) Tryz.f273), (260, inl TY (C1_request_May u) D_request_May (fun _ => false) (fun _ _ _ => none) Tryz.f260), (298, inl TY (C_request_May) D_request_May (fun _ => false) (fun _ _ _ => none) Tryz.f298)]
def C9_request_May (u : Unit) : FuncId → Option Ctr := tabC D_request_May [(305, inl TY (C8_request_May u) D_request_May (fun _ => false) (fun _ _ _ => none) Tryz.f305), (278, inl TY (C7_request_May u) D_request_May (fun _ => false) (fun _ _ _ => none) Tryz.f278), (274, inl TY (C6_request_May u) D_request_May (fun _ => false) (fun _ _ _ => none) Tryz.f274), (258, inl TY (C5_request_May u) D_request_May (fun _ => false) (fun _ _ _ => none) Tryz.f258), (279, inl TY (C4_request_May u) D_request_May (fun _ => false) (fun _ _ _ => none) Tryz.f279), (276, inl TY (C3_request_May u) D_request_May (fun _ => false) (fun _ _ _ => none) Tryz.f276), (273, inl TY (C2_request_May u) D_request_May (fun _ => false) (fun _ _ _ => none) Tryz.f273), (260, inl TY (C1_request_May u) D_request_May (fun _ => false) (fun _ _ _ => none) Tryz.f260), (298, inl TY (C_request_May) D_request_May (fun _ => false) (fun _ _ _ => none) Tryz.f298)]
def LI10_request_May (u : Unit) : List AV → List Blk → Nat → Option LR := fun cs H i => cond (Nat.beq i 0) (some (.order [0, 1, 2, 3, 4, 5, 6, 7, 8, 9, 10, 11, 12, 13, 14, 15, 16, 17, 18])) (cond (Nat.beq i 6) (some (.order [0, 1, 2, 3, 4, 5, 6, 7, 8, 9, 10, 11, 12, 13, 14, 15])) ((fun _ _ i => cond (Nat.beq i 2) (some (.unroll 2)) none) cs H i))
def C10_request_May (u : Unit) : FuncId → Option Ctr := tabC D_request_May [(277, inl TY (C9_request_May u) D_request_May (fun _ => false) (LI10_request_May u) Tryz.f277), (305, inl TY (C8_request_May u) D_request_May (fun _ => false) (fun _ _ _ => none) Tryz.f305), (278, inl TY (C7_request_May u) D_request_May (fun _ => false) (fun _ _ _ => none) Tryz.f278), (274, inl TY (C6_request_May u) D_request_May (fun _ => false) (fun _ _ _ => none) Tryz.f274), (258, inl TY (C5_request_May u) D_request_May (fun _ => false) (fun _ _ _ => none) Tryz.f258), (279, inl TY (C4_request_May u) D_request_May (fun _ => false) (fun _ _ _ => none) Tryz.f279), (276, inl TY (C3_request_May u) D_request_May (fun _ => false) (fun _ _ _ => none) Tryz.f276), (273, inl TY (C2_request_May u) D_request_May (fun _ => false) (fun _ _ _ => none) Tryz.f273), (260, inl TY (C1_request_May u) D_request_May (fun _ => false) (fun _ _ _ => none) Tryz.f260), (298, inl TY (C_request_May) D_request_May (fun _ => false) (fun _ _ _ => none) Tryz.f298)]
def LI11_request_May (u : Unit) : List AV → List Blk → Nat → Option LR := fun cs H i => cond (Nat.beq i 0) (some (.order [0, 1, 2, 3, 4, 5, 6, 7, 8, 9, 10, 11, 12, 13, 14, 15, 16, 17])) ((fun _ _ i => cond (Nat.beq i 3) (some (.unroll 1)) none) cs H i)
def C11_request_May (u : Unit) : FuncId → Option Ctr := tabC D_request_May [(229, inl TY (C10_request_May u) D_request_May (fun _ => false) (LI11_request_May u) Tryz.f229), (277, inl TY (C9_request_May u) D_request_May (fun _ => false) (LI10_request_May u) Tryz.f277), (305, inl TY (C8_request_May u) D_request_May (fun _ => false) (fun _ _ _ => none) Tryz.f305), (278, inl TY (C7_request_May u) D_request_May (fun _ => false) (fun _ _ _ => none) Tryz.f278), (274, inl TY (C6_request_May u) D_request_May (fun _ => false) (fun _ _ _ => none) Tryz.f274), (258, inl TY (C5_request_May u) D_request_May (fun _ => false) (fun _ _ _ => none) Tryz.f258), (279, inl TY (C4_request_May u) D_request_May (fun _ => false) (fun _ _ _ => none) Tryz.f279), (276, inl TY (C3_request_May u) D_request_May (fun _ => false) (fun _ _ _ => none) Tryz.f276), (273, inl TY (C2_request_May u) D_request_May (fun _ => false) (fun _ _ _ => none) Tryz.f273), (260, inl TY (C1_request_May u) D_request_May (fun _ => false) (fun _ _ _ => none) Tryz.f260), (298, inl TY (C_request_May) D_request_May (fun _ => false) (fun _ _ _ => none) Tryz.f298)]
def C12_request_May (u : Unit) : FuncId → Option Ctr := tabC D_request_May [(225, inl TY (C11_request_May u) D_request_May (fun _ => false) (fun _ _ _ => none) Tryz.f225), (229, inl TY (C10_request_May u) D_request_May (fun _ => false) (LI11_request_May u) Tryz.f229), (277, inl TY (C9_request_May u) D_request_May (fun _ => false) (LI10_request_May u) Tryz.f277), (305, inl TY (C8_request_May u) D_request_May (fun _ => false) (fun _ _ _ => none) Tryz.f305), (278, inl TY (C7_request_May u) D_request_May (fun _ => false) (fun _ _ _ => none) Tryz.f278), (274, inl TY (C6_request_May u) D_request_May (fun _ => false) (fun _ _ _ => none) Tryz.f274), (258, inl TY (C5_request_May u) D_request_May (fun _ => false) (fun _ _ _ => none) Tryz.f258), (279, inl TY (C4_request_May u) D_request_May (fun _ => false) (fun _ _ _ => none) Tryz.f279), (276, inl TY (C3_request_May u) D_request_May (fun _ => false) (fun _ _ _ => none) Tryz.f276), (273, inl TY (C2_request_May u) D_request_May (fun _ => false) (fun _ _ _ => none) Tryz.f273), (260, inl TY (C1_request_May u) D_request_May (fun _ => false) (fun _ _ _ => none) Tryz.f260), (298, inl TY (C_request_May) D_request_May (fun _ => false) (fun _ _ _ => none) Tryz.f298)]
def C13_request_May (u : Unit) : FuncId → Option Ctr := tabC D_request_May [(226, inl TY (C12_request_May u) D_request_May (fun _ => false) (fun _ _ _ => none) Tryz.f226), (225, inl TY (C11_request_May u) D_request_May (fun _ => false) (fun _ _ _ => none) Tryz.f225), (229, inl TY (C10_request_May u) D_request_May (fun _ => false) (LI11_request_May u) Tryz.f229), (277, inl TY (C9_request_May u) D_request_May (fun _ => false) (LI10_request_May u) Tryz.f277), (305, inl TY (C8_request_May u) D_request_May (fun _ => false) (fun _ _ _ => none) Tryz.f305), (278, inl TY (C7_request_May u) D_request_May (fun _ => false) (fun _ _ _ => none) Tryz.f278), (274, inl TY (C6_request_May u) D_request_May (fun _ => false) (fun _ _ _ => none) Tryz.f274), (258, inl TY (C5_request_May u) D_request_May (fun _ => false) (fun _ _ _ => none) Tryz.f258), (279, inl TY (C4_request_May u) D_request_May (fun _ => false) (fun _ _ _ => none) Tryz.f279), (276, inl TY (C3_request_May u) D_request_May (fun _ => false) (fun _ _ _ => none) Tryz.f276), (273, inl TY (C2_request_May u) D_request_May (fun _ => false) (fun _ _ _ => none) Tryz.f273), (260, inl TY (C1_request_May u) D_request_May (fun _ => false) (fun _ _ _ => none) Tryz.f260), (298, inl TY (C_request_May) D_request_May (fun _ => false) (fun _ _ _ => none) Tryz.f298)]
def C14_request_May (u : Unit) : FuncId → Option Ctr := tabC D_request_May [(227, inl TY (C13_request_May u) D_request_May (fun _ => false) (fun _ _ _ => none) Tryz.f227), (226, inl TY (C12_request_May u) D_request_May (fun _ => false) (fun _ _ _ => none) Tryz.f226), (225, inl TY (C11_request_May u) D_request_May (fun _ => false) (fun _ _ _ => none) Tryz.f225), (229, inl TY (C10_request_May u) D_request_May (fun _ => false) (LI11_request_May u) Tryz.f229), (277, inl TY (C9_request_May u) D_request_May (fun _ => false) (LI10_request_May u) Tryz.f277), (305, inl TY (C8_request_May u) D_request_May (fun _ => false) (fun _ _ _ => none) Tryz.f305), (278, inl TY (C7_request_May u) D_request_May (fun _ => false) (fun _ _ _ => none) Tryz.f278), (274, inl TY (C6_request_May u) D_request_May (fun _ => false) (fun _ _ _ => none) Tryz.f274), (258, inl TY (C5_request_May u) D_request_May (fun _ => false) (fun _ _ _ => none) Tryz.f258), (279, inl TY (C4_request_May u) D_request_May (fun _ => false) (fun _ _ _ => none) Tryz.f279), (276, inl TY (C3_request_May u) D_request_May (fun _ => false) (fun _ _ _ => none) Tryz.f276), (273, inl TY (C2_request_May u) D_request_May (fun _ => false) (fun _ _ _ => none) Tryz.f273), (260, inl TY (C1_request_May u) D_request_May (fun _ => false) (fun _ _ _ => none) Tryz.f260), (298, inl TY (C_request_May) D_request_May (fun _ => false) (fun _ _ _ => none) Tryz.f298)]
def C15_request_May (u : Unit) : FuncId → Option Ctr := tabC D_request_May [(228, inl TY (C14_request_May u) D_request_May (fun _ => false) (fun _ _ _ => none) Tryz.f228), (227, inl TY (C13_request_May u) D_request_May (fun _ => false) (fun _ _ _ => none) Tryz.f227), (226, inl TY (C12_request_May u) D_request_May (fun _ => false) (fun _ _ _ => none) Tryz.f226), (225, inl TY (C11_request_May u) D_request_May (fun _ => false) (fun _ _ _ => none) Tryz.f225), (229, inl TY (C10_request_May u) D_request_May (fun _ => false) (LI11_request_May u) Tryz.f229), (277, inl TY (C9_request_May u) D_request_May (fun _ => false) (LI10_request_May u) Tryz.f277), (305, inl TY (C8_request_May u) D_request_May (fun _ => false) (fun _ _ _ => none) Tryz.f305), (278, inl TY (C7_request_May u) D_request_May (fun _ => false) (fun _ _ _ => none) Tryz.f278), (274, inl TY (C6_request_May u) D_request_May (fun _ => false) (fun _ _ _ => none) Tryz.f274), (258, inl TY (C5_request_May u) D_request_May (fun _ => false) (fun _ _ _ => none) Tryz.f258), (279, inl TY (C4_request_May u) D_request_May (fun _ => false) (fun _ _ _ => none) Tryz.f279), (276, inl TY (C3_request_May u) D_request_May (fun _ => false) (fun _ _ _ => none) Tryz.f276), (273, inl TY (C2_request_May u) D_request_May (fun _ => false) (fun _ _ _ => none) Tryz.f273), (260, inl TY (C1_request_May u) D_request_May (fun _ => false) (fun _ _ _ => none) Tryz.f260), (298, inl TY (C_request_May) D_request_May (fun _ => false) (fun _ _ _ => none) Tryz.f298)]
def C16_request_May (u : Unit) : FuncId → Option Ctr := tabC D_request_May [(164, inl TY (C15_request_May u) D_request_May (fun _ => false) (fun _ _ _ => none) Tryz.f164), (228, inl TY (C14_request_May u) D_request_May (fun _ => false) (fun _ _ _ => none) Tryz.f228), (227, inl TY (C13_request_May u) D_request_May (fun _ => false) (fun _ _ _ => none) Tryz.f227), (226, inl TY (C12_request_May u) D_request_May (fun _ => false) (fun _ _ _ => none) Tryz.f226), (225, inl TY (C11_request_May u) D_request_May (fun _ => false) (fun _ _ _ => none) Tryz.f225), (229, inl TY (C10_request_May u) D_request_May (fun _ => false) (LI11_request_May u) Tryz.f229), (277, inl TY (C9_request_May u) D_request_May (fun _ => false) (LI10_request_May u) Tryz.f277), (305, inl TY (C8_request_May u) D_request_May (fun _ => false) (fun _ _ _ => none) Tryz.f305), (278, inl TY (C7_request_May u) D_request_May (fun _ => false) (fun _ _ _ => none) Tryz.f278), (274, inl TY (C6_request_May u) D_request_May (fun _ => false) (fun _ _ _ => none) Tryz.f274), (258, inl TY (C5_request_May u) D_request_May (fun _ => false) (fun _ _ _ => none) Tryz.f258), (279, inl TY (C4_request_May u) D_request_May (fun _ => false) (fun _ _ _ => none) Tryz.f279), (276, inl TY (C3_request_May u) D_request_May (fun _ => false) (fun _ _ _ => none) Tryz.f276), (273, inl TY (C2_request_May u) D_request_May (fun _ => false) (fun _ _ _ => none) Tryz.f273), (260, inl TY (C1_request_May u) D_request_May (fun _ => false) (fun _ _ _ => none) Tryz.f260), (298, inl TY (C_request_May) D_request_May (fun _ => false) (fun _ _ _ => none) Tryz.f298)]
def C17_request_May (u : Unit) : FuncId → Option Ctr := tabC D_request_May [(73, inl TY (C16_request_May u) D_request_May (fun _ => false) (fun _ _ _ => none) Tryz.f73), (164, inl TY (C15_request_May u) D_request_May (fun _ => false) (fun _ _ _ => none) Tryz.f164), (228, inl TY (C14_request_May u) D_request_May (fun _ => false) (fun _ _ _ => none) Tryz.f228), (227, inl TY (C13_request_May u) D_request_May (fun _ => false) (fun _ _ _ => none) Tryz.f227), (226, inl TY (C12_request_May u) D_request_May (fun _ => false) (fun _ _ _ => none) Tryz.f226), (225, inl TY (C11_request_May u) D_request_May (fun _ => false) (fun _ _ _ => none) Tryz.f225), (229, inl TY (C10_request_May u) D_request_May (fun _ => false) (LI11_request_May u) Tryz.f229), (277, inl TY (C9_request_May u) D_request_May (fun _ => false) (LI10_request_May u) Tryz.f277), (305, inl TY (C8_request_May u) D_request_May (fun _ => false) (fun _ _ _ => none) Tryz.f305), (278, inl TY (C7_request_May u) D_request_May (fun _ => false) (fun _ _ _ => none) Tryz.f278), (274, inl TY (C6_request_May u) D_request_May (fun _ => false) (fun _ _ _ => none) Tryz.f274), (258, inl TY (C5_request_May u) D_request_May (fun _ => false) (fun _ _ _ => none) Tryz.f258), (279, inl TY (C4_request_May u) D_request_May (fun _ => false) (fun _ _ _ => none) Tryz.f279), (276, inl TY (C3_request_May u) D_request_May (fun _ => false) (fun _ _ _ => none) Tryz.f276), (273, inl TY (C2_request_May u) D_request_May (fun _ => false) (fun _ _ _ => none) Tryz.f273), (260, inl TY (C1_request_May u) D_request_May (fun _ => false) (fun _ _ _ => none) Tryz.f260), (298, inl TY (C_request_May) D_request_May (fun _ => false) (fun _ _ _ => none) Tryz.f298)]
def LI18_request_May (u : Unit) : List AV → List Blk → Nat → Option LR := fun _ _ i => cond (Nat.beq i 2) (some (.unroll 6)) none
def C18_request_May (u : Unit) : FuncId → Option Ctr := tabC D_request_May [(141, inl TY (C17_request_May u) D_request_May (fun _ => false) (LI18_request_May u) Tryz.f141), (73, inl TY (C16_request_May u) D_request_May (fun _ => false) (fun _ _ _ => none) Tryz.f73), (164, inl TY (C15_request_May u) D_request_May (fun _ => false) (fun _ _ _ => none) Tryz.f164), (228, inl TY (C14_request_May u) D_request_May (fun _ => false) (fun _ _ _ => none) Tryz.f228), (227, inl TY (C13_request_May u) D_request_May (fun _ => false) (fun _ _ _ => none) Tryz.f227), (226, inl TY (C12_request_May u) D_request_May (fun _ => false) (fun _ _ _ => none) Tryz.f226), (225, inl TY (C11_request_May u) D_request_May (fun _ => false) (fun _ _ _ => none) Tryz.f225), (229, inl TY (C10_request_May u) D_request_May (fun _ => false) (LI11_request_May u) Tryz.f229), (277, inl TY (C9_request_May u) D_request_May (fun _ => false) (LI10_request_May u) Tryz.f277), (305, inl TY (C8_request_May u) D_request_May (fun _ => false) (fun _ _ _ => none) Tryz.f305), (278, inl TY (C7_request_May u) D_request_May (fun _ => false) (fun _ _ _ => none) Tryz.f278), (274, inl TY (C6_request_May u) D_request_May (fun _ => false) (fun _ _ _ => none) Tryz.f274), (258, inl TY (C5_request_May u) D_request_May (fun _ => false) (fun _ _ _ => none) Tryz.f258), (279, inl TY (C4_request_May u) D_request_May (fun _ => false) (fun _ _ _ => none) Tryz.f279), (276, inl TY (C3_request_May u) D_request_May (fun _ => false) (fun _ _ _ => none) Tryz.f276), (273, inl TY (C2_request_May u) D_request_May (fun _ => false) (fun _ _ _ => none) Tryz.f273), (260, inl TY (C1_request_May u) D_request_May (fun _ => false) (fun _ _ _ => none) Tryz.f260), (298, inl TY (C_request_May) D_request_May (fun _ => false) (fun _ _ _ => none) Tryz.f298)]
def C19_request_May (u : Unit) : FuncId → Option Ctr := tabC D_request_May [(211, inl TY (C18_request_May u) D_request_May (fun _ => false) (fun _ _ _ => none) Tryz.f211), (141, inl TY (C17_request_May u) D_request_May (fun _ => false) (LI18_request_May u) Tryz.f141), (73, inl TY (C16_request_May u) D_request_May (fun _ => false) (fun _ _ _ => none) Tryz.f73), (164, inl TY (C15_request_May u) D_request_May (fun _ => false) (fun _ _ _ => none) Tryz.f164), (228, inl TY (C14_request_May u) D_request_May (fun _ => false) (fun _ _ _ => none) Tryz.f228), (227, inl TY (C13_request_May u) D_request_May (fun _ => false) (fun _ _ _ => none) Tryz.f227), (226, inl TY (C12_request_May u) D_request_May (fun _ => false) (fun _ _ _ => none) Tryz.f226), (225, inl TY (C11_request_May u) D_request_May (fun _ => false) (fun _ _ _ => none) Tryz.f225), (229, inl TY (C10_request_May u) D_request_May (fun _ => false) (LI11_request_May u) Tryz.f229), (277, inl TY (C9_request_May u) D_request_May (fun _ => false) (LI10_request_May u) Tryz.f277), (305, inl TY (C8_request_May u) D_request_May (fun _ => false) (fun _ _ _ => none) Tryz.f305), (278, inl TY (C7_request_May u) D_request_May (fun _ => false) (fun _ _ _ => none) Tryz.f278), (274, inl TY (C6_request_May u) D_request_May (fun _ => false) (fun _ _ _ => none) Tryz.f274), (258, inl TY (C5_request_May u) D_request_May (fun _ => false) (fun _ _ _ => none) Tryz.f258), (279, inl TY (C4_request_May u) D_request_May (fun _ => false) (fun _ _ _ => none) Tryz.f279), (276, inl TY (C3_request_May u) D_request_May (fun _ => false) (fun _ _ _ => none) Tryz.f276), (273, inl TY (C2_request_May u) D_request_May (fun _ => false) (fun _ _ _ => none) Tryz.f273), (260, inl TY (C1_request_May u) D_request_May (fun _ => false) (fun _ _ _ => none) Tryz.f260), (298, inl TY (C_request_May) D_request_May (fun _ => false) (fun _ _ _ => none) Tryz.f298)]
def C20_request_May (u : Unit) : FuncId → Option Ctr := tabC D_request_May [(212, inl TY (C19_request_May u) D_request_May (fun _ => false) (fun _ _ _ => none) Tryz.f212), (211, inl TY (C18_request_May u) D_request_May (fun _ => false) (fun _ _ _ => none) Tryz.f211), (141, inl TY (C17_request_May u) D_request_May (fun _ => false) (LI18_request_May u) Tryz.f141), (73, inl TY (C16_request_May u) D_request_May (fun _ => false) (fun _ _ _ => none) Tryz.f73), (164, inl TY (C15_request_May u) D_request_May (fun _ => false) (fun _ _ _ => none) Tryz.f164), (228, inl TY (C14_request_May u) D_request_May (fun _ => false) (fun _ _ _ => none) Tryz.f228), (227, inl TY (C13_request_May u) D_request_May (fun _ => false) (fun _ _ _ => none) Tryz.f227), (226, inl TY (C12_request_May u) D_request_May (fun _ => false) (fun _ _ _ => none) Tryz.f226), (225, inl TY (C11_request_May u) D_request_May (fun _ => false) (fun _ _ _ => none) Tryz.f225), (229, inl TY (C10_request_May u) D_request_May (fun _ => false) (LI11_request_May u) Tryz.f229), (277, inl TY (C9_request_May u) D_request_May (fun _ => false) (LI10_request_May u) Tryz.f277), (305, inl TY (C8_request_May u) D_request_May (fun _ => false) (fun _ _ _ => none) Tryz.f305), (278, inl TY (C7_request_May u) D_request_May (fun _ => false) (fun _ _ _ => none) Tryz.f278), (274, inl TY (C6_request_May u) D_request_May (fun _ => false) (fun _ _ _ => none) Tryz.f274), (258, inl TY (C5_request_May u) D_request_May (fun _ => false) (fun _ _ _ => none) Tryz.f258), (279, inl TY (C4_request_May u) D_request_May (fun _ => false) (fun _ _ _ => none) Tryz.f279), (276, inl TY (C3_request_May u) D_request_May (fun _ => false) (fun _ _ _ => none) Tryz.f276), (273, inl TY (C2_request_May u) D_request_May (fun _ => false) (fun _ _ _ => none) Tryz.f273), (260, inl TY (C1_request_May u) D_request_May (fun _ => false) (fun _ _ _ => none) Tryz.f260), (298, inl TY (C_request_May) D_request_May (fun _ => false) (fun _ _ _ => none) Tryz.f298)]
def LI21_request_May (u : Unit) : List AV → List Blk → Nat → Option LR := fun cs H i => cond (Nat.beq i 1) (some (.order [0, 1, 3, 4, 2, 6, 5, 7, 8, 9])) (none)
def C21_request_May (u : Unit) : FuncId → Option Ctr := tabC D_request_May [(140, inl TY (C20_request_May u) D_request_May (fun _ => false) (LI21_request_May u) Tryz.f140), (212, inl TY (C19_request_May u) D_request_May (fun _ => false) (fun _ _ _ => none) Tryz.f212), (211, inl TY (C18_request_May u) D_request_May (fun _ => false) (fun _ _ _ => none) Tryz.f211), (141, inl TY (C17_request_May u) D_request_May (fun _ => false) (LI18_request_May u) Tryz.f141), (73, inl TY (C16_request_May u) D_request_May (fun _ => false) (fun _ _ _ => none) Tryz.f73), (164, inl TY (C15_request_May u) D_request_May (fun _ => false) (fun _ _ _ => none) Tryz.f164), (228, inl TY (C14_request_May u) D_request_May (fun _ => false) (fun _ _ _ => none) Tryz.f228), (227, inl TY (C13_request_May u) D_request_May (fun _ => false) (fun _ _ _ => none) Tryz.f227), (226, inl TY (C12_request_May u) D_request_May (fun _ => false) (fun _ _ _ => none) Tryz.f226), (225, inl TY (C11_request_May u) D_request_May (fun _ => false) (fun _ _ _ => none) Tryz.f225), (229, inl TY (C10_request_May u) D_request_May (fun _ => false) (LI11_request_May u) Tryz.f229), (277, inl TY (C9_request_May u) D_request_May (fun _ => false) (LI10_request_May u) Tryz.f277), (305, inl TY (C8_request_May u) D_request_May (fun _ => false) (fun _ _ _ => none) Tryz.f305), (278, inl TY (C7_request_May u) D_request_May (fun _ => false) (fun _ _ _ => none) Tryz.f278), (274, inl TY (C6_request_May u) D_request_May (fun _ => false) (fun _ _ _ => none) Tryz.f274), (258, inl TY (C5_request_May u) D_request_May (fun _ => false) (fun _ _ _ => none) Tryz.f258), (279, inl TY (C4_request_May u) D_request_May (fun _ => false) (fun _ _ _ => none) Tryz.f279), (276, inl TY (C3_request_May u) D_request_May (fun _ => false) (fun _ _ _ => none) Tryz.f276), (273, inl TY (C2_request_May u) D_request_May (fun _ => false) (fun _ _ _ => none) Tryz.f273), (260, inl TY (C1_request_May u) D_request_May (fun _ => false) (fun _ _ _ => none) Tryz.f260), (298, inl TY (C_request_May) D_request_May (fun _ => false) (fun _ _ _ => none) Tryz.f298)]
def C22_request_May (u : Unit) : FuncId → Option Ctr := tabC D_request_May [(213, inl TY (C21_request_May u) D_request_May (fun _ => false) (fun _ _ _ => none) Tryz.f213), (140, inl TY (C20_request_May u) D_request_May (fun _ => false) (LI21_request_May u) Tryz.f140), (212, inl TY (C19_request_May u) D_request_May (fun _ => false) (fun _ _ _ => none) Tryz.f212), (211, inl TY (C18_request_May u) D_request_May (fun _ => false) (fun _ _ _ => none) Tryz.f211), (141, inl TY (C17_request_May u) D_request_May (fun _ => false) (LI18_request_May u) Tryz.f141), (73, inl TY (C16_request_May u) D_request_May (fun _ => false) (fun _ _ _ => none) Tryz.f73), (164, inl TY (C15_request_May u) D_request_May (fun _ => false) (fun _ _ _ => none) Tryz.f164), (228, inl TY (C14_request_May u) D_request_May (fun _ => false) (fun _ _ _ => none) Tryz.f228), (227, inl TY (C13_request_May u) D_request_May (fun _ => false) (fun _ _ _ => none) Tryz.f227), (226, inl TY (C12_request_May u) D_request_May (fun _ => false) (fun _ _ _ => none) Tryz.f226), (225, inl TY (C11_request_May u) D_request_May (fun _ => false) (fun _ _ _ => none) Tryz.f225), (229, inl TY (C10_request_May u) D_request_May (fun _ => false) (LI11_request_May u) Tryz.f229), (277, inl TY (C9_request_May u) D_request_May (fun _ => false) (LI10_request_May u) Tryz.f277), (305, inl TY (C8_request_May u) D_request_May (fun _ => false) (fun _ _ _ => none) Tryz.f305), (278, inl TY (C7_request_May u) D_request_May (fun _ => false) (fun _ _ _ => none) Tryz.f278), (274, inl TY (C6_request_May u) D_request_May (fun _ => false) (fun _ _ _ => none) Tryz.f274), (258, inl TY (C5_request_May u) D_request_May (fun _ => false) (fun _ _ _ => none) Tryz.f258), (279, inl TY (C4_request_May u) D_request_May (fun _ => false) (fun _ _ _ => none) Tryz.f279), (276, inl TY (C3_request_May u) D_request_May (fun _ => false) (fun _ _ _ => none) Tryz.f276), (273, inl TY (C2_request_May u) D_request_May (fun _ => false) (fun _ _ _ => none) Tryz.f273), (260, inl TY (C1_request_May u) D_request_May (fun _ => false) (fun _ _ _ => none) Tryz.f260), (298, inl TY (C_request_May) D_request_May (fun _ => false) (fun _ _ _ => none) Tryz.f298)]
def LI23_request_May (u : Unit) : List AV → List Blk → Nat → Option LR := fun _ _ i => cond (Nat.beq i 4) (some (.unroll 1)) none
def C23_request_May (u : Unit) : FuncId → Option Ctr := tabC D_request_May [(214, inl TY (C22_request_May u) D_request_May (fun _ => false) (LI23_request_May u) Tryz.f214), (213, inl TY (C21_request_May u) D_request_May (fun _ => false) (fun _ _ _ => none) Tryz.f213), (140, inl TY (C20_request_May u) D_request_May (fun _ => false) (LI21_request_May u) Tryz.f140), (212, inl TY (C19_request_May u) D_request_May (fun _ => false) (fun _ _ _ => none) Tryz.f212), (211, inl TY (C18_request_May u) D_request_May (fun _ => false) (fun _ _ _ => none) Tryz.f211), (141, inl TY (C17_request_May u) D_request_May (fun _ => false) (LI18_request_May u) Tryz.f141), (73, inl TY (C16_request_May u) D_request_May (fun _ => false) (fun _ _ _ => none) Tryz.f73), (164, inl TY (C15_request_May u) D_request_May (fun _ => false) (fun _ _ _ => none) Tryz.f164), (228, inl TY (C14_request_May u) D_request_May (fun _ => false) (fun _ _ _ => none) Tryz.f228), (227, inl TY (C13_request_May u) D_request_May (fun _ => false) (fun _ _ _ => none) Tryz.f227), (226, inl TY (C12_request_May u) D_request_May (fun _ => false) (fun _ _ _ => none) Tryz.f226), (225, inl TY (C11_request_May u) D_request_May (fun _ => false) (fun _ _ _ => none) Tryz.f225), (229, inl TY (C10_request_May u) D_request_May (fun _ => false) (LI11_request_May u) Tryz.f229), (277, inl TY (C9_request_May u) D_request_May (fun _ => false) (LI10_request_May u) Tryz.f277), (305, inl TY (C8_request_May u) D_request_May (fun _ => false) (fun _ _ _ => none) Tryz.f305), (278, inl TY (C7_request_May u) D_request_May (fun _ => false) (fun _ _ _ => none) Tryz.f278), (274, inl TY (C6_request_May u) D_request_May (fun _ => false) (fun _ _ _ => none) Tryz.f274), (258, inl TY (C5_request_May u) D_request_May (fun _ => false) (fun _ _ _ => none) Tryz.f258), (279, inl TY (C4_request_May u) D_request_May (fun _ => false) (fun _ _ _ => none) Tryz.f279), (276, inl TY (C3_request_May u) D_request_May (fun _ => false) (fun _ _ _ => none) Tryz.f276), (273, inl TY (C2_request_May u) D_request_May (fun _ => false) (fun _ _ _ => none) Tryz.f273), (260, inl TY (C1_request_May u) D_request_May (fun _ => false) (fun _ _ _ => none) Tryz.f260), (298, inl TY (C_request_May) D_request_May (fun _ => false) (fun _ _ _ => none) Tryz.f298)]
def LI24_request_May (u : Unit) : List AV → List Blk → Nat → Option LR := fun _ _ i => cond (Nat.beq i 4) (some (.unroll 1)) none
def C24_request_May (u : Unit) : FuncId → Option Ctr := tabC D_request_May [(215, inl TY (C23_request_May u) D_request_May (fun _ => false) (LI24_request_May u) Tryz.f215), (214, inl TY (C22_request_May u) D_request_May (fun _ => false) (LI23_request_May u) Tryz.f214), (213, inl TY (C21_request_May u) D_request_May (fun _ => false) (fun _ _ _ => none) Tryz.f213), (140, inl TY (C20_request_May u) D_request_May (fun _ => false) (LI21_request_May u) Tryz.f140), (212, inl TY (C19_request_May u) D_request_May (fun _ => false) (fun _ _ _ => none) Tryz.f212), (211, inl TY (C18_request_May u) D_request_May (fun _ => false) (fun _ _ _ => none) Tryz.f211), (141, inl TY (C17_request_May u) D_request_May (fun _ => false) (LI18_request_May u) Tryz.f141), (73, inl TY (C16_request_May u) D_request_May (fun _ => false) (fun _ _ _ => none) Tryz.f73), (164, inl TY (C15_request_May u) D_request_May (fun _ => false) (fun _ _ _ => none) Tryz.f164), (228, inl TY (C14_request_May u) D_request_May (fun _ => false) (fun _ _ _ => none) Tryz.f228), (227, inl TY (C13_request_May u) D_request_May (fun _ => false) (fun _ _ _ => none) Tryz.f227), (226, inl TY (C12_request_May u) D_request_May (fun _ => false) (fun _ _ _ => none) Tryz.f226), (225, inl TY (C11_request_May u) D_request_May (fun _ => false) (fun _ _ _ => none) Tryz.f225), (229, inl TY (C10_request_May u) D_request_May (fun _ => false) (LI11_request_May u) Tryz.f229), (277, inl TY (C9_request_May u) D_request_May (fun _ => false) (LI10_request_May u) Tryz.f277), (305, inl TY (C8_request_May u) D_request_May (fun _ => false) (fun _ _ _ => none) Tryz.f305), (278, inl TY (C7_request_May u) D_request_May (fun _ => false) (fun _ _ _ => none) Tryz.f278), (274, inl TY (C6_request_May u) D_request_May (fun _ => false) (fun _ _ _ => none) Tryz.f274), (258, inl TY (C5_request_May u) D_request_May (fun _ => false) (fun _ _ _ => none) Tryz.f258), (279, inl TY (C4_request_May u) D_request_May (fun _ => false) (fun _ _ _ => none) Tryz.f279), (276, inl TY (C3_request_May u) D_request_May (fun _ => false) (fun _ _ _ => none) Tryz.f276), (273, inl TY (C2_request_May u) D_request_May (fun _ => false) (fun _ _ _ => none) Tryz.f273), (260, inl TY (C1_request_May u) D_request_May (fun _ => false) (fun _ _ _ => none) Tryz.f260), (298, inl TY (C_request_May) D_request_May (fun _ => false) (fun _ _ _ => none) Tryz.f298)]
def LI25_request_May (u : Unit) : List AV → List Blk → Nat → Option LR := fun cs H i => cond (Nat.beq i 2) (some (.order [0, 1, 3, 4, 2, 5, 6, 7, 8, 9, 10, 11, 12, 13, 14, 15, 16, 17, 18, 19, 20, 21])) (none)
def C25_request_May (u : Unit) : FuncId → Option Ctr := tabC D_request_May [(142, inl TY (C24_request_May u) D_request_May (fun _ => false) (LI25_request_May u) Tryz.f142), (215, inl TY (C23_request_May u) D_request_May (fun _ => false) (LI24_request_May u) Tryz.f215), (214, inl TY (C22_request_May u) D_request_May (fun _ => false) (LI23_request_May u) Tryz.f214), (213, inl TY (C21_request_May u) D_request_May (fun _ => false) (fun _ _ _ => none) Tryz.f213), (140, inl TY (C20_request_May u) D_request_May (fun _ => false) (LI21_request_May u) Tryz.f140), (212, inl TY (C19_request_May u) D_request_May (fun _ => false) (fun _ _ _ => none) Tryz.f212), (211, inl TY (C18_request_May u) D_request_May (fun _ => false) (fun _ _ _ => none) Tryz.f211), (141, inl TY (C17_request_May u) D_request_May (fun _ => false) (LI18_request_May u) Tryz.f141), (73, inl TY (C16_request_May u) D_request_May (fun _ => false) (fun _ _ _ => none) Tryz.f73), (164, inl TY (C15_request_May u) D_request_May (fun _ => false) (fun _ _ _ => none) Tryz.f164), (228, inl TY (C14_request_May u) D_request_May (fun _ => false) (fun _ _ _ => none) Tryz.f228), (227, inl TY (C13_request_May u) D_request_May (fun _ => false) (fun _ _ _ => none) Tryz.f227), (226, inl TY (C12_request_May u) D_request_May (fun _ => false) (fun _ _ _ => none) Tryz.f226), (225, inl TY (C11_request_May u) D_request_May (fun _ => false) (fun _ _ _ => none) Tryz.f225), (229, inl TY (C10_request_May u) D_request_May (fun _ => false) (LI11_request_May u) Tryz.f229), (277, inl TY (C9_request_May u) D_request_May (fun _ => false) (LI10_request_May u) Tryz.f277), (305, inl TY (C8_request_May u) D_request_May (fun _ => false) (fun _ _ _ => none) Tryz.f305), (278, inl TY (C7_request_May u) D_request_May (fun _ => false) (fun _ _ _ => none) Tryz.f278), (274, inl TY (C6_request_May u) D_request_May (fun _ => false) (fun _ _ _ => none) Tryz.f274), (258, inl TY (C5_request_May u) D_request_May (fun _ => false) (fun _ _ _ => none) Tryz.f258), (279, inl TY (C4_request_May u) D_request_May (fun _ => false) (fun _ _ _ => none) Tryz.f279), (276, inl TY (C3_request_May u) D_request_May (fun _ => false) (fun _ _ _ => none) Tryz.f276), (273, inl TY (C2_request_May u) D_request_May (fun _ => false) (fun _ _ _ => none) Tryz.f273), (260, inl TY (C1_request_May u) D_request_May (fun _ => false) (fun _ _ _ => none) Tryz.f260), (298, inl TY (C_request_May) D_request_May (fun _ => false) (fun _ _ _ => none) Tryz.f298)]
set_option maxHeartbeats 4000000 in
theorem g_request_May {W : World} (hW : Tabs W) : GoodP (Fw W) Tryz.prog 71 pcMayI := by
  have hD : PTOk (Fw W) Tryz.prog D_request_May := (tabD_cons Tryz.call275 (g_request_MayKey hW) (tabD_cons Tryz.call195 (g_number_Locator hW) tabD_nil))
  have hC0 : ∀ u : Unit, CtrOk (Fw W) Tryz.prog (C_request_May) := fun u => (tabC_nil hD)
  have hC1 : ∀ u : Unit, CtrOk (Fw W) Tryz.prog (C1_request_May u) := fun u => tabC_cons Tryz.call298 (good_inl rfl tyOk hD (hC0 u) Tryz.func298 (fun _ _ _ => none)) (hC0 u)
  have hC2 : ∀ u : Unit, CtrOk (Fw W) Tryz.prog (C2_request_May u) := fun u => tabC_cons Tryz.call260 (good_inl rfl tyOk hD (hC1 u) Tryz.func260 (fun _ _ _ => none)) (hC1 u)
  have hC3 : ∀ u : Unit, CtrOk (Fw W) Tryz.prog (C3_request_May u) := fun u => tabC_cons Tryz.call273 (good_inl rfl tyOk hD (hC2 u) Tryz.func273 (fun _ _ _ => none)) (hC2 u)
  have hC4 : ∀ u : Unit, CtrOk (Fw W) Tryz.prog (C4_request_May u) := fun u => tabC_cons Tryz.call276 (good_inl rfl tyOk hD (hC3 u) Tryz.func276 (fun _ _ _ => none)) (hC3 u)
  have hC5 : ∀ u : Unit, CtrOk (Fw W) Tryz.prog (C5_request_May u) := fun u => tabC_cons Tryz.call279 (good_inl rfl tyOk hD (hC4 u) Tryz.func279 (fun _ _ _ => none)) (hC4 u)
  have hC6 : ∀ u : Unit, CtrOk (Fw W) Tryz.prog (C6_request_May u) := fun u => tabC_cons Tryz.call258 (good_inl rfl tyOk hD (hC5 u) Tryz.func258 (fun _ _ _ => none)) (hC5 u)
  have hC7 : ∀ u : Unit, CtrOk (Fw W) Tryz.prog (C7_request_May u) := fun u => tabC_cons Tryz.call274 (good_inl rfl tyOk hD (hC6 u) Tryz.func274 (fun _ _ _ => none)) (hC6 u)
  have hC8 : ∀ u : Unit, CtrOk (Fw W) Tryz.prog (C8_request_May u) := fun u => tabC_cons Tryz.call278 (good_inl rfl tyOk hD (hC7 u) Tryz.func278 (fun _ _ _ => none)) (hC7 u)
  have hC9 : ∀ u : Unit, CtrOk (Fw W) Tryz.prog (C9_request_May u) := fun u => tabC_cons Tryz.call305 (good_inl rfl tyOk hD (hC8 u) Tryz.func305 (fun _ _ _ => none)) (hC8 u)
  have hC10 : ∀ u : Unit, CtrOk (Fw W) Tryz.prog (C10_request_May u) := fun u => tabC_cons Tryz.call277 (good_inl rfl tyOk hD (hC9 u) Tryz.func277 (LI10_request_May u)) (hC9 u)
  have hC11 : ∀ u : Unit, CtrOk (Fw W) Tryz.prog (C11_request_May u) := fun u => tabC_cons Tryz.call229 (good_inl rfl tyOk hD (hC10 u) Tryz.func229 (LI11_request_May u)) (hC10 u)
  have hC12 : ∀ u : Unit, CtrOk (Fw W) Tryz.prog (C12_request_May u) := fun u => tabC_cons Tryz.call225 (good_inl rfl tyOk hD (hC11 u) Tryz.func225 (fun _ _ _ => none)) (hC11 u)
  have hC13 : ∀ u : Unit, CtrOk (Fw W) Tryz.prog (C13_request_May u) := fun u => tabC_cons Tryz.call226 (good_inl rfl tyOk hD (hC12 u) Tryz.func226 (fun _ _ _ => none)) (hC12 u)
  have hC14 : ∀ u : Unit, CtrOk (Fw W) Tryz.prog (C14_request_May u) := fun u => tabC_cons Tryz.call227 (good_inl rfl tyOk hD (hC13 u) Tryz.func227 (fun _ _ _ => none)) (hC13 u)
  have hC15 : ∀ u : Unit, CtrOk (Fw W) Tryz.prog (C15_request_May u) := fun u => tabC_cons Tryz.call228 (good_inl rfl tyOk hD (hC14 u) Tryz.func228 (fun _ _ _ => none)) (hC14 u)
  have hC16 : ∀ u : Unit, CtrOk (Fw W) Tryz.prog (C16_request_May u) := fun u => tabC_cons Tryz.call164 (good_inl rfl tyOk hD (hC15 u) Tryz.func164 (fun _ _ _ => none)) (hC15 u)
  have hC17 : ∀ u : Unit, CtrOk (Fw W) Tryz.prog (C17_request_May u) := fun u => tabC_cons Tryz.call73 (good_inl rfl tyOk hD (hC16 u) Tryz.func73 (fun _ _ _ => none)) (hC16 u)
  have hC18 : ∀ u : Unit, CtrOk (Fw W) Tryz.prog (C18_request_May u) := fun u => tabC_cons Tryz.call141 (good_inl rfl tyOk hD (hC17 u) Tryz.func141 (LI18_request_May u)) (hC17 u)
  have hC19 : ∀ u : Unit, CtrOk (Fw W) Tryz.prog (C19_request_May u) := fun u => tabC_cons Tryz.call211 (good_inl rfl tyOk hD (hC18 u) Tryz.func211 (fun _ _ _ => none)) (hC18 u)
  have hC20 : ∀ u : Unit, CtrOk (Fw W) Tryz.prog (C20_request_May u) := fun u => tabC_cons Tryz.call212 (good_inl rfl tyOk hD (hC19 u) Tryz.func212 (fun _ _ _ => none)) (hC19 u)
  have hC21 : ∀ u : Unit, CtrOk (Fw W) Tryz.prog (C21_request_May u) := fun u => tabC_cons Tryz.call140 (good_inl rfl tyOk hD (hC20 u) Tryz.func140 (LI21_request_May u)) (hC20 u)
  have hC22 : ∀ u : Unit, CtrOk (Fw W) Tryz.prog (C22_request_May u) := fun u => tabC_cons Tryz.call213 (good_inl rfl tyOk hD (hC21 u) Tryz.func213 (fun _ _ _ => none)) (hC21 u)
  have hC23 : ∀ u : Unit, CtrOk (Fw W) Tryz.prog (C23_request_May u) := fun u => tabC_cons Tryz.call214 (good_inl rfl tyOk hD (hC22 u) Tryz.func214 (LI23_request_May u)) (hC22 u)
  have hC24 : ∀ u : Unit, CtrOk (Fw W) Tryz.prog (C24_request_May u) := fun u => tabC_cons Tryz.call215 (good_inl rfl tyOk hD (hC23 u) Tryz.func215 (LI24_request_May u)) (hC23 u)
  have hC25 : ∀ u : Unit, CtrOk (Fw W) Tryz.prog (C25_request_May u) := fun u => tabC_cons Tryz.call142 (good_inl rfl tyOk hD (hC24 u) Tryz.func142 (LI25_request_May u)) (hC24 u)
  refine goodP_ofC (D := D_request_May) (C := fun u => C25_request_May u) (wr := (fun _ => false)) rfl tyOk hD hC25 Tryz.func71 (fun _ _ => none) (fun _ => rfl) ?_
  intro u hf hp
  clear hf
  have hex1 : ¬ keyB [107, 55] = false := by rw [keyB_k7]; simp
  have hex2 : ¬ locOk [65, 66, 67, 50, 51, 52] = false := by rw [locOk_abc]; simp
  (conv => whnf)
  (repeat' ((first
    | (with_reducible refine inl_intro ?_)
    | (refine optP_coupon ?_)
    | (refine optP_bare ?_)
    | (exact absurd (by with_reducible assumption) hex1)
    | (exact absurd (by with_reducible assumption) hex2)
    | with_reducible refine And.intro (?_ : opQ _ _ _ _ _ _) ?_
    | ((with_reducible refine And.intro ?_ ?_); focus (first | with_reducible exact True.intro | ((with_reducible show okB _ _ _ = true); rfl) | ((with_reducible show okQ _ _ = true); rfl) | omega | (simp only [inK_def, Go.Vc.lo, Go.Vc.hi]; omega) | (simp only [List.length_append, bytesOf_length, List.toList_toArray, List.length_cons, List.length_nil, List.length_take, List.length_drop, sS_eq]; omega) | (simp only [growOk, ty2, ty3, ty4, ty5, ty9, ty21, ty37, ty42, ty43, ty45, ty47, ty67, ty95, ty105, ty113, ty150, ty161, ty198, ty242, ty275, List.length_cons, List.length_nil]; first | omega | (refine ⟨?_, ?_⟩ <;> omega))))
    | (split <;> rename_i hh <;> (try simp only [ble_true, ble_false, beq_true, beq_false, sI_eq, sB_eq, sS_eq, sN_eq, ltI_eq, leI_eq, eqI_eq, decide_eq_true_eq, decide_eq_false_iff_not, beq_iff_eq, bne_iff_ne, ne_eq, beq_eq_false_iff_ne, bne_eq_false_iff_eq, Bool.not_eq_true, Bool.not_eq_false, Int.not_lt, Int.not_le, gt_iff_lt, ge_iff_le, Nat.not_lt, Nat.not_le, Decidable.not_not, Bool.not_eq_eq_eq_not, Bool.not_true, Bool.not_false, cond_true, cond_false, Bool.or_eq_true, Bool.and_eq_true, Bool.or_eq_false_iff, Bool.and_eq_false_iff] at hh) <;> (try simp (disch := omega) only [Int.tdiv_eq_ediv_of_nonneg, Int.tmod_eq_emod_of_nonneg] at hh))
    | with_reducible refine (fun (hln : (_ : Int) ≤ 9223372036854775807) => ?_)
    | fail) <;> (conv => whnf)))
  all_goals (try (show _ = _; simp only [sI_eq, sB_eq, sS_eq, sN_eq]))
  all_goals rfl
end
end Go.Vc.Z

/- Requests' lines: the one that is looked at in each statement. -/
namespace Go.Vc.Z
open Go Go.Vc Go.Proofs Go.RowKit Go.Pl Go.Lib
theorem itoa_one {n : Int} (h0 : 0 ≤ n) (h : n < 10) : Lib.itoa n = [UInt8.ofNat (48 + n.toNat)] := by
  unfold Lib.itoa; rw [if_neg (by omega), decDigits_one (by omega)]
theorem flightW_c7 : flightW ⟨7, 9, 1000, 0, 0, 0⟩ = [55, 64, 57, 61, 49, 48, 46, 48, 48] := by
  unfold flightW fareT moneyB moneyT centsT
  simp only [itoa_one (n := 7) (by decide) (by decide), itoa_one (n := 9) (by decide) (by decide)]
  rw [show Lib.decDigits (1000 / 10 / 10 : Int).toNat = [49, 48] from decDigits_two (by decide) (by decide)]
  rfl
theorem taxesW_nil : taxesW [] = [45] := by unfold taxesW; rfl
theorem lineI_join : Lib.join [[105, 115, 115, 117, 101], [107, 55], Lib.itoa 3, [65, 66, 67, 50, 51, 52], Lib.join [flightW ⟨7, 9, 1000, 0, 0, 0⟩] [44], taxesW []] [32] = [105, 115, 115, 117, 101, 32, 107, 55, 32, 51, 32, 65, 66, 67, 50, 51, 52, 32, 55, 64, 57, 61, 49, 48, 46, 48, 48, 32, 45] := by
  rw [flightW_c7, taxesW_nil, itoa_one (n := 3) (by decide) (by decide)]; rfl
theorem jF_len : (Lib.join [flightW c7] [44]).length ≤ 140737488355328 := by
  show (Lib.join [flightW ⟨7, 9, 1000, 0, 0, 0⟩] [44]).length ≤ _
  rw [flightW_c7]; decide
def partsI : List (List UInt8) := [[105, 115, 115, 117, 101], [107, 55], Lib.itoa 3, [65, 66, 67, 50, 51, 52], Lib.join [flightW c7] [44], taxesW []]
theorem jL_eq : Lib.join partsI [32] = [105, 115, 115, 117, 101, 32, 107, 55, 32, 51, 32, 65, 66, 67, 50, 51, 52, 32, 55, 64, 57, 61, 49, 48, 46, 48, 48, 32, 45] := lineI_join
theorem jL_len : (Lib.join partsI [32]).length ≤ 140737488355328 := by rw [jL_eq]; decide
noncomputable section
set_option maxRecDepth 100000
set_option linter.unusedSimpArgs false
set_option linter.unusedVariables false
attribute [local irreducible] inK Utf8.decode Utf8.encode Lib.itoa Pl.worth Pl.allDig
attribute [local irreducible] Lib.join
def lineI : List UInt8 := [105, 115, 115, 117, 101, 32, 107, 55, 32, 51, 32, 65, 66, 67, 50, 51, 52, 32, 55, 64, 57, 61, 49, 48, 46, 48, 48, 32, 45]
def pcLineI : PC := PC.of (fun _ : Unit => [reqI]) (fun _ => True) (fun _ => .str (sS lineI))
def keysI : List UInt8 := [75, 68, 76, 67, 88]
theorem keysI_at {i : Nat} (h : i < 5) : runeAt keysI i = ((keysI.getD i 0).toNat : Int) ∧ runeW keysI i = 1 := by
  rcases rune_cases (l := keysI) (p := i) h with ⟨h6, h7, h8⟩ | ⟨h6, h7⟩
  · exact ⟨h6, h7⟩
  · exfalso
    rcases (by omega : i = 0 ∨ i = 1 ∨ i = 2 ∨ i = 3 ∨ i = 4) with rfl | rfl | rfl | rfl | rfl <;> exact absurd h7 (by decide)
def D_script_RequestLine : PT := tabD [(71, pcMayI), (62, pcJoinS), (129, pcFlightW), (58, pcTaxesW), (46, pcItoaS)]
def C_script_RequestLine : FuncId → Option Ctr := tabC D_script_RequestLine []
def LI1_script_RequestLine (u : Unit) : List AV → List Blk → Nat → Option LR := fun _ _ i => cond (Nat.beq i 3) (some (.unroll 2)) none
def C1_script_RequestLine (u : Unit) : FuncId → Option Ctr := tabC D_script_RequestLine [(56, inl TY (C_script_RequestLine) D_script_RequestLine (fun _ => false) (LI1_script_RequestLine u) Tryz.f56)]
def C2_script_RequestLine (u : Unit) : FuncId → Option Ctr := tabC D_script_RequestLine [(164, inl TY (C1_script_RequestLine u) D_script_RequestLine (fun _ => false) (fun _ _ _ => none) Tryz.f164), (56, inl TY (C_script_RequestLine) D_script_RequestLine (fun _ => false) (LI1_script_RequestLine u) Tryz.f56)]
def C3_script_RequestLine (u : Unit) : FuncId → Option Ctr := tabC D_script_RequestLine [(73, inl TY (C2_script_RequestLine u) D_script_RequestLine (fun _ => false) (fun _ _ _ => none) Tryz.f73), (164, inl TY (C1_script_RequestLine u) D_script_RequestLine (fun _ => false) (fun _ _ _ => none) Tryz.f164), (56, inl TY (C_script_RequestLine) D_script_RequestLine (fun _ => false) (LI1_script_RequestLine u) Tryz.f56)]
def C4_script_RequestLine (u : Unit) : FuncId → Option Ctr := tabC D_script_RequestLine [(74, inl TY (C3_script_RequestLine u) D_script_RequestLine (fun _ => false) (fun _ _ _ => none) Tryz.f74), (73, inl TY (C2_script_RequestLine u) D_script_RequestLine (fun _ => false) (fun _ _ _ => none) Tryz.f73), (164, inl TY (C1_script_RequestLine u) D_script_RequestLine (fun _ => false) (fun _ _ _ => none) Tryz.f164), (56, inl TY (C_script_RequestLine) D_script_RequestLine (fun _ => false) (LI1_script_RequestLine u) Tryz.f56)]
def C5_script_RequestLine (u : Unit) : FuncId → Option Ctr := tabC D_script_RequestLine [(144, inl TY (C4_script_RequestLine u) D_script_RequestLine (fun _ => false) (fun _ _ _ => none) Tryz.f144), (74, inl TY (C3_script_RequestLine u) D_script_RequestLine (fun _ => false) (fun _ _ _ => none) Tryz.f74), (73, inl TY (C2_script_RequestLine u) D_script_RequestLine (fun _ => false) (fun _ _ _ => none) Tryz.f73), (164, inl TY (C1_script_RequestLine u) D_script_RequestLine (fun _ => false) (fun _ _ _ => none) Tryz.f164), (56, inl TY (C_script_RequestLine) D_script_RequestLine (fun _ => false) (LI1_script_RequestLine u) Tryz.f56)]
def C6_script_RequestLine (u : Unit) : FuncId → Option Ctr := tabC D_script_RequestLine [(145, inl TY (C5_script_RequestLine u) D_script_RequestLine (fun _ => false) (fun _ _ _ => none) Tryz.f145), (144, inl TY (C4_script_RequestLine u) D_script_RequestLine (fun _ => false) (fun _ _ _ => none) Tryz.f144), (74, inl TY (C3_script_RequestLine u) D_script_RequestLine (fun _ => false) (fun _ _ _ => none) Tryz.f74), (73, inl TY (C2_script_RequestLine u) D_script_RequestLine (fun _ => false) (fun _ _ _ => none) Tryz.f73), (164, inl TY (C1_script_RequestLine u) D_script_RequestLine (fun _ => false) (fun _ _ _ => none) Tryz.f164), (56, inl TY (C_script_RequestLine) D_script_RequestLine (fun _ => false) (LI1_script_RequestLine u) Tryz.f56)]
def C7_script_RequestLine (u : Unit) : FuncId → Option Ctr := tabC D_script_RequestLine [(147, inl TY (C6_script_RequestLine u) D_script_RequestLine (fun _ => false) (fun _ _ _ => none) Tryz.f147), (145, inl TY (C5_script_RequestLine u) D_script_RequestLine (fun _ => false) (fun _ _ _ => none) Tryz.f145), (144, inl TY (C4_script_RequestLine u) D_script_RequestLine (fun _ => false) (fun _ _ _ => none) Tryz.f144), (74, inl TY (C3_script_RequestLine u) D_script_RequestLine (fun _ => false) (fun _ _ _ => none) Tryz.f74), (73, inl TY (C2_script_RequestLine u) D_script_RequestLine (fun _ => false) (fun _ _ _ => none) Tryz.f73), (164, inl TY (C1_script_RequestLine u) D_script_RequestLine (fun _ => false) (fun _ _ _ => none) Tryz.f164), (56, inl TY (C_script_RequestLine) D_script_RequestLine (fun _ => false) (LI1_script_RequestLine u) Tryz.f56)]
def C8_script_RequestLine (u : Unit) : FuncId → Option Ctr := tabC D_script_RequestLine [(160, inl TY (C7_script_RequestLine u) D_script_RequestLine (fun _ => false) (fun _ _ _ => none) Tryz.f160), (147, inl TY (C6_script_RequestLine u) D_script_RequestLine (fun _ => false) (fun _ _ _ => none) Tryz.f147), (145, inl TY (C5_script_RequestLine u) D_script_RequestLine (fun _ => false) (fun _ _ _ => none) Tryz.f145), (144, inl TY (C4_script_RequestLine u) D_script_RequestLine (fun _ => false) (fun _ _ _ => none) Tryz.f144), (74, inl TY (C3_script_RequestLine u) D_script_RequestLine (fun _ => false) (fun _ _ _ => none) Tryz.f74), (73, inl TY (C2_script_RequestLine u) D_script_RequestLine (fun _ => false) (fun _ _ _ => none) Tryz.f73), (164, inl TY (C1_script_RequestLine u) D_script_RequestLine (fun _ => false) (fun _ _ _ => none) Tryz.f164), (56, inl TY (C_script_RequestLine) D_script_RequestLine (fun _ => false) (LI1_script_RequestLine u) Tryz.f56)]
def C9_script_RequestLine (u : Unit) : FuncId → Option Ctr := tabC D_script_RequestLine [(162, inl TY (C8_script_RequestLine u) D_script_RequestLine (fun _ => false) (fun _ _ _ => none) Tryz.f162), (160, inl TY (C7_script_RequestLine u) D_script_RequestLine (fun _ => false) (fun _ _ _ => none) Tryz.f160), (147, inl TY (C6_script_RequestLine u) D_script_RequestLine (fun _ => false) (fun _ _ _ => none) Tryz.f147), (145, inl TY (C5_script_RequestLine u) D_script_RequestLine (fun _ => false) (fun _ _ _ => none) Tryz.f145), (144, inl TY (C4_script_RequestLine u) D_script_RequestLine (fun _ => false) (fun _ _ _ => none) Tryz.f144), (74, inl TY (C3_script_RequestLine u) D_script_RequestLine (fun _ => false) (fun _ _ _ => none) Tryz.f74), (73, inl TY (C2_script_RequestLine u) D_script_RequestLine (fun _ => false) (fun _ _ _ => none) Tryz.f73), (164, inl TY (C1_script_RequestLine u) D_script_RequestLine (fun _ => false) (fun _ _ _ => none) Tryz.f164), (56, inl TY (C_script_RequestLine) D_script_RequestLine (fun _ => false) (LI1_script_RequestLine u) Tryz.f56)]
def C10_script_RequestLine (u : Unit) : FuncId → Option Ctr := tabC D_script_RequestLine [(216, inl TY (C9_script_RequestLine u) D_script_RequestLine (fun _ => false) (fun _ _ _ => none) Tryz.f216), (162, inl TY (C8_script_RequestLine u) D_script_RequestLine (fun _ => false) (fun _ _ _ => none) Tryz.f162), (160, inl TY (C7_script_RequestLine u) D_script_RequestLine (fun _ => false) (fun _ _ _ => none) Tryz.f160), (147, inl TY (C6_script_RequestLine u) D_script_RequestLine (fun _ => false) (fun _ _ _ => none) Tryz.f147), (145, inl TY (C5_script_RequestLine u) D_script_RequestLine (fun _ => false) (fun _ _ _ => none) Tryz.f145), (144, inl TY (C4_script_RequestLine u) D_script_RequestLine (fun _ => false) (fun _ _ _ => none) Tryz.f144), (74, inl TY (C3_script_RequestLine u) D_script_RequestLine (fun _ => false) (fun _ _ _ => none) Tryz.f74), (73, inl TY (C2_script_RequestLine u) D_script_RequestLine (fun _ => false) (fun _ _ _ => none) Tryz.f73), (164, inl TY (C1_script_RequestLine u) D_script_RequestLine (fun _ => false) (fun _ _ _ => none) Tryz.f164), (56, inl TY (C_script_RequestLine) D_script_RequestLine (fun _ => false) (LI1_script_RequestLine u) Tryz.f56)]
def C11_script_RequestLine (u : Unit) : FuncId → Option Ctr := tabC D_script_RequestLine [(218, inl TY (C10_script_RequestLine u) D_script_RequestLine (fun _ => false) (fun _ _ _ => none) Tryz.f218), (216, inl TY (C9_script_RequestLine u) D_script_RequestLine (fun _ => false) (fun _ _ _ => none) Tryz.f216), (162, inl TY (C8_script_RequestLine u) D_script_RequestLine (fun _ => false) (fun _ _ _ => none) Tryz.f162), (160, inl TY (C7_script_RequestLine u) D_script_RequestLine (fun _ => false) (fun _ _ _ => none) Tryz.f160), (147, inl TY (C6_script_RequestLine u) D_script_RequestLine (fun _ => false) (fun _ _ _ => none) Tryz.f147), (145, inl TY (C5_script_RequestLine u) D_script_RequestLine (fun _ => false) (fun _ _ _ => none) Tryz.f145), (144, inl TY (C4_script_RequestLine u) D_script_RequestLine (fun _ => false) (fun _ _ _ => none) Tryz.f144), (74, inl TY (C3_script_RequestLine u) D_script_RequestLine (fun _ => false) (fun _ _ _ => none) Tryz.f74), (73, inl TY (C2_script_RequestLine u) D_script_RequestLine (fun _ => false) (fun _ _ _ => none) Tryz.f73), (164, inl TY (C1_script_RequestLine u) D_script_RequestLine (fun _ => false) (fun _ _ _ => none) Tryz.f164), (56, inl TY (C_script_RequestLine) D_script_RequestLine (fun _ => false) (LI1_script_RequestLine u) Tryz.f56)]
def C12_script_RequestLine (u : Unit) : FuncId → Option Ctr := tabC D_script_RequestLine [(143, inl TY (C11_script_RequestLine u) D_script_RequestLine (fun _ => false) (fun _ _ _ => none) Tryz.f143), (218, inl TY (C10_script_RequestLine u) D_script_RequestLine (fun _ => false) (fun _ _ _ => none) Tryz.f218), (216, inl TY (C9_script_RequestLine u) D_script_RequestLine (fun _ => false) (fun _ _ _ => none) Tryz.f216), (162, inl TY (C8_script_RequestLine u) D_script_RequestLine (fun _ => false) (fun _ _ _ => none) Tryz.f162), (160, inl TY (C7_script_RequestLine u) D_script_RequestLine (fun _ => false) (fun _ _ _ => none) Tryz.f160), (147, inl TY (C6_script_RequestLine u) D_script_RequestLine (fun _ => false) (fun _ _ _ => none) Tryz.f147), (145, inl TY (C5_script_RequestLine u) D_script_RequestLine (fun _ => false) (fun _ _ _ => none) Tryz.f145), (144, inl TY (C4_script_RequestLine u) D_script_RequestLine (fun _ => false) (fun _ _ _ => none) Tryz.f144), (74, inl TY (C3_script_RequestLine u) D_script_RequestLine (fun _ => false) (fun _ _ _ => none) Tryz.f74), (73, inl TY (C2_script_RequestLine u) D_script_RequestLine (fun _ => false) (fun _ _ _ => none) Tryz.f73), (164, inl TY (C1_script_RequestLine u) D_script_RequestLine (fun _ => false) (fun _ _ _ => none) Tryz.f164), (56, inl TY (C_script_RequestLine) D_script_RequestLine (fun _ => false) (LI1_script_RequestLine u) Tryz.f56)]
def C13_script_RequestLine (u : Unit) : FuncId → Option Ctr := tabC D_script_RequestLine [(146, inl TY (C12_script_RequestLine u) D_script_RequestLine (fun _ => false) (fun _ _ _ => none) Tryz.f146), (143, inl TY (C11_script_RequestLine u) D_script_RequestLine (fun _ => false) (fun _ _ _ => none) Tryz.f143), (218, inl TY (C10_script_RequestLine u) D_script_RequestLine (fun _ => false) (fun _ _ _ => none) Tryz.f218), (216, inl TY (C9_script_RequestLine u) D_script_RequestLine (fun _ => false) (fun _ _ _ => none) Tryz.f216), (162, inl TY (C8_script_RequestLine u) D_script_RequestLine (fun _ => false) (fun _ _ _ => none) Tryz.f162), (160, inl TY (C7_script_RequestLine u) D_script_RequestLine (fun _ => false) (fun _ _ _ => none) Tryz.f160), (147, inl TY (C6_script_RequestLine u) D_script_RequestLine (fun _ => false) (fun _ _ _ => none) Tryz.f147), (145, inl TY (C5_script_RequestLine u) D_script_RequestLine (fun _ => false) (fun _ _ _ => none) Tryz.f145), (144, inl TY (C4_script_RequestLine u) D_script_RequestLine (fun _ => false) (fun _ _ _ => none) Tryz.f144), (74, inl TY (C3_script_RequestLine u) D_script_RequestLine (fun _ => false) (fun _ _ _ => none) Tryz.f74), (73, inl TY (C2_script_RequestLine u) D_script_RequestLine (fun _ => false) (fun _ _ _ => none) Tryz.f73), (164, inl TY (C1_script_RequestLine u) D_script_RequestLine (fun _ => false) (fun _ _ _ => none) Tryz.f164), (56, inl TY (C_script_RequestLine) D_script_RequestLine (fun _ => false) (LI1_script_RequestLine u) Tryz.f56)]
def C14_script_RequestLine (u : Unit) : FuncId → Option Ctr := tabC D_script_RequestLine [(72, inl TY (C13_script_RequestLine u) D_script_RequestLine (fun _ => false) (fun _ _ _ => none) Tryz.f72), (146, inl TY (C12_script_RequestLine u) D_script_RequestLine (fun _ => false) (fun _ _ _ => none) Tryz.f146), (143, inl TY (C11_script_RequestLine u) D_script_RequestLine (fun _ => false) (fun _ _ _ => none) Tryz.f143), (218, inl TY (C10_script_RequestLine u) D_script_RequestLine (fun _ => false) (fun _ _ _ => none) Tryz.f218), (216, inl TY (C9_script_RequestLine u) D_script_RequestLine (fun _ => false) (fun _ _ _ => none) Tryz.f216), (162, inl TY (C8_script_RequestLine u) D_script_RequestLine (fun _ => false) (fun _ _ _ => none) Tryz.f162), (160, inl TY (C7_script_RequestLine u) D_script_RequestLine (fun _ => false) (fun _ _ _ => none) Tryz.f160), (147, inl TY (C6_script_RequestLine u) D_script_RequestLine (fun _ => false) (fun _ _ _ => none) Tryz.f147), (145, inl TY (C5_script_RequestLine u) D_script_RequestLine (fun _ => false) (fun _ _ _ => none) Tryz.f145), (144, inl TY (C4_script_RequestLine u) D_script_RequestLine (fun _ => false) (fun _ _ _ => none) Tryz.f144), (74, inl TY (C3_script_RequestLine u) D_script_RequestLine (fun _ => false) (fun _ _ _ => none) Tryz.f74), (73, inl TY (C2_script_RequestLine u) D_script_RequestLine (fun _ => false) (fun _ _ _ => none) Tryz.f73), (164, inl TY (C1_script_RequestLine u) D_script_RequestLine (fun _ => false) (fun _ _ _ => none) Tryz.f164), (56, inl TY (C_script_RequestLine) D_script_RequestLine (fun _ => false) (LI1_script_RequestLine u) Tryz.f56)]
def L_script_RequestLine : Unit → Nat → Option LR := fun u i => cond (Nat.beq i 6) (some (.unroll 6)) (none)
set_option maxHeartbeats 2000000 in
theorem g_script_RequestLine {W : World} (hW : Tabs W) : GoodP (Fw W) Tryz.prog 24 pcLineI := by
  have hD : PTOk (Fw W) Tryz.prog D_script_RequestLine := (tabD_cons Tryz.call71 (g_request_May hW) (tabD_cons Tryz.call62 (goodJoinS hW) (tabD_cons Tryz.call129 (g_script_flight hW) (tabD_cons Tryz.call58 (g_script_taxes hW) (tabD_cons Tryz.call46 (g_script_digits hW) tabD_nil)))))
  have hC0 : ∀ u : Unit, CtrOk (Fw W) Tryz.prog (C_script_RequestLine) := fun u => (tabC_nil hD)
  have hC1 : ∀ u : Unit, CtrOk (Fw W) Tryz.prog (C1_script_RequestLine u) := fun u => tabC_cons Tryz.call56 (good_inl rfl tyOk hD (hC0 u) Tryz.func56 (LI1_script_RequestLine u)) (hC0 u)
  have hC2 : ∀ u : Unit, CtrOk (Fw W) Tryz.prog (C2_script_RequestLine u) := fun u => tabC_cons Tryz.call164 (good_inl rfl tyOk hD (hC1 u) Tryz.func164 (fun _ _ _ => none)) (hC1 u)
  have hC3 : ∀ u : Unit, CtrOk (Fw W) Tryz.prog (C3_script_RequestLine u) := fun u => tabC_cons Tryz.call73 (good_inl rfl tyOk hD (hC2 u) Tryz.func73 (fun _ _ _ => none)) (hC2 u)
  have hC4 : ∀ u : Unit, CtrOk (Fw W) Tryz.prog (C4_script_RequestLine u) := fun u => tabC_cons Tryz.call74 (good_inl rfl tyOk hD (hC3 u) Tryz.func74 (fun _ _ _ => none)) (hC3 u)
  have hC5 : ∀ u : Unit, CtrOk (Fw W) Tryz.prog (C5_script_RequestLine u) := fun u => tabC_cons Tryz.call144 (good_inl rfl tyOk hD (hC4 u) Tryz.func144 (fun _ _ _ => none)) (hC4 u)
  have hC6 : ∀ u : Unit, CtrOk (Fw W) Tryz.prog (C6_script_RequestLine u) := fun u => tabC_cons Tryz.call145 (good_inl rfl tyOk hD (hC5 u) Tryz.func145 (fun _ _ _ => none)) (hC5 u)
  have hC7 : ∀ u : Unit, CtrOk (Fw W) Tryz.prog (C7_script_RequestLine u) := fun u => tabC_cons Tryz.call147 (good_inl rfl tyOk hD (hC6 u) Tryz.func147 (fun _ _ _ => none)) (hC6 u)
  have hC8 : ∀ u : Unit, CtrOk (Fw W) Tryz.prog (C8_script_RequestLine u) := fun u => tabC_cons Tryz.call160 (good_inl rfl tyOk hD (hC7 u) Tryz.func160 (fun _ _ _ => none)) (hC7 u)
  have hC9 : ∀ u : Unit, CtrOk (Fw W) Tryz.prog (C9_script_RequestLine u) := fun u => tabC_cons Tryz.call162 (good_inl rfl tyOk hD (hC8 u) Tryz.func162 (fun _ _ _ => none)) (hC8 u)
  have hC10 : ∀ u : Unit, CtrOk (Fw W) Tryz.prog (C10_script_RequestLine u) := fun u => tabC_cons Tryz.call216 (good_inl rfl tyOk hD (hC9 u) Tryz.func216 (fun _ _ _ => none)) (hC9 u)
  have hC11 : ∀ u : Unit, CtrOk (Fw W) Tryz.prog (C11_script_RequestLine u) := fun u => tabC_cons Tryz.call218 (good_inl rfl tyOk hD (hC10 u) Tryz.func218 (fun _ _ _ => none)) (hC10 u)
  have hC12 : ∀ u : Unit, CtrOk (Fw W) Tryz.prog (C12_script_RequestLine u) := fun u => tabC_cons Tryz.call143 (good_inl rfl tyOk hD (hC11 u) Tryz.func143 (fun _ _ _ => none)) (hC11 u)
  have hC13 : ∀ u : Unit, CtrOk (Fw W) Tryz.prog (C13_script_RequestLine u) := fun u => tabC_cons Tryz.call146 (good_inl rfl tyOk hD (hC12 u) Tryz.func146 (fun _ _ _ => none)) (hC12 u)
  have hC14 : ∀ u : Unit, CtrOk (Fw W) Tryz.prog (C14_script_RequestLine u) := fun u => tabC_cons Tryz.call72 (good_inl rfl tyOk hD (hC13 u) Tryz.func72 (fun _ _ _ => none)) (hC13 u)
  refine goodP_ofC (D := D_script_RequestLine) (C := fun u => C14_script_RequestLine u) (wr := (fun _ => false)) rfl tyOk hD hC14 Tryz.func24 (L_script_RequestLine) (fun _ => rfl) ?_
  intro u hf hp
  clear hf
  have r0 : runeAt [75, 68, 76, 67, 88] 0 = 75 := (keysI_at (by omega)).1
  have w0 : runeW [75, 68, 76, 67, 88] 0 = 1 := (keysI_at (by omega)).2
  have r1 : runeAt [75, 68, 76, 67, 88] 1 = 68 := (keysI_at (by omega)).1
  have w1 : runeW [75, 68, 76, 67, 88] 1 = 1 := (keysI_at (by omega)).2
  have r2 : runeAt [75, 68, 76, 67, 88] 2 = 76 := (keysI_at (by omega)).1
  have w2 : runeW [75, 68, 76, 67, 88] 2 = 1 := (keysI_at (by omega)).2
  have r3 : runeAt [75, 68, 76, 67, 88] 3 = 67 := (keysI_at (by omega)).1
  have w3 : runeW [75, 68, 76, 67, 88] 3 = 1 := (keysI_at (by omega)).2
  have r4 : runeAt [75, 68, 76, 67, 88] 4 = 88 := (keysI_at (by omega)).1
  have w4 : runeW [75, 68, 76, 67, 88] 4 = 1 := (keysI_at (by omega)).2
  (conv => whnf)
  all_goals (try (show _ = _; simp only [sI_eq, sB_eq, sS_eq, sN_eq]))
  refine ⟨(), True.intro, ?_, ?_⟩
  · (conv => whnf)
    (repeat' ((first | with_reducible exact True.intro | ((with_reducible refine And.intro ?_ ?_); focus (first | with_reducible rfl | omega | exact Nat.le_of_ble_eq_true rfl | rfl)) | with_reducible refine And.intro (?_ : leA _ _ _) ?_ | fail) <;> (conv => whnf)))
    all_goals (try simp only [sI_eq, sB_eq, sS_eq, sN_eq])
    all_goals (try first | exact ⟨fun h => h, fun _ _ => True.intro⟩)
  (conv => whnf)
  (repeat' ((first
    | (with_reducible refine inl_intro ?_)
    | ((with_reducible refine And.intro ?_ ?_); focus (first | with_reducible exact True.intro | ((with_reducible refine ⟨?_, ?_, ?_⟩) <;> first | (intro e he; rcases (by omega : e = 0 ∨ e = 1 ∨ e = 2 ∨ e = 3 ∨ e = 4 ∨ e = 5) with rfl | rfl | rfl | rfl | rfl | rfl <;> first | rfl | (exfalso; omega)) | (with_reducible assumption) | omega | ((with_reducible show growOk _ _); simp only [growOk, ty2, ty3, ty4, ty5, ty9, ty21, ty37, ty42, ty43, ty45, ty47, ty67, ty95, ty105, ty113, ty150, ty161, ty198, ty242, ty275, List.length_cons, List.length_nil]; first | omega | (refine ⟨?_, ?_⟩ <;> omega))) | omega | (simp only [inK_def, Go.Vc.lo, Go.Vc.hi]; omega) | (simp only [List.length_append, bytesOf_length, List.toList_toArray, List.length_cons, List.length_nil, List.length_take, List.length_drop, sS_eq]; omega) | (simp only [growOk, ty2, ty3, ty4, ty5, ty9, ty21, ty37, ty42, ty43, ty45, ty47, ty67, ty95, ty105, ty113, ty150, ty161, ty198, ty242, ty275]; first | omega | (refine ⟨?_, ?_⟩ <;> omega)) | decide))
    | (conv => arg 2; change eqI (runeAt _ _) _; simp only [List.toList_toArray, sB_eq, r0, r1, r2, r3, r4, w0, w1, w2, w3, w4, Nat.zero_add, Nat.reduceAdd, List.length_cons, List.length_nil])
    | (conv => arg 2; change decide (_ + runeW _ _ < _); simp only [List.toList_toArray, sB_eq, r0, r1, r2, r3, r4, w0, w1, w2, w3, w4, Nat.zero_add, Nat.reduceAdd, List.length_cons, List.length_nil])
    | (conv => arg 2; change ! (sB _); simp only [List.toList_toArray, sB_eq, r0, r1, r2, r3, r4, w0, w1, w2, w3, w4, Nat.zero_add, Nat.reduceAdd, List.length_cons, List.length_nil])
    | with_reducible refine (fun (hln : (_ : Int) ≤ 9223372036854775807) => ?_)
    | fail) <;> (conv => whnf)))
  all_goals (try (show _ = _; simp only [sI_eq, sB_eq, sS_eq, sN_eq]))
  refine ⟨([flightW c7], [44]), ⟨jF_len, by decide⟩, ?_, ?_⟩
  · (conv => whnf)
    (repeat' ((first | with_reducible exact True.intro | ((with_reducible refine And.intro ?_ ?_); focus (first | with_reducible rfl | omega | exact Nat.le_of_ble_eq_true rfl | rfl)) | with_reducible refine And.intro (?_ : leA _ _ _) ?_ | fail) <;> (conv => whnf)))
    all_goals (try simp only [sI_eq, sB_eq, sS_eq, sN_eq])
    exact ⟨fun h => h, fun e he => by obtain rfl : e = 0 := (by omega); rfl⟩
  (conv => whnf)
  (repeat' ((first
    | (with_reducible refine inl_intro ?_)
    | ((with_reducible refine And.intro ?_ ?_); focus (first | ((with_reducible refine ⟨?_, ?_, ?_⟩) <;> first | (intro e he; rcases (by omega : e = 0 ∨ e = 1 ∨ e = 2 ∨ e = 3 ∨ e = 4 ∨ e = 5) with rfl | rfl | rfl | rfl | rfl | rfl <;> first | rfl | (exfalso; omega)) | (with_reducible assumption) | omega | ((with_reducible show growOk _ _); simp only [growOk, ty2, ty3, ty4, ty5, ty9, ty21, ty37, ty42, ty43, ty45, ty47, ty67, ty95, ty105, ty113, ty150, ty161, ty198, ty242, ty275, List.length_cons, List.length_nil]; first | omega | (refine ⟨?_, ?_⟩ <;> omega))) | omega))
    | (conv => arg 2; change eqI (runeAt _ _) _; simp only [List.toList_toArray, sB_eq, r0, r1, r2, r3, r4, w0, w1, w2, w3, w4, Nat.zero_add, Nat.reduceAdd, List.length_cons, List.length_nil])
    | (conv => arg 2; change decide (_ + runeW _ _ < _); simp only [List.toList_toArray, sB_eq, r0, r1, r2, r3, r4, w0, w1, w2, w3, w4, Nat.zero_add, Nat.reduceAdd, List.length_cons, List.length_nil])
    | fail) <;> (conv => whnf)))
  all_goals (try (show _ = _; simp only [sI_eq, sB_eq, sS_eq, sN_eq]))
  refine ⟨[], Nat.zero_le _, ?_, ?_⟩
  · (conv => whnf)
    (repeat' ((first | with_reducible exact True.intro | ((with_reducible refine And.intro ?_ ?_); focus (first | with_reducible rfl | omega | exact Nat.le_of_ble_eq_true rfl | rfl)) | fail) <;> (conv => whnf)))
    all_goals (try simp only [sI_eq, sB_eq, sS_eq, sN_eq])
  (conv => whnf)
  (repeat' ((first
    | ((with_reducible refine And.intro ?_ ?_); focus (first | ((with_reducible refine ⟨?_, ?_, ?_⟩) <;> first | (intro e he; rcases (by omega : e = 0 ∨ e = 1 ∨ e = 2 ∨ e = 3 ∨ e = 4 ∨ e = 5) with rfl | rfl | rfl | rfl | rfl | rfl <;> first | rfl | (exfalso; omega)) | (with_reducible assumption) | omega | ((with_reducible show growOk _ _); simp only [growOk, ty2, ty3, ty4, ty5, ty9, ty21, ty37, ty42, ty43, ty45, ty47, ty67, ty95, ty105, ty113, ty150, ty161, ty198, ty242, ty275, List.length_cons, List.length_nil]; first | omega | (refine ⟨?_, ?_⟩ <;> omega))) | omega | decide))
    | (conv => arg 2; change decide (_ + runeW _ _ < _); simp only [List.toList_toArray, sB_eq, r0, r1, r2, r3, r4, w0, w1, w2, w3, w4, Nat.zero_add, Nat.reduceAdd, List.length_cons, List.length_nil])
    | fail) <;> (conv => whnf)))
  all_goals (try (show _ = _; simp only [sI_eq, sB_eq, sS_eq, sN_eq]))
  refine ⟨(partsI, [32]), ⟨jL_len, by decide⟩, ?_, ?_⟩
  · (conv => whnf)
    (repeat' ((first | with_reducible exact True.intro | ((with_reducible refine And.intro ?_ ?_); focus (first | with_reducible rfl | omega | exact Nat.le_of_ble_eq_true rfl | rfl)) | with_reducible refine And.intro (?_ : leA _ _ _) ?_ | fail) <;> (conv => whnf)))
    all_goals (try simp only [sI_eq, sB_eq, sS_eq, sN_eq])
    refine ⟨fun h => h, fun e he => ?_⟩
    change e < 6 at he
    rcases (by omega : e = 0 ∨ e = 1 ∨ e = 2 ∨ e = 3 ∨ e = 4 ∨ e = 5) with rfl | rfl | rfl | rfl | rfl | rfl <;> rfl
  (conv => whnf)
  all_goals (try (show _ = _; simp only [sI_eq, sB_eq, sS_eq, sN_eq]))
  all_goals exact jL_eq
end
end Go.Vc.Z

/- Acts' lines: the two that are looked at in each statement. -/
namespace Go.Vc.Z
open Go Go.Vc Go.Proofs Go.RowKit Go.Pl Go.Lib
def partsC : List (List UInt8) := [[99, 114, 97, 115, 104], Lib.itoa 1, Lib.itoa 4, Lib.itoa (-1)]
def partsD : List (List UInt8) := [[100, 111], Lib.itoa 0, lineI]
theorem itoa_m1 : Lib.itoa (-1) = [45, 49] := by
  unfold Lib.itoa; rw [if_pos (by decide)]
  rw [show (-1 : Int).natAbs = 1 from rfl, decDigits_one (by decide)]; rfl
theorem jC_eq : Lib.join partsC [32] = [99, 114, 97, 115, 104, 32, 49, 32, 52, 32, 45, 49] := by
  unfold partsC; rw [itoa_m1, itoa_one (n := 1) (by decide) (by decide), itoa_one (n := 4) (by decide) (by decide)]; rfl
theorem jD_eq : Lib.join partsD [32] = [100, 111, 32, 48, 32] ++ lineI := by
  unfold partsD; rw [itoa_one (n := 0) (by decide) (by decide)]; rfl
theorem jC_len : (Lib.join partsC [32]).length ≤ 140737488355328 := by rw [jC_eq]; decide
theorem jD_len : (Lib.join partsD [32]).length ≤ 140737488355328 := by rw [jD_eq]; decide
noncomputable section
set_option maxRecDepth 100000
set_option linter.unusedSimpArgs false
set_option linter.unusedVariables false
attribute [local irreducible] inK Utf8.decode Utf8.encode Lib.itoa Pl.worth Pl.allDig
attribute [local irreducible] Lib.join
def actA : Bool → AV
  | true => .agg [.int .i64 1, .int .i64 0, .str [107, 55], .int .i64 1, .int .i64 3, .int .u64 0, .int .i64 0, .int .i64 0, .str [65, 66, 67, 50, 51, 52], slE 6 Coupon.enc [c7], .nilsl, .int .i64 0, .int .i64 0, .int .i64 0, .int .i64 0, .nilsl, .bool false]
  | false => .agg [.int .i64 4, .int .i64 1, .str [], .int .i64 0, .int .i64 0, .int .u64 0, .int .i64 0, .int .i64 0, .str [], .nilsl, .nilsl, .int .i64 0, .int .i64 0, .int .i64 0, .int .i64 0, .sl false 1 2 (fun e => [.int .i64 (([4, -1] : List Int).getD e 0)]), .bool false]
def pcSMay : PC := PC.of (fun b : Bool => [actA b]) (fun _ => True) (fun _ => .bool (sB true))
def D_script_May : PT := tabD [(71, pcMayI)]
def C_script_May : FuncId → Option Ctr := tabC D_script_May []
def C1_script_May (b : Bool) : FuncId → Option Ctr := tabC D_script_May [(213, inl TY (C_script_May) D_script_May (fun _ => false) (fun _ _ _ => none) Tryz.f213)]
def LI2_script_May (b : Bool) : List AV → List Blk → Nat → Option LR := fun _ _ i => cond (Nat.beq i 4) (some (.unroll 1)) none
def C2_script_May (b : Bool) : FuncId → Option Ctr := tabC D_script_May [(214, inl TY (C1_script_May b) D_script_May (fun _ => false) (LI2_script_May b) Tryz.f214), (213, inl TY (C_script_May) D_script_May (fun _ => false) (fun _ _ _ => none) Tryz.f213)]
def LI3_script_May (b : Bool) : List AV → List Blk → Nat → Option LR := fun _ _ i => cond (Nat.beq i 4) (some (.unroll 1)) none
def C3_script_May (b : Bool) : FuncId → Option Ctr := tabC D_script_May [(215, inl TY (C2_script_May b) D_script_May (fun _ => false) (LI3_script_May b) Tryz.f215), (214, inl TY (C1_script_May b) D_script_May (fun _ => false) (LI2_script_May b) Tryz.f214), (213, inl TY (C_script_May) D_script_May (fun _ => false) (fun _ _ _ => none) Tryz.f213)]
def LI4_script_May (b : Bool) : List AV → List Blk → Nat → Option LR := fun cs H i => cond (Nat.beq i 2) (some (.order [0, 1, 3, 4, 2, 5, 6, 7, 8, 9, 10, 11, 12, 13, 14, 15, 16, 17, 18, 19, 20, 21])) (none)
def C4_script_May (b : Bool) : FuncId → Option Ctr := tabC D_script_May [(142, inl TY (C3_script_May b) D_script_May (fun _ => false) (LI4_script_May b) Tryz.f142), (215, inl TY (C2_script_May b) D_script_May (fun _ => false) (LI3_script_May b) Tryz.f215), (214, inl TY (C1_script_May b) D_script_May (fun _ => false) (LI2_script_May b) Tryz.f214), (213, inl TY (C_script_May) D_script_May (fun _ => false) (fun _ _ _ => none) Tryz.f213)]
def C5_script_May (b : Bool) : FuncId → Option Ctr := tabC D_script_May [(98, inl TY (C4_script_May b) D_script_May (fun _ => false) (fun _ _ _ => none) Tryz.f98), (142, inl TY (C3_script_May b) D_script_May (fun _ => false) (LI4_script_May b) Tryz.f142), (215, inl TY (C2_script_May b) D_script_May (fun _ => false) (LI3_script_May b) Tryz.f215), (214, inl TY (C1_script_May b) D_script_May (fun _ => false) (LI2_script_May b) Tryz.f214), (213, inl TY (C_script_May) D_script_May (fun _ => false) (fun _ _ _ => none) Tryz.f213)]
set_option maxHeartbeats 2000000 in
theorem g_script_May {W : World} (hW : Tabs W) : GoodP (Fw W) Tryz.prog 36 pcSMay := by
  have hD : PTOk (Fw W) Tryz.prog D_script_May := (tabD_cons Tryz.call71 (g_request_May hW) tabD_nil)
  have hC0 : ∀ b : Bool, CtrOk (Fw W) Tryz.prog (C_script_May) := fun b => (tabC_nil hD)
  have hC1 : ∀ b : Bool, CtrOk (Fw W) Tryz.prog (C1_script_May b) := fun b => tabC_cons Tryz.call213 (good_inl rfl tyOk hD (hC0 b) Tryz.func213 (fun _ _ _ => none)) (hC0 b)
  have hC2 : ∀ b : Bool, CtrOk (Fw W) Tryz.prog (C2_script_May b) := fun b => tabC_cons Tryz.call214 (good_inl rfl tyOk hD (hC1 b) Tryz.func214 (LI2_script_May b)) (hC1 b)
  have hC3 : ∀ b : Bool, CtrOk (Fw W) Tryz.prog (C3_script_May b) := fun b => tabC_cons Tryz.call215 (good_inl rfl tyOk hD (hC2 b) Tryz.func215 (LI3_script_May b)) (hC2 b)
  have hC4 : ∀ b : Bool, CtrOk (Fw W) Tryz.prog (C4_script_May b) := fun b => tabC_cons Tryz.call142 (good_inl rfl tyOk hD (hC3 b) Tryz.func142 (LI4_script_May b)) (hC3 b)
  have hC5 : ∀ b : Bool, CtrOk (Fw W) Tryz.prog (C5_script_May b) := fun b => tabC_cons Tryz.call98 (good_inl rfl tyOk hD (hC4 b) Tryz.func98 (fun _ _ _ => none)) (hC4 b)
  refine goodP_ofC (D := D_script_May) (C := fun b => C5_script_May b) (wr := (fun _ => false)) rfl tyOk hD hC5 Tryz.func36 (fun _ _ => none) (fun z => by cases z <;> rfl) ?_
  intro b hf hp
  clear hf
  cases b
  · (conv => whnf)
    (repeat' ((first
      | (with_reducible refine inl_intro ?_)
      | (refine optP_bare ?_)
      | with_reducible refine And.intro (?_ : opQ _ _ _ _ _ _) ?_
      | ((with_reducible refine And.intro ?_ ?_); focus (((with_reducible show okQ _ _ = true); rfl)))
      | with_reducible refine (fun (hln : (_ : Int) ≤ 9223372036854775807) => ?_)
      | fail) <;> (conv => whnf)))
    all_goals (try (show _ = _; simp only [sI_eq, sB_eq, sS_eq, sN_eq]))
    all_goals rfl
  · (conv => whnf)
    all_goals (try (show _ = _; simp only [sI_eq, sB_eq, sS_eq, sN_eq]))
    refine ⟨(), True.intro, ?_, ?_⟩
    · (conv => whnf)
      (repeat' ((first | with_reducible exact True.intro | ((with_reducible refine And.intro ?_ ?_); focus (first | with_reducible rfl | omega | exact Nat.le_of_ble_eq_true rfl | rfl)) | with_reducible refine And.intro (?_ : leA _ _ _) ?_ | fail) <;> (conv => whnf)))
      all_goals (try simp only [sI_eq, sB_eq, sS_eq, sN_eq])
      all_goals (try first | exact ⟨fun h => h, fun _ _ => True.intro⟩)
    (conv => whnf)
    (repeat' ((first
      | (with_reducible refine inl_intro ?_)
      | (refine optP_bare ?_)
      | (exact absurd (by with_reducible assumption) Bool.false_ne_true.symm)
      | with_reducible refine And.intro (?_ : opQ _ _ _ _ _ _) ?_
      | ((with_reducible refine And.intro ?_ ?_); focus (((with_reducible show okQ _ _ = true); rfl)))
      | (split <;> rename_i hh <;> (try simp only [ble_true, ble_false, beq_true, beq_false, sI_eq, sB_eq, sS_eq, sN_eq, ltI_eq, leI_eq, eqI_eq, decide_eq_true_eq, decide_eq_false_iff_not, beq_iff_eq, bne_iff_ne, ne_eq, beq_eq_false_iff_ne, bne_eq_false_iff_eq, Bool.not_eq_true, Bool.not_eq_false, Int.not_lt, Int.not_le, gt_iff_lt, ge_iff_le, Nat.not_lt, Nat.not_le, Decidable.not_not, Bool.not_eq_eq_eq_not, Bool.not_true, Bool.not_false, cond_true, cond_false, Bool.or_eq_true, Bool.and_eq_true, Bool.or_eq_false_iff, Bool.and_eq_false_iff] at hh) <;> (try simp (disch := omega) only [Int.tdiv_eq_ediv_of_nonneg, Int.tmod_eq_emod_of_nonneg] at hh))
      | fail) <;> (conv => whnf)))
    all_goals (try (show _ = _; simp only [sI_eq, sB_eq, sS_eq, sN_eq]))
    all_goals rfl
def actLn : Bool → List UInt8
  | true => [100, 111, 32, 48, 32] ++ lineI
  | false => [99, 114, 97, 115, 104, 32, 49, 32, 52, 32, 45, 49]
def pcActL : PC := PC.of (fun b : Bool => [actA b]) (fun _ => True) (fun b => .str (sS (actLn b)))
def D_script_ActLine : PT := tabD [(36, pcSMay), (46, pcItoaS), (24, pcLineI), (62, pcJoinS)]
def C_script_ActLine : FuncId → Option Ctr := tabC D_script_ActLine []
def L_script_ActLine : Bool → Nat → Option LR := fun b i => cond (Nat.beq i 15) (some (.unroll 3)) (none)
set_option maxHeartbeats 2000000 in
theorem g_script_ActLine {W : World} (hW : Tabs W) : GoodP (Fw W) Tryz.prog 34 pcActL := by
  have hD : PTOk (Fw W) Tryz.prog D_script_ActLine := (tabD_cons Tryz.call36 (g_script_May hW) (tabD_cons Tryz.call46 (g_script_digits hW) (tabD_cons Tryz.call24 (g_script_RequestLine hW) (tabD_cons Tryz.call62 (goodJoinS hW) tabD_nil))))
  have hC0 : ∀ b : Bool, CtrOk (Fw W) Tryz.prog (C_script_ActLine) := fun b => (tabC_nil hD)
  refine goodP_ofC (D := D_script_ActLine) (C := fun b => C_script_ActLine) (wr := (fun _ => false)) rfl tyOk hD hC0 Tryz.func34 (L_script_ActLine) (fun z => by cases z <;> rfl) ?_
  intro b hf hp
  clear hf
  cases b
  · (conv => whnf)
    all_goals (try (show _ = _; simp only [sI_eq, sB_eq, sS_eq, sN_eq]))
    refine ⟨false, True.intro, ?_, ?_⟩
    · (conv => whnf)
      (repeat' ((first | with_reducible exact True.intro | ((with_reducible refine And.intro ?_ ?_); focus (first | with_reducible rfl | omega | exact Nat.le_of_ble_eq_true rfl | rfl)) | with_reducible refine And.intro (?_ : leA _ _ _) ?_ | fail) <;> (conv => whnf)))
      all_goals (try simp only [sI_eq, sB_eq, sS_eq, sN_eq])
      all_goals (try first | exact ⟨fun h => h, fun _ _ => True.intro⟩)
    (conv => whnf)
    (repeat' ((first
      | (exact absurd (by with_reducible assumption) Bool.false_ne_true)
      | ((with_reducible refine And.intro ?_ ?_); focus (first | with_reducible exact True.intro | ((with_reducible refine ⟨?_, ?_, ?_⟩) <;> first | (intro e he; rcases (by omega : e = 0 ∨ e = 1 ∨ e = 2 ∨ e = 3 ∨ e = 4 ∨ e = 5) with rfl | rfl | rfl | rfl | rfl | rfl <;> first | rfl | (exfalso; omega)) | (with_reducible assumption) | omega | ((with_reducible show growOk _ _); simp only [growOk, ty2, ty3, ty4, ty5, ty9, ty21, ty37, ty42, ty43, ty45, ty47, ty67, ty95, ty105, ty113, ty150, ty161, ty198, ty242, ty275, List.length_cons, List.length_nil]; first | omega | (refine ⟨?_, ?_⟩ <;> omega))) | omega | (simp only [inK_def, Go.Vc.lo, Go.Vc.hi]; omega) | (simp only [growOk, ty2, ty3, ty4, ty5, ty9, ty21, ty37, ty42, ty43, ty45, ty47, ty67, ty95, ty105, ty113, ty150, ty161, ty198, ty242, ty275]; first | omega | (refine ⟨?_, ?_⟩ <;> omega)) | decide))
      | (split <;> rename_i hh <;> (try simp only [ble_true, ble_false, beq_true, beq_false, sI_eq, sB_eq, sS_eq, sN_eq, ltI_eq, leI_eq, eqI_eq, decide_eq_true_eq, decide_eq_false_iff_not, beq_iff_eq, bne_iff_ne, ne_eq, beq_eq_false_iff_ne, bne_eq_false_iff_eq, Bool.not_eq_true, Bool.not_eq_false, Int.not_lt, Int.not_le, gt_iff_lt, ge_iff_le, Nat.not_lt, Nat.not_le, Decidable.not_not, Bool.not_eq_eq_eq_not, Bool.not_true, Bool.not_false, cond_true, cond_false, Bool.or_eq_true, Bool.and_eq_true, Bool.or_eq_false_iff, Bool.and_eq_false_iff] at hh) <;> (try simp (disch := omega) only [Int.tdiv_eq_ediv_of_nonneg, Int.tmod_eq_emod_of_nonneg] at hh))
      | with_reducible refine (fun (hln : (_ : Int) ≤ 9223372036854775807) => ?_)
      | fail) <;> (conv => whnf)))
    all_goals (try (show _ = _; simp only [sI_eq, sB_eq, sS_eq, sN_eq]))
    refine ⟨(partsC, [32]), ⟨jC_len, by decide⟩, ?_, ?_⟩
    · (conv => whnf)
      (repeat' ((first | with_reducible exact True.intro | ((with_reducible refine And.intro ?_ ?_); focus (first | with_reducible rfl | omega | exact Nat.le_of_ble_eq_true rfl | rfl)) | with_reducible refine And.intro (?_ : leA _ _ _) ?_ | fail) <;> (conv => whnf)))
      all_goals (try simp only [sI_eq, sB_eq, sS_eq, sN_eq])
      refine ⟨fun h => h, fun e he => ?_⟩
      change e < 4 at he
      rcases (by omega : e = 0 ∨ e = 1 ∨ e = 2 ∨ e = 3) with rfl | rfl | rfl | rfl <;> rfl
    (conv => whnf)
    all_goals (try (show _ = _; simp only [sI_eq, sB_eq, sS_eq, sN_eq]))
    all_goals exact jC_eq
  · (conv => whnf)
    all_goals (try (show _ = _; simp only [sI_eq, sB_eq, sS_eq, sN_eq]))
    refine ⟨true, True.intro, ?_, ?_⟩
    · (conv => whnf)
      (repeat' ((first | with_reducible exact True.intro | ((with_reducible refine And.intro ?_ ?_); focus (first | with_reducible rfl | omega | exact Nat.le_of_ble_eq_true rfl | rfl)) | with_reducible refine And.intro (?_ : leA _ _ _) ?_ | fail) <;> (conv => whnf)))
      all_goals (try simp only [sI_eq, sB_eq, sS_eq, sN_eq])
      all_goals (try first | exact ⟨fun h => h, fun _ _ => True.intro⟩)
    (conv => whnf)
    (repeat' ((first
      | (exact absurd (by with_reducible assumption) Bool.false_ne_true)
      | ((with_reducible refine And.intro ?_ ?_); focus (first | with_reducible exact True.intro | ((with_reducible show okB _ _ _ = true); rfl)))
      | (split <;> rename_i hh <;> (try simp only [ble_true, ble_false, beq_true, beq_false, sI_eq, sB_eq, sS_eq, sN_eq, ltI_eq, leI_eq, eqI_eq, decide_eq_true_eq, decide_eq_false_iff_not, beq_iff_eq, bne_iff_ne, ne_eq, beq_eq_false_iff_ne, bne_eq_false_iff_eq, Bool.not_eq_true, Bool.not_eq_false, Int.not_lt, Int.not_le, gt_iff_lt, ge_iff_le, Nat.not_lt, Nat.not_le, Decidable.not_not, Bool.not_eq_eq_eq_not, Bool.not_true, Bool.not_false, cond_true, cond_false, Bool.or_eq_true, Bool.and_eq_true, Bool.or_eq_false_iff, Bool.and_eq_false_iff] at hh) <;> (try simp (disch := omega) only [Int.tdiv_eq_ediv_of_nonneg, Int.tmod_eq_emod_of_nonneg] at hh))
      | fail) <;> (conv => whnf)))
    all_goals (try (show _ = _; simp only [sI_eq, sB_eq, sS_eq, sN_eq]))
    refine ⟨(), True.intro, ?_, ?_⟩
    · (conv => whnf)
      (repeat' ((first | with_reducible exact True.intro | ((with_reducible refine And.intro ?_ ?_); focus (first | with_reducible rfl | omega | exact Nat.le_of_ble_eq_true rfl | rfl)) | with_reducible refine And.intro (?_ : leA _ _ _) ?_ | fail) <;> (conv => whnf)))
      all_goals (try simp only [sI_eq, sB_eq, sS_eq, sN_eq])
      all_goals (try first | exact ⟨fun h => h, fun _ _ => True.intro⟩)
    (conv => whnf)
    (repeat' ((first
      | ((with_reducible refine And.intro ?_ ?_); focus (decide))
      | fail) <;> (conv => whnf)))
    all_goals (try (show _ = _; simp only [sI_eq, sB_eq, sS_eq, sN_eq]))
    refine ⟨(partsD, [32]), ⟨jD_len, by decide⟩, ?_, ?_⟩
    · (conv => whnf)
      (repeat' ((first | with_reducible exact True.intro | ((with_reducible refine And.intro ?_ ?_); focus (first | with_reducible rfl | omega | exact Nat.le_of_ble_eq_true rfl | rfl)) | with_reducible refine And.intro (?_ : leA _ _ _) ?_ | fail) <;> (conv => whnf)))
      all_goals (try simp only [sI_eq, sB_eq, sS_eq, sN_eq])
      refine ⟨fun h => h, fun e he => ?_⟩
      change e < 3 at he
      rcases (by omega : e = 0 ∨ e = 1 ∨ e = 2) with rfl | rfl | rfl <;> rfl
    (conv => whnf)
    all_goals (try (show _ = _; simp only [sI_eq, sB_eq, sS_eq, sN_eq]))
    all_goals exact jD_eq
end
end Go.Vc.Z

/- known(): true. -/
namespace Go.Vc.Z
open Go Go.Vc Go.Proofs Go.RowKit Go.Pl Go.Lib
def told0 : Told := ⟨⟨6, [], [], []⟩, 0, 0⟩
theorem lines0 : linesL told0 = [[111, 107, 32, 110, 111, 110, 101, 32, 48]] := by
  unfold linesL toldOk mayAnsB longB lineHd codeW
  rw [show Lib.itoa told0.came = [48] from itoa_one (n := 0) (by decide) (by decide)]
  rfl
noncomputable section
set_option maxRecDepth 100000
set_option linter.unusedSimpArgs false
set_option linter.unusedVariables false
attribute [local irreducible] inK Utf8.decode Utf8.encode Lib.itoa Pl.worth Pl.allDig
attribute [local irreducible] Lib.join
def pcKnown : PC := PC.fun fun | [] => some (True, .bool (sB true)) | _ => none
def D_couponlaw26_known : PT := tabD [(13, pcLines), (34, pcActL)]
def C_couponlaw26_known : FuncId → Option Ctr := tabC D_couponlaw26_known []
set_option maxHeartbeats 2000000 in
theorem g_couponlaw26_known {W : World} (hW : Tabs W) : GoodP (Fw W) Tryz.prog 12 pcKnown := by
  have hD : PTOk (Fw W) Tryz.prog D_couponlaw26_known := (tabD_cons Tryz.call13 (g_script_Lines hW) (tabD_cons Tryz.call34 (g_script_ActLine hW) tabD_nil))
  have hC0 : CtrOk (Fw W) Tryz.prog C_couponlaw26_known := (tabC_nil hD)
  refine goodP_fun (D := D_couponlaw26_known) (C := C_couponlaw26_known) (wr := (fun _ => false)) rfl tyOk hD hC0 Tryz.func12 (fun _ _ => none) ?_
  clear hC0 hD hW
  intro cs p r h hf hp
  split at h
  case h_2 => cases h
  skip
  cases h
  try simp only [factL, factA, inK_def, Go.Vc.lo, Go.Vc.hi, and_true] at hf
  have hl : (sL (linesL told0)).length = 1 := by rw [sL_eq, lines0]; rfl
  have hT : actLn true = [100, 111, 32, 48, 32, 105, 115, 115, 117, 101, 32, 107, 55, 32, 51, 32, 65, 66, 67, 50, 51, 52, 32, 55, 64, 57, 61, 49, 48, 46, 48, 48, 32, 45] := rfl
  have hC : actLn false = [99, 114, 97, 115, 104, 32, 49, 32, 52, 32, 45, 49] := rfl
  (conv => whnf)
  all_goals (try (show _ = _; simp only [sI_eq, sB_eq, sS_eq, sN_eq]))
  refine ⟨told0, True.intro, ?_, ?_⟩
  · (conv => whnf)
    (repeat' ((first | with_reducible exact True.intro | ((with_reducible refine And.intro ?_ ?_); focus (first | with_reducible rfl | omega | exact Nat.le_of_ble_eq_true rfl | rfl)) | with_reducible refine And.intro (?_ : leA _ _ _) ?_ | fail) <;> (conv => whnf)))
    all_goals (try simp only [sI_eq, sB_eq, sS_eq, sN_eq])
    all_goals (try first | rfl)
  (conv => whnf)
  (repeat' ((first
    | ((with_reducible refine And.intro ?_ ?_); focus (decide))
    | fail) <;> (conv => whnf)))
  all_goals (try (show _ = _; simp only [sI_eq, sB_eq, sS_eq, sN_eq]))
  refine ⟨true, True.intro, ?_, ?_⟩
  · (conv => whnf)
    (repeat' ((first | with_reducible exact True.intro | ((with_reducible refine And.intro ?_ ?_); focus (first | with_reducible rfl | omega | exact Nat.le_of_ble_eq_true rfl | rfl)) | with_reducible refine And.intro (?_ : leA _ _ _) ?_ | fail) <;> (conv => whnf)))
    all_goals (try simp only [sI_eq, sB_eq, sS_eq, sN_eq])
    exact ⟨fun h => h, fun e he => by obtain rfl : e = 0 := (by omega); rfl⟩
  (conv => whnf)
  (repeat' ((first
    | (exact absurd hT (by with_reducible assumption))
    | ((with_reducible refine And.intro ?_ ?_); focus (decide))
    | (split <;> rename_i hh <;> (try simp only [ble_true, ble_false, beq_true, beq_false, sI_eq, sB_eq, sS_eq, sN_eq, ltI_eq, leI_eq, eqI_eq, decide_eq_true_eq, decide_eq_false_iff_not, beq_iff_eq, bne_iff_ne, ne_eq, beq_eq_false_iff_ne, bne_eq_false_iff_eq, Bool.not_eq_true, Bool.not_eq_false, Int.not_lt, Int.not_le, gt_iff_lt, ge_iff_le, Nat.not_lt, Nat.not_le, Decidable.not_not, Bool.not_eq_eq_eq_not, Bool.not_true, Bool.not_false, cond_true, cond_false, Bool.or_eq_true, Bool.and_eq_true, Bool.or_eq_false_iff, Bool.and_eq_false_iff] at hh) <;> (try simp (disch := omega) only [Int.tdiv_eq_ediv_of_nonneg, Int.tmod_eq_emod_of_nonneg] at hh))
    | fail) <;> (conv => whnf)))
  all_goals (try (show _ = _; simp only [sI_eq, sB_eq, sS_eq, sN_eq]))
  refine ⟨false, True.intro, ?_, ?_⟩
  · (conv => whnf)
    (repeat' ((first | with_reducible exact True.intro | ((with_reducible refine And.intro ?_ ?_); focus (first | with_reducible rfl | omega | exact Nat.le_of_ble_eq_true rfl | rfl)) | with_reducible refine And.intro (?_ : leA _ _ _) ?_ | fail) <;> (conv => whnf)))
    all_goals (try simp only [sI_eq, sB_eq, sS_eq, sN_eq])
    exact ⟨fun h => h, fun e he => by rcases (by change e < 2 at he; omega : e = 0 ∨ e = 1) with rfl | rfl <;> rfl⟩
  (conv => whnf)
  (repeat' ((first
    | (exact absurd hC (by with_reducible assumption))
    | ((with_reducible refine And.intro ?_ ?_); focus (omega))
    | (split <;> rename_i hh <;> (try simp only [ble_true, ble_false, beq_true, beq_false, sI_eq, sB_eq, sS_eq, sN_eq, ltI_eq, leI_eq, eqI_eq, decide_eq_true_eq, decide_eq_false_iff_not, beq_iff_eq, bne_iff_ne, ne_eq, beq_eq_false_iff_ne, bne_eq_false_iff_eq, Bool.not_eq_true, Bool.not_eq_false, Int.not_lt, Int.not_le, gt_iff_lt, ge_iff_le, Nat.not_lt, Nat.not_le, Decidable.not_not, Bool.not_eq_eq_eq_not, Bool.not_true, Bool.not_false, cond_true, cond_false, Bool.or_eq_true, Bool.and_eq_true, Bool.or_eq_false_iff, Bool.and_eq_false_iff] at hh) <;> (try simp (disch := omega) only [Int.tdiv_eq_ediv_of_nonneg, Int.tmod_eq_emod_of_nonneg] at hh))
    | with_reducible refine (fun (hln : (_ : Int) ≤ 9223372036854775807) => ?_)
    | fail) <;> (conv => whnf)))
  all_goals (try (show _ = _; simp only [sI_eq, sB_eq, sS_eq, sN_eq]))
  all_goals first | (exfalso; omega) | (simp only [sL_eq, lines0]; rfl)
end
end Go.Vc.Z

/- The law ScriptTells: true. -/
namespace Go.Vc.Z
open Go Go.Vc Go.Proofs Go.RowKit Go.Pl Go.Lib
noncomputable section
set_option maxRecDepth 100000
set_option linter.unusedSimpArgs false
set_option linter.unusedVariables false
attribute [local irreducible] inK Utf8.decode Utf8.encode Lib.itoa Pl.worth Pl.allDig
attribute [local irreducible] Lib.join
def pcTells : PC := PC.of (fun x : Told × Int => [.agg x.1.enc, .int .i64 x.2]) (fun _ => True) (fun _ => .bool (sB true))
def LTells (x : Told × Int) : LoopSpec := {
  α := Nat
  keep := [1, 5, 6, 7]
  vals i := [.int .i64 x.2, slS (sL (linesL x.1)), slS (sL (linesL x.1)), .int .i64 i]
  heap _ := [.dead, .dead, .dead, .dead]
  ok i := i ≤ (sL (linesL x.1)).length
  μ i := (sL (linesL x.1)).length - i }
def D_couponlaw26_ScriptTells : PT := tabD [(11, pcMuchA), (12, pcKnown), (13, pcLines), (14, pcLines), (15, pcCodes), (16, pcCode)]
def C_couponlaw26_ScriptTells : FuncId → Option Ctr := tabC D_couponlaw26_ScriptTells []
def L_couponlaw26_ScriptTells : Told × Int → Nat → Option LR := fun x i => cond (Nat.beq i 7) (some (.inv (LTells x))) (none)
set_option maxHeartbeats 2000000 in
theorem g_couponlaw26_ScriptTells {W : World} (hW : Tabs W) : GoodP (Fw W) Tryz.prog 3 pcTells := by
  have hD : PTOk (Fw W) Tryz.prog D_couponlaw26_ScriptTells := (tabD_cons Tryz.call11 (g_couponref16_MuchAnswer hW) (tabD_cons Tryz.call12 (g_couponlaw26_known hW) (tabD_cons Tryz.call13 (g_script_Lines hW) (tabD_cons Tryz.call14 (g_couponref26_Lines hW) (tabD_cons Tryz.call15 (g_couponref26_Codes hW) (tabD_cons Tryz.call16 (g_script_Code hW) tabD_nil))))))
  have hC0 : ∀ x : Told × Int, CtrOk (Fw W) Tryz.prog (C_couponlaw26_ScriptTells) := fun x => (tabC_nil hD)
  refine goodP_ofC (D := D_couponlaw26_ScriptTells) (C := fun x => C_couponlaw26_ScriptTells) (wr := (fun _ => false)) rfl tyOk hD hC0 Tryz.func3 (L_couponlaw26_ScriptTells) (fun _ => rfl) ?_
  rintro ⟨t, code⟩ hf hp
  clear hf
  (conv => whnf)
  all_goals (try (show _ = _; simp only [sI_eq, sB_eq, sS_eq, sN_eq]))
  refine ⟨t.answer, True.intro, ?_, ?_⟩
  · (conv => whnf)
    (repeat' ((first | with_reducible exact True.intro | ((with_reducible refine And.intro ?_ ?_); focus (first | with_reducible rfl | omega | exact Nat.le_of_ble_eq_true rfl | rfl)) | with_reducible refine And.intro (?_ : leA _ _ _) ?_ | fail) <;> (conv => whnf)))
    all_goals (try simp only [sI_eq, sB_eq, sS_eq, sN_eq])
    all_goals (try first | exact ⟨fun h => h, fun _ _ => True.intro⟩)
  (conv => whnf)
  (repeat' ((first
    | ((with_reducible refine And.intro ?_ ?_); focus (with_reducible exact True.intro))
    | (split <;> rename_i hh <;> (try simp only [ble_true, ble_false, beq_true, beq_false, sI_eq, sB_eq, sS_eq, sN_eq, ltI_eq, leI_eq, eqI_eq, decide_eq_true_eq, decide_eq_false_iff_not, beq_iff_eq, bne_iff_ne, ne_eq, beq_eq_false_iff_ne, bne_eq_false_iff_eq, Bool.not_eq_true, Bool.not_eq_false, Int.not_lt, Int.not_le, gt_iff_lt, ge_iff_le, Nat.not_lt, Nat.not_le, Decidable.not_not, Bool.not_eq_eq_eq_not, Bool.not_true, Bool.not_false, cond_true, cond_false, Bool.or_eq_true, Bool.and_eq_true, Bool.or_eq_false_iff, Bool.and_eq_false_iff] at hh) <;> (try simp (disch := omega) only [Int.tdiv_eq_ediv_of_nonneg, Int.tmod_eq_emod_of_nonneg] at hh))
    | fail) <;> (conv => whnf)))
  all_goals (try (show _ = _; simp only [sI_eq, sB_eq, sS_eq, sN_eq]))
  refine ⟨t, True.intro, ?_, ?_⟩
  · (conv => whnf)
    (repeat' ((first | with_reducible exact True.intro | ((with_reducible refine And.intro ?_ ?_); focus (first | with_reducible rfl | omega | exact Nat.le_of_ble_eq_true rfl | rfl)) | with_reducible refine And.intro (?_ : leA _ _ _) ?_ | fail) <;> (conv => whnf)))
    all_goals (try simp only [sI_eq, sB_eq, sS_eq, sN_eq])
    all_goals (try first | exact ⟨fun h => h, fun _ _ => True.intro⟩)
  (conv => whnf)
  (repeat' ((first
    | ((with_reducible refine And.intro ?_ ?_); focus (((with_reducible show okB _ _ _ = true); rfl)))
    | fail) <;> (conv => whnf)))
  all_goals (try (show _ = _; simp only [sI_eq, sB_eq, sS_eq, sN_eq]))
  refine ⟨t, True.intro, ?_, ?_⟩
  · (conv => whnf)
    (repeat' ((first | with_reducible exact True.intro | ((with_reducible refine And.intro ?_ ?_); focus (first | with_reducible rfl | omega | exact Nat.le_of_ble_eq_true rfl | rfl)) | with_reducible refine And.intro (?_ : leA _ _ _) ?_ | fail) <;> (conv => whnf)))
    all_goals (try simp only [sI_eq, sB_eq, sS_eq, sN_eq])
    all_goals (try first | exact ⟨fun h => h, fun _ _ => True.intro⟩)
  (conv => whnf)
  (repeat' ((first
    | (exact absurd True.intro (by with_reducible assumption))
    | (split <;> rename_i hh <;> (try simp only [ble_true, ble_false, beq_true, beq_false, sI_eq, sB_eq, sS_eq, sN_eq, ltI_eq, leI_eq, eqI_eq, decide_eq_true_eq, decide_eq_false_iff_not, beq_iff_eq, bne_iff_ne, ne_eq, beq_eq_false_iff_ne, bne_eq_false_iff_eq, Bool.not_eq_true, Bool.not_eq_false, Int.not_lt, Int.not_le, gt_iff_lt, ge_iff_le, Nat.not_lt, Nat.not_le, Decidable.not_not, Bool.not_eq_eq_eq_not, Bool.not_true, Bool.not_false, cond_true, cond_false, Bool.or_eq_true, Bool.and_eq_true, Bool.or_eq_false_iff, Bool.and_eq_false_iff] at hh) <;> (try simp (disch := omega) only [Int.tdiv_eq_ediv_of_nonneg, Int.tmod_eq_emod_of_nonneg] at hh))
    | with_reducible refine (fun (hln : (_ : Int) ≤ 9223372036854775807) => ?_)
    | fail) <;> (conv => whnf)))
  all_goals (try (show _ = _; simp only [sI_eq, sB_eq, sS_eq, sN_eq]))
  refine ⟨?_, fun (i : Nat) (hi : i ≤ (sL (linesL t)).length) => ?_⟩
  · (conv => whnf)
    refine ⟨(0 : Nat), [], ?_, ⟨⟨rfl, Nat.le_of_ble_eq_true rfl, rfl⟩, ?_, ?_⟩⟩
    · exact Nat.zero_le _
    · (conv => whnf)
      (repeat' ((first | with_reducible exact True.intro | ((with_reducible refine And.intro ?_ ?_); focus (first | with_reducible rfl | omega | exact Nat.le_of_ble_eq_true rfl | rfl)) | with_reducible refine And.intro (?_ : leA _ _ _) ?_ | fail) <;> (conv => whnf)))
      all_goals (try simp only [sI_eq, sB_eq, sS_eq, sN_eq])
      all_goals (try first | omega | exact ⟨fun h => h, fun _ _ => True.intro⟩)
    · (conv => whnf)
      (repeat' ((first | with_reducible exact True.intro | fail) <;> (conv => whnf)))
      all_goals (try simp only [sI_eq, sB_eq, sS_eq, sN_eq])
  · have hc : codeW code = if 0 ≤ code ∧ code ≤ 17 then codesL.getD code.toNat [] else [] := by unfold codeW; rfl
    (conv => whnf)
    (repeat' ((first
      | (exact absurd True.intro (by with_reducible assumption))
      | ((with_reducible refine And.intro ?_ ?_); focus (first | with_reducible exact True.intro | ((with_reducible show okB _ _ _ = true); rfl) | omega | ((with_reducible refine ⟨?_, ?_⟩) <;> first | with_reducible assumption | omega) | (simp only [inK_def, Go.Vc.lo, Go.Vc.hi]; omega)))
      | (split <;> rename_i hh <;> (try simp only [ble_true, ble_false, beq_true, beq_false, sI_eq, sB_eq, sS_eq, sN_eq, ltI_eq, leI_eq, eqI_eq, decide_eq_true_eq, decide_eq_false_iff_not, beq_iff_eq, bne_iff_ne, ne_eq, beq_eq_false_iff_ne, bne_eq_false_iff_eq, Bool.not_eq_true, Bool.not_eq_false, Int.not_lt, Int.not_le, gt_iff_lt, ge_iff_le, Nat.not_lt, Nat.not_le, Decidable.not_not, Bool.not_eq_eq_eq_not, Bool.not_true, Bool.not_false, cond_true, cond_false, Bool.or_eq_true, Bool.and_eq_true, Bool.or_eq_false_iff, Bool.and_eq_false_iff] at hh) <;> (try simp (disch := omega) only [Int.tdiv_eq_ediv_of_nonneg, Int.tmod_eq_emod_of_nonneg] at hh))
      | with_reducible refine (fun (hln : (_ : Int) ≤ 9223372036854775807) => ?_)
      | fail) <;> (conv => whnf)))
    all_goals (try (show _ = _; simp only [sI_eq, sB_eq, sS_eq, sN_eq]))
    all_goals try (
      (conv => whnf)
      refine ⟨(i + 1 : Nat), [], ?_, ⟨⟨rfl, Nat.le_of_ble_eq_true rfl, rfl⟩, ?_, ?_⟩⟩
      · exact ⟨show i + 1 ≤ (sL (linesL t)).length by omega, show (sL (linesL t)).length - (i + 1) < (sL (linesL t)).length - i by omega⟩
      · (conv => whnf)
        (repeat' ((first | with_reducible exact True.intro | ((with_reducible refine And.intro ?_ ?_); focus (first | with_reducible rfl | omega | exact Nat.le_of_ble_eq_true rfl | rfl)) | with_reducible refine And.intro (?_ : leA _ _ _) ?_ | fail) <;> (conv => whnf)))
        all_goals (try simp only [sI_eq, sB_eq, sS_eq, sN_eq])
        all_goals (try first | omega | exact ⟨fun h => h, fun _ _ => True.intro⟩)
      · (conv => whnf)
        (repeat' ((first | with_reducible exact True.intro | fail) <;> (conv => whnf)))
        all_goals (try simp only [sI_eq, sB_eq, sS_eq, sN_eq])
      done)
    all_goals first | rfl | (rw [if_pos (by omega)] at hc; exact absurd hc (by assumption)) | (rw [if_neg (by omega)] at hc; exact absurd hc (by assumption))
end
end Go.Vc.Z
