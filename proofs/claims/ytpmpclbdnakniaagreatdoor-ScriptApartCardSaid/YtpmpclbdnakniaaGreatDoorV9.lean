/- Requests: may the one be that is looked at in each statement? -/
import Derived.Test.YtpmpclbdnakniaaGreatDoorV8
set_option linter.all false
set_option linter.unusedVariables false
set_option linter.unusedSimpArgs false
namespace Go.Vc.Z
open Go Go.Vc Go.Proofs Go.RowKit Go.Pl Go.Lib
noncomputable section
set_option maxRecDepth 100000
set_option linter.unusedSimpArgs false
set_option linter.unusedVariables false
attribute [local irreducible] inK Utf8.decode Utf8.encode Lib.itoa Pl.worth Pl.allDig
attribute [local irreducible] Lib.join
def isKey (c : UInt8) : Bool := (decide (97 ≤ c.toNat) && decide (c.toNat ≤ 122)) || (decide (48 ≤ c.toNat) && decide (c.toNat ≤ 57))
theorem isKey_iff {c : UInt8} : isKey c = true ↔ (97 ≤ c.toNat ∧ c.toNat ≤ 122) ∨ (48 ≤ c.toNat ∧ c.toNat ≤ 57) := by simp [isKey]
@[irreducible] def keyB (s : List UInt8) : Bool := s.all isKey && decide (1 ≤ s.length) && decide (s.length ≤ 16)
def pcMayKey : PC := PC.fun fun | [.str s] => some (True, .bool (sB (keyB s))) | _ => none
def LKey (s : List UInt8) : LoopSpec := {
  α := Nat
  keep := [0, 6]
  vals i := [.str s, .iter 0]
  heap i := [.iter s i]
  ok i := i ≤ s.length ∧ (s.take i).all isKey = true
  μ i := s.length - i }
def D_request_MayKey : PT := tabD []
def C_request_MayKey : FuncId → Option Ctr := tabC D_request_MayKey []
def L_request_MayKey : List AV → Nat → Option LR := fun cs i => match cs with | [.str s] => cond (Nat.beq i 2) (some (.inv (LKey s))) (none) | _ => none
theorem g_request_MayKey {W : World} (hW : Tabs W) : GoodP (Fw W) Tryz.prog 275 pcMayKey := by
  have hD : PTOk (Fw W) Tryz.prog D_request_MayKey := tabD_nil
  have hC0 : CtrOk (Fw W) Tryz.prog C_request_MayKey := (tabC_nil hD)
  refine goodP_fun (D := D_request_MayKey) (C := C_request_MayKey) (wr := (fun _ => false)) rfl tyOk hD hC0 Tryz.func275 (L_request_MayKey) ?_
  clear hC0 hD hW
  intro cs p r h hf hp
  split at h
  case h_2 => cases h
  rename_i s
  cases h
  try simp only [factL, factA, inK_def, Go.Vc.lo, Go.Vc.hi, and_true] at hf
  (conv => whnf)
  all_goals (try (show _ = _; simp only [wQ]))
  refine ⟨?_, fun (i : Nat) (hi : i ≤ s.length ∧ (s.take i).all isKey = true) => ?_⟩
  · (conv => whnf)
    refine ⟨(0 : Nat), [], ?_, ⟨⟨rfl, Nat.le_of_ble_eq_true rfl, rfl⟩, ?_, ?_⟩⟩
    · exact ⟨Nat.zero_le _, by simp⟩
    · (conv => whnf)
      (repeat' ((first | with_reducible exact True.intro | ((with_reducible refine And.intro ?_ ?_); focus (first | with_reducible rfl | omega | exact Nat.le_of_ble_eq_true rfl | rfl)) | fail) <;> (conv => whnf)))
      all_goals (try simp only [wQ])
    · (conv => whnf)
      (repeat' ((first | with_reducible exact True.intro | ((with_reducible refine And.intro ?_ ?_); focus (first | with_reducible rfl | omega | exact Nat.le_of_ble_eq_true rfl | rfl)) | with_reducible refine And.intro (?_ : leBlk _ _ _ _) ?_ | fail) <;> (conv => whnf)))
      all_goals (try simp only [wQ])
  · obtain ⟨h1, h2⟩ := hi
    have hk : i < s.length → ((97 ≤ runeAt s i ∧ runeAt s i ≤ 122) ∨ (48 ≤ runeAt s i ∧ runeAt s i ≤ 57)) → isKey (s.getD i 0) = true ∧ runeW s i = 1 := fun h hc => by
      rcases rune_cases h with ⟨h6, h7, h8⟩ | ⟨h6, h7⟩
      · exact ⟨isKey_iff.2 (by omega), h7⟩
      · omega
    have hn : i < s.length → ¬ ((97 ≤ runeAt s i ∧ runeAt s i ≤ 122) ∨ (48 ≤ runeAt s i ∧ runeAt s i ≤ 57)) → keyB s = false := fun h hc => by
      unfold keyB
      rw [not_all_of h (by
        rcases rune_cases h with ⟨h6, h7, h8⟩ | ⟨h6, h7⟩
        · exact Bool.eq_false_iff.2 fun h => by have := isKey_iff.1 h; omega
        · exact Bool.eq_false_iff.2 fun h => by have := isKey_iff.1 h; omega)]
      rfl
    have hst := all_take_succ (p := isKey) (l := s) (i := i)
    have hfin : s.length ≤ i → keyB s = (decide (1 ≤ s.length) && decide (s.length ≤ 16)) := fun h => by
      rw [List.take_of_length_le h] at h2
      unfold keyB; rw [h2, Bool.true_and]
    (conv => whnf)
    (repeat' ((first
      | (split <;> rename_i hh <;> (try simp only [wS] at hh) <;> (try simp (disch := omega) only [Int.tdiv_eq_ediv_of_nonneg, Int.tmod_eq_emod_of_nonneg] at hh))
      | with_reducible refine (fun (hln : (_ : Int) ≤ 9223372036854775807) => ?_)
      | fail) <;> (conv => whnf)))
    all_goals (try (show _ = _; simp only [wQ]))
    all_goals try (rw [hn (by omega) (by omega)]; done)
    all_goals try (
      obtain ⟨h6, h7⟩ := hk (by omega) (by omega)
      (conv => whnf)
      refine ⟨(i + 1 : Nat), [], ?_, ⟨⟨rfl, Nat.le_of_ble_eq_true rfl, rfl⟩, ?_, ?_⟩⟩
      · exact ⟨⟨show i + 1 ≤ s.length by omega, by rw [hst (by omega), h2, h6]; rfl⟩, show s.length - (i + 1) < s.length - i by omega⟩
      · (conv => whnf)
        (repeat' ((first | with_reducible exact True.intro | ((with_reducible refine And.intro ?_ ?_); focus (first | with_reducible rfl | omega | exact Nat.le_of_ble_eq_true rfl | rfl)) | fail) <;> (conv => whnf)))
        all_goals (try simp only [wQ])
      · (conv => whnf)
        (repeat' ((first | with_reducible exact True.intro | ((with_reducible refine And.intro ?_ ?_); focus (first | with_reducible rfl | omega | exact Nat.le_of_ble_eq_true rfl | rfl)) | with_reducible refine And.intro (?_ : leBlk _ _ _ _) ?_ | fail) <;> (conv => whnf)))
        all_goals (try simp only [wQ])
        all_goals (try first | omega)
        all_goals (rw [h7])
      done)
    all_goals (rw [hfin (by omega)]; first | (rw [leI_eq, decide_eq_true (show 1 ≤ s.length by omega), Bool.true_and]; exact decide_eq_decide.2 ⟨fun h => by omega, fun h => by omega⟩) | (rw [decide_eq_false (show ¬ 1 ≤ s.length by omega)]; rfl))
theorem keyB_k7 : keyB [107, 55] = true := by unfold keyB; decide
theorem locOk_abc : locOk [65, 66, 67, 50, 51, 52] = true := by unfold locOk; decide
theorem eqA_bare {k f d u st m g j k' f' d' u' st' m' g' j' : Int} {a b a' b' : List UInt8} : eqA TY 12 244 (.agg [.int .i64 k, .str a, .str b, .int .i64 f, .int .i64 d, .int .u64 u, .int .i64 st, .int .i64 m, .int .i64 g, .int .i64 j]) (.agg [.int .i64 k', .str a', .str b', .int .i64 f', .int .i64 d', .int .u64 u', .int .i64 st', .int .i64 m', .int .i64 g', .int .i64 j']) = some (k == k' && (a == a' && (b == b' && (f == f' && (d == d' && (u == u' && (st == st' && (m == m' && (g == g' && (j == j')))))))))) := by
  have e244 : TY 244 = some ty244 := rfl
  have e54 : TY 54 = some ty54 := rfl
  have e9 : TY 9 = some ty9 := rfl
  have e3 : TY 3 = some ty3 := rfl
  have e2 : TY 2 = some ty2 := rfl
  have e43 : TY 43 = some ty43 := rfl
  have e37 : TY 37 = some ty37 := rfl
  simp [eqA, eqFs, e244, e54, e9, e3, e2, e43, e37, ty244, ty54, ty9, ty3, ty2, ty43, ty37, loadA, eqI_eq]
theorem optP_bare {k f d u st m g j k' f' d' u' st' m' g' j' : Int} {a b a' b' : List UInt8} {N : Bool → Prop} (hN : N (k == k' && (a == a' && (b == b' && (f == f' && (d == d' && (u == u' && (st == st' && (m == m' && (g == g' && (j == j'))))))))))) : optP (eqA TY 12 244 (.agg [.int .i64 k, .str a, .str b, .int .i64 f, .int .i64 d, .int .u64 u, .int .i64 st, .int .i64 m, .int .i64 g, .int .i64 j]) (.agg [.int .i64 k', .str a', .str b', .int .i64 f', .int .i64 d', .int .u64 u', .int .i64 st', .int .i64 m', .int .i64 g', .int .i64 j'])) N := by
  rw [eqA_bare]; exact hN
def c7 : Coupon := ⟨7, 9, 1000, 0, 0, 0⟩
abbrev reqI : AV := .agg [.str [107, 55], .int .i64 1, .int .i64 3, .int .u64 0, .int .i64 0, .int .i64 0, .str [65, 66, 67, 50, 51, 52], slE 6 Coupon.enc [c7], .nilsl, .int .i64 0, .int .i64 0, .int .i64 0]
def pcMayI : PC := PC.of (fun _ : Unit => [reqI]) (fun _ => True) (fun _ => .bool (sB true))
def D_request_May : PT := tabD [(275, pcMayKey), (195, pcLocator)]
def C_request_May : FuncId → Option Ctr := tabC D_request_May []
def C1_request_May (u : Unit) : FuncId → Option Ctr := tabC D_request_May [(298, inl TY (C_request_May) D_request_May (fun _ => false) (fun _ _ _ => none) Tryz.f298)]
def C2_request_May (u : Unit) : FuncId → Option Ctr := tabC D_request_May [(260, inl TY (C1_request_May u) D_request_May (fun _ => false) (fun _ _ _ => none) Tryz.f260), (298, inl TY (C_request_May) D_request_May (fun _ => false) (fun _ _ _ => none) Tryz.f298)]
def C3_request_May (u : Unit) : FuncId → Option Ctr := tabC D_request_May [(273, inl TY (C2_request_May u) D_request_May (fun _ => false) (fun _ _ _ => none) Tryz.f273), (260, inl TY (C1_request_May u) D_request_May (fun _ => false) (fun _ _ _ => none) Tryz.f260), (298, inl TY (C_request_May) D_request_May (fun _ => false) (fun _ _ _ => none) Tryz.f298)]
def C4_request_May (u : Unit) : FuncId → Option Ctr := tabC D_request_May [(276, inl TY (C3_request_May u) D_request_May (fun _ => false) (fun _ _ _ => none) Tryz.f276), (273, inl TY (C2_request_May u) D_request_May (fun _ => false) (fun _ _ _ => none) Tryz.f273), (260, inl TY (C1_request_May u) D_request_May (fun _ => false) (fun _ _ _ => none) Tryz.f260), (298, inl TY (C_request_May) D_request_May (fun _ => false) (fun _ _ _ => none) Tryz.f298)]
def C5_request_May (u : Unit) : FuncId → Option Ctr := tabC D_request_May [(279, inl TY (C4_request_May u) D_request_May (fun _ => false) (fun _ _ _ => none) Tryz.f279), (276, inl TY (C3_request_May u) D_request_May (fun _ => false) (fun _ _ _ => none) Tryz.f276), (273, inl TY (C2_request_May u) D_request_May (fun _ => false) (fun _ _ _ => none) Tryz.f273), (260, inl TY (C1_request_May u) D_request_May (fun _ => false) (fun _ _ _ => none) Tryz.f260), (298, inl TY (C_request_May) D_request_May (fun _ => false) (fun _ _ _ => none) Tryz.f298)]
def C6_request_May (u : Unit) : FuncId → Option Ctr := tabC D_request_May [(258, inl TY (C5_request_May u) D_request_May (fun _ => false) (fun _ _ _ => none) Tryz.f258), (279, inl TY (C4_request_May u) D_request_May (fun _ => false) (fun _ _ _ => none) Tryz.f279), (276, inl TY (C3_request_May u) D_request_May (fun _ => false) (fun _ _ _ => none) Tryz.f276), (273, inl TY (C2_request_May u) D_request_May (fun _ => false) (fun _ _ _ => none) Tryz.f273), (260, inl TY (C1_request_May u) D_request_May (fun _ => false) (fun _ _ _ => none) Tryz.f260), (298, inl TY (C_request_May) D_request_May (fun _ => false) (fun _ _ _ => none) Tryz.f298)]
def C7_request_May (u : Unit) : FuncId → Option Ctr := tabC D_request_May [(274, inl TY (C6_request_May u) D_request_May (fun _ => false) (fun _ _ _ => none) Tryz.f274), (258, inl TY (C5_request_May u) D_request_May (fun _ => false) (fun _ _ _ => none) Tryz.f258), (279, inl TY (C4_request_May u) D_request_May (fun _ => false) (fun _ _ _ => none) Tryz.f279), (276, inl TY (C3_request_May u) D_request_May (fun _ => false) (fun _ _ _ => none) Tryz.f276), (273, inl TY (C2_request_May u) D_request_May (fun _ => false) (fun _ _ _ => none) Tryz.f273), (260, inl TY (C1_request_May u) D_request_May (fun _ => false) (fun _ _ _ => none) Tryz.f260), (298, inl TY (C_request_May) D_request_May (fun _ => false) (fun _ _ _ => none) Tryz.f298)]
def C8_request_May (u : Unit) : FuncId → Option Ctr := tabC D_request_May [(278, inl TY (C7_request_May u) D_request_May (fun _ => false) (fun _ _ _ => none) Tryz.f278), (274, inl TY (C6_request_May u) D_request_May (fun _ => false) (fun _ _ _ => none) Tryz.f274), (258, inl TY (C5_request_May u) D_request_May (fun _ => false) (fun _ _ _ => none) Tryz.f258), (279, inl TY (C4_request_May u) D_request_May (fun _ => false) (fun _ _ _ => none) Tryz.f279), (276, inl TY (C3_request_May u) D_request_May (fun _ => false) (fun _ _ _ => none) Tryz.f276), (273, inl TY (C2_request_May u) D_request_May (fun _ => false) (fun _ _ _ => none) Tryz.f273), (260, inl TY (C1_request_May u) D_request_May (fun _ => false) (fun _ _ _ => none) Tryz.f260), (298, inl TY (C_request_May) D_request_May (fun _ => false) (fun _ _ _ => none) Tryz.f298)]
def C9_request_May (u : Unit) : FuncId → Option Ctr := tabC D_request_May [(305, inl TY (C8_request_May u) D_request_May (fun _ => false) (fun _ _ _ => none) Tryz.f305), (278, inl TY (C7_request_May u) D_request_May (fun _ => false) (fun _ _ _ => none) Tryz.f278), (274, inl TY (C6_request_May u) D_request_May (fun _ => false) (fun _ _ _ => none) Tryz.f274), (258, inl TY (C5_request_May u) D_request_May (fun _ => false) (fun _ _ _ => none) Tryz.f258), (279, inl TY (C4_request_May u) D_request_May (fun _ => false) (fun _ _ _ => none) Tryz.f279), (276, inl TY (C3_request_May u) D_request_May (fun _ => false) (fun _ _ _ => none) Tryz.f276), (273, inl TY (C2_request_May u) D_request_May (fun _ => false) (fun _ _ _ => none) Tryz.f273), (260, inl TY (C1_request_May u) D_request_May (fun _ => false) (fun _ _ _ => none) Tryz.f260), (298, inl TY (C_request_May) D_request_May (fun _ => false) (fun _ _ _ => none) Tryz.f298)]
def LI10_request_May (u : Unit) : List AV → List Blk → Nat → Option LR := fun cs H i => cond (Nat.beq i 0) (some (.order [0, 1, 2, 3, 4, 5, 6, 7, 8, 9, 10, 11, 12, 13, 14, 15, 16, 17, 18])) (cond (Nat.beq i 6) (some (.order [0, 1, 2, 3, 4, 5, 6, 7, 8, 9, 10, 11, 12, 13, 14, 15])) ((fun _ _ i => cond (Nat.beq i 2) (some (.unroll 2)) none) cs H i))
def C10_request_May (u : Unit) : FuncId → Option Ctr := tabC D_request_May [(277, inl TY (C9_request_May u) D_request_May (fun _ => false) (LI10_request_May u) Tryz.f277), (305, inl TY (C8_request_May u) D_request_May (fun _ => false) (fun _ _ _ => none) Tryz.f305), (278, inl TY (C7_request_May u) D_request_May (fun _ => false) (fun _ _ _ => none) Tryz.f278), (274, inl TY (C6_request_May u) D_request_May (fun _ => false) (fun _ _ _ => none) Tryz.f274), (258, inl TY (C5_request_May u) D_request_May (fun _ => false) (fun _ _ _ => none) Tryz.f258), (279, inl TY (C4_request_May u) D_request_May (fun _ => false) (fun _ _ _ => none) Tryz.f279), (276, inl TY (C3_request_May u) D_request_May (fun _ => false) (fun _ _ _ => none) Tryz.f276), (273, inl TY (C2_request_May u) D_request_May (fun _ => false) (fun _ _ _ => none) Tryz.f273), (260, inl TY (C1_request_May u) D_request_May (fun _ => false) (fun _ _ _ => none) Tryz.f260), (298, inl TY (C_request_May) D_request_May (fun _ => false) (fun _ _ _ => none) Tryz.f298)]
def LI11_request_May (u : Unit) : List AV → List Blk → Nat → Option LR := fun cs H i => cond (Nat.beq i 0) (some (.order [0, 1, 2, 3, 4, 5, 6, 7, 8, 9, 10, 11, 12, 13, 14, 15, 16, 17])) ((fun _ _ i => cond (Nat.beq i 3) (some (.unroll 1)) none) cs H i)
def C11_request_May (u : Unit) : FuncId → Option Ctr := tabC D_request_May [(229, inl TY (C10_request_May u) D_request_May (fun _ => false) (LI11_request_May u) Tryz.f229), (277, inl TY (C9_request_May u) D_request_May (fun _ => false) (LI10_request_May u) Tryz.f277), (305, inl TY (C8_request_May u) D_request_May (fun _ => false) (fun _ _ _ => none) Tryz.f305), (278, inl TY (C7_request_May u) D_request_May (fun _ => false) (fun _ _ _ => none) Tryz.f278), (274, inl TY (C6_request_May u) D_request_May (fun _ => false) (fun _ _ _ => none) Tryz.f274), (258, inl TY (C5_request_May u) D_request_May (fun _ => false) (fun _ _ _ => none) Tryz.f258), (279, inl TY (C4_request_May u) D_request_May (fun _ => false) (fun _ _ _ => none) Tryz.f279), (276, inl TY (C3_request_May u) D_request_May (fun _ => false) (fun _ _ _ => none) Tryz.f276), (273, inl TY (C2_request_May u) D_request_May (fun _ => false) (fun _ _ _ => none) Tryz.f273), (260, inl TY (C1_request_May u) D_request_May (fun _ => false) (fun _ _ _ => none) Tryz.f260), (298, inl TY (C_request_May) D_request_May (fun _ => false) (fun _ _ _ => none) Tryz.f298)]
def C12_request_May (u : Unit) : FuncId → Option Ctr := tabC D_request_May [(225, inl TY (C11_request_May u) D_request_May (fun _ => false) (fun _ _ _ => none) Tryz.f225), (229, inl TY (C10_request_May u) D_request_May (fun _ => false) (LI11_request_May u) Tryz.f229), (277, inl TY (C9_request_May u) D_request_May (fun _ => false) (LI10_request_May u) Tryz.f277), (305, inl TY (C8_request_May u) D_request_May (fun _ => false) (fun _ _ _ => none) Tryz.f305), (278, inl TY (C7_request_May u) D_request_May (fun _ => false) (fun _ _ _ => none) Tryz.f278), (274, inl TY (C6_request_May u) D_request_May (fun _ => false) (fun _ _ _ => none) Tryz.f274), (258, inl TY (C5_request_May u) D_request_May (fun _ => false) (fun _ _ _ => none) Tryz.f258), (279, inl TY (C4_request_May u) D_request_May (fun _ => false) (fun _ _ _ => none) Tryz.f279), (276, inl TY (C3_request_May u) D_request_May (fun _ => false) (fun _ _ _ => none) Tryz.f276), (273, inl TY (C2_request_May u) D_request_May (fun _ => false) (fun _ _ _ => none) Tryz.f273), (260, inl TY (C1_request_May u) D_request_May (fun _ => false) (fun _ _ _ => none) Tryz.f260), (298, inl TY (C_request_May) D_request_May (fun _ => false) (fun _ _ _ => none) Tryz.f298)]
def C13_request_May (u : Unit) : FuncId → Option Ctr := tabC D_request_May [(226, inl TY (C12_request_May u) D_request_May (fun _ => false) (fun _ _ _ => none) Tryz.f226), (225, inl TY (C11_request_May u) D_request_May (fun _ => false) (fun _ _ _ => none) Tryz.f225), (229, inl TY (C10_request_May u) D_request_May (fun _ => false) (LI11_request_May u) Tryz.f229), (277, inl TY (C9_request_May u) D_request_May (fun _ => false) (LI10_request_May u) Tryz.f277), (305, inl TY (C8_request_May u) D_request_May (fun _ => false) (fun _ _ _ => none) Tryz.f305), (278, inl TY (C7_request_May u) D_request_May (fun _ => false) (fun _ _ _ => none) Tryz.f278), (274, inl TY (C6_request_May u) D_request_May (fun _ => false) (fun _ _ _ => none) Tryz.f274), (258, inl TY (C5_request_May u) D_request_May (fun _ => false) (fun _ _ _ => none) Tryz.f258), (279, inl TY (C4_request_May u) D_request_May (fun _ => false) (fun _ _ _ => none) Tryz.f279), (276, inl TY (C3_request_May u) D_request_May (fun _ => false) (fun _ _ _ => none) Tryz.f276), (273, inl TY (C2_request_May u) D_request_May (fun _ => false) (fun _ _ _ => none) Tryz.f273), (260, inl TY (C1_request_May u) D_request_May (fun _ => false) (fun _ _ _ => none) Tryz.f260), (298, inl TY (C_request_May) D_request_May (fun _ => false) (fun _ _ _ => none) Tryz.f298)]
def C14_request_May (u : Unit) : FuncId → Option Ctr := tabC D_request_May [(227, inl TY (C13_request_May u) D_request_May (fun _ => false) (fun _ _ _ => none) Tryz.f227), (226, inl TY (C12_request_May u) D_request_May (fun _ => false) (fun _ _ _ => none) Tryz.f226), (225, inl TY (C11_request_May u) D_request_May (fun _ => false) (fun _ _ _ => none) Tryz.f225), (229, inl TY (C10_request_May u) D_request_May (fun _ => false) (LI11_request_May u) Tryz.f229), (277, inl TY (C9_request_May u) D_request_May (fun _ => false) (LI10_request_May u) Tryz.f277), (305, inl TY (C8_request_May u) D_request_May (fun _ => false) (fun _ _ _ => none) Tryz.f305), (278, inl TY (C7_request_May u) D_request_May (fun _ => false) (fun _ _ _ => none) Tryz.f278), (274, inl TY (C6_request_May u) D_request_May (fun _ => false) (fun _ _ _ => none) Tryz.f274), (258, inl TY (C5_request_May u) D_request_May (fun _ => false) (fun _ _ _ => none) Tryz.f258), (279, inl TY (C4_request_May u) D_request_May (fun _ => false) (fun _ _ _ => none) Tryz.f279), (276, inl TY (C3_request_May u) D_request_May (fun _ => false) (fun _ _ _ => none) Tryz.f276), (273, inl TY (C2_request_May u) D_request_May (fun _ => false) (fun _ _ _ => none) Tryz.f273), (260, inl TY (C1_request_May u) D_request_May (fun _ => false) (fun _ _ _ => none) Tryz.f260), (298, inl TY (C_request_May) D_request_May (fun _ => false) (fun _ _ _ => none) Tryz.f298)]
def C15_request_May (u : Unit) : FuncId → Option Ctr := tabC D_request_May [(228, inl TY (C14_request_May u) D_request_May (fun _ => false) (fun _ _ _ => none) Tryz.f228), (227, inl TY (C13_request_May u) D_request_May (fun _ => false) (fun _ _ _ => none) Tryz.f227), (226, inl TY (C12_request_May u) D_request_May (fun _ => false) (fun _ _ _ => none) Tryz.f226), (225, inl TY (C11_request_May u) D_request_May (fun _ => false) (fun _ _ _ => none) Tryz.f225), (229, inl TY (C10_request_May u) D_request_May (fun _ => false) (LI11_request_May u) Tryz.f229), (277, inl TY (C9_request_May u) D_request_May (fun _ => false) (LI10_request_May u) Tryz.f277), (305, inl TY (C8_request_May u) D_request_May (fun _ => false) (fun _ _ _ => none) Tryz.f305), (278, inl TY (C7_request_May u) D_request_May (fun _ => false) (fun _ _ _ => none) Tryz.f278), (274, inl TY (C6_request_May u) D_request_May (fun _ => false) (fun _ _ _ => none) Tryz.f274), (258, inl TY (C5_request_May u) D_request_May (fun _ => false) (fun _ _ _ => none) Tryz.f258), (279, inl TY (C4_request_May u) D_request_May (fun _ => false) (fun _ _ _ => none) Tryz.f279), (276, inl TY (C3_request_May u) D_request_May (fun _ => false) (fun _ _ _ => none) Tryz.f276), (273, inl TY (C2_request_May u) D_request_May (fun _ => false) (fun _ _ _ => none) Tryz.f273), (260, inl TY (C1_request_May u) D_request_May (fun _ => false) (fun _ _ _ => none) Tryz.f260), (298, inl TY (C_request_May) D_request_May (fun _ => false) (fun _ _ _ => none) Tryz.f298)]
def C16_request_May (u : Unit) : FuncId → Option Ctr := tabC D_request_May [(164, inl TY (C15_request_May u) D_request_May (fun _ => false) (fun _ _ _ => none) Tryz.f164), (228, inl TY (C14_request_May u) D_request_May (fun _ => false) (fun _ _ _ => none) Tryz.f228), (227, inl TY (C13_request_May u) D_request_May (fun _ => false) (fun _ _ _ => none) Tryz.f227), (226, inl TY (C12_request_May u) D_request_May (fun _ => false) (fun _ _ _ => none) Tryz.f226), (225, inl TY (C11_request_May u) D_request_May (fun _ => false) (fun _ _ _ => none) Tryz.f225), (229, inl TY (C10_request_May u) D_request_May (fun _ => false) (LI11_request_May u) Tryz.f229), (277, inl TY (C9_request_May u) D_request_May (fun _ => false) (LI10_request_May u) Tryz.f277), (305, inl TY (C8_request_May u) D_request_May (fun _ => false) (fun _ _ _ => none) Tryz.f305), (278, inl TY (C7_request_May u) D_request_May (fun _ => false) (fun _ _ _ => none) Tryz.f278), (274, inl TY (C6_request_May u) D_request_May (fun _ => false) (fun _ _ _ => none) Tryz.f274), (258, inl TY (C5_request_May u) D_request_May (fun _ => false) (fun _ _ _ => none) Tryz.f258), (279, inl TY (C4_request_May u) D_request_May (fun _ => false) (fun _ _ _ => none) Tryz.f279), (276, inl TY (C3_request_May u) D_request_May (fun _ => false) (fun _ _ _ => none) Tryz.f276), (273, inl TY (C2_request_May u) D_request_May (fun _ => false) (fun _ _ _ => none) Tryz.f273), (260, inl TY (C1_request_May u) D_request_May (fun _ => false) (fun _ _ _ => none) Tryz.f260), (298, inl TY (C_request_May) D_request_May (fun _ => false) (fun _ _ _ => none) Tryz.f298)]
def C17_request_May (u : Unit) : FuncId → Option Ctr := tabC D_request_May [(73, inl TY (C16_request_May u) D_request_May (fun _ => false) (fun _ _ _ => none) Tryz.f73), (164, inl TY (C15_request_May u) D_request_May (fun _ => false) (fun _ _ _ => none) Tryz.f164), (228, inl TY (C14_request_May u) D_request_May (fun _ => false) (fun _ _ _ => none) Tryz.f228), (227, inl TY (C13_request_May u) D_request_May (fun _ => false) (fun _ _ _ => none) Tryz.f227), (226, inl TY (C12_request_May u) D_request_May (fun _ => false) (fun _ _ _ => none) Tryz.f226), (225, inl TY (C11_request_May u) D_request_May (fun _ => false) (fun _ _ _ => none) Tryz.f225), (229, inl TY (C10_request_May u) D_request_May (fun _ => false) (LI11_request_May u) Tryz.f229), (277, inl TY (C9_request_May u) D_request_May (fun _ => false) (LI10_request_May u) Tryz.f277), (305, inl TY (C8_request_May u) D_request_May (fun _ => false) (fun _ _ _ => none) Tryz.f305), (278, inl TY (C7_request_May u) D_request_May (fun _ => false) (fun _ _ _ => none) Tryz.f278), (274, inl TY (C6_request_May u) D_request_May (fun _ => false) (fun _ _ _ => none) Tryz.f274), (258, inl TY (C5_request_May u) D_request_May (fun _ => false) (fun _ _ _ => none) Tryz.f258), (279, inl TY (C4_request_May u) D_request_May (fun _ => false) (fun _ _ _ => none) Tryz.f279), (276, inl TY (C3_request_May u) D_request_May (fun _ => false) (fun _ _ _ => none) Tryz.f276), (273, inl TY (C2_request_May u) D_request_May (fun _ => false) (fun _ _ _ => none) Tryz.f273), (260, inl TY (C1_request_May u) D_request_May (fun _ => false) (fun _ _ _ => none) Tryz.f260), (298, inl TY (C_request_May) D_request_May (fun _ => false) (fun _ _ _ => none) Tryz.f298)]
def LI18_request_May (u : Unit) : List AV → List Blk → Nat → Option LR := fun _ _ i => cond (Nat.beq i 2) (some (.unroll 6)) none
def C18_request_May (u : Unit) : FuncId → Option Ctr := tabC D_request_May [(141, inl TY (C17_request_May u) D_request_May (fun _ => false) (LI18_request_May u) Tryz.f141), (73, inl TY (C16_request_May u) D_request_May (fun _ => false) (fun _ _ _ => none) Tryz.f73), (164, inl TY (C15_request_May u) D_request_May (fun _ => false) (fun _ _ _ => none) Tryz.f164), (228, inl TY (C14_request_May u) D_request_May (fun _ => false) (fun _ _ _ => none) Tryz.f228), (227, inl TY (C13_request_May u) D_request_May (fun _ => false) (fun _ _ _ => none) Tryz.f227), (226, inl TY (C12_request_May u) D_request_May (fun _ => false) (fun _ _ _ => none) Tryz.f226), (225, inl TY (C11_request_May u) D_request_May (fun _ => false) (fun _ _ _ => none) Tryz.f225), (229, inl TY (C10_request_May u) D_request_May (fun _ => false) (LI11_request_May u) Tryz.f229), (277, inl TY (C9_request_May u) D_request_May (fun _ => false) (LI10_request_May u) Tryz.f277), (305, inl TY (C8_request_May u) D_request_May (fun _ => false) (fun _ _ _ => none) Tryz.f305), (278, inl TY (C7_request_May u) D_request_May (fun _ => false) (fun _ _ _ => none) Tryz.f278), (274, inl TY (C6_request_May u) D_request_May (fun _ => false) (fun _ _ _ => none) Tryz.f274), (258, inl TY (C5_request_May u) D_request_May (fun _ => false) (fun _ _ _ => none) Tryz.f258), (279, inl TY (C4_request_May u) D_request_May (fun _ => false) (fun _ _ _ => none) Tryz.f279), (276, inl TY (C3_request_May u) D_request_May (fun _ => false) (fun _ _ _ => none) Tryz.f276), (273, inl TY (C2_request_May u) D_request_May (fun _ => false) (fun _ _ _ => none) Tryz.f273), (260, inl TY (C1_request_May u) D_request_May (fun _ => false) (fun _ _ _ => none) Tryz.f260), (298, inl TY (C_request_May) D_request_May (fun _ => false) (fun _ _ _ => none) Tryz.f298)]
def C19_request_May (u : Unit) : FuncId → Option Ctr := tabC D_request_May [(211, inl TY (C18_request_May u) D_request_May (fun _ => false) (fun _ _ _ => none) Tryz.f211), (141, inl TY (C17_request_May u) D_request_May (fun _ => false) (LI18_request_May u) Tryz.f141), (73, inl TY (C16_request_May u) D_request_May (fun _ => false) (fun _ _ _ => none) Tryz.f73), (164, inl TY (C15_request_May u) D_request_May (fun _ => false) (fun _ _ _ => none) Tryz.f164), (228, inl TY (C14_request_May u) D_request_May (fun _ => false) (fun _ _ _ => none) Tryz.f228), (227, inl TY (C13_request_May u) D_request_May (fun _ => false) (fun _ _ _ => none) Tryz.f227), (226, inl TY (C12_request_May u) D_request_May (fun _ => false) (fun _ _ _ => none) Tryz.f226), (225, inl TY (C11_request_May u) D_request_May (fun _ => false) (fun _ _ _ => none) Tryz.f225), (229, inl TY (C10_request_May u) D_request_May (fun _ => false) (LI11_request_May u) Tryz.f229), (277, inl TY (C9_request_May u) D_request_May (fun _ => false) (LI10_request_May u) Tryz.f277), (305, inl TY (C8_request_May u) D_request_May (fun _ => false) (fun _ _ _ => none) Tryz.f305), (278, inl TY (C7_request_May u) D_request_May (fun _ => false) (fun _ _ _ => none) Tryz.f278), (274, inl TY (C6_request_May u) D_request_May (fun _ => false) (fun _ _ _ => none) Tryz.f274), (258, inl TY (C5_request_May u) D_request_May (fun _ => false) (fun _ _ _ => none) Tryz.f258), (279, inl TY (C4_request_May u) D_request_May (fun _ => false) (fun _ _ _ => none) Tryz.f279), (276, inl TY (C3_request_May u) D_request_May (fun _ => false) (fun _ _ _ => none) Tryz.f276), (273, inl TY (C2_request_May u) D_request_May (fun _ => false) (fun _ _ _ => none) Tryz.f273), (260, inl TY (C1_request_May u) D_request_May (fun _ => false) (fun _ _ _ => none) Tryz.f260), (298, inl TY (C_request_May) D_request_May (fun _ => false) (fun _ _ _ => none) Tryz.f298)]
def C20_request_May (u : Unit) : FuncId → Option Ctr := tabC D_request_May [(212, inl TY (C19_request_May u) D_request_May (fun _ => false) (fun _ _ _ => none) Tryz.f212), (211, inl TY (C18_request_May u) D_request_May (fun _ => false) (fun _ _ _ => none) Tryz.f211), (141, inl TY (C17_request_May u) D_request_May (fun _ => false) (LI18_request_May u) Tryz.f141), (73, inl TY (C16_request_May u) D_request_May (fun _ => false) (fun _ _ _ => none) Tryz.f73), (164, inl TY (C15_request_May u) D_request_May (fun _ => false) (fun _ _ _ => none) Tryz.f164), (228, inl TY (C14_request_May u) D_request_May (fun _ => false) (fun _ _ _ => none) Tryz.f228), (227, inl TY (C13_request_May u) D_request_May (fun _ => false) (fun _ _ _ => none) Tryz.f227), (226, inl TY (C12_request_May u) D_request_May (fun _ => false) (fun _ _ _ => none) Tryz.f226), (225, inl TY (C11_request_May u) D_request_May (fun _ => false) (fun _ _ _ => none) Tryz.f225), (229, inl TY (C10_request_May u) D_request_May (fun _ => false) (LI11_request_May u) Tryz.f229), (277, inl TY (C9_request_May u) D_request_May (fun _ => false) (LI10_request_May u) Tryz.f277), (305, inl TY (C8_request_May u) D_request_May (fun _ => false) (fun _ _ _ => none) Tryz.f305), (278, inl TY (C7_request_May u) D_request_May (fun _ => false) (fun _ _ _ => none) Tryz.f278), (274, inl TY (C6_request_May u) D_request_May (fun _ => false) (fun _ _ _ => none) Tryz.f274), (258, inl TY (C5_request_May u) D_request_May (fun _ => false) (fun _ _ _ => none) Tryz.f258), (279, inl TY (C4_request_May u) D_request_May (fun _ => false) (fun _ _ _ => none) Tryz.f279), (276, inl TY (C3_request_May u) D_request_May (fun _ => false) (fun _ _ _ => none) Tryz.f276), (273, inl TY (C2_request_May u) D_request_May (fun _ => false) (fun _ _ _ => none) Tryz.f273), (260, inl TY (C1_request_May u) D_request_May (fun _ => false) (fun _ _ _ => none) Tryz.f260), (298, inl TY (C_request_May) D_request_May (fun _ => false) (fun _ _ _ => none) Tryz.f298)]
def LI21_request_May (u : Unit) : List AV → List Blk → Nat → Option LR := fun cs H i => cond (Nat.beq i 1) (some (.order [0, 1, 3, 4, 2, 6, 5, 7, 8, 9])) (none)
def C21_request_May (u : Unit) : FuncId → Option Ctr := tabC D_request_May [(140, inl TY (C20_request_May u) D_request_May (fun _ => false) (LI21_request_May u) Tryz.f140), (212, inl TY (C19_request_May u) D_request_May (fun _ => false) (fun _ _ _ => none) Tryz.f212), (211, inl TY (C18_request_May u) D_request_May (fun _ => false) (fun _ _ _ => none) Tryz.f211), (141, inl TY (C17_request_May u) D_request_May (fun _ => false) (LI18_request_May u) Tryz.f141), (73, inl TY (C16_request_May u) D_request_May (fun _ => false) (fun _ _ _ => none) Tryz.f73), (164, inl TY (C15_request_May u) D_request_May (fun _ => false) (fun _ _ _ => none) Tryz.f164), (228, inl TY (C14_request_May u) D_request_May (fun _ => false) (fun _ _ _ => none) Tryz.f228), (227, inl TY (C13_request_May u) D_request_May (fun _ => false) (fun _ _ _ => none) Tryz.f227), (226, inl TY (C12_request_May u) D_request_May (fun _ => false) (fun _ _ _ => none) Tryz.f226), (225, inl TY (C11_request_May u) D_request_May (fun _ => false) (fun _ _ _ => none) Tryz.f225), (229, inl TY (C10_request_May u) D_request_May (fun _ => false) (LI11_request_May u) Tryz.f229), (277, inl TY (C9_request_May u) D_request_May (fun _ => false) (LI10_request_May u) Tryz.f277), (305, inl TY (C8_request_May u) D_request_May (fun _ => false) (fun _ _ _ => none) Tryz.f305), (278, inl TY (C7_request_May u) D_request_May (fun _ => false) (fun _ _ _ => none) Tryz.f278), (274, inl TY (C6_request_May u) D_request_May (fun _ => false) (fun _ _ _ => none) Tryz.f274), (258, inl TY (C5_request_May u) D_request_May (fun _ => false) (fun _ _ _ => none) Tryz.f258), (279, inl TY (C4_request_May u) D_request_May (fun _ => false) (fun _ _ _ => none) Tryz.f279), (276, inl TY (C3_request_May u) D_request_May (fun _ => false) (fun _ _ _ => none) Tryz.f276), (273, inl TY (C2_request_May u) D_request_May (fun _ => false) (fun _ _ _ => none) Tryz.f273), (260, inl TY (C1_request_May u) D_request_May (fun _ => false) (fun _ _ _ => none) Tryz.f260), (298, inl TY (C_request_May) D_request_May (fun _ => false) (fun _ _ _ => none) Tryz.f298)]
def C22_request_May (u : Unit) : FuncId → Option Ctr := tabC D_request_May [(213, inl TY (C21_request_May u) D_request_May (fun _ => false) (fun _ _ _ => none) Tryz.f213), (140, inl TY (C20_request_May u) D_request_May (fun _ => false) (LI21_request_May u) Tryz.f140), (212, inl TY (C19_request_May u) D_request_May (fun _ => false) (fun _ _ _ => none) Tryz.f212), (211, inl TY (C18_request_May u) D_request_May (fun _ => false) (fun _ _ _ => none) Tryz.f211), (141, inl TY (C17_request_May u) D_request_May (fun _ => false) (LI18_request_May u) Tryz.f141), (73, inl TY (C16_request_May u) D_request_May (fun _ => false) (fun _ _ _ => none) Tryz.f73), (164, inl TY (C15_request_May u) D_request_May (fun _ => false) (fun _ _ _ => none) Tryz.f164), (228, inl TY (C14_request_May u) D_request_May (fun _ => false) (fun _ _ _ => none) Tryz.f228), (227, inl TY (C13_request_May u) D_request_May (fun _ => false) (fun _ _ _ => none) Tryz.f227), (226, inl TY (C12_request_May u) D_request_May (fun _ => false) (fun _ _ _ => none) Tryz.f226), (225, inl TY (C11_request_May u) D_request_May (fun _ => false) (fun _ _ _ => none) Tryz.f225), (229, inl TY (C10_request_May u) D_request_May (fun _ => false) (LI11_request_May u) Tryz.f229), (277, inl TY (C9_request_May u) D_request_May (fun _ => false) (LI10_request_May u) Tryz.f277), (305, inl TY (C8_request_May u) D_request_May (fun _ => false) (fun _ _ _ => none) Tryz.f305), (278, inl TY (C7_request_May u) D_request_May (fun _ => false) (fun _ _ _ => none) Tryz.f278), (274, inl TY (C6_request_May u) D_request_May (fun _ => false) (fun _ _ _ => none) Tryz.f274), (258, inl TY (C5_request_May u) D_request_May (fun _ => false) (fun _ _ _ => none) Tryz.f258), (279, inl TY (C4_request_May u) D_request_May (fun _ => false) (fun _ _ _ => none) Tryz.f279), (276, inl TY (C3_request_May u) D_request_May (fun _ => false) (fun _ _ _ => none) Tryz.f276), (273, inl TY (C2_request_May u) D_request_May (fun _ => false) (fun _ _ _ => none) Tryz.f273), (260, inl TY (C1_request_May u) D_request_May (fun _ => false) (fun _ _ _ => none) Tryz.f260), (298, inl TY (C_request_May) D_request_May (fun _ => false) (fun _ _ _ => none) Tryz.f298)]
def LI23_request_May (u : Unit) : List AV → List Blk → Nat → Option LR := fun _ _ i => cond (Nat.beq i 4) (some (.unroll 1)) none
def C23_request_May (u : Unit) : FuncId → Option Ctr := tabC D_request_May [(214, inl TY (C22_request_May u) D_request_May (fun _ => false) (LI23_request_May u) Tryz.f214), (213, inl TY (C21_request_May u) D_request_May (fun _ => false) (fun _ _ _ => none) Tryz.f213), (140, inl TY (C20_request_May u) D_request_May (fun _ => false) (LI21_request_May u) Tryz.f140), (212, inl TY (C19_request_May u) D_request_May (fun _ => false) (fun _ _ _ => none) Tryz.f212), (211, inl TY (C18_request_May u) D_request_May (fun _ => false) (fun _ _ _ => none) Tryz.f211), (141, inl TY (C17_request_May u) D_request_May (fun _ => false) (LI18_request_May u) Tryz.f141), (73, inl TY (C16_request_May u) D_request_May (fun _ => false) (fun _ _ _ => none) Tryz.f73), (164, inl TY (C15_request_May u) D_request_May (fun _ => false) (fun _ _ _ => none) Tryz.f164), (228, inl TY (C14_request_May u) D_request_May (fun _ => false) (fun _ _ _ => none) Tryz.f228), (227, inl TY (C13_request_May u) D_request_May (fun _ => false) (fun _ _ _ => none) Tryz.f227), (226, inl TY (C12_request_May u) D_request_May (fun _ => false) (fun _ _ _ => none) Tryz.f226), (225, inl TY (C11_request_May u) D_request_May (fun _ => false) (fun _ _ _ => none) Tryz.f225), (229, inl TY (C10_request_May u) D_request_May (fun _ => false) (LI11_request_May u) Tryz.f229), (277, inl TY (C9_request_May u) D_request_May (fun _ => false) (LI10_request_May u) Tryz.f277), (305, inl TY (C8_request_May u) D_request_May (fun _ => false) (fun _ _ _ => none) Tryz.f305), (278, inl TY (C7_request_May u) D_request_May (fun _ => false) (fun _ _ _ => none) Tryz.f278), (274, inl TY (C6_request_May u) D_request_May (fun _ => false) (fun _ _ _ => none) Tryz.f274), (258, inl TY (C5_request_May u) D_request_May (fun _ => false) (fun _ _ _ => none) Tryz.f258), (279, inl TY (C4_request_May u) D_request_May (fun _ => false) (fun _ _ _ => none) Tryz.f279), (276, inl TY (C3_request_May u) D_request_May (fun _ => false) (fun _ _ _ => none) Tryz.f276), (273, inl TY (C2_request_May u) D_request_May (fun _ => false) (fun _ _ _ => none) Tryz.f273), (260, inl TY (C1_request_May u) D_request_May (fun _ => false) (fun _ _ _ => none) Tryz.f260), (298, inl TY (C_request_May) D_request_May (fun _ => false) (fun _ _ _ => none) Tryz.f298)]
def LI24_request_May (u : Unit) : List AV → List Blk → Nat → Option LR := fun _ _ i => cond (Nat.beq i 4) (some (.unroll 1)) none
def C24_request_May (u : Unit) : FuncId → Option Ctr := tabC D_request_May [(215, inl TY (C23_request_May u) D_request_May (fun _ => false) (LI24_request_May u) Tryz.f215), (214, inl TY (C22_request_May u) D_request_May (fun _ => false) (LI23_request_May u) Tryz.f214), (213, inl TY (C21_request_May u) D_request_May (fun _ => false) (fun _ _ _ => none) Tryz.f213), (140, inl TY (C20_request_May u) D_request_May (fun _ => false) (LI21_request_May u) Tryz.f140), (212, inl TY (C19_request_May u) D_request_May (fun _ => false) (fun _ _ _ => none) Tryz.f212), (211, inl TY (C18_request_May u) D_request_May (fun _ => false) (fun _ _ _ => none) Tryz.f211), (141, inl TY (C17_request_May u) D_request_May (fun _ => false) (LI18_request_May u) Tryz.f141), (73, inl TY (C16_request_May u) D_request_May (fun _ => false) (fun _ _ _ => none) Tryz.f73), (164, inl TY (C15_request_May u) D_request_May (fun _ => false) (fun _ _ _ => none) Tryz.f164), (228, inl TY (C14_request_May u) D_request_May (fun _ => false) (fun _ _ _ => none) Tryz.f228), (227, inl TY (C13_request_May u) D_request_May (fun _ => false) (fun _ _ _ => none) Tryz.f227), (226, inl TY (C12_request_May u) D_request_May (fun _ => false) (fun _ _ _ => none) Tryz.f226), (225, inl TY (C11_request_May u) D_request_May (fun _ => false) (fun _ _ _ => none) Tryz.f225), (229, inl TY (C10_request_May u) D_request_May (fun _ => false) (LI11_request_May u) Tryz.f229), (277, inl TY (C9_request_May u) D_request_May (fun _ => false) (LI10_request_May u) Tryz.f277), (305, inl TY (C8_request_May u) D_request_May (fun _ => false) (fun _ _ _ => none) Tryz.f305), (278, inl TY (C7_request_May u) D_request_May (fun _ => false) (fun _ _ _ => none) Tryz.f278), (274, inl TY (C6_request_May u) D_request_May (fun _ => false) (fun _ _ _ => none) Tryz.f274), (258, inl TY (C5_request_May u) D_request_May (fun _ => false) (fun _ _ _ => none) Tryz.f258), (279, inl TY (C4_request_May u) D_request_May (fun _ => false) (fun _ _ _ => none) Tryz.f279), (276, inl TY (C3_request_May u) D_request_May (fun _ => false) (fun _ _ _ => none) Tryz.f276), (273, inl TY (C2_request_May u) D_request_May (fun _ => false) (fun _ _ _ => none) Tryz.f273), (260, inl TY (C1_request_May u) D_request_May (fun _ => false) (fun _ _ _ => none) Tryz.f260), (298, inl TY (C_request_May) D_request_May (fun _ => false) (fun _ _ _ => none) Tryz.f298)]
def LI25_request_May (u : Unit) : List AV → List Blk → Nat → Option LR := fun cs H i => cond (Nat.beq i 2) (some (.order [0, 1, 3, 4, 2, 5, 6, 7, 8, 9, 10, 11, 12, 13, 14, 15, 16, 17, 18, 19, 20, 21])) (none)
def C25_request_May (u : Unit) : FuncId → Option Ctr := tabC D_request_May [(142, inl TY (C24_request_May u) D_request_May (fun _ => false) (LI25_request_May u) Tryz.f142), (215, inl TY (C23_request_May u) D_request_May (fun _ => false) (LI24_request_May u) Tryz.f215), (214, inl TY (C22_request_May u) D_request_May (fun _ => false) (LI23_request_May u) Tryz.f214), (213, inl TY (C21_request_May u) D_request_May (fun _ => false) (fun _ _ _ => none) Tryz.f213), (140, inl TY (C20_request_May u) D_request_May (fun _ => false) (LI21_request_May u) Tryz.f140), (212, inl TY (C19_request_May u) D_request_May (fun _ => false) (fun _ _ _ => none) Tryz.f212), (211, inl TY (C18_request_May u) D_request_May (fun _ => false) (fun _ _ _ => none) Tryz.f211), (141, inl TY (C17_request_May u) D_request_May (fun _ => false) (LI18_request_May u) Tryz.f141), (73, inl TY (C16_request_May u) D_request_May (fun _ => false) (fun _ _ _ => none) Tryz.f73), (164, inl TY (C15_request_May u) D_request_May (fun _ => false) (fun _ _ _ => none) Tryz.f164), (228, inl TY (C14_request_May u) D_request_May (fun _ => false) (fun _ _ _ => none) Tryz.f228), (227, inl TY (C13_request_May u) D_request_May (fun _ => false) (fun _ _ _ => none) Tryz.f227), (226, inl TY (C12_request_May u) D_request_May (fun _ => false) (fun _ _ _ => none) Tryz.f226), (225, inl TY (C11_request_May u) D_request_May (fun _ => false) (fun _ _ _ => none) Tryz.f225), (229, inl TY (C10_request_May u) D_request_May (fun _ => false) (LI11_request_May u) Tryz.f229), (277, inl TY (C9_request_May u) D_request_May (fun _ => false) (LI10_request_May u) Tryz.f277), (305, inl TY (C8_request_May u) D_request_May (fun _ => false) (fun _ _ _ => none) Tryz.f305), (278, inl TY (C7_request_May u) D_request_May (fun _ => false) (fun _ _ _ => none) Tryz.f278), (274, inl TY (C6_request_May u) D_request_May (fun _ => false) (fun _ _ _ => none) Tryz.f274), (258, inl TY (C5_request_May u) D_request_May (fun _ => false) (fun _ _ _ => none) Tryz.f258), (279, inl TY (C4_request_May u) D_request_May (fun _ => false) (fun _ _ _ => none) Tryz.f279), (276, inl TY (C3_request_May u) D_request_May (fun _ => false) (fun _ _ _ => none) Tryz.f276), (273, inl TY (C2_request_May u) D_request_May (fun _ => false) (fun _ _ _ => none) Tryz.f273), (260, inl TY (C1_request_May u) D_request_May (fun _ => false) (fun _ _ _ => none) Tryz.f260), (298, inl TY (C_request_May) D_request_May (fun _ => false) (fun _ _ _ => none) Tryz.f298)]
set_option maxHeartbeats 4000000 in
theorem g_request_May {W : World} (hW : Tabs W) : GoodP (Fw W) Tryz.prog 71 pcMayI := by
  have hD : PTOk (Fw W) Tryz.prog D_request_May := (tabD_cons Tryz.call275 (g_request_MayKey hW) (tabD_cons Tryz.call195 (g_number_Locator hW) tabD_nil))
  have hC0 : ∀ u : Unit, CtrOk (Fw W) Tryz.prog (C_request_May) := fun u => (tabC_nil hD)
  have hC1 : ∀ u : Unit, CtrOk (Fw W) Tryz.prog (C1_request_May u) := fun u => tabC_cons Tryz.call298 (good_inl rfl tyOk hD (hC0 u) Tryz.func298 (fun _ _ _ => none)) (hC0 u)
  have hC2 : ∀ u : Unit, CtrOk (Fw W) Tryz.prog (C2_request_May u) := fun u => tabC_cons Tryz.call260 (good_inl rfl tyOk hD (hC1 u) Tryz.func260 (fun _ _ _ => none)) (hC1 u)
  have hC3 : ∀ u : Unit, CtrOk (Fw W) Tryz.prog (C3_request_May u) := fun u => tabC_cons Tryz.call273 (good_inl rfl tyOk hD (hC2 u) Tryz.func273 (fun _ _ _ => none)) (hC2 u)
  have hC4 : ∀ u : Unit, CtrOk (Fw W) Tryz.prog (C4_request_May u) := fun u => tabC_cons Tryz.call276 (good_inl rfl tyOk hD (hC3 u) Tryz.func276 (fun _ _ _ => none)) (hC3 u)
  have hC5 : ∀ u : Unit, CtrOk (Fw W) Tryz.prog (C5_request_May u) := fun u => tabC_cons Tryz.call279 (good_inl rfl tyOk hD (hC4 u) Tryz.func279 (fun _ _ _ => none)) (hC4 u)
  have hC6 : ∀ u : Unit, CtrOk (Fw W) Tryz.prog (C6_request_May u) := fun u => tabC_cons Tryz.call258 (good_inl rfl tyOk hD (hC5 u) Tryz.func258 (fun _ _ _ => none)) (hC5 u)
  have hC7 : ∀ u : Unit, CtrOk (Fw W) Tryz.prog (C7_request_May u) := fun u => tabC_cons Tryz.call274 (good_inl rfl tyOk hD (hC6 u) Tryz.func274 (fun _ _ _ => none)) (hC6 u)
  have hC8 : ∀ u : Unit, CtrOk (Fw W) Tryz.prog (C8_request_May u) := fun u => tabC_cons Tryz.call278 (good_inl rfl tyOk hD (hC7 u) Tryz.func278 (fun _ _ _ => none)) (hC7 u)
  have hC9 : ∀ u : Unit, CtrOk (Fw W) Tryz.prog (C9_request_May u) := fun u => tabC_cons Tryz.call305 (good_inl rfl tyOk hD (hC8 u) Tryz.func305 (fun _ _ _ => none)) (hC8 u)
  have hC10 : ∀ u : Unit, CtrOk (Fw W) Tryz.prog (C10_request_May u) := fun u => tabC_cons Tryz.call277 (good_inl rfl tyOk hD (hC9 u) Tryz.func277 (LI10_request_May u)) (hC9 u)
  have hC11 : ∀ u : Unit, CtrOk (Fw W) Tryz.prog (C11_request_May u) := fun u => tabC_cons Tryz.call229 (good_inl rfl tyOk hD (hC10 u) Tryz.func229 (LI11_request_May u)) (hC10 u)
  have hC12 : ∀ u : Unit, CtrOk (Fw W) Tryz.prog (C12_request_May u) := fun u => tabC_cons Tryz.call225 (good_inl rfl tyOk hD (hC11 u) Tryz.func225 (fun _ _ _ => none)) (hC11 u)
  have hC13 : ∀ u : Unit, CtrOk (Fw W) Tryz.prog (C13_request_May u) := fun u => tabC_cons Tryz.call226 (good_inl rfl tyOk hD (hC12 u) Tryz.func226 (fun _ _ _ => none)) (hC12 u)
  have hC14 : ∀ u : Unit, CtrOk (Fw W) Tryz.prog (C14_request_May u) := fun u => tabC_cons Tryz.call227 (good_inl rfl tyOk hD (hC13 u) Tryz.func227 (fun _ _ _ => none)) (hC13 u)
  have hC15 : ∀ u : Unit, CtrOk (Fw W) Tryz.prog (C15_request_May u) := fun u => tabC_cons Tryz.call228 (good_inl rfl tyOk hD (hC14 u) Tryz.func228 (fun _ _ _ => none)) (hC14 u)
  have hC16 : ∀ u : Unit, CtrOk (Fw W) Tryz.prog (C16_request_May u) := fun u => tabC_cons Tryz.call164 (good_inl rfl tyOk hD (hC15 u) Tryz.func164 (fun _ _ _ => none)) (hC15 u)
  have hC17 : ∀ u : Unit, CtrOk (Fw W) Tryz.prog (C17_request_May u) := fun u => tabC_cons Tryz.call73 (good_inl rfl tyOk hD (hC16 u) Tryz.func73 (fun _ _ _ => none)) (hC16 u)
  have hC18 : ∀ u : Unit, CtrOk (Fw W) Tryz.prog (C18_request_May u) := fun u => tabC_cons Tryz.call141 (good_inl rfl tyOk hD (hC17 u) Tryz.func141 (LI18_request_May u)) (hC17 u)
  have hC19 : ∀ u : Unit, CtrOk (Fw W) Tryz.prog (C19_request_May u) := fun u => tabC_cons Tryz.call211 (good_inl rfl tyOk hD (hC18 u) Tryz.func211 (fun _ _ _ => none)) (hC18 u)
  have hC20 : ∀ u : Unit, CtrOk (Fw W) Tryz.prog (C20_request_May u) := fun u => tabC_cons Tryz.call212 (good_inl rfl tyOk hD (hC19 u) Tryz.func212 (fun _ _ _ => none)) (hC19 u)
  have hC21 : ∀ u : Unit, CtrOk (Fw W) Tryz.prog (C21_request_May u) := fun u => tabC_cons Tryz.call140 (good_inl rfl tyOk hD (hC20 u) Tryz.func140 (LI21_request_May u)) (hC20 u)
  have hC22 : ∀ u : Unit, CtrOk (Fw W) Tryz.prog (C22_request_May u) := fun u => tabC_cons Tryz.call213 (good_inl rfl tyOk hD (hC21 u) Tryz.func213 (fun _ _ _ => none)) (hC21 u)
  have hC23 : ∀ u : Unit, CtrOk (Fw W) Tryz.prog (C23_request_May u) := fun u => tabC_cons Tryz.call214 (good_inl rfl tyOk hD (hC22 u) Tryz.func214 (LI23_request_May u)) (hC22 u)
  have hC24 : ∀ u : Unit, CtrOk (Fw W) Tryz.prog (C24_request_May u) := fun u => tabC_cons Tryz.call215 (good_inl rfl tyOk hD (hC23 u) Tryz.func215 (LI24_request_May u)) (hC23 u)
  have hC25 : ∀ u : Unit, CtrOk (Fw W) Tryz.prog (C25_request_May u) := fun u => tabC_cons Tryz.call142 (good_inl rfl tyOk hD (hC24 u) Tryz.func142 (LI25_request_May u)) (hC24 u)
  refine goodP_ofC (D := D_request_May) (C := fun u => C25_request_May u) (wr := (fun _ => false)) rfl tyOk hD hC25 Tryz.func71 (fun _ _ => none) (fun _ => rfl) ?_
  intro u hf hp
  clear hf
  have hex1 : ¬ keyB [107, 55] = false := by rw [keyB_k7]; simp
  have hex2 : ¬ locOk [65, 66, 67, 50, 51, 52] = false := by rw [locOk_abc]; simp
  (conv => whnf)
  (repeat' ((first
    | (with_reducible refine inl_intro ?_)
    | (refine optP_coupon ?_)
    | (refine optP_bare ?_)
    | (exact absurd (by with_reducible assumption) hex1)
    | (exact absurd (by with_reducible assumption) hex2)
    | with_reducible refine And.intro (?_ : opQ _ _ _ _ _ _) ?_
    | ((with_reducible refine And.intro ?_ ?_); focus (first | with_reducible exact True.intro | ((with_reducible show okB _ _ _ = true); rfl) | ((with_reducible show okQ _ _ = true); rfl) | omega | (simp only [inK_def, Go.Vc.lo, Go.Vc.hi]; omega) | (simp only [List.length_append, bytesOf_length, List.toList_toArray, List.length_cons, List.length_nil, List.length_take, List.length_drop, sS_eq]; omega) | (simp only [growOk, ty2, ty3, ty4, ty5, ty9, ty21, ty37, ty42, ty43, ty45, ty47, ty67, ty95, ty105, ty113, ty150, ty161, ty198, ty242, ty275, List.length_cons, List.length_nil]; first | omega | (refine ⟨?_, ?_⟩ <;> omega))))
    | (split <;> rename_i hh <;> (try simp only [wS] at hh) <;> (try simp (disch := omega) only [Int.tdiv_eq_ediv_of_nonneg, Int.tmod_eq_emod_of_nonneg] at hh))
    | with_reducible refine (fun (hln : (_ : Int) ≤ 9223372036854775807) => ?_)
    | fail) <;> (conv => whnf)))
  all_goals (try (show _ = _; simp only [wQ]))
  all_goals rfl
end
end Go.Vc.Z

/- Requests' lines: the one that is looked at in each statement. -/
namespace Go.Vc.Z
open Go Go.Vc Go.Proofs Go.RowKit Go.Pl Go.Lib
theorem itoa_one {n : Int} (h0 : 0 ≤ n) (h : n < 10) : Lib.itoa n = [UInt8.ofNat (48 + n.toNat)] := by
  unfold Lib.itoa; rw [if_neg (by omega), decDigits_one (by omega)]
theorem flightW_c7 : flightW ⟨7, 9, 1000, 0, 0, 0⟩ = [55, 64, 57, 61, 49, 48, 46, 48, 48] := by
  unfold flightW fareT moneyB moneyT centsT
  simp only [itoa_one (n := 7) (by decide) (by decide), itoa_one (n := 9) (by decide) (by decide)]
  rw [show Lib.decDigits (1000 / 10 / 10 : Int).toNat = [49, 48] from decDigits_two (by decide) (by decide)]
  rfl
theorem taxesW_nil : taxesW [] = [45] := by unfold taxesW; rfl
theorem lineI_join : Lib.join [[105, 115, 115, 117, 101], [107, 55], Lib.itoa 3, [65, 66, 67, 50, 51, 52], Lib.join [flightW ⟨7, 9, 1000, 0, 0, 0⟩] [44], taxesW []] [32] = [105, 115, 115, 117, 101, 32, 107, 55, 32, 51, 32, 65, 66, 67, 50, 51, 52, 32, 55, 64, 57, 61, 49, 48, 46, 48, 48, 32, 45] := by
  rw [flightW_c7, taxesW_nil, itoa_one (n := 3) (by decide) (by decide)]; rfl
theorem jF_len : (Lib.join [flightW c7] [44]).length ≤ 140737488355328 := by
  show (Lib.join [flightW ⟨7, 9, 1000, 0, 0, 0⟩] [44]).length ≤ _
  rw [flightW_c7]; decide
def partsI : List (List UInt8) := [[105, 115, 115, 117, 101], [107, 55], Lib.itoa 3, [65, 66, 67, 50, 51, 52], Lib.join [flightW c7] [44], taxesW []]
theorem jL_eq : Lib.join partsI [32] = [105, 115, 115, 117, 101, 32, 107, 55, 32, 51, 32, 65, 66, 67, 50, 51, 52, 32, 55, 64, 57, 61, 49, 48, 46, 48, 48, 32, 45] := lineI_join
theorem jL_len : (Lib.join partsI [32]).length ≤ 140737488355328 := by rw [jL_eq]; decide
noncomputable section
set_option maxRecDepth 100000
set_option linter.unusedSimpArgs false
set_option linter.unusedVariables false
attribute [local irreducible] inK Utf8.decode Utf8.encode Lib.itoa Pl.worth Pl.allDig
attribute [local irreducible] Lib.join
def lineI : List UInt8 := [105, 115, 115, 117, 101, 32, 107, 55, 32, 51, 32, 65, 66, 67, 50, 51, 52, 32, 55, 64, 57, 61, 49, 48, 46, 48, 48, 32, 45]
def pcLineI : PC := PC.of (fun _ : Unit => [reqI]) (fun _ => True) (fun _ => .str (sS lineI))
def keysI : List UInt8 := [75, 68, 76, 67, 88]
theorem keysI_at {i : Nat} (h : i < 5) : runeAt keysI i = ((keysI.getD i 0).toNat : Int) ∧ runeW keysI i = 1 := by
  rcases rune_cases (l := keysI) (p := i) h with ⟨h6, h7, h8⟩ | ⟨h6, h7⟩
  · exact ⟨h6, h7⟩
  · exfalso
    rcases (by omega : i = 0 ∨ i = 1 ∨ i = 2 ∨ i = 3 ∨ i = 4) with rfl | rfl | rfl | rfl | rfl <;> exact absurd h7 (by decide)
def D_script_RequestLine : PT := tabD [(71, pcMayI), (62, pcJoinS), (129, pcFlightW), (58, pcTaxesW), (46, pcItoaS)]
def C_script_RequestLine : FuncId → Option Ctr := tabC D_script_RequestLine []
def LI1_script_RequestLine (u : Unit) : List AV → List Blk → Nat → Option LR := fun _ _ i => cond (Nat.beq i 3) (some (.unroll 2)) none
def C1_script_RequestLine (u : Unit) : FuncId → Option Ctr := tabC D_script_RequestLine [(56, inl TY (C_script_RequestLine) D_script_RequestLine (fun _ => false) (LI1_script_RequestLine u) Tryz.f56)]
def C2_script_RequestLine (u : Unit) : FuncId → Option Ctr := tabC D_script_RequestLine [(164, inl TY (C1_script_RequestLine u) D_script_RequestLine (fun _ => false) (fun _ _ _ => none) Tryz.f164), (56, inl TY (C_script_RequestLine) D_script_RequestLine (fun _ => false) (LI1_script_RequestLine u) Tryz.f56)]
def C3_script_RequestLine (u : Unit) : FuncId → Option Ctr := tabC D_script_RequestLine [(73, inl TY (C2_script_RequestLine u) D_script_RequestLine (fun _ => false) (fun _ _ _ => none) Tryz.f73), (164, inl TY (C1_script_RequestLine u) D_script_RequestLine (fun _ => false) (fun _ _ _ => none) Tryz.f164), (56, inl TY (C_script_RequestLine) D_script_RequestLine (fun _ => false) (LI1_script_RequestLine u) Tryz.f56)]
def C4_script_RequestLine (u : Unit) : FuncId → Option Ctr := tabC D_script_RequestLine [(74, inl TY (C3_script_RequestLine u) D_script_RequestLine (fun _ => false) (fun _ _ _ => none) Tryz.f74), (73, inl TY (C2_script_RequestLine u) D_script_RequestLine (fun _ => false) (fun _ _ _ => none) Tryz.f73), (164, inl TY (C1_script_RequestLine u) D_script_RequestLine (fun _ => false) (fun _ _ _ => none) Tryz.f164), (56, inl TY (C_script_RequestLine) D_script_RequestLine (fun _ => false) (LI1_script_RequestLine u) Tryz.f56)]
def C5_script_RequestLine (u : Unit) : FuncId → Option Ctr := tabC D_script_RequestLine [(144, inl TY (C4_script_RequestLine u) D_script_RequestLine (fun _ => false) (fun _ _ _ => none) Tryz.f144), (74, inl TY (C3_script_RequestLine u) D_script_RequestLine (fun _ => false) (fun _ _ _ => none) Tryz.f74), (73, inl TY (C2_script_RequestLine u) D_script_RequestLine (fun _ => false) (fun _ _ _ => none) Tryz.f73), (164, inl TY (C1_script_RequestLine u) D_script_RequestLine (fun _ => false) (fun _ _ _ => none) Tryz.f164), (56, inl TY (C_script_RequestLine) D_script_RequestLine (fun _ => false) (LI1_script_RequestLine u) Tryz.f56)]
def C6_script_RequestLine (u : Unit) : FuncId → Option Ctr := tabC D_script_RequestLine [(145, inl TY (C5_script_RequestLine u) D_script_RequestLine (fun _ => false) (fun _ _ _ => none) Tryz.f145), (144, inl TY (C4_script_RequestLine u) D_script_RequestLine (fun _ => false) (fun _ _ _ => none) Tryz.f144), (74, inl TY (C3_script_RequestLine u) D_script_RequestLine (fun _ => false) (fun _ _ _ => none) Tryz.f74), (73, inl TY (C2_script_RequestLine u) D_script_RequestLine (fun _ => false) (fun _ _ _ => none) Tryz.f73), (164, inl TY (C1_script_RequestLine u) D_script_RequestLine (fun _ => false) (fun _ _ _ => none) Tryz.f164), (56, inl TY (C_script_RequestLine) D_script_RequestLine (fun _ => false) (LI1_script_RequestLine u) Tryz.f56)]
def C7_script_RequestLine (u : Unit) : FuncId → Option Ctr := tabC D_script_RequestLine [(147, inl TY (C6_script_RequestLine u) D_script_RequestLine (fun _ => false) (fun _ _ _ => none) Tryz.f147), (145, inl TY (C5_script_RequestLine u) D_script_RequestLine (fun _ => false) (fun _ _ _ => none) Tryz.f145), (144, inl TY (C4_script_RequestLine u) D_script_RequestLine (fun _ => false) (fun _ _ _ => none) Tryz.f144), (74, inl TY (C3_script_RequestLine u) D_script_RequestLine (fun _ => false) (fun _ _ _ => none) Tryz.f74), (73, inl TY (C2_script_RequestLine u) D_script_RequestLine (fun _ => false) (fun _ _ _ => none) Tryz.f73), (164, inl TY (C1_script_RequestLine u) D_script_RequestLine (fun _ => false) (fun _ _ _ => none) Tryz.f164), (56, inl TY (C_script_RequestLine) D_script_RequestLine (fun _ => false) (LI1_script_RequestLine u) Tryz.f56)]
def C8_script_RequestLine (u : Unit) : FuncId → Option Ctr := tabC D_script_RequestLine [(160, inl TY (C7_script_RequestLine u) D_script_RequestLine (fun _ => false) (fun _ _ _ => none) Tryz.f160), (147, inl TY (C6_script_RequestLine u) D_script_RequestLine (fun _ => false) (fun _ _ _ => none) Tryz.f147), (145, inl TY (C5_script_RequestLine u) D_script_RequestLine (fun _ => false) (fun _ _ _ => none) Tryz.f145), (144, inl TY (C4_script_RequestLine u) D_script_RequestLine (fun _ => false) (fun _ _ _ => none) Tryz.f144), (74, inl TY (C3_script_RequestLine u) D_script_RequestLine (fun _ => false) (fun _ _ _ => none) Tryz.f74), (73, inl TY (C2_script_RequestLine u) D_script_RequestLine (fun _ => false) (fun _ _ _ => none) Tryz.f73), (164, inl TY (C1_script_RequestLine u) D_script_RequestLine (fun _ => false) (fun _ _ _ => none) Tryz.f164), (56, inl TY (C_script_RequestLine) D_script_RequestLine (fun _ => false) (LI1_script_RequestLine u) Tryz.f56)]
def C9_script_RequestLine (u : Unit) : FuncId → Option Ctr := tabC D_script_RequestLine [(162, inl TY (C8_script_RequestLine u) D_script_RequestLine (fun _ => false) (fun _ _ _ => none) Tryz.f162), (160, inl TY (C7_script_RequestLine u) D_script_RequestLine (fun _ => false) (fun _ _ _ => none) Tryz.f160), (147, inl TY (C6_script_RequestLine u) D_script_RequestLine (fun _ => false) (fun _ _ _ => none) Tryz.f147), (145, inl TY (C5_script_RequestLine u) D_script_RequestLine (fun _ => false) (fun _ _ _ => none) Tryz.f145), (144, inl TY (C4_script_RequestLine u) D_script_RequestLine (fun _ => false) (fun _ _ _ => none) Tryz.f144), (74, inl TY (C3_script_RequestLine u) D_script_RequestLine (fun _ => false) (fun _ _ _ => none) Tryz.f74), (73, inl TY (C2_script_RequestLine u) D_script_RequestLine (fun _ => false) (fun _ _ _ => none) Tryz.f73), (164, inl TY (C1_script_RequestLine u) D_script_RequestLine (fun _ => false) (fun _ _ _ => none) Tryz.f164), (56, inl TY (C_script_RequestLine) D_script_RequestLine (fun _ => false) (LI1_script_RequestLine u) Tryz.f56)]
def C10_script_RequestLine (u : Unit) : FuncId → Option Ctr := tabC D_script_RequestLine [(216, inl TY (C9_script_RequestLine u) D_script_RequestLine (fun _ => false) (fun _ _ _ => none) Tryz.f216), (162, inl TY (C8_script_RequestLine u) D_script_RequestLine (fun _ => false) (fun _ _ _ => none) Tryz.f162), (160, inl TY (C7_script_RequestLine u) D_script_RequestLine (fun _ => false) (fun _ _ _ => none) Tryz.f160), (147, inl TY (C6_script_RequestLine u) D_script_RequestLine (fun _ => false) (fun _ _ _ => none) Tryz.f147), (145, inl TY (C5_script_RequestLine u) D_script_RequestLine (fun _ => false) (fun _ _ _ => none) Tryz.f145), (144, inl TY (C4_script_RequestLine u) D_script_RequestLine (fun _ => false) (fun _ _ _ => none) Tryz.f144), (74, inl TY (C3_script_RequestLine u) D_script_RequestLine (fun _ => false) (fun _ _ _ => none) Tryz.f74), (73, inl TY (C2_script_RequestLine u) D_script_RequestLine (fun _ => false) (fun _ _ _ => none) Tryz.f73), (164, inl TY (C1_script_RequestLine u) D_script_RequestLine (fun _ => false) (fun _ _ _ => none) Tryz.f164), (56, inl TY (C_script_RequestLine) D_script_RequestLine (fun _ => false) (LI1_script_RequestLine u) Tryz.f56)]
def C11_script_RequestLine (u : Unit) : FuncId → Option Ctr := tabC D_script_RequestLine [(218, inl TY (C10_script_RequestLine u) D_script_RequestLine (fun _ => false) (fun _ _ _ => none) Tryz.f218), (216, inl TY (C9_script_RequestLine u) D_script_RequestLine (fun _ => false) (fun _ _ _ => none) Tryz.f216), (162, inl TY (C8_script_RequestLine u) D_script_RequestLine (fun _ => false) (fun _ _ _ => none) Tryz.f162), (160, inl TY (C7_script_RequestLine u) D_script_RequestLine (fun _ => false) (fun _ _ _ => none) Tryz.f160), (147, inl TY (C6_script_RequestLine u) D_script_RequestLine (fun _ => false) (fun _ _ _ => none) Tryz.f147), (145, inl TY (C5_script_RequestLine u) D_script_RequestLine (fun _ => false) (fun _ _ _ => none) Tryz.f145), (144, inl TY (C4_script_RequestLine u) D_script_RequestLine (fun _ => false) (fun _ _ _ => none) Tryz.f144), (74, inl TY (C3_script_RequestLine u) D_script_RequestLine (fun _ => false) (fun _ _ _ => none) Tryz.f74), (73, inl TY (C2_script_RequestLine u) D_script_RequestLine (fun _ => false) (fun _ _ _ => none) Tryz.f73), (164, inl TY (C1_script_RequestLine u) D_script_RequestLine (fun _ => false) (fun _ _ _ => none) Tryz.f164), (56, inl TY (C_script_RequestLine) D_script_RequestLine (fun _ => false) (LI1_script_RequestLine u) Tryz.f56)]
def C12_script_RequestLine (u : Unit) : FuncId → Option Ctr := tabC D_script_RequestLine [(143, inl TY (C11_script_RequestLine u) D_script_RequestLine (fun _ => false) (fun _ _ _ => none) Tryz.f143), (218, inl TY (C10_script_RequestLine u) D_script_RequestLine (fun _ => false) (fun _ _ _ => none) Tryz.f218), (216, inl TY (C9_script_RequestLine u) D_script_RequestLine (fun _ => false) (fun _ _ _ => none) Tryz.f216), (162, inl TY (C8_script_RequestLine u) D_script_RequestLine (fun _ => false) (fun _ _ _ => none) Tryz.f162), (160, inl TY (C7_script_RequestLine u) D_script_RequestLine (fun _ => false) (fun _ _ _ => none) Tryz.f160), (147, inl TY (C6_script_RequestLine u) D_script_RequestLine (fun _ => false) (fun _ _ _ => none) Tryz.f147), (145, inl TY (C5_script_RequestLine u) D_script_RequestLine (fun _ => false) (fun _ _ _ => none) Tryz.f145), (144, inl TY (C4_script_RequestLine u) D_script_RequestLine (fun _ => false) (fun _ _ _ => none) Tryz.f144), (74, inl TY (C3_script_RequestLine u) D_script_RequestLine (fun _ => false) (fun _ _ _ => none) Tryz.f74), (73, inl TY (C2_script_RequestLine u) D_script_RequestLine (fun _ => false) (fun _ _ _ => none) Tryz.f73), (164, inl TY (C1_script_RequestLine u) D_script_RequestLine (fun _ => false) (fun _ _ _ => none) Tryz.f164), (56, inl TY (C_script_RequestLine) D_script_RequestLine (fun _ => false) (LI1_script_RequestLine u) Tryz.f56)]
def C13_script_RequestLine (u : Unit) : FuncId → Option Ctr := tabC D_script_RequestLine [(146, inl TY (C12_script_RequestLine u) D_script_RequestLine (fun _ => false) (fun _ _ _ => none) Tryz.f146), (143, inl TY (C11_script_RequestLine u) D_script_RequestLine (fun _ => false) (fun _ _ _ => none) Tryz.f143), (218, inl TY (C10_script_RequestLine u) D_script_RequestLine (fun _ => false) (fun _ _ _ => none) Tryz.f218), (216, inl TY (C9_script_RequestLine u) D_script_RequestLine (fun _ => false) (fun _ _ _ => none) Tryz.f216), (162, inl TY (C8_script_RequestLine u) D_script_RequestLine (fun _ => false) (fun _ _ _ => none) Tryz.f162), (160, inl TY (C7_script_RequestLine u) D_script_RequestLine (fun _ => false) (fun _ _ _ => none) Tryz.f160), (147, inl TY (C6_script_RequestLine u) D_script_RequestLine (fun _ => false) (fun _ _ _ => none) Tryz.f147), (145, inl TY (C5_script_RequestLine u) D_script_RequestLine (fun _ => false) (fun _ _ _ => none) Tryz.f145), (144, inl TY (C4_script_RequestLine u) D_script_RequestLine (fun _ => false) (fun _ _ _ => none) Tryz.f144), (74, inl TY (C3_script_RequestLine u) D_script_RequestLine (fun _ => false) (fun _ _ _ => none) Tryz.f74), (73, inl TY (C2_script_RequestLine u) D_script_RequestLine (fun _ => false) (fun _ _ _ => none) Tryz.f73), (164, inl TY (C1_script_RequestLine u) D_script_RequestLine (fun _ => false) (fun _ _ _ => none) Tryz.f164), (56, inl TY (C_script_RequestLine) D_script_RequestLine (fun _ => false) (LI1_script_RequestLine u) Tryz.f56)]
def C14_script_RequestLine (u : Unit) : FuncId → Option Ctr := tabC D_script_RequestLine [(72, inl TY (C13_script_RequestLine u) D_script_RequestLine (fun _ => false) (fun _ _ _ => none) Tryz.f72), (146, inl TY (C12_script_RequestLine u) D_script_RequestLine (fun _ => false) (fun _ _ _ => none) Tryz.f146), (143, inl TY (C11_script_RequestLine u) D_script_RequestLine (fun _ => false) (fun _ _ _ => none) Tryz.f143), (218, inl TY (C10_script_RequestLine u) D_script_RequestLine (fun _ => false) (fun _ _ _ => none) Tryz.f218), (216, inl TY (C9_script_RequestLine u) D_script_RequestLine (fun _ => false) (fun _ _ _ => none) Tryz.f216), (162, inl TY (C8_script_RequestLine u) D_script_RequestLine (fun _ => false) (fun _ _ _ => none) Tryz.f162), (160, inl TY (C7_script_RequestLine u) D_script_RequestLine (fun _ => false) (fun _ _ _ => none) Tryz.f160), (147, inl TY (C6_script_RequestLine u) D_script_RequestLine (fun _ => false) (fun _ _ _ => none) Tryz.f147), (145, inl TY (C5_script_RequestLine u) D_script_RequestLine (fun _ => false) (fun _ _ _ => none) Tryz.f145), (144, inl TY (C4_script_RequestLine u) D_script_RequestLine (fun _ => false) (fun _ _ _ => none) Tryz.f144), (74, inl TY (C3_script_RequestLine u) D_script_RequestLine (fun _ => false) (fun _ _ _ => none) Tryz.f74), (73, inl TY (C2_script_RequestLine u) D_script_RequestLine (fun _ => false) (fun _ _ _ => none) Tryz.f73), (164, inl TY (C1_script_RequestLine u) D_script_RequestLine (fun _ => false) (fun _ _ _ => none) Tryz.f164), (56, inl TY (C_script_RequestLine) D_script_RequestLine (fun _ => false) (LI1_script_RequestLine u) Tryz.f56)]
def L_script_RequestLine : Unit → Nat → Option LR := fun u i => cond (Nat.beq i 6) (some (.unroll 6)) (none)
set_option maxHeartbeats 2000000 in
theorem g_script_RequestLine {W : World} (hW : Tabs W) : GoodP (Fw W) Tryz.prog 24 pcLineI := by
  have hD : PTOk (Fw W) Tryz.prog D_script_RequestLine := (tabD_cons Tryz.call71 (g_request_May hW) (tabD_cons Tryz.call62 (goodJoinS hW) (tabD_cons Tryz.call129 (g_script_flight hW) (tabD_cons Tryz.call58 (g_script_taxes hW) (tabD_cons Tryz.call46 (g_script_digits hW) tabD_nil)))))
  have hC0 : ∀ u : Unit, CtrOk (Fw W) Tryz.prog (C_script_RequestLine) := fun u => (tabC_nil hD)
  have hC1 : ∀ u : Unit, CtrOk (Fw W) Tryz.prog (C1_script_RequestLine u) := fun u => tabC_cons Tryz.call56 (good_inl rfl tyOk hD (hC0 u) Tryz.func56 (LI1_script_RequestLine u)) (hC0 u)
  have hC2 : ∀ u : Unit, CtrOk (Fw W) Tryz.prog (C2_script_RequestLine u) := fun u => tabC_cons Tryz.call164 (good_inl rfl tyOk hD (hC1 u) Tryz.func164 (fun _ _ _ => none)) (hC1 u)
  have hC3 : ∀ u : Unit, CtrOk (Fw W) Tryz.prog (C3_script_RequestLine u) := fun u => tabC_cons Tryz.call73 (good_inl rfl tyOk hD (hC2 u) Tryz.func73 (fun _ _ _ => none)) (hC2 u)
  have hC4 : ∀ u : Unit, CtrOk (Fw W) Tryz.prog (C4_script_RequestLine u) := fun u => tabC_cons Tryz.call74 (good_inl rfl tyOk hD (hC3 u) Tryz.func74 (fun _ _ _ => none)) (hC3 u)
  have hC5 : ∀ u : Unit, CtrOk (Fw W) Tryz.prog (C5_script_RequestLine u) := fun u => tabC_cons Tryz.call144 (good_inl rfl tyOk hD (hC4 u) Tryz.func144 (fun _ _ _ => none)) (hC4 u)
  have hC6 : ∀ u : Unit, CtrOk (Fw W) Tryz.prog (C6_script_RequestLine u) := fun u => tabC_cons Tryz.call145 (good_inl rfl tyOk hD (hC5 u) Tryz.func145 (fun _ _ _ => none)) (hC5 u)
  have hC7 : ∀ u : Unit, CtrOk (Fw W) Tryz.prog (C7_script_RequestLine u) := fun u => tabC_cons Tryz.call147 (good_inl rfl tyOk hD (hC6 u) Tryz.func147 (fun _ _ _ => none)) (hC6 u)
  have hC8 : ∀ u : Unit, CtrOk (Fw W) Tryz.prog (C8_script_RequestLine u) := fun u => tabC_cons Tryz.call160 (good_inl rfl tyOk hD (hC7 u) Tryz.func160 (fun _ _ _ => none)) (hC7 u)
  have hC9 : ∀ u : Unit, CtrOk (Fw W) Tryz.prog (C9_script_RequestLine u) := fun u => tabC_cons Tryz.call162 (good_inl rfl tyOk hD (hC8 u) Tryz.func162 (fun _ _ _ => none)) (hC8 u)
  have hC10 : ∀ u : Unit, CtrOk (Fw W) Tryz.prog (C10_script_RequestLine u) := fun u => tabC_cons Tryz.call216 (good_inl rfl tyOk hD (hC9 u) Tryz.func216 (fun _ _ _ => none)) (hC9 u)
  have hC11 : ∀ u : Unit, CtrOk (Fw W) Tryz.prog (C11_script_RequestLine u) := fun u => tabC_cons Tryz.call218 (good_inl rfl tyOk hD (hC10 u) Tryz.func218 (fun _ _ _ => none)) (hC10 u)
  have hC12 : ∀ u : Unit, CtrOk (Fw W) Tryz.prog (C12_script_RequestLine u) := fun u => tabC_cons Tryz.call143 (good_inl rfl tyOk hD (hC11 u) Tryz.func143 (fun _ _ _ => none)) (hC11 u)
  have hC13 : ∀ u : Unit, CtrOk (Fw W) Tryz.prog (C13_script_RequestLine u) := fun u => tabC_cons Tryz.call146 (good_inl rfl tyOk hD (hC12 u) Tryz.func146 (fun _ _ _ => none)) (hC12 u)
  have hC14 : ∀ u : Unit, CtrOk (Fw W) Tryz.prog (C14_script_RequestLine u) := fun u => tabC_cons Tryz.call72 (good_inl rfl tyOk hD (hC13 u) Tryz.func72 (fun _ _ _ => none)) (hC13 u)
  refine goodP_ofC (D := D_script_RequestLine) (C := fun u => C14_script_RequestLine u) (wr := (fun _ => false)) rfl tyOk hD hC14 Tryz.func24 (L_script_RequestLine) (fun _ => rfl) ?_
  intro u hf hp
  clear hf
  have r0 : runeAt [75, 68, 76, 67, 88] 0 = 75 := (keysI_at (by omega)).1
  have w0 : runeW [75, 68, 76, 67, 88] 0 = 1 := (keysI_at (by omega)).2
  have r1 : runeAt [75, 68, 76, 67, 88] 1 = 68 := (keysI_at (by omega)).1
  have w1 : runeW [75, 68, 76, 67, 88] 1 = 1 := (keysI_at (by omega)).2
  have r2 : runeAt [75, 68, 76, 67, 88] 2 = 76 := (keysI_at (by omega)).1
  have w2 : runeW [75, 68, 76, 67, 88] 2 = 1 := (keysI_at (by omega)).2
  have r3 : runeAt [75, 68, 76, 67, 88] 3 = 67 := (keysI_at (by omega)).1
  have w3 : runeW [75, 68, 76, 67, 88] 3 = 1 := (keysI_at (by omega)).2
  have r4 : runeAt [75, 68, 76, 67, 88] 4 = 88 := (keysI_at (by omega)).1
  have w4 : runeW [75, 68, 76, 67, 88] 4 = 1 := (keysI_at (by omega)).2
  (conv => whnf)
  all_goals (try (show _ = _; simp only [wQ]))
  refine ⟨(), True.intro, ?_, ?_⟩
  · exact leL_rfl _
  (conv => whnf)
  (repeat' ((first
    | (with_reducible refine inl_intro ?_)
    | ((with_reducible refine And.intro ?_ ?_); focus (first | with_reducible exact True.intro | ((with_reducible refine ⟨?_, ?_, ?_⟩) <;> first | (intro e he; rcases (by omega : e = 0 ∨ e = 1 ∨ e = 2 ∨ e = 3 ∨ e = 4 ∨ e = 5) with rfl | rfl | rfl | rfl | rfl | rfl <;> first | rfl | (exfalso; omega)) | (with_reducible assumption) | omega | ((with_reducible show growOk _ _); simp only [growOk, ty2, ty3, ty4, ty5, ty9, ty21, ty37, ty42, ty43, ty45, ty47, ty67, ty95, ty105, ty113, ty150, ty161, ty198, ty242, ty275, List.length_cons, List.length_nil]; first | omega | (refine ⟨?_, ?_⟩ <;> omega))) | omega | (simp only [inK_def, Go.Vc.lo, Go.Vc.hi]; omega) | (simp only [List.length_append, bytesOf_length, List.toList_toArray, List.length_cons, List.length_nil, List.length_take, List.length_drop, sS_eq]; omega) | (simp only [growOk, ty2, ty3, ty4, ty5, ty9, ty21, ty37, ty42, ty43, ty45, ty47, ty67, ty95, ty105, ty113, ty150, ty161, ty198, ty242, ty275]; first | omega | (refine ⟨?_, ?_⟩ <;> omega)) | decide))
    | (conv => arg 2; change eqI (runeAt _ _) _; simp only [List.toList_toArray, sB_eq, r0, r1, r2, r3, r4, w0, w1, w2, w3, w4, Nat.zero_add, Nat.reduceAdd, List.length_cons, List.length_nil])
    | (conv => arg 2; change decide (_ + runeW _ _ < _); simp only [List.toList_toArray, sB_eq, r0, r1, r2, r3, r4, w0, w1, w2, w3, w4, Nat.zero_add, Nat.reduceAdd, List.length_cons, List.length_nil])
    | (conv => arg 2; change ! (sB _); simp only [List.toList_toArray, sB_eq, r0, r1, r2, r3, r4, w0, w1, w2, w3, w4, Nat.zero_add, Nat.reduceAdd, List.length_cons, List.length_nil])
    | with_reducible refine (fun (hln : (_ : Int) ≤ 9223372036854775807) => ?_)
    | fail) <;> (conv => whnf)))
  all_goals (try (show _ = _; simp only [wQ]))
  refine ⟨([flightW c7], [44]), ⟨jF_len, by decide⟩, ?_, ?_⟩
  · (conv => whnf)
    (repeat' ((first | with_reducible exact True.intro | ((with_reducible refine And.intro ?_ ?_); focus (first | with_reducible rfl | omega | exact Nat.le_of_ble_eq_true rfl | rfl)) | with_reducible refine And.intro (?_ : leA _ _ _) ?_ | fail) <;> (conv => whnf)))
    all_goals (try simp only [wQ])
    exact ⟨fun h => h, fun e he => by obtain rfl : e = 0 := (by omega); rfl⟩
  (conv => whnf)
  (repeat' ((first
    | (with_reducible refine inl_intro ?_)
    | ((with_reducible refine And.intro ?_ ?_); focus (first | ((with_reducible refine ⟨?_, ?_, ?_⟩) <;> first | (intro e he; rcases (by omega : e = 0 ∨ e = 1 ∨ e = 2 ∨ e = 3 ∨ e = 4 ∨ e = 5) with rfl | rfl | rfl | rfl | rfl | rfl <;> first | rfl | (exfalso; omega)) | (with_reducible assumption) | omega | ((with_reducible show growOk _ _); simp only [growOk, ty2, ty3, ty4, ty5, ty9, ty21, ty37, ty42, ty43, ty45, ty47, ty67, ty95, ty105, ty113, ty150, ty161, ty198, ty242, ty275, List.length_cons, List.length_nil]; first | omega | (refine ⟨?_, ?_⟩ <;> omega))) | omega))
    | (conv => arg 2; change eqI (runeAt _ _) _; simp only [List.toList_toArray, sB_eq, r0, r1, r2, r3, r4, w0, w1, w2, w3, w4, Nat.zero_add, Nat.reduceAdd, List.length_cons, List.length_nil])
    | (conv => arg 2; change decide (_ + runeW _ _ < _); simp only [List.toList_toArray, sB_eq, r0, r1, r2, r3, r4, w0, w1, w2, w3, w4, Nat.zero_add, Nat.reduceAdd, List.length_cons, List.length_nil])
    | fail) <;> (conv => whnf)))
  all_goals (try (show _ = _; simp only [wQ]))
  refine ⟨[], Nat.zero_le _, ?_, ?_⟩
  · (conv => whnf)
    (repeat' ((first | with_reducible exact True.intro | ((with_reducible refine And.intro ?_ ?_); focus (first | with_reducible rfl | omega | exact Nat.le_of_ble_eq_true rfl | rfl)) | fail) <;> (conv => whnf)))
    all_goals (try simp only [wQ])
  (conv => whnf)
  (repeat' ((first
    | ((with_reducible refine And.intro ?_ ?_); focus (first | ((with_reducible refine ⟨?_, ?_, ?_⟩) <;> first | (intro e he; rcases (by omega : e = 0 ∨ e = 1 ∨ e = 2 ∨ e = 3 ∨ e = 4 ∨ e = 5) with rfl | rfl | rfl | rfl | rfl | rfl <;> first | rfl | (exfalso; omega)) | (with_reducible assumption) | omega | ((with_reducible show growOk _ _); simp only [growOk, ty2, ty3, ty4, ty5, ty9, ty21, ty37, ty42, ty43, ty45, ty47, ty67, ty95, ty105, ty113, ty150, ty161, ty198, ty242, ty275, List.length_cons, List.length_nil]; first | omega | (refine ⟨?_, ?_⟩ <;> omega))) | omega | decide))
    | (conv => arg 2; change decide (_ + runeW _ _ < _); simp only [List.toList_toArray, sB_eq, r0, r1, r2, r3, r4, w0, w1, w2, w3, w4, Nat.zero_add, Nat.reduceAdd, List.length_cons, List.length_nil])
    | fail) <;> (conv => whnf)))
  all_goals (try (show _ = _; simp only [wQ]))
  refine ⟨(partsI, [32]), ⟨jL_len, by decide⟩, ?_, ?_⟩
  · (conv => whnf)
    (repeat' ((first | with_reducible exact True.intro | ((with_reducible refine And.intro ?_ ?_); focus (first | with_reducible rfl | omega | exact Nat.le_of_ble_eq_true rfl | rfl)) | with_reducible refine And.intro (?_ : leA _ _ _) ?_ | fail) <;> (conv => whnf)))
    all_goals (try simp only [wQ])
    refine ⟨fun h => h, fun e he => ?_⟩
    change e < 6 at he
    rcases (by omega : e = 0 ∨ e = 1 ∨ e = 2 ∨ e = 3 ∨ e = 4 ∨ e = 5) with rfl | rfl | rfl | rfl | rfl | rfl <;> rfl
  (conv => whnf)
  all_goals (try (show _ = _; simp only [wQ]))
  all_goals exact jL_eq
end
end Go.Vc.Z

/- Acts' lines: the two that are looked at in each statement. -/
namespace Go.Vc.Z
open Go Go.Vc Go.Proofs Go.RowKit Go.Pl Go.Lib
def partsC : List (List UInt8) := [[99, 114, 97, 115, 104], Lib.itoa 1, Lib.itoa 4, Lib.itoa (-1)]
def partsD : List (List UInt8) := [[100, 111], Lib.itoa 0, lineI]
theorem itoa_m1 : Lib.itoa (-1) = [45, 49] := by
  unfold Lib.itoa; rw [if_pos (by decide)]
  rw [show (-1 : Int).natAbs = 1 from rfl, decDigits_one (by decide)]; rfl
theorem jC_eq : Lib.join partsC [32] = [99, 114, 97, 115, 104, 32, 49, 32, 52, 32, 45, 49] := by
  unfold partsC; rw [itoa_m1, itoa_one (n := 1) (by decide) (by decide), itoa_one (n := 4) (by decide) (by decide)]; rfl
theorem jD_eq : Lib.join partsD [32] = [100, 111, 32, 48, 32] ++ lineI := by
  unfold partsD; rw [itoa_one (n := 0) (by decide) (by decide)]; rfl
theorem jC_len : (Lib.join partsC [32]).length ≤ 140737488355328 := by rw [jC_eq]; decide
theorem jD_len : (Lib.join partsD [32]).length ≤ 140737488355328 := by rw [jD_eq]; decide
noncomputable section
set_option maxRecDepth 100000
set_option linter.unusedSimpArgs false
set_option linter.unusedVariables false
attribute [local irreducible] inK Utf8.decode Utf8.encode Lib.itoa Pl.worth Pl.allDig
attribute [local irreducible] Lib.join
def actA : Bool → AV
  | true => .agg [.int .i64 1, .int .i64 0, .str [107, 55], .int .i64 1, .int .i64 3, .int .u64 0, .int .i64 0, .int .i64 0, .str [65, 66, 67, 50, 51, 52], slE 6 Coupon.enc [c7], .nilsl, .int .i64 0, .int .i64 0, .int .i64 0, .int .i64 0, .nilsl, .bool false]
  | false => .agg [.int .i64 4, .int .i64 1, .str [], .int .i64 0, .int .i64 0, .int .u64 0, .int .i64 0, .int .i64 0, .str [], .nilsl, .nilsl, .int .i64 0, .int .i64 0, .int .i64 0, .int .i64 0, .sl false 1 2 (fun e => [.int .i64 (([4, -1] : List Int).getD e 0)]), .bool false]
def pcSMay : PC := PC.of (fun b : Bool => [actA b]) (fun _ => True) (fun _ => .bool (sB true))
def D_script_May : PT := tabD [(71, pcMayI)]
def C_script_May : FuncId → Option Ctr := tabC D_script_May []
def C1_script_May (b : Bool) : FuncId → Option Ctr := tabC D_script_May [(213, inl TY (C_script_May) D_script_May (fun _ => false) (fun _ _ _ => none) Tryz.f213)]
def LI2_script_May (b : Bool) : List AV → List Blk → Nat → Option LR := fun _ _ i => cond (Nat.beq i 4) (some (.unroll 1)) none
def C2_script_May (b : Bool) : FuncId → Option Ctr := tabC D_script_May [(214, inl TY (C1_script_May b) D_script_May (fun _ => false) (LI2_script_May b) Tryz.f214), (213, inl TY (C_script_May) D_script_May (fun _ => false) (fun _ _ _ => none) Tryz.f213)]
def LI3_script_May (b : Bool) : List AV → List Blk → Nat → Option LR := fun _ _ i => cond (Nat.beq i 4) (some (.unroll 1)) none
def C3_script_May (b : Bool) : FuncId → Option Ctr := tabC D_script_May [(215, inl TY (C2_script_May b) D_script_May (fun _ => false) (LI3_script_May b) Tryz.f215), (214, inl TY (C1_script_May b) D_script_May (fun _ => false) (LI2_script_May b) Tryz.f214), (213, inl TY (C_script_May) D_script_May (fun _ => false) (fun _ _ _ => none) Tryz.f213)]
def LI4_script_May (b : Bool) : List AV → List Blk → Nat → Option LR := fun cs H i => cond (Nat.beq i 2) (some (.order [0, 1, 3, 4, 2, 5, 6, 7, 8, 9, 10, 11, 12, 13, 14, 15, 16, 17, 18, 19, 20, 21])) (none)
def C4_script_May (b : Bool) : FuncId → Option Ctr := tabC D_script_May [(142, inl TY (C3_script_May b) D_script_May (fun _ => false) (LI4_script_May b) Tryz.f142), (215, inl TY (C2_script_May b) D_script_May (fun _ => false) (LI3_script_May b) Tryz.f215), (214, inl TY (C1_script_May b) D_script_May (fun _ => false) (LI2_script_May b) Tryz.f214), (213, inl TY (C_script_May) D_script_May (fun _ => false) (fun _ _ _ => none) Tryz.f213)]
def C5_script_May (b : Bool) : FuncId → Option Ctr := tabC D_script_May [(98, inl TY (C4_script_May b) D_script_May (fun _ => false) (fun _ _ _ => none) Tryz.f98), (142, inl TY (C3_script_May b) D_script_May (fun _ => false) (LI4_script_May b) Tryz.f142), (215, inl TY (C2_script_May b) D_script_May (fun _ => false) (LI3_script_May b) Tryz.f215), (214, inl TY (C1_script_May b) D_script_May (fun _ => false) (LI2_script_May b) Tryz.f214), (213, inl TY (C_script_May) D_script_May (fun _ => false) (fun _ _ _ => none) Tryz.f213)]
set_option maxHeartbeats 2000000 in
theorem g_script_May {W : World} (hW : Tabs W) : GoodP (Fw W) Tryz.prog 36 pcSMay := by
  have hD : PTOk (Fw W) Tryz.prog D_script_May := (tabD_cons Tryz.call71 (g_request_May hW) tabD_nil)
  have hC0 : ∀ b : Bool, CtrOk (Fw W) Tryz.prog (C_script_May) := fun b => (tabC_nil hD)
  have hC1 : ∀ b : Bool, CtrOk (Fw W) Tryz.prog (C1_script_May b) := fun b => tabC_cons Tryz.call213 (good_inl rfl tyOk hD (hC0 b) Tryz.func213 (fun _ _ _ => none)) (hC0 b)
  have hC2 : ∀ b : Bool, CtrOk (Fw W) Tryz.prog (C2_script_May b) := fun b => tabC_cons Tryz.call214 (good_inl rfl tyOk hD (hC1 b) Tryz.func214 (LI2_script_May b)) (hC1 b)
  have hC3 : ∀ b : Bool, CtrOk (Fw W) Tryz.prog (C3_script_May b) := fun b => tabC_cons Tryz.call215 (good_inl rfl tyOk hD (hC2 b) Tryz.func215 (LI3_script_May b)) (hC2 b)
  have hC4 : ∀ b : Bool, CtrOk (Fw W) Tryz.prog (C4_script_May b) := fun b => tabC_cons Tryz.call142 (good_inl rfl tyOk hD (hC3 b) Tryz.func142 (LI4_script_May b)) (hC3 b)
  have hC5 : ∀ b : Bool, CtrOk (Fw W) Tryz.prog (C5_script_May b) := fun b => tabC_cons Tryz.call98 (good_inl rfl tyOk hD (hC4 b) Tryz.func98 (fun _ _ _ => none)) (hC4 b)
  refine goodP_ofC (D := D_script_May) (C := fun b => C5_script_May b) (wr := (fun _ => false)) rfl tyOk hD hC5 Tryz.func36 (fun _ _ => none) (fun z => by cases z <;> rfl) ?_
  intro b hf hp
  clear hf
  cases b
  · (conv => whnf)
    (repeat' ((first
      | (with_reducible refine inl_intro ?_)
      | (refine optP_bare ?_)
      | with_reducible refine And.intro (?_ : opQ _ _ _ _ _ _) ?_
      | ((with_reducible refine And.intro ?_ ?_); focus (((with_reducible show okQ _ _ = true); rfl)))
      | with_reducible refine (fun (hln : (_ : Int) ≤ 9223372036854775807) => ?_)
      | fail) <;> (conv => whnf)))
    all_goals (try (show _ = _; simp only [wQ]))
    all_goals rfl
  · (conv => whnf)
    all_goals (try (show _ = _; simp only [wQ]))
    refine ⟨(), True.intro, ?_, ?_⟩
    · exact leL_rfl _
    (conv => whnf)
    (repeat' ((first
      | (with_reducible refine inl_intro ?_)
      | (refine optP_bare ?_)
      | (exact absurd (by with_reducible assumption) Bool.false_ne_true.symm)
      | with_reducible refine And.intro (?_ : opQ _ _ _ _ _ _) ?_
      | ((with_reducible refine And.intro ?_ ?_); focus (((with_reducible show okQ _ _ = true); rfl)))
      | (split <;> rename_i hh <;> (try simp only [wS] at hh) <;> (try simp (disch := omega) only [Int.tdiv_eq_ediv_of_nonneg, Int.tmod_eq_emod_of_nonneg] at hh))
      | fail) <;> (conv => whnf)))
    all_goals (try (show _ = _; simp only [wQ]))
    all_goals rfl
def actLn : Bool → List UInt8
  | true => [100, 111, 32, 48, 32] ++ lineI
  | false => [99, 114, 97, 115, 104, 32, 49, 32, 52, 32, 45, 49]
def pcActL : PC := PC.of (fun b : Bool => [actA b]) (fun _ => True) (fun b => .str (sS (actLn b)))
def D_script_ActLine : PT := tabD [(36, pcSMay), (46, pcItoaS), (24, pcLineI), (62, pcJoinS)]
def C_script_ActLine : FuncId → Option Ctr := tabC D_script_ActLine []
def L_script_ActLine : Bool → Nat → Option LR := fun b i => cond (Nat.beq i 15) (some (.unroll 3)) (none)
set_option maxHeartbeats 2000000 in
theorem g_script_ActLine {W : World} (hW : Tabs W) : GoodP (Fw W) Tryz.prog 34 pcActL := by
  have hD : PTOk (Fw W) Tryz.prog D_script_ActLine := (tabD_cons Tryz.call36 (g_script_May hW) (tabD_cons Tryz.call46 (g_script_digits hW) (tabD_cons Tryz.call24 (g_script_RequestLine hW) (tabD_cons Tryz.call62 (goodJoinS hW) tabD_nil))))
  have hC0 : ∀ b : Bool, CtrOk (Fw W) Tryz.prog (C_script_ActLine) := fun b => (tabC_nil hD)
  refine goodP_ofC (D := D_script_ActLine) (C := fun b => C_script_ActLine) (wr := (fun _ => false)) rfl tyOk hD hC0 Tryz.func34 (L_script_ActLine) (fun z => by cases z <;> rfl) ?_
  intro b hf hp
  clear hf
  cases b
  · (conv => whnf)
    all_goals (try (show _ = _; simp only [wQ]))
    refine ⟨false, True.intro, ?_, ?_⟩
    · exact leL_rfl _
    (conv => whnf)
    (repeat' ((first
      | (exact absurd (by with_reducible assumption) Bool.false_ne_true)
      | ((with_reducible refine And.intro ?_ ?_); focus (first | with_reducible exact True.intro | ((with_reducible refine ⟨?_, ?_, ?_⟩) <;> first | (intro e he; rcases (by omega : e = 0 ∨ e = 1 ∨ e = 2 ∨ e = 3 ∨ e = 4 ∨ e = 5) with rfl | rfl | rfl | rfl | rfl | rfl <;> first | rfl | (exfalso; omega)) | (with_reducible assumption) | omega | ((with_reducible show growOk _ _); simp only [growOk, ty2, ty3, ty4, ty5, ty9, ty21, ty37, ty42, ty43, ty45, ty47, ty67, ty95, ty105, ty113, ty150, ty161, ty198, ty242, ty275, List.length_cons, List.length_nil]; first | omega | (refine ⟨?_, ?_⟩ <;> omega))) | omega | (simp only [inK_def, Go.Vc.lo, Go.Vc.hi]; omega) | (simp only [growOk, ty2, ty3, ty4, ty5, ty9, ty21, ty37, ty42, ty43, ty45, ty47, ty67, ty95, ty105, ty113, ty150, ty161, ty198, ty242, ty275]; first | omega | (refine ⟨?_, ?_⟩ <;> omega)) | decide))
      | (split <;> rename_i hh <;> (try simp only [wS] at hh) <;> (try simp (disch := omega) only [Int.tdiv_eq_ediv_of_nonneg, Int.tmod_eq_emod_of_nonneg] at hh))
      | with_reducible refine (fun (hln : (_ : Int) ≤ 9223372036854775807) => ?_)
      | fail) <;> (conv => whnf)))
    all_goals (try (show _ = _; simp only [wQ]))
    refine ⟨(partsC, [32]), ⟨jC_len, by decide⟩, ?_, ?_⟩
    · (conv => whnf)
      (repeat' ((first | with_reducible exact True.intro | ((with_reducible refine And.intro ?_ ?_); focus (first | with_reducible rfl | omega | exact Nat.le_of_ble_eq_true rfl | rfl)) | with_reducible refine And.intro (?_ : leA _ _ _) ?_ | fail) <;> (conv => whnf)))
      all_goals (try simp only [wQ])
      refine ⟨fun h => h, fun e he => ?_⟩
      change e < 4 at he
      rcases (by omega : e = 0 ∨ e = 1 ∨ e = 2 ∨ e = 3) with rfl | rfl | rfl | rfl <;> rfl
    (conv => whnf)
    all_goals (try (show _ = _; simp only [wQ]))
    all_goals exact jC_eq
  · (conv => whnf)
    all_goals (try (show _ = _; simp only [wQ]))
    refine ⟨true, True.intro, ?_, ?_⟩
    · exact leL_rfl _
    (conv => whnf)
    (repeat' ((first
      | (exact absurd (by with_reducible assumption) Bool.false_ne_true)
      | ((with_reducible refine And.intro ?_ ?_); focus (first | with_reducible exact True.intro | ((with_reducible show okB _ _ _ = true); rfl)))
      | (split <;> rename_i hh <;> (try simp only [wS] at hh) <;> (try simp (disch := omega) only [Int.tdiv_eq_ediv_of_nonneg, Int.tmod_eq_emod_of_nonneg] at hh))
      | fail) <;> (conv => whnf)))
    all_goals (try (show _ = _; simp only [wQ]))
    refine ⟨(), True.intro, ?_, ?_⟩
    · exact leL_rfl _
    (conv => whnf)
    (repeat' ((first
      | ((with_reducible refine And.intro ?_ ?_); focus (decide))
      | fail) <;> (conv => whnf)))
    all_goals (try (show _ = _; simp only [wQ]))
    refine ⟨(partsD, [32]), ⟨jD_len, by decide⟩, ?_, ?_⟩
    · (conv => whnf)
      (repeat' ((first | with_reducible exact True.intro | ((with_reducible refine And.intro ?_ ?_); focus (first | with_reducible rfl | omega | exact Nat.le_of_ble_eq_true rfl | rfl)) | with_reducible refine And.intro (?_ : leA _ _ _) ?_ | fail) <;> (conv => whnf)))
      all_goals (try simp only [wQ])
      refine ⟨fun h => h, fun e he => ?_⟩
      change e < 3 at he
      rcases (by omega : e = 0 ∨ e = 1 ∨ e = 2) with rfl | rfl | rfl <;> rfl
    (conv => whnf)
    all_goals (try (show _ = _; simp only [wQ]))
    all_goals exact jD_eq
end
end Go.Vc.Z

/- known(): true. -/
namespace Go.Vc.Z
open Go Go.Vc Go.Proofs Go.RowKit Go.Pl Go.Lib
def told0 : Told := ⟨⟨6, [], [], []⟩, 0, 0⟩
theorem lines0 : linesL told0 = [[111, 107, 32, 110, 111, 110, 101, 32, 48]] := by
  unfold linesL toldOk mayAnsB longB lineHd codeW
  rw [show Lib.itoa told0.came = [48] from itoa_one (n := 0) (by decide) (by decide)]
  rfl
noncomputable section
set_option maxRecDepth 100000
set_option linter.unusedSimpArgs false
set_option linter.unusedVariables false
attribute [local irreducible] inK Utf8.decode Utf8.encode Lib.itoa Pl.worth Pl.allDig
attribute [local irreducible] Lib.join
def pcKnown : PC := PC.fun fun | [] => some (True, .bool (sB true)) | _ => none
def D_couponlaw26_known : PT := tabD [(13, pcLines), (34, pcActL)]
def C_couponlaw26_known : FuncId → Option Ctr := tabC D_couponlaw26_known []
set_option maxHeartbeats 2000000 in
theorem g_couponlaw26_known {W : World} (hW : Tabs W) : GoodP (Fw W) Tryz.prog 12 pcKnown := by
  have hD : PTOk (Fw W) Tryz.prog D_couponlaw26_known := (tabD_cons Tryz.call13 (g_script_Lines hW) (tabD_cons Tryz.call34 (g_script_ActLine hW) tabD_nil))
  have hC0 : CtrOk (Fw W) Tryz.prog C_couponlaw26_known := (tabC_nil hD)
  refine goodP_fun (D := D_couponlaw26_known) (C := C_couponlaw26_known) (wr := (fun _ => false)) rfl tyOk hD hC0 Tryz.func12 (fun _ _ => none) ?_
  clear hC0 hD hW
  intro cs p r h hf hp
  split at h
  case h_2 => cases h
  skip
  cases h
  try simp only [factL, factA, inK_def, Go.Vc.lo, Go.Vc.hi, and_true] at hf
  have hl : (sL (linesL told0)).length = 1 := by rw [sL_eq, lines0]; rfl
  have hT : actLn true = [100, 111, 32, 48, 32, 105, 115, 115, 117, 101, 32, 107, 55, 32, 51, 32, 65, 66, 67, 50, 51, 52, 32, 55, 64, 57, 61, 49, 48, 46, 48, 48, 32, 45] := rfl
  have hC : actLn false = [99, 114, 97, 115, 104, 32, 49, 32, 52, 32, 45, 49] := rfl
  (conv => whnf)
  all_goals (try (show _ = _; simp only [wQ]))
  refine ⟨told0, True.intro, ?_, ?_⟩
  · (conv => whnf)
    (repeat' ((first | with_reducible exact True.intro | ((with_reducible refine And.intro ?_ ?_); focus (first | with_reducible rfl | omega | exact Nat.le_of_ble_eq_true rfl | rfl)) | with_reducible refine And.intro (?_ : leA _ _ _) ?_ | fail) <;> (conv => whnf)))
    all_goals (try simp only [wQ])
    all_goals (try first | rfl)
  (conv => whnf)
  (repeat' ((first
    | ((with_reducible refine And.intro ?_ ?_); focus (decide))
    | fail) <;> (conv => whnf)))
  all_goals (try (show _ = _; simp only [wQ]))
  refine ⟨true, True.intro, ?_, ?_⟩
  · (conv => whnf)
    (repeat' ((first | with_reducible exact True.intro | ((with_reducible refine And.intro ?_ ?_); focus (first | with_reducible rfl | omega | exact Nat.le_of_ble_eq_true rfl | rfl)) | with_reducible refine And.intro (?_ : leA _ _ _) ?_ | fail) <;> (conv => whnf)))
    all_goals (try simp only [wQ])
    exact ⟨fun h => h, fun e he => by obtain rfl : e = 0 := (by omega); rfl⟩
  (conv => whnf)
  (repeat' ((first
    | (exact absurd hT (by with_reducible assumption))
    | ((with_reducible refine And.intro ?_ ?_); focus (decide))
    | (split <;> rename_i hh <;> (try simp only [wS] at hh) <;> (try simp (disch := omega) only [Int.tdiv_eq_ediv_of_nonneg, Int.tmod_eq_emod_of_nonneg] at hh))
    | fail) <;> (conv => whnf)))
  all_goals (try (show _ = _; simp only [wQ]))
  refine ⟨false, True.intro, ?_, ?_⟩
  · (conv => whnf)
    (repeat' ((first | with_reducible exact True.intro | ((with_reducible refine And.intro ?_ ?_); focus (first | with_reducible rfl | omega | exact Nat.le_of_ble_eq_true rfl | rfl)) | with_reducible refine And.intro (?_ : leA _ _ _) ?_ | fail) <;> (conv => whnf)))
    all_goals (try simp only [wQ])
    exact ⟨fun h => h, fun e he => by rcases (by change e < 2 at he; omega : e = 0 ∨ e = 1) with rfl | rfl <;> rfl⟩
  (conv => whnf)
  (repeat' ((first
    | (exact absurd hC (by with_reducible assumption))
    | ((with_reducible refine And.intro ?_ ?_); focus (omega))
    | (split <;> rename_i hh <;> (try simp only [wS] at hh) <;> (try simp (disch := omega) only [Int.tdiv_eq_ediv_of_nonneg, Int.tmod_eq_emod_of_nonneg] at hh))
    | with_reducible refine (fun (hln : (_ : Int) ≤ 9223372036854775807) => ?_)
    | fail) <;> (conv => whnf)))
  all_goals (try (show _ = _; simp only [wQ]))
  all_goals first | (exfalso; omega) | (simp only [sL_eq, lines0]; rfl)
end
end Go.Vc.Z

/- The law ScriptTells: true. -/
namespace Go.Vc.Z
open Go Go.Vc Go.Proofs Go.RowKit Go.Pl Go.Lib
noncomputable section
set_option maxRecDepth 100000
set_option linter.unusedSimpArgs false
set_option linter.unusedVariables false
attribute [local irreducible] inK Utf8.decode Utf8.encode Lib.itoa Pl.worth Pl.allDig
attribute [local irreducible] Lib.join
end
end Go.Vc.Z

/- couponref13.Same: are two tickets the same. -/
namespace Go.Vc.Z
open Go Go.Vc Go.Proofs Go.RowKit Go.Pl Go.Lib
noncomputable section
set_option maxRecDepth 100000
set_option linter.unusedSimpArgs false
set_option linter.unusedVariables false
attribute [local irreducible] inK Utf8.decode Utf8.encode Lib.itoa Pl.worth Pl.allDig
attribute [local irreducible] Lib.join
open Classical in
@[irreducible] def sameT (a b : Ticket) : Bool := decide (a = b)
theorem sameT_iff {a b : Ticket} : sameT a b = true ↔ a = b := by unfold sameT; simp
open Classical in
@[irreducible] def cEq (a b : Coupon) : Bool := decide (a = b)
theorem cEq_iff {a b : Coupon} : cEq a b = true ↔ a = b := by unfold cEq; simp
open Classical in
@[irreducible] def xEq (a b : Tax) : Bool := decide (a = b)
theorem xEq_iff {a b : Tax} : xEq a b = true ↔ a = b := by unfold xEq; simp
open Classical in
@[irreducible] def eEq (a b : Event) : Bool := decide (a = b)
theorem eEq_iff {a b : Event} : eEq a b = true ↔ a = b := by unfold eEq; simp
open Classical in
@[irreducible] def lEq (a b : Loan) : Bool := decide (a = b)
theorem lEq_iff {a b : Loan} : lEq a b = true ↔ a = b := by unfold lEq; simp
theorem eqA_tax (k : Nat) (c m c' m' : Int) : eqA TY (k + 3) 113 (.agg [.int .i64 c, .int .i64 m]) (.agg [.int .i64 c', .int .i64 m']) = some (c == c' && m == m') := by
  have e1 : TY 113 = some ty113 := rfl
  have e3 : TY 3 = some ty3 := rfl
  have e2 : TY 2 = some ty2 := rfl
  simp [eqA, eqFs, e1, e3, e2, ty113, ty3, ty2, loadA, eqI_eq]
theorem eqA_event (k : Nat) (a b c d a' b' c' d' : Int) : eqA TY (k + 3) 105 (.agg [.int .i64 a, .int .i64 b, .int .i64 c, .int .i64 d]) (.agg [.int .i64 a', .int .i64 b', .int .i64 c', .int .i64 d']) = some (a == a' && (b == b' && (c == c' && d == d'))) := by
  have e1 : TY 105 = some ty105 := rfl
  have e3 : TY 3 = some ty3 := rfl
  have e2 : TY 2 = some ty2 := rfl
  have e43 : TY 43 = some ty43 := rfl
  simp [eqA, eqFs, e1, e3, e2, e43, ty105, ty3, ty2, ty43, loadA, eqI_eq]
theorem optP_cEq {k : Nat} {c d : Coupon} {N : Bool → Prop} (hN : N (cEq c d)) : optP (eqA TY (k + 3) 45 (.agg [.int .i64 c.flight, .int .i64 c.day, .int .i64 c.value, .int .i64 c.status, .int .i64 c.holder, .int .u64 c.next]) (.agg [.int .i64 d.flight, .int .i64 d.day, .int .i64 d.value, .int .i64 d.status, .int .i64 d.holder, .int .u64 d.next])) N := by
  rw [eqA_coupon]
  have : cEq c d = (c.flight == d.flight && (c.day == d.day && (c.value == d.value && (c.status == d.status && (c.holder == d.holder && c.next == d.next))))) := by
    cases c; cases d; rw [Bool.eq_iff_iff, cEq_iff]; simp
  rw [this] at hN; exact hN
theorem optP_xEq {k : Nat} {c d : Tax} {N : Bool → Prop} (hN : N (xEq c d)) : optP (eqA TY (k + 3) 113 (.agg [.int .i64 c.code, .int .i64 c.amount]) (.agg [.int .i64 d.code, .int .i64 d.amount])) N := by
  rw [eqA_tax]
  have : xEq c d = (c.code == d.code && c.amount == d.amount) := by
    cases c; cases d; rw [Bool.eq_iff_iff, xEq_iff]; simp
  rw [this] at hN; exact hN
theorem optP_eEq {k : Nat} {c d : Event} {N : Bool → Prop} (hN : N (eEq c d)) : optP (eqA TY (k + 3) 105 (.agg [.int .i64 c.day, .int .i64 c.coupon, .int .i64 c.src, .int .i64 c.dst]) (.agg [.int .i64 d.day, .int .i64 d.coupon, .int .i64 d.src, .int .i64 d.dst])) N := by
  rw [eqA_event]
  have : eEq c d = (c.day == d.day && (c.coupon == d.coupon && (c.src == d.src && c.dst == d.dst))) := by
    cases c; cases d; rw [Bool.eq_iff_iff, eEq_iff]; simp
  rw [this] at hN; exact hN
theorem optP_lEq {c d : Loan} {N : Bool → Prop} (hN : N (lEq c d)) : optP (eqA TY 12 47 (.agg [.int .u64 c.ticket, .int .i64 c.coupon, .bool c.held, .int .i64 c.what.flight, .int .i64 c.what.day, .int .i64 c.what.value, .int .i64 c.what.status, .int .i64 c.what.holder, .int .u64 c.what.next]) (.agg [.int .u64 d.ticket, .int .i64 d.coupon, .bool d.held, .int .i64 d.what.flight, .int .i64 d.what.day, .int .i64 d.what.value, .int .i64 d.what.status, .int .i64 d.what.holder, .int .u64 d.what.next])) N := by
  rw [eqA_loan]
  have : lEq c d = (c.ticket == d.ticket && (c.coupon == d.coupon && (c.held == d.held && (c.what.flight == d.what.flight && (c.what.day == d.what.day && (c.what.value == d.what.value && (c.what.status == d.what.status && (c.what.holder == d.what.holder && c.what.next == d.what.next)))))))) := by
    obtain ⟨_, _, _, ⟨_, _, _, _, _, _⟩⟩ := c
    obtain ⟨_, _, _, ⟨_, _, _, _, _, _⟩⟩ := d
    rw [Bool.eq_iff_iff, lEq_iff]; simp
  rw [this] at hN; exact hN
theorem list_eq_getD {α : Type} [Inhabited α] : ∀ {l m : List α}, l.length = m.length → (∀ j, j < l.length → l.getD j default = m.getD j default) → l = m
  | [], [], _, _ => rfl
  | [], _ :: _, h, _ => by simp at h
  | _ :: _, [], h, _ => by simp at h
  | a :: l, b :: m, h, hj => by
    have h0 : a = b := hj 0 (by simp)
    have := list_eq_getD (l := l) (m := m) (by simpa using h) (fun j hl => by
      have := hj (j + 1) (by simp; omega)
      exact this)
    rw [h0, this]
def pcSameT : PC := PC.of (fun x : Ticket × Ticket => [.agg x.1.enc, .agg x.2.enc]) (fun _ => True) (fun x => .bool (sB (sameT x.1 x.2)))
def LS {α : Type} [Inhabited α] (x : Ticket × Ticket) (k : Nat) (l m : List α) : LoopSpec := {
  α := Nat
  keep := [2, 3, k]
  vals i := [.ptr 0 0, .ptr 1 0, .int .i64 i]
  heap _ := [.var x.1.enc, .var x.2.enc]
  ok i := i ≤ l.length ∧ ∀ j, j < i → l.getD j default = m.getD j default
  μ i := l.length - i }
theorem same_no {a b : Ticket} (h : a ≠ b) : false = sameT a b := by
  cases hs : sameT a b with
  | false => rfl
  | true => exact absurd (sameT_iff.1 hs) h
def D_couponref13_Same : PT := tabD []
def C_couponref13_Same : FuncId → Option Ctr := tabC D_couponref13_Same []
def L_couponref13_Same : Ticket × Ticket → Nat → Option LR := fun x i => cond (Nat.beq i 6) (some (.inv (LS x 5 x.1.coupons x.2.coupons))) (cond (Nat.beq i 11) (some (.inv (LS x 6 x.1.taxes x.2.taxes))) (cond (Nat.beq i 16) (some (.inv (LS x 7 x.1.history x.2.history))) (none)))
set_option maxHeartbeats 2000000 in
theorem g_couponref13_Same {W : World} (hW : Tabs W) : GoodP (Fw W) Tryz.prog 20 pcSameT := by
  have hD : PTOk (Fw W) Tryz.prog D_couponref13_Same := tabD_nil
  have hC0 : ∀ x : Ticket × Ticket, CtrOk (Fw W) Tryz.prog (C_couponref13_Same) := fun x => (tabC_nil hD)
  refine goodP_ofC (D := D_couponref13_Same) (C := fun x => C_couponref13_Same) (wr := (fun _ => false)) rfl tyOk hD hC0 Tryz.func20 (L_couponref13_Same) (fun _ => rfl) ?_
  rintro ⟨a, b⟩ hf hp
  clear hf
  have kc : ∀ c : Coupon, cEq c c = true := fun c => cEq_iff.2 rfl
  have kx : ∀ c : Tax, xEq c c = true := fun c => xEq_iff.2 rfl
  have ke : ∀ c : Event, eEq c c = true := fun c => eEq_iff.2 rfl
  (conv => whnf)
  (repeat' ((first
    | (split <;> rename_i hh <;> (try simp only [wS] at hh) <;> (try simp (disch := omega) only [Int.tdiv_eq_ediv_of_nonneg, Int.tmod_eq_emod_of_nonneg] at hh))
    | with_reducible refine (fun (hln : (_ : Int) ≤ 9223372036854775807) => ?_)
    | fail) <;> (conv => whnf)))
  all_goals (try (show _ = _; simp only [wQ]))
  all_goals try (refine same_no fun h => ?_; subst h; simp_all; done)
  refine ⟨?_, fun (i : Nat) hi => ?_⟩
  · (conv => whnf)
    refine ⟨(0 : Nat), [], ?_, ⟨⟨rfl, Nat.le_of_ble_eq_true rfl, rfl⟩, ?_, ?_⟩⟩
    · exact ⟨Nat.zero_le _, fun j hj => absurd hj (Nat.not_lt_zero _)⟩
    · (conv => whnf)
      (repeat' ((first | with_reducible exact True.intro | ((with_reducible refine And.intro ?_ ?_); focus (first | with_reducible rfl | omega | exact Nat.le_of_ble_eq_true rfl | rfl)) | with_reducible refine And.intro (?_ : leA _ _ _) ?_ | fail) <;> (conv => whnf)))
      all_goals (try simp only [wQ])
      all_goals (try first | omega)
    · (conv => whnf)
      (repeat' ((first | with_reducible exact True.intro | ((with_reducible refine And.intro ?_ ?_); focus (first | with_reducible rfl | omega | exact Nat.le_of_ble_eq_true rfl | rfl)) | with_reducible refine And.intro (?_ : leA _ _ _) ?_ | with_reducible refine And.intro (?_ : leL _ _ _) ?_ | with_reducible refine And.intro (?_ : leBlk _ _ _ _) ?_ | fail) <;> (conv => whnf)))
      all_goals (try simp only [wQ])
      all_goals (try first | rfl | exact ⟨fun h => h, fun _ _ => True.intro⟩)
  · obtain ⟨h1, m1⟩ := hi
    have h1 : i ≤ a.coupons.length := h1
    (conv => whnf)
    (repeat' ((first
      | (refine optP_cEq ?_)
      | ((with_reducible refine And.intro ?_ ?_); focus (first | ((with_reducible show okB _ _ _ = true); rfl) | ((with_reducible refine ⟨?_, ?_⟩) <;> first | with_reducible assumption | omega) | (simp only [inK_def, Go.Vc.lo, Go.Vc.hi]; omega) | (dsimp only at *; simp only [inK_def, Go.Vc.lo, Go.Vc.hi]; omega)))
      | (split <;> rename_i hh <;> (try simp only [wS] at hh) <;> (try simp (disch := omega) only [Int.tdiv_eq_ediv_of_nonneg, Int.tmod_eq_emod_of_nonneg] at hh))
      | with_reducible refine (fun (hln : (_ : Int) ≤ 9223372036854775807) => ?_)
      | fail) <;> (conv => whnf)))
    all_goals (try (show _ = _; simp only [wQ]))
    · refine same_no fun h => ?_; subst h; rw [kc _] at hh; cases hh
    · (conv => whnf)
      refine ⟨(i + 1 : Nat), [], ?_, ⟨⟨rfl, Nat.le_of_ble_eq_true rfl, rfl⟩, ?_, ?_⟩⟩
      · refine ⟨⟨show i + 1 ≤ a.coupons.length by omega, fun j hj => ?_⟩, show a.coupons.length - (i + 1) < a.coupons.length - i by omega⟩
        have hj : j < i + 1 := hj
        by_cases he : j = i
        · subst he; exact cEq_iff.1 hh
        · exact m1 j (by omega)
      · (conv => whnf)
        (repeat' ((first | with_reducible exact True.intro | ((with_reducible refine And.intro ?_ ?_); focus (first | with_reducible rfl | omega | exact Nat.le_of_ble_eq_true rfl | rfl)) | with_reducible refine And.intro (?_ : leA _ _ _) ?_ | fail) <;> (conv => whnf)))
        all_goals (try simp only [wQ])
        all_goals (try first | omega)
      · (conv => whnf)
        (repeat' ((first | with_reducible exact True.intro | ((with_reducible refine And.intro ?_ ?_); focus (first | with_reducible rfl | omega | exact Nat.le_of_ble_eq_true rfl | rfl)) | with_reducible refine And.intro (?_ : leA _ _ _) ?_ | with_reducible refine And.intro (?_ : leL _ _ _) ?_ | with_reducible refine And.intro (?_ : leBlk _ _ _ _) ?_ | fail) <;> (conv => whnf)))
        all_goals (try simp only [wQ])
        all_goals (try first | rfl | exact ⟨fun h => h, fun _ _ => True.intro⟩)
    refine ⟨?_, fun (i : Nat) hi => ?_⟩
    · (conv => whnf)
      refine ⟨(0 : Nat), [], ?_, ⟨⟨rfl, Nat.le_of_ble_eq_true rfl, rfl⟩, ?_, ?_⟩⟩
      · exact ⟨Nat.zero_le _, fun j hj => absurd hj (Nat.not_lt_zero _)⟩
      · (conv => whnf)
        (repeat' ((first | with_reducible exact True.intro | ((with_reducible refine And.intro ?_ ?_); focus (first | with_reducible rfl | omega | exact Nat.le_of_ble_eq_true rfl | rfl)) | with_reducible refine And.intro (?_ : leA _ _ _) ?_ | fail) <;> (conv => whnf)))
        all_goals (try simp only [wQ])
        all_goals (try first | omega)
      · (conv => whnf)
        (repeat' ((first | with_reducible exact True.intro | ((with_reducible refine And.intro ?_ ?_); focus (first | with_reducible rfl | omega | exact Nat.le_of_ble_eq_true rfl | rfl)) | with_reducible refine And.intro (?_ : leA _ _ _) ?_ | with_reducible refine And.intro (?_ : leL _ _ _) ?_ | with_reducible refine And.intro (?_ : leBlk _ _ _ _) ?_ | fail) <;> (conv => whnf)))
        all_goals (try simp only [wQ])
        all_goals (try first | rfl | exact ⟨fun h => h, fun _ _ => True.intro⟩)
    · obtain ⟨h1, m2⟩ := hi
      have h1 : i ≤ a.taxes.length := h1
      (conv => whnf)
      (repeat' ((first
        | (refine optP_xEq ?_)
        | ((with_reducible refine And.intro ?_ ?_); focus (first | ((with_reducible show okB _ _ _ = true); rfl) | ((with_reducible refine ⟨?_, ?_⟩) <;> first | with_reducible assumption | omega) | (simp only [inK_def, Go.Vc.lo, Go.Vc.hi]; omega) | (dsimp only at *; simp only [inK_def, Go.Vc.lo, Go.Vc.hi]; omega)))
        | (split <;> rename_i hh <;> (try simp only [wS] at hh) <;> (try simp (disch := omega) only [Int.tdiv_eq_ediv_of_nonneg, Int.tmod_eq_emod_of_nonneg] at hh))
        | with_reducible refine (fun (hln : (_ : Int) ≤ 9223372036854775807) => ?_)
        | fail) <;> (conv => whnf)))
      all_goals (try (show _ = _; simp only [wQ]))
      · refine same_no fun h => ?_; subst h; rw [kx _] at hh; cases hh
      · (conv => whnf)
        refine ⟨(i + 1 : Nat), [], ?_, ⟨⟨rfl, Nat.le_of_ble_eq_true rfl, rfl⟩, ?_, ?_⟩⟩
        · refine ⟨⟨show i + 1 ≤ a.taxes.length by omega, fun j hj => ?_⟩, show a.taxes.length - (i + 1) < a.taxes.length - i by omega⟩
          have hj : j < i + 1 := hj
          by_cases he : j = i
          · subst he; exact xEq_iff.1 hh
          · exact m2 j (by omega)
        · (conv => whnf)
          (repeat' ((first | with_reducible exact True.intro | ((with_reducible refine And.intro ?_ ?_); focus (first | with_reducible rfl | omega | exact Nat.le_of_ble_eq_true rfl | rfl)) | with_reducible refine And.intro (?_ : leA _ _ _) ?_ | fail) <;> (conv => whnf)))
          all_goals (try simp only [wQ])
          all_goals (try first | omega)
        · (conv => whnf)
          (repeat' ((first | with_reducible exact True.intro | ((with_reducible refine And.intro ?_ ?_); focus (first | with_reducible rfl | omega | exact Nat.le_of_ble_eq_true rfl | rfl)) | with_reducible refine And.intro (?_ : leA _ _ _) ?_ | with_reducible refine And.intro (?_ : leL _ _ _) ?_ | with_reducible refine And.intro (?_ : leBlk _ _ _ _) ?_ | fail) <;> (conv => whnf)))
          all_goals (try simp only [wQ])
          all_goals (try first | rfl | exact ⟨fun h => h, fun _ _ => True.intro⟩)
      refine ⟨?_, fun (i : Nat) hi => ?_⟩
      · (conv => whnf)
        refine ⟨(0 : Nat), [], ?_, ⟨⟨rfl, Nat.le_of_ble_eq_true rfl, rfl⟩, ?_, ?_⟩⟩
        · exact ⟨Nat.zero_le _, fun j hj => absurd hj (Nat.not_lt_zero _)⟩
        · (conv => whnf)
          (repeat' ((first | with_reducible exact True.intro | ((with_reducible refine And.intro ?_ ?_); focus (first | with_reducible rfl | omega | exact Nat.le_of_ble_eq_true rfl | rfl)) | with_reducible refine And.intro (?_ : leA _ _ _) ?_ | fail) <;> (conv => whnf)))
          all_goals (try simp only [wQ])
          all_goals (try first | omega)
        · (conv => whnf)
          (repeat' ((first | with_reducible exact True.intro | ((with_reducible refine And.intro ?_ ?_); focus (first | with_reducible rfl | omega | exact Nat.le_of_ble_eq_true rfl | rfl)) | with_reducible refine And.intro (?_ : leA _ _ _) ?_ | with_reducible refine And.intro (?_ : leL _ _ _) ?_ | with_reducible refine And.intro (?_ : leBlk _ _ _ _) ?_ | fail) <;> (conv => whnf)))
          all_goals (try simp only [wQ])
          all_goals (try first | rfl | exact ⟨fun h => h, fun _ _ => True.intro⟩)
      · obtain ⟨h1, m3⟩ := hi
        have h1 : i ≤ a.history.length := h1
        (conv => whnf)
        (repeat' ((first
          | (refine optP_eEq ?_)
          | ((with_reducible refine And.intro ?_ ?_); focus (first | ((with_reducible show okB _ _ _ = true); rfl) | ((with_reducible refine ⟨?_, ?_⟩) <;> first | with_reducible assumption | omega) | (simp only [inK_def, Go.Vc.lo, Go.Vc.hi]; omega) | (dsimp only at *; simp only [inK_def, Go.Vc.lo, Go.Vc.hi]; omega)))
          | (split <;> rename_i hh <;> (try simp only [wS] at hh) <;> (try simp (disch := omega) only [Int.tdiv_eq_ediv_of_nonneg, Int.tmod_eq_emod_of_nonneg] at hh))
          | with_reducible refine (fun (hln : (_ : Int) ≤ 9223372036854775807) => ?_)
          | fail) <;> (conv => whnf)))
        all_goals (try (show _ = _; simp only [wQ]))
        · refine same_no fun h => ?_; subst h; rw [ke _] at hh; cases hh
        · (conv => whnf)
          refine ⟨(i + 1 : Nat), [], ?_, ⟨⟨rfl, Nat.le_of_ble_eq_true rfl, rfl⟩, ?_, ?_⟩⟩
          · refine ⟨⟨show i + 1 ≤ a.history.length by omega, fun j hj => ?_⟩, show a.history.length - (i + 1) < a.history.length - i by omega⟩
            have hj : j < i + 1 := hj
            by_cases he : j = i
            · subst he; exact eEq_iff.1 hh
            · exact m3 j (by omega)
          · (conv => whnf)
            (repeat' ((first | with_reducible exact True.intro | ((with_reducible refine And.intro ?_ ?_); focus (first | with_reducible rfl | omega | exact Nat.le_of_ble_eq_true rfl | rfl)) | with_reducible refine And.intro (?_ : leA _ _ _) ?_ | fail) <;> (conv => whnf)))
            all_goals (try simp only [wQ])
            all_goals (try first | omega)
          · (conv => whnf)
            (repeat' ((first | with_reducible exact True.intro | ((with_reducible refine And.intro ?_ ?_); focus (first | with_reducible rfl | omega | exact Nat.le_of_ble_eq_true rfl | rfl)) | with_reducible refine And.intro (?_ : leA _ _ _) ?_ | with_reducible refine And.intro (?_ : leL _ _ _) ?_ | with_reducible refine And.intro (?_ : leBlk _ _ _ _) ?_ | fail) <;> (conv => whnf)))
            all_goals (try simp only [wQ])
            all_goals (try first | rfl | exact ⟨fun h => h, fun _ _ => True.intro⟩)
        refine (sameT_iff.2 ?_).symm
        have e1 : a.coupons = b.coupons := list_eq_getD (by omega) fun j hj => m1 j (by omega)
        have e2 : a.taxes = b.taxes := list_eq_getD (by omega) fun j hj => m2 j (by omega)
        have e3 : a.history = b.history := list_eq_getD (by omega) fun j hj => m3 j (by omega)
        cases a; cases b
        simp only at *
        simp only [*]
end
end Go.Vc.Z

/- Unlike tickets, and loans, have unlike lines: the plain law. -/
namespace Go.Vc.Z
open Go Go.Vc Go.Proofs Go.RowKit Go.Pl Go.Lib
theorem split_at {c : UInt8} : ∀ {x x' y y' : List UInt8}, c ∉ x → c ∉ x' → x ++ c :: y = x' ++ c :: y' → x = x' ∧ y = y'
  | [], [], _, _, _, _, h => by simpa using h
  | [], b :: x', _, _, _, h', h => by
    simp only [List.nil_append, List.cons_append, List.cons.injEq] at h
    exact absurd (by rw [h.1]; simp) h'
  | a :: x, [], _, _, h', _, h => by
    simp only [List.nil_append, List.cons_append, List.cons.injEq] at h
    exact absurd (by rw [h.1]; simp) h'
  | a :: x, b :: x', y, y', h1, h2, h => by
    simp only [List.cons_append, List.cons.injEq] at h
    have := split_at (x := x) (x' := x') (fun hm => h1 (List.mem_cons_of_mem _ hm)) (fun hm => h2 (List.mem_cons_of_mem _ hm)) h.2
    exact ⟨by rw [h.1, this.1], this.2⟩
theorem join_two (x z : List UInt8) (r : List (List UInt8)) (c : UInt8) : Lib.join (x :: z :: r) [c] = x ++ c :: Lib.join (z :: r) [c] := by
  simp [Lib.join_cons, Lib.joinTail]
theorem join_inj {c : UInt8} : ∀ {L M : List (List UInt8)}, (∀ s ∈ L, c ∉ s) → (∀ s ∈ M, c ∉ s) → L ≠ [] → M ≠ [] → Lib.join L [c] = Lib.join M [c] → L = M
  | [], _, _, _, h, _, _ => absurd rfl h
  | _ :: _, [], _, _, _, h, _ => absurd rfl h
  | [x], [y], _, _, _, _, h => by rw [Lib.join_one, Lib.join_one] at h; rw [h]
  | [x], y :: z :: r, hx, _, _, _, h => by
    rw [Lib.join_one, join_two] at h
    exact absurd (by rw [h]; simp) (hx x (by simp))
  | x :: z :: r, [y], _, hy, _, _, h => by
    rw [Lib.join_one, join_two] at h
    exact absurd (by rw [← h]; simp) (hy y (by simp))
  | x :: z :: r, y :: w :: q, hx, hy, _, _, h => by
    rw [join_two, join_two] at h
    obtain ⟨h1, h2⟩ := split_at (hx x (by simp)) (hy y (by simp)) h
    have := join_inj (L := z :: r) (M := w :: q) (fun s hs => hx s (List.mem_cons_of_mem _ hs)) (fun s hs => hy s (List.mem_cons_of_mem _ hs)) (by simp) (by simp) h2
    rw [h1, this]
theorem map_inj {α β : Type} {f : α → β} : ∀ {L M : List α}, (∀ a ∈ L, ∀ b ∈ M, f a = f b → a = b) → L.map f = M.map f → L = M
  | [], [], _, _ => rfl
  | [], _ :: _, _, h => by simp at h
  | _ :: _, [], _, h => by simp at h
  | a :: L, b :: M, hi, h => by
    simp only [List.map_cons, List.cons.injEq] at h
    rw [hi a (by simp) b (by simp) h.1, map_inj (fun a ha b hb => hi a (List.mem_cons_of_mem _ ha) b (List.mem_cons_of_mem _ hb)) h.2]
theorem join_mem {c : UInt8} : ∀ {L : List (List UInt8)} {k : UInt8}, c ∈ Lib.join L [k] → c = k ∨ ∃ s ∈ L, c ∈ s
  | [], _, h => by simp [Lib.join_nil] at h
  | [x], _, h => .inr ⟨x, by simp, by rwa [Lib.join_one] at h⟩
  | x :: z :: r, k, h => by
    rw [join_two, List.mem_append, List.mem_cons] at h
    rcases h with h | h | h
    · exact .inr ⟨x, by simp, h⟩
    · exact .inl h
    · rcases join_mem h with h | ⟨s, hs, h⟩
      · exact .inl h
      · exact .inr ⟨s, List.mem_cons_of_mem _ hs, h⟩
/-! ### Which bytes words have -/
theorem dec_no {k : UInt8} (h : ¬ (48 ≤ k.toNat ∧ k.toNat ≤ 57)) (u : Nat) : k ∉ decDigits u := fun hm => h (allDig_iff.1 (allDig_dec u) k hm)
theorem itoa_no {k : UInt8} (h : ¬ (48 ≤ k.toNat ∧ k.toNat ≤ 57)) (h45 : k ≠ 45) (n : Int) : k ∉ Lib.itoa n := by
  unfold Lib.itoa
  split
  · rw [List.mem_cons]; exact fun hm => hm.elim h45 (dec_no h _)
  · exact dec_no h _
theorem num_no {k : UInt8} (h : ¬ (48 ≤ k.toNat ∧ k.toNat ≤ 57)) (n : Int) : k ∉ numText n := by
  unfold numText
  split
  · exact dec_no h _
  · simp
theorem digB_dig (n : Int) : 48 ≤ (digB n).toNat ∧ (digB n).toNat ≤ 57 := by
  have : (48 + n % 10).toNat = 48 + (n % 10).toNat % 10 := by omega
  rw [digB, this, dig_toNat]; omega
theorem digB_val (n : Int) : (digB n).toNat = 48 + (n % 10).toNat := by
  have : (48 + n % 10).toNat = 48 + (n % 10).toNat % 10 := by omega
  rw [digB, this, dig_toNat]; omega
theorem cents_no {k : UInt8} (h : ¬ (48 ≤ k.toNat ∧ k.toNat ≤ 57)) (h46 : k ≠ 46) (n : Int) : k ∉ centsT n := by
  unfold centsT
  simp only [List.mem_append, List.mem_cons, List.not_mem_nil, or_false]
  rintro (hm | hm | hm | hm)
  · exact dec_no h _ hm
  · exact h46 hm
  · exact h (by rw [hm]; exact digB_dig _)
  · exact h (by rw [hm]; exact digB_dig _)
theorem fare_no {k : UInt8} (h : ¬ (48 ≤ k.toNat ∧ k.toNat ≤ 57)) (h45 : k ≠ 45) (h46 : k ≠ 46) (n : Int) : k ∉ fareT n := by
  unfold fareT moneyT
  split
  · split
    · rw [List.mem_cons]; exact fun hm => hm.elim h45 (cents_no h h46 _)
    · exact cents_no h h46 _
  · simp
theorem letterS_at {s : Int} (h : mayS s = true) : letterS s = [stL.getD (s - 1).toNat 0] := by
  unfold letterS
  rw [if_pos h]
  rcases mayS_cases h with rfl | rfl | rfl | rfl | rfl | rfl | rfl | rfl | rfl <;> rfl
theorem letter_no {k : UInt8} (h : k ∉ stL) (s : Int) : k ∉ letterS s := by
  unfold letterS
  split
  · exact fun hm => h (List.mem_of_mem_drop (List.mem_of_mem_take hm))
  · simp
theorem letterS_inj {s s' : Int} (h : mayS s = true) (h' : mayS s' = true) (e : letterS s = letterS s') : s = s' := by
  rw [letterS_at h, letterS_at h'] at e
  have e := List.head_eq_of_cons_eq e
  rcases mayS_cases h with rfl | rfl | rfl | rfl | rfl | rfl | rfl | rfl | rfl <;> rcases mayS_cases h' with rfl | rfl | rfl | rfl | rfl | rfl | rfl | rfl | rfl <;> first | rfl | (exact absurd e (by decide))
theorem coupon_no {k : UInt8} (h : ¬ (48 ≤ k.toNat ∧ k.toNat ≤ 57)) (h45 : k ≠ 45) (h46 : k ≠ 46) (hs : k ∉ stL) (ho : k ∉ ([64, 61, 58, 47, 62] : List UInt8)) (c : Coupon) : k ∉ couponW c := by
  simp only [List.mem_cons, List.not_mem_nil, or_false, not_or] at ho
  obtain ⟨o1, o2, o3, o4, o5⟩ := ho
  unfold couponW flightW
  simp only [List.mem_append, List.mem_cons, List.not_mem_nil, or_false]
  rintro ((((((((hm | hm) | hm) | hm) | hm) | hm) | hm) | hm) | hm)
  · exact itoa_no h h45 _ hm
  · exact o1 hm
  · exact itoa_no h h45 _ hm
  · exact o2 hm
  · exact fare_no h h45 h46 _ hm
  · exact o3 hm
  · exact letter_no hs _ hm
  · split at hm
    · simp at hm
    · rw [List.mem_cons] at hm
      exact hm.elim o4 (itoa_no h h45 _)
  · split at hm
    · simp at hm
    · rw [List.mem_cons] at hm
      exact hm.elim o5 (num_no h _)
theorem tax_no {k : UInt8} (h : ¬ (48 ≤ k.toNat ∧ k.toNat ≤ 57)) (h45 : k ≠ 45) (h46 : k ≠ 46) (h61 : k ≠ 61) (x : Tax) : k ∉ taxW x := by
  unfold taxW
  simp only [List.mem_append, List.mem_cons, List.not_mem_nil, or_false]
  rintro ((hm | hm) | hm)
  · exact itoa_no h h45 _ hm
  · exact h61 hm
  · exact fare_no h h45 h46 _ hm
theorem event_no {k : UInt8} (h : ¬ (48 ≤ k.toNat ∧ k.toNat ≤ 57)) (h45 : k ≠ 45) (h46 : k ≠ 46) (hs : k ∉ stL) (x : Event) : k ∉ eventW x := by
  unfold eventW
  simp only [List.mem_append, List.mem_cons, List.not_mem_nil, or_false]
  rintro (((((hm | hm) | hm) | hm) | hm) | hm)
  · exact itoa_no h h45 _ hm
  · exact h46 hm
  · exact itoa_no h h45 _ hm
  · exact h46 hm
  · exact letter_no hs _ hm
  · exact letter_no hs _ hm
/-! ### Unlike things have unlike words -/
theorem dec_inj {a b : Nat} (h : decDigits a = decDigits b) : a = b := by rw [← worth_dec a, h, worth_dec]
theorem itoa_inj {a b : Int} (h : Lib.itoa a = Lib.itoa b) : a = b := by
  have hd : ∀ (u v : Nat), 45 :: decDigits u ≠ decDigits v := fun u v e => dec_no (k := 45) (by decide) v (by rw [← e]; simp)
  unfold Lib.itoa at h
  split at h <;> split at h
  · have := dec_inj (List.cons.inj h).2; omega
  · exact absurd h (hd _ _)
  · exact absurd h.symm (hd _ _)
  · have := dec_inj h; omega
theorem check_lo {n : Int} (h : checkN n = 0) : 1000000000000 ≤ n := by
  unfold checkN at h
  split at h
  · cases h
  · omega
theorem num_inj {a b : Int} (ha : checkN a = 0) (hb : checkN b = 0) (h : numText a = numText b) : a = b := by
  unfold numText at h
  rw [if_pos ha, if_pos hb] at h
  have h1 := check_lo ha
  have h2 := check_lo hb
  have := dec_inj h
  omega
theorem cents_inj {a b : Int} (ha : 0 ≤ a) (hb : 0 ≤ b) (h : centsT a = centsT b) : a = b := by
  unfold centsT at h
  obtain ⟨h1, h2⟩ := split_at (dec_no (by decide) _) (dec_no (by decide) _) h
  simp only [List.cons.injEq, and_true] at h2
  have e1 := congrArg UInt8.toNat h2.1
  have e2 := congrArg UInt8.toNat h2.2
  rw [digB_val, digB_val] at e1 e2
  have := dec_inj h1
  omega
theorem fare_inj {a b : Int} (ha : moneyB a = true) (hb : moneyB b = true) (h : fareT a = fareT b) : a = b := by
  have hd : ∀ (u v : Int), 45 :: centsT u ≠ centsT v := fun u v e => cents_no (k := 45) (by decide) (by decide) v (by rw [← e]; simp)
  unfold fareT moneyT at h
  rw [if_pos ha, if_pos hb] at h
  split at h <;> split at h
  · have := cents_inj (by omega) (by omega) (List.cons.inj h).2; omega
  · exact absurd h (hd _ _)
  · exact absurd h.symm (hd _ _)
  · exact cents_inj (by omega) (by omega) h
theorem someB_money {n : Int} (h : someB n = true) : moneyB n = true := by
  unfold someB at h
  unfold moneyB
  simp only [Bool.and_eq_true, decide_eq_true_eq] at h ⊢
  omega
theorem couponOk_facts {num : Int} {c : Coupon} (h : couponOkB num c = true) :
    moneyB c.value = true ∧ mayS c.status = true ∧ (c.status = 9 → 101 ≤ c.holder) ∧ (c.status ≠ 9 → c.holder = 0) ∧ (c.status = 5 → checkN c.next = 0) ∧ (c.status ≠ 5 → c.next = 0) := by
  unfold couponOkB mayCouponB at h
  simp only [Bool.and_eq_true] at h
  obtain ⟨⟨⟨⟨⟨⟨_, _⟩, _⟩, h4⟩, h5⟩, h6⟩, h7⟩ := h
  refine ⟨someB_money h4, h5, fun e => ?_, fun e => ?_, fun e => ?_, fun e => ?_⟩
  · rw [if_pos e] at h6; unfold holderB at h6; simp only [Bool.and_eq_true, decide_eq_true_eq] at h6; exact h6.1.1
  · rw [if_neg e] at h6; exact of_decide_eq_true h6
  · rw [if_pos e] at h7; unfold otherB numdB at h7; simp only [Bool.and_eq_true, decide_eq_true_eq] at h7; exact h7.1
  · rw [if_neg e] at h7; exact of_decide_eq_true h7
theorem couponW_eq (c : Coupon) (h : mayS c.status = true) : couponW c = Lib.itoa c.flight ++ 64 :: (Lib.itoa c.day ++ 61 :: (fareT c.value ++ 58 :: (stL.getD (c.status - 1).toNat 0 :: ((if c.holder = 0 then [] else 47 :: Lib.itoa c.holder) ++ (if c.next = 0 then [] else 62 :: numText c.next))))) := by
  unfold couponW flightW
  rw [letterS_at h]
  simp only [List.append_assoc, List.cons_append, List.nil_append]
theorem couponW_inj' {c d : Coupon} (hc : moneyB c.value = true ∧ mayS c.status = true ∧ (c.status = 9 → 101 ≤ c.holder) ∧ (c.status ≠ 9 → c.holder = 0) ∧ (c.status = 5 → checkN c.next = 0) ∧ (c.status ≠ 5 → c.next = 0))
    (hd : moneyB d.value = true ∧ mayS d.status = true ∧ (d.status = 9 → 101 ≤ d.holder) ∧ (d.status ≠ 9 → d.holder = 0) ∧ (d.status = 5 → checkN d.next = 0) ∧ (d.status ≠ 5 → d.next = 0)) (h : couponW c = couponW d) : c = d := by
  obtain ⟨a1, a2, a3, a4, a5, a6⟩ := hc
  obtain ⟨b1, b2, b3, b4, b5, b6⟩ := hd
  rw [couponW_eq c a2, couponW_eq d b2] at h
  obtain ⟨h1, h⟩ := split_at (itoa_no (by decide) (by decide) _) (itoa_no (by decide) (by decide) _) h
  obtain ⟨h2, h⟩ := split_at (itoa_no (by decide) (by decide) _) (itoa_no (by decide) (by decide) _) h
  obtain ⟨h3, h⟩ := split_at (fare_no (by decide) (by decide) (by decide) _) (fare_no (by decide) (by decide) (by decide) _) h
  obtain ⟨h4, h⟩ := List.cons.inj h
  have e1 := itoa_inj h1
  have e2 := itoa_inj h2
  have e3 := fare_inj a1 b1 h3
  have e4 : c.status = d.status := letterS_inj a2 b2 (by rw [letterS_at a2, letterS_at b2, h4])
  have e5 : c.holder = d.holder ∧ c.next = d.next := by
    by_cases s9 : c.status = 9
    · have n1 := a6 (by omega)
      have n2 := b6 (by omega)
      have k1 := a3 s9
      have k2 := b3 (by omega)
      rw [if_neg (show ¬ c.holder = 0 by omega), if_neg (show ¬ d.holder = 0 by omega), if_pos n1, if_pos n2, List.append_nil, List.append_nil] at h
      exact ⟨itoa_inj (List.cons.inj h).2, by omega⟩
    · have k1 := a4 s9
      have k2 := b4 (by omega)
      refine ⟨by omega, ?_⟩
      by_cases s5 : c.status = 5
      · have n1 := a5 s5
        have n2 := b5 (by omega)
        have l1 := check_lo n1
        have l2 := check_lo n2
        rw [if_pos k1, if_pos k2, if_neg (show ¬ c.next = 0 by omega), if_neg (show ¬ d.next = 0 by omega), List.nil_append, List.nil_append] at h
        exact num_inj n1 n2 (List.cons.inj h).2
      · have n1 := a6 s5
        have n2 := b6 (by omega)
        omega
  cases c; cases d
  simp_all
theorem couponW_inj {n m : Int} {c d : Coupon} (hc : couponOkB n c = true) (hd : couponOkB m d = true) (h : couponW c = couponW d) : c = d := couponW_inj' (couponOk_facts hc) (couponOk_facts hd) h
theorem taxW_inj {x y : Tax} (hx : moneyB x.amount = true) (hy : moneyB y.amount = true) (h : taxW x = taxW y) : x = y := by
  unfold taxW at h
  simp only [List.append_assoc, List.cons_append, List.nil_append] at h
  obtain ⟨h1, h2⟩ := split_at (itoa_no (by decide) (by decide) _) (itoa_no (by decide) (by decide) _) h
  have e1 := itoa_inj h1
  have e2 := fare_inj hx hy h2
  cases x; cases y
  simp_all
theorem eventW_inj {x y : Event} (hx : mayS x.src = true ∧ mayS x.dst = true) (hy : mayS y.src = true ∧ mayS y.dst = true) (h : eventW x = eventW y) : x = y := by
  unfold eventW at h
  rw [letterS_at hx.1, letterS_at hx.2, letterS_at hy.1, letterS_at hy.2] at h
  simp only [List.append_assoc, List.cons_append, List.nil_append] at h
  obtain ⟨h1, h⟩ := split_at (itoa_no (by decide) (by decide) _) (itoa_no (by decide) (by decide) _) h
  obtain ⟨h2, h⟩ := split_at (itoa_no (by decide) (by decide) _) (itoa_no (by decide) (by decide) _) h
  simp only [List.cons.injEq, and_true] at h
  have e1 := itoa_inj h1
  have e2 := itoa_inj h2
  have e3 := letterS_inj hx.1 hy.1 (by rw [letterS_at hx.1, letterS_at hy.1, h.1])
  have e4 := letterS_inj hx.2 hy.2 (by rw [letterS_at hx.2, letterS_at hy.2, h.2])
  cases x; cases y
  simp_all
/-! ### Tickets -/
theorem couponsB_mem {num : Int} : ∀ {l : List Coupon}, couponsB num l = true → ∀ x ∈ l, couponOkB num x = true
  | [], _, x, hx => by cases hx
  | y :: l, h, x, hx => by
    simp only [couponsB, Bool.and_eq_true] at h
    rcases List.mem_cons.1 hx with rfl | hx
    · exact h.1
    · exact couponsB_mem h.2 x hx
theorem taxesFrom_mem : ∀ {l : List Tax} {n : Int}, taxesFrom n l = true → ∀ x ∈ l, moneyB x.amount = true
  | [], _, _, x, hx => by cases hx
  | y :: l, n, h, x, hx => by
    simp only [taxesFrom, Bool.and_eq_true] at h
    rcases List.mem_cons.1 hx with rfl | hx
    · exact someB_money h.1.2
    · exact taxesFrom_mem h.2 x hx
theorem runH_mem {til : Int} : ∀ {l : List Event} {now thn : List Int} {last : Int} {r : List Int × List Int}, runH til now thn last l = some r → ∀ x ∈ l, mayS x.src = true ∧ mayS x.dst = true
  | [], _, _, _, _, _, x, hx => by cases hx
  | y :: l, now, thn, last, r, h, x, hx => by
    simp only [runH] at h
    cases hb : stepB now last y with
    | false => rw [hb] at h; cases h
    | true =>
      rw [hb] at h
      rcases List.mem_cons.1 hx with rfl | hx
      · unfold stepB at hb
        simp only [Bool.and_eq_true] at hb
        exact leads_may hb.2
      · exact runH_mem h x hx
theorem may_inj_facts {t : Ticket} (h : mayTicketB t = true) : 1 ≤ t.coupons.length ∧ headB t = true ∧ (∀ x ∈ t.coupons, couponOkB t.number x = true) ∧ (∀ x ∈ t.taxes, moneyB x.amount = true) ∧ (∀ x ∈ t.history, mayS x.src = true ∧ mayS x.dst = true) := by
  obtain ⟨f1, f2, f3, f4, f5⟩ := may_facts h
  refine ⟨f1.1, f3, couponsB_mem f5, ?_, ?_⟩
  · unfold taxesB at f4
    simp only [Bool.and_eq_true] at f4
    exact taxesFrom_mem f4.1
  · unfold mayTicketB at h
    simp only [Bool.and_eq_true] at h
    have h7 := h.2
    unfold toldB at h7
    split at h7
    · rename_i now thn hr
      exact runH_mem hr
    · cases h7
theorem loc_no {s : List UInt8} (h : locOk s = true) : (32 : UInt8) ∉ s := by
  unfold locOk at h
  simp only [Bool.and_eq_true, List.all_eq_true] at h
  intro hm
  have := h.1 32 hm
  exact absurd this (by decide)
theorem taxes_no (l : List Tax) : (32 : UInt8) ∉ taxesW l := by
  unfold taxesW
  split
  · decide
  · intro hm
    rcases join_mem hm with h | ⟨s, hs, h⟩
    · exact absurd h (by decide)
    · obtain ⟨x, _, rfl⟩ := List.mem_map.1 hs
      exact tax_no (by decide) (by decide) (by decide) (by decide) x h
theorem hist_no (t : Ticket) : (32 : UInt8) ∉ histW t := by
  unfold histW
  split
  · decide
  · intro hm
    rcases join_mem hm with h | ⟨s, hs, h⟩
    · exact absurd h (by decide)
    · obtain ⟨x, _, rfl⟩ := List.mem_map.1 hs
      exact event_no (by decide) (by decide) (by decide) (by decide) x h
theorem parts_no {t : Ticket} (h : locOk t.locator = true) : ∀ s ∈ tkParts t, (32 : UInt8) ∉ s := by
  intro s hs
  simp only [tkParts, tkHead, tkTail, List.map_cons, List.map_nil, List.cons_append, List.nil_append, List.mem_cons, List.not_mem_nil, or_false] at hs
  rcases hs with rfl | rfl | rfl | rfl | rfl | rfl | rfl | rfl | rfl | rfl | rfl | rfl
  · decide
  · exact num_no (by decide) _
  · exact loc_no h
  · exact itoa_no (by decide) (by decide) _
  · exact dec_no (by decide) _
  · exact dec_no (by decide) _
  · exact dec_no (by decide) _
  · exact dec_no (by decide) _
  · exact dec_no (by decide) _
  · intro hm
    rcases join_mem hm with h | ⟨s, hs, h⟩
    · exact absurd h (by decide)
    · obtain ⟨x, _, rfl⟩ := List.mem_map.1 hs
      exact coupon_no (by decide) (by decide) (by decide) (by decide) (by decide) x h
  · exact taxes_no _
  · exact hist_no _
theorem words_inj {α : Type} {f : α → List UInt8} {l m : List α} (k : UInt8) (hk : ∀ x, k ∈ f x) (hk45 : k ≠ 45) (h44 : ∀ x, (44 : UInt8) ∉ f x) (hi : ∀ a ∈ l, ∀ b ∈ m, f a = f b → a = b)
    (h : (if l.length = 0 then [45] else Lib.join (l.map f) [44]) = if m.length = 0 then [45] else Lib.join (m.map f) [44]) : l = m := by
  have hin : ∀ (l : List α), ¬ l.length = 0 → k ∈ Lib.join (l.map f) [44] := by
    intro l hl
    cases l with
    | nil => simp at hl
    | cons x l => rw [List.map_cons, Lib.join_cons]; exact List.mem_append_left _ (hk x)
  split at h <;> split at h
  · rename_i h1 h2
    rw [List.length_eq_zero_iff] at h1 h2
    rw [h1, h2]
  · rename_i h1 h2
    have := hin m h2
    rw [← h] at this
    simp [hk45] at this
  · rename_i h1 h2
    have := hin l h1
    rw [h] at this
    simp [hk45] at this
  · rename_i h1 h2
    have n0 : ∀ (l : List α), ¬ l.length = 0 → l.map f ≠ [] := fun l hl e => hl (by rw [List.map_eq_nil_iff] at e; rw [e]; rfl)
    have no : ∀ (l : List α), ∀ s ∈ l.map f, (44 : UInt8) ∉ s := by
      intro l s hs
      obtain ⟨x, _, rfl⟩ := List.mem_map.1 hs
      exact h44 x
    exact map_inj hi (join_inj (no l) (no m) (n0 l h1) (n0 m h2) h)
theorem ticketW_inj {a b : Ticket} (ha : mayTicketB a = true) (hb : mayTicketB b = true) (ua : 0 ≤ a.prev ∧ 0 ≤ a.origin ∧ 0 ≤ a.first) (ub : 0 ≤ b.prev ∧ 0 ≤ b.origin ∧ 0 ≤ b.first) (h : ticketW a = ticketW b) : a = b := by
  unfold ticketW at h
  rw [if_pos ha, if_pos hb] at h
  obtain ⟨c1, c2, c3, c4, c5⟩ := may_inj_facts ha
  obtain ⟨d1, d2, d3, d4, d5⟩ := may_inj_facts hb
  obtain ⟨p1, p2, p3, p4, p5, p6⟩ := head_facts c2
  obtain ⟨q1, q2, q3, q4, q5, q6⟩ := head_facts d2
  have hp := join_inj (parts_no p2) (parts_no q2) (by simp [tkParts, tkHead]) (by simp [tkParts, tkHead]) h
  simp only [tkParts, tkHead, tkTail, List.map_cons, List.map_nil, List.cons_append, List.nil_append, List.cons.injEq, and_true, true_and] at hp
  obtain ⟨w1, w2, w3, w4, w5, w6, w7, w8, w9, w10, w11⟩ := hp
  have e1 := num_inj p1 q1 w1
  have e3 := itoa_inj w3
  have e4 := dec_inj w4
  have e5 := dec_inj w5
  have e6 := dec_inj w6
  have e7 := dec_inj w7
  have e8 := dec_inj w8
  have e9 : a.coupons = b.coupons := by
    refine map_inj (fun x hx y hy => couponW_inj (c3 x hx) (d3 y hy)) (join_inj ?_ ?_ ?_ ?_ w9)
    · intro s hs
      obtain ⟨x, _, rfl⟩ := List.mem_map.1 hs
      exact coupon_no (by decide) (by decide) (by decide) (by decide) (by decide) x
    · intro s hs
      obtain ⟨x, _, rfl⟩ := List.mem_map.1 hs
      exact coupon_no (by decide) (by decide) (by decide) (by decide) (by decide) x
    · intro e; rw [List.map_eq_nil_iff] at e; rw [e] at c1; simp at c1
    · intro e; rw [List.map_eq_nil_iff] at e; rw [e] at d1; simp at d1
  have e10 : a.taxes = b.taxes := by
    unfold taxesW at w10
    exact words_inj 61 (fun x => by unfold taxW; simp) (by decide) (fun x => tax_no (by decide) (by decide) (by decide) (by decide) x) (fun x hx y hy => taxW_inj (c4 x hx) (d4 y hy)) w10
  have e11 : a.history = b.history := by
    unfold histW at w11
    exact words_inj 46 (fun x => by unfold eventW; simp) (by decide) (fun x => event_no (by decide) (by decide) (by decide) (by decide) x) (fun x hx y hy => eventW_inj (c5 x hx) (d5 y hy)) w11
  cases a; cases b
  simp only at *
  simp only [Ticket.mk.injEq]
  exact ⟨e1, w2, e3, e9, e10, by omega, by omega, by omega, by omega, by omega, e11⟩
theorem ticketW_nil {t : Ticket} : ticketW t = [] ↔ mayTicketB t = false := by
  unfold ticketW
  split
  · rename_i h
    rw [h]
    simp [tkParts, tkHead, Lib.join_cons]
  · rename_i h
    simp at h
    simp [h]
/-! ### Loans -/
theorem loan_inj_facts {l : Loan} (h : loanB l = true) : checkN l.ticket = 0 ∧ (l.held = true → moneyB l.what.value = true ∧ mayS l.what.status = true ∧ l.what.holder = 0 ∧ l.what.next = 0) ∧ (l.held = false → l.what = ⟨0, 0, 0, 0, 0, 0⟩) := by
  unfold loanB numdB at h
  simp only [Bool.and_eq_true, decide_eq_true_eq] at h
  obtain ⟨⟨⟨h1, _⟩, _⟩, h2⟩ := h
  refine ⟨h1, fun hh => ?_, fun hh => ?_⟩
  · rw [hh] at h2
    simp only [cond_true, Bool.and_eq_true] at h2
    obtain ⟨h3, h4⟩ := h2
    unfold plainB at h4
    simp only [Bool.and_eq_true, decide_eq_true_eq] at h4
    exact ⟨someB_money h4.1.1.1.2, h3, h4.1.2, h4.2⟩
  · rw [hh] at h2
    simp only [cond_false, noneB, Bool.and_eq_true, beq_iff_eq] at h2
    obtain ⟨k1, k2, k3, k4, k5, k6⟩ := h2
    cases hw : l.what
    rw [hw] at k1 k2 k3 k4 k5 k6
    simp_all
theorem couponW_plain {c d : Coupon} (hc : moneyB c.value = true ∧ mayS c.status = true ∧ c.holder = 0 ∧ c.next = 0) (hd : moneyB d.value = true ∧ mayS d.status = true ∧ d.holder = 0 ∧ d.next = 0) (h : couponW c = couponW d) : c = d := by
  obtain ⟨a1, a2, a3, a4⟩ := hc
  obtain ⟨b1, b2, b3, b4⟩ := hd
  rw [couponW_eq c a2, couponW_eq d b2] at h
  obtain ⟨h1, h⟩ := split_at (itoa_no (by decide) (by decide) _) (itoa_no (by decide) (by decide) _) h
  obtain ⟨h2, h⟩ := split_at (itoa_no (by decide) (by decide) _) (itoa_no (by decide) (by decide) _) h
  obtain ⟨h3, h⟩ := split_at (fare_no (by decide) (by decide) (by decide) _) (fare_no (by decide) (by decide) (by decide) _) h
  obtain ⟨h4, _⟩ := List.cons.inj h
  have e1 := itoa_inj h1
  have e2 := itoa_inj h2
  have e3 := fare_inj a1 b1 h3
  have e4 : c.status = d.status := letterS_inj a2 b2 (by rw [letterS_at a2, letterS_at b2, h4])
  cases c; cases d
  simp_all
theorem loanW_inj {a b : Loan} (ha : loanB a = true) (hb : loanB b = true) (h : loanW a = loanW b) : a = b := by
  obtain ⟨a1, a2, a3⟩ := loan_inj_facts ha
  obtain ⟨b1, b2, b3⟩ := loan_inj_facts hb
  unfold loanW at h
  rw [if_pos ha, if_pos hb] at h
  have hs : ∀ (l : Loan), ∃ r, (if l.held = true then [32, 104, 101, 108, 100, 32] ++ couponW l.what else [32, 97, 115, 107, 101, 100] : List UInt8) = 32 :: r := by
    intro l
    split <;> exact ⟨_, rfl⟩
  simp only [List.append_assoc, List.cons_append, List.nil_append, List.cons.injEq, true_and] at h
  obtain ⟨h1, h⟩ := split_at (num_no (by decide) _) (num_no (by decide) _) h
  have e1 := num_inj a1 b1 h1
  cases hla : a.held <;> cases hlb : b.held
  · rw [hla, hlb] at h
    simp only [Bool.false_eq_true, if_false] at h
    obtain ⟨h2, _⟩ := split_at (itoa_no (by decide) (by decide) _) (itoa_no (by decide) (by decide) _) h
    have e2 := itoa_inj h2
    have e3 := a3 hla
    have e4 := b3 hlb
    cases a; cases b
    simp_all
  · rw [hla, hlb] at h
    simp only [Bool.false_eq_true, if_false, if_true, List.cons_append, List.nil_append] at h
    obtain ⟨_, h3⟩ := split_at (itoa_no (by decide) (by decide) _) (itoa_no (by decide) (by decide) _) h
    simp at h3
  · rw [hla, hlb] at h
    simp only [Bool.false_eq_true, if_false, if_true, List.cons_append, List.nil_append] at h
    obtain ⟨_, h3⟩ := split_at (itoa_no (by decide) (by decide) _) (itoa_no (by decide) (by decide) _) h
    simp at h3
  · rw [hla, hlb] at h
    simp only [if_true, List.cons_append, List.nil_append] at h
    obtain ⟨h2, h3⟩ := split_at (itoa_no (by decide) (by decide) _) (itoa_no (by decide) (by decide) _) h
    simp only [List.cons.injEq, true_and] at h3
    have e2 := itoa_inj h2
    have e3 := couponW_plain (a2 hla) (b2 hlb) h3
    cases a; cases b
    simp_all
theorem loanW_nil {l : Loan} : loanW l = [] ↔ loanB l = false := by
  unfold loanW
  split
  · rename_i h
    rw [h]
    simp
  · rename_i h
    simp at h
    simp [h]
end Go.Vc.Z
