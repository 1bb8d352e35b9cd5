/- Postings: may one be? -/
import Derived.Test.YtpmpclbdnakniaaGreatDoorV6
import Derived.Test.YtpmpclbdnakniaaGreatDoorProg
import Derived.Ground.NamesProg
import Derived.Shelf.Strings.OnBuilder
import Derived.Shelf.Strings.Builder1
import Derived.Shelf.Strconv.Itoa4
set_option linter.all false
set_option linter.unusedVariables false
set_option linter.unusedSimpArgs false
namespace Go.Vc.Z
open Go Go.Vc Go.Proofs Go.RowKit Go.Pl Go.Lib
noncomputable section
set_option maxRecDepth 100000
set_option linter.unusedSimpArgs false
set_option linter.unusedVariables false
attribute [local irreducible] inK Utf8.decode Utf8.encode Lib.itoa Pl.worth Pl.allDig
def sumN (l : List Int) : Nat → Int
  | 0 => 0
  | n + 1 => sumN l n + l.getD n 0
@[irreducible] def colOk (k : Int) (l : List Int) (j : Nat) : Bool := decide (-1125899906842624 ≤ l.getD j 0) && decide (l.getD j 0 ≤ 1125899906842624) && fitI ((signsL k).getD j 0).toNat (l.getD j 0)
@[irreducible] def columnsB (k : Int) (l : List Int) : Bool := ((List.range 6).all fun j => colOk k l j) && decide (sumN l 6 = 0) && (decide (k ≠ 5) || decide (l.getD 0 0 = 0) || decide (l.getD 5 0 = 0))
theorem colOk_iff {k : Int} {l : List Int} {j : Nat} : colOk k l j = true ↔ -1125899906842624 ≤ l.getD j 0 ∧ l.getD j 0 ≤ 1125899906842624 ∧ fitI ((signsL k).getD j 0).toNat (l.getD j 0) = true := by
  unfold colOk; simp [and_assoc]
theorem sumN_le {k : Int} {l : List Int} : ∀ {i : Nat}, (∀ j, j < i → colOk k l j = true) → -1125899906842624 * (i : Int) ≤ sumN l i ∧ sumN l i ≤ 1125899906842624 * (i : Int)
  | 0, _ => by simp [sumN]
  | i + 1, h => by
    have h1 := sumN_le (i := i) fun j hj => h j (by omega)
    have h2 := colOk_iff.1 (h i (by omega))
    simp only [sumN]
    omega
theorem columnsB_bad {k : Int} {l : List Int} {i : Nat} (hi : i < 6) (h : ¬ colOk k l i = true) : columnsB k l = false := by
  unfold columnsB
  rw [show ((List.range 6).all fun j => colOk k l j) = false from ?_]
  · simp
  · refine Bool.eq_false_iff.2 fun ha => h ?_
    exact List.all_eq_true.1 ha i (List.mem_range.2 hi)
theorem columnsB_good {k : Int} {l : List Int} (h : ∀ j, j < 6 → colOk k l j = true) : columnsB k l = (decide (sumN l 6 = 0) && (decide (k ≠ 5) || decide (l.getD 0 0 = 0) || decide (l.getD 5 0 = 0))) := by
  unfold columnsB
  rw [show ((List.range 6).all fun j => colOk k l j) = true from List.all_eq_true.2 fun j hj => h j (List.mem_range.1 hj), Bool.true_and]
@[irreducible] def mayPostB (p : Posting) : Bool := dayB p.day && numdB p.ticket && decide (1 ≤ p.seq) && decide (p.seq ≤ 200) && decide (1 ≤ p.kind) && decide (p.kind ≤ 5) && columnsB p.kind (amtsL p)
def pcMayPost : PC := PC.fun fun | [.agg [.int .i64 pd, .int .u64 pt, .int .i64 ps, .int .i64 pk, .int .i64 a0, .int .i64 a1, .int .i64 a2, .int .i64 a3, .int .i64 a4, .int .i64 a5]] => some (True, .bool (sB (mayPostB (Posting.mk pd pt ps pk a0 a1 a2 a3 a4 a5)))) | _ => none
theorem sign_ne {k : Int} (h : ¬ signsL k = []) : 1 ≤ k ∧ k ≤ 5 := by
  unfold signsL at h
  repeat' split at h
  all_goals first | omega | exact absurd rfl h
theorem sign_nil {k : Int} (h : signsL k = []) : ¬ (1 ≤ k ∧ k ≤ 5) := by
  unfold signsL at h
  repeat' split at h
  all_goals first | (cases h; done) | omega
theorem sign_byte {k : Int} {i : Nat} (hk : 1 ≤ k ∧ k ≤ 5) (hi : i < 6) : ((signsL k).getD i 0).toNat < 128 ∧ (signsL k).length = 6 := by
  rcases (by omega : k = 1 ∨ k = 2 ∨ k = 3 ∨ k = 4 ∨ k = 5) with rfl | rfl | rfl | rfl | rfl <;> rcases (by omega : i = 0 ∨ i = 1 ∨ i = 2 ∨ i = 3 ∨ i = 4 ∨ i = 5) with rfl | rfl | rfl | rfl | rfl | rfl <;> decide
theorem outB_iff {b : Int} {l : List Int} : outB b l = false ↔ ∀ x ∈ l, -b ≤ x ∧ x ≤ b := by
  unfold outB
  simp only [List.any_eq_false, Bool.or_eq_true, decide_eq_true_eq]
  constructor
  · intro h x hx; have := h x hx; omega
  · intro h x hx; have := h x hx; omega
def LPost (p : Posting) : LoopSpec := {
  α := Nat × Int
  keep := [1, 3, 6, 25]
  vals x := [.ptr 0 0, .ptr 1 0, .int .i64 x.2, .iter 2]
  heap x := [.var p.enc, .var [.int .i64 p.cash, .int .i64 p.liability, .int .i64 p.revenue, .int .i64 p.tax, .int .i64 p.penalty, .int .i64 p.voucher], .iter (sS (signsL p.kind)) x.1]
  ok x := x.1 ≤ 6 ∧ (∀ j, j < x.1 → colOk p.kind (amtsL p) j = true) ∧ x.2 = sumN (amtsL p) x.1
  μ x := 6 - x.1 }
def D_posting_May : PT := tabD [(113, pcOfP), (112, pcLook), (185, pcOut), (186, pcFits), (127, pcCheck)]
def C_posting_May : FuncId → Option Ctr := tabC D_posting_May []
def L_posting_May : List AV → Nat → Option LR := fun cs i => match cs with | [.agg [.int .i64 pd, .int .u64 pt, .int .i64 ps, .int .i64 pk, .int .i64 a0, .int .i64 a1, .int .i64 a2, .int .i64 a3, .int .i64 a4, .int .i64 a5]] => cond (Nat.beq i 7) (some (.inv (LPost (Posting.mk pd pt ps pk a0 a1 a2 a3 a4 a5)))) (none) | _ => none
set_option maxHeartbeats 4000000 in
theorem g_posting_May {W : World} (hW : Tabs W) : GoodP (Fw W) Tryz.prog 107 pcMayPost := by
  have hD : PTOk (Fw W) Tryz.prog D_posting_May := (tabD_cons Tryz.call113 (g_posting_of hW) (tabD_cons Tryz.call112 (g_posting_look hW) (tabD_cons Tryz.call185 (g_posting_amounts_out hW) (tabD_cons Tryz.call186 (g_posting_fits hW) (tabD_cons Tryz.call127 (g_number_Check hW) tabD_nil)))))
  have hC0 : CtrOk (Fw W) Tryz.prog C_posting_May := (tabC_nil hD)
  refine goodP_fun (D := D_posting_May) (C := C_posting_May) (wr := (fun _ => false)) rfl tyOk hD hC0 Tryz.func107 (L_posting_May) ?_
  clear hC0 hD hW
  intro cs p r h hf hp
  split at h
  case h_2 => cases h
  rename_i pd pt ps pk a0 a1 a2 a3 a4 a5
  cases h
  try simp only [factL, factA, inK_def, Go.Vc.lo, Go.Vc.hi, and_true] at hf
  clear hf
  have hm : mayPostB (Posting.mk pd pt ps pk a0 a1 a2 a3 a4 a5) = (dayB pd && numdB pt && decide (1 ≤ ps) && decide (ps ≤ 200) && decide (1 ≤ pk) && decide (pk ≤ 5) && columnsB pk (amtsL (Posting.mk pd pt ps pk a0 a1 a2 a3 a4 a5))) := by unfold mayPostB; rfl
  have hss := sS_eq (signsL pk)
  (conv => whnf)
  (repeat' ((first
    | ((with_reducible refine And.intro ?_ ?_); focus (first | with_reducible exact True.intro | omega))
    | (split <;> rename_i hh <;> (try simp only [wS] at hh) <;> (try simp (disch := omega) only [Int.tdiv_eq_ediv_of_nonneg, Int.tmod_eq_emod_of_nonneg] at hh))
    | fail) <;> (conv => whnf)))
  all_goals (try (show _ = _; simp only [wQ]))
  · rw [hm]; have := sign_nil (by assumption); symm; refine Bool.eq_false_iff.2 fun h => ?_; simp only [Bool.and_eq_true, decide_eq_true_eq] at h; omega
  · rw [hm]; symm; refine Bool.eq_false_iff.2 fun h => ?_
    have hk := sign_ne (by assumption)
    simp only [Bool.and_eq_true, decide_eq_true_eq] at h
    have ho : outB 1125899906842624 [a0, a1, a2, a3, a4, a5] = false := outB_iff.2 fun x hx => by
      have hc : ∀ i, i < 6 → colOk pk (amtsL (Posting.mk pd pt ps pk a0 a1 a2 a3 a4 a5)) i = true := fun i hi => by
        refine Decidable.of_not_not fun hn => ?_
        have := columnsB_bad hi hn
        rw [this] at h; cases h.2
      have g : ∀ i, i < 6 → -1125899906842624 ≤ (amtsL (Posting.mk pd pt ps pk a0 a1 a2 a3 a4 a5)).getD i 0 ∧ (amtsL (Posting.mk pd pt ps pk a0 a1 a2 a3 a4 a5)).getD i 0 ≤ 1125899906842624 := fun i hi => by have := colOk_iff.1 (hc i hi); omega
      simp only [List.mem_cons, List.not_mem_nil, or_false] at hx
      rcases hx with rfl | rfl | rfl | rfl | rfl | rfl
      · exact g 0 (by omega)
      · exact g 1 (by omega)
      · exact g 2 (by omega)
      · exact g 3 (by omega)
      · exact g 4 (by omega)
      · exact g 5 (by omega)
    rename_i hh; rw [ho] at hh; cases hh
  · have hk := sign_ne (by assumption)
    have hb := outB_iff.1 (by assumption : outB 1125899906842624 [a0, a1, a2, a3, a4, a5] = false)
    have hbd : ∀ i, i < 6 → -1125899906842624 ≤ (amtsL (Posting.mk pd pt ps pk a0 a1 a2 a3 a4 a5)).getD i 0 ∧ (amtsL (Posting.mk pd pt ps pk a0 a1 a2 a3 a4 a5)).getD i 0 ≤ 1125899906842624 := fun i hi => by
      refine hb _ ?_
      rcases (by omega : i = 0 ∨ i = 1 ∨ i = 2 ∨ i = 3 ∨ i = 4 ∨ i = 5) with rfl | rfl | rfl | rfl | rfl | rfl <;> simp
    have hlen := (sign_byte hk (show 0 < 6 by omega)).2
    have hru : ∀ i, i < 6 → runeAt (sS (signsL pk)) i = (((signsL pk).getD i 0).toNat : Int) ∧ runeW (sS (signsL pk)) i = 1 := fun i hi => by
      rw [hss]
      have := (sign_byte hk hi).1
      rcases rune_cases (l := signsL pk) (p := i) (by omega) with ⟨h1, h2, _⟩ | ⟨_, h2⟩
      · exact ⟨h1, h2⟩
      · omega
    refine ⟨?_, fun (x : Nat × Int) hx => ?_⟩
    · (conv => whnf)
      refine ⟨((0, 0) : Nat × Int), [], ?_, ⟨⟨rfl, Nat.le_of_ble_eq_true rfl, rfl⟩, ?_, ?_⟩⟩
      · exact ⟨Nat.zero_le _, fun j hj => absurd hj (Nat.not_lt_zero _), rfl⟩
      · (conv => whnf)
        (repeat' ((first | with_reducible exact True.intro | ((with_reducible refine And.intro ?_ ?_); focus (first | with_reducible rfl | omega | exact Nat.le_of_ble_eq_true rfl | rfl)) | with_reducible refine And.intro (?_ : leA _ _ _) ?_ | fail) <;> (conv => whnf)))
        all_goals (try simp only [wQ])
      · (conv => whnf)
        (repeat' ((first | with_reducible exact True.intro | ((with_reducible refine And.intro ?_ ?_); focus (first | with_reducible rfl | omega | exact Nat.le_of_ble_eq_true rfl | rfl)) | with_reducible refine And.intro (?_ : leA _ _ _) ?_ | with_reducible refine And.intro (?_ : leL _ _ _) ?_ | with_reducible refine And.intro (?_ : leBlk _ _ _ _) ?_ | fail) <;> (conv => whnf)))
        all_goals (try simp only [wQ])
        all_goals (try first | rfl)
    · obtain ⟨i, sum⟩ := x
      obtain ⟨h1, h2, h3⟩ := hx
      change i ≤ 6 at h1
      change ∀ j, j < i → colOk pk (amtsL (Posting.mk pd pt ps pk a0 a1 a2 a3 a4 a5)) j = true at h2
      change sum = sumN (amtsL (Posting.mk pd pt ps pk a0 a1 a2 a3 a4 a5)) i at h3
      have hbs := sumN_le h2
      rw [← h3] at hbs
      have hcol : ∀ v : Int, i < 6 → v = (amtsL (Posting.mk pd pt ps pk a0 a1 a2 a3 a4 a5)).getD i 0 → (colOk pk (amtsL (Posting.mk pd pt ps pk a0 a1 a2 a3 a4 a5)) i = true ↔ fitI (runeAt (signsL pk) i) v = true) := fun v h hv => by
        subst hv
        have hr := (hru i h).1
        rw [hss] at hr
        rw [colOk_iff, hr]
        have := hbd i h
        exact ⟨fun h => h.2.2, fun h => ⟨this.1, this.2, h⟩⟩
      have hbad : i < 6 → ¬ colOk pk (amtsL (Posting.mk pd pt ps pk a0 a1 a2 a3 a4 a5)) i = true → mayPostB (Posting.mk pd pt ps pk a0 a1 a2 a3 a4 a5) = false := fun h hc => by
        rw [hm, columnsB_bad h hc, Bool.and_false]
      have hgo : ∀ v : Int, i < 6 → v = (amtsL (Posting.mk pd pt ps pk a0 a1 a2 a3 a4 a5)).getD i 0 → colOk pk (amtsL (Posting.mk pd pt ps pk a0 a1 a2 a3 a4 a5)) i = true → (LPost (Posting.mk pd pt ps pk a0 a1 a2 a3 a4 a5)).ok ((i + 1, sum + v) : Nat × Int) ∧ (LPost (Posting.mk pd pt ps pk a0 a1 a2 a3 a4 a5)).μ ((i + 1, sum + v) : Nat × Int) < (LPost (Posting.mk pd pt ps pk a0 a1 a2 a3 a4 a5)).μ ((i, sum) : Nat × Int) := fun v h hv hc => by
        refine ⟨⟨show i + 1 ≤ 6 by omega, fun j hj => ?_, ?_⟩, show 6 - (i + 1) < 6 - i by omega⟩
        · have hj : j < i + 1 := hj
          by_cases he : j = i
          · subst he; exact hc
          · exact h2 j (by omega)
        · show sum + v = sumN (amtsL (Posting.mk pd pt ps pk a0 a1 a2 a3 a4 a5)) i + (amtsL (Posting.mk pd pt ps pk a0 a1 a2 a3 a4 a5)).getD i 0
          rw [h3, hv]
      have hfin : i = 6 → mayPostB (Posting.mk pd pt ps pk a0 a1 a2 a3 a4 a5) = (dayB pd && numdB pt && decide (1 ≤ ps) && decide (ps ≤ 200) && (decide (sum = 0) && (decide (pk ≠ 5) || decide (a0 = 0) || decide (a5 = 0)))) := fun h => by
        subst h; rw [hm, columnsB_good h2, h3, decide_eq_true hk.1, decide_eq_true hk.2, Bool.and_true, Bool.and_true]; rfl
      have b0 := hb a0 (by simp)
      have b1 := hb a1 (by simp)
      have b2 := hb a2 (by simp)
      have b3 := hb a3 (by simp)
      have b4 := hb a4 (by simp)
      have b5 := hb a5 (by simp)
      clear hm h2 h3 hb
      rcases (by omega : i < 6 ∨ i = 6) with hi | rfl
      · have hex : ¬ (signsL pk).length ≤ i := by omega
        have hr2 := hru i hi
        have hr3 := hr2.2
        rw [hss] at hr3
        rcases (by omega : i = 0 ∨ i = 1 ∨ i = 2 ∨ i = 3 ∨ i = 4 ∨ i = 5) with rfl | rfl | rfl | rfl | rfl | rfl
        all_goals (
          (conv => whnf)
          (repeat' ((first
            | (exact absurd (by with_reducible assumption) hex)
            | ((with_reducible refine And.intro ?_ ?_); focus (first | with_reducible exact True.intro | omega | (simp only [inK_def, Go.Vc.lo, Go.Vc.hi]; omega)))
            | (split <;> rename_i hh <;> (try simp only [wS] at hh) <;> (try simp (disch := omega) only [Int.tdiv_eq_ediv_of_nonneg, Int.tmod_eq_emod_of_nonneg] at hh))
            | fail) <;> (conv => whnf)))
          all_goals (try (show _ = _; simp only [wQ]))
          )
        all_goals try (
          symm; refine hbad (by omega) fun hc => ?_
          have hq := fun v hv => (hcol v (by omega) hv).1 hc
          rename_i hh
          first | (rw [hq a0 rfl] at hh; cases hh; done) | (rw [hq a1 rfl] at hh; cases hh; done) | (rw [hq a2 rfl] at hh; cases hh; done) | (rw [hq a3 rfl] at hh; cases hh; done) | (rw [hq a4 rfl] at hh; cases hh; done) | (rw [hq a5 rfl] at hh; cases hh; done))
        · (conv => whnf)
          refine ⟨((1, sum + a0) : Nat × Int), [], ?_, ⟨⟨rfl, Nat.le_of_ble_eq_true rfl, rfl⟩, ?_, ?_⟩⟩
          · exact hgo a0 (by omega) rfl ((hcol a0 (by omega) rfl).2 (by assumption))
          · (conv => whnf)
            (repeat' ((first | with_reducible exact True.intro | ((with_reducible refine And.intro ?_ ?_); focus (first | with_reducible rfl | omega | exact Nat.le_of_ble_eq_true rfl | rfl)) | with_reducible refine And.intro (?_ : leA _ _ _) ?_ | fail) <;> (conv => whnf)))
            all_goals (try simp only [wQ])
          · (conv => whnf)
            (repeat' ((first | with_reducible exact True.intro | ((with_reducible refine And.intro ?_ ?_); focus (first | with_reducible rfl | omega | exact Nat.le_of_ble_eq_true rfl | rfl)) | with_reducible refine And.intro (?_ : leA _ _ _) ?_ | with_reducible refine And.intro (?_ : leL _ _ _) ?_ | with_reducible refine And.intro (?_ : leBlk _ _ _ _) ?_ | fail) <;> (conv => whnf)))
            all_goals (try simp only [wQ])
            all_goals (try first | omega | rfl)
            all_goals rw [hr3]
        · (conv => whnf)
          refine ⟨((2, sum + a1) : Nat × Int), [], ?_, ⟨⟨rfl, Nat.le_of_ble_eq_true rfl, rfl⟩, ?_, ?_⟩⟩
          · exact hgo a1 (by omega) rfl ((hcol a1 (by omega) rfl).2 (by assumption))
          · (conv => whnf)
            (repeat' ((first | with_reducible exact True.intro | ((with_reducible refine And.intro ?_ ?_); focus (first | with_reducible rfl | omega | exact Nat.le_of_ble_eq_true rfl | rfl)) | with_reducible refine And.intro (?_ : leA _ _ _) ?_ | fail) <;> (conv => whnf)))
            all_goals (try simp only [wQ])
          · (conv => whnf)
            (repeat' ((first | with_reducible exact True.intro | ((with_reducible refine And.intro ?_ ?_); focus (first | with_reducible rfl | omega | exact Nat.le_of_ble_eq_true rfl | rfl)) | with_reducible refine And.intro (?_ : leA _ _ _) ?_ | with_reducible refine And.intro (?_ : leL _ _ _) ?_ | with_reducible refine And.intro (?_ : leBlk _ _ _ _) ?_ | fail) <;> (conv => whnf)))
            all_goals (try simp only [wQ])
            all_goals (try first | omega | rfl)
            all_goals rw [hr3]
        · (conv => whnf)
          refine ⟨((3, sum + a2) : Nat × Int), [], ?_, ⟨⟨rfl, Nat.le_of_ble_eq_true rfl, rfl⟩, ?_, ?_⟩⟩
          · exact hgo a2 (by omega) rfl ((hcol a2 (by omega) rfl).2 (by assumption))
          · (conv => whnf)
            (repeat' ((first | with_reducible exact True.intro | ((with_reducible refine And.intro ?_ ?_); focus (first | with_reducible rfl | omega | exact Nat.le_of_ble_eq_true rfl | rfl)) | with_reducible refine And.intro (?_ : leA _ _ _) ?_ | fail) <;> (conv => whnf)))
            all_goals (try simp only [wQ])
          · (conv => whnf)
            (repeat' ((first | with_reducible exact True.intro | ((with_reducible refine And.intro ?_ ?_); focus (first | with_reducible rfl | omega | exact Nat.le_of_ble_eq_true rfl | rfl)) | with_reducible refine And.intro (?_ : leA _ _ _) ?_ | with_reducible refine And.intro (?_ : leL _ _ _) ?_ | with_reducible refine And.intro (?_ : leBlk _ _ _ _) ?_ | fail) <;> (conv => whnf)))
            all_goals (try simp only [wQ])
            all_goals (try first | omega | rfl)
            all_goals rw [hr3]
        · (conv => whnf)
          refine ⟨((4, sum + a3) : Nat × Int), [], ?_, ⟨⟨rfl, Nat.le_of_ble_eq_true rfl, rfl⟩, ?_, ?_⟩⟩
          · exact hgo a3 (by omega) rfl ((hcol a3 (by omega) rfl).2 (by assumption))
          · (conv => whnf)
            (repeat' ((first | with_reducible exact True.intro | ((with_reducible refine And.intro ?_ ?_); focus (first | with_reducible rfl | omega | exact Nat.le_of_ble_eq_true rfl | rfl)) | with_reducible refine And.intro (?_ : leA _ _ _) ?_ | fail) <;> (conv => whnf)))
            all_goals (try simp only [wQ])
          · (conv => whnf)
            (repeat' ((first | with_reducible exact True.intro | ((with_reducible refine And.intro ?_ ?_); focus (first | with_reducible rfl | omega | exact Nat.le_of_ble_eq_true rfl | rfl)) | with_reducible refine And.intro (?_ : leA _ _ _) ?_ | with_reducible refine And.intro (?_ : leL _ _ _) ?_ | with_reducible refine And.intro (?_ : leBlk _ _ _ _) ?_ | fail) <;> (conv => whnf)))
            all_goals (try simp only [wQ])
            all_goals (try first | omega | rfl)
            all_goals rw [hr3]
        · (conv => whnf)
          refine ⟨((5, sum + a4) : Nat × Int), [], ?_, ⟨⟨rfl, Nat.le_of_ble_eq_true rfl, rfl⟩, ?_, ?_⟩⟩
          · exact hgo a4 (by omega) rfl ((hcol a4 (by omega) rfl).2 (by assumption))
          · (conv => whnf)
            (repeat' ((first | with_reducible exact True.intro | ((with_reducible refine And.intro ?_ ?_); focus (first | with_reducible rfl | omega | exact Nat.le_of_ble_eq_true rfl | rfl)) | with_reducible refine And.intro (?_ : leA _ _ _) ?_ | fail) <;> (conv => whnf)))
            all_goals (try simp only [wQ])
          · (conv => whnf)
            (repeat' ((first | with_reducible exact True.intro | ((with_reducible refine And.intro ?_ ?_); focus (first | with_reducible rfl | omega | exact Nat.le_of_ble_eq_true rfl | rfl)) | with_reducible refine And.intro (?_ : leA _ _ _) ?_ | with_reducible refine And.intro (?_ : leL _ _ _) ?_ | with_reducible refine And.intro (?_ : leBlk _ _ _ _) ?_ | fail) <;> (conv => whnf)))
            all_goals (try simp only [wQ])
            all_goals (try first | omega | rfl)
            all_goals rw [hr3]
        · (conv => whnf)
          refine ⟨((6, sum + a5) : Nat × Int), [], ?_, ⟨⟨rfl, Nat.le_of_ble_eq_true rfl, rfl⟩, ?_, ?_⟩⟩
          · exact hgo a5 (by omega) rfl ((hcol a5 (by omega) rfl).2 (by assumption))
          · (conv => whnf)
            (repeat' ((first | with_reducible exact True.intro | ((with_reducible refine And.intro ?_ ?_); focus (first | with_reducible rfl | omega | exact Nat.le_of_ble_eq_true rfl | rfl)) | with_reducible refine And.intro (?_ : leA _ _ _) ?_ | fail) <;> (conv => whnf)))
            all_goals (try simp only [wQ])
          · (conv => whnf)
            (repeat' ((first | with_reducible exact True.intro | ((with_reducible refine And.intro ?_ ?_); focus (first | with_reducible rfl | omega | exact Nat.le_of_ble_eq_true rfl | rfl)) | with_reducible refine And.intro (?_ : leA _ _ _) ?_ | with_reducible refine And.intro (?_ : leL _ _ _) ?_ | with_reducible refine And.intro (?_ : leBlk _ _ _ _) ?_ | fail) <;> (conv => whnf)))
            all_goals (try simp only [wQ])
            all_goals (try first | omega | rfl)
            all_goals rw [hr3]
      · have hex : ¬ 6 < (signsL pk).length := by omega
        (conv => whnf)
        (repeat' ((first
          | (exact absurd (by with_reducible assumption) hex)
          | ((with_reducible refine And.intro ?_ ?_); focus (with_reducible exact True.intro))
          | (split <;> rename_i hh <;> (try simp only [wS] at hh) <;> (try simp (disch := omega) only [Int.tdiv_eq_ediv_of_nonneg, Int.tmod_eq_emod_of_nonneg] at hh))
          | fail) <;> (conv => whnf)))
        all_goals (try (show _ = _; simp only [wQ]))
        all_goals (
          rw [hfin rfl]; unfold dayB numdB
          first | (symm; refine Bool.eq_false_iff.2 fun h => ?_; simp only [Bool.and_eq_true, Bool.or_eq_true, decide_eq_true_eq] at h; omega) | (simp [*, eqI_eq]; done) | (rw [Bool.eq_iff_iff]; simp_all [eqI_eq]; done))
end
end Go.Vc.Z

/- Decimal numerals: the program's and the document's. -/
namespace Go.Vc.Z
open Go Go.Vc Go.Proofs Go.RowKit Go.Pl Go.Lib
noncomputable section
set_option maxRecDepth 100000
set_option linter.unusedSimpArgs false
set_option linter.unusedVariables false
attribute [local irreducible] inK Utf8.decode Utf8.encode Lib.itoa Pl.worth Pl.allDig
end
end Go.Vc.Z

/- Decimal numerals: wire.Decimal; whole numbers of scripts. -/
namespace Go.Vc.Z
open Go Go.Vc Go.Proofs Go.RowKit Go.Pl Go.Lib
noncomputable section
set_option maxRecDepth 100000
set_option linter.unusedSimpArgs false
set_option linter.unusedVariables false
attribute [local irreducible] inK Utf8.decode Utf8.encode Lib.itoa Pl.worth Pl.allDig
end
end Go.Vc.Z

/- How the library functions that are met by their contracts lie in this program: strings.Join, strconv.Itoa, FormatInt, FormatUint and what they call. -/
namespace Go.Proofs
open Go.Shelf Go.RowKit
set_option maxRecDepth 1000000
def Tryz.laysJoin_ren : Go.Shelf.Ren := ⟨fun | 156 => 62 | 165 => 134 | 166 => 101 | 169 => 102 | 240 => 182 | 241 => 209 | 276 => 249 | 277 => 271 | n => n, fun | 31 => 32 | 9 => 9 | 3 => 3 | 4 => 4 | 0 => 0 | 20 => 20 | 72 => 152 | 76 => 155 | 70 => 149 | 37 => 150 | 75 => 154 | 127 => 221 | 164 => 264 | 5 => 5 | 80 => 162 | n => n, fun | n => n⟩
theorem Tryz.laysJoin : Go.Proofs.Lays.n156 Tryz.prog Tryz.laysJoin_ren := {
  mixed := by kernel_rfl
  f156 := Tryz.func62.trans (congrArg some (by kernel_rfl))
  f165 := Tryz.func134.trans (congrArg some (by kernel_rfl))
  f166 := Tryz.func101.trans (congrArg some (by kernel_rfl))
  f169 := Tryz.func102.trans (congrArg some (by kernel_rfl))
  f240 := Tryz.func182.trans (congrArg some (by kernel_rfl))
  f241 := Tryz.func209.trans (congrArg some (by kernel_rfl))
  f276 := Tryz.func249.trans (congrArg some (by kernel_rfl))
  f277 := Tryz.func271.trans (congrArg some (by kernel_rfl))
  t0 := Tryz.underlying0
  a0 := Tryz.isAgg0
  z0 := Tryz.sizeOf0
  v0 := Tryz.zeroValue0
  t3 := Tryz.underlying3
  a3 := Tryz.isAgg3
  z3 := Tryz.sizeOf3
  v3 := Tryz.zeroValue3
  t4 := Tryz.underlying4
  a4 := Tryz.isAgg4
  z4 := Tryz.sizeOf4
  v4 := Tryz.zeroValue4
  t9 := Tryz.underlying9
  a9 := Tryz.isAgg9
  z9 := Tryz.sizeOf9
  v9 := Tryz.zeroValue9
  t20 := Tryz.underlying20
  a20 := Tryz.isAgg20
  z20 := Tryz.sizeOf20
  v20 := Tryz.zeroValue20
  t31 := Tryz.underlying32
  a31 := Tryz.isAgg32
  z31 := Tryz.sizeOf32
  v31 := Tryz.zeroValue32
  t37 := Tryz.underlying150
  a37 := Tryz.isAgg150
  z37 := Tryz.sizeOf150
  v37 := Tryz.zeroValue150
  t70 := Tryz.underlying149
  a70 := Tryz.isAgg149
  z70 := Tryz.sizeOf149
  v70 := Tryz.zeroValue149
  t72 := Tryz.underlying152
  a72 := Tryz.isAgg152
  z72 := Tryz.sizeOf152
  v72 := Tryz.zeroValue152
  t75 := Tryz.underlying154
  a75 := Tryz.isAgg154
  z75 := Tryz.sizeOf154
  v75 := Tryz.zeroValue154
  t76 := Tryz.underlying155
  a76 := Tryz.isAgg155
  z76 := Tryz.sizeOf155
  v76 := Tryz.zeroValue155
  t127 := Tryz.underlying221
  a127 := Tryz.isAgg221
  z127 := Tryz.sizeOf221
  v127 := Tryz.zeroValue221
  t164 := Tryz.underlying264
  a164 := Tryz.isAgg264
  z164 := Tryz.sizeOf264
  v164 := Tryz.zeroValue264 }
def Tryz.laysItoa_ren : Go.Shelf.Ren := ⟨fun | 171 => 111 | 243 => 189 | 246 => 190 | 283 => 203 | 284 => 204 | 285 => 205 | 286 => 206 | 129 => 267 | 317 => 266 | 318 => 268 | 319 => 269 | 320 => 270 | 337 => 301 | 338 => 302 | n => n, fun | 3 => 3 | 9 => 9 | 2 => 2 | 4 => 4 | 171 => 233 | 0 => 0 | 53 => 37 | 37 => 150 | 5 => 5 | 173 => 235 | 212 => 281 | 51 => 282 | 20 => 20 | 213 => 283 | 46 => 284 | 232 => 323 | 233 => 324 | n => n, fun | 17 => 0 | 18 => 4 | 19 => 5 | n => n⟩
theorem Tryz.laysItoa : Go.Proofs.LaysM.n171 Tryz.prog Tryz.laysItoa_ren := {
  mixed := by kernel_rfl
  f129 := Tryz.func267.trans (congrArg some (by kernel_rfl))
  f171 := Tryz.func111.trans (congrArg some (by kernel_rfl))
  f243 := Tryz.func189.trans (congrArg some (by kernel_rfl))
  f246 := Tryz.func190.trans (congrArg some (by kernel_rfl))
  f283 := Tryz.func203.trans (congrArg some (by kernel_rfl))
  f284 := Tryz.func204.trans (congrArg some (by kernel_rfl))
  f285 := Tryz.func205.trans (congrArg some (by kernel_rfl))
  f286 := Tryz.func206.trans (congrArg some (by kernel_rfl))
  f317 := Tryz.func266.trans (congrArg some (by kernel_rfl))
  f318 := Tryz.func268.trans (congrArg some (by kernel_rfl))
  f319 := Tryz.func269.trans (congrArg some (by kernel_rfl))
  f320 := Tryz.func270.trans (congrArg some (by kernel_rfl))
  f337 := Tryz.func301.trans (congrArg some (by kernel_rfl))
  f338 := Tryz.func302.trans (congrArg some (by kernel_rfl))
  t0 := Tryz.underlying0
  a0 := Tryz.isAgg0
  z0 := Tryz.sizeOf0
  v0 := Tryz.zeroValue0
  t2 := Tryz.underlying2
  a2 := Tryz.isAgg2
  z2 := Tryz.sizeOf2
  v2 := Tryz.zeroValue2
  t3 := Tryz.underlying3
  a3 := Tryz.isAgg3
  z3 := Tryz.sizeOf3
  v3 := Tryz.zeroValue3
  t4 := Tryz.underlying4
  a4 := Tryz.isAgg4
  z4 := Tryz.sizeOf4
  v4 := Tryz.zeroValue4
  t5 := Tryz.underlying5
  a5 := Tryz.isAgg5
  z5 := Tryz.sizeOf5
  v5 := Tryz.zeroValue5
  t9 := Tryz.underlying9
  a9 := Tryz.isAgg9
  z9 := Tryz.sizeOf9
  v9 := Tryz.zeroValue9
  t20 := Tryz.underlying20
  a20 := Tryz.isAgg20
  z20 := Tryz.sizeOf20
  v20 := Tryz.zeroValue20
  t37 := Tryz.underlying150
  a37 := Tryz.isAgg150
  z37 := Tryz.sizeOf150
  v37 := Tryz.zeroValue150
  t46 := Tryz.underlying284
  a46 := Tryz.isAgg284
  z46 := Tryz.sizeOf284
  v46 := Tryz.zeroValue284
  t51 := Tryz.underlying282
  a51 := Tryz.isAgg282
  z51 := Tryz.sizeOf282
  v51 := Tryz.zeroValue282
  t53 := Tryz.underlying37
  a53 := Tryz.isAgg37
  z53 := Tryz.sizeOf37
  v53 := Tryz.zeroValue37
  t171 := Tryz.underlying233
  a171 := Tryz.isAgg233
  z171 := Tryz.sizeOf233
  v171 := Tryz.zeroValue233
  t173 := Tryz.underlying235
  a173 := Tryz.isAgg235
  z173 := Tryz.sizeOf235
  v173 := Tryz.zeroValue235
  t212 := Tryz.underlying281
  a212 := Tryz.isAgg281
  z212 := Tryz.sizeOf281
  v212 := Tryz.zeroValue281
  t213 := Tryz.underlying283
  a213 := Tryz.isAgg283
  z213 := Tryz.sizeOf283
  t232 := Tryz.underlying323
  a232 := Tryz.isAgg323
  z232 := Tryz.sizeOf323
  v232 := Tryz.zeroValue323
  t233 := Tryz.underlying324
  a233 := Tryz.isAgg324
  z233 := Tryz.sizeOf324
  v233 := Tryz.zeroValue324
  g17 := by kernel_rfl
  g18 := by kernel_rfl
  g19 := by kernel_rfl
  i0 := by kernel_rfl
  i2 := by kernel_rfl
  i3 := by kernel_rfl
  i4 := by kernel_rfl
  i5 := by kernel_rfl
  i9 := by kernel_rfl
  i20 := by kernel_rfl
  i37 := by kernel_rfl
  i46 := by kernel_rfl
  i51 := by kernel_rfl
  i53 := by kernel_rfl
  i171 := by kernel_rfl
  i173 := by kernel_rfl
  i212 := by kernel_rfl
  i232 := by kernel_rfl
  i233 := by kernel_rfl
  m17 := by kernel_rfl
  m18 := by kernel_rfl
  m19 := by kernel_rfl }
def Tryz.laysFormatInt_ren : Go.Shelf.Ren := ⟨fun | 173 => 114 | 246 => 190 | 283 => 203 | 284 => 204 | 285 => 205 | 286 => 206 | 129 => 267 | 317 => 266 | 318 => 268 | 319 => 269 | 320 => 270 | 337 => 301 | 338 => 302 | n => n, fun | 2 => 2 | 3 => 3 | 9 => 9 | 4 => 4 | 171 => 233 | 0 => 0 | 53 => 37 | 37 => 150 | 5 => 5 | 173 => 235 | 212 => 281 | 51 => 282 | 20 => 20 | 213 => 283 | 46 => 284 | 232 => 323 | 233 => 324 | n => n, fun | 17 => 0 | 18 => 4 | 19 => 5 | n => n⟩
theorem Tryz.laysFormatInt : Go.Proofs.LaysM.n173 Tryz.prog Tryz.laysFormatInt_ren := {
  mixed := by kernel_rfl
  f129 := Tryz.func267.trans (congrArg some (by kernel_rfl))
  f173 := Tryz.func114.trans (congrArg some (by kernel_rfl))
  f246 := Tryz.func190.trans (congrArg some (by kernel_rfl))
  f283 := Tryz.func203.trans (congrArg some (by kernel_rfl))
  f284 := Tryz.func204.trans (congrArg some (by kernel_rfl))
  f285 := Tryz.func205.trans (congrArg some (by kernel_rfl))
  f286 := Tryz.func206.trans (congrArg some (by kernel_rfl))
  f317 := Tryz.func266.trans (congrArg some (by kernel_rfl))
  f318 := Tryz.func268.trans (congrArg some (by kernel_rfl))
  f319 := Tryz.func269.trans (congrArg some (by kernel_rfl))
  f320 := Tryz.func270.trans (congrArg some (by kernel_rfl))
  f337 := Tryz.func301.trans (congrArg some (by kernel_rfl))
  f338 := Tryz.func302.trans (congrArg some (by kernel_rfl))
  t0 := Tryz.underlying0
  a0 := Tryz.isAgg0
  z0 := Tryz.sizeOf0
  v0 := Tryz.zeroValue0
  t2 := Tryz.underlying2
  a2 := Tryz.isAgg2
  z2 := Tryz.sizeOf2
  v2 := Tryz.zeroValue2
  t3 := Tryz.underlying3
  a3 := Tryz.isAgg3
  z3 := Tryz.sizeOf3
  v3 := Tryz.zeroValue3
  t4 := Tryz.underlying4
  a4 := Tryz.isAgg4
  z4 := Tryz.sizeOf4
  v4 := Tryz.zeroValue4
  t5 := Tryz.underlying5
  a5 := Tryz.isAgg5
  z5 := Tryz.sizeOf5
  v5 := Tryz.zeroValue5
  t9 := Tryz.underlying9
  a9 := Tryz.isAgg9
  z9 := Tryz.sizeOf9
  v9 := Tryz.zeroValue9
  t20 := Tryz.underlying20
  a20 := Tryz.isAgg20
  z20 := Tryz.sizeOf20
  v20 := Tryz.zeroValue20
  t37 := Tryz.underlying150
  a37 := Tryz.isAgg150
  z37 := Tryz.sizeOf150
  v37 := Tryz.zeroValue150
  t46 := Tryz.underlying284
  a46 := Tryz.isAgg284
  z46 := Tryz.sizeOf284
  v46 := Tryz.zeroValue284
  t51 := Tryz.underlying282
  a51 := Tryz.isAgg282
  z51 := Tryz.sizeOf282
  v51 := Tryz.zeroValue282
  t53 := Tryz.underlying37
  a53 := Tryz.isAgg37
  z53 := Tryz.sizeOf37
  v53 := Tryz.zeroValue37
  t171 := Tryz.underlying233
  a171 := Tryz.isAgg233
  z171 := Tryz.sizeOf233
  v171 := Tryz.zeroValue233
  t173 := Tryz.underlying235
  a173 := Tryz.isAgg235
  z173 := Tryz.sizeOf235
  v173 := Tryz.zeroValue235
  t212 := Tryz.underlying281
  a212 := Tryz.isAgg281
  z212 := Tryz.sizeOf281
  v212 := Tryz.zeroValue281
  t213 := Tryz.underlying283
  a213 := Tryz.isAgg283
  z213 := Tryz.sizeOf283
  t232 := Tryz.underlying323
  a232 := Tryz.isAgg323
  z232 := Tryz.sizeOf323
  v232 := Tryz.zeroValue323
  t233 := Tryz.underlying324
  a233 := Tryz.isAgg324
  z233 := Tryz.sizeOf324
  v233 := Tryz.zeroValue324
  g17 := by kernel_rfl
  g18 := by kernel_rfl
  g19 := by kernel_rfl
  i0 := by kernel_rfl
  i2 := by kernel_rfl
  i3 := by kernel_rfl
  i4 := by kernel_rfl
  i5 := by kernel_rfl
  i9 := by kernel_rfl
  i20 := by kernel_rfl
  i37 := by kernel_rfl
  i46 := by kernel_rfl
  i51 := by kernel_rfl
  i53 := by kernel_rfl
  i171 := by kernel_rfl
  i173 := by kernel_rfl
  i212 := by kernel_rfl
  i232 := by kernel_rfl
  i233 := by kernel_rfl
  m17 := by kernel_rfl
  m18 := by kernel_rfl
  m19 := by kernel_rfl }
def Tryz.laysBase10_ren : Go.Shelf.Ren := ⟨fun | 285 => 205 | n => n, fun | 37 => 150 | 53 => 37 | 3 => 3 | 4 => 4 | 51 => 282 | 9 => 9 | 5 => 5 | 0 => 0 | n => n, fun | n => n⟩
theorem Tryz.laysBase10 : Go.Proofs.Lays.n285 Tryz.prog Tryz.laysBase10_ren := {
  mixed := by kernel_rfl
  f285 := Tryz.func205.trans (congrArg some (by kernel_rfl))
  t0 := Tryz.underlying0
  a0 := Tryz.isAgg0
  z0 := Tryz.sizeOf0
  v0 := Tryz.zeroValue0
  t3 := Tryz.underlying3
  a3 := Tryz.isAgg3
  z3 := Tryz.sizeOf3
  v3 := Tryz.zeroValue3
  t4 := Tryz.underlying4
  a4 := Tryz.isAgg4
  z4 := Tryz.sizeOf4
  v4 := Tryz.zeroValue4
  t5 := Tryz.underlying5
  a5 := Tryz.isAgg5
  z5 := Tryz.sizeOf5
  v5 := Tryz.zeroValue5
  t9 := Tryz.underlying9
  a9 := Tryz.isAgg9
  z9 := Tryz.sizeOf9
  v9 := Tryz.zeroValue9
  t37 := Tryz.underlying150
  a37 := Tryz.isAgg150
  z37 := Tryz.sizeOf150
  v37 := Tryz.zeroValue150
  t51 := Tryz.underlying282
  a51 := Tryz.isAgg282
  z51 := Tryz.sizeOf282
  v51 := Tryz.zeroValue282
  t53 := Tryz.underlying37
  a53 := Tryz.isAgg37
  z53 := Tryz.sizeOf37
  v53 := Tryz.zeroValue37 }
def Tryz.laysSmall_ren : Go.Shelf.Ren := ⟨fun | 283 => 203 | n => n, fun | 3 => 3 | 9 => 9 | 4 => 4 | n => n, fun | n => n⟩
theorem Tryz.laysSmall : Go.Proofs.Lays.n283 Tryz.prog Tryz.laysSmall_ren := {
  mixed := by kernel_rfl
  f283 := Tryz.func203.trans (congrArg some (by kernel_rfl))
  t3 := Tryz.underlying3
  a3 := Tryz.isAgg3
  z3 := Tryz.sizeOf3
  v3 := Tryz.zeroValue3
  t4 := Tryz.underlying4
  a4 := Tryz.isAgg4
  z4 := Tryz.sizeOf4
  v4 := Tryz.zeroValue4
  t9 := Tryz.underlying9
  a9 := Tryz.isAgg9
  z9 := Tryz.sizeOf9
  v9 := Tryz.zeroValue9 }
def Tryz.laysNumDigits_ren : Go.Shelf.Ren := ⟨fun | 284 => 204 | 129 => 267 | 317 => 266 | 318 => 268 | n => n, fun | 53 => 37 | 3 => 3 | 212 => 281 | 0 => 0 | 4 => 4 | 46 => 284 | 5 => 5 | 9 => 9 | n => n, fun | 17 => 0 | n => n⟩
theorem Tryz.laysNumDigits : Go.Proofs.LaysM.n284 Tryz.prog Tryz.laysNumDigits_ren := {
  mixed := by kernel_rfl
  f129 := Tryz.func267.trans (congrArg some (by kernel_rfl))
  f284 := Tryz.func204.trans (congrArg some (by kernel_rfl))
  f317 := Tryz.func266.trans (congrArg some (by kernel_rfl))
  f318 := Tryz.func268.trans (congrArg some (by kernel_rfl))
  t0 := Tryz.underlying0
  a0 := Tryz.isAgg0
  z0 := Tryz.sizeOf0
  v0 := Tryz.zeroValue0
  t3 := Tryz.underlying3
  a3 := Tryz.isAgg3
  z3 := Tryz.sizeOf3
  v3 := Tryz.zeroValue3
  t4 := Tryz.underlying4
  a4 := Tryz.isAgg4
  z4 := Tryz.sizeOf4
  v4 := Tryz.zeroValue4
  t5 := Tryz.underlying5
  a5 := Tryz.isAgg5
  z5 := Tryz.sizeOf5
  v5 := Tryz.zeroValue5
  t9 := Tryz.underlying9
  a9 := Tryz.isAgg9
  z9 := Tryz.sizeOf9
  v9 := Tryz.zeroValue9
  t46 := Tryz.underlying284
  a46 := Tryz.isAgg284
  z46 := Tryz.sizeOf284
  v46 := Tryz.zeroValue284
  t53 := Tryz.underlying37
  a53 := Tryz.isAgg37
  z53 := Tryz.sizeOf37
  v53 := Tryz.zeroValue37
  t212 := Tryz.underlying281
  a212 := Tryz.isAgg281
  z212 := Tryz.sizeOf281
  v212 := Tryz.zeroValue281
  g17 := by kernel_rfl
  i0 := by kernel_rfl
  i3 := by kernel_rfl
  i4 := by kernel_rfl
  i5 := by kernel_rfl
  i9 := by kernel_rfl
  i46 := by kernel_rfl
  i53 := by kernel_rfl
  i212 := by kernel_rfl
  m17 := by kernel_rfl }
end Go.Proofs

/- Contracts of the library, out of the kit's shelf. -/
namespace Go.Proofs
open Go.Shelf Go.RowKit
theorem Tryz.extra : Builder.Extra Tryz.prog Tryz.laysJoin_ren := {
  sizeBuilder := by kernel_rfl
  liesBuilder := by kernel_rfl
  t5 := by kernel_rfl
  a5 := fun w => Tryz.isAgg5 w
  z5 := fun w => Tryz.sizeOf5 w
  v5 := fun w => Tryz.zeroValue5 w
  infoByte := by kernel_rfl
  cellsByte := by kernel_rfl
  sizeByte := by kernel_rfl
  neB5 := by decide }
end Go.Proofs
namespace Go.Vc
open Go Go.Proofs Go.RowKit
theorem ext_below {S : Nat → Prop} {w w' : World} (h : Below w.heap.size w w') : Ext (fun _ => none) S w (fun _ => none) S w' :=
  ⟨fun _ _ h => (by cases h), fun _ h => h, fun b hb _ => h.block b hb, h.size, fun b arr T fr hb => ⟨arr, fr, (h.block b (lt_of_some hb)).trans hb, rfl⟩, fun _ _ h => (by cases h), fun _ h => .inl h, h.os, h.tape, h.output⟩
/-- A contract of a function that hands back what leads to no memory, out of a law of the kit's. -/
theorem goodP_below {F : Nat → Obj → Prop} {P : Program} {f : FuncId} {α : Type} {args : α → List AV} {pre : α → Prop} {res : α → AV} (hflat : ∀ x, (res x).flat = true) (hu : ∀ x, underL 0 (args x) = true)
    (h : ∀ x S w vs, pre x → factL (args x) → Sok F S w → VL (fun _ => none) S w (args x) vs → Calls P f vs w fun e w' => ∃ v, e = .returned v ∧ (∀ S' w', V (fun _ => none) S' w' (res x) v) ∧ Below w.heap.size w w') : GoodP F P f (PC.of args pre res) := by
  intro S w cs vs Q hs hv hpre
  obtain ⟨x, h1, h2, h3⟩ := hpre
  have hl := leL_length h2
  have hv' : VL (fun _ => none) S w (args x) vs := by
    refine ⟨by rw [← hl]; exact hv.1, fun i c v hc hv' => ?_⟩
    have hi : i < cs.length := by
      rcases Nat.lt_or_ge i (args x).length with h' | h'
      · omega
      · rw [List.getElem?_eq_none h'] at hc; cases hc
    exact (hv.2 i cs[i] v (List.getElem?_eq_getElem hi) hv').le (σ := fun i => i) (n := 0) (fun i b hi => by omega) (leL_get h2 i _ _ (List.getElem?_eq_getElem hi) hc) (underL_get (hu x) i c hc)
  refine (h x S w vs h1 hv'.fact hs hv').mono ?_
  rintro e w' ⟨v, rfl, hV, hb⟩
  exact ⟨v, res x, S, rfl, h3, hV S w', ext_below hb, hs.still (ext_below hb)⟩
theorem V.slR {ρ : Nat → Option Nat} {S : Nat → Prop} {w : World} {clip : Bool} {sz len : Nat} {get : Nat → List AV} {v : Value} (h : V ρ S w (.sl clip sz len get) v) :
    (len = 0 ∧ ∃ ao, v = .slice ao 0 0) ∨ ∃ b o cap, ∃ f : Nat → Nat → Value, v = .slice (some ⟨b, o, none⟩) len cap ∧ (0 < len → S b ∧ b < w.heap.size) ∧ len ≤ cap ∧ cap ≤ maxLen ∧ (∀ e, e < len → (get e).length = sz) ∧
      (∀ e j, e < len → j < sz → w.cell? ⟨b, o + e * sz + j, none⟩ = some (f e j)) ∧ (∀ (e j : Nat) (c : AV), e < len → (get e)[j]? = some c → VI S w (fun _ => none) c (f e j)) := by
  cases h with
  | sln => exact .inl ⟨rfl, _, rfl⟩
  | sl _ _ _ _ b o cap f hs hl hm hcl hz hc hv => exact .inr ⟨b, o, cap, f, rfl, hs, hl, hm, hz, hc, hv⟩
theorem V.strR' {ρ : Nat → Option Nat} {S : Nat → Prop} {w : World} {l : List UInt8} {v : Value} (h : V ρ S w (.str l) v) : ∃ s : ByteArray, v = .string s ∧ s.data.toList = l ∧ l.length ≤ maxLen := by
  cases h with | str _ s h1 h2 => exact ⟨s, rfl, h1, h2⟩
abbrev slS (l : List (List UInt8)) : AV := .sl false 1 l.length (fun e => [.str (l.getD e [])])
def pcJoin : PC := PC.of (fun x : List (List UInt8) × List UInt8 => [slS x.1, .str x.2]) (fun x => (Lib.join x.1 x.2).length ≤ 140737488355328 ∧ x.1.length ≤ 140737488355328) (fun x => .str (Lib.join x.1 x.2))
theorem goodJoin {F : Nat → Obj → Prop} : GoodP F Tryz.prog 62 pcJoin := by
  refine goodP_below (fun _ => rfl) (fun _ => rfl) ?_
  rintro ⟨l, sep⟩ S w vs ⟨hpre, hlen⟩ hf hs hv
  simp only at hpre hlen hv
  obtain ⟨vs⟩ := vs
  match vs, hv with
  | [a, b], hv =>
    have ha := hv.2 0 _ _ rfl rfl
    have hb := hv.2 1 _ _ rfl rfl
    obtain ⟨sb, rfl, hsb, h2⟩ := V.strR' hb
    have fin : ∀ r : List UInt8, r.length ≤ 140737488355328 → ∀ S' w', V (fun _ => none) S' w' (.str r) (.string ⟨r.toArray⟩) := fun r hr S' w' => .str _ _ (by simp) (by rw [maxLen_eq]; omega)
    rcases ha.slR with ⟨h0, ao, rfl⟩ | ⟨b, o, cap, f, rfl, hst, hl, hm, hz, hc, hv'⟩
    · obtain rfl : l = [] := List.length_eq_zero_iff.1 h0
      refine (Any.strings_Join_none Tryz.laysJoin Tryz.extra ao 0 sb w).mono ?_
      rintro e w' ⟨rfl, rfl⟩
      exact ⟨_, rfl, fin [] (by simp), Below.refl _ _⟩
    · have hstr : ∀ (j : Nat), j < l.length → ∃ s : ByteArray, f j 0 = .string s ∧ s.data.toList = l.getD j [] := fun j hj => by
        obtain ⟨s, h1, h3, _⟩ := V.strR' (hv' j 0 _ hj rfl)
        exact ⟨s, h1, h3⟩
      have hxs : ∃ xs : List ByteArray, xs.map (·.data.toList) = l ∧ ∀ (j : Nat) x, xs[j]? = some x → w.cell? ⟨b, o + j, none⟩ = some (.string x) := by
        refine ⟨l.map fun s => ⟨s.toArray⟩, by simp [Function.comp_def], fun j x hx => ?_⟩
        rw [List.getElem?_map] at hx
        cases hj : l[j]? with
        | none => rw [hj] at hx; cases hx
        | some s =>
          rw [hj] at hx
          cases hx
          have hlt : j < l.length := (List.getElem?_eq_some_iff.1 hj).1
          obtain ⟨s', h1, h3⟩ := hstr j hlt
          have := hc j 0 hlt (by omega)
          rw [Nat.mul_one, Nat.add_zero] at this
          rw [this, h1]
          have e : l.getD j [] = s := by rw [List.getD_eq_getElem?_getD, hj]; rfl
          rw [e] at h3
          rw [← h3]
      obtain ⟨xs, hx1, hx2⟩ := hxs
      have hxl : xs.length = l.length := by rw [← hx1]; simp
      by_cases h0 : l.length = 0
      · obtain rfl : l = [] := List.length_eq_zero_iff.1 h0
        refine (Any.strings_Join_none Tryz.laysJoin Tryz.extra (some ⟨b, o, none⟩) cap sb w).mono ?_
        rintro e w' ⟨rfl, rfl⟩
        exact ⟨_, rfl, fin [] (by simp), Below.refl _ _⟩
      · have := Any.strings_Join Tryz.laysJoin Tryz.extra b o cap xs sb w hx2 (hst (by omega)).2 (by omega) (by omega) (by rw [hx1, hsb]; exact hpre)
        rw [hx1, hsb, hxl] at this
        refine this.mono ?_
        rintro e w' ⟨rfl, hb⟩
        exact ⟨_, rfl, fin _ hpre, hb⟩
  | [], hv => simp [VL] at hv
  | [_], hv => simp [VL] at hv
  | _ :: _ :: _ :: _, hv => have := hv.1; simp at this
end Go.Vc

/- strconv.Itoa, strconv.FormatInt, out of the kit's shelf; the tables that the library lays. -/
namespace Go.Vc
open Go Go.Proofs Go.RowKit Go.Sort
theorem below_grow {w : World} (k : Nat) (os : Array Obj) : Below w.heap.size w (grow (w.drewN k) os) := by
  refine ⟨rfl, rfl, rfl, ?_, fun b hb => ?_⟩
  · show w.heap.size ≤ (w.heap ++ os).size
    simp
  · show (w.heap ++ os)[b]? = w.heap[b]?
    rw [Array.getElem?_append_left hb]
def pcItoa : PC := PC.of (fun n : Int => [.int .i64 n]) (fun _ => True) (fun n => .str (Lib.itoa n))
theorem nDigits_lt : ∀ (k u : Nat), u < 10 ^ (k + 1) → Lib.nDigits u ≤ k + 1
  | 0, u, h => by rw [Lib.nDigits_small (by simpa using h)]; omega
  | k + 1, u, h => by
    by_cases h1 : u < 10
    · rw [Lib.nDigits_small h1]; omega
    · rw [Lib.nDigits_big h1]
      have := nDigits_lt k (u / 10) (by rw [Nat.pow_succ] at h; omega)
      omega
theorem dec_len {u : Nat} (h : u < 10000000000000000000000000000000) : (Lib.decDigits u).length ≤ 31 := by
  rw [Lib.decDigits_length]
  exact nDigits_lt 30 u h
theorem itoa_len (n : Int) (h0 : -9223372036854775808 ≤ n) (h1 : n ≤ 9223372036854775807) : (Lib.itoa n).length ≤ 32 := by
  unfold Lib.itoa
  split
  · have := dec_len (u := n.natAbs) (by omega)
    simp; omega
  · have := dec_len (u := n.toNat) (by omega)
    omega
theorem goodItoa {W : World} (hW : Tabs W) : GoodP (Fw W) Tryz.prog 111 pcItoa := by
  refine goodP_below (fun _ => rfl) (fun _ => rfl) ?_
  intro n S w vs _ hf hs hv
  obtain ⟨vs⟩ := vs
  match vs, hv with
  | [a], hv =>
    obtain ⟨rfl, hn⟩ := (hv.2 0 _ _ rfl rfl).intR
    obtain ⟨h0, h1⟩ := hn
    refine (Any.strconv_Itoa Tryz.laysItoa n h0 h1 w (hW.pow hs)).mono ?_
    rintro e w' ⟨rfl, k, os, rfl⟩
    exact ⟨_, rfl, fun S' w' => .str _ _ (by simp) (by rw [maxLen_eq]; have := itoa_len n h0 h1; omega), below_grow k os⟩
  | [], hv => simp [VL] at hv
  | _ :: _ :: _, hv => have := hv.1; simp at this
def pcFormatInt : PC := PC.of (fun n : Int => [.int .i64 n, .int .i64 10]) (fun _ => True) (fun n => .str (Lib.itoa n))
theorem goodFormatInt {W : World} (hW : Tabs W) : GoodP (Fw W) Tryz.prog 114 pcFormatInt := by
  refine goodP_below (fun _ => rfl) (fun _ => rfl) ?_
  intro n S w vs _ hf hs hv
  obtain ⟨vs⟩ := vs
  match vs, hv with
  | [a, b], hv =>
    obtain ⟨rfl, hn⟩ := (hv.2 0 _ _ rfl rfl).intR
    obtain ⟨rfl, _⟩ := (hv.2 1 _ _ rfl rfl).intR
    obtain ⟨h0, h1⟩ := hn
    refine (Any.strconv_FormatInt_10 Tryz.laysFormatInt n h0 h1 w (hW.pow hs)).mono ?_
    rintro e w' ⟨rfl, k, os, rfl⟩
    exact ⟨_, rfl, fun S' w' => .str _ _ (by simp) (by rw [maxLen_eq]; have := itoa_len n h0 h1; omega), below_grow k os⟩
  | [], hv => simp [VL] at hv
  | [_], hv => simp [VL] at hv
  | _ :: _ :: _ :: _, hv => have := hv.1; simp at this
end Go.Vc

/- internal/strconv.formatBase10 into one's own row. -/
namespace Go.Vc
open Go Go.Proofs Go.RowKit Go.Sort
def kBase10 : Ctr := fun cs H Q => match cs with
  | [.osl id sz off len _, .int .u64 u] => (match H[id]? with
    | some (.row sz' L get T) => (sz = 1 ∧ sz' = 1 ∧ off + len ≤ L ∧ 0 < len ∧ len ≤ 100 ∧ 0 ≤ u ∧ u.toNat < 10 ^ len ∧ u.toNat < 18446744073709551616 ∧ ∃ bs : Nat → UInt8, ∀ e, e < len → get (off + e) = [.int .u8 (bs e).toNat]) ∧
        Q (.tup []) (H.set id (.row 1 L (fun e => if off ≤ e ∧ e < off + len then [.int .u8 (Lib.dg u.toNat (len - 1 - (e - off))).toNat] else get e) T))
    | _ => False)
  | _ => False
theorem goodBase10 {F : Nat → Obj → Prop} : Good F Tryz.prog 205 kBase10 := by
  intro ρ S w H cs vs Q hs hH hv hK
  unfold kBase10 at hK
  split at hK
  · rename_i id sz off len cap u
    split at hK
    · rename_i sz' L get T0 hcs
      obtain ⟨⟨rfl, rfl, hL, h0, h100, hu0, hu, hu64, bs, hbs⟩, hQ⟩ := hK
      obtain ⟨vs⟩ := vs
      match vs, hv with
      | [a, b], hv =>
        obtain ⟨b, o, cp, rfl, hb, hl, hm, ho, ⟨arr, T, fr, h1, h2⟩, _⟩ := (hv.2 0 _ _ rfl rfl).oslR
        obtain ⟨rfl, hk⟩ := (hv.2 1 _ _ rfl rfl).intR
        obtain ⟨hns, arr', T', fr', h3, h4, h5, h6, h7⟩ := hH.blk _ _ hcs b hb
        rw [h1] at h3
        cases h3
        have ho' := ho (by omega)
        rw [Nat.mul_one] at ho'
        subst ho'
        have hcell : ∀ e, e < len → arr[o + e]? = some (.int .u8 (bs e).toNat) := fun e he => by
          have hlt : o + e < arr.size := by omega
          have := h7 (o + e) 0 (.int .u8 (bs e).toNat) arr[o + e] (by omega) (by rw [hbs e he]; rfl) (by simp [hlt])
          have e1 := (this.intR).1
          simp [hlt, e1]
        let d : Array UInt8 := ((List.range len).map bs).toArray
        have hd : d.size = len := by simp [d]
        have hdj : ∀ j, j < len → d[j]! = bs j := fun j hj => by rw [getElem!_pos _ j (by omega)]; simp [d]
        have hHolds : Holds (fun (b : UInt8) => Value.int .u8 (b.toNat : Int)) w b o d := by
          intro j hj
          rw [hd] at hj
          refine ⟨?_, h5 _ (by omega)⟩
          simp only [World.cell?, h1]
          rw [hdj j hj]
          exact hcell j hj
        have call := Any.internal_strconv_formatBase10 Tryz.laysBase10 b o cp u.toNat d w hHolds (by rw [hd]; exact hu) hu64 (by rw [hd]; omega)
        rw [hd, show ((u.toNat : Nat) : Int) = u by omega] at call
        refine call.mono ?_
        rintro e w' ⟨rfl, n, v', dk, rfl, hinv⟩
        have hdk : dk.size = len := by rw [hinv.size]
        have hheap : ∀ k, ((putRow (fun (b : UInt8) => Value.int .u8 (b.toNat : Int)) w b o dk).drewN n).heap[k]? = if b = k then (w.heap[k]?).map (onCells (putCells (fun (b : UInt8) => Value.int .u8 (b.toNat : Int)) o dk)) else w.heap[k]? := fun k => by
          show (w.heap.modify b _)[k]? = _
          rw [Array.getElem?_modify]
        have hsz : ((putRow (fun (b : UInt8) => Value.int .u8 (b.toNat : Int)) w b o dk).drewN n).heap.size = w.heap.size := by
          show (w.heap.modify b _).size = _
          simp
        have hnew : ((putRow (fun (b : UInt8) => Value.int .u8 (b.toNat : Int)) w b o dk).drewN n).heap[b]? = some (.cells (putCells (fun (b : UInt8) => Value.int .u8 (b.toNat : Int)) o dk arr) (tyOr T0 T') fr) := by
          rw [hheap, if_pos rfl, h1]; rfl
        have hE : Ext ρ S w ρ S ((putRow (fun (b : UInt8) => Value.int .u8 (b.toNat : Int)) w b o dk).drewN n) :=
          ext_upd hH hb hns hsz (fun k hk => by rw [hheap, if_neg (Ne.symm hk)]) (fun arr2 T2 fr2 h => by rw [h1] at h; cases h; exact ⟨_, _, hnew, by simp [putCells]⟩) rfl rfl rfl
        refine ⟨_, .tup [], _, ρ, S, rfl, hQ, .tup _ _ rfl (fun i c v hc => by simp at hc), hrel_upd hH hcs rfl hb hE hsz (fun k hk => by rw [hheap, if_neg (Ne.symm hk)]) ?_, hE, hs.still hE⟩
        intro b' hb'
        rw [hb] at hb'
        cases hb'
        refine ⟨hns, _, T', fr, hnew, by simpa [putCells] using h4, fun o' ho' => ?_, fun e he => ?_, fun e j c v he hc hv => ?_⟩
        · have : o' < arr.size := by simpa [putCells] using ho'
          have h8 := h5 o' this
          simp only [World.frozen?, h1] at h8
          simp only [World.frozen?, hnew]
          exact h8
        · show (if o ≤ e ∧ e < o + len then _ else get e).length = 1
          split
          · rfl
          · exact h6 e he
        · have hc' : (if o ≤ e ∧ e < o + len then [AV.int .u8 (Lib.dg u.toNat (len - 1 - (e - o))).toNat] else get e)[j]? = some c := hc
          have hlt : e < arr.size := by omega
          by_cases hin : o ≤ e ∧ e < o + len
          · rw [if_pos hin] at hc'
            have hj : j = 0 := by
              cases j with
              | zero => rfl
              | succ j => simp at hc'
            subst hj
            simp at hc'
            subst hc'
            have hv' : v = .int .u8 (dk[e - o]!).toNat := by
              rw [Nat.mul_one, Nat.add_zero] at hv
              simp [putCells, hlt, hdk, hin] at hv
              exact hv.symm
            rw [hv', hinv.done (e - o) (Nat.zero_le _) (by omega)]
            exact V.int' (by have := (Lib.dg u.toNat (len - 1 - (e - o))).toNat_lt; simp only [inK, Go.Vc.lo, Go.Vc.hi]; omega)
          · rw [if_neg hin] at hc'
            refine (h7 e j c v he hc' ?_).mono hE
            have hj : j = 0 := by
              cases j with
              | zero => rfl
              | succ j => rw [List.getElem?_eq_none (by rw [h6 e he]; omega)] at hc'; cases hc'
            subst hj
            rw [Nat.mul_one, Nat.add_zero] at hv ⊢
            simp [putCells, hlt, hdk] at hv
            rw [if_neg (by omega)] at hv
            simp [hlt]
            exact hv
      | [], hv => simp [VL] at hv
      | [_], hv => simp [VL] at hv
      | _ :: _ :: _ :: _, hv => have := hv.1; simp at this
    · exact hK.elim
  · exact hK.elim
end Go.Vc

/- strconv.FormatUint. -/
namespace Go.Vc
open Go Go.Proofs Go.RowKit Go.Sort
def pcSmall : PC := PC.of (fun n : Int => [.int .i64 n]) (fun n => 0 ≤ n ∧ n < 100) (fun n => .str (Lib.decDigits n.toNat))
theorem goodSmall {F : Nat → Obj → Prop} : GoodP F Tryz.prog 203 pcSmall := by
  refine goodP_below (fun _ => rfl) (fun _ => rfl) ?_
  rintro n S w vs ⟨h0, h1⟩ hf hs hv
  obtain ⟨vs⟩ := vs
  match vs, hv with
  | [a], hv =>
    obtain ⟨rfl, _⟩ := (hv.2 0 _ _ rfl rfl).intR
    have := Any.internal_strconv_small Tryz.laysSmall n.toNat (by omega) w
    rw [show ((n.toNat : Nat) : Int) = n by omega] at this
    refine this.mono ?_
    rintro e w' ⟨rfl, rfl⟩
    exact ⟨_, rfl, fun S' w' => .str _ _ (by simp) (by rw [maxLen_eq]; have := dec_len (u := n.toNat) (by omega); omega), Below.refl _ _⟩
  | [], hv => simp [VL] at hv
  | _ :: _ :: _, hv => have := hv.1; simp at this
def pcNumDigits : PC := PC.of (fun u : Int => [.int .u64 u]) (fun u => 1 ≤ u) (fun u => .int .i64 (Lib.nDigits u.toNat))
theorem nDigits_20 {u : Nat} (h : u < 18446744073709551616) : Lib.nDigits u ≤ 20 := nDigits_lt 19 u (by omega)
theorem goodNumDigits {W : World} (hW : Tabs W) : GoodP (Fw W) Tryz.prog 204 pcNumDigits := by
  refine goodP_below (fun _ => rfl) (fun _ => rfl) ?_
  rintro u S w vs h1 hf hs hv
  obtain ⟨vs⟩ := vs
  match vs, hv with
  | [a], hv =>
    obtain ⟨rfl, h0, h2⟩ := (hv.2 0 _ _ rfl rfl).intR
    simp only [Go.Vc.lo, Go.Vc.hi] at h0 h2
    have := Any.internal_strconv_numDigits Tryz.laysNumDigits u.toNat (by omega) (by omega) w (hW.pow hs)
    rw [show ((u.toNat : Nat) : Int) = u by omega] at this
    refine this.mono ?_
    rintro e w' ⟨rfl, rfl⟩
    exact ⟨_, rfl, fun S' w' => V.int' (by have := nDigits_20 (u := u.toNat) (by omega); simp only [inK, Go.Vc.lo, Go.Vc.hi]; omega), Below.refl _ _⟩
  | [], hv => simp [VL] at hv
  | _ :: _ :: _, hv => have := hv.1; simp at this
end Go.Vc
namespace Go.Vc.Z
open Go Go.Vc Go.Proofs Go.RowKit
set_option maxRecDepth 100000
attribute [local irreducible] inK
theorem zero24 : ∀ e : Nat, e < 24 → ((List.drop (0 + e * 1) [AV.int IntKind.u8 0, AV.int IntKind.u8 0, AV.int IntKind.u8 0, AV.int IntKind.u8 0, AV.int IntKind.u8 0, AV.int IntKind.u8 0, AV.int IntKind.u8 0, AV.int IntKind.u8 0, AV.int IntKind.u8 0, AV.int IntKind.u8 0, AV.int IntKind.u8 0, AV.int IntKind.u8 0, AV.int IntKind.u8 0, AV.int IntKind.u8 0, AV.int IntKind.u8 0, AV.int IntKind.u8 0, AV.int IntKind.u8 0, AV.int IntKind.u8 0, AV.int IntKind.u8 0, AV.int IntKind.u8 0, AV.int IntKind.u8 0, AV.int IntKind.u8 0, AV.int IntKind.u8 0, AV.int IntKind.u8 0]).take 1) = [.int .u8 ((0 : UInt8)).toNat] := by
  intro e he
  rw [Nat.zero_add, Nat.mul_one]
  match e, he with
  | 0, _ => rfl | 1, _ => rfl | 2, _ => rfl | 3, _ => rfl | 4, _ => rfl | 5, _ => rfl | 6, _ => rfl | 7, _ => rfl | 8, _ => rfl | 9, _ => rfl | 10, _ => rfl | 11, _ => rfl
  | 12, _ => rfl | 13, _ => rfl | 14, _ => rfl | 15, _ => rfl | 16, _ => rfl | 17, _ => rfl | 18, _ => rfl | 19, _ => rfl | 20, _ => rfl | 21, _ => rfl | 22, _ => rfl | 23, _ => rfl
  | e + 24, he => exact absurd he (by omega)
def pcFormatUint0 : PC := PC.of (fun u : Int => [.int .u64 u, .int .i64 10]) (fun _ => True) (fun u => .str (Lib.decDigits u.toNat))
theorem goodFormatUint0 {W : World} (hW : Tabs W) : GoodP (Fw W) Tryz.prog 128 pcFormatUint0 := by
  have hD : PTOk (Fw W) Tryz.prog (tabD [(203, pcSmall), (204, pcNumDigits)]) := tabD_cons Tryz.call203 goodSmall (tabD_cons Tryz.call204 (goodNumDigits hW) tabD_nil)
  refine goodP_of (D := tabD [(203, pcSmall), (204, pcNumDigits)]) (C := tabC (tabD [(203, pcSmall), (204, pcNumDigits)]) [(205, kBase10)]) (wr := fun _ => false) rfl tyOk hD (tabC_cons Tryz.call205 goodBase10 (tabC_nil hD)) Tryz.func128 (fun _ _ => none) (fun _ => rfl) (fun u hf _ => ?_)
  simp only [factL, factA, inK_def, Go.Vc.lo, Go.Vc.hi, and_true] at hf
  conv => whnf
  split <;> conv => whnf
  · rename_i h
    have h : u < 100 := by simpa [ltI_eq] using h
    refine ⟨inK_def.2 (by simp only [Go.Vc.lo, Go.Vc.hi]; omega), ?_⟩
    conv => whnf
    refine ⟨u, ⟨by omega, h⟩, ⟨⟨rfl, rfl⟩, trivial⟩, ?_⟩
    conv => whnf
  · rename_i h
    have h : ¬ u < 100 := by simpa [ltI_eq] using h
    have h20 := nDigits_20 (u := u.toNat) (by omega)
    have hpos : 1 ≤ Lib.nDigits u.toNat := by rw [Lib.nDigits]; split <;> omega
    refine ⟨u, show 1 ≤ u by omega, ⟨⟨rfl, rfl⟩, trivial⟩, ?_⟩
    conv => whnf
    refine ⟨by omega, ?_⟩
    conv => whnf
    refine ⟨by omega, ?_⟩
    conv => whnf
    have hlt : u.toNat < 10 ^ Lib.nDigits u.toNat := Lib.lt_pow_nDigits u.toNat
    have hn : ((Lib.nDigits u.toNat : Int)).toNat - 0 = Lib.nDigits u.toNat := by omega
    refine ⟨⟨rfl, rfl, by omega, by omega, by omega, by omega, by rw [hn]; exact hlt, by omega, ⟨fun _ => 0, fun e he => ?_⟩⟩, ?_⟩
    · have he : e < 24 := by omega
      exact zero24 e he
    conv => whnf
    refine ⟨by omega, ?_⟩
    conv => whnf
    refine ⟨by omega, ?_⟩
    conv => whnf
    refine ⟨by omega, ?_⟩
    conv => whnf
    refine ⟨fun e he => ?_, ?_⟩
    · have : 0 ≤ 0 + e ∧ 0 + e < 0 + ((Lib.nDigits u.toNat : Int).toNat - 0) := by omega
      simp only [this, and_self, if_true]
      rfl
    conv => whnf
    show bytesOf _ _ = _
    rw [Lib.decDigits_eq]
    unfold bytesOf
    rw [hn]
    refine List.map_congr_left fun e he => ?_
    have he : e < Lib.nDigits u.toNat := List.mem_range.1 he
    have : 0 ≤ 0 + e ∧ 0 + e < 0 + Lib.nDigits u.toNat := by omega
    simp only [this, and_self, if_true]
    show UInt8.ofNat ((Lib.dg u.toNat (Lib.nDigits u.toNat - 1 - (0 + e - 0))).toNat : Int).toNat = _
    rw [Int.toNat_natCast, UInt8.ofNat_toNat]
    congr 1; omega
end Go.Vc.Z
namespace Go.Vc.Z
open Go Go.Vc Go.Proofs Go.RowKit
set_option maxRecDepth 100000
attribute [local irreducible] inK
theorem goodFormatUint {W : World} (hW : Tabs W) : GoodP (Fw W) Tryz.prog 55 pcFormatUint0 := by
  have hD : PTOk (Fw W) Tryz.prog (tabD [(128, pcFormatUint0)]) := tabD_cons Tryz.call128 (goodFormatUint0 hW) tabD_nil
  refine goodP_of (D := tabD [(128, pcFormatUint0)]) (C := tabC (tabD [(128, pcFormatUint0)]) []) (wr := fun _ => false) rfl tyOk hD (tabC_nil hD) Tryz.func55 (fun _ _ => none) (fun _ => rfl) (fun u hf _ => ?_)
  conv => whnf
  refine ⟨u, trivial, ⟨⟨rfl, rfl⟩, ⟨rfl, rfl⟩, trivial⟩, ?_⟩
  conv => whnf
end Go.Vc.Z

/- strings.Builder in own memory: copyCheck, String. -/
namespace Go.Proofs
open Go.Shelf Go.RowKit
set_option maxRecDepth 1000000
theorem Tryz.laysCopyCheck : Lays.n240 Tryz.prog Tryz.laysJoin_ren := { Tryz.laysJoin with }
theorem Tryz.laysBString : Lays.n169 Tryz.prog Tryz.laysJoin_ren := { Tryz.laysJoin with }
theorem Tryz.x72 : Builder.X72 Tryz.prog Tryz.laysJoin_ren := {
  sizeBuilder := by kernel_rfl
  liesBuilder := by kernel_rfl }
section
variable {P : Program} {ρ : Ren}
set_option maxHeartbeats 2000000 in
/-- (*strings.Builder).String, at a row that is laid open. -/
theorem bString_walk (L : Lays.n169 P ρ) (X : Builder.Extra P ρ) (b g n cap : Nat) (p : Value) (cs cur : Array Value) (T : TypeId) (fr fr' : Nat × Nat) (l : List UInt8) (w : World)
    (hbk : w.heap[b]? = some (.cells cs T fr)) (hcs : cs[1]? = some (.slice (some ⟨g, 0, none⟩) l.length cap)) (hg : w.heap[g]? = some (.cells cur (ρ.t 5) fr')) (h0 : 0 < l.length) (hcap : l.length ≤ cap) (hm : cap ≤ maxLen) (hle : l.length ≤ cur.size)
    (hcell : ∀ (j : Nat) (x : UInt8), l[j]? = some x → w.cell? ⟨g, j, none⟩ = some (.int .u8 x.toNat)) :
    Calls P (ρ.f 169) #[.pointer (some ⟨b, 0, none⟩)] w fun e w' => e = .returned (.string ⟨l.toArray⟩) ∧ w' = w.drew.freeze ⟨g, 0, none⟩ l.length := by
  have hl0 : l ≠ [] := by rintro rfl; simp at h0
  have c1 : w.drew.cell? ⟨b, 1, none⟩ = some (.slice (some ⟨g, 0, none⟩) l.length cap) := by
    have : w.drew.heap[b]? = some (.cells cs T fr) := hbk
    rw [Lib.cell_of_heap this]; exact hcs
  have hSD : (Builtin.unsafeSliceData_ #[(ρ.t 37)] (ρ.t 127) #[.slice (some ⟨g, 0, none⟩) l.length cap]).run P w.drew = .ok (.pointer (some ⟨g, 0, none⟩)) w.drew :=
    Lib.run_unsafeSliceData_row _ _ _ _ _ _ (by omega)
  have hUS : (Builtin.unsafeString_ #[(ρ.t 127), (ρ.t 3)] (ρ.t 9) #[.pointer (some ⟨g, 0, none⟩), .int .i64 l.length]).run P w.drew = .ok (.string ⟨l.toArray⟩) (w.drew.freeze ⟨g, 0, none⟩ l.length) := by
    refine Lib.run_unsafeString_row w.drew (ρ.t 127) (ρ.t 3) (ρ.t 9) (ρ.t 5) L.t127 X.cellsByte g cur.size (by have hg' : w.drew.heap[g]? = some (.cells cur (ρ.t 5) fr') := hg; simp [World.shape?, hg']) l hl0 (by omega) (by unfold maxLen at hm; omega) ?_
    intro j x hx
    rw [Go.Vc.addr_add, Nat.zero_add]
    exact hcell j x hx
  have mixed := L.mixed
  have t72 := L.t72; have a72 := L.a72; have z72 := L.z72; have v72 := L.v72; have u72 := run_underlying L.t72
  have t70 := L.t70; have a70 := L.a70; have z70 := L.z70; have v70 := L.v70; have u70 := run_underlying L.t70
  have t37 := L.t37; have a37 := L.a37; have z37 := L.z37; have v37 := L.v37; have u37 := run_underlying L.t37
  have t127 := L.t127; have a127 := L.a127; have z127 := L.z127; have v127 := L.v127; have u127 := run_underlying L.t127
  have t3 := L.t3; have a3 := L.a3; have z3 := L.z3; have v3 := L.v3; have u3 := run_underlying L.t3
  have t9 := L.t9; have a9 := L.a9; have z9 := L.z9; have v9 := L.v9; have u9 := run_underlying L.t9
  have t5 := X.t5; have a5 := X.a5; have z5 := X.z5; have v5 := X.v5; have u5 := run_underlying X.t5
  go_enter L.f169, Body.n169_ntmps ρ
  go_wp2
  go_region_o
  all_goals (go_wp2; go_ret; exact ⟨rfl, rfl⟩)
end
end Go.Proofs
namespace Go.Vc
open Go Go.Proofs Go.RowKit
/-- The numbers of strings.Builder and of byte. -/
def tBld : Nat := 152
def tByte : Nat := 5
def kCopyCheck : Ctr := fun cs H Q => match cs with
  | [.ptr id 0] => (match H[id]? with
    | some (.var [p, buf] (some T)) => T = tBld ∧ (match p with
      | .nilp => Q (.tup []) (H.set id (.var [.ptr id 0, buf] (some T)))
      | .ptr id' 0 => id' = id ∧ Q (.tup []) H
      | _ => False)
    | _ => False)
  | _ => False
theorem goodCopyCheck {F : Nat → Obj → Prop} : Good F Tryz.prog 182 kCopyCheck := by
  intro ρ S w H cs vs Q hs hH hv hK
  unfold kCopyCheck at hK
  split at hK
  · rename_i id
    split at hK
    · rename_i p buf T hid
      obtain ⟨rfl, hK⟩ := hK
      obtain ⟨vs⟩ := vs
      match vs, hv with
      | [a], hv =>
        obtain ⟨b, rfl, hb⟩ := (hv.2 0 _ _ rfl rfl).ptrR
        obtain ⟨hns, arr, T', fr, h1, h2, h3, h4⟩ := hH.blk _ _ hid b hb
        have h1 : w.heap[b]? = some (.cells arr tBld fr) := h1
        have h2 : arr.size = 2 := h2
        have e0 : arr[0]? = some (arr.getD 0 undef) := by simp [h2]
        have hsh : w.shape? b = some (tBld, 2) := by simp [World.shape?, h1, h2]
        have hc : w.cell? ⟨b, 0, none⟩ = some (arr.getD 0 undef) := by simp only [World.cell?, h1]; exact e0
        have v0 := h4 0 p _ rfl e0
        split at hK
        · cases hv0 : arr.getD 0 undef <;> rw [hv0] at v0 <;> cases v0
          rw [hv0] at hc
          refine (Any.Builder_copyCheck_fresh Tryz.laysCopyCheck Tryz.x72 b w hc hsh (h3 0 (by omega))).mono ?_
          rintro e w' ⟨rfl, rfl⟩
          have hw : w.setCell ⟨b, 0, none⟩ (.pointer (some ⟨b, 0, none⟩)) = w.setCells b 0 [.pointer (some ⟨b, 0, none⟩)] := rfl
          rw [hw]
          have hheap := setCells_heap b [.pointer (some ⟨b, 0, none⟩)] 0 w arr tBld fr h1
          have hE : Ext ρ S w ρ S (w.setCells b 0 [.pointer (some ⟨b, 0, none⟩)]) := ext_upd hH hb hns (setCells_size _ _ _ _) (fun k hk => setCells_other b _ _ _ k hk)
            (fun a' T2 f' h' => by rw [h1] at h'; cases h'; exact ⟨_, _, hheap, spl_size _ _ _⟩) (setCells_rest _ _ _ _).1 (setCells_rest _ _ _ _).2.1 (setCells_rest _ _ _ _).2.2
          refine ⟨_, .tup [], _, ρ, S, rfl, hK, .tup _ _ rfl (fun i c v hc => by simp at hc), hrel_upd hH hid rfl hb hE (setCells_size _ _ _ _) (fun k hk => setCells_other b _ _ _ k hk) ?_, hE, hs.still hE⟩
          intro b' hb'
          rw [hb] at hb'; cases hb'
          refine ⟨hns, _, T', fr, hheap, by rw [spl_size]; exact h2, fun o ho => ?_, fun k c v hk hv => ?_⟩
          · rw [spl_size] at ho
            rw [World.frozen?_setCells]; exact h3 o ho
          · rw [spl_get _ _ _ _ (by simp; omega)] at hv
            cases k with
            | zero => simp at hk hv; subst hk; subst hv; exact .ptr _ _ _ hb
            | succ k =>
              rw [if_neg (by simp)] at hv
              exact (h4 (k + 1) c v hk hv).mono hE
        · obtain ⟨rfl, hK⟩ := hK
          obtain ⟨b', hb', hb''⟩ := v0.ptrR
          rw [hb] at hb''; cases hb''
          rw [hb'] at hc
          refine (Any.Builder_copyCheck_used Tryz.laysCopyCheck Tryz.x72 b w hc).mono ?_
          rintro e w' ⟨rfl, rfl⟩
          exact ⟨_, .tup [], _, ρ, S, rfl, hK, .tup _ _ rfl (fun i c v hc => by simp at hc), hH, Ext.refl _ _ _, hs⟩
        · exact hK.elim
      | [], hv => simp [VL] at hv
      | _ :: _ :: _, hv => have := hv.1; simp at this
    · exact hK.elim
  · exact hK.elim
def kBString : Ctr := fun cs H Q => match cs with
  | [.ptr id 0] => (match H[id]? with
    | some (.var [_, .osl r 1 0 n _] (some _)) => (match H[r]? with
      | some (.row 1 L get (some E)) => (E = tByte ∧ 0 < n ∧ n ≤ L ∧ ∀ e, e < n → (byteCell (get e)).isSome = true) ∧ Q (.str (bytesOf n get)) (H.set r .dead)
      | _ => False)
    | _ => False)
  | _ => False
theorem goodBString {F : Nat → Obj → Prop} : Good F Tryz.prog 102 kBString := by
  intro ρ S w H cs vs Q hs hH hv hK
  unfold kBString at hK
  split at hK
  · rename_i id
    split at hK
    · rename_i p r n cap T hid
      split at hK
      · rename_i L get E hr
        obtain ⟨⟨rfl, h0, hnL, hby⟩, hK⟩ := hK
        obtain ⟨vs⟩ := vs
        match vs, hv with
        | [a], hv =>
          obtain ⟨b, rfl, hb⟩ := (hv.2 0 _ _ rfl rfl).ptrR
          obtain ⟨hns, arr, T', fr, h1, h2, h3, h4⟩ := hH.blk _ _ hid b hb
          have h2 : arr.size = 2 := h2
          have e1 : arr[1]? = some (arr.getD 1 undef) := by simp [h2]
          obtain ⟨g, o, cp, hsl, hg, hl, hm, ho, _, _⟩ := (h4 1 _ _ rfl e1).oslR
          have ho : o = 0 := by rw [ho (by omega)]
          subst ho
          obtain ⟨hgs, cur, T2, fr2, g1, g2, g3, g4, g5⟩ := hH.blk _ _ hr g hg
          have g1 : w.heap[g]? = some (.cells cur tByte fr2) := g1
          rw [Nat.mul_one] at g2
          have hbl : (bytesOf n get).length = n := by simp [bytesOf]
          have hcell : ∀ (j : Nat) (x : UInt8), (bytesOf n get)[j]? = some x → w.cell? ⟨g, j, none⟩ = some (.int .u8 x.toNat) := fun j x hx => by
            have hj : j < n := by
              rcases Nat.lt_or_ge j n with h | h
              · exact h
              · rw [List.getElem?_eq_none (by rw [hbl]; exact h)] at hx; cases hx
            obtain ⟨k, hk1, hk2, hk3⟩ : ∃ k : Int, get j = [.int .u8 k] ∧ True ∧ True := by
              have := hby j hj
              unfold byteCell at this
              split at this
              · rename_i k hk; exact ⟨k, hk, trivial, trivial⟩
              · cases this
            have hlt : j < cur.size := by omega
            have hv := g5 j 0 (.int .u8 k) cur[j] (by omega) (by rw [hk1]; rfl) (by simp [hlt])
            obtain ⟨hv1, hv2⟩ := hv.intR
            simp only [bytesOf, List.getElem?_map, List.getElem?_range hj, Option.map_some, Option.some.injEq, hk1, byteCell, Option.getD_some] at hx
            simp only [World.cell?, g1]
            rw [Array.getElem?_eq_getElem hlt, hv1, ← hx]
            have : 0 ≤ k ∧ k ≤ 255 := hv2
            congr 2
            simp [UInt8.toNat_ofNat]; omega
          have call := bString_walk Tryz.laysBString Tryz.extra b g n cp (arr.getD 0 undef) arr cur _ fr fr2 (bytesOf n get) w h1 (by rw [e1, hsl, hbl]) g1 (by omega) (by omega) hm (by omega) hcell
          rw [hbl] at call
          refine call.mono ?_
          rintro e w' ⟨rfl, rfl⟩
          have hn0 : ¬ n = 0 := by omega
          have hoth : ∀ k, k ≠ g → (w.drew.freeze ⟨g, 0, none⟩ n).heap[k]? = w.heap[k]? := fun k hk => by
            unfold World.freeze
            rw [if_neg hn0]
            show (w.heap.modify g _)[k]? = _
            rw [Array.getElem?_modify, if_neg (Ne.symm hk)]
          have hsz : (w.drew.freeze ⟨g, 0, none⟩ n).heap.size = w.heap.size := by
            unfold World.freeze
            rw [if_neg hn0]
            show (w.heap.modify g _).size = _
            simp
          have hE : Ext ρ S w ρ S (w.drew.freeze ⟨g, 0, none⟩ n) :=
            ext_upd hH hg hgs hsz hoth (fun arr2 T3 fr3 h => by
              obtain ⟨lo, hi⟩ := fr3
              refine ⟨arr2, (if lo == hi then (0, 0 + n) else (min lo 0, max hi (0 + n))), ?_, rfl⟩
              unfold World.freeze
              rw [if_neg hn0]
              show (w.heap.modify g _)[g]? = _
              rw [Array.getElem?_modify, if_pos rfl, h]; rfl)
              (by unfold World.freeze; rw [if_neg hn0]; rfl) (by unfold World.freeze; rw [if_neg hn0]; rfl) (by unfold World.freeze; rw [if_neg hn0]; rfl)
          exact ⟨_, .str _, _, ρ, S, rfl, hK, .str _ _ (by simp) (by rw [hbl]; omega), hrel_upd hH hr rfl hg hE hsz hoth trivial, hE, hs.still hE⟩
        | [], hv => simp [VL] at hv
        | _ :: _ :: _, hv => have := hv.1; simp at this
      · exact hK.elim
    · exact hK.elim
  · exact hK.elim
end Go.Vc

/- The library's contracts, their results sealed. -/
namespace Go.Vc
open Go Go.Proofs Go.RowKit
theorem GoodP.imp {F : Nat → Obj → Prop} {P : Program} {f : FuncId} {pc pc' : PC} (h : GoodP F P f pc) (hi : ∀ cs Q, pc'.T cs Q → pc.T cs Q) : GoodP F P f pc' :=
  fun S w cs vs Q hs hv hT => h S w cs vs Q hs hv (hi cs Q hT)
namespace Z
noncomputable section
def pcItoaS : PC := PC.fun fun | [.int .i64 n] => some (True, .str (sS (Lib.itoa n))) | _ => none
theorem goodItoaS {W : World} (hW : Tabs W) : GoodP (Fw W) Tryz.prog 111 pcItoaS := by
  refine (goodItoa hW).imp fun cs Q h => ?_
  simp only [pcItoaS, PC.fun] at h
  split at h
  · rename_i p r hf
    split at hf
    · cases hf
      rename_i n
      rw [sS_eq] at h
      exact ⟨n, trivial, ⟨⟨rfl, rfl⟩, trivial⟩, h.2⟩
    · cases hf
  · exact h.elim
def pcFmtInt : PC := PC.fun fun | [.int .i64 n, .int .i64 b] => some (b = 10, .str (sS (Lib.itoa n))) | _ => none
theorem goodFmtInt {W : World} (hW : Tabs W) : GoodP (Fw W) Tryz.prog 114 pcFmtInt := by
  refine (goodFormatInt hW).imp fun cs Q h => ?_
  simp only [pcFmtInt, PC.fun] at h
  split at h
  · rename_i p r hf
    split at hf
    · cases hf
      rename_i n b
      obtain ⟨rfl, h⟩ := h
      rw [sS_eq] at h
      exact ⟨n, trivial, ⟨⟨rfl, rfl⟩, ⟨rfl, rfl⟩, trivial⟩, h⟩
    · cases hf
  · exact h.elim
def pcFmtUint : PC := PC.fun fun | [.int .u64 n, .int .i64 b] => some (b = 10, .str (sS (Lib.decDigits n.toNat))) | _ => none
theorem goodFmtUint {W : World} (hW : Tabs W) : GoodP (Fw W) Tryz.prog 55 pcFmtUint := by
  refine (goodFormatUint hW).imp fun cs Q h => ?_
  simp only [pcFmtUint, PC.fun] at h
  split at h
  · rename_i p r hf
    split at hf
    · cases hf
      rename_i n b
      obtain ⟨rfl, h⟩ := h
      rw [sS_eq] at h
      exact ⟨n, trivial, ⟨⟨rfl, rfl⟩, ⟨rfl, rfl⟩, trivial⟩, h⟩
    · cases hf
  · exact h.elim
def pcJoinS : PC := PC.of (fun x : List (List UInt8) × List UInt8 => [slS x.1, .str x.2]) (fun x => (Lib.join x.1 x.2).length ≤ 140737488355328 ∧ x.1.length ≤ 140737488355328) (fun x => .str (sS (Lib.join x.1 x.2)))
theorem goodJoinS {W : World} (_ : Tabs W) : GoodP (Fw W) Tryz.prog 62 pcJoinS := by
  refine goodJoin.imp fun cs Q h => ?_
  obtain ⟨x, h1, h2, h3⟩ := h
  simp only [sS_eq] at h3
  exact ⟨x, h1, h2, h3⟩
end
end Z
end Go.Vc

/- Postings' texts. -/
namespace Go.Vc.Z
open Go Go.Vc Go.Proofs Go.RowKit Go.Pl Go.Lib
noncomputable section
set_option maxRecDepth 100000
set_option linter.unusedSimpArgs false
set_option linter.unusedVariables false
attribute [local irreducible] inK Utf8.decode Utf8.encode Lib.itoa Pl.worth Pl.allDig
attribute [local irreducible] Lib.join
def labs : List UInt8 := [67, 76, 82, 84, 80, 86]
def postW (l : List Int) (j : Nat) : List (List UInt8) := if l.getD j 0 = 0 then [] else [labs.getD j 0 :: Lib.itoa (l.getD j 0)]
def postParts (p : Posting) : Nat → List (List UInt8)
  | 0 => [pnameL p.kind, numText p.ticket, Lib.itoa p.seq, Lib.itoa p.day]
  | n + 1 => postParts p n ++ postW (amtsL p) n
@[irreducible] def postText (p : Posting) : List UInt8 := if mayPostB p = true then Lib.join (postParts p 6) [32] else []
def pcPText : PC := PC.fun fun | [.agg [.int .i64 pd, .int .u64 pt, .int .i64 ps, .int .i64 pk, .int .i64 a0, .int .i64 a1, .int .i64 a2, .int .i64 a3, .int .i64 a4, .int .i64 a5]] => some (True, .str (sS (postText (Posting.mk pd pt ps pk a0 a1 a2 a3 a4 a5)))) | _ => none
def LPT (p : Posting) : LoopSpec := {
  α := Nat × List (List UInt8)
  keep := [5, 29, 30]
  vals x := [.osl 12 1 0 x.2.length none, .agg [.int .i64 p.cash, .int .i64 p.liability, .int .i64 p.revenue, .int .i64 p.tax, .int .i64 p.penalty, .int .i64 p.voucher], .int .i64 x.1]
  heap x := [.dead, .dead, .dead, .dead, .dead, .dead, .dead, .dead, .dead, .dead, .dead, .dead, .row 1 x.2.length (fun e => [.str (x.2.getD e [])])]
  ok x := x.1 ≤ 6 ∧ x.2 = postParts p x.1
  μ x := 6 - x.1 }
theorem cat_str {L : List (List UInt8)} {w : List UInt8} {b : Nat → List AV} (hb : b 0 = [.str w]) {e : Nat} (he : e < (L ++ [w]).length) : catRow L.length (fun e => [AV.str (L.getD e [])]) b e = [AV.str ((L ++ [w]).getD e [])] := by
  unfold catRow
  rw [List.length_append, List.length_singleton] at he
  rcases Nat.lt_or_ge e L.length with h | h
  · rw [if_pos h]
    simp [List.getD_eq_getElem?_getD, List.getElem?_append_left h]
  · obtain rfl : e = L.length := by omega
    rw [if_neg (by omega), Nat.sub_self, hb]
    simp [List.getD_eq_getElem?_getD]
theorem postParts_len (p : Posting) : ∀ n, (postParts p n).length ≤ 4 + n
  | 0 => Nat.le_refl _
  | n + 1 => by
    have := postParts_len p n
    simp only [postParts, postW, List.length_append]
    split <;> simp <;> omega
theorem mayPost_facts {p : Posting} (h : mayPostB p = true) : (1 ≤ p.kind ∧ p.kind ≤ 5) ∧ checkN p.ticket = 0 ∧ (1 ≤ p.seq ∧ p.seq ≤ 200) ∧ (0 ≤ p.day ∧ p.day ≤ 1000000) ∧ ∀ j, j < 6 → -1125899906842624 ≤ (amtsL p).getD j 0 ∧ (amtsL p).getD j 0 ≤ 1125899906842624 := by
  unfold mayPostB at h
  simp only [Bool.and_eq_true, decide_eq_true_eq] at h
  obtain ⟨⟨⟨⟨⟨⟨h1, h2⟩, h3⟩, h4⟩, h5⟩, h6⟩, h7⟩ := h
  refine ⟨⟨h5, h6⟩, ?_, ⟨h3, h4⟩, dayB_le h1, fun j hj => ?_⟩
  · unfold numdB at h2; exact of_decide_eq_true h2
  · have hc : colOk p.kind (amtsL p) j = true := by
      refine Decidable.of_not_not fun hn => ?_
      rw [columnsB_bad hj hn] at h7; cases h7
    have := colOk_iff.1 hc; omega
theorem lens_le (m : Nat) : ∀ (L : List (List UInt8)), (∀ s ∈ L, s.length ≤ m) → Lib.lens L ≤ L.length * m
  | [], _ => by simp [Lib.lens]
  | x :: r, h => by
    have h1 := lens_le m r fun s hs => h s (List.mem_cons_of_mem _ hs)
    have h2 := h x List.mem_cons_self
    simp only [Lib.lens, List.map_cons, List.sum_cons, List.length_cons] at h1 ⊢
    rw [Nat.add_mul]; omega
theorem join_le (sep : List UInt8) (m : Nat) (L : List (List UInt8)) (h : ∀ s ∈ L, s.length ≤ m) : (Lib.join L sep).length ≤ L.length * (m + sep.length) := by
  cases L with
  | nil => simp [Lib.join_nil]
  | cons x r =>
    rw [Lib.join_length]
    have := lens_le m (x :: r) h
    rw [Nat.mul_add]
    have : sep.length * r.length ≤ (x :: r).length * sep.length := by
      rw [Nat.mul_comm]; exact Nat.mul_le_mul_right _ (by simp)
    omega
theorem numText_len (n : Int) : (numText n).length ≤ 20 := by
  unfold numText
  split
  · have := checkN_zero (by assumption)
    exact dec_len_le _ (by omega)
  · simp
theorem postParts_word {p : Posting} (h : mayPostB p = true) : ∀ n, n ≤ 6 → ∀ s ∈ postParts p n, s.length ≤ 40
  | 0, _, s, hs => by
    obtain ⟨h1, h2, h3, h4, h5⟩ := mayPost_facts h
    simp only [postParts, List.mem_cons, List.not_mem_nil, or_false] at hs
    rcases hs with rfl | rfl | rfl | rfl
    · unfold pnameL; repeat' split
      all_goals simp
    · have := numText_len p.ticket; omega
    · have := itoa_len p.seq (by omega) (by omega); omega
    · have := itoa_len p.day (by omega) (by omega); omega
  | n + 1, hn, s, hs => by
    obtain ⟨h1, h2, h3, h4, h5⟩ := mayPost_facts h
    rw [postParts, List.mem_append] at hs
    rcases hs with hs | hs
    · exact postParts_word h n (by omega) s hs
    · unfold postW at hs
      split at hs
      · simp at hs
      · simp only [List.mem_cons, List.not_mem_nil, or_false] at hs
        subst hs
        have := h5 n (by omega)
        have := itoa_len ((amtsL p).getD n 0) (by omega) (by omega)
        simp only [List.length_cons]; omega
def D_posting_Text : PT := tabD [(107, pcMayPost), (112, pcLook), (54, pcNText), (111, pcItoaS), (113, pcOfP), (114, pcFmtInt), (62, pcJoinS)]
def C_posting_Text : FuncId → Option Ctr := tabC D_posting_Text []
def L_posting_Text : List AV → Nat → Option LR := fun cs i => match cs with | [.agg [.int .i64 pd, .int .u64 pt, .int .i64 ps, .int .i64 pk, .int .i64 a0, .int .i64 a1, .int .i64 a2, .int .i64 a3, .int .i64 a4, .int .i64 a5]] => cond (Nat.beq i 6) (some (.inv (LPT (Posting.mk pd pt ps pk a0 a1 a2 a3 a4 a5)))) (none) | _ => none
set_option maxHeartbeats 2000000 in
theorem g_posting_Text {W : World} (hW : Tabs W) : GoodP (Fw W) Tryz.prog 47 pcPText := by
  have hD : PTOk (Fw W) Tryz.prog D_posting_Text := (tabD_cons Tryz.call107 (g_posting_May hW) (tabD_cons Tryz.call112 (g_posting_look hW) (tabD_cons Tryz.call54 (g_number_Text hW) (tabD_cons Tryz.call111 (goodItoaS hW) (tabD_cons Tryz.call113 (g_posting_of hW) (tabD_cons Tryz.call114 (goodFmtInt hW) (tabD_cons Tryz.call62 (goodJoinS hW) tabD_nil)))))))
  have hC0 : CtrOk (Fw W) Tryz.prog C_posting_Text := (tabC_nil hD)
  refine goodP_fun (D := D_posting_Text) (C := C_posting_Text) (wr := (fun _ => false)) rfl tyOk hD hC0 Tryz.func47 (L_posting_Text) ?_
  clear hC0 hD hW
  intro cs p r h hf hp
  split at h
  case h_2 => cases h
  rename_i pd pt ps pk a0 a1 a2 a3 a4 a5
  cases h
  try simp only [factL, factA, inK_def, Go.Vc.lo, Go.Vc.hi, and_true] at hf
  by_cases hmay : mayPostB (Posting.mk pd pt ps pk a0 a1 a2 a3 a4 a5) = true
  · have hex : ¬ mayPostB (Posting.mk pd pt ps pk a0 a1 a2 a3 a4 a5) = false := by rw [hmay]; simp
    obtain ⟨f1, f2, f3, f4, f5⟩ := mayPost_facts hmay
    clear hf
    have l0 := itoa_len a0 (by have := f5 0 (by omega); simp at this; omega) (by have := f5 0 (by omega); simp at this; omega)
    have l1 := itoa_len a1 (by have := f5 1 (by omega); simp at this; omega) (by have := f5 1 (by omega); simp at this; omega)
    have l2 := itoa_len a2 (by have := f5 2 (by omega); simp at this; omega) (by have := f5 2 (by omega); simp at this; omega)
    have l3 := itoa_len a3 (by have := f5 3 (by omega); simp at this; omega) (by have := f5 3 (by omega); simp at this; omega)
    have l4 := itoa_len a4 (by have := f5 4 (by omega); simp at this; omega) (by have := f5 4 (by omega); simp at this; omega)
    have l5 := itoa_len a5 (by have := f5 5 (by omega); simp at this; omega) (by have := f5 5 (by omega); simp at this; omega)
    (conv => whnf)
    (repeat' ((first
      | (exact absurd (by with_reducible assumption) hex)
      | ((with_reducible refine And.intro ?_ ?_); focus (first | with_reducible exact True.intro | ((with_reducible show okB _ _ _ = true); rfl)))
      | (split <;> rename_i hh <;> (try simp only [wS] at hh) <;> (try simp (disch := omega) only [Int.tdiv_eq_ediv_of_nonneg, Int.tmod_eq_emod_of_nonneg] at hh))
      | fail) <;> (conv => whnf)))
    all_goals (try (show _ = _; simp only [wQ]))
    refine ⟨?_, fun (x : Nat × List (List UInt8)) hx => ?_⟩
    · (conv => whnf)
      refine ⟨((0, postParts (Posting.mk pd pt ps pk a0 a1 a2 a3 a4 a5) 0) : Nat × List (List UInt8)), [11], ?_, ⟨⟨rfl, Nat.le_of_ble_eq_true rfl, rfl⟩, ?_, ?_⟩⟩
      · exact ⟨Nat.zero_le _, rfl⟩
      · (conv => whnf)
        (repeat' ((first | with_reducible exact True.intro | ((with_reducible refine And.intro ?_ ?_); focus (first | with_reducible rfl | omega | exact Nat.le_of_ble_eq_true rfl | rfl)) | with_reducible refine And.intro (?_ : leA _ _ _) ?_ | fail) <;> (conv => whnf)))
        all_goals (try simp only [wQ])
        all_goals (try first | omega | exact Or.inl True.intro)
      · (conv => whnf)
        (repeat' ((first | with_reducible exact True.intro | ((with_reducible refine And.intro ?_ ?_); focus (first | with_reducible rfl | omega | exact Nat.le_of_ble_eq_true rfl | rfl)) | with_reducible refine And.intro (?_ : leBlk _ _ _ _) ?_ | fail) <;> (conv => whnf)))
        all_goals (try simp only [wQ])
        intro e he
        refine ⟨?_, rfl⟩
        change e < 4 at he
        rcases (by omega : e = 0 ∨ e = 1 ∨ e = 2 ∨ e = 3) with rfl | rfl | rfl | rfl
        all_goals rfl
    · obtain ⟨i, L⟩ := x
      obtain ⟨h1, h2⟩ := hx
      change i ≤ 6 at h1
      change L = postParts (Posting.mk pd pt ps pk a0 a1 a2 a3 a4 a5) i at h2
      have hLl : L.length ≤ 4 + i := by rw [h2]; exact postParts_len _ _
      rcases (by omega : i = 0 ∨ i = 1 ∨ i = 2 ∨ i = 3 ∨ i = 4 ∨ i = 5 ∨ i = 6) with rfl | rfl | rfl | rfl | rfl | rfl | rfl
      all_goals (
        (conv => whnf)
        (repeat' ((first
          | ((with_reducible refine And.intro ?_ ?_); focus (first | ((with_reducible refine ⟨?_, ?_, ?_⟩) <;> first | (intro e he; rcases (by omega : e = 0 ∨ e = 1 ∨ e = 2 ∨ e = 3 ∨ e = 4 ∨ e = 5) with rfl | rfl | rfl | rfl | rfl | rfl <;> first | rfl | (exfalso; omega)) | (with_reducible assumption) | omega | ((with_reducible show growOk _ _); simp only [growOk, ty2, ty3, ty4, ty5, ty9, ty21, ty37, ty42, ty43, ty45, ty47, ty67, ty95, ty105, ty113, ty150, ty161, ty198, ty242, ty275, List.length_cons, List.length_nil]; first | omega | (refine ⟨?_, ?_⟩ <;> omega))) | ((with_reducible show okB _ _ _ = true); rfl) | with_reducible rfl | omega | (simp only [inK_def, Go.Vc.lo, Go.Vc.hi]; omega) | (simp only [List.length_append, bytesOf_length, List.toList_toArray, List.length_cons, List.length_nil, List.length_take, List.length_drop, sS_eq]; omega)))
          | (split <;> rename_i hh <;> (try simp only [wS] at hh) <;> (try simp (disch := omega) only [Int.tdiv_eq_ediv_of_nonneg, Int.tmod_eq_emod_of_nonneg] at hh))
          | fail) <;> (conv => whnf)))
        all_goals (try (show _ = _; simp only [wQ]))
        )
      · (conv => whnf)
        refine ⟨((1, L ++ [labs.getD 0 0 :: Lib.itoa a0]) : Nat × List (List UInt8)), [22], ?_, ⟨⟨rfl, Nat.le_of_ble_eq_true rfl, rfl⟩, ?_, ?_⟩⟩
        · refine ⟨⟨show 1 ≤ 6 by omega, ?_⟩, show 6 - 1 < 6 - 0 by omega⟩
          show L ++ _ = postParts (Posting.mk pd pt ps pk a0 a1 a2 a3 a4 a5) 0 ++ postW _ 0
          rw [h2, postW, if_neg (by assumption)]; rfl
        · (conv => whnf)
          (repeat' ((first | with_reducible exact True.intro | ((with_reducible refine And.intro ?_ ?_); focus (first | with_reducible rfl | omega | exact Nat.le_of_ble_eq_true rfl | rfl)) | with_reducible refine And.intro (?_ : leA _ _ _) ?_ | fail) <;> (conv => whnf)))
          all_goals (try simp only [wQ])
          all_goals (try first | omega)
          exact ⟨by simp, Or.inl trivial⟩
        · (conv => whnf)
          (repeat' ((first | with_reducible exact True.intro | ((with_reducible refine And.intro ?_ ?_); focus (first | with_reducible rfl | omega | exact Nat.le_of_ble_eq_true rfl | rfl)) | with_reducible refine And.intro (?_ : leBlk _ _ _ _) ?_ | fail) <;> (conv => whnf)))
          all_goals (try simp only [wQ])
          exact ⟨by simp, fun e he => ⟨cat_str rfl he, rfl⟩⟩
      · (conv => whnf)
        refine ⟨((1, L) : Nat × List (List UInt8)), [12], ?_, ⟨⟨rfl, Nat.le_of_ble_eq_true rfl, rfl⟩, ?_, ?_⟩⟩
        · refine ⟨⟨show 1 ≤ 6 by omega, ?_⟩, show 6 - 1 < 6 - 0 by omega⟩
          show L = postParts (Posting.mk pd pt ps pk a0 a1 a2 a3 a4 a5) 0 ++ postW _ 0
          rw [h2, postW, if_pos (by assumption), List.append_nil]
        · (conv => whnf)
          (repeat' ((first | with_reducible exact True.intro | ((with_reducible refine Or.inr ?_); rfl) | ((with_reducible refine And.intro ?_ ?_); focus (first | with_reducible rfl | omega | exact Nat.le_of_ble_eq_true rfl | rfl)) | with_reducible refine And.intro (?_ : leA _ _ _) ?_ | fail) <;> (conv => whnf)))
          all_goals (try simp only [wQ])
          all_goals (try first | omega)
        · (conv => whnf)
          (repeat' ((first | with_reducible exact True.intro | ((with_reducible refine And.intro ?_ ?_); focus (first | with_reducible rfl | omega | exact Nat.le_of_ble_eq_true rfl | rfl)) | with_reducible refine And.intro (?_ : leBlk _ _ _ _) ?_ | fail) <;> (conv => whnf)))
          all_goals (try simp only [wQ])
          exact ⟨Nat.le_refl _, fun e he => ⟨trivial, rfl⟩⟩
      · (conv => whnf)
        refine ⟨((2, L ++ [labs.getD 1 0 :: Lib.itoa a1]) : Nat × List (List UInt8)), [22], ?_, ⟨⟨rfl, Nat.le_of_ble_eq_true rfl, rfl⟩, ?_, ?_⟩⟩
        · refine ⟨⟨show 2 ≤ 6 by omega, ?_⟩, show 6 - 2 < 6 - 1 by omega⟩
          show L ++ _ = postParts (Posting.mk pd pt ps pk a0 a1 a2 a3 a4 a5) 1 ++ postW _ 1
          rw [h2, postW, if_neg (by assumption)]; rfl
        · (conv => whnf)
          (repeat' ((first | with_reducible exact True.intro | ((with_reducible refine And.intro ?_ ?_); focus (first | with_reducible rfl | omega | exact Nat.le_of_ble_eq_true rfl | rfl)) | with_reducible refine And.intro (?_ : leA _ _ _) ?_ | fail) <;> (conv => whnf)))
          all_goals (try simp only [wQ])
          all_goals (try first | omega)
          exact ⟨by simp, Or.inl trivial⟩
        · (conv => whnf)
          (repeat' ((first | with_reducible exact True.intro | ((with_reducible refine And.intro ?_ ?_); focus (first | with_reducible rfl | omega | exact Nat.le_of_ble_eq_true rfl | rfl)) | with_reducible refine And.intro (?_ : leBlk _ _ _ _) ?_ | fail) <;> (conv => whnf)))
          all_goals (try simp only [wQ])
          exact ⟨by simp, fun e he => ⟨cat_str rfl he, rfl⟩⟩
      · (conv => whnf)
        refine ⟨((2, L) : Nat × List (List UInt8)), [12], ?_, ⟨⟨rfl, Nat.le_of_ble_eq_true rfl, rfl⟩, ?_, ?_⟩⟩
        · refine ⟨⟨show 2 ≤ 6 by omega, ?_⟩, show 6 - 2 < 6 - 1 by omega⟩
          show L = postParts (Posting.mk pd pt ps pk a0 a1 a2 a3 a4 a5) 1 ++ postW _ 1
          rw [h2, postW, if_pos (by assumption), List.append_nil]
        · (conv => whnf)
          (repeat' ((first | with_reducible exact True.intro | ((with_reducible refine Or.inr ?_); rfl) | ((with_reducible refine And.intro ?_ ?_); focus (first | with_reducible rfl | omega | exact Nat.le_of_ble_eq_true rfl | rfl)) | with_reducible refine And.intro (?_ : leA _ _ _) ?_ | fail) <;> (conv => whnf)))
          all_goals (try simp only [wQ])
          all_goals (try first | omega)
        · (conv => whnf)
          (repeat' ((first | with_reducible exact True.intro | ((with_reducible refine And.intro ?_ ?_); focus (first | with_reducible rfl | omega | exact Nat.le_of_ble_eq_true rfl | rfl)) | with_reducible refine And.intro (?_ : leBlk _ _ _ _) ?_ | fail) <;> (conv => whnf)))
          all_goals (try simp only [wQ])
          exact ⟨Nat.le_refl _, fun e he => ⟨trivial, rfl⟩⟩
      · (conv => whnf)
        refine ⟨((3, L ++ [labs.getD 2 0 :: Lib.itoa a2]) : Nat × List (List UInt8)), [22], ?_, ⟨⟨rfl, Nat.le_of_ble_eq_true rfl, rfl⟩, ?_, ?_⟩⟩
        · refine ⟨⟨show 3 ≤ 6 by omega, ?_⟩, show 6 - 3 < 6 - 2 by omega⟩
          show L ++ _ = postParts (Posting.mk pd pt ps pk a0 a1 a2 a3 a4 a5) 2 ++ postW _ 2
          rw [h2, postW, if_neg (by assumption)]; rfl
        · (conv => whnf)
          (repeat' ((first | with_reducible exact True.intro | ((with_reducible refine And.intro ?_ ?_); focus (first | with_reducible rfl | omega | exact Nat.le_of_ble_eq_true rfl | rfl)) | with_reducible refine And.intro (?_ : leA _ _ _) ?_ | fail) <;> (conv => whnf)))
          all_goals (try simp only [wQ])
          all_goals (try first | omega)
          exact ⟨by simp, Or.inl trivial⟩
        · (conv => whnf)
          (repeat' ((first | with_reducible exact True.intro | ((with_reducible refine And.intro ?_ ?_); focus (first | with_reducible rfl | omega | exact Nat.le_of_ble_eq_true rfl | rfl)) | with_reducible refine And.intro (?_ : leBlk _ _ _ _) ?_ | fail) <;> (conv => whnf)))
          all_goals (try simp only [wQ])
          exact ⟨by simp, fun e he => ⟨cat_str rfl he, rfl⟩⟩
      · (conv => whnf)
        refine ⟨((3, L) : Nat × List (List UInt8)), [12], ?_, ⟨⟨rfl, Nat.le_of_ble_eq_true rfl, rfl⟩, ?_, ?_⟩⟩
        · refine ⟨⟨show 3 ≤ 6 by omega, ?_⟩, show 6 - 3 < 6 - 2 by omega⟩
          show L = postParts (Posting.mk pd pt ps pk a0 a1 a2 a3 a4 a5) 2 ++ postW _ 2
          rw [h2, postW, if_pos (by assumption), List.append_nil]
        · (conv => whnf)
          (repeat' ((first | with_reducible exact True.intro | ((with_reducible refine Or.inr ?_); rfl) | ((with_reducible refine And.intro ?_ ?_); focus (first | with_reducible rfl | omega | exact Nat.le_of_ble_eq_true rfl | rfl)) | with_reducible refine And.intro (?_ : leA _ _ _) ?_ | fail) <;> (conv => whnf)))
          all_goals (try simp only [wQ])
          all_goals (try first | omega)
        · (conv => whnf)
          (repeat' ((first | with_reducible exact True.intro | ((with_reducible refine And.intro ?_ ?_); focus (first | with_reducible rfl | omega | exact Nat.le_of_ble_eq_true rfl | rfl)) | with_reducible refine And.intro (?_ : leBlk _ _ _ _) ?_ | fail) <;> (conv => whnf)))
          all_goals (try simp only [wQ])
          exact ⟨Nat.le_refl _, fun e he => ⟨trivial, rfl⟩⟩
      · (conv => whnf)
        refine ⟨((4, L ++ [labs.getD 3 0 :: Lib.itoa a3]) : Nat × List (List UInt8)), [22], ?_, ⟨⟨rfl, Nat.le_of_ble_eq_true rfl, rfl⟩, ?_, ?_⟩⟩
        · refine ⟨⟨show 4 ≤ 6 by omega, ?_⟩, show 6 - 4 < 6 - 3 by omega⟩
          show L ++ _ = postParts (Posting.mk pd pt ps pk a0 a1 a2 a3 a4 a5) 3 ++ postW _ 3
          rw [h2, postW, if_neg (by assumption)]; rfl
        · (conv => whnf)
          (repeat' ((first | with_reducible exact True.intro | ((with_reducible refine And.intro ?_ ?_); focus (first | with_reducible rfl | omega | exact Nat.le_of_ble_eq_true rfl | rfl)) | with_reducible refine And.intro (?_ : leA _ _ _) ?_ | fail) <;> (conv => whnf)))
          all_goals (try simp only [wQ])
          all_goals (try first | omega)
          exact ⟨by simp, Or.inl trivial⟩
        · (conv => whnf)
          (repeat' ((first | with_reducible exact True.intro | ((with_reducible refine And.intro ?_ ?_); focus (first | with_reducible rfl | omega | exact Nat.le_of_ble_eq_true rfl | rfl)) | with_reducible refine And.intro (?_ : leBlk _ _ _ _) ?_ | fail) <;> (conv => whnf)))
          all_goals (try simp only [wQ])
          exact ⟨by simp, fun e he => ⟨cat_str rfl he, rfl⟩⟩
      · (conv => whnf)
        refine ⟨((4, L) : Nat × List (List UInt8)), [12], ?_, ⟨⟨rfl, Nat.le_of_ble_eq_true rfl, rfl⟩, ?_, ?_⟩⟩
        · refine ⟨⟨show 4 ≤ 6 by omega, ?_⟩, show 6 - 4 < 6 - 3 by omega⟩
          show L = postParts (Posting.mk pd pt ps pk a0 a1 a2 a3 a4 a5) 3 ++ postW _ 3
          rw [h2, postW, if_pos (by assumption), List.append_nil]
        · (conv => whnf)
          (repeat' ((first | with_reducible exact True.intro | ((with_reducible refine Or.inr ?_); rfl) | ((with_reducible refine And.intro ?_ ?_); focus (first | with_reducible rfl | omega | exact Nat.le_of_ble_eq_true rfl | rfl)) | with_reducible refine And.intro (?_ : leA _ _ _) ?_ | fail) <;> (conv => whnf)))
          all_goals (try simp only [wQ])
          all_goals (try first | omega)
        · (conv => whnf)
          (repeat' ((first | with_reducible exact True.intro | ((with_reducible refine And.intro ?_ ?_); focus (first | with_reducible rfl | omega | exact Nat.le_of_ble_eq_true rfl | rfl)) | with_reducible refine And.intro (?_ : leBlk _ _ _ _) ?_ | fail) <;> (conv => whnf)))
          all_goals (try simp only [wQ])
          exact ⟨Nat.le_refl _, fun e he => ⟨trivial, rfl⟩⟩
      · (conv => whnf)
        refine ⟨((5, L ++ [labs.getD 4 0 :: Lib.itoa a4]) : Nat × List (List UInt8)), [22], ?_, ⟨⟨rfl, Nat.le_of_ble_eq_true rfl, rfl⟩, ?_, ?_⟩⟩
        · refine ⟨⟨show 5 ≤ 6 by omega, ?_⟩, show 6 - 5 < 6 - 4 by omega⟩
          show L ++ _ = postParts (Posting.mk pd pt ps pk a0 a1 a2 a3 a4 a5) 4 ++ postW _ 4
          rw [h2, postW, if_neg (by assumption)]; rfl
        · (conv => whnf)
          (repeat' ((first | with_reducible exact True.intro | ((with_reducible refine And.intro ?_ ?_); focus (first | with_reducible rfl | omega | exact Nat.le_of_ble_eq_true rfl | rfl)) | with_reducible refine And.intro (?_ : leA _ _ _) ?_ | fail) <;> (conv => whnf)))
          all_goals (try simp only [wQ])
          all_goals (try first | omega)
          exact ⟨by simp, Or.inl trivial⟩
        · (conv => whnf)
          (repeat' ((first | with_reducible exact True.intro | ((with_reducible refine And.intro ?_ ?_); focus (first | with_reducible rfl | omega | exact Nat.le_of_ble_eq_true rfl | rfl)) | with_reducible refine And.intro (?_ : leBlk _ _ _ _) ?_ | fail) <;> (conv => whnf)))
          all_goals (try simp only [wQ])
          exact ⟨by simp, fun e he => ⟨cat_str rfl he, rfl⟩⟩
      · (conv => whnf)
        refine ⟨((5, L) : Nat × List (List UInt8)), [12], ?_, ⟨⟨rfl, Nat.le_of_ble_eq_true rfl, rfl⟩, ?_, ?_⟩⟩
        · refine ⟨⟨show 5 ≤ 6 by omega, ?_⟩, show 6 - 5 < 6 - 4 by omega⟩
          show L = postParts (Posting.mk pd pt ps pk a0 a1 a2 a3 a4 a5) 4 ++ postW _ 4
          rw [h2, postW, if_pos (by assumption), List.append_nil]
        · (conv => whnf)
          (repeat' ((first | with_reducible exact True.intro | ((with_reducible refine Or.inr ?_); rfl) | ((with_reducible refine And.intro ?_ ?_); focus (first | with_reducible rfl | omega | exact Nat.le_of_ble_eq_true rfl | rfl)) | with_reducible refine And.intro (?_ : leA _ _ _) ?_ | fail) <;> (conv => whnf)))
          all_goals (try simp only [wQ])
          all_goals (try first | omega)
        · (conv => whnf)
          (repeat' ((first | with_reducible exact True.intro | ((with_reducible refine And.intro ?_ ?_); focus (first | with_reducible rfl | omega | exact Nat.le_of_ble_eq_true rfl | rfl)) | with_reducible refine And.intro (?_ : leBlk _ _ _ _) ?_ | fail) <;> (conv => whnf)))
          all_goals (try simp only [wQ])
          exact ⟨Nat.le_refl _, fun e he => ⟨trivial, rfl⟩⟩
      · (conv => whnf)
        refine ⟨((6, L ++ [labs.getD 5 0 :: Lib.itoa a5]) : Nat × List (List UInt8)), [22], ?_, ⟨⟨rfl, Nat.le_of_ble_eq_true rfl, rfl⟩, ?_, ?_⟩⟩
        · refine ⟨⟨show 6 ≤ 6 by omega, ?_⟩, show 6 - 6 < 6 - 5 by omega⟩
          show L ++ _ = postParts (Posting.mk pd pt ps pk a0 a1 a2 a3 a4 a5) 5 ++ postW _ 5
          rw [h2, postW, if_neg (by assumption)]; rfl
        · (conv => whnf)
          (repeat' ((first | with_reducible exact True.intro | ((with_reducible refine And.intro ?_ ?_); focus (first | with_reducible rfl | omega | exact Nat.le_of_ble_eq_true rfl | rfl)) | with_reducible refine And.intro (?_ : leA _ _ _) ?_ | fail) <;> (conv => whnf)))
          all_goals (try simp only [wQ])
          all_goals (try first | omega)
          exact ⟨by simp, Or.inl trivial⟩
        · (conv => whnf)
          (repeat' ((first | with_reducible exact True.intro | ((with_reducible refine And.intro ?_ ?_); focus (first | with_reducible rfl | omega | exact Nat.le_of_ble_eq_true rfl | rfl)) | with_reducible refine And.intro (?_ : leBlk _ _ _ _) ?_ | fail) <;> (conv => whnf)))
          all_goals (try simp only [wQ])
          exact ⟨by simp, fun e he => ⟨cat_str rfl he, rfl⟩⟩
      · (conv => whnf)
        refine ⟨((6, L) : Nat × List (List UInt8)), [12], ?_, ⟨⟨rfl, Nat.le_of_ble_eq_true rfl, rfl⟩, ?_, ?_⟩⟩
        · refine ⟨⟨show 6 ≤ 6 by omega, ?_⟩, show 6 - 6 < 6 - 5 by omega⟩
          show L = postParts (Posting.mk pd pt ps pk a0 a1 a2 a3 a4 a5) 5 ++ postW _ 5
          rw [h2, postW, if_pos (by assumption), List.append_nil]
        · (conv => whnf)
          (repeat' ((first | with_reducible exact True.intro | ((with_reducible refine Or.inr ?_); rfl) | ((with_reducible refine And.intro ?_ ?_); focus (first | with_reducible rfl | omega | exact Nat.le_of_ble_eq_true rfl | rfl)) | with_reducible refine And.intro (?_ : leA _ _ _) ?_ | fail) <;> (conv => whnf)))
          all_goals (try simp only [wQ])
          all_goals (try first | omega)
        · (conv => whnf)
          (repeat' ((first | with_reducible exact True.intro | ((with_reducible refine And.intro ?_ ?_); focus (first | with_reducible rfl | omega | exact Nat.le_of_ble_eq_true rfl | rfl)) | with_reducible refine And.intro (?_ : leBlk _ _ _ _) ?_ | fail) <;> (conv => whnf)))
          all_goals (try simp only [wQ])
          exact ⟨Nat.le_refl _, fun e he => ⟨trivial, rfl⟩⟩
      · refine ⟨⟨by simp, fun e he => rfl⟩, ?_⟩
        refine ⟨((L, [32]) : List (List UInt8) × List UInt8), ⟨by have := join_le [32] 40 L (by rw [h2]; exact postParts_word hmay 6 (by omega)); simp at this; show (Lib.join L [32]).length ≤ _; omega, by show L.length ≤ _; omega⟩, ?_, ?_⟩
        · (conv => whnf)
          (repeat' ((first | with_reducible exact True.intro | ((with_reducible refine And.intro ?_ ?_); focus (first | with_reducible rfl | omega | exact Nat.le_of_ble_eq_true rfl | rfl)) | with_reducible refine And.intro (?_ : leA _ _ _) ?_ | fail) <;> (conv => whnf)))
          all_goals (try simp only [wQ])
          all_goals (try first | (refine ⟨fun h => h, fun e he => ?_⟩; rw [Nat.zero_add]; done))
        (conv => whnf)
        all_goals (try (show _ = _; simp only [wQ]))
        unfold postText; rw [if_pos hmay, h2]
  · have hex := hmay
    (conv => whnf)
    (repeat' ((first
      | (exact absurd (by with_reducible assumption) hex)
      | ((with_reducible refine And.intro ?_ ?_); focus (with_reducible exact True.intro))
      | (split <;> rename_i hh <;> (try simp only [wS] at hh) <;> (try simp (disch := omega) only [Int.tdiv_eq_ediv_of_nonneg, Int.tmod_eq_emod_of_nonneg] at hh))
      | fail) <;> (conv => whnf)))
    all_goals (try (show _ = _; simp only [wQ]))
    unfold postText; rw [if_neg hmay]
end
end Go.Vc.Z

/- Postings' texts: the document's. -/
namespace Go.Vc.Z
open Go Go.Vc Go.Proofs Go.RowKit Go.Pl Go.Lib
noncomputable section
set_option maxRecDepth 100000
set_option linter.unusedSimpArgs false
set_option linter.unusedVariables false
attribute [local irreducible] inK Utf8.decode Utf8.encode Lib.itoa Pl.worth Pl.allDig
attribute [local irreducible] Lib.join
end
end Go.Vc.Z

/- Amounts' texts. -/
namespace Go.Vc.Z
open Go Go.Vc Go.Proofs Go.RowKit Go.Pl Go.Lib
noncomputable section
set_option maxRecDepth 100000
set_option linter.unusedSimpArgs false
set_option linter.unusedVariables false
attribute [local irreducible] inK Utf8.decode Utf8.encode Lib.itoa Pl.worth Pl.allDig
abbrev digB (n : Int) : UInt8 := UInt8.ofNat (48 + n % 10).toNat
@[irreducible] def centsT (n : Int) : List UInt8 := decDigits (n / 10 / 10).toNat ++ [46, digB (n / 10), digB n]
@[irreducible] def moneyT (n : Int) : List UInt8 := if n < 0 then 45 :: centsT (-n) else centsT n
@[irreducible] def fareT (n : Int) : List UInt8 := if moneyB n = true then moneyT n else []
theorem centsT_len {n : Int} (h0 : 0 ≤ n) (h : n ≤ 9223372036854775807) : (centsT n).length ≤ 30 := by
  unfold centsT
  have := dec_len_le (n / 10 / 10).toNat (by omega)
  simp only [List.length_append, List.length_cons, List.length_nil]; omega
theorem moneyT_len {n : Int} (h : -9223372036854775807 ≤ n ∧ n ≤ 9223372036854775807) : (moneyT n).length ≤ 31 := by
  unfold moneyT
  split
  · have := centsT_len (n := -n) (by omega) (by omega)
    simp only [List.length_cons]; omega
  · have := centsT_len (n := n) (by omega) (by omega)
    omega
/-- What is still to come ahead of digits. -/
def restT (m : Int) : Nat → List UInt8
  | 0 => centsT m
  | 1 => decDigits (m / 10).toNat ++ [46, digB m]
  | 2 => decDigits m.toNat ++ [46]
  | _ + 3 => if m = 0 then [] else decDigits m.toNat
theorem rest_3 {m : Int} (h : 0 ≤ m) : (if m / 10 = 0 then [] else decDigits (m / 10).toNat) ++ [digB m] = decDigits m.toNat := by
  obtain ⟨u, rfl⟩ : ∃ u : Nat, m = u := ⟨m.toNat, by omega⟩
  have e : digB (u : Int) = UInt8.ofNat (48 + u % 10) := by unfold digB; congr 1
  rw [e, show ((u : Int) / 10).toNat = u / 10 by omega, Int.toNat_natCast]
  split
  · rw [dec_small (by omega)]; rfl
  · rw [dec_big (u := u) (by omega)]
theorem rest_step {m : Int} {i : Nat} (h : 0 ≤ m) (hi : i < 3 ∨ 0 < m) : restT (m / 10) (i + 1) ++ (if i = 2 then [digB m, 46] else [digB m]) = restT m i := by
  rcases Nat.lt_or_ge i 3 with h3 | h3
  rcases (by omega : i = 0 ∨ i = 1 ∨ i = 2) with rfl | rfl | rfl
  · simp [restT, centsT]
  · simp [restT]
  · have := rest_3 h
    simp only [restT]
    rw [if_pos True.intro, show [digB m, 46] = [digB m] ++ [46] from rfl, ← List.append_assoc, this]
  · obtain ⟨k, rfl⟩ : ∃ k, i = k + 3 := ⟨i - 3, by omega⟩
    have := rest_3 h
    rw [if_neg (by omega)]
    show (if m / 10 = 0 then [] else decDigits (m / 10).toNat) ++ [digB m] = if m = 0 then [] else decDigits m.toNat
    rw [this, if_neg (by omega)]
def rowB (l : List UInt8) : Blk := match l with
  | [] => .dead
  | c :: l => .row 1 (l.length + 1) (fun e => [.int .u8 ((c :: l).getD e 0).toNat])
def oslB (id : Nat) : List UInt8 → AV
  | [] => .nilsl
  | _ :: l => .osl id 1 0 (l.length + 1) none
abbrev FS := Nat × List UInt8 × Int
def LFare7 (n : Int) : LoopSpec := {
  α := FS
  keep := [0, 3, 4]
  vals x := [.int .i64 x.2.2, oslB 0 x.2.1, .int .i64 x.1]
  heap x := [rowB x.2.1]
  ok x := 0 ≤ x.2.2 ∧ x.2.2 ≤ n ∧ ((x.1 = 0 ↔ x.2.1 = []) ∧ x.1 ≤ x.2.1.length) ∧ restT x.2.2 x.1 ++ x.2.1.reverse = centsT n
  μ x := (3 - x.1) + 2 * x.2.2.toNat }
def bldRow (T : List UInt8) (k : Nat) : Blk := .row 1 k (fun e => [.int .u8 (T.getD e 0).toNat]) (some 5)
def LFare15 (n : Int) : LoopSpec := {
  α := Nat
  keep := [3, 5, 41, 42]
  vals k := [.osl 0 1 0 (centsT n).length none, .ptr 1 0, .int .i64 (centsT n).length, .int .i64 k]
  heap k := match k with
    | 0 => [.row 1 (centsT n).length (fun e => [.int .u8 ((centsT n).reverse.getD e 0).toNat]), .var [.nilp, .nilsl] (some 152), .dead]
    | k + 1 => [.row 1 (centsT n).length (fun e => [.int .u8 ((centsT n).reverse.getD e 0).toNat]), .var [.ptr 1 0, .osl 2 1 0 (k + 1) none] (some 152), bldRow (centsT n) (k + 1)]
  ok k := k ≤ (centsT n).length
  μ k := (centsT n).length - k }
def pcFareT0 : PC := PC.fun fun | [.int .i64 n] => some (0 ≤ n ∧ moneyB n = true, .str (sS (centsT n))) | _ => none
theorem digB_nat {m : Int} (h : 0 ≤ m) : (((digB m).toNat : Nat) : Int) = 48 + m.tmod 10 := by
  rw [Int.tmod_eq_emod_of_nonneg h]
  unfold digB
  have : (UInt8.ofNat (48 + m % 10).toNat).toNat = (48 + m % 10).toNat % 256 := UInt8.toNat_ofNat'
  omega
theorem rest_ne {m : Int} {i : Nat} (h : 0 ≤ m) (hi : i < 3 ∨ 0 < m) (h2 : i ≠ 2) : restT (m / 10) (i + 1) ++ [digB m] = restT m i := by
  have := rest_step h hi
  rw [if_neg h2] at this; exact this
theorem rest_two {m : Int} (h : 0 ≤ m) : restT (m / 10) 3 ++ [digB m, 46] = restT m 2 := rest_step h (.inl (by omega))
theorem rev_getD {T : List UInt8} {j : Nat} (h : j < T.length) : T.reverse.getD (0 + ((T.length : Int) - 1 - (j : Int)).toNat) 0 = T.getD j 0 := by
  rw [show 0 + ((T.length : Int) - 1 - (j : Int)).toNat = T.length - 1 - j by omega]
  simp only [List.getD_eq_getElem?_getD]
  rw [List.getElem?_reverse (by omega), show T.length - 1 - (T.length - 1 - j) = j by omega]
theorem cat_tab {T : List UInt8} {k : Nat} {b : Nat → List AV} (hb : b 0 = [.int .u8 (T.getD k 0).toNat]) {e : Nat} (he : e < k + 1) : catRow k (fun e => [AV.int .u8 (T.getD e 0).toNat]) b e = [AV.int .u8 (T.getD e 0).toNat] := by
  unfold catRow
  rcases Nat.lt_or_ge e k with h | h
  · rw [if_pos h]
  · obtain rfl : e = k := by omega
    rw [if_neg (by omega), Nat.sub_self, hb]
theorem bytesOf_tab (T : List UInt8) : bytesOf T.length (fun e => [AV.int .u8 (T.getD e 0).toNat]) = T := by
  refine List.ext_getElem? fun j => ?_
  simp only [bytesOf, List.getElem?_map]
  rcases Nat.lt_or_ge j T.length with h | h
  · rw [List.getElem?_range h, List.getElem?_eq_getElem h]
    simp [byteCell, List.getD_eq_getElem?_getD, h]
  · rw [List.getElem?_eq_none (by simpa using h), List.getElem?_eq_none h]; rfl
theorem cat_u8 {l : List UInt8} {d : UInt8} {b : Nat → List AV} (hb : b 0 = [.int .u8 d.toNat]) {e : Nat} (he : e < l.length + 1) : catRow l.length (fun e => [AV.int .u8 (l.getD e 0).toNat]) b e = [AV.int .u8 ((l ++ [d]).getD e 0).toNat] := by
  unfold catRow
  rcases Nat.lt_or_ge e l.length with h | h
  · rw [if_pos h]
    simp [List.getD_eq_getElem?_getD, List.getElem?_append_left h]
  · obtain rfl : e = l.length := by omega
    rw [if_neg (by omega), Nat.sub_self, hb]
    simp [List.getD_eq_getElem?_getD]
theorem cat_u8n {l : List UInt8} {n : Nat} {d : UInt8} {g b : Nat → List AV} (hn : n = l.length) (hg : ∀ e, e < l.length → g e = [.int .u8 (l.getD e 0).toNat]) (hb : b 0 = [.int .u8 d.toNat]) {e : Nat} (he : e < n + 1) : catRow n g b e = [AV.int .u8 ((l ++ [d]).getD e 0).toNat] := by
  subst hn
  rw [← cat_u8 (l := l) (b := b) hb he]
  unfold catRow
  split
  · exact hg e (by assumption)
  · rfl
theorem centsT_pos (n : Int) : 0 < (centsT n).length := by unfold centsT; simp
def D_fareT0 : PT := tabD [(207, pcMoney)]
def C_fareT0 : FuncId → Option Ctr := tabC D_fareT0 [(102, kBString), (182, kCopyCheck)]
def C1_fareT0 : FuncId → Option Ctr := tabC D_fareT0 [(208, inl TY (C_fareT0) D_fareT0 (fun _ => false) (fun _ _ _ => none) Tryz.f208), (102, kBString), (182, kCopyCheck)]
def L_fareT0 : List AV → Nat → Option LR := fun cs i => match cs with | [.int _ n] => cond (Nat.beq i 7) (some (.inv (LFare7 n))) (cond (Nat.beq i 15) (some (.inv (LFare15 n))) (none)) | _ => none
set_option maxHeartbeats 2000000 in
theorem g_fareT0 {W : World} (hW : Tabs W) : GoodP (Fw W) Tryz.prog 132 pcFareT0 := by
  have hD : PTOk (Fw W) Tryz.prog D_fareT0 := (tabD_cons Tryz.call207 (g_fare_May hW) tabD_nil)
  have hC0 : CtrOk (Fw W) Tryz.prog C_fareT0 := (tabC_cons Tryz.call102 goodBString (tabC_cons Tryz.call182 goodCopyCheck (tabC_nil hD)))
  have hC1 : CtrOk (Fw W) Tryz.prog (C1_fareT0) := tabC_cons Tryz.call208 (good_inl rfl tyOk hD (hC0) Tryz.func208 (fun _ _ _ => none)) (hC0)
  refine goodP_fun (D := D_fareT0) (C := C1_fareT0) (wr := (fun _ => false)) rfl tyOk hD hC1 Tryz.func132 (L_fareT0) ?_
  clear hC0 hD hW
  intro cs p r h hf hp
  split at h
  case h_2 => cases h
  rename_i n
  cases h
  try simp only [factL, factA, inK_def, Go.Vc.lo, Go.Vc.hi, and_true] at hf
  obtain ⟨h0, hm⟩ := hp
  have hb : 0 ≤ n ∧ n ≤ 1000000000000 := by have := hm; unfold moneyB at this; simp at this; omega
  have hex : ¬ moneyB n = false := by rw [hm]; simp
  (conv => whnf)
  (repeat' ((first
    | (exact absurd (by with_reducible assumption) hex)
    | ((with_reducible refine And.intro ?_ ?_); focus (first | with_reducible exact True.intro | omega))
    | (split <;> rename_i hh <;> (try simp only [wS] at hh) <;> (try simp (disch := omega) only [Int.tdiv_eq_ediv_of_nonneg, Int.tmod_eq_emod_of_nonneg] at hh))
    | fail) <;> (conv => whnf)))
  all_goals (try (show _ = _; simp only [wQ]))
  · exfalso; omega
  refine ⟨?_, fun (x : FS) hx => ?_⟩
  · (conv => whnf)
    refine ⟨((0, [], n) : FS), [0], ?_, ⟨⟨rfl, Nat.le_of_ble_eq_true rfl, rfl⟩, ?_, ?_⟩⟩
    · exact ⟨h0, Int.le_refl _, ⟨by simp, Nat.le_refl _⟩, by simp [restT]⟩
    · (conv => whnf)
      (repeat' ((first | with_reducible exact True.intro | ((with_reducible refine And.intro ?_ ?_); focus (first | with_reducible rfl | omega | exact Nat.le_of_ble_eq_true rfl | rfl)) | with_reducible refine And.intro (?_ : leA _ _ _) ?_ | fail) <;> (conv => whnf)))
      all_goals (try simp only [wQ])
      all_goals (try first | omega)
    · (conv => whnf)
      (repeat' ((first | with_reducible exact True.intro | fail) <;> (conv => whnf)))
      all_goals (try simp only [wQ])
  · obtain ⟨i, back, m⟩ := x
    obtain ⟨h1, h2, ⟨h3, h5⟩, h4⟩ := hx
    change i ≤ back.length at h5
    change 0 ≤ m at h1
    change m ≤ n at h2
    change i = 0 ↔ back = [] at h3
    change restT m i ++ back.reverse = centsT n at h4
    have hd := digB_nat h1
    have htd : m.tdiv 10 = m / 10 := Int.tdiv_eq_ediv_of_nonneg h1
    have hl : back.length ≤ 40 := by
      have := congrArg List.length h4
      have := centsT_len h0 (by omega)
      simp at *; omega
    rcases back with _ | ⟨c, l⟩
    · have hi := h3.2 rfl
      subst hi
      (conv => whnf)
      (repeat' ((first
        | ((with_reducible refine And.intro ?_ ?_); focus (first | omega | (simp only [inK_def, Go.Vc.lo, Go.Vc.hi]; omega) | (simp only [inK_def, Go.Vc.lo, Go.Vc.hi]; simp (disch := omega) only [Int.tdiv_eq_ediv_of_nonneg, Int.tmod_eq_emod_of_nonneg, sI_eq, sN_eq]; omega) | (simp only [growOk, ty2, ty3, ty4, ty5, ty9, ty21, ty37, ty42, ty43, ty45, ty47, ty67, ty95, ty105, ty113, ty150, ty161, ty198, ty242, ty275]; first | omega | (refine ⟨?_, ?_⟩ <;> omega))))
        | fail) <;> (conv => whnf)))
      all_goals (try (show _ = _; simp only [wQ]))
      · (conv => whnf)
        refine ⟨((1, [digB m], m / 10) : FS), [2], ?_, ⟨⟨rfl, Nat.le_of_ble_eq_true rfl, rfl⟩, ?_, ?_⟩⟩
        · refine ⟨⟨show 0 ≤ m / 10 by omega, show m / 10 ≤ n by omega, ⟨by simp, Nat.le_refl _⟩, ?_⟩, show (3 - 1) + 2 * (m / 10).toNat < (3 - 0) + 2 * m.toNat by omega⟩
          rw [← h4]
          have := rest_ne (i := 0) h1 (.inl (by omega)) (by omega)
          simpa using this
        · (conv => whnf)
          (repeat' ((first | with_reducible exact True.intro | ((with_reducible refine Or.inr ?_); rfl) | ((with_reducible refine And.intro ?_ ?_); focus (first | with_reducible rfl | omega | exact Nat.le_of_ble_eq_true rfl | rfl)) | with_reducible refine And.intro (?_ : leA _ _ _) ?_ | fail) <;> (conv => whnf)))
          all_goals (try simp only [wQ])
          all_goals (try first | omega)
        · (conv => whnf)
          (repeat' ((first | with_reducible exact True.intro | ((with_reducible refine And.intro ?_ ?_); focus (first | with_reducible rfl | omega | exact Nat.le_of_ble_eq_true rfl | rfl)) | with_reducible refine And.intro (?_ : leBlk _ _ _ _) ?_ | fail) <;> (conv => whnf)))
          all_goals (try simp only [wQ])
          intro e he
          have he : e < 1 := he
          obtain rfl : e = 0 := by omega
          refine ⟨?_, rfl⟩
          show [AV.int .u8 (48 + m.tmod 10)] = [AV.int .u8 ((digB m).toNat : Int)]
          rw [hd]
    · have hi : i ≠ 0 := fun h => by have := h3.1 h; cases this
      have hl2 : l.length ≤ 39 := by simp at hl; omega
      have h6 : i ≤ l.length + 1 := h5
      clear hl
      have hdr : [AV.int .u8 (48 + m.tmod 10)] = [AV.int .u8 ((digB m).toNat : Int)] := by rw [hd]
      have hfin : ¬ 0 < m → 3 ≤ i → c :: l = (centsT n).reverse := fun hm0 hi3 => by
        obtain ⟨k, rfl⟩ : ∃ k, i = k + 3 := ⟨i - 3, by omega⟩
        have hz : m = 0 := by omega
        simp only [restT] at h4
        rw [if_pos hz, List.nil_append] at h4
        rw [← h4, List.reverse_reverse]
      (conv => whnf)
      (repeat' ((first
        | ((with_reducible refine And.intro ?_ ?_); focus (first | ((with_reducible refine ⟨?_, ?_, ?_⟩) <;> first | (intro e he; rcases (by omega : e = 0 ∨ e = 1 ∨ e = 2 ∨ e = 3 ∨ e = 4 ∨ e = 5) with rfl | rfl | rfl | rfl | rfl | rfl <;> first | rfl | (exfalso; omega)) | (with_reducible assumption) | omega | ((with_reducible show growOk _ _); simp only [growOk, ty2, ty3, ty4, ty5, ty9, ty21, ty37, ty42, ty43, ty45, ty47, ty67, ty95, ty105, ty113, ty150, ty161, ty198, ty242, ty275, List.length_cons, List.length_nil]; first | omega | (refine ⟨?_, ?_⟩ <;> omega))) | omega | (simp only [inK_def, Go.Vc.lo, Go.Vc.hi]; omega) | (simp only [inK_def, Go.Vc.lo, Go.Vc.hi]; simp (disch := omega) only [Int.tdiv_eq_ediv_of_nonneg, Int.tmod_eq_emod_of_nonneg, sI_eq, sN_eq]; omega)))
        | (split <;> rename_i hh <;> (try simp only [wS] at hh) <;> (try simp (disch := omega) only [Int.tdiv_eq_ediv_of_nonneg, Int.tmod_eq_emod_of_nonneg] at hh))
        | with_reducible refine (fun (hln : (_ : Int) ≤ 9223372036854775807) => ?_)
        | fail) <;> (conv => whnf)))
      all_goals (try (show _ = _; simp only [wQ]))
      · (conv => whnf)
        refine ⟨((i + 1, c :: l ++ [46] ++ [digB m], m / 10) : FS), [4], ?_, ⟨⟨rfl, Nat.le_of_ble_eq_true rfl, rfl⟩, ?_, ?_⟩⟩
        · refine ⟨⟨show 0 ≤ m / 10 by omega, show m / 10 ≤ n by omega, ⟨by simp, by simp; omega⟩, ?_⟩, show (3 - (i + 1)) + 2 * (m / 10).toNat < (3 - i) + 2 * m.toNat by omega⟩
          rw [← h4]
          obtain rfl : i = 2 := by omega
          have := rest_two h1
          show restT (m / 10) 3 ++ _ = restT m 2 ++ _
          rw [← this]; simp
        · (conv => whnf)
          (repeat' ((first | with_reducible exact True.intro | ((with_reducible refine And.intro ?_ ?_); focus (first | with_reducible rfl | omega | exact Nat.le_of_ble_eq_true rfl | rfl)) | with_reducible refine And.intro (?_ : leA _ _ _) ?_ | fail) <;> (conv => whnf)))
          all_goals (try simp only [wQ])
          all_goals (try first | omega)
          all_goals (try first | exact ⟨by simp, Or.inl trivial⟩)
        · (conv => whnf)
          (repeat' ((first | with_reducible exact True.intro | ((with_reducible refine And.intro ?_ ?_); focus (first | with_reducible rfl | omega | exact Nat.le_of_ble_eq_true rfl | rfl)) | with_reducible refine And.intro (?_ : leBlk _ _ _ _) ?_ | fail) <;> (conv => whnf)))
          all_goals (try simp only [wQ])
          exact ⟨by simp, fun e he => ⟨cat_u8n (l := c :: l ++ [46]) (by simp) (fun e he => cat_u8n (l := c :: l) rfl (fun _ _ => rfl) rfl (by simpa using he)) hdr (by simpa using he), rfl⟩⟩
      · (conv => whnf)
        refine ⟨((i + 1, c :: l ++ [digB m], m / 10) : FS), [2], ?_, ⟨⟨rfl, Nat.le_of_ble_eq_true rfl, rfl⟩, ?_, ?_⟩⟩
        · refine ⟨⟨show 0 ≤ m / 10 by omega, show m / 10 ≤ n by omega, ⟨by simp, by simp; omega⟩, ?_⟩, show (3 - (i + 1)) + 2 * (m / 10).toNat < (3 - i) + 2 * m.toNat by omega⟩
          rw [← h4]
          have := rest_ne (i := i) h1 (.inl (by omega)) (by omega)
          show restT (m / 10) (i + 1) ++ _ = restT m i ++ _
          rw [← this]; simp
        · (conv => whnf)
          (repeat' ((first | with_reducible exact True.intro | ((with_reducible refine And.intro ?_ ?_); focus (first | with_reducible rfl | omega | exact Nat.le_of_ble_eq_true rfl | rfl)) | with_reducible refine And.intro (?_ : leA _ _ _) ?_ | fail) <;> (conv => whnf)))
          all_goals (try simp only [wQ])
          all_goals (try first | omega)
          all_goals (try first | exact ⟨by simp, Or.inl trivial⟩)
        · (conv => whnf)
          (repeat' ((first | with_reducible exact True.intro | ((with_reducible refine And.intro ?_ ?_); focus (first | with_reducible rfl | omega | exact Nat.le_of_ble_eq_true rfl | rfl)) | with_reducible refine And.intro (?_ : leBlk _ _ _ _) ?_ | fail) <;> (conv => whnf)))
          all_goals (try simp only [wQ])
          exact ⟨by simp, fun e he => ⟨cat_u8n (l := c :: l) rfl (fun _ _ => rfl) hdr (by simpa using he), rfl⟩⟩
      · exfalso; omega
      · (conv => whnf)
        refine ⟨((i + 1, c :: l ++ [digB m], m / 10) : FS), [2], ?_, ⟨⟨rfl, Nat.le_of_ble_eq_true rfl, rfl⟩, ?_, ?_⟩⟩
        · refine ⟨⟨show 0 ≤ m / 10 by omega, show m / 10 ≤ n by omega, ⟨by simp, by simp; omega⟩, ?_⟩, show (3 - (i + 1)) + 2 * (m / 10).toNat < (3 - i) + 2 * m.toNat by omega⟩
          rw [← h4]
          have := rest_ne (i := i) h1 (.inr (by omega)) (by omega)
          show restT (m / 10) (i + 1) ++ _ = restT m i ++ _
          rw [← this]; simp
        · (conv => whnf)
          (repeat' ((first | with_reducible exact True.intro | ((with_reducible refine And.intro ?_ ?_); focus (first | with_reducible rfl | omega | exact Nat.le_of_ble_eq_true rfl | rfl)) | with_reducible refine And.intro (?_ : leA _ _ _) ?_ | fail) <;> (conv => whnf)))
          all_goals (try simp only [wQ])
          all_goals (try first | omega)
          all_goals (try first | exact ⟨by simp, Or.inl trivial⟩)
        · (conv => whnf)
          (repeat' ((first | with_reducible exact True.intro | ((with_reducible refine And.intro ?_ ?_); focus (first | with_reducible rfl | omega | exact Nat.le_of_ble_eq_true rfl | rfl)) | with_reducible refine And.intro (?_ : leBlk _ _ _ _) ?_ | fail) <;> (conv => whnf)))
          all_goals (try simp only [wQ])
          exact ⟨by simp, fun e he => ⟨cat_u8n (l := c :: l) rfl (fun _ _ => rfl) hdr (by simpa using he), rfl⟩⟩
      · have hcl := hfin (by omega) (by omega)
        have hll : l.length + 1 = (centsT n).length := by have := congrArg List.length hcl; simpa using this
        refine ⟨?_, fun (k : Nat) (hk : k ≤ (centsT n).length) => ?_⟩
        · (conv => whnf)
          refine ⟨(0 : Nat), [], ?_, ⟨⟨rfl, Nat.le_of_ble_eq_true rfl, rfl⟩, ?_, ?_⟩⟩
          · exact Nat.zero_le _
          · (conv => whnf)
            (repeat' ((first | with_reducible exact True.intro | ((with_reducible refine Or.inr ?_); rfl) | ((with_reducible refine And.intro ?_ ?_); focus (first | with_reducible rfl | omega | exact Nat.le_of_ble_eq_true rfl | rfl)) | with_reducible refine And.intro (?_ : leA _ _ _) ?_ | fail) <;> (conv => whnf)))
            all_goals (try simp only [wQ])
            all_goals (try first | omega)
          · (conv => whnf)
            (repeat' ((first | with_reducible exact True.intro | ((with_reducible refine And.intro ?_ ?_); focus (first | with_reducible rfl | omega | exact Nat.le_of_ble_eq_true rfl | rfl)) | with_reducible refine And.intro (?_ : leA _ _ _) ?_ | with_reducible refine And.intro (?_ : leL _ _ _) ?_ | with_reducible refine And.intro (?_ : leBlk _ _ _ _) ?_ | fail) <;> (conv => whnf)))
            all_goals (try simp only [wQ])
            intro e he
            rw [hcl]; exact ⟨rfl, rfl⟩
        · have hr : ∀ k : Nat, k < (centsT n).length → [AV.int .u8 (((centsT n).reverse.getD (0 + (((centsT n).length : Int) - 1 - (k : Int)).toNat) 0).toNat : Int)] = [AV.int .u8 ((centsT n).getD k 0).toNat] := fun k hk => by rw [rev_getD hk]
          have hpos := centsT_pos n
          have h30 := centsT_len h0 (by omega)
          rcases k with _ | k
          · (conv => whnf)
            (repeat' ((first
              | (with_reducible refine inl_intro ?_)
              | ((with_reducible refine And.intro ?_ ?_); focus (first | omega | (simp only [inK_def, Go.Vc.lo, Go.Vc.hi]; omega) | (simp only [growOk, ty2, ty3, ty4, ty5, ty9, ty21, ty37, ty42, ty43, ty45, ty47, ty67, ty95, ty105, ty113, ty150, ty161, ty198, ty242, ty275]; first | omega | (refine ⟨?_, ?_⟩ <;> omega)) | decide))
              | (split <;> rename_i hh <;> (try simp only [wS] at hh) <;> (try simp (disch := omega) only [Int.tdiv_eq_ediv_of_nonneg, Int.tmod_eq_emod_of_nonneg] at hh))
              | with_reducible refine (fun (hln : (_ : Int) ≤ 9223372036854775807) => ?_)
              | fail) <;> (conv => whnf)))
            all_goals (try (show _ = _; simp only [wQ]))
            · (conv => whnf)
              refine ⟨(1 : Nat), [4], ?_, ⟨⟨rfl, Nat.le_of_ble_eq_true rfl, rfl⟩, ?_, ?_⟩⟩
              · exact ⟨show 1 ≤ (centsT n).length by omega, show (centsT n).length - 1 < (centsT n).length - 0 by omega⟩
              · (conv => whnf)
                (repeat' ((first | with_reducible exact True.intro | ((with_reducible refine Or.inr ?_); rfl) | ((with_reducible refine And.intro ?_ ?_); focus (first | with_reducible rfl | omega | exact Nat.le_of_ble_eq_true rfl | rfl)) | with_reducible refine And.intro (?_ : leA _ _ _) ?_ | fail) <;> (conv => whnf)))
                all_goals (try simp only [wQ])
                all_goals (try first | omega)
              · (conv => whnf)
                (repeat' ((first | with_reducible exact True.intro | ((with_reducible refine Or.inr ?_); rfl) | ((with_reducible refine And.intro ?_ ?_); focus (first | with_reducible rfl | omega | exact Nat.le_of_ble_eq_true rfl | rfl)) | with_reducible refine And.intro (?_ : leA _ _ _) ?_ | with_reducible refine And.intro (?_ : leL _ _ _) ?_ | with_reducible refine And.intro (?_ : leBlk _ _ _ _) ?_ | fail) <;> (conv => whnf)))
                all_goals (try simp only [wQ])
                all_goals (try first | exact fun _ _ => ⟨True.intro, rfl⟩)
                refine ⟨⟨rfl, Nat.le_refl _, fun e he => ?_⟩, trivial⟩
                have he : e < 1 := he
                obtain rfl : e = 0 := by omega
                exact ⟨hr 0 (by omega), rfl⟩
            · exfalso; omega
          · (conv => whnf)
            (repeat' ((first
              | (with_reducible refine inl_intro ?_)
              | ((with_reducible refine And.intro ?_ ?_); focus (first | ((with_reducible refine ⟨?_, ?_, ?_⟩) <;> first | (intro e he; rcases (by omega : e = 0 ∨ e = 1 ∨ e = 2 ∨ e = 3 ∨ e = 4 ∨ e = 5) with rfl | rfl | rfl | rfl | rfl | rfl <;> first | rfl | (exfalso; omega)) | (with_reducible assumption) | omega | ((with_reducible show growOk _ _); simp only [growOk, ty2, ty3, ty4, ty5, ty9, ty21, ty37, ty42, ty43, ty45, ty47, ty67, ty95, ty105, ty113, ty150, ty161, ty198, ty242, ty275, List.length_cons, List.length_nil]; first | omega | (refine ⟨?_, ?_⟩ <;> omega))) | with_reducible rfl | omega | (simp only [inK_def, Go.Vc.lo, Go.Vc.hi]; omega) | decide))
              | (split <;> rename_i hh <;> (try simp only [wS] at hh) <;> (try simp (disch := omega) only [Int.tdiv_eq_ediv_of_nonneg, Int.tmod_eq_emod_of_nonneg] at hh))
              | with_reducible refine (fun (hln : (_ : Int) ≤ 9223372036854775807) => ?_)
              | fail) <;> (conv => whnf)))
            all_goals (try (show _ = _; simp only [wQ]))
            · (conv => whnf)
              refine ⟨(k + 2 : Nat), [4], ?_, ⟨⟨rfl, Nat.le_of_ble_eq_true rfl, rfl⟩, ?_, ?_⟩⟩
              · exact ⟨show k + 2 ≤ (centsT n).length by omega, show (centsT n).length - (k + 2) < (centsT n).length - (k + 1) by omega⟩
              · (conv => whnf)
                (repeat' ((first | with_reducible exact True.intro | ((with_reducible refine Or.inr ?_); rfl) | ((with_reducible refine And.intro ?_ ?_); focus (first | with_reducible rfl | omega | exact Nat.le_of_ble_eq_true rfl | rfl)) | with_reducible refine And.intro (?_ : leA _ _ _) ?_ | fail) <;> (conv => whnf)))
                all_goals (try simp only [wQ])
                all_goals (try first | omega)
              · (conv => whnf)
                (repeat' ((first | with_reducible exact True.intro | ((with_reducible refine Or.inr ?_); rfl) | ((with_reducible refine And.intro ?_ ?_); focus (first | with_reducible rfl | omega | exact Nat.le_of_ble_eq_true rfl | rfl)) | with_reducible refine And.intro (?_ : leA _ _ _) ?_ | with_reducible refine And.intro (?_ : leL _ _ _) ?_ | with_reducible refine And.intro (?_ : leBlk _ _ _ _) ?_ | fail) <;> (conv => whnf)))
                all_goals (try simp only [wQ])
                all_goals (try first | exact fun _ _ => ⟨True.intro, rfl⟩)
                exact ⟨⟨trivial, Nat.le_refl _, fun e he => ⟨cat_tab (hr (k + 1) (by omega)) (by simpa using he), rfl⟩⟩, rfl⟩
            · refine ⟨⟨rfl, by omega, Nat.le_refl _, fun e he => rfl⟩, ?_⟩
              (conv => whnf)
              all_goals (try (show _ = _; simp only [wQ]))
              have hk1 : k + 1 = (centsT n).length := by omega
              rw [hk1]; exact bytesOf_tab _
def pcFareT1 : PC := PC.fun fun | [.int .i64 n] => some (n < 0 ∨ moneyB n = false, .str (sS (fareT n))) | _ => none
def D_fareT1 : PT := tabD [(207, pcMoney), (132, pcFareT0)]
def C_fareT1 : FuncId → Option Ctr := tabC D_fareT1 [(102, kBString)]
theorem g_fareT1 {W : World} (hW : Tabs W) : GoodP (Fw W) Tryz.prog 132 pcFareT1 := by
  have hD : PTOk (Fw W) Tryz.prog D_fareT1 := (tabD_cons Tryz.call207 (g_fare_May hW) (tabD_cons Tryz.call132 (g_fareT0 hW) tabD_nil))
  have hC0 : CtrOk (Fw W) Tryz.prog C_fareT1 := (tabC_cons Tryz.call102 goodBString (tabC_nil hD))
  refine goodP_fun (D := D_fareT1) (C := C_fareT1) (wr := (fun _ => false)) rfl tyOk hD hC0 Tryz.func132 (fun _ _ => none) ?_
  clear hC0 hD hW
  intro cs p r h hf hp
  split at h
  case h_2 => cases h
  rename_i n
  cases h
  try simp only [factL, factA, inK_def, Go.Vc.lo, Go.Vc.hi, and_true] at hf
  have hbd : moneyB n = true → -1000000000000 ≤ n ∧ n ≤ 1000000000000 := fun h => by have := h; unfold moneyB at this; simp at this; omega
  by_cases hm : moneyB n = true
  · have hn : n < 0 := by rcases hp with h | h; exact h; rw [hm] at h; cases h
    have hb := hbd hm
    have hex : ¬ 0 ≤ n := by omega
    have h1 := centsT_len (n := -n) (by omega) (by omega)
    have hm2 : 0 ≤ -n ∧ moneyB (-n) = true := ⟨by omega, by unfold moneyB; simp; omega⟩
    (conv => whnf)
    (repeat' ((first
      | (exact absurd (by with_reducible assumption) hex)
      | ((with_reducible refine And.intro ?_ ?_); focus (first | with_reducible exact True.intro | with_reducible assumption | (simp only [inK_def, Go.Vc.lo, Go.Vc.hi]; omega) | (simp only [List.length_append, bytesOf_length, List.toList_toArray, List.length_cons, List.length_nil, List.length_take, List.length_drop, sS_eq]; omega)))
      | (split <;> rename_i hh <;> (try simp only [wS] at hh) <;> (try simp (disch := omega) only [Int.tdiv_eq_ediv_of_nonneg, Int.tmod_eq_emod_of_nonneg] at hh))
      | fail) <;> (conv => whnf)))
    all_goals (try (show _ = _; simp only [wQ]))
    all_goals try (rename_i hh; exact absurd hm hh)
    all_goals try (rename_i hh; rw [hm] at hh; cases hh; done)
    all_goals (unfold fareT moneyT; rw [if_pos hm, if_pos hn]; rfl)
  · have hex : ¬ moneyB n = true := hm
    (conv => whnf)
    (repeat' ((first
      | (exact absurd (by with_reducible assumption) hex)
      | ((with_reducible refine And.intro ?_ ?_); focus (with_reducible exact True.intro))
      | (split <;> rename_i hh <;> (try simp only [wS] at hh) <;> (try simp (disch := omega) only [Int.tdiv_eq_ediv_of_nonneg, Int.tmod_eq_emod_of_nonneg] at hh))
      | fail) <;> (conv => whnf)))
    all_goals (try (show _ = _; simp only [wQ]))
    unfold fareT; rw [if_neg hm]
theorem PC.split {F : Nat → Obj → Prop} {P : Program} {i : FuncId} {f f1 f2 : List AV → Option (Prop × AV)} (h1 : GoodP F P i (PC.fun f1)) (h2 : GoodP F P i (PC.fun f2))
    (h : ∀ cs p r, f cs = some (p, r) → p → (∃ p1, f1 cs = some (p1, r) ∧ p1) ∨ (∃ p2, f2 cs = some (p2, r) ∧ p2)) : GoodP F P i (PC.fun f) := by
  intro S w cs vs Q hs hv hT
  simp only [PC.fun] at hT
  cases hf : f cs with
  | none => rw [hf] at hT; exact hT.elim
  | some pr =>
    obtain ⟨p, r⟩ := pr
    rw [hf] at hT
    rcases h cs p r hf hT.1 with ⟨p1, hc, hp⟩ | ⟨p1, hc, hp⟩
    · refine h1 S w cs vs Q hs hv ?_
      simp only [PC.fun]; rw [hc]; exact ⟨hp, hT.2⟩
    · refine h2 S w cs vs Q hs hv ?_
      simp only [PC.fun]; rw [hc]; exact ⟨hp, hT.2⟩
def pcFareT : PC := PC.fun fun | [.int .i64 n] => some (True, .str (sS (fareT n))) | _ => none
theorem g_fareT {W : World} (hW : Tabs W) : GoodP (Fw W) Tryz.prog 132 pcFareT := by
  refine PC.split (g_fareT0 hW) (g_fareT1 hW) fun cs p r h hp => ?_
  split at h
  · rename_i n
    cases h
    by_cases hc : 0 ≤ n ∧ moneyB n = true
    · refine .inl ⟨_, ?_, hc⟩
      have : fareT n = centsT n := by unfold fareT moneyT; rw [if_pos hc.2, if_neg (by omega)]
      rw [this]
    · exact .inr ⟨_, rfl, by
        by_cases h1 : n < 0
        · exact .inl h1
        · exact .inr (Bool.eq_false_iff.2 fun h2 => hc ⟨by omega, h2⟩)⟩
  · cases h
end
end Go.Vc.Z
