/- All lines. -/
import Derived.Test.YtpmpclbdnakniaaGreatDoorV10
set_option linter.all false
set_option linter.unusedVariables false
set_option linter.unusedSimpArgs false
namespace Go.Vc.Z
open Go Go.Vc Go.Proofs Go.RowKit Go.Pl Go.Lib
noncomputable section
set_option maxRecDepth 100000
set_option linter.unusedSimpArgs false
set_option linter.unusedVariables false
attribute [local irreducible] inK Utf8.decode Utf8.encode Lib.itoa Pl.worth Pl.allDig
attribute [local irreducible] Lib.join
def lineHd (t : Told) : List UInt8 := codeW t.code ++ [32] ++ codeW t.answer.code ++ [32] ++ Lib.itoa t.came
@[irreducible] def toldOk (t : Told) : Bool := decide (0 ≤ t.code) && decide (t.code ≤ 17) && mayAnsB t.answer && decide (0 ≤ t.came)
@[irreducible] def linesL (t : Told) : List (List UInt8) := if toldOk t = true then [lineHd t] ++ t.answer.tickets.map ticketW ++ t.answer.postings.map postText ++ t.answer.loans.map loanW else []
def pcLines : PC := PC.of (fun t : Told => [.agg t.enc]) (fun _ => True) (fun t => slS (sL (linesL t)))
def LLn (t : Told) (n id : Nat) (keep : List Nat) (vals : Nat → AV → List AV) (parts : Nat → List (List UInt8)) : LoopSpec := {
  α := Nat × List (List UInt8)
  keep := keep
  vals x := vals x.1 (.osl id 1 0 x.2.length none)
  heap x := .var t.enc :: List.replicate (id - 1) .dead ++ [.row 1 x.2.length (fun e => [.str (x.2.getD e [])])]
  ok x := x.1 ≤ n ∧ x.2 = parts x.1
  μ x := n - x.1 }
theorem map_step {α : Type} [Inhabited α] {f : α → List UInt8} {l : List α} {i : Nat} {B : List (List UInt8)} (h : i < l.length) : (B ++ (l.take i).map f) ++ [f (l.getD (Int.toNat (i : Int)) default)] = B ++ (l.take (i + 1)).map f := by
  rw [List.append_assoc, List.take_add_one, List.map_append, List.getElem?_eq_getElem h]
  have : l.getD (Int.toNat (i : Int)) default = l[i] := by
    rw [show Int.toNat (i : Int) = i from rfl, List.getD_eq_getElem?_getD, List.getElem?_eq_getElem h]; rfl
  rw [this]; rfl
theorem toldOk_facts {t : Told} (h : toldOk t = true) : (0 ≤ t.code ∧ t.code ≤ 17) ∧ mayAnsB t.answer = true ∧ 0 ≤ t.came := by
  unfold toldOk at h
  simp only [Bool.and_eq_true, decide_eq_true_eq] at h
  exact ⟨⟨h.1.1.1, h.1.1.2⟩, h.1.2, h.2⟩
theorem mayAns_facts {a : Answer} (h : mayAnsB a = true) : a.tickets.length ≤ 200 ∧ a.postings.length ≤ 5000 ∧ a.loans.length ≤ 200 ∧ (0 ≤ a.code ∧ a.code ≤ 17) ∧ a.tickets.all mayTicketB = true ∧ a.postings.all mayPostB = true ∧ a.loans.all loanB = true := by
  unfold mayAnsB longB at h
  simp only [Bool.and_eq_true, decide_eq_true_eq, Bool.not_eq_true', Bool.or_eq_false_iff, decide_eq_false_iff_not] at h
  obtain ⟨⟨⟨⟨⟨⟨⟨h1, h2⟩, h3⟩, h4⟩, h5⟩, h6⟩, h7⟩, h8⟩ := h
  exact ⟨by omega, by omega, by omega, ⟨h4, h5⟩, h6, h7, h8⟩
def D_script_Lines : PT := tabD [(16, pcCode), (45, pcMayAns), (46, pcItoaS), (18, pcTicketW), (47, pcPText), (21, pcLoanW)]
def C_script_Lines : FuncId → Option Ctr := tabC D_script_Lines []
def L_script_Lines : Told → Nat → Option LR := fun t i => cond (Nat.beq i 5) (some (.inv (LLn t t.answer.tickets.length 15 [1, 3, 42, 43, 44] (fun i o => [.ptr 0 0, o, slE 11 Ticket.enc t.answer.tickets, .int .i64 t.answer.tickets.length, .int .i64 i]) (fun i => [lineHd t] ++ (t.answer.tickets.take i).map ticketW)))) (cond (Nat.beq i 10) (some (.inv (LLn t t.answer.postings.length 16 [1, 3, 56, 57, 58] (fun i o => [.ptr 0 0, o, slE 10 Posting.enc t.answer.postings, .int .i64 t.answer.postings.length, .int .i64 i]) (fun i => [lineHd t] ++ t.answer.tickets.map ticketW ++ (t.answer.postings.take i).map postText)))) (cond (Nat.beq i 15) (some (.inv (LLn t t.answer.loans.length 17 [3, 70, 71, 72] (fun i o => [o, slE 9 Loan.enc t.answer.loans, .int .i64 t.answer.loans.length, .int .i64 i]) (fun i => [lineHd t] ++ t.answer.tickets.map ticketW ++ t.answer.postings.map postText ++ (t.answer.loans.take i).map loanW)))) (none)))
set_option maxHeartbeats 2000000 in
theorem g_script_Lines {W : World} (hW : Tabs W) : GoodP (Fw W) Tryz.prog 13 pcLines := by
  have hD : PTOk (Fw W) Tryz.prog D_script_Lines := (tabD_cons Tryz.call16 (g_script_Code hW) (tabD_cons Tryz.call45 (g_request_MayAnswer hW) (tabD_cons Tryz.call46 (g_script_digits hW) (tabD_cons Tryz.call18 (g_script_TicketLine hW) (tabD_cons Tryz.call47 (g_posting_Text hW) (tabD_cons Tryz.call21 (g_script_LoanLine hW) tabD_nil))))))
  have hC0 : ∀ t : Told, CtrOk (Fw W) Tryz.prog (C_script_Lines) := fun t => (tabC_nil hD)
  refine goodP_ofC (D := D_script_Lines) (C := fun t => C_script_Lines) (wr := (fun _ => false)) rfl tyOk hD hC0 Tryz.func13 (L_script_Lines) (fun _ => rfl) ?_
  intro t hf hp
  have hcame : -9223372036854775808 ≤ t.came ∧ t.came ≤ 9223372036854775807 := by
    simp only [factL, factA, and_true] at hf
    exact inK_def.1 hf.2.2.2.2.2.1
  clear hf
  have k1 := itoa_len t.came hcame.1 hcame.2
  have k2 := codeW_len t.code
  have k3 := codeW_len t.answer.code
  have hn1 : codeW t.code ≠ [] ↔ 0 ≤ t.code ∧ t.code ≤ 17 := ⟨fun h => Decidable.of_not_not fun hn => h (codeW_nil hn), fun h => (codeW_ne h).1⟩
  have hbad : toldOk t = false → (sL (linesL t)).length = 0 := fun h => by rw [sL_eq]; unfold linesL; rw [if_neg (by rw [h]; exact Bool.false_ne_true)]; rfl
  have hok : toldOk t = (decide (0 ≤ t.code) && decide (t.code ≤ 17) && mayAnsB t.answer && decide (0 ≤ t.came)) := by unfold toldOk; rfl
  by_cases hmay : mayAnsB t.answer = true
  · obtain ⟨f1, f2, f3, f4, f5, f6, f7⟩ := mayAns_facts hmay
    have hex : ¬ mayAnsB t.answer = false := by rw [hmay]; simp
    (conv => whnf)
    (repeat' ((first
      | ((with_reducible refine And.intro ?_ ?_); focus (with_reducible exact True.intro))
      | (split <;> rename_i hh <;> (try simp only [ble_true, ble_false, beq_true, beq_false, sI_eq, sB_eq, sS_eq, sN_eq, ltI_eq, leI_eq, eqI_eq, decide_eq_true_eq, decide_eq_false_iff_not, beq_iff_eq, bne_iff_ne, ne_eq, beq_eq_false_iff_ne, bne_eq_false_iff_eq, Bool.not_eq_true, Bool.not_eq_false, Int.not_lt, Int.not_le, gt_iff_lt, ge_iff_le, Nat.not_lt, Nat.not_le, Decidable.not_not, Bool.not_eq_eq_eq_not, Bool.not_true, Bool.not_false, cond_true, cond_false, Bool.or_eq_true, Bool.and_eq_true, Bool.or_eq_false_iff, Bool.and_eq_false_iff] at hh) <;> (try simp (disch := omega) only [Int.tdiv_eq_ediv_of_nonneg, Int.tmod_eq_emod_of_nonneg] at hh))
      | fail) <;> (conv => whnf)))
    all_goals (try (show _ = _; simp only [sI_eq, sB_eq, sS_eq, sN_eq]))
    · refine hbad ?_
      rw [hok]; refine Bool.eq_false_iff.2 fun h => ?_
      simp only [Bool.and_eq_true, decide_eq_true_eq] at h
      exact hn1.2 ⟨h.1.1.1, h.1.1.2⟩ (by assumption)
    refine ⟨t.answer, True.intro, ?_, ?_⟩
    · (conv => whnf)
      (repeat' ((first | with_reducible exact True.intro | ((with_reducible refine And.intro ?_ ?_); focus (first | with_reducible rfl | omega | exact Nat.le_of_ble_eq_true rfl | rfl)) | with_reducible refine And.intro (?_ : leA _ _ _) ?_ | fail) <;> (conv => whnf)))
      all_goals (try simp only [sI_eq, sB_eq, sS_eq, sN_eq])
      all_goals (try first | exact ⟨fun h => h, fun _ _ => True.intro⟩)
    (conv => whnf)
    (repeat' ((first
      | (exact absurd (by with_reducible assumption) hex)
      | ((with_reducible refine And.intro ?_ ?_); focus (first | with_reducible exact True.intro | ((with_reducible show okB _ _ _ = true); rfl) | (simp only [List.length_append, bytesOf_length, List.toList_toArray, List.length_cons, List.length_nil, List.length_take, List.length_drop, sS_eq]; omega)))
      | (split <;> rename_i hh <;> (try simp only [ble_true, ble_false, beq_true, beq_false, sI_eq, sB_eq, sS_eq, sN_eq, ltI_eq, leI_eq, eqI_eq, decide_eq_true_eq, decide_eq_false_iff_not, beq_iff_eq, bne_iff_ne, ne_eq, beq_eq_false_iff_ne, bne_eq_false_iff_eq, Bool.not_eq_true, Bool.not_eq_false, Int.not_lt, Int.not_le, gt_iff_lt, ge_iff_le, Nat.not_lt, Nat.not_le, Decidable.not_not, Bool.not_eq_eq_eq_not, Bool.not_true, Bool.not_false, cond_true, cond_false, Bool.or_eq_true, Bool.and_eq_true, Bool.or_eq_false_iff, Bool.and_eq_false_iff] at hh) <;> (try simp (disch := omega) only [Int.tdiv_eq_ediv_of_nonneg, Int.tmod_eq_emod_of_nonneg] at hh))
      | with_reducible refine (fun (hln : (_ : Int) ≤ 9223372036854775807) => ?_)
      | fail) <;> (conv => whnf)))
    all_goals (try (show _ = _; simp only [sI_eq, sB_eq, sS_eq, sN_eq]))
    · refine hbad ?_
      rw [hok]; refine Bool.eq_false_iff.2 fun h => ?_
      simp only [Bool.and_eq_true, decide_eq_true_eq] at h
      omega
    have hlin : linesL t = [lineHd t] ++ t.answer.tickets.map ticketW ++ t.answer.postings.map postText ++ t.answer.loans.map loanW := by
      unfold linesL; rw [if_pos]
      have := hn1.1 (by assumption)
      rw [hok, hmay]; simp; omega
    refine ⟨?_, fun (x : Nat × List (List UInt8)) hx => ?_⟩
    · (conv => whnf)
      refine ⟨((0, [lineHd t]) : Nat × List (List UInt8)), [14], ?_, ⟨⟨rfl, Nat.le_of_ble_eq_true rfl, rfl⟩, ?_, ?_⟩⟩
      · exact ⟨Nat.zero_le _, by simp⟩
      · (conv => whnf)
        (repeat' ((first | with_reducible exact True.intro | ((with_reducible refine And.intro ?_ ?_); focus (first | with_reducible rfl | omega | exact Nat.le_of_ble_eq_true rfl | rfl)) | with_reducible refine And.intro (?_ : leA _ _ _) ?_ | fail) <;> (conv => whnf)))
        all_goals (try simp only [sI_eq, sB_eq, sS_eq, sN_eq])
        all_goals (try first | omega | exact Or.inl True.intro | exact ⟨fun h => h, fun _ _ => True.intro⟩)
      · (conv => whnf)
        (repeat' ((first | with_reducible exact True.intro | ((with_reducible refine And.intro ?_ ?_); focus (first | with_reducible rfl | omega | exact Nat.le_of_ble_eq_true rfl | rfl)) | with_reducible refine And.intro (?_ : leA _ _ _) ?_ | with_reducible refine And.intro (?_ : leL _ _ _) ?_ | with_reducible refine And.intro (?_ : leBlk _ _ _ _) ?_ | fail) <;> (conv => whnf)))
        all_goals (try simp only [sI_eq, sB_eq, sS_eq, sN_eq])
        all_goals (try first | rfl | exact ⟨fun h => h, fun _ _ => True.intro⟩)
        intro e he; obtain rfl : e = 0 := (by change e < 1 at he; omega); exact ⟨by unfold lineHd; rfl, rfl⟩
    · obtain ⟨i, L⟩ := x
      obtain ⟨h1, h2⟩ := hx
      change i ≤ t.answer.tickets.length at h1
      change L = [lineHd t] ++ (t.answer.tickets.take i).map ticketW at h2
      have hL : L.length ≤ 6000 := by rw [h2]; simp; omega
      (conv => whnf)
      (repeat' ((first
        | ((with_reducible refine And.intro ?_ ?_); focus (omega))
        | (split <;> rename_i hh <;> (try simp only [ble_true, ble_false, beq_true, beq_false, sI_eq, sB_eq, sS_eq, sN_eq, ltI_eq, leI_eq, eqI_eq, decide_eq_true_eq, decide_eq_false_iff_not, beq_iff_eq, bne_iff_ne, ne_eq, beq_eq_false_iff_ne, bne_eq_false_iff_eq, Bool.not_eq_true, Bool.not_eq_false, Int.not_lt, Int.not_le, gt_iff_lt, ge_iff_le, Nat.not_lt, Nat.not_le, Decidable.not_not, Bool.not_eq_eq_eq_not, Bool.not_true, Bool.not_false, cond_true, cond_false, Bool.or_eq_true, Bool.and_eq_true, Bool.or_eq_false_iff, Bool.and_eq_false_iff] at hh) <;> (try simp (disch := omega) only [Int.tdiv_eq_ediv_of_nonneg, Int.tmod_eq_emod_of_nonneg] at hh))
        | with_reducible refine (fun (hln : (_ : Int) ≤ 9223372036854775807) => ?_)
        | fail) <;> (conv => whnf)))
      all_goals (try (show _ = _; simp only [sI_eq, sB_eq, sS_eq, sN_eq]))
      · refine ⟨(t.answer.tickets.getD (Int.toNat (i : Int)) default), True.intro, ?_, ?_⟩
        · (conv => whnf)
          (repeat' ((first | with_reducible exact True.intro | ((with_reducible refine And.intro ?_ ?_); focus (first | with_reducible rfl | omega | exact Nat.le_of_ble_eq_true rfl | rfl)) | with_reducible refine And.intro (?_ : leA _ _ _) ?_ | fail) <;> (conv => whnf)))
          all_goals (try simp only [sI_eq, sB_eq, sS_eq, sN_eq])
          all_goals (try first | exact ⟨fun h => h, fun _ _ => True.intro⟩)
        (conv => whnf)
        (repeat' ((first
          | ((with_reducible refine And.intro ?_ ?_); focus (first | ((with_reducible refine ⟨?_, ?_, ?_⟩) <;> first | (intro e he; rcases (by omega : e = 0 ∨ e = 1 ∨ e = 2 ∨ e = 3 ∨ e = 4 ∨ e = 5) with rfl | rfl | rfl | rfl | rfl | rfl <;> first | rfl | (exfalso; omega)) | (with_reducible assumption) | omega | ((with_reducible show growOk _ _); simp only [growOk, ty2, ty3, ty4, ty5, ty9, ty21, ty37, ty42, ty43, ty45, ty47, ty67, ty95, ty105, ty113, ty150, ty161, ty198, ty242, ty275, List.length_cons, List.length_nil]; first | omega | (refine ⟨?_, ?_⟩ <;> omega))) | omega | (simp only [inK_def, Go.Vc.lo, Go.Vc.hi]; omega)))
          | fail) <;> (conv => whnf)))
        all_goals (try (show _ = _; simp only [sI_eq, sB_eq, sS_eq, sN_eq]))
        (conv => whnf)
        refine ⟨((i + 1, L ++ [ticketW (t.answer.tickets.getD (Int.toNat (i : Int)) default)]) : Nat × List (List UInt8)), [18], ?_, ⟨⟨rfl, Nat.le_of_ble_eq_true rfl, rfl⟩, ?_, ?_⟩⟩
        · exact ⟨⟨show i + 1 ≤ t.answer.tickets.length by omega, show L ++ _ = _ by rw [h2]; exact map_step (by omega)⟩, show t.answer.tickets.length - (i + 1) < t.answer.tickets.length - i by omega⟩
        · (conv => whnf)
          (repeat' ((first | with_reducible exact True.intro | ((with_reducible refine And.intro ?_ ?_); focus (first | with_reducible rfl | omega | exact Nat.le_of_ble_eq_true rfl | rfl)) | with_reducible refine And.intro (?_ : leA _ _ _) ?_ | fail) <;> (conv => whnf)))
          all_goals (try simp only [sI_eq, sB_eq, sS_eq, sN_eq])
          all_goals (try first | omega | exact ⟨fun h => h, fun _ _ => True.intro⟩)
          all_goals (try first | exact ⟨by simp, Or.inl trivial⟩)
        · (conv => whnf)
          (repeat' ((first | with_reducible exact True.intro | ((with_reducible refine And.intro ?_ ?_); focus (first | with_reducible rfl | omega | exact Nat.le_of_ble_eq_true rfl | rfl)) | with_reducible refine And.intro (?_ : leA _ _ _) ?_ | with_reducible refine And.intro (?_ : leL _ _ _) ?_ | with_reducible refine And.intro (?_ : leBlk _ _ _ _) ?_ | fail) <;> (conv => whnf)))
          all_goals (try simp only [sI_eq, sB_eq, sS_eq, sN_eq])
          all_goals (try first | rfl | exact ⟨fun h => h, fun _ _ => True.intro⟩)
          all_goals (try first | exact ⟨by simp, fun e he => ⟨cat_str rfl he, rfl⟩⟩)
      · have hi : i = t.answer.tickets.length := by omega
        rw [hi, List.take_length] at h2
        clear h1 hL
        refine ⟨?_, fun (x : Nat × List (List UInt8)) hx => ?_⟩
        · (conv => whnf)
          refine ⟨((0, L) : Nat × List (List UInt8)), [15], ?_, ⟨⟨rfl, Nat.le_of_ble_eq_true rfl, rfl⟩, ?_, ?_⟩⟩
          · exact ⟨Nat.zero_le _, by rw [h2]; simp⟩
          · (conv => whnf)
            (repeat' ((first | with_reducible exact True.intro | ((with_reducible refine Or.inr ?_); rfl) | ((with_reducible refine And.intro ?_ ?_); focus (first | with_reducible rfl | omega | exact Nat.le_of_ble_eq_true rfl | rfl)) | with_reducible refine And.intro (?_ : leA _ _ _) ?_ | fail) <;> (conv => whnf)))
            all_goals (try simp only [sI_eq, sB_eq, sS_eq, sN_eq])
            all_goals (try first | omega | exact ⟨fun h => h, fun _ _ => True.intro⟩)
          · (conv => whnf)
            (repeat' ((first | with_reducible exact True.intro | ((with_reducible refine And.intro ?_ ?_); focus (first | with_reducible rfl | omega | exact Nat.le_of_ble_eq_true rfl | rfl)) | with_reducible refine And.intro (?_ : leA _ _ _) ?_ | with_reducible refine And.intro (?_ : leL _ _ _) ?_ | with_reducible refine And.intro (?_ : leBlk _ _ _ _) ?_ | fail) <;> (conv => whnf)))
            all_goals (try simp only [sI_eq, sB_eq, sS_eq, sN_eq])
            all_goals (try first | rfl | exact ⟨fun h => h, fun _ _ => True.intro⟩)
            all_goals (try first | exact ⟨Nat.le_refl _, fun _ _ => ⟨True.intro, rfl⟩⟩)
            all_goals skip
        · obtain ⟨i, L⟩ := x
          obtain ⟨h1, h2⟩ := hx
          change i ≤ t.answer.postings.length at h1
          change L = [lineHd t] ++ t.answer.tickets.map ticketW ++ (t.answer.postings.take i).map postText at h2
          have hL : L.length ≤ 6000 := by rw [h2]; simp; omega
          (conv => whnf)
          (repeat' ((first
            | ((with_reducible refine And.intro ?_ ?_); focus (first | with_reducible exact True.intro | ((with_reducible refine ⟨?_, ?_, ?_⟩) <;> first | (intro e he; rcases (by omega : e = 0 ∨ e = 1 ∨ e = 2 ∨ e = 3 ∨ e = 4 ∨ e = 5) with rfl | rfl | rfl | rfl | rfl | rfl <;> first | rfl | (exfalso; omega)) | (with_reducible assumption) | omega | ((with_reducible show growOk _ _); simp only [growOk, ty2, ty3, ty4, ty5, ty9, ty21, ty37, ty42, ty43, ty45, ty47, ty67, ty95, ty105, ty113, ty150, ty161, ty198, ty242, ty275, List.length_cons, List.length_nil]; first | omega | (refine ⟨?_, ?_⟩ <;> omega))) | omega | (simp only [inK_def, Go.Vc.lo, Go.Vc.hi]; omega)))
            | (split <;> rename_i hh <;> (try simp only [ble_true, ble_false, beq_true, beq_false, sI_eq, sB_eq, sS_eq, sN_eq, ltI_eq, leI_eq, eqI_eq, decide_eq_true_eq, decide_eq_false_iff_not, beq_iff_eq, bne_iff_ne, ne_eq, beq_eq_false_iff_ne, bne_eq_false_iff_eq, Bool.not_eq_true, Bool.not_eq_false, Int.not_lt, Int.not_le, gt_iff_lt, ge_iff_le, Nat.not_lt, Nat.not_le, Decidable.not_not, Bool.not_eq_eq_eq_not, Bool.not_true, Bool.not_false, cond_true, cond_false, Bool.or_eq_true, Bool.and_eq_true, Bool.or_eq_false_iff, Bool.and_eq_false_iff] at hh) <;> (try simp (disch := omega) only [Int.tdiv_eq_ediv_of_nonneg, Int.tmod_eq_emod_of_nonneg] at hh))
            | with_reducible refine (fun (hln : (_ : Int) ≤ 9223372036854775807) => ?_)
            | fail) <;> (conv => whnf)))
          all_goals (try (show _ = _; simp only [sI_eq, sB_eq, sS_eq, sN_eq]))
          · (conv => whnf)
            refine ⟨((i + 1, L ++ [postText (t.answer.postings.getD (Int.toNat (i : Int)) default)]) : Nat × List (List UInt8)), [19], ?_, ⟨⟨rfl, Nat.le_of_ble_eq_true rfl, rfl⟩, ?_, ?_⟩⟩
            · exact ⟨⟨show i + 1 ≤ t.answer.postings.length by omega, show L ++ _ = _ by rw [h2]; exact map_step (by omega)⟩, show t.answer.postings.length - (i + 1) < t.answer.postings.length - i by omega⟩
            · (conv => whnf)
              (repeat' ((first | with_reducible exact True.intro | ((with_reducible refine And.intro ?_ ?_); focus (first | with_reducible rfl | omega | exact Nat.le_of_ble_eq_true rfl | rfl)) | with_reducible refine And.intro (?_ : leA _ _ _) ?_ | fail) <;> (conv => whnf)))
              all_goals (try simp only [sI_eq, sB_eq, sS_eq, sN_eq])
              all_goals (try first | omega | exact ⟨fun h => h, fun _ _ => True.intro⟩)
              all_goals (try first | exact ⟨by simp, Or.inl trivial⟩)
            · (conv => whnf)
              (repeat' ((first | with_reducible exact True.intro | ((with_reducible refine And.intro ?_ ?_); focus (first | with_reducible rfl | omega | exact Nat.le_of_ble_eq_true rfl | rfl)) | with_reducible refine And.intro (?_ : leA _ _ _) ?_ | with_reducible refine And.intro (?_ : leL _ _ _) ?_ | with_reducible refine And.intro (?_ : leBlk _ _ _ _) ?_ | fail) <;> (conv => whnf)))
              all_goals (try simp only [sI_eq, sB_eq, sS_eq, sN_eq])
              all_goals (try first | rfl | exact ⟨fun h => h, fun _ _ => True.intro⟩)
              all_goals (try first | exact ⟨by simp, fun e he => ⟨cat_str rfl he, rfl⟩⟩)
          · have hi : i = t.answer.postings.length := by omega
            rw [hi, List.take_length] at h2
            clear h1 hL
            have h2b := h2
            refine ⟨?_, fun (x : Nat × List (List UInt8)) hx => ?_⟩
            · (conv => whnf)
              refine ⟨((0, L) : Nat × List (List UInt8)), [16], ?_, ⟨⟨rfl, Nat.le_of_ble_eq_true rfl, rfl⟩, ?_, ?_⟩⟩
              · exact ⟨Nat.zero_le _, by rw [h2]; simp⟩
              · (conv => whnf)
                (repeat' ((first | with_reducible exact True.intro | ((with_reducible refine Or.inr ?_); rfl) | ((with_reducible refine And.intro ?_ ?_); focus (first | with_reducible rfl | omega | exact Nat.le_of_ble_eq_true rfl | rfl)) | with_reducible refine And.intro (?_ : leA _ _ _) ?_ | fail) <;> (conv => whnf)))
                all_goals (try simp only [sI_eq, sB_eq, sS_eq, sN_eq])
                all_goals (try first | omega | exact ⟨fun h => h, fun _ _ => True.intro⟩)
              · (conv => whnf)
                (repeat' ((first | with_reducible exact True.intro | ((with_reducible refine And.intro ?_ ?_); focus (first | with_reducible rfl | omega | exact Nat.le_of_ble_eq_true rfl | rfl)) | with_reducible refine And.intro (?_ : leA _ _ _) ?_ | with_reducible refine And.intro (?_ : leL _ _ _) ?_ | with_reducible refine And.intro (?_ : leBlk _ _ _ _) ?_ | fail) <;> (conv => whnf)))
                all_goals (try simp only [sI_eq, sB_eq, sS_eq, sN_eq])
                all_goals (try first | rfl | exact ⟨fun h => h, fun _ _ => True.intro⟩)
                all_goals (try first | exact ⟨Nat.le_refl _, fun _ _ => ⟨True.intro, rfl⟩⟩)
                all_goals skip
            · obtain ⟨i, L⟩ := x
              obtain ⟨h1, h2⟩ := hx
              change i ≤ t.answer.loans.length at h1
              change L = [lineHd t] ++ t.answer.tickets.map ticketW ++ t.answer.postings.map postText ++ (t.answer.loans.take i).map loanW at h2
              have hL : L.length ≤ 6000 := by rw [h2]; simp; omega
              (conv => whnf)
              (repeat' ((first
                | ((with_reducible refine And.intro ?_ ?_); focus (omega))
                | (split <;> rename_i hh <;> (try simp only [ble_true, ble_false, beq_true, beq_false, sI_eq, sB_eq, sS_eq, sN_eq, ltI_eq, leI_eq, eqI_eq, decide_eq_true_eq, decide_eq_false_iff_not, beq_iff_eq, bne_iff_ne, ne_eq, beq_eq_false_iff_ne, bne_eq_false_iff_eq, Bool.not_eq_true, Bool.not_eq_false, Int.not_lt, Int.not_le, gt_iff_lt, ge_iff_le, Nat.not_lt, Nat.not_le, Decidable.not_not, Bool.not_eq_eq_eq_not, Bool.not_true, Bool.not_false, cond_true, cond_false, Bool.or_eq_true, Bool.and_eq_true, Bool.or_eq_false_iff, Bool.and_eq_false_iff] at hh) <;> (try simp (disch := omega) only [Int.tdiv_eq_ediv_of_nonneg, Int.tmod_eq_emod_of_nonneg] at hh))
                | fail) <;> (conv => whnf)))
              all_goals (try (show _ = _; simp only [sI_eq, sB_eq, sS_eq, sN_eq]))
              · refine ⟨(t.answer.loans.getD (Int.toNat (i : Int)) default), True.intro, ?_, ?_⟩
                · (conv => whnf)
                  (repeat' ((first | with_reducible exact True.intro | ((with_reducible refine And.intro ?_ ?_); focus (first | with_reducible rfl | omega | exact Nat.le_of_ble_eq_true rfl | rfl)) | with_reducible refine And.intro (?_ : leA _ _ _) ?_ | fail) <;> (conv => whnf)))
                  all_goals (try simp only [sI_eq, sB_eq, sS_eq, sN_eq])
                (conv => whnf)
                (repeat' ((first
                  | ((with_reducible refine And.intro ?_ ?_); focus (first | ((with_reducible refine ⟨?_, ?_, ?_⟩) <;> first | (intro e he; rcases (by omega : e = 0 ∨ e = 1 ∨ e = 2 ∨ e = 3 ∨ e = 4 ∨ e = 5) with rfl | rfl | rfl | rfl | rfl | rfl <;> first | rfl | (exfalso; omega)) | (with_reducible assumption) | omega | ((with_reducible show growOk _ _); simp only [growOk, ty2, ty3, ty4, ty5, ty9, ty21, ty37, ty42, ty43, ty45, ty47, ty67, ty95, ty105, ty113, ty150, ty161, ty198, ty242, ty275, List.length_cons, List.length_nil]; first | omega | (refine ⟨?_, ?_⟩ <;> omega))) | omega | (simp only [inK_def, Go.Vc.lo, Go.Vc.hi]; omega)))
                  | fail) <;> (conv => whnf)))
                all_goals (try (show _ = _; simp only [sI_eq, sB_eq, sS_eq, sN_eq]))
                (conv => whnf)
                refine ⟨((i + 1, L ++ [loanW (t.answer.loans.getD (Int.toNat (i : Int)) default)]) : Nat × List (List UInt8)), [20], ?_, ⟨⟨rfl, Nat.le_of_ble_eq_true rfl, rfl⟩, ?_, ?_⟩⟩
                · exact ⟨⟨show i + 1 ≤ t.answer.loans.length by omega, show L ++ _ = _ by rw [h2]; exact map_step (by omega)⟩, show t.answer.loans.length - (i + 1) < t.answer.loans.length - i by omega⟩
                · (conv => whnf)
                  (repeat' ((first | with_reducible exact True.intro | ((with_reducible refine And.intro ?_ ?_); focus (first | with_reducible rfl | omega | exact Nat.le_of_ble_eq_true rfl | rfl)) | with_reducible refine And.intro (?_ : leA _ _ _) ?_ | fail) <;> (conv => whnf)))
                  all_goals (try simp only [sI_eq, sB_eq, sS_eq, sN_eq])
                  all_goals (try first | omega | exact ⟨fun h => h, fun _ _ => True.intro⟩)
                  all_goals (try first | exact ⟨by simp, Or.inl trivial⟩)
                · (conv => whnf)
                  (repeat' ((first | with_reducible exact True.intro | ((with_reducible refine And.intro ?_ ?_); focus (first | with_reducible rfl | omega | exact Nat.le_of_ble_eq_true rfl | rfl)) | with_reducible refine And.intro (?_ : leA _ _ _) ?_ | with_reducible refine And.intro (?_ : leL _ _ _) ?_ | with_reducible refine And.intro (?_ : leBlk _ _ _ _) ?_ | fail) <;> (conv => whnf)))
                  all_goals (try simp only [sI_eq, sB_eq, sS_eq, sN_eq])
                  all_goals (try first | rfl | exact ⟨fun h => h, fun _ _ => True.intro⟩)
                  all_goals (try first | exact ⟨by simp, fun e he => ⟨cat_str rfl he, rfl⟩⟩)
              · have hi : i = t.answer.loans.length := by omega
                rw [hi, List.take_length] at h2
                refine ⟨⟨by omega, fun e he => rfl⟩, ?_⟩
                (conv => whnf)
                (repeat' ((first
                  | ((with_reducible refine And.intro ?_ ?_); focus (with_reducible rfl))
                  | fail) <;> (conv => whnf)))
                all_goals (try (show _ = _; simp only [sI_eq, sB_eq, sS_eq, sN_eq]))
                refine ⟨?_, fun h => h, fun e he => ?_⟩
                · rw [sL_eq, hlin, ← h2]
                · show [AV.str (L.getD (0 + e) [])] = _; rw [sL_eq, hlin, ← h2, Nat.zero_add]
  · have hex : ¬ mayAnsB t.answer = true := hmay
    have hb : toldOk t = false := by rw [hok, Bool.eq_false_iff.2 hmay]; simp
    (conv => whnf)
    (repeat' ((first
      | ((with_reducible refine And.intro ?_ ?_); focus (with_reducible exact True.intro))
      | (split <;> rename_i hh <;> (try simp only [ble_true, ble_false, beq_true, beq_false, sI_eq, sB_eq, sS_eq, sN_eq, ltI_eq, leI_eq, eqI_eq, decide_eq_true_eq, decide_eq_false_iff_not, beq_iff_eq, bne_iff_ne, ne_eq, beq_eq_false_iff_ne, bne_eq_false_iff_eq, Bool.not_eq_true, Bool.not_eq_false, Int.not_lt, Int.not_le, gt_iff_lt, ge_iff_le, Nat.not_lt, Nat.not_le, Decidable.not_not, Bool.not_eq_eq_eq_not, Bool.not_true, Bool.not_false, cond_true, cond_false, Bool.or_eq_true, Bool.and_eq_true, Bool.or_eq_false_iff, Bool.and_eq_false_iff] at hh) <;> (try simp (disch := omega) only [Int.tdiv_eq_ediv_of_nonneg, Int.tmod_eq_emod_of_nonneg] at hh))
      | fail) <;> (conv => whnf)))
    all_goals (try (show _ = _; simp only [sI_eq, sB_eq, sS_eq, sN_eq]))
    · exact hbad hb
    refine ⟨t.answer, True.intro, ?_, ?_⟩
    · (conv => whnf)
      (repeat' ((first | with_reducible exact True.intro | ((with_reducible refine And.intro ?_ ?_); focus (first | with_reducible rfl | omega | exact Nat.le_of_ble_eq_true rfl | rfl)) | with_reducible refine And.intro (?_ : leA _ _ _) ?_ | fail) <;> (conv => whnf)))
      all_goals (try simp only [sI_eq, sB_eq, sS_eq, sN_eq])
      all_goals (try first | exact ⟨fun h => h, fun _ _ => True.intro⟩)
    (conv => whnf)
    (repeat' ((first
      | (exact absurd (by with_reducible assumption) hex)
      | (split <;> rename_i hh <;> (try simp only [ble_true, ble_false, beq_true, beq_false, sI_eq, sB_eq, sS_eq, sN_eq, ltI_eq, leI_eq, eqI_eq, decide_eq_true_eq, decide_eq_false_iff_not, beq_iff_eq, bne_iff_ne, ne_eq, beq_eq_false_iff_ne, bne_eq_false_iff_eq, Bool.not_eq_true, Bool.not_eq_false, Int.not_lt, Int.not_le, gt_iff_lt, ge_iff_le, Nat.not_lt, Nat.not_le, Decidable.not_not, Bool.not_eq_eq_eq_not, Bool.not_true, Bool.not_false, cond_true, cond_false, Bool.or_eq_true, Bool.and_eq_true, Bool.or_eq_false_iff, Bool.and_eq_false_iff] at hh) <;> (try simp (disch := omega) only [Int.tdiv_eq_ediv_of_nonneg, Int.tmod_eq_emod_of_nonneg] at hh))
      | fail) <;> (conv => whnf)))
    all_goals (try (show _ = _; simp only [sI_eq, sB_eq, sS_eq, sN_eq]))
    exact hbad hb
end
end Go.Vc.Z

/- Words of lists: the document's. -/
namespace Go.Vc.Z
open Go Go.Vc Go.Proofs Go.RowKit Go.Pl Go.Lib
noncomputable section
set_option maxRecDepth 100000
set_option linter.unusedSimpArgs false
set_option linter.unusedVariables false
attribute [local irreducible] inK Utf8.decode Utf8.encode Lib.itoa Pl.worth Pl.allDig
attribute [local irreducible] Lib.join
theorem join_take {α : Type} [Inhabited α] {f : α → List UInt8} {l : List α} {i : Nat} (h : i < l.length) (sep : List UInt8) : Lib.join ((l.take (i + 1)).map f) sep = (if i = 0 then [] else Lib.join ((l.take i).map f) sep ++ sep) ++ f (l.getD (Int.toNat (i : Int)) default) := by
  have := map_step (f := f) (l := l) (i := i) (B := []) h
  simp only [List.nil_append] at this
  rw [← this]
  split
  · rename_i h0
    subst h0
    simp [Lib.join_one]
  · rw [join_snoc (by rw [ne_eq, List.map_eq_nil_iff, List.take_eq_nil_iff]; intro hc; rcases hc with hc | hc; · omega
                      · rw [hc] at h; simp at h), List.append_assoc]
theorem moneyT_fareT {n : Int} (h : moneyB n = true) : moneyT n = fareT n := by unfold fareT; rw [if_pos h]
theorem moneyB_of {n : Int} (h : someB n = true) : moneyB n = true ∧ -9223372036854775807 ≤ n := by
  unfold someB at h; simp at h
  exact ⟨by unfold moneyB; simp; omega, by omega⟩
theorem moneyB_lo {n : Int} (h : moneyB n = true) : -9223372036854775807 ≤ n := by
  unfold moneyB at h; simp at h; omega
def pcFlightR : PC := PC.fun fun | [.agg [.int .i64 cf, .int .i64 cd, .int .i64 cv, .int .i64 cs, .int .i64 ch, .int .u64 cx]] => some (moneyB cv = true, .str (sS (flightW (Coupon.mk cf cd cv cs ch cx)))) | _ => none
def pcCouponR : PC := PC.fun fun | [.agg [.int .i64 cf, .int .i64 cd, .int .i64 cv, .int .i64 cs, .int .i64 ch, .int .u64 cx]] => some (moneyB cv = true ∧ (cx = 0 ∨ checkN cx = 0), .str (sS (couponW (Coupon.mk cf cd cv cs ch cx)))) | _ => none
def D_couponref26_flight : PT := tabD [(49, pcNum), (83, pcMoneyT)]
def C_couponref26_flight : FuncId → Option Ctr := tabC D_couponref26_flight []
theorem g_couponref26_flight {W : World} (hW : Tabs W) : GoodP (Fw W) Tryz.prog 171 pcFlightR := by
  have hD : PTOk (Fw W) Tryz.prog D_couponref26_flight := (tabD_cons Tryz.call49 (g_couponref26_num hW) (tabD_cons Tryz.call83 (g_couponref11_Text hW) tabD_nil))
  have hC0 : CtrOk (Fw W) Tryz.prog C_couponref26_flight := (tabC_nil hD)
  refine goodP_fun (D := D_couponref26_flight) (C := C_couponref26_flight) (wr := (fun _ => false)) rfl tyOk hD hC0 Tryz.func171 (fun _ _ => none) ?_
  clear hC0 hD hW
  intro cs p r h hf hp
  split at h
  case h_2 => cases h
  rename_i cf cd cv cs ch cx
  cases h
  try simp only [factL, factA, inK_def, Go.Vc.lo, Go.Vc.hi, and_true] at hf
  have l1 := itoa_len cf (by omega) (by omega)
  have l2 := itoa_len cd (by omega) (by omega)
  have hlo := moneyB_lo hp
  have l3 : (moneyT cv).length ≤ 31 := by rw [moneyT_fareT hp]; exact fareT_len cv
  clear hf
  (conv => whnf)
  (repeat' ((first
    | ((with_reducible refine And.intro ?_ ?_); focus (first | with_reducible exact True.intro | with_reducible assumption | ((with_reducible show okB _ _ _ = true); rfl) | (simp only [List.length_append, bytesOf_length, List.toList_toArray, List.length_cons, List.length_nil, List.length_take, List.length_drop, sS_eq]; omega)))
    | fail) <;> (conv => whnf)))
  all_goals (try (show _ = _; simp only [sI_eq, sB_eq, sS_eq, sN_eq]))
  unfold flightW; rw [moneyT_fareT hp]
def D_couponref26_coupon : PT := tabD [(171, pcFlightR), (82, pcLetter), (49, pcNum), (81, pcDigits)]
def C_couponref26_coupon : FuncId → Option Ctr := tabC D_couponref26_coupon []
theorem g_couponref26_coupon {W : World} (hW : Tabs W) : GoodP (Fw W) Tryz.prog 118 pcCouponR := by
  have hD : PTOk (Fw W) Tryz.prog D_couponref26_coupon := (tabD_cons Tryz.call171 (g_couponref26_flight hW) (tabD_cons Tryz.call82 (g_couponref12_Letter hW) (tabD_cons Tryz.call49 (g_couponref26_num hW) (tabD_cons Tryz.call81 (g_couponref10_Digits hW) tabD_nil))))
  have hC0 : CtrOk (Fw W) Tryz.prog C_couponref26_coupon := (tabC_nil hD)
  refine goodP_fun (D := D_couponref26_coupon) (C := C_couponref26_coupon) (wr := (fun _ => false)) rfl tyOk hD hC0 Tryz.func118 (fun _ _ => none) ?_
  clear hC0 hD hW
  intro cs p r h hf hp
  split at h
  case h_2 => cases h
  rename_i cf cd cv cs ch cx
  cases h
  try simp only [factL, factA, inK_def, Go.Vc.lo, Go.Vc.hi, and_true] at hf
  obtain ⟨hp1, hp2⟩ := hp
  have l1 := flightW_len (c := (Coupon.mk cf cd cv cs ch cx)) (by simp; omega) (by simp; omega)
  have l2 := letterS_len cs
  have l3 := itoa_len ch (by omega) (by omega)
  have l4 := dec_len_le cx.toNat (by omega)
  have e : couponW (Coupon.mk cf cd cv cs ch cx) = flightW (Coupon.mk cf cd cv cs ch cx) ++ [58] ++ letterS cs ++ (if ch = 0 then [] else 47 :: Lib.itoa ch) ++ (if cx = 0 then [] else 62 :: numText cx) := by unfold couponW; rfl
  have e2 : ¬ cx = 0 → numText cx = decDigits cx.toNat := fun h => by unfold numText; rw [if_pos (by rcases hp2 with h2 | h2; exact absurd h2 h; exact h2)]
  clear hf
  (conv => whnf)
  (repeat' ((first
    | ((with_reducible refine And.intro ?_ ?_); focus (first | with_reducible exact True.intro | with_reducible assumption | ((with_reducible show okB _ _ _ = true); rfl) | (simp only [List.length_append, bytesOf_length, List.toList_toArray, List.length_cons, List.length_nil, List.length_take, List.length_drop, sS_eq]; omega)))
    | (split <;> rename_i hh <;> (try simp only [ble_true, ble_false, beq_true, beq_false, sI_eq, sB_eq, sS_eq, sN_eq, ltI_eq, leI_eq, eqI_eq, decide_eq_true_eq, decide_eq_false_iff_not, beq_iff_eq, bne_iff_ne, ne_eq, beq_eq_false_iff_ne, bne_eq_false_iff_eq, Bool.not_eq_true, Bool.not_eq_false, Int.not_lt, Int.not_le, gt_iff_lt, ge_iff_le, Nat.not_lt, Nat.not_le, Decidable.not_not, Bool.not_eq_eq_eq_not, Bool.not_true, Bool.not_false, cond_true, cond_false, Bool.or_eq_true, Bool.and_eq_true, Bool.or_eq_false_iff, Bool.and_eq_false_iff] at hh) <;> (try simp (disch := omega) only [Int.tdiv_eq_ediv_of_nonneg, Int.tmod_eq_emod_of_nonneg] at hh))
    | fail) <;> (conv => whnf)))
  all_goals (try (show _ = _; simp only [sI_eq, sB_eq, sS_eq, sN_eq]))
  all_goals (rw [e]; (try rw [e2 (by assumption)]); simp [*])
def pcTaxesR : PC := PC.of (fun l : List Tax => [slE 2 Tax.enc l]) (fun l => taxesB l = true) (fun l => .str (sS (taxesW l)))
def LTaxR (l : List Tax) : LoopSpec := {
  α := Nat
  keep := [0, 3, 4]
  vals i := [slE 2 Tax.enc l, .str (sS (Lib.join ((l.take i).map taxW) [44])), .int .i64 i]
  heap _ := []
  ok i := i ≤ l.length
  μ i := l.length - i }
theorem taxes_some {l : List Tax} : ∀ {k : Int}, taxesFrom k l = true → ∀ x ∈ l, someB x.amount = true := by
  induction l with
  | nil => intro k _ x hx; cases hx
  | cons y l ih =>
    intro k h x hx
    simp only [taxesFrom, Bool.and_eq_true] at h
    rcases List.mem_cons.1 hx with rfl | hx
    · exact h.1.2
    · exact ih h.2 x hx
theorem taxesB_facts {l : List Tax} (h : taxesB l = true) : l.length ≤ 4 ∧ ∀ i, i < l.length → someB (l.getD (Int.toNat (i : Int)) default).amount = true := by
  unfold taxesB at h
  simp only [Bool.and_eq_true, decide_eq_true_eq] at h
  refine ⟨h.2, fun i hi => taxes_some h.1 _ ?_⟩
  rw [show Int.toNat (i : Int) = i from rfl, List.getD_eq_getElem?_getD, List.getElem?_eq_getElem hi]
  exact List.getElem_mem hi
def D_couponref26_taxes : PT := tabD [(49, pcNum), (83, pcMoneyT)]
def C_couponref26_taxes : FuncId → Option Ctr := tabC D_couponref26_taxes []
def L_couponref26_taxes : List Tax → Nat → Option LR := fun l i => cond (Nat.beq i 5) (some (.inv (LTaxR l))) (none)
set_option maxHeartbeats 2000000 in
theorem g_couponref26_taxes {W : World} (hW : Tabs W) : GoodP (Fw W) Tryz.prog 85 pcTaxesR := by
  have hD : PTOk (Fw W) Tryz.prog D_couponref26_taxes := (tabD_cons Tryz.call49 (g_couponref26_num hW) (tabD_cons Tryz.call83 (g_couponref11_Text hW) tabD_nil))
  have hC0 : ∀ l : List Tax, CtrOk (Fw W) Tryz.prog (C_couponref26_taxes) := fun l => (tabC_nil hD)
  refine goodP_ofC (D := D_couponref26_taxes) (C := fun l => C_couponref26_taxes) (wr := (fun _ => false)) rfl tyOk hD hC0 Tryz.func85 (L_couponref26_taxes) (fun _ => rfl) ?_
  intro l hf hp
  obtain ⟨p1, p2⟩ := taxesB_facts hp
  have hw := tax_facts hf
  have hx : ∀ i, i < l.length → -9223372036854775808 ≤ (l.getD (Int.toNat (i : Int)) default).code ∧ (l.getD (Int.toNat (i : Int)) default).code ≤ 9223372036854775807 := fun i hi => by
    simp only [factL, factA] at hf
    exact inK_def.1 (hf.1.2 i hi).2.1
  clear hf
  (conv => whnf)
  (repeat' ((first
    | (split <;> rename_i hh <;> (try simp only [ble_true, ble_false, beq_true, beq_false, sI_eq, sB_eq, sS_eq, sN_eq, ltI_eq, leI_eq, eqI_eq, decide_eq_true_eq, decide_eq_false_iff_not, beq_iff_eq, bne_iff_ne, ne_eq, beq_eq_false_iff_ne, bne_eq_false_iff_eq, Bool.not_eq_true, Bool.not_eq_false, Int.not_lt, Int.not_le, gt_iff_lt, ge_iff_le, Nat.not_lt, Nat.not_le, Decidable.not_not, Bool.not_eq_eq_eq_not, Bool.not_true, Bool.not_false, cond_true, cond_false, Bool.or_eq_true, Bool.and_eq_true, Bool.or_eq_false_iff, Bool.and_eq_false_iff] at hh) <;> (try simp (disch := omega) only [Int.tdiv_eq_ediv_of_nonneg, Int.tmod_eq_emod_of_nonneg] at hh))
    | with_reducible refine (fun (hln : (_ : Int) ≤ 9223372036854775807) => ?_)
    | fail) <;> (conv => whnf)))
  all_goals (try (show _ = _; simp only [sI_eq, sB_eq, sS_eq, sN_eq]))
  · unfold taxesW; rw [if_pos (by omega)]
  · refine ⟨?_, fun (i : Nat) (hi : i ≤ l.length) => ?_⟩
    · (conv => whnf)
      refine ⟨(0 : Nat), [], ?_, ⟨⟨rfl, Nat.le_of_ble_eq_true rfl, rfl⟩, ?_, ?_⟩⟩
      · exact Nat.zero_le _
      · (conv => whnf)
        (repeat' ((first | with_reducible exact True.intro | ((with_reducible refine And.intro ?_ ?_); focus (first | with_reducible rfl | omega | exact Nat.le_of_ble_eq_true rfl | rfl)) | with_reducible refine And.intro (?_ : leA _ _ _) ?_ | fail) <;> (conv => whnf)))
        all_goals (try simp only [sI_eq, sB_eq, sS_eq, sN_eq])
        all_goals (try first | omega | exact ⟨fun h => h, fun _ _ => True.intro⟩)
        simp [Lib.join_nil]
      · (conv => whnf)
        (repeat' ((first | with_reducible exact True.intro | fail) <;> (conv => whnf)))
        all_goals (try simp only [sI_eq, sB_eq, sS_eq, sN_eq])
    · have hj := join_le [44] 200 ((l.take i).map taxW) (fun s hs => hw s (List.mem_of_mem_take (by rwa [List.map_take] at hs)))
      have hj2 : (Lib.join ((l.take i).map taxW) [44]).length ≤ 1000 := by
        have h4 : ((l.take i).map taxW).length ≤ 4 := by simp; omega
        have := Nat.mul_le_mul_right (200 + [(44 : UInt8)].length) h4
        simp only [List.length_cons, List.length_nil] at this hj
        omega
      have q1 : i < l.length → (Lib.itoa (l.getD (Int.toNat (i : Int)) default).code).length ≤ 32 := fun h => itoa_len _ (hx i h).1 (hx i h).2
      have q2 : i < l.length → (moneyT (l.getD (Int.toNat (i : Int)) default).amount).length ≤ 31 := fun h => by rw [moneyT_fareT (moneyB_of (p2 i h)).1]; exact fareT_len _
      have q3 : i < l.length → -9223372036854775807 ≤ (l.getD (Int.toNat (i : Int)) default).amount := fun h => (moneyB_of (p2 i h)).2
      have q4 : i < l.length → taxW (l.getD (Int.toNat (i : Int)) default) = Lib.itoa (l.getD (Int.toNat (i : Int)) default).code ++ [61] ++ moneyT (l.getD (Int.toNat (i : Int)) default).amount := fun h => by unfold taxW; rw [moneyT_fareT (moneyB_of (p2 i h)).1]
      (conv => whnf)
      (repeat' ((first
        | ((with_reducible refine And.intro ?_ ?_); focus (first | with_reducible exact True.intro | ((with_reducible show okB _ _ _ = true); rfl) | omega | (simp only [inK_def, Go.Vc.lo, Go.Vc.hi]; omega) | (simp only [List.length_append, bytesOf_length, List.toList_toArray, List.length_cons, List.length_nil, List.length_take, List.length_drop, sS_eq]; omega)))
        | (split <;> rename_i hh <;> (try simp only [ble_true, ble_false, beq_true, beq_false, sI_eq, sB_eq, sS_eq, sN_eq, ltI_eq, leI_eq, eqI_eq, decide_eq_true_eq, decide_eq_false_iff_not, beq_iff_eq, bne_iff_ne, ne_eq, beq_eq_false_iff_ne, bne_eq_false_iff_eq, Bool.not_eq_true, Bool.not_eq_false, Int.not_lt, Int.not_le, gt_iff_lt, ge_iff_le, Nat.not_lt, Nat.not_le, Decidable.not_not, Bool.not_eq_eq_eq_not, Bool.not_true, Bool.not_false, cond_true, cond_false, Bool.or_eq_true, Bool.and_eq_true, Bool.or_eq_false_iff, Bool.and_eq_false_iff] at hh) <;> (try simp (disch := omega) only [Int.tdiv_eq_ediv_of_nonneg, Int.tmod_eq_emod_of_nonneg] at hh))
        | with_reducible refine (fun (hln : (_ : Int) ≤ 9223372036854775807) => ?_)
        | fail) <;> (conv => whnf)))
      all_goals (try (show _ = _; simp only [sI_eq, sB_eq, sS_eq, sN_eq]))
      · (conv => whnf)
        refine ⟨(i + 1 : Nat), [], ?_, ⟨⟨rfl, Nat.le_of_ble_eq_true rfl, rfl⟩, ?_, ?_⟩⟩
        · exact ⟨show i + 1 ≤ l.length by omega, show l.length - (i + 1) < l.length - i by omega⟩
        · (conv => whnf)
          (repeat' ((first | with_reducible exact True.intro | ((with_reducible refine And.intro ?_ ?_); focus (first | with_reducible rfl | omega | exact Nat.le_of_ble_eq_true rfl | rfl)) | with_reducible refine And.intro (?_ : leA _ _ _) ?_ | fail) <;> (conv => whnf)))
          all_goals (try simp only [sI_eq, sB_eq, sS_eq, sN_eq])
          all_goals (try first | omega | exact ⟨fun h => h, fun _ _ => True.intro⟩)
          rw [join_take (by omega), if_neg (by omega), q4 (by omega)]; simp
        · (conv => whnf)
          (repeat' ((first | with_reducible exact True.intro | fail) <;> (conv => whnf)))
          all_goals (try simp only [sI_eq, sB_eq, sS_eq, sN_eq])
      · (conv => whnf)
        refine ⟨(i + 1 : Nat), [], ?_, ⟨⟨rfl, Nat.le_of_ble_eq_true rfl, rfl⟩, ?_, ?_⟩⟩
        · exact ⟨show i + 1 ≤ l.length by omega, show l.length - (i + 1) < l.length - i by omega⟩
        · (conv => whnf)
          (repeat' ((first | with_reducible exact True.intro | ((with_reducible refine And.intro ?_ ?_); focus (first | with_reducible rfl | omega | exact Nat.le_of_ble_eq_true rfl | rfl)) | with_reducible refine And.intro (?_ : leA _ _ _) ?_ | fail) <;> (conv => whnf)))
          all_goals (try simp only [sI_eq, sB_eq, sS_eq, sN_eq])
          all_goals (try first | omega | exact ⟨fun h => h, fun _ _ => True.intro⟩)
          obtain rfl : i = 0 := by omega
          rw [join_take (by omega), if_pos rfl, q4 (by omega)]; simp [Lib.join_nil]
        · (conv => whnf)
          (repeat' ((first | with_reducible exact True.intro | fail) <;> (conv => whnf)))
          all_goals (try simp only [sI_eq, sB_eq, sS_eq, sN_eq])
      · unfold taxesW; rw [if_neg (by omega), List.take_of_length_le (by omega)]
end
end Go.Vc.Z

/- Tickets' and loans' lines: the document's. -/
namespace Go.Vc.Z
open Go Go.Vc Go.Proofs Go.RowKit Go.Pl Go.Lib
noncomputable section
set_option maxRecDepth 100000
set_option linter.unusedSimpArgs false
set_option linter.unusedVariables false
attribute [local irreducible] inK Utf8.decode Utf8.encode Lib.itoa Pl.worth Pl.allDig
attribute [local irreducible] Lib.join
theorem mayCoupon_pre {num : Int} {c : Coupon} (h : couponOkB num c = true) : moneyB c.value = true ∧ (c.next = 0 ∨ checkN c.next = 0) := by
  unfold couponOkB mayCouponB at h
  simp only [Bool.and_eq_true] at h
  obtain ⟨⟨⟨⟨⟨⟨_, _⟩, _⟩, h4⟩, _⟩, _⟩, h7⟩ := h
  refine ⟨(moneyB_of h4).1, ?_⟩
  split at h7
  · unfold otherB numdB at h7
    simp at h7
    exact .inr h7.1
  · exact .inl (of_decide_eq_true h7)
theorem couponsB_at {num : Int} : ∀ {l : List Coupon}, couponsB num l = true → ∀ x ∈ l, couponOkB num x = true
  | [], _, x, hx => by cases hx
  | y :: l, h, x, hx => by
    simp only [couponsB, Bool.and_eq_true] at h
    rcases List.mem_cons.1 hx with rfl | hx
    · exact h.1
    · exact couponsB_at h.2 x hx
def S1 (t : Ticket) (i : Nat) : List UInt8 := Lib.join (tkHead t ++ ((numsL t).take i).map decW) [32]
def S2 (t : Ticket) (i : Nat) : List UInt8 := S1 t 5 ++ (if i = 0 then [] else 32 :: Lib.join ((t.coupons.take i).map couponW) [44])
def S3 (t : Ticket) (i : Nat) : List UInt8 := S2 t t.coupons.length ++ [32] ++ taxesW t.taxes ++ [32] ++ Lib.join ((t.history.take i).map eventW) [44]
theorem S1_step {t : Ticket} {i : Nat} (h : i < 5) : S1 t (i + 1) = S1 t i ++ [32] ++ decW ((numsL t).getD (Int.toNat (i : Int)) 0) := by
  have : tkHead t ++ ((numsL t).take (i + 1)).map decW = (tkHead t ++ ((numsL t).take i).map decW) ++ [decW ((numsL t).getD (Int.toNat (i : Int)) 0)] := by
    rcases (by omega : i = 0 ∨ i = 1 ∨ i = 2 ∨ i = 3 ∨ i = 4) with rfl | rfl | rfl | rfl | rfl <;> rfl
  unfold S1
  rw [this, join_snoc (by simp [tkHead]), List.append_assoc]
theorem S2_step {t : Ticket} {i : Nat} (h : i < t.coupons.length) : S2 t (i + 1) = S2 t i ++ (if i = 0 then [32] else [44]) ++ couponW (t.coupons.getD (Int.toNat (i : Int)) default) := by
  unfold S2
  rw [if_neg (by omega), join_take h]
  split <;> simp
theorem S3_step {t : Ticket} {i : Nat} (h : i < t.history.length) : S3 t (i + 1) = S3 t i ++ (if i = 0 then [] else [44]) ++ eventW (t.history.getD (Int.toNat (i : Int)) default) := by
  unfold S3
  rw [join_take h]
  split
  · rename_i h0; subst h0; simp [Lib.join_nil]
  · simp
theorem tkParts_join (t : Ticket) (h : 0 < t.coupons.length) : Lib.join (tkParts t) [32] = S2 t t.coupons.length ++ [32] ++ taxesW t.taxes ++ [32] ++ histW t := by
  have e : tkParts t = (((tkHead t ++ ((numsL t).take 5).map decW) ++ [Lib.join (t.coupons.map couponW) [44]]) ++ [taxesW t.taxes]) ++ [histW t] := by
    simp [tkParts, tkTail]
  rw [e, join_snoc (by simp), join_snoc (by simp), join_snoc (by simp [tkHead])]
  unfold S2 S1
  rw [if_neg (by omega), List.take_length]
  simp
theorem S1_len {t : Ticket} {i : Nat} (g2 : locOk t.locator = true) (g3 : 0 ≤ t.issued ∧ t.issued ≤ 1000000) (hu : ∀ n ∈ numsL t, n ≤ 18446744073709551615) : (S1 t i).length ≤ 1000 := by
  have a1 := numText_len t.number
  have a2 := locOk_len g2
  have a3 := itoa_len t.issued (by omega) (by omega)
  have hw := join_le [32] 40 (tkHead t ++ ((numsL t).take i).map decW) (fun s hs => by
    rcases List.mem_append.1 hs with hs | hs
    · simp only [tkHead, List.mem_cons, List.not_mem_nil, or_false] at hs
      rcases hs with rfl | rfl | rfl | rfl
      · decide
      all_goals omega
    · obtain ⟨n, hn, rfl⟩ := List.mem_map.1 hs
      have := hu n (List.mem_of_mem_take hn)
      exact Nat.le_trans (dec_len_le n.toNat (by omega)) (by omega))
  have hl : (tkHead t ++ ((numsL t).take i).map decW).length ≤ 9 := by simp [tkHead]; omega
  have := Nat.mul_le_mul_right 41 hl
  unfold S1
  simp only [List.length_cons, List.length_nil] at hw
  omega
theorem join_len_take {α : Type} {f : α → List UInt8} {l : List α} {m : Nat} (hl : l.length ≤ m) (hw : ∀ s ∈ l.map f, s.length ≤ 200) (i : Nat) : (Lib.join ((l.take i).map f) [44]).length ≤ m * 201 := by
  have h1 := join_le [44] 200 ((l.take i).map f) (fun s hs => hw s (List.mem_of_mem_take (by rwa [List.map_take] at hs)))
  have h2 : ((l.take i).map f).length ≤ m := by simp; omega
  have := Nat.mul_le_mul_right 201 h2
  simp only [List.length_cons, List.length_nil] at h1
  omega
def LTkR4 (t : Ticket) : LoopSpec := {
  α := Nat
  keep := [1, 3, 4, 5]
  vals i := [.ptr 0 0, .osl 1 1 0 5 (some 5), .str (sS (S1 t i)), .int .i64 i]
  heap _ := [.var t.enc, .row 1 5 (fun e => [.int .u64 ((numsL t).getD e 0)])] ++ List.replicate 20 .dead
  ok i := i ≤ 5
  μ i := 5 - i }
def LTkR8 (t : Ticket) : LoopSpec := {
  α := Nat
  keep := [1, 4, 6]
  vals i := [.ptr 0 0, .str (sS (S2 t i)), .int .i64 i]
  heap _ := [.var t.enc] ++ List.replicate 30 .dead
  ok i := i ≤ t.coupons.length
  μ i := t.coupons.length - i }
def LTkR18 (t : Ticket) : LoopSpec := {
  α := Nat
  keep := [1, 4, 7]
  vals i := [.ptr 0 0, .str (sS (S3 t i)), .int .i64 i]
  heap _ := [.var t.enc] ++ List.replicate 40 .dead
  ok i := i ≤ t.history.length
  μ i := t.history.length - i }
def pcTicketR : PC := PC.of (fun t : Ticket => [.agg t.enc]) (fun t => mayTicketB t = true) (fun t => .str (sS (ticketW t)))
def D_couponref26_TicketLine : PT := tabD [(81, pcDigits), (49, pcNum), (118, pcCouponR), (85, pcTaxesR), (82, pcLetter)]
def C_couponref26_TicketLine : FuncId → Option Ctr := tabC D_couponref26_TicketLine []
def L_couponref26_TicketLine : Ticket → Nat → Option LR := fun t i => cond (Nat.beq i 4) (some (.inv (LTkR4 t))) (cond (Nat.beq i 8) (some (.inv (LTkR8 t))) (cond (Nat.beq i 18) (some (.inv (LTkR18 t))) (none)))
set_option maxHeartbeats 4000000 in
theorem g_couponref26_TicketLine {W : World} (hW : Tabs W) : GoodP (Fw W) Tryz.prog 50 pcTicketR := by
  have hD : PTOk (Fw W) Tryz.prog D_couponref26_TicketLine := (tabD_cons Tryz.call81 (g_couponref10_Digits hW) (tabD_cons Tryz.call49 (g_couponref26_num hW) (tabD_cons Tryz.call118 (g_couponref26_coupon hW) (tabD_cons Tryz.call85 (g_couponref26_taxes hW) (tabD_cons Tryz.call82 (g_couponref12_Letter hW) tabD_nil)))))
  have hC0 : ∀ t : Ticket, CtrOk (Fw W) Tryz.prog (C_couponref26_TicketLine) := fun t => (tabC_nil hD)
  refine goodP_ofC (D := D_couponref26_TicketLine) (C := fun t => C_couponref26_TicketLine) (wr := (fun _ => false)) rfl tyOk hD hC0 Tryz.func50 (L_couponref26_TicketLine) (fun _ => rfl) ?_
  intro t hf hmay
  have hfc : factL [slE 6 Coupon.enc t.coupons] := by
    simp only [factL, factA, and_true] at hf ⊢; exact hf.2.2.2.1
  have hft : factL [slE 2 Tax.enc t.taxes] := by
    simp only [factL, factA, and_true] at hf ⊢; exact hf.2.2.2.2.1
  have hfe : factL [slE 4 Event.enc t.history] := by
    simp only [factL, factA, and_true] at hf ⊢; exact hf.2.2.2.2.2.2.2.2.2.2
  have hu3 : t.prev ≤ 18446744073709551615 ∧ t.origin ≤ 18446744073709551615 ∧ t.first ≤ 18446744073709551615 := by
    simp only [factL, factA, and_true] at hf
    obtain ⟨_, _, _, _, _, k1, k2, k3, _⟩ := hf
    exact ⟨(inK_def.1 k1).2, (inK_def.1 k2).2, (inK_def.1 k3).2⟩
  clear hf
  change mayTicketB t = true at hmay
  obtain ⟨f1, f2, f3, f4, f5⟩ := may_facts hmay
  obtain ⟨g1, g2, g3, g4, g5, g6⟩ := head_facts f3
  have hu : ∀ n ∈ numsL t, n ≤ 18446744073709551615 := by
    intro n hn
    simp only [List.mem_cons, List.not_mem_nil, or_false] at hn
    rcases hn with rfl | rfl | rfl | rfl | rfl <;> omega
  have hn1 : numText t.number = decDigits t.number.toNat := by unfold numText; rw [if_pos g1]
  have hn2 := numText_len t.number
  rw [hn1] at hn2
  have hn3 := locOk_len g2
  have hn4 := itoa_len t.issued (by omega) (by omega)
  have hS0 : S1 t 0 = [116, 105, 99, 107, 101, 116, 32] ++ decDigits t.number.toNat ++ [32] ++ t.locator ++ [32] ++ Lib.itoa t.issued := by
    unfold S1 tkHead; rw [hn1]; simp [Lib.join_cons, Lib.joinTail]
  have hS1 : ∀ i, (S1 t i).length ≤ 1000 := fun i => S1_len g2 g3 hu
  have hS2 : ∀ i, (S2 t i).length ≤ 2000 := fun i => by
    have h1 := hS1 5
    have h2 := join_len_take f1.2 (coupon_facts hfc) i
    unfold S2
    split <;> simp only [List.length_append, List.length_cons, List.length_nil] <;> omega
  have hS3 : ∀ i, (S3 t i).length ≤ 20000 := fun i => by
    have h1 := hS2 t.coupons.length
    have h2 := join_len_take f2 (event_facts hfe) i
    have h3 := taxesW_len (taxesB_facts f4).1 (tax_facts hft)
    unfold S3
    simp only [List.length_append, List.length_cons, List.length_nil]; omega
  have hfin : ticketW t = S2 t t.coupons.length ++ [32] ++ taxesW t.taxes ++ [32] ++ histW t := by
    unfold ticketW; rw [if_pos hmay, tkParts_join t (by omega)]
  (conv => whnf)
  (repeat' ((first
    | ((with_reducible refine And.intro ?_ ?_); focus (first | with_reducible exact True.intro | ((with_reducible show okB _ _ _ = true); rfl) | (simp only [inK_def, Go.Vc.lo, Go.Vc.hi]; omega) | (simp only [List.length_append, bytesOf_length, List.toList_toArray, List.length_cons, List.length_nil, List.length_take, List.length_drop, sS_eq]; omega)))
    | fail) <;> (conv => whnf)))
  all_goals (try (show _ = _; simp only [sI_eq, sB_eq, sS_eq, sN_eq]))
  refine ⟨?_, fun (i : Nat) (hi : i ≤ 5) => ?_⟩
  · (conv => whnf)
    refine ⟨(0 : Nat), [], ?_, ⟨⟨rfl, Nat.le_of_ble_eq_true rfl, rfl⟩, ?_, ?_⟩⟩
    · exact Nat.zero_le _
    · (conv => whnf)
      (repeat' ((first | with_reducible exact True.intro | ((with_reducible refine Or.inr ?_); rfl) | ((with_reducible refine And.intro ?_ ?_); focus (first | with_reducible rfl | omega | exact Nat.le_of_ble_eq_true rfl | rfl)) | with_reducible refine And.intro (?_ : leA _ _ _) ?_ | fail) <;> (conv => whnf)))
      all_goals (try simp only [sI_eq, sB_eq, sS_eq, sN_eq])
      all_goals (try first | omega)
      rw [hS0]
    · (conv => whnf)
      (repeat' ((first | with_reducible exact True.intro | ((with_reducible refine And.intro ?_ ?_); focus (first | with_reducible rfl | omega | exact Nat.le_of_ble_eq_true rfl | rfl)) | with_reducible refine And.intro (?_ : leA _ _ _) ?_ | with_reducible refine And.intro (?_ : leL _ _ _) ?_ | with_reducible refine And.intro (?_ : leBlk _ _ _ _) ?_ | fail) <;> (conv => whnf)))
      all_goals (try simp only [sI_eq, sB_eq, sS_eq, sN_eq])
      all_goals (try first | rfl | exact ⟨fun h => h, fun _ _ => True.intro⟩)
      intro e he
      match e, he with
      | 0, _ => first | rfl | exact ⟨rfl, rfl⟩
      | 1, _ => first | rfl | exact ⟨rfl, rfl⟩
      | 2, _ => first | rfl | exact ⟨rfl, rfl⟩
      | 3, _ => first | rfl | exact ⟨rfl, rfl⟩
      | 4, _ => first | rfl | exact ⟨rfl, rfl⟩
      | e + 5, he => exact absurd he (by omega)
  · have hd : i < 5 → (decDigits ((numsL t).getD (0 + Int.toNat (i : Int)) 0).toNat).length ≤ 20 := fun h => by
      refine dec_len_le _ ?_
      have : (numsL t).getD (0 + Int.toNat (i : Int)) 0 ≤ 18446744073709551615 := by
        refine hu _ ?_
        rcases (by omega : i = 0 ∨ i = 1 ∨ i = 2 ∨ i = 3 ∨ i = 4) with rfl | rfl | rfl | rfl | rfl <;> simp
      omega
    have hs1 := hS1 i
    (conv => whnf)
    (repeat' ((first
      | ((with_reducible refine And.intro ?_ ?_); focus (first | with_reducible exact True.intro | omega | (simp only [inK_def, Go.Vc.lo, Go.Vc.hi]; omega) | (simp only [List.length_append, bytesOf_length, List.toList_toArray, List.length_cons, List.length_nil, List.length_take, List.length_drop, sS_eq]; omega)))
      | (split <;> rename_i hh <;> (try simp only [ble_true, ble_false, beq_true, beq_false, sI_eq, sB_eq, sS_eq, sN_eq, ltI_eq, leI_eq, eqI_eq, decide_eq_true_eq, decide_eq_false_iff_not, beq_iff_eq, bne_iff_ne, ne_eq, beq_eq_false_iff_ne, bne_eq_false_iff_eq, Bool.not_eq_true, Bool.not_eq_false, Int.not_lt, Int.not_le, gt_iff_lt, ge_iff_le, Nat.not_lt, Nat.not_le, Decidable.not_not, Bool.not_eq_eq_eq_not, Bool.not_true, Bool.not_false, cond_true, cond_false, Bool.or_eq_true, Bool.and_eq_true, Bool.or_eq_false_iff, Bool.and_eq_false_iff] at hh) <;> (try simp (disch := omega) only [Int.tdiv_eq_ediv_of_nonneg, Int.tmod_eq_emod_of_nonneg] at hh))
      | with_reducible refine (fun (hln : (_ : Int) ≤ 9223372036854775807) => ?_)
      | fail) <;> (conv => whnf)))
    all_goals (try (show _ = _; simp only [sI_eq, sB_eq, sS_eq, sN_eq]))
    · (conv => whnf)
      refine ⟨(i + 1 : Nat), [], ?_, ⟨⟨rfl, Nat.le_of_ble_eq_true rfl, rfl⟩, ?_, ?_⟩⟩
      · exact ⟨show i + 1 ≤ 5 by omega, show 5 - (i + 1) < 5 - i by omega⟩
      · (conv => whnf)
        (repeat' ((first | with_reducible exact True.intro | ((with_reducible refine Or.inr ?_); rfl) | ((with_reducible refine And.intro ?_ ?_); focus (first | with_reducible rfl | omega | exact Nat.le_of_ble_eq_true rfl | rfl)) | with_reducible refine And.intro (?_ : leA _ _ _) ?_ | fail) <;> (conv => whnf)))
        all_goals (try simp only [sI_eq, sB_eq, sS_eq, sN_eq])
        all_goals (try first | omega)
        rw [S1_step (by omega), Nat.zero_add]
      · (conv => whnf)
        (repeat' ((first | with_reducible exact True.intro | ((with_reducible refine And.intro ?_ ?_); focus (first | with_reducible rfl | omega | exact Nat.le_of_ble_eq_true rfl | rfl)) | with_reducible refine And.intro (?_ : leA _ _ _) ?_ | with_reducible refine And.intro (?_ : leL _ _ _) ?_ | with_reducible refine And.intro (?_ : leBlk _ _ _ _) ?_ | fail) <;> (conv => whnf)))
        all_goals (try simp only [sI_eq, sB_eq, sS_eq, sN_eq])
        all_goals (try first | rfl | exact ⟨fun h => h, fun _ _ => True.intro⟩)
        all_goals (try first | exact fun _ _ => ⟨True.intro, rfl⟩)
    · obtain rfl : i = 5 := by omega
      refine ⟨?_, fun (i : Nat) (hi : i ≤ t.coupons.length) => ?_⟩
      · (conv => whnf)
        refine ⟨(0 : Nat), [], ?_, ⟨⟨rfl, Nat.le_of_ble_eq_true rfl, rfl⟩, ?_, ?_⟩⟩
        · exact Nat.zero_le _
        · (conv => whnf)
          (repeat' ((first | with_reducible exact True.intro | ((with_reducible refine And.intro ?_ ?_); focus (first | with_reducible rfl | omega | exact Nat.le_of_ble_eq_true rfl | rfl)) | with_reducible refine And.intro (?_ : leA _ _ _) ?_ | fail) <;> (conv => whnf)))
          all_goals (try simp only [sI_eq, sB_eq, sS_eq, sN_eq])
          all_goals (try first | omega)
          unfold S2; simp
        · (conv => whnf)
          (repeat' ((first | with_reducible exact True.intro | ((with_reducible refine And.intro ?_ ?_); focus (first | with_reducible rfl | omega | exact Nat.le_of_ble_eq_true rfl | rfl)) | with_reducible refine And.intro (?_ : leA _ _ _) ?_ | with_reducible refine And.intro (?_ : leL _ _ _) ?_ | with_reducible refine And.intro (?_ : leBlk _ _ _ _) ?_ | fail) <;> (conv => whnf)))
          all_goals (try simp only [sI_eq, sB_eq, sS_eq, sN_eq])
          all_goals (try first | rfl | exact ⟨fun h => h, fun _ _ => True.intro⟩)
      · have hs2 := hS2 i
        have hc : i < t.coupons.length → moneyB (t.coupons.getD (Int.toNat (i : Int)) default).value = true ∧ ((t.coupons.getD (Int.toNat (i : Int)) default).next = 0 ∨ checkN (t.coupons.getD (Int.toNat (i : Int)) default).next = 0) := fun h => by
          refine mayCoupon_pre (couponsB_at f5 _ ?_)
          rw [show Int.toNat (i : Int) = i from rfl, List.getD_eq_getElem?_getD, List.getElem?_eq_getElem h]
          exact List.getElem_mem h
        have hcl : i < t.coupons.length → (couponW (t.coupons.getD (Int.toNat (i : Int)) default)).length ≤ 200 := fun h => by
          refine coupon_facts hfc _ (List.mem_map.2 ⟨_, ?_, rfl⟩)
          rw [show Int.toNat (i : Int) = i from rfl, List.getD_eq_getElem?_getD, List.getElem?_eq_getElem h]
          exact List.getElem_mem h
        have hcl2 : i < t.coupons.length → (couponW ⟨(t.coupons.getD (Int.toNat (i : Int)) default).flight, (t.coupons.getD (Int.toNat (i : Int)) default).day, (t.coupons.getD (Int.toNat (i : Int)) default).value, (t.coupons.getD (Int.toNat (i : Int)) default).status, (t.coupons.getD (Int.toNat (i : Int)) default).holder, (t.coupons.getD (Int.toNat (i : Int)) default).next⟩).length ≤ 200 := hcl
        have hst := S2_step (t := t) (i := i)
        clear hcl
        (conv => whnf)
        (repeat' ((first
          | (with_reducible refine And.intro (hc (by omega)) ?_)
          | ((with_reducible refine And.intro ?_ ?_); focus (first | omega | (simp only [inK_def, Go.Vc.lo, Go.Vc.hi]; omega) | (simp only [List.length_append, bytesOf_length, List.toList_toArray, List.length_cons, List.length_nil, List.length_take, List.length_drop, sS_eq]; omega)))
          | (split <;> rename_i hh <;> (try simp only [ble_true, ble_false, beq_true, beq_false, sI_eq, sB_eq, sS_eq, sN_eq, ltI_eq, leI_eq, eqI_eq, decide_eq_true_eq, decide_eq_false_iff_not, beq_iff_eq, bne_iff_ne, ne_eq, beq_eq_false_iff_ne, bne_eq_false_iff_eq, Bool.not_eq_true, Bool.not_eq_false, Int.not_lt, Int.not_le, gt_iff_lt, ge_iff_le, Nat.not_lt, Nat.not_le, Decidable.not_not, Bool.not_eq_eq_eq_not, Bool.not_true, Bool.not_false, cond_true, cond_false, Bool.or_eq_true, Bool.and_eq_true, Bool.or_eq_false_iff, Bool.and_eq_false_iff] at hh) <;> (try simp (disch := omega) only [Int.tdiv_eq_ediv_of_nonneg, Int.tmod_eq_emod_of_nonneg] at hh))
          | with_reducible refine (fun (hln : (_ : Int) ≤ 9223372036854775807) => ?_)
          | fail) <;> (conv => whnf)))
        all_goals (try (show _ = _; simp only [sI_eq, sB_eq, sS_eq, sN_eq]))
        · (conv => whnf)
          refine ⟨(i + 1 : Nat), [], ?_, ⟨⟨rfl, Nat.le_of_ble_eq_true rfl, rfl⟩, ?_, ?_⟩⟩
          · exact ⟨show i + 1 ≤ t.coupons.length by omega, show t.coupons.length - (i + 1) < t.coupons.length - i by omega⟩
          · (conv => whnf)
            (repeat' ((first | with_reducible exact True.intro | ((with_reducible refine And.intro ?_ ?_); focus (first | with_reducible rfl | omega | exact Nat.le_of_ble_eq_true rfl | rfl)) | with_reducible refine And.intro (?_ : leA _ _ _) ?_ | fail) <;> (conv => whnf)))
            all_goals (try simp only [sI_eq, sB_eq, sS_eq, sN_eq])
            all_goals (try first | omega)
            rw [hst (by omega), if_pos (by omega)]
          · (conv => whnf)
            (repeat' ((first | with_reducible exact True.intro | ((with_reducible refine And.intro ?_ ?_); focus (first | with_reducible rfl | omega | exact Nat.le_of_ble_eq_true rfl | rfl)) | with_reducible refine And.intro (?_ : leA _ _ _) ?_ | with_reducible refine And.intro (?_ : leL _ _ _) ?_ | with_reducible refine And.intro (?_ : leBlk _ _ _ _) ?_ | fail) <;> (conv => whnf)))
            all_goals (try simp only [sI_eq, sB_eq, sS_eq, sN_eq])
            all_goals (try first | rfl | exact ⟨fun h => h, fun _ _ => True.intro⟩)
        · (conv => whnf)
          refine ⟨(i + 1 : Nat), [], ?_, ⟨⟨rfl, Nat.le_of_ble_eq_true rfl, rfl⟩, ?_, ?_⟩⟩
          · exact ⟨show i + 1 ≤ t.coupons.length by omega, show t.coupons.length - (i + 1) < t.coupons.length - i by omega⟩
          · (conv => whnf)
            (repeat' ((first | with_reducible exact True.intro | ((with_reducible refine And.intro ?_ ?_); focus (first | with_reducible rfl | omega | exact Nat.le_of_ble_eq_true rfl | rfl)) | with_reducible refine And.intro (?_ : leA _ _ _) ?_ | fail) <;> (conv => whnf)))
            all_goals (try simp only [sI_eq, sB_eq, sS_eq, sN_eq])
            all_goals (try first | omega)
            rw [hst (by omega), if_neg (by omega)]
          · (conv => whnf)
            (repeat' ((first | with_reducible exact True.intro | ((with_reducible refine And.intro ?_ ?_); focus (first | with_reducible rfl | omega | exact Nat.le_of_ble_eq_true rfl | rfl)) | with_reducible refine And.intro (?_ : leA _ _ _) ?_ | with_reducible refine And.intro (?_ : leL _ _ _) ?_ | with_reducible refine And.intro (?_ : leBlk _ _ _ _) ?_ | fail) <;> (conv => whnf)))
            all_goals (try simp only [sI_eq, sB_eq, sS_eq, sN_eq])
            all_goals (try first | rfl | exact ⟨fun h => h, fun _ _ => True.intro⟩)
        · obtain rfl : i = t.coupons.length := by omega
          clear hc hcl2 hst
          refine ⟨t.taxes, f4, ?_, ?_⟩
          · (conv => whnf)
            (repeat' ((first | with_reducible exact True.intro | ((with_reducible refine And.intro ?_ ?_); focus (first | with_reducible rfl | omega | exact Nat.le_of_ble_eq_true rfl | rfl)) | with_reducible refine And.intro (?_ : leA _ _ _) ?_ | fail) <;> (conv => whnf)))
            all_goals (try simp only [sI_eq, sB_eq, sS_eq, sN_eq])
            all_goals (try first | exact ⟨fun h => h, fun _ _ => True.intro⟩)
          have ht1 := taxesW_len (taxesB_facts f4).1 (tax_facts hft)
          (conv => whnf)
          (repeat' ((first
            | ((with_reducible refine And.intro ?_ ?_); focus ((simp only [List.length_append, bytesOf_length, List.toList_toArray, List.length_cons, List.length_nil, List.length_take, List.length_drop, sS_eq]; omega)))
            | (split <;> rename_i hh <;> (try simp only [ble_true, ble_false, beq_true, beq_false, sI_eq, sB_eq, sS_eq, sN_eq, ltI_eq, leI_eq, eqI_eq, decide_eq_true_eq, decide_eq_false_iff_not, beq_iff_eq, bne_iff_ne, ne_eq, beq_eq_false_iff_ne, bne_eq_false_iff_eq, Bool.not_eq_true, Bool.not_eq_false, Int.not_lt, Int.not_le, gt_iff_lt, ge_iff_le, Nat.not_lt, Nat.not_le, Decidable.not_not, Bool.not_eq_eq_eq_not, Bool.not_true, Bool.not_false, cond_true, cond_false, Bool.or_eq_true, Bool.and_eq_true, Bool.or_eq_false_iff, Bool.and_eq_false_iff] at hh) <;> (try simp (disch := omega) only [Int.tdiv_eq_ediv_of_nonneg, Int.tmod_eq_emod_of_nonneg] at hh))
            | with_reducible refine (fun (hln : (_ : Int) ≤ 9223372036854775807) => ?_)
            | fail) <;> (conv => whnf)))
          all_goals (try (show _ = _; simp only [sI_eq, sB_eq, sS_eq, sN_eq]))
          · rw [hfin]; unfold histW; rw [if_pos (by omega)]
          · have hh9 : histW t = Lib.join (t.history.map eventW) [44] := by unfold histW; rw [if_neg (by omega)]
            refine ⟨?_, fun (i : Nat) (hi : i ≤ t.history.length) => ?_⟩
            · (conv => whnf)
              refine ⟨(0 : Nat), [], ?_, ⟨⟨rfl, Nat.le_of_ble_eq_true rfl, rfl⟩, ?_, ?_⟩⟩
              · exact Nat.zero_le _
              · (conv => whnf)
                (repeat' ((first | with_reducible exact True.intro | ((with_reducible refine And.intro ?_ ?_); focus (first | with_reducible rfl | omega | exact Nat.le_of_ble_eq_true rfl | rfl)) | with_reducible refine And.intro (?_ : leA _ _ _) ?_ | fail) <;> (conv => whnf)))
                all_goals (try simp only [sI_eq, sB_eq, sS_eq, sN_eq])
                all_goals (try first | omega)
                unfold S3; simp [Lib.join_nil]
              · (conv => whnf)
                (repeat' ((first | with_reducible exact True.intro | ((with_reducible refine And.intro ?_ ?_); focus (first | with_reducible rfl | omega | exact Nat.le_of_ble_eq_true rfl | rfl)) | with_reducible refine And.intro (?_ : leA _ _ _) ?_ | with_reducible refine And.intro (?_ : leL _ _ _) ?_ | with_reducible refine And.intro (?_ : leBlk _ _ _ _) ?_ | fail) <;> (conv => whnf)))
                all_goals (try simp only [sI_eq, sB_eq, sS_eq, sN_eq])
                all_goals (try first | rfl | exact ⟨fun h => h, fun _ _ => True.intro⟩)
            · have hs3 := hS3 i
              have hst := S3_step (t := t) (i := i)
              have he : i < t.history.length → (-9223372036854775808 ≤ (t.history.getD (Int.toNat (i : Int)) default).day ∧ (t.history.getD (Int.toNat (i : Int)) default).day ≤ 9223372036854775807) ∧ (-9223372036854775808 ≤ (t.history.getD (Int.toNat (i : Int)) default).coupon ∧ (t.history.getD (Int.toNat (i : Int)) default).coupon ≤ 9223372036854775807) := fun h => by
                simp only [factL, factA, and_true] at hfe
                have := (hfe.2 i h).2
                exact ⟨inK_def.1 this.1, inK_def.1 this.2.1⟩
              have e1 : i < t.history.length → (Lib.itoa (t.history.getD (Int.toNat (i : Int)) default).day).length ≤ 32 := fun h => itoa_len _ (he h).1.1 (he h).1.2
              have e2 : i < t.history.length → (Lib.itoa (t.history.getD (Int.toNat (i : Int)) default).coupon).length ≤ 32 := fun h => itoa_len _ (he h).2.1 (he h).2.2
              have e3 := letterS_len (t.history.getD (Int.toNat (i : Int)) default).src
              have e4 := letterS_len (t.history.getD (Int.toNat (i : Int)) default).dst
              have e5 : eventW (t.history.getD (Int.toNat (i : Int)) default) = Lib.itoa (t.history.getD (Int.toNat (i : Int)) default).day ++ [46] ++ Lib.itoa (t.history.getD (Int.toNat (i : Int)) default).coupon ++ [46] ++ letterS (t.history.getD (Int.toNat (i : Int)) default).src ++ letterS (t.history.getD (Int.toNat (i : Int)) default).dst := by unfold eventW; rfl
              (conv => whnf)
              (repeat' ((first
                | ((with_reducible refine And.intro ?_ ?_); focus (first | with_reducible exact True.intro | ((with_reducible show okB _ _ _ = true); rfl) | omega | (simp only [inK_def, Go.Vc.lo, Go.Vc.hi]; omega) | (simp only [List.length_append, bytesOf_length, List.toList_toArray, List.length_cons, List.length_nil, List.length_take, List.length_drop, sS_eq]; omega)))
                | (split <;> rename_i hh <;> (try simp only [ble_true, ble_false, beq_true, beq_false, sI_eq, sB_eq, sS_eq, sN_eq, ltI_eq, leI_eq, eqI_eq, decide_eq_true_eq, decide_eq_false_iff_not, beq_iff_eq, bne_iff_ne, ne_eq, beq_eq_false_iff_ne, bne_eq_false_iff_eq, Bool.not_eq_true, Bool.not_eq_false, Int.not_lt, Int.not_le, gt_iff_lt, ge_iff_le, Nat.not_lt, Nat.not_le, Decidable.not_not, Bool.not_eq_eq_eq_not, Bool.not_true, Bool.not_false, cond_true, cond_false, Bool.or_eq_true, Bool.and_eq_true, Bool.or_eq_false_iff, Bool.and_eq_false_iff] at hh) <;> (try simp (disch := omega) only [Int.tdiv_eq_ediv_of_nonneg, Int.tmod_eq_emod_of_nonneg] at hh))
                | with_reducible refine (fun (hln : (_ : Int) ≤ 9223372036854775807) => ?_)
                | fail) <;> (conv => whnf)))
              all_goals (try (show _ = _; simp only [sI_eq, sB_eq, sS_eq, sN_eq]))
              · (conv => whnf)
                refine ⟨(i + 1 : Nat), [], ?_, ⟨⟨rfl, Nat.le_of_ble_eq_true rfl, rfl⟩, ?_, ?_⟩⟩
                · exact ⟨show i + 1 ≤ t.history.length by omega, show t.history.length - (i + 1) < t.history.length - i by omega⟩
                · (conv => whnf)
                  (repeat' ((first | with_reducible exact True.intro | ((with_reducible refine And.intro ?_ ?_); focus (first | with_reducible rfl | omega | exact Nat.le_of_ble_eq_true rfl | rfl)) | with_reducible refine And.intro (?_ : leA _ _ _) ?_ | fail) <;> (conv => whnf)))
                  all_goals (try simp only [sI_eq, sB_eq, sS_eq, sN_eq])
                  all_goals (try first | omega)
                  rw [hst (by omega), if_neg (by omega), e5]; simp
                · (conv => whnf)
                  (repeat' ((first | with_reducible exact True.intro | ((with_reducible refine And.intro ?_ ?_); focus (first | with_reducible rfl | omega | exact Nat.le_of_ble_eq_true rfl | rfl)) | with_reducible refine And.intro (?_ : leA _ _ _) ?_ | with_reducible refine And.intro (?_ : leL _ _ _) ?_ | with_reducible refine And.intro (?_ : leBlk _ _ _ _) ?_ | fail) <;> (conv => whnf)))
                  all_goals (try simp only [sI_eq, sB_eq, sS_eq, sN_eq])
                  all_goals (try first | rfl | exact ⟨fun h => h, fun _ _ => True.intro⟩)
              · (conv => whnf)
                refine ⟨(i + 1 : Nat), [], ?_, ⟨⟨rfl, Nat.le_of_ble_eq_true rfl, rfl⟩, ?_, ?_⟩⟩
                · exact ⟨show i + 1 ≤ t.history.length by omega, show t.history.length - (i + 1) < t.history.length - i by omega⟩
                · (conv => whnf)
                  (repeat' ((first | with_reducible exact True.intro | ((with_reducible refine And.intro ?_ ?_); focus (first | with_reducible rfl | omega | exact Nat.le_of_ble_eq_true rfl | rfl)) | with_reducible refine And.intro (?_ : leA _ _ _) ?_ | fail) <;> (conv => whnf)))
                  all_goals (try simp only [sI_eq, sB_eq, sS_eq, sN_eq])
                  all_goals (try first | omega)
                  rw [hst (by omega), if_pos (by omega), e5]; simp
                · (conv => whnf)
                  (repeat' ((first | with_reducible exact True.intro | ((with_reducible refine And.intro ?_ ?_); focus (first | with_reducible rfl | omega | exact Nat.le_of_ble_eq_true rfl | rfl)) | with_reducible refine And.intro (?_ : leA _ _ _) ?_ | with_reducible refine And.intro (?_ : leL _ _ _) ?_ | with_reducible refine And.intro (?_ : leBlk _ _ _ _) ?_ | fail) <;> (conv => whnf)))
                  all_goals (try simp only [sI_eq, sB_eq, sS_eq, sN_eq])
                  all_goals (try first | rfl | exact ⟨fun h => h, fun _ _ => True.intro⟩)
              · rw [hfin, hh9, show i = t.history.length by omega]; unfold S3; rw [List.take_length]
end
end Go.Vc.Z

/- All lines: the document's. -/
namespace Go.Vc.Z
open Go Go.Vc Go.Proofs Go.RowKit Go.Pl Go.Lib
noncomputable section
set_option maxRecDepth 100000
set_option linter.unusedSimpArgs false
set_option linter.unusedVariables false
attribute [local irreducible] inK Utf8.decode Utf8.encode Lib.itoa Pl.worth Pl.allDig
attribute [local irreducible] Lib.join
def pcLoanR : PC := PC.of (fun l : Loan => [.agg l.enc]) (fun l => loanB l = true) (fun l => .str (sS (loanW l)))
theorem loanB_facts {l : Loan} (h : loanB l = true) : checkN l.ticket = 0 ∧ (l.held = true → moneyB l.what.value = true ∧ (l.what.next = 0 ∨ checkN l.what.next = 0)) := by
  unfold loanB at h
  simp only [Bool.and_eq_true] at h
  obtain ⟨⟨⟨h1, _⟩, _⟩, h4⟩ := h
  refine ⟨by unfold numdB at h1; exact of_decide_eq_true h1, fun hh => ?_⟩
  rw [hh] at h4
  simp only [cond_true, Bool.and_eq_true] at h4
  have h5 := h4.2
  unfold plainB at h5
  simp only [Bool.and_eq_true, decide_eq_true_eq] at h5
  exact ⟨(moneyB_of h5.1.1.1.2).1, .inl h5.2⟩
def D_couponref26_LoanLine : PT := tabD [(81, pcDigits), (49, pcNum), (118, pcCouponR)]
def C_couponref26_LoanLine : FuncId → Option Ctr := tabC D_couponref26_LoanLine []
set_option maxHeartbeats 2000000 in
theorem g_couponref26_LoanLine {W : World} (hW : Tabs W) : GoodP (Fw W) Tryz.prog 52 pcLoanR := by
  have hD : PTOk (Fw W) Tryz.prog D_couponref26_LoanLine := (tabD_cons Tryz.call81 (g_couponref10_Digits hW) (tabD_cons Tryz.call49 (g_couponref26_num hW) (tabD_cons Tryz.call118 (g_couponref26_coupon hW) tabD_nil)))
  have hC0 : ∀ l : Loan, CtrOk (Fw W) Tryz.prog (C_couponref26_LoanLine) := fun l => (tabC_nil hD)
  refine goodP_ofC (D := D_couponref26_LoanLine) (C := fun l => C_couponref26_LoanLine) (wr := (fun _ => false)) rfl tyOk hD hC0 Tryz.func52 (fun _ _ => none) (fun _ => rfl) ?_
  intro l hf hp
  change loanB l = true at hp
  obtain ⟨l1, l2⟩ := loan_facts hf
  obtain ⟨p1, hc⟩ := loanB_facts hp
  have l2' : (couponW ⟨l.what.flight, l.what.day, l.what.value, l.what.status, l.what.holder, l.what.next⟩).length ≤ 200 := l2
  have hn : numText l.ticket = decDigits l.ticket.toNat := by unfold numText; rw [if_pos p1]
  have l3 := numText_len l.ticket
  rw [hn] at l3
  have l4 := itoa_len l.coupon l1.1 l1.2
  have hm : loanW l = [108, 111, 97, 110, 32] ++ numText l.ticket ++ [32] ++ Lib.itoa l.coupon ++ (if l.held = true then [32, 104, 101, 108, 100, 32] ++ couponW l.what else [32, 97, 115, 107, 101, 100]) := by unfold loanW; rw [if_pos hp]
  clear hf
  (conv => whnf)
  (repeat' ((first
    | (with_reducible refine And.intro (hc (by assumption)) ?_)
    | ((with_reducible refine And.intro ?_ ?_); focus (first | with_reducible exact True.intro | ((with_reducible show okB _ _ _ = true); rfl) | (simp only [List.length_append, bytesOf_length, List.toList_toArray, List.length_cons, List.length_nil, List.length_take, List.length_drop, sS_eq]; omega)))
    | (split <;> rename_i hh <;> (try simp only [ble_true, ble_false, beq_true, beq_false, sI_eq, sB_eq, sS_eq, sN_eq, ltI_eq, leI_eq, eqI_eq, decide_eq_true_eq, decide_eq_false_iff_not, beq_iff_eq, bne_iff_ne, ne_eq, beq_eq_false_iff_ne, bne_eq_false_iff_eq, Bool.not_eq_true, Bool.not_eq_false, Int.not_lt, Int.not_le, gt_iff_lt, ge_iff_le, Nat.not_lt, Nat.not_le, Decidable.not_not, Bool.not_eq_eq_eq_not, Bool.not_true, Bool.not_false, cond_true, cond_false, Bool.or_eq_true, Bool.and_eq_true, Bool.or_eq_false_iff, Bool.and_eq_false_iff] at hh) <;> (try simp (disch := omega) only [Int.tdiv_eq_ediv_of_nonneg, Int.tmod_eq_emod_of_nonneg] at hh))
    | fail) <;> (conv => whnf)))
  all_goals (try (show _ = _; simp only [sI_eq, sB_eq, sS_eq, sN_eq]))
  · rw [hm, hn, if_pos (by assumption)]; simp
  · rw [hm, hn, if_neg (by simp [*])]
theorem at_all {α : Type} [Inhabited α] {p : α → Bool} {l : List α} {i : Nat} (h : l.all p = true) (hi : i < l.length) : p (l.getD (Int.toNat (i : Int)) default) = true := by
  rw [show Int.toNat (i : Int) = i from rfl, List.getD_eq_getElem?_getD, List.getElem?_eq_getElem hi]
  exact List.all_eq_true.1 h _ (List.getElem_mem hi)
theorem codes_len (e : Int) : (codesL.getD (Int.toNat e) []).length ≤ 10 := by
  rw [List.getD_eq_getElem?_getD]
  cases h : codesL[e.toNat]? with
  | none => exact Nat.zero_le _
  | some w =>
    have : ∀ w ∈ codesL, w.length ≤ 10 := by decide
    exact this w (List.mem_of_getElem? h)
def D_couponref26_Lines : PT := tabD [(48, pcMayAns), (15, pcCodes), (49, pcNum), (50, pcTicketR), (51, pcPText), (52, pcLoanR)]
def C_couponref26_Lines : FuncId → Option Ctr := tabC D_couponref26_Lines []
def L_couponref26_Lines : Told → Nat → Option LR := fun t i => cond (Nat.beq i 5) (some (.inv (LLn t t.answer.tickets.length 19 [1, 3, 4] (fun i o => [.ptr 0 0, o, .int .i64 i]) (fun i => [lineHd t] ++ (t.answer.tickets.take i).map ticketW)))) (cond (Nat.beq i 9) (some (.inv (LLn t t.answer.postings.length 20 [1, 3, 5] (fun i o => [.ptr 0 0, o, .int .i64 i]) (fun i => [lineHd t] ++ t.answer.tickets.map ticketW ++ (t.answer.postings.take i).map postText)))) (cond (Nat.beq i 13) (some (.inv (LLn t t.answer.loans.length 21 [1, 3, 6] (fun i o => [.ptr 0 0, o, .int .i64 i]) (fun i => [lineHd t] ++ t.answer.tickets.map ticketW ++ t.answer.postings.map postText ++ (t.answer.loans.take i).map loanW)))) (none)))
set_option maxHeartbeats 2000000 in
theorem g_couponref26_Lines {W : World} (hW : Tabs W) : GoodP (Fw W) Tryz.prog 14 pcLines := by
  have hD : PTOk (Fw W) Tryz.prog D_couponref26_Lines := (tabD_cons Tryz.call48 (g_couponref16_MayAnswer hW) (tabD_cons Tryz.call15 (g_couponref26_Codes hW) (tabD_cons Tryz.call49 (g_couponref26_num hW) (tabD_cons Tryz.call50 (g_couponref26_TicketLine hW) (tabD_cons Tryz.call51 (g_couponref14_Text hW) (tabD_cons Tryz.call52 (g_couponref26_LoanLine hW) tabD_nil))))))
  have hC0 : ∀ t : Told, CtrOk (Fw W) Tryz.prog (C_couponref26_Lines) := fun t => (tabC_nil hD)
  refine goodP_ofC (D := D_couponref26_Lines) (C := fun t => C_couponref26_Lines) (wr := (fun _ => false)) rfl tyOk hD hC0 Tryz.func14 (L_couponref26_Lines) (fun _ => rfl) ?_
  intro t hf hp
  have hcame : -9223372036854775808 ≤ t.came ∧ t.came ≤ 9223372036854775807 := by
    simp only [factL, factA, and_true] at hf
    exact inK_def.1 hf.2.2.2.2.2.1
  clear hf
  have k1 := itoa_len t.came hcame.1 hcame.2
  have k2 := codeW_len t.code
  have k3 := codeW_len t.answer.code
  have hn1 : codeW t.code ≠ [] ↔ 0 ≤ t.code ∧ t.code ≤ 17 := ⟨fun h => Decidable.of_not_not fun hn => h (codeW_nil hn), fun h => (codeW_ne h).1⟩
  have hbad : toldOk t = false → (sL (linesL t)).length = 0 := fun h => by rw [sL_eq]; unfold linesL; rw [if_neg (by rw [h]; exact Bool.false_ne_true)]; rfl
  have hok : toldOk t = (decide (0 ≤ t.code) && decide (t.code ≤ 17) && mayAnsB t.answer && decide (0 ≤ t.came)) := by unfold toldOk; rfl
  have k4 := codes_len t.code
  have k5 := codes_len t.answer.code
  clear k2 k3 hn1
  by_cases hmay : mayAnsB t.answer = true
  · obtain ⟨f1, f2, f3, f4, f5, f6, f7⟩ := mayAns_facts hmay
    have hex : ¬ mayAnsB t.answer = false := by rw [hmay]; simp
    (conv => whnf)
    (repeat' ((first
      | (split <;> rename_i hh <;> (try simp only [ble_true, ble_false, beq_true, beq_false, sI_eq, sB_eq, sS_eq, sN_eq, ltI_eq, leI_eq, eqI_eq, decide_eq_true_eq, decide_eq_false_iff_not, beq_iff_eq, bne_iff_ne, ne_eq, beq_eq_false_iff_ne, bne_eq_false_iff_eq, Bool.not_eq_true, Bool.not_eq_false, Int.not_lt, Int.not_le, gt_iff_lt, ge_iff_le, Nat.not_lt, Nat.not_le, Decidable.not_not, Bool.not_eq_eq_eq_not, Bool.not_true, Bool.not_false, cond_true, cond_false, Bool.or_eq_true, Bool.and_eq_true, Bool.or_eq_false_iff, Bool.and_eq_false_iff] at hh) <;> (try simp (disch := omega) only [Int.tdiv_eq_ediv_of_nonneg, Int.tmod_eq_emod_of_nonneg] at hh))
      | fail) <;> (conv => whnf)))
    all_goals (try (show _ = _; simp only [sI_eq, sB_eq, sS_eq, sN_eq]))
    · refine hbad ?_
      rw [hok]; refine Bool.eq_false_iff.2 fun h => ?_
      simp only [Bool.and_eq_true, decide_eq_true_eq] at h
      omega
    · refine hbad ?_
      rw [hok]; refine Bool.eq_false_iff.2 fun h => ?_
      simp only [Bool.and_eq_true, decide_eq_true_eq] at h
      omega
    refine ⟨t.answer, True.intro, ?_, ?_⟩
    · (conv => whnf)
      (repeat' ((first | with_reducible exact True.intro | ((with_reducible refine And.intro ?_ ?_); focus (first | with_reducible rfl | omega | exact Nat.le_of_ble_eq_true rfl | rfl)) | with_reducible refine And.intro (?_ : leA _ _ _) ?_ | fail) <;> (conv => whnf)))
      all_goals (try simp only [sI_eq, sB_eq, sS_eq, sN_eq])
      all_goals (try first | exact ⟨fun h => h, fun _ _ => True.intro⟩)
    (conv => whnf)
    (repeat' ((first
      | (exact absurd (by with_reducible assumption) hex)
      | ((with_reducible refine And.intro ?_ ?_); focus (first | with_reducible exact True.intro | ((with_reducible show okB _ _ _ = true); rfl) | omega | (simp only [List.length_append, bytesOf_length, List.toList_toArray, List.length_cons, List.length_nil, List.length_take, List.length_drop, sS_eq]; omega)))
      | (split <;> rename_i hh <;> (try simp only [ble_true, ble_false, beq_true, beq_false, sI_eq, sB_eq, sS_eq, sN_eq, ltI_eq, leI_eq, eqI_eq, decide_eq_true_eq, decide_eq_false_iff_not, beq_iff_eq, bne_iff_ne, ne_eq, beq_eq_false_iff_ne, bne_eq_false_iff_eq, Bool.not_eq_true, Bool.not_eq_false, Int.not_lt, Int.not_le, gt_iff_lt, ge_iff_le, Nat.not_lt, Nat.not_le, Decidable.not_not, Bool.not_eq_eq_eq_not, Bool.not_true, Bool.not_false, cond_true, cond_false, Bool.or_eq_true, Bool.and_eq_true, Bool.or_eq_false_iff, Bool.and_eq_false_iff] at hh) <;> (try simp (disch := omega) only [Int.tdiv_eq_ediv_of_nonneg, Int.tmod_eq_emod_of_nonneg] at hh))
      | fail) <;> (conv => whnf)))
    all_goals (try (show _ = _; simp only [sI_eq, sB_eq, sS_eq, sN_eq]))
    · refine hbad ?_
      rw [hok]; refine Bool.eq_false_iff.2 fun h => ?_
      simp only [Bool.and_eq_true, decide_eq_true_eq] at h
      omega
    have hlin : linesL t = [lineHd t] ++ t.answer.tickets.map ticketW ++ t.answer.postings.map postText ++ t.answer.loans.map loanW := by
      unfold linesL; rw [if_pos]
      rw [hok, hmay]; simp; omega
    have hhd : lineHd t = codesL.getD (Int.toNat t.code) [] ++ [32] ++ codesL.getD (Int.toNat t.answer.code) [] ++ [32] ++ Lib.itoa t.came := by
      unfold lineHd codeW; rw [if_pos (by omega), if_pos f4]
    refine ⟨?_, fun (x : Nat × List (List UInt8)) hx => ?_⟩
    · (conv => whnf)
      refine ⟨((0, [lineHd t]) : Nat × List (List UInt8)), [18], ?_, ⟨⟨rfl, Nat.le_of_ble_eq_true rfl, rfl⟩, ?_, ?_⟩⟩
      · exact ⟨Nat.zero_le _, by simp⟩
      · (conv => whnf)
        (repeat' ((first | with_reducible exact True.intro | ((with_reducible refine And.intro ?_ ?_); focus (first | with_reducible rfl | omega | exact Nat.le_of_ble_eq_true rfl | rfl)) | with_reducible refine And.intro (?_ : leA _ _ _) ?_ | fail) <;> (conv => whnf)))
        all_goals (try simp only [sI_eq, sB_eq, sS_eq, sN_eq])
        all_goals (try first | omega | exact Or.inl True.intro)
      · (conv => whnf)
        (repeat' ((first | with_reducible exact True.intro | ((with_reducible refine And.intro ?_ ?_); focus (first | with_reducible rfl | omega | exact Nat.le_of_ble_eq_true rfl | rfl)) | with_reducible refine And.intro (?_ : leA _ _ _) ?_ | with_reducible refine And.intro (?_ : leL _ _ _) ?_ | with_reducible refine And.intro (?_ : leBlk _ _ _ _) ?_ | fail) <;> (conv => whnf)))
        all_goals (try simp only [sI_eq, sB_eq, sS_eq, sN_eq])
        all_goals (try first | rfl | exact ⟨fun h => h, fun _ _ => True.intro⟩)
        intro e he; obtain rfl : e = 0 := (by change e < 1 at he; omega); exact ⟨by rw [hhd]; rfl, rfl⟩
    · obtain ⟨i, L⟩ := x
      obtain ⟨h1, h2⟩ := hx
      change i ≤ t.answer.tickets.length at h1
      change L = [lineHd t] ++ (t.answer.tickets.take i).map ticketW at h2
      have hL : L.length ≤ 6000 := by rw [h2]; simp; omega
      (conv => whnf)
      (repeat' ((first
        | ((with_reducible refine And.intro ?_ ?_); focus (omega))
        | (split <;> rename_i hh <;> (try simp only [ble_true, ble_false, beq_true, beq_false, sI_eq, sB_eq, sS_eq, sN_eq, ltI_eq, leI_eq, eqI_eq, decide_eq_true_eq, decide_eq_false_iff_not, beq_iff_eq, bne_iff_ne, ne_eq, beq_eq_false_iff_ne, bne_eq_false_iff_eq, Bool.not_eq_true, Bool.not_eq_false, Int.not_lt, Int.not_le, gt_iff_lt, ge_iff_le, Nat.not_lt, Nat.not_le, Decidable.not_not, Bool.not_eq_eq_eq_not, Bool.not_true, Bool.not_false, cond_true, cond_false, Bool.or_eq_true, Bool.and_eq_true, Bool.or_eq_false_iff, Bool.and_eq_false_iff] at hh) <;> (try simp (disch := omega) only [Int.tdiv_eq_ediv_of_nonneg, Int.tmod_eq_emod_of_nonneg] at hh))
        | with_reducible refine (fun (hln : (_ : Int) ≤ 9223372036854775807) => ?_)
        | fail) <;> (conv => whnf)))
      all_goals (try (show _ = _; simp only [sI_eq, sB_eq, sS_eq, sN_eq]))
      · refine ⟨(t.answer.tickets.getD (Int.toNat (i : Int)) default), (at_all f5 (by omega)), ?_, ?_⟩
        · (conv => whnf)
          (repeat' ((first | with_reducible exact True.intro | ((with_reducible refine And.intro ?_ ?_); focus (first | with_reducible rfl | omega | exact Nat.le_of_ble_eq_true rfl | rfl)) | with_reducible refine And.intro (?_ : leA _ _ _) ?_ | fail) <;> (conv => whnf)))
          all_goals (try simp only [sI_eq, sB_eq, sS_eq, sN_eq])
          all_goals (try first | exact ⟨fun h => h, fun _ _ => True.intro⟩)
        (conv => whnf)
        (repeat' ((first
          | ((with_reducible refine And.intro ?_ ?_); focus (first | ((with_reducible refine ⟨?_, ?_, ?_⟩) <;> first | (intro e he; rcases (by omega : e = 0 ∨ e = 1 ∨ e = 2 ∨ e = 3 ∨ e = 4 ∨ e = 5) with rfl | rfl | rfl | rfl | rfl | rfl <;> first | rfl | (exfalso; omega)) | (with_reducible assumption) | omega | ((with_reducible show growOk _ _); simp only [growOk, ty2, ty3, ty4, ty5, ty9, ty21, ty37, ty42, ty43, ty45, ty47, ty67, ty95, ty105, ty113, ty150, ty161, ty198, ty242, ty275, List.length_cons, List.length_nil]; first | omega | (refine ⟨?_, ?_⟩ <;> omega))) | omega | (simp only [inK_def, Go.Vc.lo, Go.Vc.hi]; omega)))
          | fail) <;> (conv => whnf)))
        all_goals (try (show _ = _; simp only [sI_eq, sB_eq, sS_eq, sN_eq]))
        (conv => whnf)
        refine ⟨((i + 1, L ++ [ticketW (t.answer.tickets.getD (Int.toNat (i : Int)) default)]) : Nat × List (List UInt8)), [21], ?_, ⟨⟨rfl, Nat.le_of_ble_eq_true rfl, rfl⟩, ?_, ?_⟩⟩
        · exact ⟨⟨show i + 1 ≤ t.answer.tickets.length by omega, show L ++ _ = _ by rw [h2]; exact map_step (by omega)⟩, show t.answer.tickets.length - (i + 1) < t.answer.tickets.length - i by omega⟩
        · (conv => whnf)
          (repeat' ((first | with_reducible exact True.intro | ((with_reducible refine And.intro ?_ ?_); focus (first | with_reducible rfl | omega | exact Nat.le_of_ble_eq_true rfl | rfl)) | with_reducible refine And.intro (?_ : leA _ _ _) ?_ | fail) <;> (conv => whnf)))
          all_goals (try simp only [sI_eq, sB_eq, sS_eq, sN_eq])
          all_goals (try first | omega)
          all_goals (try first | exact ⟨by simp, Or.inl trivial⟩)
        · (conv => whnf)
          (repeat' ((first | with_reducible exact True.intro | ((with_reducible refine And.intro ?_ ?_); focus (first | with_reducible rfl | omega | exact Nat.le_of_ble_eq_true rfl | rfl)) | with_reducible refine And.intro (?_ : leA _ _ _) ?_ | with_reducible refine And.intro (?_ : leL _ _ _) ?_ | with_reducible refine And.intro (?_ : leBlk _ _ _ _) ?_ | fail) <;> (conv => whnf)))
          all_goals (try simp only [sI_eq, sB_eq, sS_eq, sN_eq])
          all_goals (try first | rfl | exact ⟨fun h => h, fun _ _ => True.intro⟩)
          all_goals (try first | exact ⟨by simp, fun e he => ⟨cat_str rfl he, rfl⟩⟩)
      · have hi : i = t.answer.tickets.length := by omega
        rw [hi, List.take_length] at h2
        clear h1 hL
        refine ⟨?_, fun (x : Nat × List (List UInt8)) hx => ?_⟩
        · (conv => whnf)
          refine ⟨((0, L) : Nat × List (List UInt8)), [19], ?_, ⟨⟨rfl, Nat.le_of_ble_eq_true rfl, rfl⟩, ?_, ?_⟩⟩
          · exact ⟨Nat.zero_le _, by rw [h2]; simp⟩
          · (conv => whnf)
            (repeat' ((first | with_reducible exact True.intro | ((with_reducible refine Or.inr ?_); rfl) | ((with_reducible refine And.intro ?_ ?_); focus (first | with_reducible rfl | omega | exact Nat.le_of_ble_eq_true rfl | rfl)) | with_reducible refine And.intro (?_ : leA _ _ _) ?_ | fail) <;> (conv => whnf)))
            all_goals (try simp only [sI_eq, sB_eq, sS_eq, sN_eq])
            all_goals (try first | omega)
          · (conv => whnf)
            (repeat' ((first | with_reducible exact True.intro | ((with_reducible refine And.intro ?_ ?_); focus (first | with_reducible rfl | omega | exact Nat.le_of_ble_eq_true rfl | rfl)) | with_reducible refine And.intro (?_ : leA _ _ _) ?_ | with_reducible refine And.intro (?_ : leL _ _ _) ?_ | with_reducible refine And.intro (?_ : leBlk _ _ _ _) ?_ | fail) <;> (conv => whnf)))
            all_goals (try simp only [sI_eq, sB_eq, sS_eq, sN_eq])
            all_goals (try first | rfl | exact ⟨fun h => h, fun _ _ => True.intro⟩)
            all_goals (try first | exact ⟨Nat.le_refl _, fun _ _ => ⟨True.intro, rfl⟩⟩)
        · obtain ⟨i, L⟩ := x
          obtain ⟨h1, h2⟩ := hx
          change i ≤ t.answer.postings.length at h1
          change L = [lineHd t] ++ t.answer.tickets.map ticketW ++ (t.answer.postings.take i).map postText at h2
          have hL : L.length ≤ 6000 := by rw [h2]; simp; omega
          (conv => whnf)
          (repeat' ((first
            | ((with_reducible refine And.intro ?_ ?_); focus (first | with_reducible exact True.intro | ((with_reducible refine ⟨?_, ?_, ?_⟩) <;> first | (intro e he; rcases (by omega : e = 0 ∨ e = 1 ∨ e = 2 ∨ e = 3 ∨ e = 4 ∨ e = 5) with rfl | rfl | rfl | rfl | rfl | rfl <;> first | rfl | (exfalso; omega)) | (with_reducible assumption) | omega | ((with_reducible show growOk _ _); simp only [growOk, ty2, ty3, ty4, ty5, ty9, ty21, ty37, ty42, ty43, ty45, ty47, ty67, ty95, ty105, ty113, ty150, ty161, ty198, ty242, ty275, List.length_cons, List.length_nil]; first | omega | (refine ⟨?_, ?_⟩ <;> omega))) | omega | (simp only [inK_def, Go.Vc.lo, Go.Vc.hi]; omega)))
            | (split <;> rename_i hh <;> (try simp only [ble_true, ble_false, beq_true, beq_false, sI_eq, sB_eq, sS_eq, sN_eq, ltI_eq, leI_eq, eqI_eq, decide_eq_true_eq, decide_eq_false_iff_not, beq_iff_eq, bne_iff_ne, ne_eq, beq_eq_false_iff_ne, bne_eq_false_iff_eq, Bool.not_eq_true, Bool.not_eq_false, Int.not_lt, Int.not_le, gt_iff_lt, ge_iff_le, Nat.not_lt, Nat.not_le, Decidable.not_not, Bool.not_eq_eq_eq_not, Bool.not_true, Bool.not_false, cond_true, cond_false, Bool.or_eq_true, Bool.and_eq_true, Bool.or_eq_false_iff, Bool.and_eq_false_iff] at hh) <;> (try simp (disch := omega) only [Int.tdiv_eq_ediv_of_nonneg, Int.tmod_eq_emod_of_nonneg] at hh))
            | with_reducible refine (fun (hln : (_ : Int) ≤ 9223372036854775807) => ?_)
            | fail) <;> (conv => whnf)))
          all_goals (try (show _ = _; simp only [sI_eq, sB_eq, sS_eq, sN_eq]))
          · (conv => whnf)
            refine ⟨((i + 1, L ++ [postText (t.answer.postings.getD (Int.toNat (i : Int)) default)]) : Nat × List (List UInt8)), [22], ?_, ⟨⟨rfl, Nat.le_of_ble_eq_true rfl, rfl⟩, ?_, ?_⟩⟩
            · exact ⟨⟨show i + 1 ≤ t.answer.postings.length by omega, show L ++ _ = _ by rw [h2]; exact map_step (by omega)⟩, show t.answer.postings.length - (i + 1) < t.answer.postings.length - i by omega⟩
            · (conv => whnf)
              (repeat' ((first | with_reducible exact True.intro | ((with_reducible refine And.intro ?_ ?_); focus (first | with_reducible rfl | omega | exact Nat.le_of_ble_eq_true rfl | rfl)) | with_reducible refine And.intro (?_ : leA _ _ _) ?_ | fail) <;> (conv => whnf)))
              all_goals (try simp only [sI_eq, sB_eq, sS_eq, sN_eq])
              all_goals (try first | omega)
              all_goals (try first | exact ⟨by simp, Or.inl trivial⟩)
            · (conv => whnf)
              (repeat' ((first | with_reducible exact True.intro | ((with_reducible refine And.intro ?_ ?_); focus (first | with_reducible rfl | omega | exact Nat.le_of_ble_eq_true rfl | rfl)) | with_reducible refine And.intro (?_ : leA _ _ _) ?_ | with_reducible refine And.intro (?_ : leL _ _ _) ?_ | with_reducible refine And.intro (?_ : leBlk _ _ _ _) ?_ | fail) <;> (conv => whnf)))
              all_goals (try simp only [sI_eq, sB_eq, sS_eq, sN_eq])
              all_goals (try first | rfl | exact ⟨fun h => h, fun _ _ => True.intro⟩)
              all_goals (try first | exact ⟨by simp, fun e he => ⟨cat_str rfl he, rfl⟩⟩)
          · have hi : i = t.answer.postings.length := by omega
            rw [hi, List.take_length] at h2
            clear h1 hL
            refine ⟨?_, fun (x : Nat × List (List UInt8)) hx => ?_⟩
            · (conv => whnf)
              refine ⟨((0, L) : Nat × List (List UInt8)), [20], ?_, ⟨⟨rfl, Nat.le_of_ble_eq_true rfl, rfl⟩, ?_, ?_⟩⟩
              · exact ⟨Nat.zero_le _, by rw [h2]; simp⟩
              · (conv => whnf)
                (repeat' ((first | with_reducible exact True.intro | ((with_reducible refine Or.inr ?_); rfl) | ((with_reducible refine And.intro ?_ ?_); focus (first | with_reducible rfl | omega | exact Nat.le_of_ble_eq_true rfl | rfl)) | with_reducible refine And.intro (?_ : leA _ _ _) ?_ | fail) <;> (conv => whnf)))
                all_goals (try simp only [sI_eq, sB_eq, sS_eq, sN_eq])
                all_goals (try first | omega)
              · (conv => whnf)
                (repeat' ((first | with_reducible exact True.intro | ((with_reducible refine And.intro ?_ ?_); focus (first | with_reducible rfl | omega | exact Nat.le_of_ble_eq_true rfl | rfl)) | with_reducible refine And.intro (?_ : leA _ _ _) ?_ | with_reducible refine And.intro (?_ : leL _ _ _) ?_ | with_reducible refine And.intro (?_ : leBlk _ _ _ _) ?_ | fail) <;> (conv => whnf)))
                all_goals (try simp only [sI_eq, sB_eq, sS_eq, sN_eq])
                all_goals (try first | rfl | exact ⟨fun h => h, fun _ _ => True.intro⟩)
                all_goals (try first | exact ⟨Nat.le_refl _, fun _ _ => ⟨True.intro, rfl⟩⟩)
            · obtain ⟨i, L⟩ := x
              obtain ⟨h1, h2⟩ := hx
              change i ≤ t.answer.loans.length at h1
              change L = [lineHd t] ++ t.answer.tickets.map ticketW ++ t.answer.postings.map postText ++ (t.answer.loans.take i).map loanW at h2
              have hL : L.length ≤ 6000 := by rw [h2]; simp; omega
              (conv => whnf)
              (repeat' ((first
                | ((with_reducible refine And.intro ?_ ?_); focus (omega))
                | (split <;> rename_i hh <;> (try simp only [ble_true, ble_false, beq_true, beq_false, sI_eq, sB_eq, sS_eq, sN_eq, ltI_eq, leI_eq, eqI_eq, decide_eq_true_eq, decide_eq_false_iff_not, beq_iff_eq, bne_iff_ne, ne_eq, beq_eq_false_iff_ne, bne_eq_false_iff_eq, Bool.not_eq_true, Bool.not_eq_false, Int.not_lt, Int.not_le, gt_iff_lt, ge_iff_le, Nat.not_lt, Nat.not_le, Decidable.not_not, Bool.not_eq_eq_eq_not, Bool.not_true, Bool.not_false, cond_true, cond_false, Bool.or_eq_true, Bool.and_eq_true, Bool.or_eq_false_iff, Bool.and_eq_false_iff] at hh) <;> (try simp (disch := omega) only [Int.tdiv_eq_ediv_of_nonneg, Int.tmod_eq_emod_of_nonneg] at hh))
                | with_reducible refine (fun (hln : (_ : Int) ≤ 9223372036854775807) => ?_)
                | fail) <;> (conv => whnf)))
              all_goals (try (show _ = _; simp only [sI_eq, sB_eq, sS_eq, sN_eq]))
              · refine ⟨(t.answer.loans.getD (Int.toNat (i : Int)) default), (at_all f7 (by omega)), ?_, ?_⟩
                · (conv => whnf)
                  (repeat' ((first | with_reducible exact True.intro | ((with_reducible refine And.intro ?_ ?_); focus (first | with_reducible rfl | omega | exact Nat.le_of_ble_eq_true rfl | rfl)) | with_reducible refine And.intro (?_ : leA _ _ _) ?_ | fail) <;> (conv => whnf)))
                  all_goals (try simp only [sI_eq, sB_eq, sS_eq, sN_eq])
                (conv => whnf)
                (repeat' ((first
                  | ((with_reducible refine And.intro ?_ ?_); focus (first | ((with_reducible refine ⟨?_, ?_, ?_⟩) <;> first | (intro e he; rcases (by omega : e = 0 ∨ e = 1 ∨ e = 2 ∨ e = 3 ∨ e = 4 ∨ e = 5) with rfl | rfl | rfl | rfl | rfl | rfl <;> first | rfl | (exfalso; omega)) | (with_reducible assumption) | omega | ((with_reducible show growOk _ _); simp only [growOk, ty2, ty3, ty4, ty5, ty9, ty21, ty37, ty42, ty43, ty45, ty47, ty67, ty95, ty105, ty113, ty150, ty161, ty198, ty242, ty275, List.length_cons, List.length_nil]; first | omega | (refine ⟨?_, ?_⟩ <;> omega))) | omega | (simp only [inK_def, Go.Vc.lo, Go.Vc.hi]; omega)))
                  | fail) <;> (conv => whnf)))
                all_goals (try (show _ = _; simp only [sI_eq, sB_eq, sS_eq, sN_eq]))
                (conv => whnf)
                refine ⟨((i + 1, L ++ [loanW (t.answer.loans.getD (Int.toNat (i : Int)) default)]) : Nat × List (List UInt8)), [23], ?_, ⟨⟨rfl, Nat.le_of_ble_eq_true rfl, rfl⟩, ?_, ?_⟩⟩
                · exact ⟨⟨show i + 1 ≤ t.answer.loans.length by omega, show L ++ _ = _ by rw [h2]; exact map_step (by omega)⟩, show t.answer.loans.length - (i + 1) < t.answer.loans.length - i by omega⟩
                · (conv => whnf)
                  (repeat' ((first | with_reducible exact True.intro | ((with_reducible refine And.intro ?_ ?_); focus (first | with_reducible rfl | omega | exact Nat.le_of_ble_eq_true rfl | rfl)) | with_reducible refine And.intro (?_ : leA _ _ _) ?_ | fail) <;> (conv => whnf)))
                  all_goals (try simp only [sI_eq, sB_eq, sS_eq, sN_eq])
                  all_goals (try first | omega)
                  all_goals (try first | exact ⟨by simp, Or.inl trivial⟩)
                · (conv => whnf)
                  (repeat' ((first | with_reducible exact True.intro | ((with_reducible refine And.intro ?_ ?_); focus (first | with_reducible rfl | omega | exact Nat.le_of_ble_eq_true rfl | rfl)) | with_reducible refine And.intro (?_ : leA _ _ _) ?_ | with_reducible refine And.intro (?_ : leL _ _ _) ?_ | with_reducible refine And.intro (?_ : leBlk _ _ _ _) ?_ | fail) <;> (conv => whnf)))
                  all_goals (try simp only [sI_eq, sB_eq, sS_eq, sN_eq])
                  all_goals (try first | rfl | exact ⟨fun h => h, fun _ _ => True.intro⟩)
                  all_goals (try first | exact ⟨by simp, fun e he => ⟨cat_str rfl he, rfl⟩⟩)
              · have hi : i = t.answer.loans.length := by omega
                rw [hi, List.take_length] at h2
                refine ⟨⟨by omega, fun e he => rfl⟩, ?_⟩
                (conv => whnf)
                (repeat' ((first
                  | ((with_reducible refine And.intro ?_ ?_); focus (with_reducible rfl))
                  | fail) <;> (conv => whnf)))
                all_goals (try (show _ = _; simp only [sI_eq, sB_eq, sS_eq, sN_eq]))
                refine ⟨?_, fun h => h, fun e he => ?_⟩
                · rw [sL_eq, hlin, ← h2]
                · show [AV.str (L.getD (0 + e) [])] = _; rw [sL_eq, hlin, ← h2, Nat.zero_add]
  · have hex : ¬ mayAnsB t.answer = true := hmay
    have hb : toldOk t = false := by rw [hok, Bool.eq_false_iff.2 hmay]; simp
    (conv => whnf)
    (repeat' ((first
      | (split <;> rename_i hh <;> (try simp only [ble_true, ble_false, beq_true, beq_false, sI_eq, sB_eq, sS_eq, sN_eq, ltI_eq, leI_eq, eqI_eq, decide_eq_true_eq, decide_eq_false_iff_not, beq_iff_eq, bne_iff_ne, ne_eq, beq_eq_false_iff_ne, bne_eq_false_iff_eq, Bool.not_eq_true, Bool.not_eq_false, Int.not_lt, Int.not_le, gt_iff_lt, ge_iff_le, Nat.not_lt, Nat.not_le, Decidable.not_not, Bool.not_eq_eq_eq_not, Bool.not_true, Bool.not_false, cond_true, cond_false, Bool.or_eq_true, Bool.and_eq_true, Bool.or_eq_false_iff, Bool.and_eq_false_iff] at hh) <;> (try simp (disch := omega) only [Int.tdiv_eq_ediv_of_nonneg, Int.tmod_eq_emod_of_nonneg] at hh))
      | fail) <;> (conv => whnf)))
    all_goals (try (show _ = _; simp only [sI_eq, sB_eq, sS_eq, sN_eq]))
    · exact hbad hb
    · exact hbad hb
    refine ⟨t.answer, True.intro, ?_, ?_⟩
    · (conv => whnf)
      (repeat' ((first | with_reducible exact True.intro | ((with_reducible refine And.intro ?_ ?_); focus (first | with_reducible rfl | omega | exact Nat.le_of_ble_eq_true rfl | rfl)) | with_reducible refine And.intro (?_ : leA _ _ _) ?_ | fail) <;> (conv => whnf)))
      all_goals (try simp only [sI_eq, sB_eq, sS_eq, sN_eq])
      all_goals (try first | exact ⟨fun h => h, fun _ _ => True.intro⟩)
    (conv => whnf)
    (repeat' ((first
      | (exact absurd (by with_reducible assumption) hex)
      | (split <;> rename_i hh <;> (try simp only [ble_true, ble_false, beq_true, beq_false, sI_eq, sB_eq, sS_eq, sN_eq, ltI_eq, leI_eq, eqI_eq, decide_eq_true_eq, decide_eq_false_iff_not, beq_iff_eq, bne_iff_ne, ne_eq, beq_eq_false_iff_ne, bne_eq_false_iff_eq, Bool.not_eq_true, Bool.not_eq_false, Int.not_lt, Int.not_le, gt_iff_lt, ge_iff_le, Nat.not_lt, Nat.not_le, Decidable.not_not, Bool.not_eq_eq_eq_not, Bool.not_true, Bool.not_false, cond_true, cond_false, Bool.or_eq_true, Bool.and_eq_true, Bool.or_eq_false_iff, Bool.and_eq_false_iff] at hh) <;> (try simp (disch := omega) only [Int.tdiv_eq_ediv_of_nonneg, Int.tmod_eq_emod_of_nonneg] at hh))
      | fail) <;> (conv => whnf)))
    all_goals (try (show _ = _; simp only [sI_eq, sB_eq, sS_eq, sN_eq]))
    exact hbad hb
end
end Go.Vc.Z

/- Much. -/
namespace Go.Vc.Z
open Go Go.Vc Go.Proofs Go.RowKit Go.Pl Go.Lib
noncomputable section
set_option maxRecDepth 100000
set_option linter.unusedSimpArgs false
set_option linter.unusedVariables false
attribute [local irreducible] inK Utf8.decode Utf8.encode Lib.itoa Pl.worth Pl.allDig
@[irreducible] def muchT (t : Ticket) : Bool := decide (20 < t.coupons.length) || decide (20 < t.taxes.length) || decide (100 < t.history.length) || decide (100 < t.locator.length)
@[irreducible] def muchA (a : Answer) : Bool := a.tickets.any muchT || decide (300 < a.tickets.length) || decide (6000 < a.postings.length) || decide (300 < a.loans.length)
def pcMuchT : PC := PC.of (fun t : Ticket => [.agg t.enc]) (fun _ => True) (fun t => .bool (sB (muchT t)))
def pcMuchA : PC := PC.of (fun a : Answer => [.agg a.enc]) (fun _ => True) (fun a => .bool (sB (muchA a)))
def D_couponref13_Much : PT := tabD []
def C_couponref13_Much : FuncId → Option Ctr := tabC D_couponref13_Much []
theorem g_couponref13_Much {W : World} (hW : Tabs W) : GoodP (Fw W) Tryz.prog 17 pcMuchT := by
  have hD : PTOk (Fw W) Tryz.prog D_couponref13_Much := tabD_nil
  have hC0 : ∀ t : Ticket, CtrOk (Fw W) Tryz.prog (C_couponref13_Much) := fun t => (tabC_nil hD)
  refine goodP_ofC (D := D_couponref13_Much) (C := fun t => C_couponref13_Much) (wr := (fun _ => false)) rfl tyOk hD hC0 Tryz.func17 (fun _ _ => none) (fun _ => rfl) ?_
  intro t hf hp
  clear hf
  have hm : muchT t = (decide (20 < t.coupons.length) || decide (20 < t.taxes.length) || decide (100 < t.history.length) || decide (100 < t.locator.length)) := by unfold muchT; rfl
  (conv => whnf)
  (repeat' ((first
    | (split <;> rename_i hh <;> (try simp only [ble_true, ble_false, beq_true, beq_false, sI_eq, sB_eq, sS_eq, sN_eq, ltI_eq, leI_eq, eqI_eq, decide_eq_true_eq, decide_eq_false_iff_not, beq_iff_eq, bne_iff_ne, ne_eq, beq_eq_false_iff_ne, bne_eq_false_iff_eq, Bool.not_eq_true, Bool.not_eq_false, Int.not_lt, Int.not_le, gt_iff_lt, ge_iff_le, Nat.not_lt, Nat.not_le, Decidable.not_not, Bool.not_eq_eq_eq_not, Bool.not_true, Bool.not_false, cond_true, cond_false, Bool.or_eq_true, Bool.and_eq_true, Bool.or_eq_false_iff, Bool.and_eq_false_iff] at hh) <;> (try simp (disch := omega) only [Int.tdiv_eq_ediv_of_nonneg, Int.tmod_eq_emod_of_nonneg] at hh))
    | with_reducible refine (fun (hln : (_ : Int) ≤ 9223372036854775807) => ?_)
    | fail) <;> (conv => whnf)))
  all_goals (try (show _ = _; simp only [sI_eq, sB_eq, sS_eq, sN_eq]))
  · rw [hm, decide_eq_true (show 20 < t.coupons.length by omega)]; simp
  · rw [hm, decide_eq_true (show 20 < t.taxes.length by omega)]; simp
  · rw [hm, decide_eq_true (show 100 < t.history.length by omega)]; simp
  · rw [hm, ltI_eq, decide_eq_false (show ¬ 20 < t.coupons.length by omega), decide_eq_false (show ¬ 20 < t.taxes.length by omega), decide_eq_false (show ¬ 100 < t.history.length by omega)]
    simp only [Bool.false_or]; exact decide_eq_decide.2 ⟨fun h => by omega, fun h => by omega⟩
theorem any_at {α : Type} [Inhabited α] {p : α → Bool} {l : List α} {i : Nat} (h : p (l.getD (Int.toNat (i : Int)) default) = true) (hi : i < l.length) : l.any p = true := by
  rw [show Int.toNat (i : Int) = i from rfl, List.getD_eq_getElem?_getD, List.getElem?_eq_getElem hi] at h
  exact List.any_eq_true.2 ⟨_, List.getElem_mem hi, h⟩
theorem not_any {α : Type} [Inhabited α] {p : α → Bool} {l : List α} (h : ∀ j, j < l.length → p (l.getD j default) = false) : l.any p = false := by
  refine Bool.eq_false_iff.2 fun ha => ?_
  obtain ⟨x, hx, hp⟩ := List.any_eq_true.1 ha
  obtain ⟨i, hi, rfl⟩ := List.getElem_of_mem hx
  have := h i hi
  rw [List.getD_eq_getElem?_getD, List.getElem?_eq_getElem hi] at this
  rw [show (some l[i]).getD default = l[i] from rfl, hp] at this
  cases this
def D_couponref16_MuchAnswer : PT := tabD [(17, pcMuchT)]
def C_couponref16_MuchAnswer : FuncId → Option Ctr := tabC D_couponref16_MuchAnswer []
def L_couponref16_MuchAnswer : Answer → Nat → Option LR := fun a i => cond (Nat.beq i 2) (some (.inv (LMA a a.tickets.length [1, 3] (fun i => [.ptr 0 0, .int .i64 i]) (fun j => !muchT (a.tickets.getD j default))))) (none)
set_option maxHeartbeats 2000000 in
theorem g_couponref16_MuchAnswer {W : World} (hW : Tabs W) : GoodP (Fw W) Tryz.prog 11 pcMuchA := by
  have hD : PTOk (Fw W) Tryz.prog D_couponref16_MuchAnswer := (tabD_cons Tryz.call17 (g_couponref13_Much hW) tabD_nil)
  have hC0 : ∀ a : Answer, CtrOk (Fw W) Tryz.prog (C_couponref16_MuchAnswer) := fun a => (tabC_nil hD)
  refine goodP_ofC (D := D_couponref16_MuchAnswer) (C := fun a => C_couponref16_MuchAnswer) (wr := (fun _ => false)) rfl tyOk hD hC0 Tryz.func11 (L_couponref16_MuchAnswer) (fun _ => rfl) ?_
  intro a hf hp
  clear hf
  have hm : muchA a = (a.tickets.any muchT || decide (300 < a.tickets.length) || decide (6000 < a.postings.length) || decide (300 < a.loans.length)) := by unfold muchA; rfl
  (conv => whnf)
  all_goals (try (show _ = _; simp only [sI_eq, sB_eq, sS_eq, sN_eq]))
  refine ⟨?_, fun (i : Nat) hi => ?_⟩
  · (conv => whnf)
    refine ⟨(0 : Nat), [], ?_, ⟨⟨rfl, Nat.le_of_ble_eq_true rfl, rfl⟩, ?_, ?_⟩⟩
    · exact ⟨Nat.zero_le _, fun j hj => absurd hj (Nat.not_lt_zero _)⟩
    · (conv => whnf)
      (repeat' ((first | with_reducible exact True.intro | ((with_reducible refine And.intro ?_ ?_); focus (first | with_reducible rfl | omega | exact Nat.le_of_ble_eq_true rfl | rfl)) | with_reducible refine And.intro (?_ : leA _ _ _) ?_ | fail) <;> (conv => whnf)))
      all_goals (try simp only [sI_eq, sB_eq, sS_eq, sN_eq])
      all_goals (try first | omega)
    · (conv => whnf)
      (repeat' ((first | with_reducible exact True.intro | ((with_reducible refine And.intro ?_ ?_); focus (first | with_reducible rfl | omega | exact Nat.le_of_ble_eq_true rfl | rfl)) | with_reducible refine And.intro (?_ : leA _ _ _) ?_ | with_reducible refine And.intro (?_ : leL _ _ _) ?_ | with_reducible refine And.intro (?_ : leBlk _ _ _ _) ?_ | fail) <;> (conv => whnf)))
      all_goals (try simp only [sI_eq, sB_eq, sS_eq, sN_eq])
      all_goals (try first | rfl | exact ⟨fun h => h, fun _ _ => True.intro⟩)
  · obtain ⟨h1, h2⟩ := hi
    (conv => whnf)
    (repeat' ((first
      | ((with_reducible refine And.intro ?_ ?_); focus (omega))
      | (split <;> rename_i hh <;> (try simp only [ble_true, ble_false, beq_true, beq_false, sI_eq, sB_eq, sS_eq, sN_eq, ltI_eq, leI_eq, eqI_eq, decide_eq_true_eq, decide_eq_false_iff_not, beq_iff_eq, bne_iff_ne, ne_eq, beq_eq_false_iff_ne, bne_eq_false_iff_eq, Bool.not_eq_true, Bool.not_eq_false, Int.not_lt, Int.not_le, gt_iff_lt, ge_iff_le, Nat.not_lt, Nat.not_le, Decidable.not_not, Bool.not_eq_eq_eq_not, Bool.not_true, Bool.not_false, cond_true, cond_false, Bool.or_eq_true, Bool.and_eq_true, Bool.or_eq_false_iff, Bool.and_eq_false_iff] at hh) <;> (try simp (disch := omega) only [Int.tdiv_eq_ediv_of_nonneg, Int.tmod_eq_emod_of_nonneg] at hh))
      | with_reducible refine (fun (hln : (_ : Int) ≤ 9223372036854775807) => ?_)
      | fail) <;> (conv => whnf)))
    all_goals (try (show _ = _; simp only [sI_eq, sB_eq, sS_eq, sN_eq]))
    · refine ⟨(a.tickets.getD (Int.toNat (i : Int)) default), True.intro, ?_, ?_⟩
      · (conv => whnf)
        (repeat' ((first | with_reducible exact True.intro | ((with_reducible refine And.intro ?_ ?_); focus (first | with_reducible rfl | omega | exact Nat.le_of_ble_eq_true rfl | rfl)) | with_reducible refine And.intro (?_ : leA _ _ _) ?_ | fail) <;> (conv => whnf)))
        all_goals (try simp only [sI_eq, sB_eq, sS_eq, sN_eq])
        all_goals (try first | exact ⟨fun h => h, fun _ _ => True.intro⟩)
      (conv => whnf)
      (repeat' ((first
        | ((with_reducible refine And.intro ?_ ?_); focus ((simp only [inK_def, Go.Vc.lo, Go.Vc.hi]; omega)))
        | (split <;> rename_i hh <;> (try simp only [ble_true, ble_false, beq_true, beq_false, sI_eq, sB_eq, sS_eq, sN_eq, ltI_eq, leI_eq, eqI_eq, decide_eq_true_eq, decide_eq_false_iff_not, beq_iff_eq, bne_iff_ne, ne_eq, beq_eq_false_iff_ne, bne_eq_false_iff_eq, Bool.not_eq_true, Bool.not_eq_false, Int.not_lt, Int.not_le, gt_iff_lt, ge_iff_le, Nat.not_lt, Nat.not_le, Decidable.not_not, Bool.not_eq_eq_eq_not, Bool.not_true, Bool.not_false, cond_true, cond_false, Bool.or_eq_true, Bool.and_eq_true, Bool.or_eq_false_iff, Bool.and_eq_false_iff] at hh) <;> (try simp (disch := omega) only [Int.tdiv_eq_ediv_of_nonneg, Int.tmod_eq_emod_of_nonneg] at hh))
        | fail) <;> (conv => whnf)))
      all_goals (try (show _ = _; simp only [sI_eq, sB_eq, sS_eq, sN_eq]))
      · rw [hm, any_at (by assumption) (by omega)]; simp
      · (conv => whnf)
        refine ⟨(i + 1 : Nat), [], ?_, ⟨⟨rfl, Nat.le_of_ble_eq_true rfl, rfl⟩, ?_, ?_⟩⟩
        · refine ⟨⟨show i + 1 ≤ a.tickets.length by omega, fun j hj => ?_⟩, show a.tickets.length - (i + 1) < a.tickets.length - i by omega⟩
          have hj : j < i + 1 := hj
          by_cases he : j = i
          · subst he
            show (!muchT (a.tickets.getD j default)) = true
            rw [show muchT (a.tickets.getD j default) = false by assumption]; rfl
          · exact h2 j (by omega)
        · (conv => whnf)
          (repeat' ((first | with_reducible exact True.intro | ((with_reducible refine And.intro ?_ ?_); focus (first | with_reducible rfl | omega | exact Nat.le_of_ble_eq_true rfl | rfl)) | with_reducible refine And.intro (?_ : leA _ _ _) ?_ | fail) <;> (conv => whnf)))
          all_goals (try simp only [sI_eq, sB_eq, sS_eq, sN_eq])
          all_goals (try first | omega)
        · (conv => whnf)
          (repeat' ((first | with_reducible exact True.intro | ((with_reducible refine And.intro ?_ ?_); focus (first | with_reducible rfl | omega | exact Nat.le_of_ble_eq_true rfl | rfl)) | with_reducible refine And.intro (?_ : leA _ _ _) ?_ | with_reducible refine And.intro (?_ : leL _ _ _) ?_ | with_reducible refine And.intro (?_ : leBlk _ _ _ _) ?_ | fail) <;> (conv => whnf)))
          all_goals (try simp only [sI_eq, sB_eq, sS_eq, sN_eq])
          all_goals (try first | rfl | exact ⟨fun h => h, fun _ _ => True.intro⟩)
    all_goals (
      have hn : a.tickets.any muchT = false := not_any fun j hj => by
        have := h2 j (by omega)
        simpa using this)
    · rw [hm, hn, decide_eq_true (show 300 < a.tickets.length by omega)]; simp
    · rw [hm, hn, decide_eq_true (show 6000 < a.postings.length by omega)]; simp
    · rw [hm, hn, ltI_eq, decide_eq_false (show ¬ 300 < a.tickets.length by omega), decide_eq_false (show ¬ 6000 < a.postings.length by omega)]
      simp only [Bool.false_or]; exact decide_eq_decide.2 ⟨fun h => by omega, fun h => by omega⟩
end
end Go.Vc.Z
