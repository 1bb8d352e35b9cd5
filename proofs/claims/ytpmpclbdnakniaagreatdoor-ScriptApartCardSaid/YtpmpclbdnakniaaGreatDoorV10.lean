/- The law ScriptApart: true. -/
import Derived.Test.YtpmpclbdnakniaaGreatDoorV9
set_option linter.all false
set_option linter.unusedVariables false
set_option linter.unusedSimpArgs false
namespace Go.Vc.Z
open Go Go.Vc Go.Proofs Go.RowKit Go.Pl Go.Lib
noncomputable section
set_option maxRecDepth 100000
set_option linter.unusedSimpArgs false
set_option linter.unusedVariables false
attribute [local irreducible] inK Utf8.decode Utf8.encode Lib.itoa Pl.worth Pl.allDig
attribute [local irreducible] Lib.join
def pcApart : PC := PC.of (fun x : Ticket × Ticket × Loan × Loan => [.agg x.1.enc, .agg x.2.1.enc, .agg x.2.2.1.enc, .agg x.2.2.2.enc]) (fun _ => True) (fun _ => .bool (sB true))
def D_couponlaw26_ScriptApart : PT := tabD [(17, pcMuchT), (12, pcKnown), (18, pcTicketW), (19, pcMayTicket), (20, pcSameT), (21, pcLoanW), (22, pcLoan)]
def C_couponlaw26_ScriptApart : FuncId → Option Ctr := tabC D_couponlaw26_ScriptApart []
set_option maxHeartbeats 2000000 in
theorem g_couponlaw26_ScriptApart {W : World} (hW : Tabs W) : GoodP (Fw W) Tryz.prog 4 pcApart := by
  have hD : PTOk (Fw W) Tryz.prog D_couponlaw26_ScriptApart := (tabD_cons Tryz.call17 (g_couponref13_Much hW) (tabD_cons Tryz.call12 (g_couponlaw26_known hW) (tabD_cons Tryz.call18 (g_script_TicketLine hW) (tabD_cons Tryz.call19 (g_couponref13_May hW) (tabD_cons Tryz.call20 (g_couponref13_Same hW) (tabD_cons Tryz.call21 (g_script_LoanLine hW) (tabD_cons Tryz.call22 (g_couponref16_MayLoan hW) tabD_nil)))))))
  have hC0 : ∀ x : Ticket × Ticket × Loan × Loan, CtrOk (Fw W) Tryz.prog (C_couponlaw26_ScriptApart) := fun x => (tabC_nil hD)
  refine goodP_ofC (D := D_couponlaw26_ScriptApart) (C := fun x => C_couponlaw26_ScriptApart) (wr := (fun _ => false)) rfl tyOk hD hC0 Tryz.func4 (fun _ _ => none) (fun _ => rfl) ?_
  rintro ⟨a, b, l, k⟩ hf hp
  have ua : 0 ≤ a.prev ∧ 0 ≤ a.origin ∧ 0 ≤ a.first := by
    simp only [factL, factA, and_true] at hf
    obtain ⟨⟨_, _, _, _, _, k1, k2, k3, _⟩, _⟩ := hf
    exact ⟨(inK_def.1 k1).1, (inK_def.1 k2).1, (inK_def.1 k3).1⟩
  have ub : 0 ≤ b.prev ∧ 0 ≤ b.origin ∧ 0 ≤ b.first := by
    simp only [factL, factA, and_true] at hf
    obtain ⟨_, ⟨_, _, _, _, _, k1, k2, k3, _⟩, _⟩ := hf
    exact ⟨(inK_def.1 k1).1, (inK_def.1 k2).1, (inK_def.1 k3).1⟩
  clear hf
  have ta : (ticketW a == []) = !mayTicketB a := by
    cases hm : mayTicketB a with
    | false => rw [ticketW_nil.2 hm]; rfl
    | true => exact beq_eq_false_iff_ne.2 fun h => by rw [ticketW_nil.1 h] at hm; cases hm
  have tb : (ticketW b == []) = !mayTicketB b := by
    cases hm : mayTicketB b with
    | false => rw [ticketW_nil.2 hm]; rfl
    | true => exact beq_eq_false_iff_ne.2 fun h => by rw [ticketW_nil.1 h] at hm; cases hm
  have tl : (loanW l == []) = !loanB l := by
    cases hm : loanB l with
    | false => rw [loanW_nil.2 hm]; rfl
    | true => exact beq_eq_false_iff_ne.2 fun h => by rw [loanW_nil.1 h] at hm; cases hm
  have tk : (loanW k == []) = !loanB k := by
    cases hm : loanB k with
    | false => rw [loanW_nil.2 hm]; rfl
    | true => exact beq_eq_false_iff_ne.2 fun h => by rw [loanW_nil.1 h] at hm; cases hm
  have ts : ¬ ticketW a = [] → ¬ ticketW b = [] → (ticketW a == ticketW b) = sameT a b := fun na nb => by
    have ma : mayTicketB a = true := by
      cases hm : mayTicketB a with
      | true => rfl
      | false => exact absurd (ticketW_nil.2 hm) na
    have mb : mayTicketB b = true := by
      cases hm : mayTicketB b with
      | true => rfl
      | false => exact absurd (ticketW_nil.2 hm) nb
    rw [Bool.eq_iff_iff, beq_iff_eq, sameT_iff]
    exact ⟨ticketW_inj ma mb ua ub, fun h => by rw [h]⟩
  have tlk : ¬ loanW l = [] → ¬ loanW k = [] → (loanW l == loanW k) = lEq l k := fun na nb => by
    have ma : loanB l = true := by
      cases hm : loanB l with
      | true => rfl
      | false => exact absurd (loanW_nil.2 hm) na
    have mb : loanB k = true := by
      cases hm : loanB k with
      | true => rfl
      | false => exact absurd (loanW_nil.2 hm) nb
    rw [Bool.eq_iff_iff, beq_iff_eq, lEq_iff]
    exact ⟨loanW_inj ma mb, fun h => by rw [h]⟩
  clear ua ub
  (conv => whnf)
  all_goals (try (show _ = _; simp only [wQ]))
  refine ⟨a, True.intro, ?_, ?_⟩
  · exact leL_rfl _
  (conv => whnf)
  (repeat' ((first
    | ((with_reducible refine And.intro ?_ ?_); focus (with_reducible exact True.intro))
    | (split <;> rename_i hh <;> (try simp only [wS] at hh) <;> (try simp (disch := omega) only [Int.tdiv_eq_ediv_of_nonneg, Int.tmod_eq_emod_of_nonneg] at hh))
    | fail) <;> (conv => whnf)))
  all_goals (try (show _ = _; simp only [wQ]))
  refine ⟨b, True.intro, ?_, ?_⟩
  · exact leL_rfl _
  (conv => whnf)
  (repeat' ((first
    | ((with_reducible refine And.intro ?_ ?_); focus (with_reducible exact True.intro))
    | (split <;> rename_i hh <;> (try simp only [wS] at hh) <;> (try simp (disch := omega) only [Int.tdiv_eq_ediv_of_nonneg, Int.tmod_eq_emod_of_nonneg] at hh))
    | fail) <;> (conv => whnf)))
  all_goals (try (show _ = _; simp only [wQ]))
  refine ⟨a, True.intro, ?_, ?_⟩
  · exact leL_rfl _
  (conv => whnf)
  (repeat' ((first
    | ((with_reducible refine And.intro ?_ ?_); focus (((with_reducible show okB _ _ _ = true); rfl)))
    | fail) <;> (conv => whnf)))
  all_goals (try (show _ = _; simp only [wQ]))
  refine ⟨b, True.intro, ?_, ?_⟩
  · exact leL_rfl _
  (conv => whnf)
  all_goals (try (show _ = _; simp only [wQ]))
  refine ⟨a, True.intro, ?_, ?_⟩
  · exact leL_rfl _
  (conv => whnf)
  (repeat' ((first
    | (exact absurd ta (by with_reducible assumption))
    | (split <;> rename_i hh <;> (try simp only [wS] at hh) <;> (try simp (disch := omega) only [Int.tdiv_eq_ediv_of_nonneg, Int.tmod_eq_emod_of_nonneg] at hh))
    | fail) <;> (conv => whnf)))
  all_goals (try (show _ = _; simp only [wQ]))
  refine ⟨b, True.intro, ?_, ?_⟩
  · exact leL_rfl _
  (conv => whnf)
  (repeat' ((first
    | (exact absurd tb (by with_reducible assumption))
    | (split <;> rename_i hh <;> (try simp only [wS] at hh) <;> (try simp (disch := omega) only [Int.tdiv_eq_ediv_of_nonneg, Int.tmod_eq_emod_of_nonneg] at hh))
    | fail) <;> (conv => whnf)))
  all_goals (try (show _ = _; simp only [wQ]))
  refine ⟨(a, b), True.intro, ?_, ?_⟩
  · exact leL_rfl _
  (conv => whnf)
  (repeat' ((first
    | (exact absurd (ts (by with_reducible assumption) (by with_reducible assumption)) (by with_reducible assumption))
    | (split <;> rename_i hh <;> (try simp only [wS] at hh) <;> (try simp (disch := omega) only [Int.tdiv_eq_ediv_of_nonneg, Int.tmod_eq_emod_of_nonneg] at hh))
    | fail) <;> (conv => whnf)))
  all_goals (try (show _ = _; simp only [wQ]))
  all_goals (
    refine ⟨l, True.intro, ?_, ?_⟩
    · exact leL_rfl _
    (conv => whnf)
    (repeat' ((first
      | ((with_reducible refine And.intro ?_ ?_); focus (((with_reducible show okB _ _ _ = true); rfl)))
      | fail) <;> (conv => whnf)))
    all_goals (try (show _ = _; simp only [wQ]))
    refine ⟨k, True.intro, ?_, ?_⟩
    · exact leL_rfl _
    (conv => whnf)
    all_goals (try (show _ = _; simp only [wQ]))
    refine ⟨l, True.intro, ?_, ?_⟩
    · exact leL_rfl _
    (conv => whnf)
    (repeat' ((first
      | (exact absurd tl (by with_reducible assumption))
      | (split <;> rename_i hh <;> (try simp only [wS] at hh) <;> (try simp (disch := omega) only [Int.tdiv_eq_ediv_of_nonneg, Int.tmod_eq_emod_of_nonneg] at hh))
      | fail) <;> (conv => whnf)))
    all_goals (try (show _ = _; simp only [wQ]))
    refine ⟨k, True.intro, ?_, ?_⟩
    · exact leL_rfl _
    (conv => whnf)
    (repeat' ((first
      | (refine optP_lEq ?_)
      | (exact absurd tk (by with_reducible assumption))
      | (exact absurd (tlk (by with_reducible assumption) (by with_reducible assumption)) (by with_reducible assumption))
      | ((with_reducible refine And.intro ?_ ?_); focus (with_reducible exact True.intro))
      | (split <;> rename_i hh <;> (try simp only [wS] at hh) <;> (try simp (disch := omega) only [Int.tdiv_eq_ediv_of_nonneg, Int.tmod_eq_emod_of_nonneg] at hh))
      | fail) <;> (conv => whnf)))
    all_goals (try (show _ = _; simp only [wQ])))
  all_goals rfl
end
end Go.Vc.Z
