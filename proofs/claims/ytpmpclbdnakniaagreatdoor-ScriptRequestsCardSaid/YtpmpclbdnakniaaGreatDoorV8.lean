/- Requests, the document's: which may be, which are the same. -/
import Derived.Test.YtpmpclbdnakniaaGreatDoorV7
import Derived.Lib.Split
import Derived.Lib.Join
import Derived.Lib.CountLaws
set_option linter.all false
set_option linter.unusedVariables false
set_option linter.unusedSimpArgs false
namespace Go.Vc.Z
open Go Go.Vc Go.Proofs Go.RowKit Go.Pl Go.Lib
noncomputable section
set_option maxRecDepth 100000
set_option linter.unusedSimpArgs false
set_option linter.unusedVariables false
attribute [local irreducible] inK Utf8.decode Utf8.encode Lib.itoa Pl.worth Pl.allDig
attribute [local irreducible] Lib.join
open Classical in
@[irreducible] def sameR (a b : Request) : Bool := decide (a = b)
theorem sameR_iff {a b : Request} : sameR a b = true ↔ a = b := by unfold sameR; simp
theorem sameR_no {a b : Request} (h : a ≠ b) : false = sameR a b := by
 cases hs : sameR a b with
 | false => rfl
 | true => exact absurd (sameR_iff.1 hs) h
def pcSameR : PC := PC.of (fun x : Request × Request => [.agg x.1.enc, .agg x.2.enc]) (fun _ => True) (fun x => .bool (sB (sameR x.1 x.2)))
def LSR {α : Type} [Inhabited α] (x : Request × Request) (k : Nat) (l m : List α) : LoopSpec := {
 α := Nat
 keep := [2, 3, k]
 vals i := [.ptr 0 0, .ptr 1 0, .int .i64 i]
 heap _ := [.var x.1.enc, .var x.2.enc]
 ok i := i ≤ l.length ∧ ∀ j, j < i → l.getD j default = m.getD j default
 μ i := l.length - i }
def L_couponref16_Same : Request × Request → Nat → Option LR := fun x i => cond (Nat.beq i 6) (some (.inv (LSR x 5 x.1.coupons x.2.coupons))) (cond (Nat.beq i 11) (some (.inv (LSR x 6 x.1.taxes x.2.taxes))) (none))
set_option maxHeartbeats 2000000 in
theorem g_couponref16_Same {W : World} (hW : Tabs W) : GoodP (Fw W) Tryz.prog 28 pcSameR := by
 have hD := d_number_Check hW
 have hC0 : ∀ x : Request × Request, CtrOk (Fw W) Tryz.prog C_number_Check := fun x => (c_number_Check hW)
 refine goodP_ofC (D := D_number_Check) (C := fun x => C_number_Check) (wr := (fun _ => false)) rfl tyOk hD hC0 Tryz.func28 (L_couponref16_Same) (fun _ => rfl) ?_
 rintro ⟨a, b⟩ hf hp
 clear hf
 have kc : ∀ c : Coupon, cEq c c = true := fun c => cEq_iff.2 rfl
 have kx : ∀ c : Tax, xEq c c = true := fun c => xEq_iff.2 rfl
 (conv => whnf)
 (repeat' ((first
  | (split <;> rename_i hh <;> (try simp only [wS] at hh) <;> (try simp (disch := omega) only [wT] at hh))
  | with_reducible refine (fun (hln : (_ : Int) ≤ 9223372036854775807) => ?_)
  | fail) <;> (conv => whnf)))
 all_goals (try (show _ = _; simp only [wQ]))
 all_goals try (refine sameR_no fun h => ?_; subst h; simp_all; done)
 refine ⟨?_, fun (i : Nat) hi => ?_⟩
 ·(conv => whnf)
  refine ⟨(0 : Nat), [], ?_, ⟨⟨rfl, Nat.le_of_ble_eq_true rfl, rfl⟩, ?_, ?_⟩⟩
  ·exact ⟨Nat.zero_le _, fun j hj => absurd hj (Nat.not_lt_zero _)⟩
  ·(conv => whnf)
   (repeat' ((first | with_reducible exact True.intro | ((with_reducible refine And.intro ?_ ?_); focus (first | with_reducible rfl | omega | exact Nat.le_of_ble_eq_true rfl | rfl)) | with_reducible refine And.intro (?_ : leA _ _ _) ?_ | fail) <;> (conv => whnf)))
   all_goals (try simp only [wQ])
   all_goals (try first | omega)
  ·(conv => whnf)
   (repeat' ((first | with_reducible exact True.intro | ((with_reducible refine And.intro ?_ ?_); focus (first | with_reducible rfl | omega | exact Nat.le_of_ble_eq_true rfl | rfl)) | with_reducible refine And.intro (?_ : leA _ _ _) ?_ | with_reducible refine And.intro (?_ : leL _ _ _) ?_ | with_reducible refine And.intro (?_ : leBlk _ _ _ _) ?_ | fail) <;> (conv => whnf)))
   all_goals (try simp only [wQ])
   all_goals (try first | rfl | exact ⟨fun h => h, fun _ _ => True.intro⟩)
 ·obtain ⟨h1, m1⟩ := hi
  have h1 : i ≤ a.coupons.length := h1
  (conv => whnf)
  (repeat' ((first
   | (refine optP_cEq ?_)
   | ((with_reducible refine And.intro ?_ ?_); focus (first | ((with_reducible show okB _ _ _ = true); rfl) | ((with_reducible refine ⟨?_, ?_⟩) <;> first | with_reducible assumption | omega) | (simp only [inK_def, Go.Vc.lo, Go.Vc.hi]; omega) | (dsimp only at *; simp only [inK_def, Go.Vc.lo, Go.Vc.hi]; omega)))
   | (split <;> rename_i hh <;> (try simp only [wS] at hh) <;> (try simp (disch := omega) only [wT] at hh))
   | with_reducible refine (fun (hln : (_ : Int) ≤ 9223372036854775807) => ?_)
   | fail) <;> (conv => whnf)))
  all_goals (try (show _ = _; simp only [wQ]))
  ·refine sameR_no fun h => ?_; subst h; rw [kc _] at hh; cases hh
  ·(conv => whnf)
   refine ⟨(i + 1 : Nat), [], ?_, ⟨⟨rfl, Nat.le_of_ble_eq_true rfl, rfl⟩, ?_, ?_⟩⟩
   ·refine ⟨⟨show i + 1 ≤ a.coupons.length by omega, fun j hj => ?_⟩, show a.coupons.length - (i + 1) < a.coupons.length - i by omega⟩
    have hj : j < i + 1 := hj
    by_cases he : j = i
    ·subst he; exact cEq_iff.1 hh
    ·exact m1 j (by omega)
   ·(conv => whnf)
    (repeat' ((first | with_reducible exact True.intro | ((with_reducible refine And.intro ?_ ?_); focus (first | with_reducible rfl | omega | exact Nat.le_of_ble_eq_true rfl | rfl)) | with_reducible refine And.intro (?_ : leA _ _ _) ?_ | fail) <;> (conv => whnf)))
    all_goals (try simp only [wQ])
    all_goals (try first | omega)
   ·(conv => whnf)
    (repeat' ((first | with_reducible exact True.intro | ((with_reducible refine And.intro ?_ ?_); focus (first | with_reducible rfl | omega | exact Nat.le_of_ble_eq_true rfl | rfl)) | with_reducible refine And.intro (?_ : leA _ _ _) ?_ | with_reducible refine And.intro (?_ : leL _ _ _) ?_ | with_reducible refine And.intro (?_ : leBlk _ _ _ _) ?_ | fail) <;> (conv => whnf)))
    all_goals (try simp only [wQ])
    all_goals (try first | rfl | exact ⟨fun h => h, fun _ _ => True.intro⟩)
  refine ⟨?_, fun (i : Nat) hi => ?_⟩
  ·(conv => whnf)
   refine ⟨(0 : Nat), [], ?_, ⟨⟨rfl, Nat.le_of_ble_eq_true rfl, rfl⟩, ?_, ?_⟩⟩
   ·exact ⟨Nat.zero_le _, fun j hj => absurd hj (Nat.not_lt_zero _)⟩
   ·(conv => whnf)
    (repeat' ((first | with_reducible exact True.intro | ((with_reducible refine And.intro ?_ ?_); focus (first | with_reducible rfl | omega | exact Nat.le_of_ble_eq_true rfl | rfl)) | with_reducible refine And.intro (?_ : leA _ _ _) ?_ | fail) <;> (conv => whnf)))
    all_goals (try simp only [wQ])
    all_goals (try first | omega)
   ·(conv => whnf)
    (repeat' ((first | with_reducible exact True.intro | ((with_reducible refine And.intro ?_ ?_); focus (first | with_reducible rfl | omega | exact Nat.le_of_ble_eq_true rfl | rfl)) | with_reducible refine And.intro (?_ : leA _ _ _) ?_ | with_reducible refine And.intro (?_ : leL _ _ _) ?_ | with_reducible refine And.intro (?_ : leBlk _ _ _ _) ?_ | fail) <;> (conv => whnf)))
    all_goals (try simp only [wQ])
    all_goals (try first | rfl | exact ⟨fun h => h, fun _ _ => True.intro⟩)
  ·obtain ⟨h1, m2⟩ := hi
   have h1 : i ≤ a.taxes.length := h1
   (conv => whnf)
   (repeat' ((first
    | (refine optP_xEq ?_)
    | ((with_reducible refine And.intro ?_ ?_); focus (first | ((with_reducible show okB _ _ _ = true); rfl) | ((with_reducible refine ⟨?_, ?_⟩) <;> first | with_reducible assumption | omega) | (simp only [inK_def, Go.Vc.lo, Go.Vc.hi]; omega) | (dsimp only at *; simp only [inK_def, Go.Vc.lo, Go.Vc.hi]; omega)))
    | (split <;> rename_i hh <;> (try simp only [wS] at hh) <;> (try simp (disch := omega) only [wT] at hh))
    | with_reducible refine (fun (hln : (_ : Int) ≤ 9223372036854775807) => ?_)
    | fail) <;> (conv => whnf)))
   all_goals (try (show _ = _; simp only [wQ]))
   ·refine sameR_no fun h => ?_; subst h; rw [kx _] at hh; cases hh
   ·(conv => whnf)
    refine ⟨(i + 1 : Nat), [], ?_, ⟨⟨rfl, Nat.le_of_ble_eq_true rfl, rfl⟩, ?_, ?_⟩⟩
    ·refine ⟨⟨show i + 1 ≤ a.taxes.length by omega, fun j hj => ?_⟩, show a.taxes.length - (i + 1) < a.taxes.length - i by omega⟩
     have hj : j < i + 1 := hj
     by_cases he : j = i
     ·subst he; exact xEq_iff.1 hh
     ·exact m2 j (by omega)
    ·(conv => whnf)
     (repeat' ((first | with_reducible exact True.intro | ((with_reducible refine And.intro ?_ ?_); focus (first | with_reducible rfl | omega | exact Nat.le_of_ble_eq_true rfl | rfl)) | with_reducible refine And.intro (?_ : leA _ _ _) ?_ | fail) <;> (conv => whnf)))
     all_goals (try simp only [wQ])
     all_goals (try first | omega)
    ·(conv => whnf)
     (repeat' ((first | with_reducible exact True.intro | ((with_reducible refine And.intro ?_ ?_); focus (first | with_reducible rfl | omega | exact Nat.le_of_ble_eq_true rfl | rfl)) | with_reducible refine And.intro (?_ : leA _ _ _) ?_ | with_reducible refine And.intro (?_ : leL _ _ _) ?_ | with_reducible refine And.intro (?_ : leBlk _ _ _ _) ?_ | fail) <;> (conv => whnf)))
     all_goals (try simp only [wQ])
     all_goals (try first | rfl | exact ⟨fun h => h, fun _ _ => True.intro⟩)
   refine (sameR_iff.2 ?_).symm
   have e1 : a.coupons = b.coupons := list_eq_getD (by omega) fun j hj => m1 j (by omega)
   have e2 : a.taxes = b.taxes := list_eq_getD (by omega) fun j hj => m2 j (by omega)
   cases a; cases b
   simp only at *
   simp only [*]
@[irreducible] def partB (r : Request) (c : Int) : Bool :=
 if c = 75 then keyB r.key else if c = 68 then dayB r.day else if c = 76 then locOk r.locator else if c = 84 then numdB r.ticket
 else if c = 78 then decide (1 ≤ r.coupon) && decide (r.coupon ≤ 4) else if c = 83 then mayS r.status else if c = 65 then someB r.amount
 else if c = 74 then coupB 12 r.coupons else if c = 67 then coupB 4 r.coupons else if c = 88 then taxesB r.taxes else dayB r.frm && dayB r.til
def onlyR (r : Request) : Request := cond (eqI r.kind 1) ⟨r.key, r.kind, r.day, 0, 0, 0, r.locator, r.coupons, r.taxes, 0, 0, 0⟩ (cond (eqI r.kind 2) ⟨r.key, r.kind, r.day, r.ticket, r.coupon, r.status, [], [], [], 0, 0, 0⟩ (cond (eqI r.kind 3) ⟨r.key, r.kind, r.day, r.ticket, 0, 0, [], [], [], 0, 0, 0⟩ (cond (eqI r.kind 4) ⟨r.key, r.kind, r.day, r.ticket, 0, 0, [], [], [], r.amount, 0, 0⟩ (cond (eqI r.kind 5) ⟨r.key, r.kind, r.day, r.ticket, 0, 0, [], r.coupons, r.taxes, r.amount, 0, 0⟩ (cond (eqI r.kind 6) ⟨r.key, r.kind, r.day, r.ticket, r.coupon, 0, [], [], [], 0, 0, 0⟩ (cond (eqI r.kind 7) ⟨r.key, r.kind, r.day, r.ticket, r.coupon, 0, [], [], [], 0, 0, 0⟩ (cond (eqI r.kind 8) ⟨[], r.kind, 0, r.ticket, 0, 0, [], [], [], 0, 0, 0⟩ (cond (eqI r.kind 9) ⟨[], r.kind, 0, 0, 0, 0, r.locator, [], [], 0, 0, 0⟩ (cond (eqI r.kind 10) ⟨[], r.kind, 0, 0, 0, 0, [], [], [], 0, r.frm, r.til⟩ (⟨[], r.kind, 0, 0, 0, 0, [], [], [], 0, 0, 0⟩))))))))))
@[irreducible] def mayReqB (r : Request) : Bool := cond (eqI r.kind 1) (partB r 75 && (partB r 68 && (partB r 76 && (partB r 74 && (partB r 88 && sameR r (onlyR r)))))) (cond (eqI r.kind 2) (partB r 75 && (partB r 68 && (partB r 84 && (partB r 78 && (partB r 83 && sameR r (onlyR r)))))) (cond (eqI r.kind 3) (partB r 75 && (partB r 68 && (partB r 84 && sameR r (onlyR r)))) (cond (eqI r.kind 4) (partB r 75 && (partB r 68 && (partB r 84 && (partB r 65 && sameR r (onlyR r))))) (cond (eqI r.kind 5) (partB r 75 && (partB r 68 && (partB r 84 && (partB r 65 && (partB r 67 && (partB r 88 && sameR r (onlyR r))))))) (cond (eqI r.kind 6) (partB r 75 && (partB r 68 && (partB r 84 && (partB r 78 && sameR r (onlyR r))))) (cond (eqI r.kind 7) (partB r 75 && (partB r 68 && (partB r 84 && (partB r 78 && sameR r (onlyR r))))) (cond (eqI r.kind 8) (partB r 84 && sameR r (onlyR r)) (cond (eqI r.kind 9) (partB r 76 && sameR r (onlyR r)) (cond (eqI r.kind 10) (partB r 82 && sameR r (onlyR r)) (false))))))))))
theorem mayReq_1 {r : Request} (h : r.kind = 1) : mayReqB r = (partB r 75 && (partB r 68 && (partB r 76 && (partB r 74 && (partB r 88 && sameR r (onlyR r)))))) := by unfold mayReqB; rw [h]; rfl
theorem mayReq_2 {r : Request} (h : r.kind = 2) : mayReqB r = (partB r 75 && (partB r 68 && (partB r 84 && (partB r 78 && (partB r 83 && sameR r (onlyR r)))))) := by unfold mayReqB; rw [h]; rfl
theorem mayReq_3 {r : Request} (h : r.kind = 3) : mayReqB r = (partB r 75 && (partB r 68 && (partB r 84 && sameR r (onlyR r)))) := by unfold mayReqB; rw [h]; rfl
theorem mayReq_4 {r : Request} (h : r.kind = 4) : mayReqB r = (partB r 75 && (partB r 68 && (partB r 84 && (partB r 65 && sameR r (onlyR r))))) := by unfold mayReqB; rw [h]; rfl
theorem mayReq_5 {r : Request} (h : r.kind = 5) : mayReqB r = (partB r 75 && (partB r 68 && (partB r 84 && (partB r 65 && (partB r 67 && (partB r 88 && sameR r (onlyR r))))))) := by unfold mayReqB; rw [h]; rfl
theorem mayReq_6 {r : Request} (h : r.kind = 6) : mayReqB r = (partB r 75 && (partB r 68 && (partB r 84 && (partB r 78 && sameR r (onlyR r))))) := by unfold mayReqB; rw [h]; rfl
theorem mayReq_7 {r : Request} (h : r.kind = 7) : mayReqB r = (partB r 75 && (partB r 68 && (partB r 84 && (partB r 78 && sameR r (onlyR r))))) := by unfold mayReqB; rw [h]; rfl
theorem mayReq_8 {r : Request} (h : r.kind = 8) : mayReqB r = (partB r 84 && sameR r (onlyR r)) := by unfold mayReqB; rw [h]; rfl
theorem mayReq_9 {r : Request} (h : r.kind = 9) : mayReqB r = (partB r 76 && sameR r (onlyR r)) := by unfold mayReqB; rw [h]; rfl
theorem mayReq_10 {r : Request} (h : r.kind = 10) : mayReqB r = (partB r 82 && sameR r (onlyR r)) := by unfold mayReqB; rw [h]; rfl
theorem mayReq_no {r : Request} (h : ¬ (1 ≤ r.kind ∧ r.kind ≤ 10)) : mayReqB r = false := by
 unfold mayReqB
 have e : ∀ k : Int, 1 ≤ k → k ≤ 10 → eqI r.kind k = false := fun k h1 h2 => by
  rw [eqI_eq, beq_eq_false_iff_ne]; omega
 simp only [e 1 (by decide) (by decide), e 2 (by decide) (by decide), e 3 (by decide) (by decide), e 4 (by decide) (by decide), e 5 (by decide) (by decide), e 6 (by decide) (by decide), e 7 (by decide) (by decide), e 8 (by decide) (by decide), e 9 (by decide) (by decide), e 10 (by decide) (by decide), cond_false]
def pcPart : PC := PC.of (fun x : Request × Int => [.agg x.1.enc, .int .u8 x.2]) (fun _ => True) (fun x => .bool (sB (partB x.1 x.2)))
def D_couponref16_mayPart : PT := tabD [(63, pcNumd), (64, pcLocator), (69, pcMayS), (138, pcDay), (139, pcSome), (165, pcMayKey), (166, pcCoupB), (167, pcTaxes)]
theorem d_couponref16_mayPart {W : World} (hW : Tabs W) : PTOk (Fw W) Tryz.prog D_couponref16_mayPart := (tabD_cons Tryz.call63 (g_couponref13_Numbered hW) (tabD_cons Tryz.call64 (g_couponref10_Locator hW) (tabD_cons Tryz.call69 (g_couponref12_May hW) (tabD_cons Tryz.call138 (g_couponref16_day hW) (tabD_cons Tryz.call139 (g_couponref16_some hW) (tabD_cons Tryz.call165 (g_couponref16_MayKey hW) (tabD_cons Tryz.call166 (g_couponref16_mayCoupons hW) (tabD_cons Tryz.call167 (g_couponref16_mayTaxes hW) tabD_nil))))))))
def C_couponref16_mayPart : FuncId → Option Ctr := tabC D_couponref16_mayPart []
theorem c_couponref16_mayPart {W : World} (hW : Tabs W) : CtrOk (Fw W) Tryz.prog C_couponref16_mayPart := (tabC_nil (d_couponref16_mayPart hW))
set_option maxHeartbeats 2000000 in
theorem g_couponref16_mayPart {W : World} (hW : Tabs W) : GoodP (Fw W) Tryz.prog 76 pcPart := by
 have hD := d_couponref16_mayPart hW
 have hC0 : ∀ x : Request × Int, CtrOk (Fw W) Tryz.prog C_couponref16_mayPart := fun x => (c_couponref16_mayPart hW)
 refine goodP_ofC (D := D_couponref16_mayPart) (C := fun x => C_couponref16_mayPart) (wr := (fun _ => false)) rfl tyOk hD hC0 Tryz.func76 (fun _ _ => none) (fun _ => rfl) ?_
 rintro ⟨r, c⟩ hf hp
 clear hf
 have hb : partB r c = if c = 75 then keyB r.key else if c = 68 then dayB r.day else if c = 76 then locOk r.locator else if c = 84 then numdB r.ticket else if c = 78 then decide (1 ≤ r.coupon) && decide (r.coupon ≤ 4) else if c = 83 then mayS r.status else if c = 65 then someB r.amount else if c = 74 then coupB 12 r.coupons else if c = 67 then coupB 4 r.coupons else if c = 88 then taxesB r.taxes else dayB r.frm && dayB r.til := by unfold partB; rfl
 (conv => whnf)
 (repeat' ((first
  | ((with_reducible refine And.intro ?_ ?_); focus (with_reducible exact True.intro))
  | (split <;> rename_i hh <;> (try simp only [wS] at hh) <;> (try simp (disch := omega) only [wT] at hh))
  | fail) <;> (conv => whnf)))
 all_goals (try (show _ = _; simp only [wQ]))
 all_goals try (
  first
  | refine ⟨(r.coupons, (12 : Int)), True.intro, leL_rfl _, ?_⟩
  | refine ⟨(r.coupons, (4 : Int)), True.intro, leL_rfl _, ?_⟩
  | refine ⟨r.taxes, True.intro, leL_rfl _, ?_⟩
  (conv => whnf)
  all_goals (try (show _ = _; simp only [wQ])))
 all_goals (rw [hb]; simp [*, leI_eq]; try (intros; omega))
def pcOnly : PC := PC.of (fun r : Request => [.agg r.enc]) (fun r => 1 ≤ r.kind ∧ r.kind ≤ 10) (fun r => .agg (onlyR r).enc)
def D_couponref16_Only : PT := tabD [(75, pcRow)]
theorem d_couponref16_Only {W : World} (hW : Tabs W) : PTOk (Fw W) Tryz.prog D_couponref16_Only := (tabD_cons Tryz.call75 (g_couponref16_Row hW) tabD_nil)
def C_couponref16_Only : FuncId → Option Ctr := tabC D_couponref16_Only []
theorem c_couponref16_Only {W : World} (hW : Tabs W) : CtrOk (Fw W) Tryz.prog C_couponref16_Only := (tabC_nil (d_couponref16_Only hW))
def L_couponref16_Only : Request → Nat → Option LR := fun r i => cond (Nat.beq i 4) (some (.unroll 7)) (none)
set_option maxHeartbeats 2000000 in
theorem g_couponref16_Only {W : World} (hW : Tabs W) : GoodP (Fw W) Tryz.prog 77 pcOnly := by
 have hD := d_couponref16_Only hW
 have hC0 : ∀ r : Request, CtrOk (Fw W) Tryz.prog C_couponref16_Only := fun r => (c_couponref16_Only hW)
 refine goodP_ofC (D := D_couponref16_Only) (C := fun r => C_couponref16_Only) (wr := (fun _ => false)) rfl tyOk hD hC0 Tryz.func77 (L_couponref16_Only) (fun _ => rfl) ?_
 rintro ⟨key, kind, day, ticket, coupon, status, locator, coupons, taxes, amount, frm, til⟩ hf hp
 clear hf
 rcases kinds hp with rfl | rfl | rfl | rfl | rfl | rfl | rfl | rfl | rfl | rfl
 all_goals (
  (conv => whnf)
  (repeat' ((first
   | with_reducible exact True.intro
   | ((with_reducible refine And.intro ?_ ?_); focus (refine ⟨?_, ?_⟩ <;> exact of_decide_eq_true rfl))
   | ((with_reducible refine And.intro ?_ ?_); focus (first | with_reducible exact True.intro | with_reducible rfl | (simp only [inK_def, Go.Vc.lo, Go.Vc.hi]; omega)))
   | with_reducible refine (fun (hln : (_ : Int) ≤ 9223372036854775807) => ?_)
   | with_reducible refine And.intro (?_ : leA _ _ _) ?_
   | fail) <;> (conv => whnf)))
  all_goals (try (show _ = _; simp only [wQ]))
  )
 all_goals first | rfl | exact ⟨rfl, fun h => h, fun _ _ => rfl⟩
def pcMayReq : PC := PC.of (fun r : Request => [.agg r.enc]) (fun _ => True) (fun r => .bool (sB (mayReqB r)))
def D_couponref16_May : PT := tabD [(28, pcSameR), (75, pcRow), (76, pcPart), (77, pcOnly)]
theorem d_couponref16_May {W : World} (hW : Tabs W) : PTOk (Fw W) Tryz.prog D_couponref16_May := (tabD_cons Tryz.call28 (g_couponref16_Same hW) (tabD_cons Tryz.call75 (g_couponref16_Row hW) (tabD_cons Tryz.call76 (g_couponref16_mayPart hW) (tabD_cons Tryz.call77 (g_couponref16_Only hW) tabD_nil))))
def C_couponref16_May : FuncId → Option Ctr := tabC D_couponref16_May []
theorem c_couponref16_May {W : World} (hW : Tabs W) : CtrOk (Fw W) Tryz.prog C_couponref16_May := (tabC_nil (d_couponref16_May hW))
def L_couponref16_May : Request → Nat → Option LR := fun r i => cond (Nat.beq i 3) (some (.unroll 7)) (none)
set_option maxHeartbeats 4000000 in
theorem g_couponref16_May {W : World} (hW : Tabs W) : GoodP (Fw W) Tryz.prog 25 pcMayReq := by
 have hD := d_couponref16_May hW
 have hC0 : ∀ r : Request, CtrOk (Fw W) Tryz.prog C_couponref16_May := fun r => (c_couponref16_May hW)
 refine goodP_ofC (D := D_couponref16_May) (C := fun r => C_couponref16_May) (wr := (fun _ => false)) rfl tyOk hD hC0 Tryz.func25 (L_couponref16_May) (fun _ => rfl) ?_
 rintro ⟨key, kind, day, ticket, coupon, status, locator, coupons, taxes, amount, frm, til⟩ hf hp
 clear hf
 by_cases h : 1 ≤ kind ∧ kind ≤ 10
 ·rcases kinds h with rfl | rfl | rfl | rfl | rfl | rfl | rfl | rfl | rfl | rfl
  ·have hm := mayReq_1 (r := ⟨key, 1, day, ticket, coupon, status, locator, coupons, taxes, amount, frm, til⟩) rfl
   (conv => whnf)
   (repeat' ((first
    | ((with_reducible refine And.intro ?_ ?_); focus (refine ⟨?_, ?_⟩ <;> exact of_decide_eq_true rfl))
    | ((with_reducible refine And.intro ?_ ?_); focus (first | with_reducible exact True.intro | ((with_reducible show okB _ _ _ = true); rfl)))
    | with_reducible refine (fun (hln : (_ : Int) ≤ 9223372036854775807) => ?_)
    | fail) <;> (conv => whnf)))
   all_goals (try (show _ = _; simp only [wQ]))
   refine ⟨((⟨key, 1, day, ticket, coupon, status, locator, coupons, taxes, amount, frm, til⟩ : Request), (75 : Int)), True.intro, ?_, ?_⟩
   ·exact leL_rfl _
   (conv => whnf)
   (repeat' ((first
    | ((with_reducible refine And.intro ?_ ?_); focus (refine ⟨?_, ?_⟩ <;> exact of_decide_eq_true rfl))
    | ((with_reducible refine And.intro ?_ ?_); focus (first | ((with_reducible show okB _ _ _ = true); rfl) | (simp only [inK_def, Go.Vc.lo, Go.Vc.hi]; omega)))
    | (split <;> rename_i hh <;> (try simp only [wS] at hh) <;> (try simp (disch := omega) only [wT] at hh))
    | with_reducible refine (fun (hln : (_ : Int) ≤ 9223372036854775807) => ?_)
    | fail) <;> (conv => whnf)))
   all_goals (try (show _ = _; simp only [wQ]))
   ·rw [hm]; simp [*]
   refine ⟨((⟨key, 1, day, ticket, coupon, status, locator, coupons, taxes, amount, frm, til⟩ : Request), (68 : Int)), True.intro, ?_, ?_⟩
   ·exact leL_rfl _
   (conv => whnf)
   (repeat' ((first
    | ((with_reducible refine And.intro ?_ ?_); focus (refine ⟨?_, ?_⟩ <;> exact of_decide_eq_true rfl))
    | ((with_reducible refine And.intro ?_ ?_); focus (first | ((with_reducible show okB _ _ _ = true); rfl) | (simp only [inK_def, Go.Vc.lo, Go.Vc.hi]; omega)))
    | (split <;> rename_i hh <;> (try simp only [wS] at hh) <;> (try simp (disch := omega) only [wT] at hh))
    | with_reducible refine (fun (hln : (_ : Int) ≤ 9223372036854775807) => ?_)
    | fail) <;> (conv => whnf)))
   all_goals (try (show _ = _; simp only [wQ]))
   ·rw [hm]; simp [*]
   refine ⟨((⟨key, 1, day, ticket, coupon, status, locator, coupons, taxes, amount, frm, til⟩ : Request), (76 : Int)), True.intro, ?_, ?_⟩
   ·exact leL_rfl _
   (conv => whnf)
   (repeat' ((first
    | ((with_reducible refine And.intro ?_ ?_); focus (refine ⟨?_, ?_⟩ <;> exact of_decide_eq_true rfl))
    | ((with_reducible refine And.intro ?_ ?_); focus (first | ((with_reducible show okB _ _ _ = true); rfl) | (simp only [inK_def, Go.Vc.lo, Go.Vc.hi]; omega)))
    | (split <;> rename_i hh <;> (try simp only [wS] at hh) <;> (try simp (disch := omega) only [wT] at hh))
    | with_reducible refine (fun (hln : (_ : Int) ≤ 9223372036854775807) => ?_)
    | fail) <;> (conv => whnf)))
   all_goals (try (show _ = _; simp only [wQ]))
   ·rw [hm]; simp [*]
   refine ⟨((⟨key, 1, day, ticket, coupon, status, locator, coupons, taxes, amount, frm, til⟩ : Request), (74 : Int)), True.intro, ?_, ?_⟩
   ·exact leL_rfl _
   (conv => whnf)
   (repeat' ((first
    | ((with_reducible refine And.intro ?_ ?_); focus (refine ⟨?_, ?_⟩ <;> exact of_decide_eq_true rfl))
    | ((with_reducible refine And.intro ?_ ?_); focus (first | ((with_reducible show okB _ _ _ = true); rfl) | (simp only [inK_def, Go.Vc.lo, Go.Vc.hi]; omega)))
    | (split <;> rename_i hh <;> (try simp only [wS] at hh) <;> (try simp (disch := omega) only [wT] at hh))
    | with_reducible refine (fun (hln : (_ : Int) ≤ 9223372036854775807) => ?_)
    | fail) <;> (conv => whnf)))
   all_goals (try (show _ = _; simp only [wQ]))
   ·rw [hm]; simp [*]
   refine ⟨((⟨key, 1, day, ticket, coupon, status, locator, coupons, taxes, amount, frm, til⟩ : Request), (88 : Int)), True.intro, ?_, ?_⟩
   ·exact leL_rfl _
   (conv => whnf)
   (repeat' ((first
    | ((with_reducible refine And.intro ?_ ?_); focus ((simp only [inK_def, Go.Vc.lo, Go.Vc.hi]; omega)))
    | (split <;> rename_i hh <;> (try simp only [wS] at hh) <;> (try simp (disch := omega) only [wT] at hh))
    | with_reducible refine (fun (hln : (_ : Int) ≤ 9223372036854775807) => ?_)
    | fail) <;> (conv => whnf)))
   all_goals (try (show _ = _; simp only [wQ]))
   ·rw [hm]; simp [*]
   refine ⟨(⟨key, 1, day, ticket, coupon, status, locator, coupons, taxes, amount, frm, til⟩ : Request), ⟨of_decide_eq_true rfl, of_decide_eq_true rfl⟩, ?_, ?_⟩
   ·exact leL_rfl _
   (conv => whnf)
   (repeat' ((first
    | ((with_reducible refine And.intro ?_ ?_); focus (((with_reducible show okB _ _ _ = true); rfl)))
    | fail) <;> (conv => whnf)))
   all_goals (try (show _ = _; simp only [wQ]))
   refine ⟨((⟨key, 1, day, ticket, coupon, status, locator, coupons, taxes, amount, frm, til⟩ : Request), onlyR ⟨key, 1, day, ticket, coupon, status, locator, coupons, taxes, amount, frm, til⟩), True.intro, ?_, ?_⟩
   ·exact leL_rfl _
   (conv => whnf)
   all_goals (try (show _ = _; simp only [wQ]))
   rw [hm]; simp [*]
  ·have hm := mayReq_2 (r := ⟨key, 2, day, ticket, coupon, status, locator, coupons, taxes, amount, frm, til⟩) rfl
   (conv => whnf)
   (repeat' ((first
    | ((with_reducible refine And.intro ?_ ?_); focus (refine ⟨?_, ?_⟩ <;> exact of_decide_eq_true rfl))
    | ((with_reducible refine And.intro ?_ ?_); focus (first | with_reducible exact True.intro | ((with_reducible show okB _ _ _ = true); rfl)))
    | with_reducible refine (fun (hln : (_ : Int) ≤ 9223372036854775807) => ?_)
    | fail) <;> (conv => whnf)))
   all_goals (try (show _ = _; simp only [wQ]))
   refine ⟨((⟨key, 2, day, ticket, coupon, status, locator, coupons, taxes, amount, frm, til⟩ : Request), (75 : Int)), True.intro, ?_, ?_⟩
   ·exact leL_rfl _
   (conv => whnf)
   (repeat' ((first
    | ((with_reducible refine And.intro ?_ ?_); focus (refine ⟨?_, ?_⟩ <;> exact of_decide_eq_true rfl))
    | ((with_reducible refine And.intro ?_ ?_); focus (first | ((with_reducible show okB _ _ _ = true); rfl) | (simp only [inK_def, Go.Vc.lo, Go.Vc.hi]; omega)))
    | (split <;> rename_i hh <;> (try simp only [wS] at hh) <;> (try simp (disch := omega) only [wT] at hh))
    | with_reducible refine (fun (hln : (_ : Int) ≤ 9223372036854775807) => ?_)
    | fail) <;> (conv => whnf)))
   all_goals (try (show _ = _; simp only [wQ]))
   ·rw [hm]; simp [*]
   refine ⟨((⟨key, 2, day, ticket, coupon, status, locator, coupons, taxes, amount, frm, til⟩ : Request), (68 : Int)), True.intro, ?_, ?_⟩
   ·exact leL_rfl _
   (conv => whnf)
   (repeat' ((first
    | ((with_reducible refine And.intro ?_ ?_); focus (refine ⟨?_, ?_⟩ <;> exact of_decide_eq_true rfl))
    | ((with_reducible refine And.intro ?_ ?_); focus (first | ((with_reducible show okB _ _ _ = true); rfl) | (simp only [inK_def, Go.Vc.lo, Go.Vc.hi]; omega)))
    | (split <;> rename_i hh <;> (try simp only [wS] at hh) <;> (try simp (disch := omega) only [wT] at hh))
    | with_reducible refine (fun (hln : (_ : Int) ≤ 9223372036854775807) => ?_)
    | fail) <;> (conv => whnf)))
   all_goals (try (show _ = _; simp only [wQ]))
   ·rw [hm]; simp [*]
   refine ⟨((⟨key, 2, day, ticket, coupon, status, locator, coupons, taxes, amount, frm, til⟩ : Request), (84 : Int)), True.intro, ?_, ?_⟩
   ·exact leL_rfl _
   (conv => whnf)
   (repeat' ((first
    | ((with_reducible refine And.intro ?_ ?_); focus (refine ⟨?_, ?_⟩ <;> exact of_decide_eq_true rfl))
    | ((with_reducible refine And.intro ?_ ?_); focus (first | ((with_reducible show okB _ _ _ = true); rfl) | (simp only [inK_def, Go.Vc.lo, Go.Vc.hi]; omega)))
    | (split <;> rename_i hh <;> (try simp only [wS] at hh) <;> (try simp (disch := omega) only [wT] at hh))
    | with_reducible refine (fun (hln : (_ : Int) ≤ 9223372036854775807) => ?_)
    | fail) <;> (conv => whnf)))
   all_goals (try (show _ = _; simp only [wQ]))
   ·rw [hm]; simp [*]
   refine ⟨((⟨key, 2, day, ticket, coupon, status, locator, coupons, taxes, amount, frm, til⟩ : Request), (78 : Int)), True.intro, ?_, ?_⟩
   ·exact leL_rfl _
   (conv => whnf)
   (repeat' ((first
    | ((with_reducible refine And.intro ?_ ?_); focus (refine ⟨?_, ?_⟩ <;> exact of_decide_eq_true rfl))
    | ((with_reducible refine And.intro ?_ ?_); focus (first | ((with_reducible show okB _ _ _ = true); rfl) | (simp only [inK_def, Go.Vc.lo, Go.Vc.hi]; omega)))
    | (split <;> rename_i hh <;> (try simp only [wS] at hh) <;> (try simp (disch := omega) only [wT] at hh))
    | with_reducible refine (fun (hln : (_ : Int) ≤ 9223372036854775807) => ?_)
    | fail) <;> (conv => whnf)))
   all_goals (try (show _ = _; simp only [wQ]))
   ·rw [hm]; simp [*]
   refine ⟨((⟨key, 2, day, ticket, coupon, status, locator, coupons, taxes, amount, frm, til⟩ : Request), (83 : Int)), True.intro, ?_, ?_⟩
   ·exact leL_rfl _
   (conv => whnf)
   (repeat' ((first
    | ((with_reducible refine And.intro ?_ ?_); focus ((simp only [inK_def, Go.Vc.lo, Go.Vc.hi]; omega)))
    | (split <;> rename_i hh <;> (try simp only [wS] at hh) <;> (try simp (disch := omega) only [wT] at hh))
    | with_reducible refine (fun (hln : (_ : Int) ≤ 9223372036854775807) => ?_)
    | fail) <;> (conv => whnf)))
   all_goals (try (show _ = _; simp only [wQ]))
   ·rw [hm]; simp [*]
   refine ⟨(⟨key, 2, day, ticket, coupon, status, locator, coupons, taxes, amount, frm, til⟩ : Request), ⟨of_decide_eq_true rfl, of_decide_eq_true rfl⟩, ?_, ?_⟩
   ·exact leL_rfl _
   (conv => whnf)
   (repeat' ((first
    | ((with_reducible refine And.intro ?_ ?_); focus (((with_reducible show okB _ _ _ = true); rfl)))
    | fail) <;> (conv => whnf)))
   all_goals (try (show _ = _; simp only [wQ]))
   refine ⟨((⟨key, 2, day, ticket, coupon, status, locator, coupons, taxes, amount, frm, til⟩ : Request), onlyR ⟨key, 2, day, ticket, coupon, status, locator, coupons, taxes, amount, frm, til⟩), True.intro, ?_, ?_⟩
   ·exact leL_rfl _
   (conv => whnf)
   all_goals (try (show _ = _; simp only [wQ]))
   rw [hm]; simp [*]
  ·have hm := mayReq_3 (r := ⟨key, 3, day, ticket, coupon, status, locator, coupons, taxes, amount, frm, til⟩) rfl
   (conv => whnf)
   (repeat' ((first
    | ((with_reducible refine And.intro ?_ ?_); focus (refine ⟨?_, ?_⟩ <;> exact of_decide_eq_true rfl))
    | ((with_reducible refine And.intro ?_ ?_); focus (first | with_reducible exact True.intro | ((with_reducible show okB _ _ _ = true); rfl)))
    | with_reducible refine (fun (hln : (_ : Int) ≤ 9223372036854775807) => ?_)
    | fail) <;> (conv => whnf)))
   all_goals (try (show _ = _; simp only [wQ]))
   refine ⟨((⟨key, 3, day, ticket, coupon, status, locator, coupons, taxes, amount, frm, til⟩ : Request), (75 : Int)), True.intro, ?_, ?_⟩
   ·exact leL_rfl _
   (conv => whnf)
   (repeat' ((first
    | ((with_reducible refine And.intro ?_ ?_); focus (refine ⟨?_, ?_⟩ <;> exact of_decide_eq_true rfl))
    | ((with_reducible refine And.intro ?_ ?_); focus (first | ((with_reducible show okB _ _ _ = true); rfl) | (simp only [inK_def, Go.Vc.lo, Go.Vc.hi]; omega)))
    | (split <;> rename_i hh <;> (try simp only [wS] at hh) <;> (try simp (disch := omega) only [wT] at hh))
    | with_reducible refine (fun (hln : (_ : Int) ≤ 9223372036854775807) => ?_)
    | fail) <;> (conv => whnf)))
   all_goals (try (show _ = _; simp only [wQ]))
   ·rw [hm]; simp [*]
   refine ⟨((⟨key, 3, day, ticket, coupon, status, locator, coupons, taxes, amount, frm, til⟩ : Request), (68 : Int)), True.intro, ?_, ?_⟩
   ·exact leL_rfl _
   (conv => whnf)
   (repeat' ((first
    | ((with_reducible refine And.intro ?_ ?_); focus (refine ⟨?_, ?_⟩ <;> exact of_decide_eq_true rfl))
    | ((with_reducible refine And.intro ?_ ?_); focus (first | ((with_reducible show okB _ _ _ = true); rfl) | (simp only [inK_def, Go.Vc.lo, Go.Vc.hi]; omega)))
    | (split <;> rename_i hh <;> (try simp only [wS] at hh) <;> (try simp (disch := omega) only [wT] at hh))
    | with_reducible refine (fun (hln : (_ : Int) ≤ 9223372036854775807) => ?_)
    | fail) <;> (conv => whnf)))
   all_goals (try (show _ = _; simp only [wQ]))
   ·rw [hm]; simp [*]
   refine ⟨((⟨key, 3, day, ticket, coupon, status, locator, coupons, taxes, amount, frm, til⟩ : Request), (84 : Int)), True.intro, ?_, ?_⟩
   ·exact leL_rfl _
   (conv => whnf)
   (repeat' ((first
    | ((with_reducible refine And.intro ?_ ?_); focus ((simp only [inK_def, Go.Vc.lo, Go.Vc.hi]; omega)))
    | (split <;> rename_i hh <;> (try simp only [wS] at hh) <;> (try simp (disch := omega) only [wT] at hh))
    | with_reducible refine (fun (hln : (_ : Int) ≤ 9223372036854775807) => ?_)
    | fail) <;> (conv => whnf)))
   all_goals (try (show _ = _; simp only [wQ]))
   ·rw [hm]; simp [*]
   refine ⟨(⟨key, 3, day, ticket, coupon, status, locator, coupons, taxes, amount, frm, til⟩ : Request), ⟨of_decide_eq_true rfl, of_decide_eq_true rfl⟩, ?_, ?_⟩
   ·exact leL_rfl _
   (conv => whnf)
   (repeat' ((first
    | ((with_reducible refine And.intro ?_ ?_); focus (((with_reducible show okB _ _ _ = true); rfl)))
    | fail) <;> (conv => whnf)))
   all_goals (try (show _ = _; simp only [wQ]))
   refine ⟨((⟨key, 3, day, ticket, coupon, status, locator, coupons, taxes, amount, frm, til⟩ : Request), onlyR ⟨key, 3, day, ticket, coupon, status, locator, coupons, taxes, amount, frm, til⟩), True.intro, ?_, ?_⟩
   ·exact leL_rfl _
   (conv => whnf)
   all_goals (try (show _ = _; simp only [wQ]))
   rw [hm]; simp [*]
  ·have hm := mayReq_4 (r := ⟨key, 4, day, ticket, coupon, status, locator, coupons, taxes, amount, frm, til⟩) rfl
   (conv => whnf)
   (repeat' ((first
    | ((with_reducible refine And.intro ?_ ?_); focus (refine ⟨?_, ?_⟩ <;> exact of_decide_eq_true rfl))
    | ((with_reducible refine And.intro ?_ ?_); focus (first | with_reducible exact True.intro | ((with_reducible show okB _ _ _ = true); rfl)))
    | with_reducible refine (fun (hln : (_ : Int) ≤ 9223372036854775807) => ?_)
    | fail) <;> (conv => whnf)))
   all_goals (try (show _ = _; simp only [wQ]))
   refine ⟨((⟨key, 4, day, ticket, coupon, status, locator, coupons, taxes, amount, frm, til⟩ : Request), (75 : Int)), True.intro, ?_, ?_⟩
   ·exact leL_rfl _
   (conv => whnf)
   (repeat' ((first
    | ((with_reducible refine And.intro ?_ ?_); focus (refine ⟨?_, ?_⟩ <;> exact of_decide_eq_true rfl))
    | ((with_reducible refine And.intro ?_ ?_); focus (first | ((with_reducible show okB _ _ _ = true); rfl) | (simp only [inK_def, Go.Vc.lo, Go.Vc.hi]; omega)))
    | (split <;> rename_i hh <;> (try simp only [wS] at hh) <;> (try simp (disch := omega) only [wT] at hh))
    | with_reducible refine (fun (hln : (_ : Int) ≤ 9223372036854775807) => ?_)
    | fail) <;> (conv => whnf)))
   all_goals (try (show _ = _; simp only [wQ]))
   ·rw [hm]; simp [*]
   refine ⟨((⟨key, 4, day, ticket, coupon, status, locator, coupons, taxes, amount, frm, til⟩ : Request), (68 : Int)), True.intro, ?_, ?_⟩
   ·exact leL_rfl _
   (conv => whnf)
   (repeat' ((first
    | ((with_reducible refine And.intro ?_ ?_); focus (refine ⟨?_, ?_⟩ <;> exact of_decide_eq_true rfl))
    | ((with_reducible refine And.intro ?_ ?_); focus (first | ((with_reducible show okB _ _ _ = true); rfl) | (simp only [inK_def, Go.Vc.lo, Go.Vc.hi]; omega)))
    | (split <;> rename_i hh <;> (try simp only [wS] at hh) <;> (try simp (disch := omega) only [wT] at hh))
    | with_reducible refine (fun (hln : (_ : Int) ≤ 9223372036854775807) => ?_)
    | fail) <;> (conv => whnf)))
   all_goals (try (show _ = _; simp only [wQ]))
   ·rw [hm]; simp [*]
   refine ⟨((⟨key, 4, day, ticket, coupon, status, locator, coupons, taxes, amount, frm, til⟩ : Request), (84 : Int)), True.intro, ?_, ?_⟩
   ·exact leL_rfl _
   (conv => whnf)
   (repeat' ((first
    | ((with_reducible refine And.intro ?_ ?_); focus (refine ⟨?_, ?_⟩ <;> exact of_decide_eq_true rfl))
    | ((with_reducible refine And.intro ?_ ?_); focus (first | ((with_reducible show okB _ _ _ = true); rfl) | (simp only [inK_def, Go.Vc.lo, Go.Vc.hi]; omega)))
    | (split <;> rename_i hh <;> (try simp only [wS] at hh) <;> (try simp (disch := omega) only [wT] at hh))
    | with_reducible refine (fun (hln : (_ : Int) ≤ 9223372036854775807) => ?_)
    | fail) <;> (conv => whnf)))
   all_goals (try (show _ = _; simp only [wQ]))
   ·rw [hm]; simp [*]
   refine ⟨((⟨key, 4, day, ticket, coupon, status, locator, coupons, taxes, amount, frm, til⟩ : Request), (65 : Int)), True.intro, ?_, ?_⟩
   ·exact leL_rfl _
   (conv => whnf)
   (repeat' ((first
    | ((with_reducible refine And.intro ?_ ?_); focus ((simp only [inK_def, Go.Vc.lo, Go.Vc.hi]; omega)))
    | (split <;> rename_i hh <;> (try simp only [wS] at hh) <;> (try simp (disch := omega) only [wT] at hh))
    | with_reducible refine (fun (hln : (_ : Int) ≤ 9223372036854775807) => ?_)
    | fail) <;> (conv => whnf)))
   all_goals (try (show _ = _; simp only [wQ]))
   ·rw [hm]; simp [*]
   refine ⟨(⟨key, 4, day, ticket, coupon, status, locator, coupons, taxes, amount, frm, til⟩ : Request), ⟨of_decide_eq_true rfl, of_decide_eq_true rfl⟩, ?_, ?_⟩
   ·exact leL_rfl _
   (conv => whnf)
   (repeat' ((first
    | ((with_reducible refine And.intro ?_ ?_); focus (((with_reducible show okB _ _ _ = true); rfl)))
    | fail) <;> (conv => whnf)))
   all_goals (try (show _ = _; simp only [wQ]))
   refine ⟨((⟨key, 4, day, ticket, coupon, status, locator, coupons, taxes, amount, frm, til⟩ : Request), onlyR ⟨key, 4, day, ticket, coupon, status, locator, coupons, taxes, amount, frm, til⟩), True.intro, ?_, ?_⟩
   ·exact leL_rfl _
   (conv => whnf)
   all_goals (try (show _ = _; simp only [wQ]))
   rw [hm]; simp [*]
  ·have hm := mayReq_5 (r := ⟨key, 5, day, ticket, coupon, status, locator, coupons, taxes, amount, frm, til⟩) rfl
   (conv => whnf)
   (repeat' ((first
    | ((with_reducible refine And.intro ?_ ?_); focus (refine ⟨?_, ?_⟩ <;> exact of_decide_eq_true rfl))
    | ((with_reducible refine And.intro ?_ ?_); focus (first | with_reducible exact True.intro | ((with_reducible show okB _ _ _ = true); rfl)))
    | with_reducible refine (fun (hln : (_ : Int) ≤ 9223372036854775807) => ?_)
    | fail) <;> (conv => whnf)))
   all_goals (try (show _ = _; simp only [wQ]))
   refine ⟨((⟨key, 5, day, ticket, coupon, status, locator, coupons, taxes, amount, frm, til⟩ : Request), (75 : Int)), True.intro, ?_, ?_⟩
   ·exact leL_rfl _
   (conv => whnf)
   (repeat' ((first
    | ((with_reducible refine And.intro ?_ ?_); focus (refine ⟨?_, ?_⟩ <;> exact of_decide_eq_true rfl))
    | ((with_reducible refine And.intro ?_ ?_); focus (first | ((with_reducible show okB _ _ _ = true); rfl) | (simp only [inK_def, Go.Vc.lo, Go.Vc.hi]; omega)))
    | (split <;> rename_i hh <;> (try simp only [wS] at hh) <;> (try simp (disch := omega) only [wT] at hh))
    | with_reducible refine (fun (hln : (_ : Int) ≤ 9223372036854775807) => ?_)
    | fail) <;> (conv => whnf)))
   all_goals (try (show _ = _; simp only [wQ]))
   ·rw [hm]; simp [*]
   refine ⟨((⟨key, 5, day, ticket, coupon, status, locator, coupons, taxes, amount, frm, til⟩ : Request), (68 : Int)), True.intro, ?_, ?_⟩
   ·exact leL_rfl _
   (conv => whnf)
   (repeat' ((first
    | ((with_reducible refine And.intro ?_ ?_); focus (refine ⟨?_, ?_⟩ <;> exact of_decide_eq_true rfl))
    | ((with_reducible refine And.intro ?_ ?_); focus (first | ((with_reducible show okB _ _ _ = true); rfl) | (simp only [inK_def, Go.Vc.lo, Go.Vc.hi]; omega)))
    | (split <;> rename_i hh <;> (try simp only [wS] at hh) <;> (try simp (disch := omega) only [wT] at hh))
    | with_reducible refine (fun (hln : (_ : Int) ≤ 9223372036854775807) => ?_)
    | fail) <;> (conv => whnf)))
   all_goals (try (show _ = _; simp only [wQ]))
   ·rw [hm]; simp [*]
   refine ⟨((⟨key, 5, day, ticket, coupon, status, locator, coupons, taxes, amount, frm, til⟩ : Request), (84 : Int)), True.intro, ?_, ?_⟩
   ·exact leL_rfl _
   (conv => whnf)
   (repeat' ((first
    | ((with_reducible refine And.intro ?_ ?_); focus (refine ⟨?_, ?_⟩ <;> exact of_decide_eq_true rfl))
    | ((with_reducible refine And.intro ?_ ?_); focus (first | ((with_reducible show okB _ _ _ = true); rfl) | (simp only [inK_def, Go.Vc.lo, Go.Vc.hi]; omega)))
    | (split <;> rename_i hh <;> (try simp only [wS] at hh) <;> (try simp (disch := omega) only [wT] at hh))
    | with_reducible refine (fun (hln : (_ : Int) ≤ 9223372036854775807) => ?_)
    | fail) <;> (conv => whnf)))
   all_goals (try (show _ = _; simp only [wQ]))
   ·rw [hm]; simp [*]
   refine ⟨((⟨key, 5, day, ticket, coupon, status, locator, coupons, taxes, amount, frm, til⟩ : Request), (65 : Int)), True.intro, ?_, ?_⟩
   ·exact leL_rfl _
   (conv => whnf)
   (repeat' ((first
    | ((with_reducible refine And.intro ?_ ?_); focus (refine ⟨?_, ?_⟩ <;> exact of_decide_eq_true rfl))
    | ((with_reducible refine And.intro ?_ ?_); focus (first | ((with_reducible show okB _ _ _ = true); rfl) | (simp only [inK_def, Go.Vc.lo, Go.Vc.hi]; omega)))
    | (split <;> rename_i hh <;> (try simp only [wS] at hh) <;> (try simp (disch := omega) only [wT] at hh))
    | with_reducible refine (fun (hln : (_ : Int) ≤ 9223372036854775807) => ?_)
    | fail) <;> (conv => whnf)))
   all_goals (try (show _ = _; simp only [wQ]))
   ·rw [hm]; simp [*]
   refine ⟨((⟨key, 5, day, ticket, coupon, status, locator, coupons, taxes, amount, frm, til⟩ : Request), (67 : Int)), True.intro, ?_, ?_⟩
   ·exact leL_rfl _
   (conv => whnf)
   (repeat' ((first
    | ((with_reducible refine And.intro ?_ ?_); focus (refine ⟨?_, ?_⟩ <;> exact of_decide_eq_true rfl))
    | ((with_reducible refine And.intro ?_ ?_); focus (first | ((with_reducible show okB _ _ _ = true); rfl) | (simp only [inK_def, Go.Vc.lo, Go.Vc.hi]; omega)))
    | (split <;> rename_i hh <;> (try simp only [wS] at hh) <;> (try simp (disch := omega) only [wT] at hh))
    | with_reducible refine (fun (hln : (_ : Int) ≤ 9223372036854775807) => ?_)
    | fail) <;> (conv => whnf)))
   all_goals (try (show _ = _; simp only [wQ]))
   ·rw [hm]; simp [*]
   refine ⟨((⟨key, 5, day, ticket, coupon, status, locator, coupons, taxes, amount, frm, til⟩ : Request), (88 : Int)), True.intro, ?_, ?_⟩
   ·exact leL_rfl _
   (conv => whnf)
   (repeat' ((first
    | ((with_reducible refine And.intro ?_ ?_); focus ((simp only [inK_def, Go.Vc.lo, Go.Vc.hi]; omega)))
    | (split <;> rename_i hh <;> (try simp only [wS] at hh) <;> (try simp (disch := omega) only [wT] at hh))
    | with_reducible refine (fun (hln : (_ : Int) ≤ 9223372036854775807) => ?_)
    | fail) <;> (conv => whnf)))
   all_goals (try (show _ = _; simp only [wQ]))
   ·rw [hm]; simp [*]
   refine ⟨(⟨key, 5, day, ticket, coupon, status, locator, coupons, taxes, amount, frm, til⟩ : Request), ⟨of_decide_eq_true rfl, of_decide_eq_true rfl⟩, ?_, ?_⟩
   ·exact leL_rfl _
   (conv => whnf)
   (repeat' ((first
    | ((with_reducible refine And.intro ?_ ?_); focus (((with_reducible show okB _ _ _ = true); rfl)))
    | fail) <;> (conv => whnf)))
   all_goals (try (show _ = _; simp only [wQ]))
   refine ⟨((⟨key, 5, day, ticket, coupon, status, locator, coupons, taxes, amount, frm, til⟩ : Request), onlyR ⟨key, 5, day, ticket, coupon, status, locator, coupons, taxes, amount, frm, til⟩), True.intro, ?_, ?_⟩
   ·exact leL_rfl _
   (conv => whnf)
   all_goals (try (show _ = _; simp only [wQ]))
   rw [hm]; simp [*]
  ·have hm := mayReq_6 (r := ⟨key, 6, day, ticket, coupon, status, locator, coupons, taxes, amount, frm, til⟩) rfl
   (conv => whnf)
   (repeat' ((first
    | ((with_reducible refine And.intro ?_ ?_); focus (refine ⟨?_, ?_⟩ <;> exact of_decide_eq_true rfl))
    | ((with_reducible refine And.intro ?_ ?_); focus (first | with_reducible exact True.intro | ((with_reducible show okB _ _ _ = true); rfl)))
    | with_reducible refine (fun (hln : (_ : Int) ≤ 9223372036854775807) => ?_)
    | fail) <;> (conv => whnf)))
   all_goals (try (show _ = _; simp only [wQ]))
   refine ⟨((⟨key, 6, day, ticket, coupon, status, locator, coupons, taxes, amount, frm, til⟩ : Request), (75 : Int)), True.intro, ?_, ?_⟩
   ·exact leL_rfl _
   (conv => whnf)
   (repeat' ((first
    | ((with_reducible refine And.intro ?_ ?_); focus (refine ⟨?_, ?_⟩ <;> exact of_decide_eq_true rfl))
    | ((with_reducible refine And.intro ?_ ?_); focus (first | ((with_reducible show okB _ _ _ = true); rfl) | (simp only [inK_def, Go.Vc.lo, Go.Vc.hi]; omega)))
    | (split <;> rename_i hh <;> (try simp only [wS] at hh) <;> (try simp (disch := omega) only [wT] at hh))
    | with_reducible refine (fun (hln : (_ : Int) ≤ 9223372036854775807) => ?_)
    | fail) <;> (conv => whnf)))
   all_goals (try (show _ = _; simp only [wQ]))
   ·rw [hm]; simp [*]
   refine ⟨((⟨key, 6, day, ticket, coupon, status, locator, coupons, taxes, amount, frm, til⟩ : Request), (68 : Int)), True.intro, ?_, ?_⟩
   ·exact leL_rfl _
   (conv => whnf)
   (repeat' ((first
    | ((with_reducible refine And.intro ?_ ?_); focus (refine ⟨?_, ?_⟩ <;> exact of_decide_eq_true rfl))
    | ((with_reducible refine And.intro ?_ ?_); focus (first | ((with_reducible show okB _ _ _ = true); rfl) | (simp only [inK_def, Go.Vc.lo, Go.Vc.hi]; omega)))
    | (split <;> rename_i hh <;> (try simp only [wS] at hh) <;> (try simp (disch := omega) only [wT] at hh))
    | with_reducible refine (fun (hln : (_ : Int) ≤ 9223372036854775807) => ?_)
    | fail) <;> (conv => whnf)))
   all_goals (try (show _ = _; simp only [wQ]))
   ·rw [hm]; simp [*]
   refine ⟨((⟨key, 6, day, ticket, coupon, status, locator, coupons, taxes, amount, frm, til⟩ : Request), (84 : Int)), True.intro, ?_, ?_⟩
   ·exact leL_rfl _
   (conv => whnf)
   (repeat' ((first
    | ((with_reducible refine And.intro ?_ ?_); focus (refine ⟨?_, ?_⟩ <;> exact of_decide_eq_true rfl))
    | ((with_reducible refine And.intro ?_ ?_); focus (first | ((with_reducible show okB _ _ _ = true); rfl) | (simp only [inK_def, Go.Vc.lo, Go.Vc.hi]; omega)))
    | (split <;> rename_i hh <;> (try simp only [wS] at hh) <;> (try simp (disch := omega) only [wT] at hh))
    | with_reducible refine (fun (hln : (_ : Int) ≤ 9223372036854775807) => ?_)
    | fail) <;> (conv => whnf)))
   all_goals (try (show _ = _; simp only [wQ]))
   ·rw [hm]; simp [*]
   refine ⟨((⟨key, 6, day, ticket, coupon, status, locator, coupons, taxes, amount, frm, til⟩ : Request), (78 : Int)), True.intro, ?_, ?_⟩
   ·exact leL_rfl _
   (conv => whnf)
   (repeat' ((first
    | ((with_reducible refine And.intro ?_ ?_); focus ((simp only [inK_def, Go.Vc.lo, Go.Vc.hi]; omega)))
    | (split <;> rename_i hh <;> (try simp only [wS] at hh) <;> (try simp (disch := omega) only [wT] at hh))
    | with_reducible refine (fun (hln : (_ : Int) ≤ 9223372036854775807) => ?_)
    | fail) <;> (conv => whnf)))
   all_goals (try (show _ = _; simp only [wQ]))
   ·rw [hm]; simp [*]
   refine ⟨(⟨key, 6, day, ticket, coupon, status, locator, coupons, taxes, amount, frm, til⟩ : Request), ⟨of_decide_eq_true rfl, of_decide_eq_true rfl⟩, ?_, ?_⟩
   ·exact leL_rfl _
   (conv => whnf)
   (repeat' ((first
    | ((with_reducible refine And.intro ?_ ?_); focus (((with_reducible show okB _ _ _ = true); rfl)))
    | fail) <;> (conv => whnf)))
   all_goals (try (show _ = _; simp only [wQ]))
   refine ⟨((⟨key, 6, day, ticket, coupon, status, locator, coupons, taxes, amount, frm, til⟩ : Request), onlyR ⟨key, 6, day, ticket, coupon, status, locator, coupons, taxes, amount, frm, til⟩), True.intro, ?_, ?_⟩
   ·exact leL_rfl _
   (conv => whnf)
   all_goals (try (show _ = _; simp only [wQ]))
   rw [hm]; simp [*]
  ·have hm := mayReq_7 (r := ⟨key, 7, day, ticket, coupon, status, locator, coupons, taxes, amount, frm, til⟩) rfl
   (conv => whnf)
   (repeat' ((first
    | ((with_reducible refine And.intro ?_ ?_); focus (refine ⟨?_, ?_⟩ <;> exact of_decide_eq_true rfl))
    | ((with_reducible refine And.intro ?_ ?_); focus (first | with_reducible exact True.intro | ((with_reducible show okB _ _ _ = true); rfl)))
    | with_reducible refine (fun (hln : (_ : Int) ≤ 9223372036854775807) => ?_)
    | fail) <;> (conv => whnf)))
   all_goals (try (show _ = _; simp only [wQ]))
   refine ⟨((⟨key, 7, day, ticket, coupon, status, locator, coupons, taxes, amount, frm, til⟩ : Request), (75 : Int)), True.intro, ?_, ?_⟩
   ·exact leL_rfl _
   (conv => whnf)
   (repeat' ((first
    | ((with_reducible refine And.intro ?_ ?_); focus (refine ⟨?_, ?_⟩ <;> exact of_decide_eq_true rfl))
    | ((with_reducible refine And.intro ?_ ?_); focus (first | ((with_reducible show okB _ _ _ = true); rfl) | (simp only [inK_def, Go.Vc.lo, Go.Vc.hi]; omega)))
    | (split <;> rename_i hh <;> (try simp only [wS] at hh) <;> (try simp (disch := omega) only [wT] at hh))
    | with_reducible refine (fun (hln : (_ : Int) ≤ 9223372036854775807) => ?_)
    | fail) <;> (conv => whnf)))
   all_goals (try (show _ = _; simp only [wQ]))
   ·rw [hm]; simp [*]
   refine ⟨((⟨key, 7, day, ticket, coupon, status, locator, coupons, taxes, amount, frm, til⟩ : Request), (68 : Int)), True.intro, ?_, ?_⟩
   ·exact leL_rfl _
   (conv => whnf)
   (repeat' ((first
    | ((with_reducible refine And.intro ?_ ?_); focus (refine ⟨?_, ?_⟩ <;> exact of_decide_eq_true rfl))
    | ((with_reducible refine And.intro ?_ ?_); focus (first | ((with_reducible show okB _ _ _ = true); rfl) | (simp only [inK_def, Go.Vc.lo, Go.Vc.hi]; omega)))
    | (split <;> rename_i hh <;> (try simp only [wS] at hh) <;> (try simp (disch := omega) only [wT] at hh))
    | with_reducible refine (fun (hln : (_ : Int) ≤ 9223372036854775807) => ?_)
    | fail) <;> (conv => whnf)))
   all_goals (try (show _ = _; simp only [wQ]))
   ·rw [hm]; simp [*]
   refine ⟨((⟨key, 7, day, ticket, coupon, status, locator, coupons, taxes, amount, frm, til⟩ : Request), (84 : Int)), True.intro, ?_, ?_⟩
   ·exact leL_rfl _
   (conv => whnf)
   (repeat' ((first
    | ((with_reducible refine And.intro ?_ ?_); focus (refine ⟨?_, ?_⟩ <;> exact of_decide_eq_true rfl))
    | ((with_reducible refine And.intro ?_ ?_); focus (first | ((with_reducible show okB _ _ _ = true); rfl) | (simp only [inK_def, Go.Vc.lo, Go.Vc.hi]; omega)))
    | (split <;> rename_i hh <;> (try simp only [wS] at hh) <;> (try simp (disch := omega) only [wT] at hh))
    | with_reducible refine (fun (hln : (_ : Int) ≤ 9223372036854775807) => ?_)
    | fail) <;> (conv => whnf)))
   all_goals (try (show _ = _; simp only [wQ]))
   ·rw [hm]; simp [*]
   refine ⟨((⟨key, 7, day, ticket, coupon, status, locator, coupons, taxes, amount, frm, til⟩ : Request), (78 : Int)), True.intro, ?_, ?_⟩
   ·exact leL_rfl _
   (conv => whnf)
   (repeat' ((first
    | ((with_reducible refine And.intro ?_ ?_); focus ((simp only [inK_def, Go.Vc.lo, Go.Vc.hi]; omega)))
    | (split <;> rename_i hh <;> (try simp only [wS] at hh) <;> (try simp (disch := omega) only [wT] at hh))
    | with_reducible refine (fun (hln : (_ : Int) ≤ 9223372036854775807) => ?_)
    | fail) <;> (conv => whnf)))
   all_goals (try (show _ = _; simp only [wQ]))
   ·rw [hm]; simp [*]
   refine ⟨(⟨key, 7, day, ticket, coupon, status, locator, coupons, taxes, amount, frm, til⟩ : Request), ⟨of_decide_eq_true rfl, of_decide_eq_true rfl⟩, ?_, ?_⟩
   ·exact leL_rfl _
   (conv => whnf)
   (repeat' ((first
    | ((with_reducible refine And.intro ?_ ?_); focus (((with_reducible show okB _ _ _ = true); rfl)))
    | fail) <;> (conv => whnf)))
   all_goals (try (show _ = _; simp only [wQ]))
   refine ⟨((⟨key, 7, day, ticket, coupon, status, locator, coupons, taxes, amount, frm, til⟩ : Request), onlyR ⟨key, 7, day, ticket, coupon, status, locator, coupons, taxes, amount, frm, til⟩), True.intro, ?_, ?_⟩
   ·exact leL_rfl _
   (conv => whnf)
   all_goals (try (show _ = _; simp only [wQ]))
   rw [hm]; simp [*]
  ·have hm := mayReq_8 (r := ⟨key, 8, day, ticket, coupon, status, locator, coupons, taxes, amount, frm, til⟩) rfl
   (conv => whnf)
   (repeat' ((first
    | ((with_reducible refine And.intro ?_ ?_); focus (refine ⟨?_, ?_⟩ <;> exact of_decide_eq_true rfl))
    | ((with_reducible refine And.intro ?_ ?_); focus (first | with_reducible exact True.intro | ((with_reducible show okB _ _ _ = true); rfl)))
    | with_reducible refine (fun (hln : (_ : Int) ≤ 9223372036854775807) => ?_)
    | fail) <;> (conv => whnf)))
   all_goals (try (show _ = _; simp only [wQ]))
   refine ⟨((⟨key, 8, day, ticket, coupon, status, locator, coupons, taxes, amount, frm, til⟩ : Request), (84 : Int)), True.intro, ?_, ?_⟩
   ·exact leL_rfl _
   (conv => whnf)
   (repeat' ((first
    | ((with_reducible refine And.intro ?_ ?_); focus ((simp only [inK_def, Go.Vc.lo, Go.Vc.hi]; omega)))
    | (split <;> rename_i hh <;> (try simp only [wS] at hh) <;> (try simp (disch := omega) only [wT] at hh))
    | with_reducible refine (fun (hln : (_ : Int) ≤ 9223372036854775807) => ?_)
    | fail) <;> (conv => whnf)))
   all_goals (try (show _ = _; simp only [wQ]))
   ·rw [hm]; simp [*]
   refine ⟨(⟨key, 8, day, ticket, coupon, status, locator, coupons, taxes, amount, frm, til⟩ : Request), ⟨of_decide_eq_true rfl, of_decide_eq_true rfl⟩, ?_, ?_⟩
   ·exact leL_rfl _
   (conv => whnf)
   (repeat' ((first
    | ((with_reducible refine And.intro ?_ ?_); focus (((with_reducible show okB _ _ _ = true); rfl)))
    | fail) <;> (conv => whnf)))
   all_goals (try (show _ = _; simp only [wQ]))
   refine ⟨((⟨key, 8, day, ticket, coupon, status, locator, coupons, taxes, amount, frm, til⟩ : Request), onlyR ⟨key, 8, day, ticket, coupon, status, locator, coupons, taxes, amount, frm, til⟩), True.intro, ?_, ?_⟩
   ·exact leL_rfl _
   (conv => whnf)
   all_goals (try (show _ = _; simp only [wQ]))
   rw [hm]; simp [*]
  ·have hm := mayReq_9 (r := ⟨key, 9, day, ticket, coupon, status, locator, coupons, taxes, amount, frm, til⟩) rfl
   (conv => whnf)
   (repeat' ((first
    | ((with_reducible refine And.intro ?_ ?_); focus (refine ⟨?_, ?_⟩ <;> exact of_decide_eq_true rfl))
    | ((with_reducible refine And.intro ?_ ?_); focus (first | with_reducible exact True.intro | ((with_reducible show okB _ _ _ = true); rfl)))
    | with_reducible refine (fun (hln : (_ : Int) ≤ 9223372036854775807) => ?_)
    | fail) <;> (conv => whnf)))
   all_goals (try (show _ = _; simp only [wQ]))
   refine ⟨((⟨key, 9, day, ticket, coupon, status, locator, coupons, taxes, amount, frm, til⟩ : Request), (76 : Int)), True.intro, ?_, ?_⟩
   ·exact leL_rfl _
   (conv => whnf)
   (repeat' ((first
    | ((with_reducible refine And.intro ?_ ?_); focus ((simp only [inK_def, Go.Vc.lo, Go.Vc.hi]; omega)))
    | (split <;> rename_i hh <;> (try simp only [wS] at hh) <;> (try simp (disch := omega) only [wT] at hh))
    | with_reducible refine (fun (hln : (_ : Int) ≤ 9223372036854775807) => ?_)
    | fail) <;> (conv => whnf)))
   all_goals (try (show _ = _; simp only [wQ]))
   ·rw [hm]; simp [*]
   refine ⟨(⟨key, 9, day, ticket, coupon, status, locator, coupons, taxes, amount, frm, til⟩ : Request), ⟨of_decide_eq_true rfl, of_decide_eq_true rfl⟩, ?_, ?_⟩
   ·exact leL_rfl _
   (conv => whnf)
   (repeat' ((first
    | ((with_reducible refine And.intro ?_ ?_); focus (((with_reducible show okB _ _ _ = true); rfl)))
    | fail) <;> (conv => whnf)))
   all_goals (try (show _ = _; simp only [wQ]))
   refine ⟨((⟨key, 9, day, ticket, coupon, status, locator, coupons, taxes, amount, frm, til⟩ : Request), onlyR ⟨key, 9, day, ticket, coupon, status, locator, coupons, taxes, amount, frm, til⟩), True.intro, ?_, ?_⟩
   ·exact leL_rfl _
   (conv => whnf)
   all_goals (try (show _ = _; simp only [wQ]))
   rw [hm]; simp [*]
  ·have hm := mayReq_10 (r := ⟨key, 10, day, ticket, coupon, status, locator, coupons, taxes, amount, frm, til⟩) rfl
   (conv => whnf)
   (repeat' ((first
    | ((with_reducible refine And.intro ?_ ?_); focus (refine ⟨?_, ?_⟩ <;> exact of_decide_eq_true rfl))
    | ((with_reducible refine And.intro ?_ ?_); focus (first | with_reducible exact True.intro | ((with_reducible show okB _ _ _ = true); rfl)))
    | with_reducible refine (fun (hln : (_ : Int) ≤ 9223372036854775807) => ?_)
    | fail) <;> (conv => whnf)))
   all_goals (try (show _ = _; simp only [wQ]))
   refine ⟨((⟨key, 10, day, ticket, coupon, status, locator, coupons, taxes, amount, frm, til⟩ : Request), (82 : Int)), True.intro, ?_, ?_⟩
   ·exact leL_rfl _
   (conv => whnf)
   (repeat' ((first
    | ((with_reducible refine And.intro ?_ ?_); focus ((simp only [inK_def, Go.Vc.lo, Go.Vc.hi]; omega)))
    | (split <;> rename_i hh <;> (try simp only [wS] at hh) <;> (try simp (disch := omega) only [wT] at hh))
    | with_reducible refine (fun (hln : (_ : Int) ≤ 9223372036854775807) => ?_)
    | fail) <;> (conv => whnf)))
   all_goals (try (show _ = _; simp only [wQ]))
   ·rw [hm]; simp [*]
   refine ⟨(⟨key, 10, day, ticket, coupon, status, locator, coupons, taxes, amount, frm, til⟩ : Request), ⟨of_decide_eq_true rfl, of_decide_eq_true rfl⟩, ?_, ?_⟩
   ·exact leL_rfl _
   (conv => whnf)
   (repeat' ((first
    | ((with_reducible refine And.intro ?_ ?_); focus (((with_reducible show okB _ _ _ = true); rfl)))
    | fail) <;> (conv => whnf)))
   all_goals (try (show _ = _; simp only [wQ]))
   refine ⟨((⟨key, 10, day, ticket, coupon, status, locator, coupons, taxes, amount, frm, til⟩ : Request), onlyR ⟨key, 10, day, ticket, coupon, status, locator, coupons, taxes, amount, frm, til⟩), True.intro, ?_, ?_⟩
   ·exact leL_rfl _
   (conv => whnf)
   all_goals (try (show _ = _; simp only [wQ]))
   rw [hm]; simp [*]
 ·have hl : rowQ kind = [] := rowQ_no h
  have hn : mayReqB ⟨key, kind, day, ticket, coupon, status, locator, coupons, taxes, amount, frm, til⟩ = false := mayReq_no h
  (conv => whnf)
  (repeat' ((first
   | ((with_reducible refine And.intro ?_ ?_); focus (first | with_reducible exact True.intro | ((with_reducible show okB _ _ _ = true); rfl) | ((with_reducible refine ⟨?_, ?_⟩) <;> first | with_reducible assumption | omega)))
   | (split <;> rename_i hh <;> (try simp only [wS] at hh) <;> (try simp (disch := omega) only [wT] at hh))
   | with_reducible refine (fun (hln : (_ : Int) ≤ 9223372036854775807) => ?_)
   | fail) <;> (conv => whnf)))
  all_goals (try (show _ = _; simp only [wQ]))
  ·rw [hl] at hh; exact absurd hh (Int.lt_irrefl 0)
  ·exact absurd hl (by assumption)
  ·exact hn.symm
end
end Go.Vc.Z
namespace Go.Vc.Z
open Go Go.Vc Go.Proofs Go.RowKit Go.Pl Go.Lib
theorem join_two (x z : List UInt8) (r : List (List UInt8)) (c : UInt8) : Lib.join (x :: z :: r) [c] = x ++ c :: Lib.join (z :: r) [c] := by
 simp [Lib.join_cons, Lib.joinTail]
theorem join_mem {c : UInt8} : ∀ {L : List (List UInt8)} {k : UInt8}, c ∈ Lib.join L [k] → c = k ∨ ∃ s ∈ L, c ∈ s
 | [], _, h => by simp [Lib.join_nil] at h
 | [x], _, h => .inr ⟨x, by simp, by rwa [Lib.join_one] at h⟩
 | x :: z :: r, k, h => by
  rw [join_two, List.mem_append, List.mem_cons] at h
  rcases h with h | h | h
  ·exact .inr ⟨x, by simp, h⟩
  ·exact .inl h
  ·rcases join_mem h with h | ⟨s, hs, h⟩
   ·exact .inl h
   ·exact .inr ⟨s, List.mem_cons_of_mem _ hs, h⟩
theorem dec_no {k : UInt8} (h : ¬ (48 ≤ k.toNat ∧ k.toNat ≤ 57)) (u : Nat) : k ∉ decDigits u := fun hm => h (allDig_iff.1 (allDig_dec u) k hm)
theorem itoa_no {k : UInt8} (h : ¬ (48 ≤ k.toNat ∧ k.toNat ≤ 57)) (h45 : k ≠ 45) (n : Int) : k ∉ Lib.itoa n := by
 unfold Lib.itoa
 split
 ·rw [List.mem_cons]; exact fun hm => hm.elim h45 (dec_no h _)
 ·exact dec_no h _
theorem num_no {k : UInt8} (h : ¬ (48 ≤ k.toNat ∧ k.toNat ≤ 57)) (n : Int) : k ∉ numText n := by
 unfold numText
 split
 ·exact dec_no h _
 ·simp
theorem digB_dig (n : Int) : 48 ≤ (digB n).toNat ∧ (digB n).toNat ≤ 57 := by
 have : (48 + n % 10).toNat = 48 + (n % 10).toNat % 10 := by omega
 rw [digB, this, dig_toNat]; omega
theorem digB_val (n : Int) : (digB n).toNat = 48 + (n % 10).toNat := by
 have : (48 + n % 10).toNat = 48 + (n % 10).toNat % 10 := by omega
 rw [digB, this, dig_toNat]; omega
theorem cents_no {k : UInt8} (h : ¬ (48 ≤ k.toNat ∧ k.toNat ≤ 57)) (h46 : k ≠ 46) (n : Int) : k ∉ centsT n := by
 unfold centsT
 simp only [List.mem_append, List.mem_cons, List.not_mem_nil, or_false]
 rintro (hm | hm | hm | hm)
 ·exact dec_no h _ hm
 ·exact h46 hm
 ·exact h (by rw [hm]; exact digB_dig _)
 ·exact h (by rw [hm]; exact digB_dig _)
theorem fare_no {k : UInt8} (h : ¬ (48 ≤ k.toNat ∧ k.toNat ≤ 57)) (h45 : k ≠ 45) (h46 : k ≠ 46) (n : Int) : k ∉ fareT n := by
 unfold fareT moneyT
 split
 ·split
  ·rw [List.mem_cons]; exact fun hm => hm.elim h45 (cents_no h h46 _)
  ·exact cents_no h h46 _
 ·simp
theorem letterS_at {s : Int} (h : mayS s = true) : letterS s = [stL.getD (s - 1).toNat 0] := by
 unfold letterS
 rw [if_pos h]
 rcases mayS_cases h with rfl | rfl | rfl | rfl | rfl | rfl | rfl | rfl | rfl <;> rfl
theorem letter_no {k : UInt8} (h : k ∉ stL) (s : Int) : k ∉ letterS s := by
 unfold letterS
 split
 ·exact fun hm => h (List.mem_of_mem_drop (List.mem_of_mem_take hm))
 ·simp
theorem tax_no {k : UInt8} (h : ¬ (48 ≤ k.toNat ∧ k.toNat ≤ 57)) (h45 : k ≠ 45) (h46 : k ≠ 46) (h61 : k ≠ 61) (x : Tax) : k ∉ taxW x := by
 unfold taxW
 simp only [List.mem_append, List.mem_cons, List.not_mem_nil, or_false]
 rintro ((hm | hm) | hm)
 ·exact itoa_no h h45 _ hm
 ·exact h61 hm
 ·exact fare_no h h45 h46 _ hm
theorem someB_money {n : Int} (h : someB n = true) : moneyB n = true := by
 unfold someB at h
 unfold moneyB
 simp only [Bool.and_eq_true, decide_eq_true_eq] at h ⊢
 omega
theorem loc_no {s : List UInt8} (h : locOk s = true) : (32 : UInt8) ∉ s := by
 unfold locOk at h
 simp only [Bool.and_eq_true, List.all_eq_true] at h
 intro hm
 have := h.1 32 hm
 exact absurd this (by decide)
theorem taxes_no (l : List Tax) : (32 : UInt8) ∉ taxesW l := by
 unfold taxesW
 split
 ·decide
 ·intro hm
  rcases join_mem hm with h | ⟨s, hs, h⟩
  ·exact absurd h (by decide)
  ·obtain ⟨x, _, rfl⟩ := List.mem_map.1 hs
   exact tax_no (by decide) (by decide) (by decide) (by decide) x h
end Go.Vc.Z
namespace Go.Vc.Z
open Go Go.Vc Go.Proofs Go.RowKit Go.Pl Go.Lib
noncomputable section
set_option maxRecDepth 100000
set_option linter.unusedSimpArgs false
set_option linter.unusedVariables false
attribute [local irreducible] inK Utf8.decode Utf8.encode Lib.itoa Pl.worth Pl.allDig
attribute [local irreducible] Lib.join
@[irreducible] def flightsW (l : List Coupon) : List UInt8 := Lib.join (l.map flightW) [44]
def pcFlights : PC := PC.of (fun l : List Coupon => [slE 6 Coupon.enc l]) (fun l => l.length ≤ 12 ∧ ∀ c ∈ l, moneyB c.value = true) (fun l => .str (sS (flightsW l)))
def LFl (l : List Coupon) : LoopSpec := {
 α := Nat
 keep := [0, 3, 4]
 vals i := [slE 6 Coupon.enc l, .str (sS (Lib.join ((l.take i).map flightW) [44])), .int .i64 i]
 heap _ := []
 ok i := i ≤ l.length
 μ i := l.length - i }
theorem getD_mem {α : Type} [Inhabited α] {l : List α} {i : Nat} (h : i < l.length) : l.getD (Int.toNat (i : Int)) default ∈ l := by
 rw [show Int.toNat (i : Int) = i from rfl, List.getD_eq_getElem?_getD, List.getElem?_eq_getElem h]; exact List.getElem_mem h
theorem flightW_cap {l : List Coupon} (h : factL [slE 6 Coupon.enc l]) : ∀ c ∈ l, (flightW c).length ≤ 200 := by
 intro c hc
 obtain ⟨i, hi, rfl⟩ := List.getElem_of_mem hc
 simp only [factL, factA] at h
 have h1 := h.1.2 i hi
 rw [List.getD_eq_getElem?_getD, List.getElem?_eq_getElem hi] at h1
 simp only [Option.getD_some] at h1
 have l1 := flightW_len (c := l[i]) (inK_def.1 h1.2.1) (inK_def.1 h1.2.2.1)
 omega
theorem joinF_le {l : List Coupon} (h : factL [slE 6 Coupon.enc l]) (hl : l.length ≤ 12) (i : Nat) : (Lib.join ((l.take i).map flightW) [44]).length ≤ 3000 := by
 have hw := flightW_cap h
 have hj := join_le [44] 200 ((l.take i).map flightW) (fun s hs => by
  obtain ⟨c, hc, rfl⟩ := List.mem_map.1 hs
  exact hw c (List.mem_of_mem_take hc))
 have h4 : ((l.take i).map flightW).length ≤ 12 := by simp; omega
 have := Nat.mul_le_mul_right (200 + [(44 : UInt8)].length) h4
 simp only [List.length_cons, List.length_nil] at this hj
 omega
def D_couponref26_flights : PT := tabD [(171, pcFlightR)]
theorem d_couponref26_flights {W : World} (hW : Tabs W) : PTOk (Fw W) Tryz.prog D_couponref26_flights := (tabD_cons Tryz.call171 (g_couponref26_flight hW) tabD_nil)
def C_couponref26_flights : FuncId → Option Ctr := tabC D_couponref26_flights []
theorem c_couponref26_flights {W : World} (hW : Tabs W) : CtrOk (Fw W) Tryz.prog C_couponref26_flights := (tabC_nil (d_couponref26_flights hW))
def L_couponref26_flights : List Coupon → Nat → Option LR := fun l i => cond (Nat.beq i 3) (some (.inv (LFl l))) (none)
set_option maxHeartbeats 2000000 in
theorem g_couponref26_flights {W : World} (hW : Tabs W) : GoodP (Fw W) Tryz.prog 84 pcFlights := by
 have hD := d_couponref26_flights hW
 have hC0 : ∀ l : List Coupon, CtrOk (Fw W) Tryz.prog C_couponref26_flights := fun l => (c_couponref26_flights hW)
 refine goodP_ofC (D := D_couponref26_flights) (C := fun l => C_couponref26_flights) (wr := (fun _ => false)) rfl tyOk hD hC0 Tryz.func84 (L_couponref26_flights) (fun _ => rfl) ?_
 intro l hf hp
 obtain ⟨p1, p2⟩ := hp
 have hj := joinF_le hf p1
 have hw := flightW_cap hf
 clear hf
 (conv => whnf)
 all_goals (try (show _ = _; simp only [wQ]))
 refine ⟨?_, fun (i : Nat) (hi : i ≤ l.length) => ?_⟩
 ·(conv => whnf)
  refine ⟨(0 : Nat), [], ?_, ⟨⟨rfl, Nat.le_of_ble_eq_true rfl, rfl⟩, ?_, ?_⟩⟩
  ·exact Nat.zero_le _
  ·(conv => whnf)
   (repeat' ((first | with_reducible exact True.intro | ((with_reducible refine And.intro ?_ ?_); focus (first | with_reducible rfl | omega | exact Nat.le_of_ble_eq_true rfl | rfl)) | with_reducible refine And.intro (?_ : leA _ _ _) ?_ | fail) <;> (conv => whnf)))
   all_goals (try simp only [wQ])
   all_goals (try first | omega | exact ⟨fun h => h, fun _ _ => True.intro⟩)
   simp [Lib.join_nil]
  ·(conv => whnf)
   (repeat' ((first | with_reducible exact True.intro | fail) <;> (conv => whnf)))
   all_goals (try simp only [wQ])
 ·have hj2 := hj i
  have q2 : i < l.length → (flightW ⟨(l.getD (Int.toNat (i : Int)) default).flight, (l.getD (Int.toNat (i : Int)) default).day, (l.getD (Int.toNat (i : Int)) default).value, (l.getD (Int.toNat (i : Int)) default).status, (l.getD (Int.toNat (i : Int)) default).holder, (l.getD (Int.toNat (i : Int)) default).next⟩).length ≤ 200 := fun h => hw _ (getD_mem h)
  have q3 : i < l.length → moneyB (l.getD (Int.toNat (i : Int)) default).value = true := fun h => p2 _ (getD_mem h)
  (conv => whnf)
  (repeat' ((first
   | ((with_reducible refine And.intro ?_ ?_); focus (exact q3 (by omega)))
   | ((with_reducible refine And.intro ?_ ?_); focus (first | omega | (simp only [inK_def, Go.Vc.lo, Go.Vc.hi]; omega) | (simp only [List.length_append, bytesOf_length, List.toList_toArray, List.length_cons, List.length_nil, List.length_take, List.length_drop, sS_eq]; omega)))
   | (split <;> rename_i hh <;> (try simp only [wS] at hh) <;> (try simp (disch := omega) only [wT] at hh))
   | with_reducible refine (fun (hln : (_ : Int) ≤ 9223372036854775807) => ?_)
   | fail) <;> (conv => whnf)))
  all_goals (try (show _ = _; simp only [wQ]))
  ·(conv => whnf)
   refine ⟨(i + 1 : Nat), [], ?_, ⟨⟨rfl, Nat.le_of_ble_eq_true rfl, rfl⟩, ?_, ?_⟩⟩
   ·exact ⟨show i + 1 ≤ l.length by omega, show l.length - (i + 1) < l.length - i by omega⟩
   ·(conv => whnf)
    (repeat' ((first | with_reducible exact True.intro | ((with_reducible refine And.intro ?_ ?_); focus (first | with_reducible rfl | omega | exact Nat.le_of_ble_eq_true rfl | rfl)) | with_reducible refine And.intro (?_ : leA _ _ _) ?_ | fail) <;> (conv => whnf)))
    all_goals (try simp only [wQ])
    all_goals (try first | omega | exact ⟨fun h => h, fun _ _ => True.intro⟩)
    rw [join_take (by omega), if_neg (by omega)]
   ·(conv => whnf)
    (repeat' ((first | with_reducible exact True.intro | fail) <;> (conv => whnf)))
    all_goals (try simp only [wQ])
  ·(conv => whnf)
   refine ⟨(i + 1 : Nat), [], ?_, ⟨⟨rfl, Nat.le_of_ble_eq_true rfl, rfl⟩, ?_, ?_⟩⟩
   ·exact ⟨show i + 1 ≤ l.length by omega, show l.length - (i + 1) < l.length - i by omega⟩
   ·(conv => whnf)
    (repeat' ((first | with_reducible exact True.intro | ((with_reducible refine And.intro ?_ ?_); focus (first | with_reducible rfl | omega | exact Nat.le_of_ble_eq_true rfl | rfl)) | with_reducible refine And.intro (?_ : leA _ _ _) ?_ | fail) <;> (conv => whnf)))
    all_goals (try simp only [wQ])
    all_goals (try first | omega | exact ⟨fun h => h, fun _ _ => True.intro⟩)
    obtain rfl : i = 0 := by omega
    rw [join_take (by omega), if_pos rfl]; simp [Lib.join_nil]
   ·(conv => whnf)
    (repeat' ((first | with_reducible exact True.intro | fail) <;> (conv => whnf)))
    all_goals (try simp only [wQ])
  ·unfold flightsW; rw [List.take_of_length_le (by omega)]
theorem part_K (r : Request) : partB r 75 = keyB r.key := by unfold partB; rw [if_pos rfl]
theorem part_D (r : Request) : partB r 68 = dayB r.day := by unfold partB; rw [if_neg (by decide), if_pos rfl]
theorem part_L (r : Request) : partB r 76 = locOk r.locator := by unfold partB; rw [if_neg (by decide), if_neg (by decide), if_pos rfl]
theorem part_T (r : Request) : partB r 84 = numdB r.ticket := by unfold partB; rw [if_neg (by decide), if_neg (by decide), if_neg (by decide), if_pos rfl]
theorem part_N (r : Request) : partB r 78 = (decide (1 ≤ r.coupon) && decide (r.coupon ≤ 4)) := by unfold partB; rw [if_neg (by decide), if_neg (by decide), if_neg (by decide), if_neg (by decide), if_pos rfl]
theorem part_S (r : Request) : partB r 83 = mayS r.status := by unfold partB; rw [if_neg (by decide), if_neg (by decide), if_neg (by decide), if_neg (by decide), if_neg (by decide), if_pos rfl]
theorem part_A (r : Request) : partB r 65 = someB r.amount := by unfold partB; rw [if_neg (by decide), if_neg (by decide), if_neg (by decide), if_neg (by decide), if_neg (by decide), if_neg (by decide), if_pos rfl]
theorem part_J (r : Request) : partB r 74 = coupB 12 r.coupons := by unfold partB; rw [if_neg (by decide), if_neg (by decide), if_neg (by decide), if_neg (by decide), if_neg (by decide), if_neg (by decide), if_neg (by decide), if_pos rfl]
theorem part_C (r : Request) : partB r 67 = coupB 4 r.coupons := by unfold partB; rw [if_neg (by decide), if_neg (by decide), if_neg (by decide), if_neg (by decide), if_neg (by decide), if_neg (by decide), if_neg (by decide), if_neg (by decide), if_pos rfl]
theorem part_X (r : Request) : partB r 88 = taxesB r.taxes := by unfold partB; rw [if_neg (by decide), if_neg (by decide), if_neg (by decide), if_neg (by decide), if_neg (by decide), if_neg (by decide), if_neg (by decide), if_neg (by decide), if_neg (by decide), if_pos rfl]
theorem part_R (r : Request) : partB r 82 = (dayB r.frm && dayB r.til) := by unfold partB; rw [if_neg (by decide), if_neg (by decide), if_neg (by decide), if_neg (by decide), if_neg (by decide), if_neg (by decide), if_neg (by decide), if_neg (by decide), if_neg (by decide), if_neg (by decide)]
def reqParts (r : Request) : List (List UInt8) := cond (eqI r.kind 1) [[105, 115, 115, 117, 101], r.key, Lib.itoa r.day, r.locator, flightsW r.coupons, taxesW r.taxes] (cond (eqI r.kind 2) [[109, 111, 118, 101], r.key, Lib.itoa r.day, numText r.ticket, Lib.itoa r.coupon, letterS r.status] (cond (eqI r.kind 3) [[118, 111, 105, 100], r.key, Lib.itoa r.day, numText r.ticket] (cond (eqI r.kind 4) [[114, 101, 102, 117, 110, 100], r.key, Lib.itoa r.day, numText r.ticket, fareT r.amount] (cond (eqI r.kind 5) [[101, 120, 99, 104, 97, 110, 103, 101], r.key, Lib.itoa r.day, numText r.ticket, fareT r.amount, flightsW r.coupons, taxesW r.taxes] (cond (eqI r.kind 6) [[97, 115, 107], r.key, Lib.itoa r.day, numText r.ticket, Lib.itoa r.coupon] (cond (eqI r.kind 7) [[114, 101, 116, 117, 114, 110], r.key, Lib.itoa r.day, numText r.ticket, Lib.itoa r.coupon] (cond (eqI r.kind 8) [[115, 104, 111, 119], numText r.ticket] (cond (eqI r.kind 9) [[102, 105, 110, 100], r.locator] (cond (eqI r.kind 10) [[114, 101, 112, 111, 114, 116], Lib.itoa r.frm, Lib.itoa r.til] ([]))))))))))
@[irreducible] def reqW (r : Request) : List UInt8 := if mayReqB r = true then Lib.join (reqParts r) [32] else []
theorem reqW_no {r : Request} (h : mayReqB r = false) : reqW r = [] := by unfold reqW; rw [h]; rfl
theorem mayFacts_1 {r : Request} (h : r.kind = 1) (hm : mayReqB r = true) : keyB r.key = true ∧ dayB r.day = true ∧ locOk r.locator = true ∧ coupB 12 r.coupons = true ∧ taxesB r.taxes = true := by
 rw [mayReq_1 h] at hm
 simp only [part_K, part_D, part_L, part_J, part_X, Bool.and_eq_true, decide_eq_true_eq] at hm
 simp only [hm, and_self]
theorem reqParts_1 {r : Request} (h : r.kind = 1) : reqParts r = [[105, 115, 115, 117, 101], r.key, Lib.itoa r.day, r.locator, flightsW r.coupons, taxesW r.taxes] := by unfold reqParts; rw [h]; rfl
theorem reqW_1 {r : Request} (h : r.kind = 1) (hm : mayReqB r = true) : reqW r = [105, 115, 115, 117, 101] ++ [32] ++ r.key ++ [32] ++ Lib.itoa r.day ++ [32] ++ r.locator ++ [32] ++ flightsW r.coupons ++ [32] ++ taxesW r.taxes := by
 unfold reqW
 rw [if_pos hm, reqParts_1 h]
 simp only [join_two, Lib.join_one, List.append_assoc, List.cons_append, List.nil_append]
theorem mayFacts_2 {r : Request} (h : r.kind = 2) (hm : mayReqB r = true) : keyB r.key = true ∧ dayB r.day = true ∧ numdB r.ticket = true ∧ (1 ≤ r.coupon ∧ r.coupon ≤ 4) ∧ mayS r.status = true := by
 rw [mayReq_2 h] at hm
 simp only [part_K, part_D, part_T, part_N, part_S, Bool.and_eq_true, decide_eq_true_eq] at hm
 simp only [hm, and_self]
theorem reqParts_2 {r : Request} (h : r.kind = 2) : reqParts r = [[109, 111, 118, 101], r.key, Lib.itoa r.day, numText r.ticket, Lib.itoa r.coupon, letterS r.status] := by unfold reqParts; rw [h]; rfl
theorem reqW_2 {r : Request} (h : r.kind = 2) (hm : mayReqB r = true) : reqW r = [109, 111, 118, 101] ++ [32] ++ r.key ++ [32] ++ Lib.itoa r.day ++ [32] ++ numText r.ticket ++ [32] ++ Lib.itoa r.coupon ++ [32] ++ letterS r.status := by
 unfold reqW
 rw [if_pos hm, reqParts_2 h]
 simp only [join_two, Lib.join_one, List.append_assoc, List.cons_append, List.nil_append]
theorem mayFacts_3 {r : Request} (h : r.kind = 3) (hm : mayReqB r = true) : keyB r.key = true ∧ dayB r.day = true ∧ numdB r.ticket = true := by
 rw [mayReq_3 h] at hm
 simp only [part_K, part_D, part_T, Bool.and_eq_true, decide_eq_true_eq] at hm
 simp only [hm, and_self]
theorem reqParts_3 {r : Request} (h : r.kind = 3) : reqParts r = [[118, 111, 105, 100], r.key, Lib.itoa r.day, numText r.ticket] := by unfold reqParts; rw [h]; rfl
theorem reqW_3 {r : Request} (h : r.kind = 3) (hm : mayReqB r = true) : reqW r = [118, 111, 105, 100] ++ [32] ++ r.key ++ [32] ++ Lib.itoa r.day ++ [32] ++ numText r.ticket := by
 unfold reqW
 rw [if_pos hm, reqParts_3 h]
 simp only [join_two, Lib.join_one, List.append_assoc, List.cons_append, List.nil_append]
theorem mayFacts_4 {r : Request} (h : r.kind = 4) (hm : mayReqB r = true) : keyB r.key = true ∧ dayB r.day = true ∧ numdB r.ticket = true ∧ someB r.amount = true := by
 rw [mayReq_4 h] at hm
 simp only [part_K, part_D, part_T, part_A, Bool.and_eq_true, decide_eq_true_eq] at hm
 simp only [hm, and_self]
theorem reqParts_4 {r : Request} (h : r.kind = 4) : reqParts r = [[114, 101, 102, 117, 110, 100], r.key, Lib.itoa r.day, numText r.ticket, fareT r.amount] := by unfold reqParts; rw [h]; rfl
theorem reqW_4 {r : Request} (h : r.kind = 4) (hm : mayReqB r = true) : reqW r = [114, 101, 102, 117, 110, 100] ++ [32] ++ r.key ++ [32] ++ Lib.itoa r.day ++ [32] ++ numText r.ticket ++ [32] ++ fareT r.amount := by
 unfold reqW
 rw [if_pos hm, reqParts_4 h]
 simp only [join_two, Lib.join_one, List.append_assoc, List.cons_append, List.nil_append]
theorem mayFacts_5 {r : Request} (h : r.kind = 5) (hm : mayReqB r = true) : keyB r.key = true ∧ dayB r.day = true ∧ numdB r.ticket = true ∧ someB r.amount = true ∧ coupB 4 r.coupons = true ∧ taxesB r.taxes = true := by
 rw [mayReq_5 h] at hm
 simp only [part_K, part_D, part_T, part_A, part_C, part_X, Bool.and_eq_true, decide_eq_true_eq] at hm
 simp only [hm, and_self]
theorem reqParts_5 {r : Request} (h : r.kind = 5) : reqParts r = [[101, 120, 99, 104, 97, 110, 103, 101], r.key, Lib.itoa r.day, numText r.ticket, fareT r.amount, flightsW r.coupons, taxesW r.taxes] := by unfold reqParts; rw [h]; rfl
theorem reqW_5 {r : Request} (h : r.kind = 5) (hm : mayReqB r = true) : reqW r = [101, 120, 99, 104, 97, 110, 103, 101] ++ [32] ++ r.key ++ [32] ++ Lib.itoa r.day ++ [32] ++ numText r.ticket ++ [32] ++ fareT r.amount ++ [32] ++ flightsW r.coupons ++ [32] ++ taxesW r.taxes := by
 unfold reqW
 rw [if_pos hm, reqParts_5 h]
 simp only [join_two, Lib.join_one, List.append_assoc, List.cons_append, List.nil_append]
theorem mayFacts_6 {r : Request} (h : r.kind = 6) (hm : mayReqB r = true) : keyB r.key = true ∧ dayB r.day = true ∧ numdB r.ticket = true ∧ (1 ≤ r.coupon ∧ r.coupon ≤ 4) := by
 rw [mayReq_6 h] at hm
 simp only [part_K, part_D, part_T, part_N, Bool.and_eq_true, decide_eq_true_eq] at hm
 simp only [hm, and_self]
theorem reqParts_6 {r : Request} (h : r.kind = 6) : reqParts r = [[97, 115, 107], r.key, Lib.itoa r.day, numText r.ticket, Lib.itoa r.coupon] := by unfold reqParts; rw [h]; rfl
theorem reqW_6 {r : Request} (h : r.kind = 6) (hm : mayReqB r = true) : reqW r = [97, 115, 107] ++ [32] ++ r.key ++ [32] ++ Lib.itoa r.day ++ [32] ++ numText r.ticket ++ [32] ++ Lib.itoa r.coupon := by
 unfold reqW
 rw [if_pos hm, reqParts_6 h]
 simp only [join_two, Lib.join_one, List.append_assoc, List.cons_append, List.nil_append]
theorem mayFacts_7 {r : Request} (h : r.kind = 7) (hm : mayReqB r = true) : keyB r.key = true ∧ dayB r.day = true ∧ numdB r.ticket = true ∧ (1 ≤ r.coupon ∧ r.coupon ≤ 4) := by
 rw [mayReq_7 h] at hm
 simp only [part_K, part_D, part_T, part_N, Bool.and_eq_true, decide_eq_true_eq] at hm
 simp only [hm, and_self]
theorem reqParts_7 {r : Request} (h : r.kind = 7) : reqParts r = [[114, 101, 116, 117, 114, 110], r.key, Lib.itoa r.day, numText r.ticket, Lib.itoa r.coupon] := by unfold reqParts; rw [h]; rfl
theorem reqW_7 {r : Request} (h : r.kind = 7) (hm : mayReqB r = true) : reqW r = [114, 101, 116, 117, 114, 110] ++ [32] ++ r.key ++ [32] ++ Lib.itoa r.day ++ [32] ++ numText r.ticket ++ [32] ++ Lib.itoa r.coupon := by
 unfold reqW
 rw [if_pos hm, reqParts_7 h]
 simp only [join_two, Lib.join_one, List.append_assoc, List.cons_append, List.nil_append]
theorem mayFacts_8 {r : Request} (h : r.kind = 8) (hm : mayReqB r = true) : numdB r.ticket = true := by
 rw [mayReq_8 h] at hm
 simp only [part_T, Bool.and_eq_true, decide_eq_true_eq] at hm
 simp only [hm, and_self]
theorem reqParts_8 {r : Request} (h : r.kind = 8) : reqParts r = [[115, 104, 111, 119], numText r.ticket] := by unfold reqParts; rw [h]; rfl
theorem reqW_8 {r : Request} (h : r.kind = 8) (hm : mayReqB r = true) : reqW r = [115, 104, 111, 119] ++ [32] ++ numText r.ticket := by
 unfold reqW
 rw [if_pos hm, reqParts_8 h]
 simp only [join_two, Lib.join_one, List.append_assoc, List.cons_append, List.nil_append]
theorem mayFacts_9 {r : Request} (h : r.kind = 9) (hm : mayReqB r = true) : locOk r.locator = true := by
 rw [mayReq_9 h] at hm
 simp only [part_L, Bool.and_eq_true, decide_eq_true_eq] at hm
 simp only [hm, and_self]
theorem reqParts_9 {r : Request} (h : r.kind = 9) : reqParts r = [[102, 105, 110, 100], r.locator] := by unfold reqParts; rw [h]; rfl
theorem reqW_9 {r : Request} (h : r.kind = 9) (hm : mayReqB r = true) : reqW r = [102, 105, 110, 100] ++ [32] ++ r.locator := by
 unfold reqW
 rw [if_pos hm, reqParts_9 h]
 simp only [join_two, Lib.join_one, List.append_assoc, List.cons_append, List.nil_append]
theorem mayFacts_10 {r : Request} (h : r.kind = 10) (hm : mayReqB r = true) : (dayB r.frm = true ∧ dayB r.til = true) := by
 rw [mayReq_10 h] at hm
 simp only [part_R, Bool.and_eq_true, decide_eq_true_eq] at hm
 simp only [hm, and_self]
theorem reqParts_10 {r : Request} (h : r.kind = 10) : reqParts r = [[114, 101, 112, 111, 114, 116], Lib.itoa r.frm, Lib.itoa r.til] := by unfold reqParts; rw [h]; rfl
theorem reqW_10 {r : Request} (h : r.kind = 10) (hm : mayReqB r = true) : reqW r = [114, 101, 112, 111, 114, 116] ++ [32] ++ Lib.itoa r.frm ++ [32] ++ Lib.itoa r.til := by
 unfold reqW
 rw [if_pos hm, reqParts_10 h]
 simp only [join_two, Lib.join_one, List.append_assoc, List.cons_append, List.nil_append]
theorem keyB_len {s : List UInt8} (h : keyB s = true) : s.length ≤ 16 := by
 unfold keyB at h; simp only [Bool.and_eq_true, decide_eq_true_eq] at h; omega
theorem coupB_facts {m : Int} {l : List Coupon} (h : coupB m l = true) : 1 ≤ l.length ∧ (l.length : Int) ≤ m ∧ ∀ c ∈ l, plainB c 0 = true := by
 unfold coupB at h; simp only [Bool.and_eq_true, decide_eq_true_eq, List.all_eq_true] at h
 exact ⟨h.1.2, h.2, h.1.1⟩
theorem plain_money {c : Coupon} {s : Int} (h : plainB c s = true) : moneyB c.value = true := by
 unfold plainB at h
 simp only [Bool.and_eq_true] at h
 exact someB_money (by simp only [h])
theorem num_dec {n : Int} (h : numdB n = true) : numText n = decDigits n.toNat := by
 unfold numdB at h; unfold numText; rw [if_pos (by simpa using h)]
def pcReqLineR : PC := PC.of (fun r : Request => [.agg r.enc]) (fun r => mayReqB r = true) (fun r => .str (sS (reqW r)))
def D_couponref26_RequestLine : PT := tabD [(49, pcNum), (75, pcRow), (80, pcNames), (81, pcDigits), (82, pcLetter), (83, pcMoneyT), (84, pcFlights), (85, pcTaxesR)]
theorem d_couponref26_RequestLine {W : World} (hW : Tabs W) : PTOk (Fw W) Tryz.prog D_couponref26_RequestLine := (tabD_cons Tryz.call49 (g_couponref26_num hW) (tabD_cons Tryz.call75 (g_couponref16_Row hW) (tabD_cons Tryz.call80 (g_couponref16_Names hW) (tabD_cons Tryz.call81 (g_couponref10_Digits hW) (tabD_cons Tryz.call82 (g_couponref12_Letter hW) (tabD_cons Tryz.call83 (g_couponref11_Text hW) (tabD_cons Tryz.call84 (g_couponref26_flights hW) (tabD_cons Tryz.call85 (g_couponref26_taxes hW) tabD_nil))))))))
def C_couponref26_RequestLine : FuncId → Option Ctr := tabC D_couponref26_RequestLine []
theorem c_couponref26_RequestLine {W : World} (hW : Tabs W) : CtrOk (Fw W) Tryz.prog C_couponref26_RequestLine := (tabC_nil (d_couponref26_RequestLine hW))
def L_couponref26_RequestLine : Request → Nat → Option LR := fun r i => cond (Nat.beq i 4) (some (.unroll 7)) (none)
set_option maxHeartbeats 4000000 in
theorem g_couponref26_RequestLine {W : World} (hW : Tabs W) : GoodP (Fw W) Tryz.prog 27 pcReqLineR := by
 have hD := d_couponref26_RequestLine hW
 have hC0 : ∀ r : Request, CtrOk (Fw W) Tryz.prog C_couponref26_RequestLine := fun r => (c_couponref26_RequestLine hW)
 refine goodP_ofC (D := D_couponref26_RequestLine) (C := fun r => C_couponref26_RequestLine) (wr := (fun _ => false)) rfl tyOk hD hC0 Tryz.func27 (L_couponref26_RequestLine) (fun _ => rfl) ?_
 rintro ⟨key, kind, day, ticket, coupon, status, locator, coupons, taxes, amount, frm, til⟩ hf hp
 by_cases h : 1 ≤ kind ∧ kind ≤ 10
 ·rcases kinds h with rfl | rfl | rfl | rfl | rfl | rfl | rfl | rfl | rfl | rfl
  ·have hw := reqW_1 (r := ⟨key, 1, day, ticket, coupon, status, locator, coupons, taxes, amount, frm, til⟩) rfl hp
   have hm := mayFacts_1 (r := ⟨key, 1, day, ticket, coupon, status, locator, coupons, taxes, amount, frm, til⟩) rfl hp
   dsimp only at hm hw
   obtain ⟨mK, mD, mL, mJ, mX⟩ := hm
   have hfc : factL [slE 6 Coupon.enc coupons] := ⟨hf.1.2.2.2.2.2.2.2.1, True.intro⟩
   have hft : factL [slE 2 Tax.enc taxes] := ⟨hf.1.2.2.2.2.2.2.2.2.1, True.intro⟩
   simp only [factL, factA, inK_def, Go.Vc.lo, Go.Vc.hi, and_true] at hf
   have lK := keyB_len mK
   have lD := itoa_len day (by omega) (by omega)
   have lL := locOk_len mL
   obtain ⟨j1, j2, j3⟩ := coupB_facts mJ
   have jW : (flightsW coupons).length ≤ 3000 := by unfold flightsW; have := joinF_le (l := coupons) hfc (by omega) coupons.length; rwa [List.take_length] at this
   have lX : (taxesW taxes).length ≤ 1000 := taxesW_len (taxesB_facts mX).1 (tax_facts hft)
   have nl : (namesL.getD (Int.toNat ((1 : Int) - 1)) []).length = 5 := rfl
   clear hf hfc hft
   (conv => whnf)
   (repeat' ((first
    | ((with_reducible refine And.intro ?_ ?_); focus (refine ⟨?_, ?_⟩ <;> exact of_decide_eq_true rfl))
    | ((with_reducible refine And.intro ?_ ?_); focus (first | with_reducible exact True.intro | ((with_reducible show okB _ _ _ = true); rfl) | (simp only [inK_def, Go.Vc.lo, Go.Vc.hi]; omega) | (simp only [List.length_append, bytesOf_length, List.toList_toArray, List.length_cons, List.length_nil, List.length_take, List.length_drop, sS_eq]; omega)))
    | with_reducible refine (fun (hln : (_ : Int) ≤ 9223372036854775807) => ?_)
    | fail) <;> (conv => whnf)))
   all_goals (try (show _ = _; simp only [wQ]))
   refine ⟨coupons, ⟨by omega, fun c hc => plain_money (j3 c hc)⟩, ?_, ?_⟩
   ·exact leL_rfl _
   (conv => whnf)
   (repeat' ((first
    | ((with_reducible refine And.intro ?_ ?_); focus (refine ⟨?_, ?_⟩ <;> exact of_decide_eq_true rfl))
    | ((with_reducible refine And.intro ?_ ?_); focus (first | (simp only [inK_def, Go.Vc.lo, Go.Vc.hi]; omega) | (simp only [List.length_append, bytesOf_length, List.toList_toArray, List.length_cons, List.length_nil, List.length_take, List.length_drop, sS_eq]; omega)))
    | with_reducible refine (fun (hln : (_ : Int) ≤ 9223372036854775807) => ?_)
    | fail) <;> (conv => whnf)))
   all_goals (try (show _ = _; simp only [wQ]))
   refine ⟨taxes, mX, ?_, ?_⟩
   ·exact leL_rfl _
   (conv => whnf)
   (repeat' ((first
    | ((with_reducible refine And.intro ?_ ?_); focus (first | (simp only [inK_def, Go.Vc.lo, Go.Vc.hi]; omega) | (simp only [List.length_append, bytesOf_length, List.toList_toArray, List.length_cons, List.length_nil, List.length_take, List.length_drop, sS_eq]; omega)))
    | with_reducible refine (fun (hln : (_ : Int) ≤ 9223372036854775807) => ?_)
    | fail) <;> (conv => whnf)))
   all_goals (try (show _ = _; simp only [wQ]))
   rw [hw]; rfl
  ·have hw := reqW_2 (r := ⟨key, 2, day, ticket, coupon, status, locator, coupons, taxes, amount, frm, til⟩) rfl hp
   have hm := mayFacts_2 (r := ⟨key, 2, day, ticket, coupon, status, locator, coupons, taxes, amount, frm, til⟩) rfl hp
   dsimp only at hm hw
   obtain ⟨mK, mD, mT, mN, mS⟩ := hm
   have hfc : factL [slE 6 Coupon.enc coupons] := ⟨hf.1.2.2.2.2.2.2.2.1, True.intro⟩
   have hft : factL [slE 2 Tax.enc taxes] := ⟨hf.1.2.2.2.2.2.2.2.2.1, True.intro⟩
   simp only [factL, factA, inK_def, Go.Vc.lo, Go.Vc.hi, and_true] at hf
   have lK := keyB_len mK
   have lD := itoa_len day (by omega) (by omega)
   have lT := numText_len ticket
   have eT := num_dec mT
   have lU : (decDigits ticket.toNat).length ≤ 32 := by rw [← eT]; omega
   have lN := itoa_len coupon (by omega) (by omega)
   have lS := letterS_len status
   have nl : (namesL.getD (Int.toNat ((2 : Int) - 1)) []).length = 4 := rfl
   clear hf hfc hft
   (conv => whnf)
   (repeat' ((first
    | ((with_reducible refine And.intro ?_ ?_); focus (refine ⟨?_, ?_⟩ <;> exact of_decide_eq_true rfl))
    | ((with_reducible refine And.intro ?_ ?_); focus (first | with_reducible exact True.intro | ((with_reducible show okB _ _ _ = true); rfl) | (simp only [inK_def, Go.Vc.lo, Go.Vc.hi]; omega) | (simp only [List.length_append, bytesOf_length, List.toList_toArray, List.length_cons, List.length_nil, List.length_take, List.length_drop, sS_eq]; omega)))
    | with_reducible refine (fun (hln : (_ : Int) ≤ 9223372036854775807) => ?_)
    | fail) <;> (conv => whnf)))
   all_goals (try (show _ = _; simp only [wQ]))
   rw [hw, eT]; rfl
  ·have hw := reqW_3 (r := ⟨key, 3, day, ticket, coupon, status, locator, coupons, taxes, amount, frm, til⟩) rfl hp
   have hm := mayFacts_3 (r := ⟨key, 3, day, ticket, coupon, status, locator, coupons, taxes, amount, frm, til⟩) rfl hp
   dsimp only at hm hw
   obtain ⟨mK, mD, mT⟩ := hm
   have hfc : factL [slE 6 Coupon.enc coupons] := ⟨hf.1.2.2.2.2.2.2.2.1, True.intro⟩
   have hft : factL [slE 2 Tax.enc taxes] := ⟨hf.1.2.2.2.2.2.2.2.2.1, True.intro⟩
   simp only [factL, factA, inK_def, Go.Vc.lo, Go.Vc.hi, and_true] at hf
   have lK := keyB_len mK
   have lD := itoa_len day (by omega) (by omega)
   have lT := numText_len ticket
   have eT := num_dec mT
   have lU : (decDigits ticket.toNat).length ≤ 32 := by rw [← eT]; omega
   have nl : (namesL.getD (Int.toNat ((3 : Int) - 1)) []).length = 4 := rfl
   clear hf hfc hft
   (conv => whnf)
   (repeat' ((first
    | ((with_reducible refine And.intro ?_ ?_); focus (refine ⟨?_, ?_⟩ <;> exact of_decide_eq_true rfl))
    | ((with_reducible refine And.intro ?_ ?_); focus (first | with_reducible exact True.intro | ((with_reducible show okB _ _ _ = true); rfl) | (simp only [inK_def, Go.Vc.lo, Go.Vc.hi]; omega) | (simp only [List.length_append, bytesOf_length, List.toList_toArray, List.length_cons, List.length_nil, List.length_take, List.length_drop, sS_eq]; omega)))
    | with_reducible refine (fun (hln : (_ : Int) ≤ 9223372036854775807) => ?_)
    | fail) <;> (conv => whnf)))
   all_goals (try (show _ = _; simp only [wQ]))
   rw [hw, eT]; rfl
  ·have hw := reqW_4 (r := ⟨key, 4, day, ticket, coupon, status, locator, coupons, taxes, amount, frm, til⟩) rfl hp
   have hm := mayFacts_4 (r := ⟨key, 4, day, ticket, coupon, status, locator, coupons, taxes, amount, frm, til⟩) rfl hp
   dsimp only at hm hw
   obtain ⟨mK, mD, mT, mA⟩ := hm
   have hfc : factL [slE 6 Coupon.enc coupons] := ⟨hf.1.2.2.2.2.2.2.2.1, True.intro⟩
   have hft : factL [slE 2 Tax.enc taxes] := ⟨hf.1.2.2.2.2.2.2.2.2.1, True.intro⟩
   simp only [factL, factA, inK_def, Go.Vc.lo, Go.Vc.hi, and_true] at hf
   have lK := keyB_len mK
   have lD := itoa_len day (by omega) (by omega)
   have lT := numText_len ticket
   have eT := num_dec mT
   have lU : (decDigits ticket.toNat).length ≤ 32 := by rw [← eT]; omega
   have eA := moneyT_fareT (someB_money mA)
   have lA := fareT_len amount
   have lM : (moneyT amount).length ≤ 31 := by rw [eA]; exact lA
   have oA := moneyB_lo (someB_money mA)
   have nl : (namesL.getD (Int.toNat ((4 : Int) - 1)) []).length = 6 := rfl
   clear hf hfc hft
   (conv => whnf)
   (repeat' ((first
    | ((with_reducible refine And.intro ?_ ?_); focus (refine ⟨?_, ?_⟩ <;> exact of_decide_eq_true rfl))
    | ((with_reducible refine And.intro ?_ ?_); focus (first | with_reducible exact True.intro | with_reducible assumption | ((with_reducible show okB _ _ _ = true); rfl) | (simp only [inK_def, Go.Vc.lo, Go.Vc.hi]; omega) | (simp only [List.length_append, bytesOf_length, List.toList_toArray, List.length_cons, List.length_nil, List.length_take, List.length_drop, sS_eq]; omega)))
    | with_reducible refine (fun (hln : (_ : Int) ≤ 9223372036854775807) => ?_)
    | fail) <;> (conv => whnf)))
   all_goals (try (show _ = _; simp only [wQ]))
   rw [hw, eT, eA]; rfl
  ·have hw := reqW_5 (r := ⟨key, 5, day, ticket, coupon, status, locator, coupons, taxes, amount, frm, til⟩) rfl hp
   have hm := mayFacts_5 (r := ⟨key, 5, day, ticket, coupon, status, locator, coupons, taxes, amount, frm, til⟩) rfl hp
   dsimp only at hm hw
   obtain ⟨mK, mD, mT, mA, mC, mX⟩ := hm
   have hfc : factL [slE 6 Coupon.enc coupons] := ⟨hf.1.2.2.2.2.2.2.2.1, True.intro⟩
   have hft : factL [slE 2 Tax.enc taxes] := ⟨hf.1.2.2.2.2.2.2.2.2.1, True.intro⟩
   simp only [factL, factA, inK_def, Go.Vc.lo, Go.Vc.hi, and_true] at hf
   have lK := keyB_len mK
   have lD := itoa_len day (by omega) (by omega)
   have lT := numText_len ticket
   have eT := num_dec mT
   have lU : (decDigits ticket.toNat).length ≤ 32 := by rw [← eT]; omega
   have eA := moneyT_fareT (someB_money mA)
   have lA := fareT_len amount
   have lM : (moneyT amount).length ≤ 31 := by rw [eA]; exact lA
   have oA := moneyB_lo (someB_money mA)
   obtain ⟨j1, j2, j3⟩ := coupB_facts mC
   have jW : (flightsW coupons).length ≤ 3000 := by unfold flightsW; have := joinF_le (l := coupons) hfc (by omega) coupons.length; rwa [List.take_length] at this
   have lX : (taxesW taxes).length ≤ 1000 := taxesW_len (taxesB_facts mX).1 (tax_facts hft)
   have nl : (namesL.getD (Int.toNat ((5 : Int) - 1)) []).length = 8 := rfl
   clear hf hfc hft
   (conv => whnf)
   (repeat' ((first
    | ((with_reducible refine And.intro ?_ ?_); focus (refine ⟨?_, ?_⟩ <;> exact of_decide_eq_true rfl))
    | ((with_reducible refine And.intro ?_ ?_); focus (first | with_reducible exact True.intro | with_reducible assumption | ((with_reducible show okB _ _ _ = true); rfl) | (simp only [inK_def, Go.Vc.lo, Go.Vc.hi]; omega) | (simp only [List.length_append, bytesOf_length, List.toList_toArray, List.length_cons, List.length_nil, List.length_take, List.length_drop, sS_eq]; omega)))
    | with_reducible refine (fun (hln : (_ : Int) ≤ 9223372036854775807) => ?_)
    | fail) <;> (conv => whnf)))
   all_goals (try (show _ = _; simp only [wQ]))
   refine ⟨coupons, ⟨by omega, fun c hc => plain_money (j3 c hc)⟩, ?_, ?_⟩
   ·exact leL_rfl _
   (conv => whnf)
   (repeat' ((first
    | ((with_reducible refine And.intro ?_ ?_); focus (refine ⟨?_, ?_⟩ <;> exact of_decide_eq_true rfl))
    | ((with_reducible refine And.intro ?_ ?_); focus (first | (simp only [inK_def, Go.Vc.lo, Go.Vc.hi]; omega) | (simp only [List.length_append, bytesOf_length, List.toList_toArray, List.length_cons, List.length_nil, List.length_take, List.length_drop, sS_eq]; omega)))
    | with_reducible refine (fun (hln : (_ : Int) ≤ 9223372036854775807) => ?_)
    | fail) <;> (conv => whnf)))
   all_goals (try (show _ = _; simp only [wQ]))
   refine ⟨taxes, mX, ?_, ?_⟩
   ·exact leL_rfl _
   (conv => whnf)
   (repeat' ((first
    | ((with_reducible refine And.intro ?_ ?_); focus (first | (simp only [inK_def, Go.Vc.lo, Go.Vc.hi]; omega) | (simp only [List.length_append, bytesOf_length, List.toList_toArray, List.length_cons, List.length_nil, List.length_take, List.length_drop, sS_eq]; omega)))
    | with_reducible refine (fun (hln : (_ : Int) ≤ 9223372036854775807) => ?_)
    | fail) <;> (conv => whnf)))
   all_goals (try (show _ = _; simp only [wQ]))
   rw [hw, eT, eA]; rfl
  ·have hw := reqW_6 (r := ⟨key, 6, day, ticket, coupon, status, locator, coupons, taxes, amount, frm, til⟩) rfl hp
   have hm := mayFacts_6 (r := ⟨key, 6, day, ticket, coupon, status, locator, coupons, taxes, amount, frm, til⟩) rfl hp
   dsimp only at hm hw
   obtain ⟨mK, mD, mT, mN⟩ := hm
   have hfc : factL [slE 6 Coupon.enc coupons] := ⟨hf.1.2.2.2.2.2.2.2.1, True.intro⟩
   have hft : factL [slE 2 Tax.enc taxes] := ⟨hf.1.2.2.2.2.2.2.2.2.1, True.intro⟩
   simp only [factL, factA, inK_def, Go.Vc.lo, Go.Vc.hi, and_true] at hf
   have lK := keyB_len mK
   have lD := itoa_len day (by omega) (by omega)
   have lT := numText_len ticket
   have eT := num_dec mT
   have lU : (decDigits ticket.toNat).length ≤ 32 := by rw [← eT]; omega
   have lN := itoa_len coupon (by omega) (by omega)
   have nl : (namesL.getD (Int.toNat ((6 : Int) - 1)) []).length = 3 := rfl
   clear hf hfc hft
   (conv => whnf)
   (repeat' ((first
    | ((with_reducible refine And.intro ?_ ?_); focus (refine ⟨?_, ?_⟩ <;> exact of_decide_eq_true rfl))
    | ((with_reducible refine And.intro ?_ ?_); focus (first | with_reducible exact True.intro | ((with_reducible show okB _ _ _ = true); rfl) | (simp only [inK_def, Go.Vc.lo, Go.Vc.hi]; omega) | (simp only [List.length_append, bytesOf_length, List.toList_toArray, List.length_cons, List.length_nil, List.length_take, List.length_drop, sS_eq]; omega)))
    | with_reducible refine (fun (hln : (_ : Int) ≤ 9223372036854775807) => ?_)
    | fail) <;> (conv => whnf)))
   all_goals (try (show _ = _; simp only [wQ]))
   rw [hw, eT]; rfl
  ·have hw := reqW_7 (r := ⟨key, 7, day, ticket, coupon, status, locator, coupons, taxes, amount, frm, til⟩) rfl hp
   have hm := mayFacts_7 (r := ⟨key, 7, day, ticket, coupon, status, locator, coupons, taxes, amount, frm, til⟩) rfl hp
   dsimp only at hm hw
   obtain ⟨mK, mD, mT, mN⟩ := hm
   have hfc : factL [slE 6 Coupon.enc coupons] := ⟨hf.1.2.2.2.2.2.2.2.1, True.intro⟩
   have hft : factL [slE 2 Tax.enc taxes] := ⟨hf.1.2.2.2.2.2.2.2.2.1, True.intro⟩
   simp only [factL, factA, inK_def, Go.Vc.lo, Go.Vc.hi, and_true] at hf
   have lK := keyB_len mK
   have lD := itoa_len day (by omega) (by omega)
   have lT := numText_len ticket
   have eT := num_dec mT
   have lU : (decDigits ticket.toNat).length ≤ 32 := by rw [← eT]; omega
   have lN := itoa_len coupon (by omega) (by omega)
   have nl : (namesL.getD (Int.toNat ((7 : Int) - 1)) []).length = 6 := rfl
   clear hf hfc hft
   (conv => whnf)
   (repeat' ((first
    | ((with_reducible refine And.intro ?_ ?_); focus (refine ⟨?_, ?_⟩ <;> exact of_decide_eq_true rfl))
    | ((with_reducible refine And.intro ?_ ?_); focus (first | with_reducible exact True.intro | ((with_reducible show okB _ _ _ = true); rfl) | (simp only [inK_def, Go.Vc.lo, Go.Vc.hi]; omega) | (simp only [List.length_append, bytesOf_length, List.toList_toArray, List.length_cons, List.length_nil, List.length_take, List.length_drop, sS_eq]; omega)))
    | with_reducible refine (fun (hln : (_ : Int) ≤ 9223372036854775807) => ?_)
    | fail) <;> (conv => whnf)))
   all_goals (try (show _ = _; simp only [wQ]))
   rw [hw, eT]; rfl
  ·have hw := reqW_8 (r := ⟨key, 8, day, ticket, coupon, status, locator, coupons, taxes, amount, frm, til⟩) rfl hp
   have hm := mayFacts_8 (r := ⟨key, 8, day, ticket, coupon, status, locator, coupons, taxes, amount, frm, til⟩) rfl hp
   dsimp only at hm hw
   have mT := hm
   have hfc : factL [slE 6 Coupon.enc coupons] := ⟨hf.1.2.2.2.2.2.2.2.1, True.intro⟩
   have hft : factL [slE 2 Tax.enc taxes] := ⟨hf.1.2.2.2.2.2.2.2.2.1, True.intro⟩
   simp only [factL, factA, inK_def, Go.Vc.lo, Go.Vc.hi, and_true] at hf
   have lT := numText_len ticket
   have eT := num_dec mT
   have lU : (decDigits ticket.toNat).length ≤ 32 := by rw [← eT]; omega
   have nl : (namesL.getD (Int.toNat ((8 : Int) - 1)) []).length = 4 := rfl
   clear hf hfc hft
   (conv => whnf)
   (repeat' ((first
    | ((with_reducible refine And.intro ?_ ?_); focus (refine ⟨?_, ?_⟩ <;> exact of_decide_eq_true rfl))
    | ((with_reducible refine And.intro ?_ ?_); focus (first | with_reducible exact True.intro | ((with_reducible show okB _ _ _ = true); rfl) | (simp only [inK_def, Go.Vc.lo, Go.Vc.hi]; omega) | (simp only [List.length_append, bytesOf_length, List.toList_toArray, List.length_cons, List.length_nil, List.length_take, List.length_drop, sS_eq]; omega)))
    | with_reducible refine (fun (hln : (_ : Int) ≤ 9223372036854775807) => ?_)
    | fail) <;> (conv => whnf)))
   all_goals (try (show _ = _; simp only [wQ]))
   rw [hw, eT]; rfl
  ·have hw := reqW_9 (r := ⟨key, 9, day, ticket, coupon, status, locator, coupons, taxes, amount, frm, til⟩) rfl hp
   have hm := mayFacts_9 (r := ⟨key, 9, day, ticket, coupon, status, locator, coupons, taxes, amount, frm, til⟩) rfl hp
   dsimp only at hm hw
   have mL := hm
   have hfc : factL [slE 6 Coupon.enc coupons] := ⟨hf.1.2.2.2.2.2.2.2.1, True.intro⟩
   have hft : factL [slE 2 Tax.enc taxes] := ⟨hf.1.2.2.2.2.2.2.2.2.1, True.intro⟩
   simp only [factL, factA, inK_def, Go.Vc.lo, Go.Vc.hi, and_true] at hf
   have lL := locOk_len mL
   have nl : (namesL.getD (Int.toNat ((9 : Int) - 1)) []).length = 4 := rfl
   clear hf hfc hft
   (conv => whnf)
   (repeat' ((first
    | ((with_reducible refine And.intro ?_ ?_); focus (refine ⟨?_, ?_⟩ <;> exact of_decide_eq_true rfl))
    | ((with_reducible refine And.intro ?_ ?_); focus (first | with_reducible exact True.intro | ((with_reducible show okB _ _ _ = true); rfl) | (simp only [inK_def, Go.Vc.lo, Go.Vc.hi]; omega) | (simp only [List.length_append, bytesOf_length, List.toList_toArray, List.length_cons, List.length_nil, List.length_take, List.length_drop, sS_eq]; omega)))
    | with_reducible refine (fun (hln : (_ : Int) ≤ 9223372036854775807) => ?_)
    | fail) <;> (conv => whnf)))
   all_goals (try (show _ = _; simp only [wQ]))
   rw [hw]; rfl
  ·have hw := reqW_10 (r := ⟨key, 10, day, ticket, coupon, status, locator, coupons, taxes, amount, frm, til⟩) rfl hp
   have hm := mayFacts_10 (r := ⟨key, 10, day, ticket, coupon, status, locator, coupons, taxes, amount, frm, til⟩) rfl hp
   dsimp only at hm hw
   have mR := hm
   have hfc : factL [slE 6 Coupon.enc coupons] := ⟨hf.1.2.2.2.2.2.2.2.1, True.intro⟩
   have hft : factL [slE 2 Tax.enc taxes] := ⟨hf.1.2.2.2.2.2.2.2.2.1, True.intro⟩
   simp only [factL, factA, inK_def, Go.Vc.lo, Go.Vc.hi, and_true] at hf
   have lR := itoa_len frm (by omega) (by omega)
   have lQ := itoa_len til (by omega) (by omega)
   have nl : (namesL.getD (Int.toNat ((10 : Int) - 1)) []).length = 6 := rfl
   clear hf hfc hft
   (conv => whnf)
   (repeat' ((first
    | ((with_reducible refine And.intro ?_ ?_); focus (refine ⟨?_, ?_⟩ <;> exact of_decide_eq_true rfl))
    | ((with_reducible refine And.intro ?_ ?_); focus (first | with_reducible exact True.intro | ((with_reducible show okB _ _ _ = true); rfl) | (simp only [inK_def, Go.Vc.lo, Go.Vc.hi]; omega) | (simp only [List.length_append, bytesOf_length, List.toList_toArray, List.length_cons, List.length_nil, List.length_take, List.length_drop, sS_eq]; omega)))
    | with_reducible refine (fun (hln : (_ : Int) ≤ 9223372036854775807) => ?_)
    | fail) <;> (conv => whnf)))
   all_goals (try (show _ = _; simp only [wQ]))
   rw [hw]; rfl
 ·exact absurd (mayReq_no (r := ⟨key, kind, day, ticket, coupon, status, locator, coupons, taxes, amount, frm, til⟩) h) (by rw [hp]; exact Bool.false_ne_true.symm)
end
end Go.Vc.Z
namespace Go.Pl
open Go Go.Lib
def cutStep (c : UInt8) (o : List (List UInt8)) (x : UInt8) : List (List UInt8) := if x = c then o ++ [[]] else o.dropLast ++ [o.getLastD [] ++ [x]]
def cutL (c : UInt8) (s : List UInt8) : List (List UInt8) := s.foldl (cutStep c) [[]]
theorem cutStep_ne (c : UInt8) (o : List (List UInt8)) (x : UInt8) : cutStep c o x ≠ [] := by
 unfold cutStep; split <;> simp
theorem cutStep_app (c : UInt8) (p o : List (List UInt8)) (ho : o ≠ []) (x : UInt8) : cutStep c (p ++ o) x = p ++ cutStep c o x := by
 unfold cutStep
 split
 ·simp
 ·rw [List.dropLast_append_of_ne_nil ho, List.append_assoc]
  congr 2
  rw [List.getLastD_eq_getLast?, List.getLastD_eq_getLast?, List.getLast?_append]
  cases h : o.getLast? with
  | none => exact absurd (List.getLast?_eq_none_iff.1 h) ho
  | some y => rfl
theorem cut_app (c : UInt8) : ∀ (s : List UInt8) (p o : List (List UInt8)), o ≠ [] → s.foldl (cutStep c) (p ++ o) = p ++ s.foldl (cutStep c) o
 | [], _, _, _ => rfl
 | x :: s, p, o, ho => by
  rw [List.foldl_cons, List.foldl_cons, cutStep_app c p o ho, cut_app c s _ _ (cutStep_ne c o x)]
theorem cut_no (c : UInt8) : ∀ (s : List UInt8) (w : List UInt8), c ∉ s → s.foldl (cutStep c) [w] = [w ++ s]
 | [], w, _ => by simp
 | x :: s, w, h => by
  rw [List.foldl_cons]
  have hx : ¬ x = c := fun e => h (by rw [e]; simp)
  have : cutStep c [w] x = [w ++ [x]] := by unfold cutStep; rw [if_neg hx]; rfl
  rw [this, cut_no c s _ (fun hm => h (List.mem_cons_of_mem _ hm))]
  simp
theorem cutL_no {c : UInt8} {s : List UInt8} (h : c ∉ s) : cutL c s = [s] := by
 unfold cutL; rw [cut_no c s [] h]; simp
theorem cutL_at {c : UInt8} {a : List UInt8} (h : c ∉ a) (b : List UInt8) : cutL c (a ++ c :: b) = a :: cutL c b := by
 unfold cutL
 rw [List.foldl_append, cut_no c a [] h, List.nil_append, List.foldl_cons]
 have : cutStep c [a] c = [a] ++ [[]] := by unfold cutStep; rw [if_pos rfl]
 rw [this, cut_app c b [a] [[]] (by simp)]; rfl
theorem cutL_snoc (c : UInt8) (s : List UInt8) (x : UInt8) : cutL c (s ++ [x]) = cutStep c (cutL c s) x := by
 unfold cutL; rw [List.foldl_append]; rfl
theorem cutL_ne (c : UInt8) (s : List UInt8) : cutL c s ≠ [] := by
 rcases List.eq_nil_or_concat s with rfl | ⟨t, x, rfl⟩
 ·simp [cutL]
 ·rw [List.concat_eq_append, cutL_snoc]; exact cutStep_ne _ _ _
theorem cutL_len (c : UInt8) (s : List UInt8) : 1 ≤ (cutL c s).length := List.length_pos_iff.2 (cutL_ne c s)
theorem cutInd {c : UInt8} {P : List UInt8 → Prop} (h0 : ∀ s, c ∉ s → P s) (h1 : ∀ a b, c ∉ a → P b → P (a ++ c :: b)) : ∀ (n : Nat) (s : List UInt8), s.length ≤ n → P s
 | 0, s, h => h0 s (by obtain rfl := List.length_eq_zero_iff.1 (Nat.le_zero.1 h); simp)
 | n + 1, s, h => by
  by_cases hc : c ∈ s
  ·obtain ⟨a, b, rfl, ha⟩ := List.eq_append_cons_of_mem hc
   exact h1 a b ha (cutInd h0 h1 n b (by simp at h; omega))
  ·exact h0 s hc
theorem cutL_length (c : UInt8) (s : List UInt8) : (cutL c s).length = s.count c + 1 := by
 refine cutInd (c := c) (P := fun s => (cutL c s).length = s.count c + 1) (fun s h => ?_) (fun a b ha ih => ?_) s.length s (Nat.le_refl _)
 ·rw [cutL_no h, List.count_eq_zero_of_not_mem h]; rfl
 ·rw [cutL_at ha, List.length_cons, ih, List.count_append, List.count_cons_self, List.count_eq_zero_of_not_mem ha]; omega
theorem cutL_le (c : UInt8) (s : List UInt8) : (cutL c s).length ≤ s.length + 1 := by
 rw [cutL_length]; have := List.count_le_length (a := c) (l := s); omega
theorem cutL_mem {c : UInt8} (s : List UInt8) : ∀ w ∈ cutL c s, w.length ≤ s.length ∧ c ∉ w := by
 refine cutInd (c := c) (P := fun s => ∀ w ∈ cutL c s, w.length ≤ s.length ∧ c ∉ w) (fun s h => ?_) (fun a b ha ih => ?_) s.length s (Nat.le_refl _)
 ·rw [cutL_no h]; intro w hw; rw [List.mem_singleton] at hw; subst hw; exact ⟨Nat.le_refl _, h⟩
 ·rw [cutL_at ha]; intro w hw
  rcases List.mem_cons.1 hw with rfl | hw
  ·exact ⟨by simp, ha⟩
  ·have := ih w hw; exact ⟨by simp; omega, this.2⟩
theorem cutL_join {c : UInt8} : ∀ {L : List (List UInt8)}, L ≠ [] → (∀ w ∈ L, c ∉ w) → cutL c (Lib.join L [c]) = L
 | [], h, _ => absurd rfl h
 | [x], _, h => by rw [Lib.join_one, cutL_no (h x (by simp))]
 | x :: y :: r, _, h => by
  have : Lib.join (x :: y :: r) [c] = x ++ c :: Lib.join (y :: r) [c] := by simp [Lib.join_cons, Lib.joinTail]
  rw [this, cutL_at (h x (by simp)), cutL_join (by simp) (fun w hw => h w (List.mem_cons_of_mem _ hw))]
theorem occAt_one {s : List UInt8} {c : UInt8} {j : Nat} : occAt s [c] j = (s[j]? == some c) := by
 unfold occAt
 induction s generalizing j with
 | nil => simp
 | cons x s ih =>
  cases j with
  | zero => simp [List.isPrefixOf, Bool.beq_comm (a := x)]
  | succ j => simpa using ih (j := j)
theorem index_one_no {c : UInt8} {s : List UInt8} (h : c ∉ s) : index s [c] = -1 := by
 refine index_none fun j _ => ?_
 rw [occAt_one, beq_eq_false_iff_ne]
 exact fun e => h (List.mem_of_getElem? e)
theorem index_one_at {c : UInt8} {a : List UInt8} (h : c ∉ a) (b : List UInt8) : index (a ++ c :: b) [c] = a.length := by
 refine index_first (by simp) ?_ fun j hj => ?_
 ·rw [occAt_one]; simp
 ·rw [occAt_one, beq_eq_false_iff_ne, List.getElem?_append_left hj]
  exact fun e => h (List.mem_of_getElem? e)
theorem split_cut (c : UInt8) (s : List UInt8) : Lib.split s [c] = cutL c s := by
 refine cutInd (c := c) (P := fun s => Lib.split s [c] = cutL c s) (fun s h => ?_) (fun a b ha ih => ?_) s.length s (Nat.le_refl _)
 ·unfold Lib.split; rw [count_miss (index_one_no h), cutL_no h]; rfl
 ·have hi := index_one_at ha b
  have hd : (a ++ c :: b).drop (a.length + 1) = b := by simp
  unfold Lib.split at ih ⊢
  rw [count_hit (by simp) hi, Nat.add_comm, cutL_at ha, ← ih]
  rw [splitK, hi, if_neg (by simp)]
  simp only [Int.toNat_natCast, Nat.add_zero, List.length_singleton, hd, List.take_left']
def cut2 (c : UInt8) (s : List UInt8) : List UInt8 × List UInt8 × Bool := Lib.cut s [c]
theorem cut2_at {c : UInt8} {a : List UInt8} (h : c ∉ a) (b : List UInt8) : cut2 c (a ++ c :: b) = (a, b, true) := by
 unfold cut2 Lib.cut; rw [index_one_at h, if_pos (by omega)]; simp
theorem cut2_le (c : UInt8) (s : List UInt8) : (cut2 c s).1.length ≤ s.length ∧ (cut2 c s).2.1.length ≤ s.length := by
 unfold cut2 Lib.cut; split <;> simp; exact Nat.min_le_right _ _
end Go.Pl
namespace Go.Vc.Z
open Go Go.Vc Go.Proofs Go.RowKit Go.Pl Go.Lib
theorem isDec_dec (u : Nat) : isDec (decDigits u) = true := by
 unfold isDec
 rw [allDig_dec, Bool.true_and]
 rcases Nat.eq_zero_or_pos u with rfl | h
 ·rw [show decDigits 0 = [48] by rw [dec_small (by decide)]; rfl]; rfl
 ·obtain ⟨c, t, he, h1, h2⟩ := dec_head u h
  rw [he]
  have : ¬ c = 48 := fun e => by rw [e] at h1; exact absurd h1 (by decide)
  simp [this]
theorem decOf_dec {u : Nat} {m : Int} (h : (u : Int) ≤ m) : decOf (decDigits u) m = ((u : Int), 0) := by
 unfold decOf
 rw [if_pos (isDec_dec u), worth_dec, if_neg (by omega)]
theorem itoa_dec {n : Int} (h : 0 ≤ n) : Lib.itoa n = decDigits n.toNat := by unfold Lib.itoa; rw [if_neg (by omega)]
theorem whole_itoa {n : Int} (h0 : 0 ≤ n) (h1 : n ≤ 9223372036854775807) : wholeN (Lib.itoa n) = (n, true) := by
 have : ((n.toNat : Nat) : Int) = n := by omega
 unfold wholeN
 rw [itoa_dec h0, decOf_dec (by omega), this]; rfl
theorem numOf_text {t : Int} (h : checkN t = 0) : numOf (numText t) = (t, 0) := by
 obtain ⟨h0, h1⟩ := checkN_zero h
 have e : ((t.toNat : Nat) : Int) = t := by omega
 have hl : (decDigits t.toNat).length = 13 := by
  rw [decDigits_length]; exact nDigits_unique 12 t.toNat (by omega) (by omega)
 unfold numText numOf
 rw [if_pos h, if_pos ⟨hl, allDig_dec _⟩, worth_dec, e, if_pos h]
@[irreducible] def statOf (s : List UInt8) : Int := if s = [79] then 1 else if s = [67] then 2 else if s = [76] then 3 else if s = [70] then 4 else if s = [69] then 5 else if s = [82] then 6 else if s = [86] then 7 else if s = [83] then 8 else if s = [65] then 9 else 0
theorem statOf_letter {k : Int} (h : mayS k = true) : statOf (letterS k) = k := by
 rw [letterS_at h]
 rcases mayS_cases h with rfl | rfl | rfl | rfl | rfl | rfl | rfl | rfl | rfl <;> (unfold statOf; rfl)
theorem statOf_may {s : List UInt8} : statOf s = 0 ∨ mayS (statOf s) = true := by
 unfold statOf mayS
 repeat' split
 all_goals first | exact .inl rfl | exact .inr rfl
def fareV (s : List UInt8) : Int := 100 * worth (cut2 46 s).1 + worth (cut2 46 s).2.1
def fareF (s : List UInt8) : Bool := (cut2 46 s).2.2 && isDec (cut2 46 s).1 && allDig (cut2 46 s).2.1 && decide ((cut2 46 s).2.1.length = 2)
@[irreducible] def fareOf (s : List UInt8) : Int × Int :=
 if Lib.hasPrefix s [45] = true then
  (if fareF (s.drop 1) = true ∧ fareV (s.drop 1) ≠ 0 then (if 1000000000000 < fareV (s.drop 1) then (0, 14) else (-fareV (s.drop 1), 0)) else (0, 4))
 else if fareF s = true then (if 1000000000000 < fareV s then (0, 14) else (fareV s, 0)) else (0, 4)
theorem dig_pair (a b : Int) : allDig [digB a, digB b] = true ∧ worth [digB a, digB b] = 10 * (a % 10).toNat + (b % 10).toNat := by
 refine ⟨?_, ?_⟩
 ·rw [allDig_iff]; intro c hc
  simp only [List.mem_cons, List.not_mem_nil, or_false] at hc
  rcases hc with rfl | rfl <;> exact digB_dig _
 ·simp only [worth, List.foldl_cons, List.foldl_nil, digB_val]; omega
theorem cents_cut {n : Int} : cut2 46 (centsT n) = (decDigits (n / 10 / 10).toNat, [digB (n / 10), digB n], true) := by
 unfold centsT
 exact cut2_at (dec_no (by decide) _) _
theorem cents_fareF {n : Int} : fareF (centsT n) = true := by
 unfold fareF
 rw [cents_cut]
 simp only [Bool.true_and, isDec_dec, (dig_pair _ _).1]; rfl
theorem cents_fareV {n : Int} (h : 0 ≤ n) : fareV (centsT n) = n := by
 unfold fareV
 rw [cents_cut]
 simp only [worth_dec, (dig_pair _ _).2]; omega
theorem cents_head {n : Int} : Lib.hasPrefix (centsT n) [45] = false := by
 unfold centsT
 have h1 := allDig_dec (n / 10 / 10).toNat
 have h2 := dec_ne (n / 10 / 10).toNat
 cases hd : decDigits (n / 10 / 10).toNat with
 | nil => exact absurd hd h2
 | cons c t =>
  rw [hd, allDig_iff] at h1
  have := h1 c (by simp)
  have hc : ¬ (45 : UInt8) = c := fun e => by rw [← e] at this; exact absurd this (by decide)
  simp [Lib.hasPrefix, List.isPrefixOf, hc]
theorem fareOf_text {n : Int} (h : moneyB n = true) : fareOf (fareT n) = (n, 0) := by
 have hb : -1000000000000 ≤ n ∧ n ≤ 1000000000000 := by unfold moneyB at h; simpa using h
 unfold fareT fareOf moneyT
 rw [if_pos h]
 split
 ·rename_i hn
  rw [if_pos (by simp [Lib.hasPrefix, List.isPrefixOf])]
  rw [show (45 :: centsT (-n)).drop 1 = centsT (-n) from rfl, cents_fareV (by omega), if_pos ⟨cents_fareF, by omega⟩, if_neg (by omega), Int.neg_neg]
 ·rw [if_neg (by rw [cents_head]; simp), if_pos cents_fareF, cents_fareV (by omega), if_neg (by omega)]
@[irreducible] def pairV (s : List UInt8) : List UInt8 × Int × Bool := ((cut2 61 s).1, (fareOf (cut2 61 s).2.1).1, (cut2 61 s).2.2 && decide ((fareOf (cut2 61 s).2.1).2 = 0))
@[irreducible] def flOf (s : List UInt8) : Coupon × Bool :=
 (⟨(wholeN (cut2 64 (pairV s).1).1).1, (wholeN (cut2 64 (pairV s).1).2.1).1, (pairV s).2.1, 0, 0, 0⟩, (pairV s).2.2 && (cut2 64 (pairV s).1).2.2 && (wholeN (cut2 64 (pairV s).1).1).2 && (wholeN (cut2 64 (pairV s).1).2.1).2)
theorem flOf_word {c : Coupon} (h : plainB c 0 = true) : flOf (flightW c) = (c, true) := by
 unfold plainB dayB at h
 simp only [Bool.and_eq_true, decide_eq_true_eq] at h
 obtain ⟨⟨⟨⟨⟨⟨h1, h2⟩, h3, h4⟩, h5⟩, h6⟩, h7⟩, h8⟩ := h
 have e1 : cut2 61 (flightW c) = (Lib.itoa c.flight ++ [64] ++ Lib.itoa c.day, fareT c.value, true) := by
  unfold flightW
  rw [show Lib.itoa c.flight ++ [64] ++ Lib.itoa c.day ++ [61] ++ fareT c.value = (Lib.itoa c.flight ++ [64] ++ Lib.itoa c.day) ++ 61 :: fareT c.value by simp]
  refine cut2_at ?_ _
  simp only [List.mem_append, List.mem_singleton, not_or]
  exact ⟨⟨itoa_no (by decide) (by decide) _, by decide⟩, itoa_no (by decide) (by decide) _⟩
 have e2 : pairV (flightW c) = (Lib.itoa c.flight ++ [64] ++ Lib.itoa c.day, c.value, true) := by
  unfold pairV; rw [e1]; simp only [fareOf_text (someB_money h5)]; rfl
 have e3 : cut2 64 (Lib.itoa c.flight ++ [64] ++ Lib.itoa c.day) = (Lib.itoa c.flight, Lib.itoa c.day, true) := by
  rw [show Lib.itoa c.flight ++ [64] ++ Lib.itoa c.day = Lib.itoa c.flight ++ 64 :: Lib.itoa c.day by simp]
  exact cut2_at (itoa_no (by decide) (by decide) _) _
 unfold flOf
 rw [e2]; simp only [e3, whole_itoa (n := c.flight) (by omega) (by omega), whole_itoa (n := c.day) (by omega) (by omega), Bool.true_and]
 cases c; simp_all
@[irreducible] def txOf (s : List UInt8) : Tax × Bool := (⟨(wholeN (pairV s).1).1, (pairV s).2.1⟩, (pairV s).2.2 && (wholeN (pairV s).1).2)
theorem txOf_word {x : Tax} (h1 : 1 ≤ x.code ∧ x.code ≤ 99) (h2 : someB x.amount = true) : txOf (taxW x) = (x, true) := by
 have e1 : cut2 61 (taxW x) = (Lib.itoa x.code, fareT x.amount, true) := by
  unfold taxW
  rw [show Lib.itoa x.code ++ [61] ++ fareT x.amount = Lib.itoa x.code ++ 61 :: fareT x.amount by simp]
  exact cut2_at (itoa_no (by decide) (by decide) _) _
 unfold txOf pairV
 rw [e1]; simp only [fareOf_text (someB_money h2), whole_itoa (n := x.code) (by omega) (by omega), Bool.true_and]; rfl
theorem taxesFrom_all : ∀ {l : List Tax} {n : Int}, taxesFrom n l = true → 1 ≤ n → ∀ x ∈ l, (1 ≤ x.code ∧ x.code ≤ 99) ∧ someB x.amount = true
 | [], _, _, _, x, hx => by cases hx
 | y :: l, n, h, hn, x, hx => by
  simp only [taxesFrom, Bool.and_eq_true, decide_eq_true_eq] at h
  rcases List.mem_cons.1 hx with rfl | hx
  ·exact ⟨⟨by omega, h.1.1.2⟩, h.1.2⟩
  ·exact taxesFrom_all h.2 (by omega) x hx
theorem taxesB_all {l : List Tax} (h : taxesB l = true) : ∀ x ∈ l, (1 ≤ x.code ∧ x.code ≤ 99) ∧ someB x.amount = true := by
 unfold taxesB at h
 simp only [Bool.and_eq_true] at h
 exact taxesFrom_all h.1 (by omega)
theorem taxes_cut {l : List Tax} (h : l ≠ []) : cutL 44 (taxesW l) = l.map taxW := by
 have hl : ¬ l.length = 0 := fun e => h (List.length_eq_zero_iff.1 e)
 unfold taxesW
 rw [if_neg hl]
 refine cutL_join (by simpa using h) fun w hw => ?_
 obtain ⟨c, _, rfl⟩ := List.mem_map.1 hw
 exact tax_no (by decide) (by decide) (by decide) (by decide) c
theorem taxesW_dash {l : List Tax} (h : l ≠ []) : taxesW l ≠ [45] := by
 have hl : ¬ l.length = 0 := fun e => h (List.length_eq_zero_iff.1 e)
 intro e
 have : (61 : UInt8) ∈ taxesW l := by
  unfold taxesW
  rw [if_neg hl]
  cases l with
  | nil => exact absurd rfl h
  | cons x l => rw [List.map_cons, Lib.join_cons]; exact List.mem_append_left _ (by unfold taxW; simp)
 rw [e] at this
 exact absurd this (by decide)
end Go.Vc.Z
namespace Go.Vc.Z
open Go Go.Vc Go.Proofs Go.RowKit Go.Pl Go.Lib
theorem flights_cut {l : List Coupon} (h : l ≠ []) : cutL 44 (flightsW l) = l.map flightW := by
 unfold flightsW
 refine cutL_join (by simpa using h) fun w hw => ?_
 obtain ⟨c, _, rfl⟩ := List.mem_map.1 hw
 intro hm
 unfold flightW at hm
 simp only [List.mem_append, List.mem_singleton] at hm
 rcases hm with (((hm | hm) | hm) | hm) | hm
 ·exact itoa_no (by decide) (by decide) _ hm
 ·exact absurd hm (by decide)
 ·exact itoa_no (by decide) (by decide) _ hm
 ·exact absurd hm (by decide)
 ·exact fare_no (by decide) (by decide) (by decide) _ hm
theorem key_no {s : List UInt8} (h : keyB s = true) : (32 : UInt8) ∉ s := by
 unfold keyB at h
 simp only [Bool.and_eq_true, List.all_eq_true] at h
 intro hm
 exact absurd (h.1.1 32 hm) (by decide)
theorem flights_no (l : List Coupon) : (32 : UInt8) ∉ flightsW l := by
 unfold flightsW
 intro hm
 rcases join_mem hm with h | ⟨s, hs, h⟩
 ·exact absurd h (by decide)
 ·obtain ⟨x, _, rfl⟩ := List.mem_map.1 hs
  unfold flightW at h
  simp only [List.mem_append, List.mem_singleton] at h
  rcases h with (((hm | hm) | hm) | hm) | hm
  ·exact itoa_no (by decide) (by decide) _ hm
  ·exact absurd hm (by decide)
  ·exact itoa_no (by decide) (by decide) _ hm
  ·exact absurd hm (by decide)
  ·exact fare_no (by decide) (by decide) (by decide) _ hm
theorem req_cases {r : Request} (h : mayReqB r = true) : r.kind = 1 ∨ r.kind = 2 ∨ r.kind = 3 ∨ r.kind = 4 ∨ r.kind = 5 ∨ r.kind = 6 ∨ r.kind = 7 ∨ r.kind = 8 ∨ r.kind = 9 ∨ r.kind = 10 :=
 kinds (Decidable.byContradiction fun hn => by rw [mayReq_no hn] at h; cases h)
theorem reqParts_no {r : Request} (h : mayReqB r = true) : reqParts r ≠ [] ∧ ∀ w ∈ reqParts r, (32 : UInt8) ∉ w := by
 have hD := fun n : Int => itoa_no (k := 32) (by decide) (by decide) n
 have hT := fun n : Int => num_no (k := 32) (by decide) n
 have hA := fun n : Int => fare_no (k := 32) (by decide) (by decide) (by decide) n
 have hS := fun n : Int => letter_no (k := 32) (by decide) n
 rcases req_cases h with k | k | k | k | k | k | k | k | k | k
 ·obtain ⟨h1, _, h3, _⟩ := mayFacts_1 k h
  rw [reqParts_1 k]; simp [hD, key_no h1, loc_no h3, flights_no, taxes_no]
 ·obtain ⟨h1, _⟩ := mayFacts_2 k h
  rw [reqParts_2 k]; simp [hD, hT, hS, key_no h1]
 ·obtain ⟨h1, _⟩ := mayFacts_3 k h
  rw [reqParts_3 k]; simp [hD, hT, key_no h1]
 ·obtain ⟨h1, _⟩ := mayFacts_4 k h
  rw [reqParts_4 k]; simp [hD, hT, hA, key_no h1]
 ·obtain ⟨h1, _⟩ := mayFacts_5 k h
  rw [reqParts_5 k]; simp [hD, hT, hA, key_no h1, flights_no, taxes_no]
 ·obtain ⟨h1, _⟩ := mayFacts_6 k h
  rw [reqParts_6 k]; simp [hD, hT, key_no h1]
 ·obtain ⟨h1, _⟩ := mayFacts_7 k h
  rw [reqParts_7 k]; simp [hD, hT, key_no h1]
 ·rw [reqParts_8 k]; simp [hT]
 ·have h1 := mayFacts_9 k h
  rw [reqParts_9 k]; simp [loc_no h1]
 ·rw [reqParts_10 k]; simp [hD]
theorem reqJ_len {r : Request} (h : mayReqB r = true) (hf : factL [.agg r.enc]) : (Lib.join (reqParts r) [32]).length ≤ 20000 := by
 have hc : factL [slE 6 Coupon.enc r.coupons] := ⟨hf.1.2.2.2.2.2.2.2.1, True.intro⟩
 have ht : factL [slE 2 Tax.enc r.taxes] := ⟨hf.1.2.2.2.2.2.2.2.2.1, True.intro⟩
 simp only [factL, factA, inK_def, Go.Vc.lo, Go.Vc.hi, and_true] at hf
 have lT := numText_len r.ticket
 have lS := letterS_len r.status
 have lA := fareT_len r.amount
 have lD := itoa_len r.day (by omega) (by omega)
 have lN := itoa_len r.coupon (by omega) (by omega)
 have lR := itoa_len r.frm (by omega) (by omega)
 have lQ := itoa_len r.til (by omega) (by omega)
 have jW : ∀ m : Int, m ≤ 12 → coupB m r.coupons = true → (flightsW r.coupons).length ≤ 3000 := fun m hm hj => by
  obtain ⟨j1, j2, j3⟩ := coupB_facts hj
  unfold flightsW; have := joinF_le (l := r.coupons) hc (by omega) r.coupons.length; rwa [List.take_length] at this
 have jX : taxesB r.taxes = true → (taxesW r.taxes).length ≤ 1000 := fun hx => taxesW_len (taxesB_facts hx).1 (tax_facts ht)
 have hW : Lib.join (reqParts r) [32] = reqW r := by unfold reqW; rw [if_pos h]
 rw [hW]
 rcases req_cases h with k | k | k | k | k | k | k | k | k | k
 ·obtain ⟨h1, _, h3, h4, h5⟩ := mayFacts_1 k h
  have := keyB_len h1; have := locOk_len h3; have := jW 12 (by decide) h4; have := jX h5
  rw [reqW_1 k h]; simp; omega
 ·obtain ⟨h1, _⟩ := mayFacts_2 k h
  have := keyB_len h1
  rw [reqW_2 k h]; simp; omega
 ·obtain ⟨h1, _⟩ := mayFacts_3 k h
  have := keyB_len h1
  rw [reqW_3 k h]; simp; omega
 ·obtain ⟨h1, _⟩ := mayFacts_4 k h
  have := keyB_len h1
  rw [reqW_4 k h]; simp; omega
 ·obtain ⟨h1, _, _, _, h4, h5⟩ := mayFacts_5 k h
  have := keyB_len h1; have := jW 4 (by decide) h4; have := jX h5
  rw [reqW_5 k h]; simp; omega
 ·obtain ⟨h1, _⟩ := mayFacts_6 k h
  have := keyB_len h1
  rw [reqW_6 k h]; simp; omega
 ·obtain ⟨h1, _⟩ := mayFacts_7 k h
  have := keyB_len h1
  rw [reqW_7 k h]; simp; omega
 ·rw [reqW_8 k h]; simp; omega
 ·have h1 := mayFacts_9 k h
  have := locOk_len h1
  rw [reqW_9 k h]; simp; omega
 ·rw [reqW_10 k h]; simp; omega
theorem req_cut {r : Request} (h : mayReqB r = true) : cutL 32 (reqW r) = reqParts r := by
 obtain ⟨h1, h2⟩ := reqParts_no h
 unfold reqW
 rw [if_pos h]
 exact cutL_join h1 h2
end Go.Vc.Z
