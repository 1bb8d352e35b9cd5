/- request.May, of the kind issue. -/
import Derived.Test.YtpmpclbdnakniaaGreatDoorV9
set_option linter.all false
set_option linter.unusedVariables false
set_option linter.unusedSimpArgs false
namespace Go.Vc.Z
open Go Go.Vc Go.Proofs Go.RowKit Go.Pl Go.Lib
@[irreducible] def lcB (g : Bool) (m : Int) (l : List Coupon) (i : Nat) : Bool := numOk g 1 l.length m && (l.take i).all (plainB · 0)
@[irreducible] def ltB (g : Bool) (l : List Tax) (i : Nat) : Bool := numOk g 0 l.length 4 && taxesFrom 1 (l.take i)
@[irreducible] def leastT (l : List Tax) (i : Nat) : Int := if i = 0 then 1 else (if (l.getD (i - 1) default).code ≤ 99 then (l.getD (i - 1) default).code else 99) + 1
@[irreducible] def fz (i e : Nat) (v : Int) : Int := if e < i then 0 else v
theorem fz_zero (e : Nat) (v : Int) : fz 0 e v = v := by unfold fz; rw [if_neg (Nat.not_lt_zero _)]
theorem fz_ge {i e : Nat} (h : i ≤ e) (v : Int) : fz i e v = v := by unfold fz; rw [if_neg (by omega)]
theorem fz_lt {i e : Nat} (h : e < i) (v : Int) : fz i e v = 0 := by unfold fz; rw [if_pos h]
def clrC (i e : Nat) (c : Coupon) : List AV := [.int .i64 (fz i e c.flight), .int .i64 (fz i e c.day), .int .i64 (fz i e c.value), .int .i64 c.status, .int .i64 c.holder, .int .u64 c.next]
def clrT (i e : Nat) (c : Tax) : List AV := [.int .i64 (fz i e c.code), .int .i64 (fz i e c.amount)]
def setR (H : List Blk) (k : Option Nat) (f : Nat → List AV) : List Blk := match k with
 | none => H
 | some k => (match H[k]? with | some (.row sz len _ T) => H.set k (.row sz len f T) | _ => H)
def LCo2 (g : Bool) (m : Int) (r : Request) (cs : List AV) (H : List Blk) : LoopSpec := {
 α := Nat
 keep := [0, 31, 32]
 vals i := [.ptr (ptrOf cs) 0, .int .i64 r.coupons.length, .int .i64 i]
 heap i := setR (setCell H (ptrOf cs) 2 (.bool (lcB g m r.coupons i))) (slotOf H cs 7) (fun e => clrC i e (r.coupons.getD e default)) ++ [.dead]
 ok i := i ≤ r.coupons.length
 μ i := r.coupons.length - i }
def LTx2 (g : Bool) (r : Request) (cs : List AV) (H : List Blk) : LoopSpec := {
 α := Nat
 keep := [0, 2, 30, 31]
 vals i := [.ptr (ptrOf cs) 0, .int .i64 (leastT r.taxes i), .int .i64 r.taxes.length, .int .i64 i]
 heap i := setR (setCell H (ptrOf cs) 2 (.bool (ltB g r.taxes i))) (slotOf H cs 8) (fun e => clrT i e (r.taxes.getD e default)) ++ [.dead]
 ok i := i ≤ r.taxes.length
 μ i := r.taxes.length - i }
@[irreducible] def gP5 (r : Request) : Bool := numOk (numOk (numOk true 1 r.key.length 16 && keyB r.key) 0 r.day 1000000 && eqI (checkN r.ticket) 0) 0 r.amount 1000000000000
@[irreducible] def gP1 (r : Request) : Bool := numOk (numOk true 1 r.key.length 16 && keyB r.key) 0 r.day 1000000 && locOk r.locator
theorem fz_ne {i e : Nat} (h : e ≠ i) (v : Int) : fz i e v = fz (i + 1) e v := by unfold fz; split <;> split <;> first | rfl | omega
theorem clrC_ne {i e : Nat} (h : e ≠ i) (c : Coupon) : clrC i e c = clrC (i + 1) e c := by simp only [clrC, fz_ne h]
theorem clrC_at (i : Nat) (c : Coupon) : clrC (i + 1) i c = [.int .i64 0, .int .i64 0, .int .i64 0, .int .i64 c.status, .int .i64 c.holder, .int .u64 c.next] := by simp only [clrC, fz_lt (Nat.lt_succ_self i)]
theorem clrT_ne {i e : Nat} (h : e ≠ i) (c : Tax) : clrT i e c = clrT (i + 1) e c := by simp only [clrT, fz_ne h]
theorem clrT_at (i : Nat) (c : Tax) : clrT (i + 1) i c = [.int .i64 0, .int .i64 0] := by simp only [clrT, fz_lt (Nat.lt_succ_self i)]
theorem lcB_zero (g : Bool) (m : Int) (l : List Coupon) : lcB g m l 0 = numOk g 1 l.length m := by unfold lcB; simp
theorem ltB_zero (g : Bool) (l : List Tax) : ltB g l 0 = numOk g 0 l.length 4 := by unfold ltB; simp [taxesFrom]
theorem leastT_zero (l : List Tax) : leastT l 0 = 1 := by unfold leastT; rfl
theorem lcB_full (g : Bool) (m : Int) (l : List Coupon) : lcB g m l l.length = (g && coupB m l) := by
 unfold lcB coupB
 rw [List.take_length, Bool.eq_iff_iff]
 simp only [Bool.and_eq_true, numOk_iff, decide_eq_true_eq]
 constructor
 ·rintro ⟨⟨h1, h2, h3⟩, h4⟩; exact ⟨h1, ⟨h4, by omega⟩, h3⟩
 ·rintro ⟨h1, ⟨h4, h2⟩, h3⟩; exact ⟨⟨h1, by omega, h3⟩, h4⟩
theorem ltB_full (g : Bool) (l : List Tax) : ltB g l l.length = (g && taxesB l) := by
 unfold ltB taxesB
 rw [List.take_length, Bool.eq_iff_iff]
 simp only [Bool.and_eq_true, numOk_iff, decide_eq_true_eq]
 constructor
 ·rintro ⟨⟨h1, h2, h3⟩, h4⟩; exact ⟨h1, h4, by omega⟩
 ·rintro ⟨h1, h4, h2⟩; exact ⟨⟨h1, by omega, by omega⟩, h4⟩
theorem plainB_iff {c : Coupon} : plainB c 0 = true ↔ (1 ≤ c.flight ∧ c.flight ≤ 9999) ∧ (0 ≤ c.day ∧ c.day ≤ 1000000) ∧ (0 ≤ c.value ∧ c.value ≤ 1000000000000) ∧ c.status = 0 ∧ c.holder = 0 ∧ c.next = 0 := by
 unfold plainB dayB someB
 simp only [Bool.and_eq_true, decide_eq_true_eq, and_assoc]
theorem lcB_succ {g : Bool} {m : Int} {l : List Coupon} {i : Nat} (h : i < l.length) : lcB g m l (i + 1) = (lcB g m l i && plainB (l.getD i default) 0) := by
 unfold lcB
 rw [List.take_add_one, List.all_append, List.getElem?_eq_getElem h, List.getD_eq_getElem?_getD, List.getElem?_eq_getElem h, Bool.and_assoc]
 simp
def nextN : Int → List Tax → Int
 | n, [] => n
 | _, y :: l => nextN (y.code + 1) l
theorem nextN_snoc : ∀ (l : List Tax) (n : Int) (x : Tax), nextN n (l ++ [x]) = x.code + 1
 | [], _, _ => rfl
 | y :: l, n, x => by rw [List.cons_append, nextN, nextN_snoc l]
theorem taxesFrom_snoc : ∀ (l : List Tax) (n : Int) (x : Tax), taxesFrom n (l ++ [x]) = (taxesFrom n l && (decide (nextN n l ≤ x.code) && decide (x.code ≤ 99) && someB x.amount))
 | [], n, x => by simp only [List.nil_append, taxesFrom, nextN, Bool.and_true, Bool.true_and] <;> rfl
 | y :: l, n, x => by rw [List.cons_append, taxesFrom, taxesFrom_snoc l, taxesFrom]; simp only [nextN, Bool.and_assoc] <;> rfl
theorem take_next {l : List Tax} {i : Nat} (h : i < l.length) : l.take (i + 1) = l.take i ++ [l.getD i default] := by
 rw [List.take_add_one, List.getElem?_eq_getElem h, List.getD_eq_getElem?_getD, List.getElem?_eq_getElem h]; rfl
theorem leastT_next {l : List Tax} : ∀ {i : Nat}, i ≤ l.length → taxesFrom 1 (l.take i) = true → nextN 1 (l.take i) = leastT l i
 | 0, _, _ => by unfold leastT; rfl
 | i + 1, h, ht => by
  rw [take_next (by omega)] at ht ⊢
  rw [taxesFrom_snoc] at ht
  simp only [Bool.and_eq_true, decide_eq_true_eq] at ht
  rw [nextN_snoc]
  unfold leastT
  rw [if_neg (by omega), Nat.add_sub_cancel, if_pos ht.2.1.2]
theorem ltB_succ {g : Bool} {l : List Tax} {i : Nat} (h : i < l.length) : ltB g l (i + 1) = (ltB g l i && (decide (leastT l i ≤ (l.getD i default).code) && decide ((l.getD i default).code ≤ 99) && someB (l.getD i default).amount)) := by
 unfold ltB
 rw [take_next h, taxesFrom_snoc, Bool.and_assoc]
 cases ht : taxesFrom 1 (l.take i) with
 | false => simp
 | true => rw [leastT_next (by omega) ht]; simp [Bool.and_assoc]
theorem gP1_iff {r : Request} : gP1 r = true ↔ keyB r.key = true ∧ (0 ≤ r.day ∧ r.day ≤ 1000000) ∧ locOk r.locator = true := by
 unfold gP1
 simp only [Bool.and_eq_true, numOk_iff, true_and]
 constructor
 ·rintro ⟨⟨⟨_, h1⟩, h2⟩, h3⟩; exact ⟨h1, h2, h3⟩
 ·rintro ⟨h1, h2, h3⟩; have := keyB_ln h1; exact ⟨⟨⟨⟨by omega, by omega⟩, h1⟩, h2⟩, h3⟩
theorem gP5_iff {r : Request} : gP5 r = true ↔ keyB r.key = true ∧ (0 ≤ r.day ∧ r.day ≤ 1000000) ∧ checkN r.ticket = 0 ∧ (0 ≤ r.amount ∧ r.amount ≤ 1000000000000) := by
 unfold gP5
 simp only [Bool.and_eq_true, numOk_iff, true_and, eqI_eq, beq_iff_eq]
 constructor
 ·rintro ⟨⟨⟨⟨_, h1⟩, h2⟩, h3⟩, h4⟩; exact ⟨h1, h2, h3, h4⟩
 ·rintro ⟨h1, h2, h3, h4⟩; have := keyB_ln h1; exact ⟨⟨⟨⟨⟨by omega, by omega⟩, h1⟩, h2⟩, h3⟩, h4⟩
theorem coupB_nil {m : Int} : ¬ coupB m [] = true := fun h => by have := (coupB_facts h).1; simp at this
theorem taxesB_nil : taxesB [] = true := by unfold taxesB; rfl
theorem tax_code {l : List Tax} (h : factL [slE 2 Tax.enc l]) {k : Nat} (hk : k < l.length) : -9223372036854775808 ≤ (l.getD k default).code := by
 simp only [factL, factA, and_true] at h
 have := (h.2 k hk).2.1
 exact (inK_def.1 this).1
noncomputable section
set_option maxRecDepth 100000
set_option linter.unusedSimpArgs false
set_option linter.unusedVariables false
attribute [local irreducible] inK Utf8.decode Utf8.encode Lib.itoa Pl.worth Pl.allDig
attribute [local irreducible] Lib.join
def pcMayB1 : PC := PC.of (fun r : Request => [.agg r.enc]) (fun r => (r.kind = 1) ∧ ¬ r.coupons.length = 0 ∧ ¬ r.taxes.length = 0 ∧ shortR r) (fun r => .bool (sB (mayReqB r)))
def D_mayB1 : PT := tabD [(73, pcName), (127, pcCheck), (142, pcSameR), (195, pcLocator), (211, pcCloneC), (212, pcCloneT), (275, pcMayKey)]
theorem d_mayB1 {W : World} (hW : Tabs W) : PTOk (Fw W) Tryz.prog D_mayB1 := (tabD_cons Tryz.call73 (g_request_Name hW) (tabD_cons Tryz.call127 (g_number_Check hW) (tabD_cons Tryz.call142 (g_request_Same hW) (tabD_cons Tryz.call195 (g_number_Locator hW) (tabD_cons Tryz.call211 (g_slices_Clone_api_Coupon_api_Coupon hW) (tabD_cons Tryz.call212 (g_slices_Clone_api_Tax_api_Tax hW) (tabD_cons Tryz.call275 (g_request_MayKey hW) tabD_nil)))))))
def C_mayB1 : FuncId → Option Ctr := tabC D_mayB1 []
theorem c_mayB1 {W : World} (hW : Tabs W) : CtrOk (Fw W) Tryz.prog C_mayB1 := (tabC_nil (d_mayB1 hW))
def I1_mayB1 : List (FuncId × Ctr) := (298, inlC TY C_mayB1 D_mayB1 (fun _ => false) (fun _ _ _ => none) Tryz.f298) :: []
def C1_mayB1 : FuncId → Option Ctr := tabC D_mayB1 I1_mayB1
theorem c1_mayB1 {W : World} (hW : Tabs W) : CtrOk (Fw W) Tryz.prog C1_mayB1 := tabC_cons Tryz.call298 (good_inlC rfl tyOk (d_mayB1 hW) (c_mayB1 hW) Tryz.func298 (fun _ _ _ => none)) (c_mayB1 hW)
def I2_mayB1 : List (FuncId × Ctr) := (273, inlC TY C1_mayB1 D_mayB1 (fun _ => false) (fun _ _ _ => none) Tryz.f273) :: I1_mayB1
def C2_mayB1 : FuncId → Option Ctr := tabC D_mayB1 I2_mayB1
theorem c2_mayB1 {W : World} (hW : Tabs W) : CtrOk (Fw W) Tryz.prog C2_mayB1 := tabC_cons Tryz.call273 (good_inlC rfl tyOk (d_mayB1 hW) (c1_mayB1 hW) Tryz.func273 (fun _ _ _ => none)) (c1_mayB1 hW)
def I3_mayB1 : List (FuncId × Ctr) := (260, inl TY C2_mayB1 D_mayB1 (fun _ => false) (fun _ _ _ => none) Tryz.f260) :: I2_mayB1
def C3_mayB1 : FuncId → Option Ctr := tabC D_mayB1 I3_mayB1
theorem c3_mayB1 {W : World} (hW : Tabs W) : CtrOk (Fw W) Tryz.prog C3_mayB1 := tabC_cons Tryz.call260 (good_inl rfl tyOk (d_mayB1 hW) (c2_mayB1 hW) Tryz.func260 (fun _ _ _ => none)) (c2_mayB1 hW)
def I4_mayB1 : List (FuncId × Ctr) := (276, inl TY C3_mayB1 D_mayB1 (fun _ => false) (fun _ _ _ => none) Tryz.f276) :: I3_mayB1
def C4_mayB1 : FuncId → Option Ctr := tabC D_mayB1 I4_mayB1
theorem c4_mayB1 {W : World} (hW : Tabs W) : CtrOk (Fw W) Tryz.prog C4_mayB1 := tabC_cons Tryz.call276 (good_inl rfl tyOk (d_mayB1 hW) (c3_mayB1 hW) Tryz.func276 (fun _ _ _ => none)) (c3_mayB1 hW)
def I5_mayB1 : List (FuncId × Ctr) := (279, inl TY C4_mayB1 D_mayB1 (fun _ => false) (fun _ _ _ => none) Tryz.f279) :: I4_mayB1
def C5_mayB1 : FuncId → Option Ctr := tabC D_mayB1 I5_mayB1
theorem c5_mayB1 {W : World} (hW : Tabs W) : CtrOk (Fw W) Tryz.prog C5_mayB1 := tabC_cons Tryz.call279 (good_inl rfl tyOk (d_mayB1 hW) (c4_mayB1 hW) Tryz.func279 (fun _ _ _ => none)) (c4_mayB1 hW)
def I6_mayB1 : List (FuncId × Ctr) := (254, inl TY C5_mayB1 D_mayB1 (fun _ => false) (fun _ _ _ => none) Tryz.f254) :: I5_mayB1
def C6_mayB1 : FuncId → Option Ctr := tabC D_mayB1 I6_mayB1
theorem c6_mayB1 {W : World} (hW : Tabs W) : CtrOk (Fw W) Tryz.prog C6_mayB1 := tabC_cons Tryz.call254 (good_inl rfl tyOk (d_mayB1 hW) (c5_mayB1 hW) Tryz.func254 (fun _ _ _ => none)) (c5_mayB1 hW)
def I7_mayB1 : List (FuncId × Ctr) := (274, inl TY C6_mayB1 D_mayB1 (fun _ => false) (fun _ _ _ => none) Tryz.f274) :: I6_mayB1
def C7_mayB1 : FuncId → Option Ctr := tabC D_mayB1 I7_mayB1
theorem c7_mayB1 {W : World} (hW : Tabs W) : CtrOk (Fw W) Tryz.prog C7_mayB1 := tabC_cons Tryz.call274 (good_inl rfl tyOk (d_mayB1 hW) (c6_mayB1 hW) Tryz.func274 (fun _ _ _ => none)) (c6_mayB1 hW)
def I8_mayB1 : List (FuncId × Ctr) := (258, inl TY C7_mayB1 D_mayB1 (fun _ => false) (fun _ _ _ => none) Tryz.f258) :: I7_mayB1
def C8_mayB1 : FuncId → Option Ctr := tabC D_mayB1 I8_mayB1
theorem c8_mayB1 {W : World} (hW : Tabs W) : CtrOk (Fw W) Tryz.prog C8_mayB1 := tabC_cons Tryz.call258 (good_inl rfl tyOk (d_mayB1 hW) (c7_mayB1 hW) Tryz.func258 (fun _ _ _ => none)) (c7_mayB1 hW)
def I9_mayB1 : List (FuncId × Ctr) := (278, inl TY C8_mayB1 D_mayB1 (fun _ => false) (fun _ _ _ => none) Tryz.f278) :: I8_mayB1
def C9_mayB1 : FuncId → Option Ctr := tabC D_mayB1 I9_mayB1
theorem c9_mayB1 {W : World} (hW : Tabs W) : CtrOk (Fw W) Tryz.prog C9_mayB1 := tabC_cons Tryz.call278 (good_inl rfl tyOk (d_mayB1 hW) (c8_mayB1 hW) Tryz.func278 (fun _ _ _ => none)) (c8_mayB1 hW)
def I10_mayB1 : List (FuncId × Ctr) := (305, inl TY C9_mayB1 D_mayB1 (fun _ => false) (fun _ _ _ => none) Tryz.f305) :: I9_mayB1
def C10_mayB1 : FuncId → Option Ctr := tabC D_mayB1 I10_mayB1
theorem c10_mayB1 {W : World} (hW : Tabs W) : CtrOk (Fw W) Tryz.prog C10_mayB1 := tabC_cons Tryz.call305 (good_inl rfl tyOk (d_mayB1 hW) (c9_mayB1 hW) Tryz.func305 (fun _ _ _ => none)) (c9_mayB1 hW)
def I11_mayB1 : List (FuncId × Ctr) := (225, inl TY C10_mayB1 D_mayB1 (fun _ => false) (fun _ _ _ => none) Tryz.f225) :: I10_mayB1
def C11_mayB1 : FuncId → Option Ctr := tabC D_mayB1 I11_mayB1
theorem c11_mayB1 {W : World} (hW : Tabs W) : CtrOk (Fw W) Tryz.prog C11_mayB1 := tabC_cons Tryz.call225 (good_inl rfl tyOk (d_mayB1 hW) (c10_mayB1 hW) Tryz.func225 (fun _ _ _ => none)) (c10_mayB1 hW)
def I12_mayB1 : List (FuncId × Ctr) := (226, inl TY C11_mayB1 D_mayB1 (fun _ => false) (fun _ _ _ => none) Tryz.f226) :: I11_mayB1
def C12_mayB1 : FuncId → Option Ctr := tabC D_mayB1 I12_mayB1
theorem c12_mayB1 {W : World} (hW : Tabs W) : CtrOk (Fw W) Tryz.prog C12_mayB1 := tabC_cons Tryz.call226 (good_inl rfl tyOk (d_mayB1 hW) (c11_mayB1 hW) Tryz.func226 (fun _ _ _ => none)) (c11_mayB1 hW)
def I13_mayB1 : List (FuncId × Ctr) := (230, inl TY C12_mayB1 D_mayB1 (fun _ => false) (fun _ _ _ => none) Tryz.f230) :: I12_mayB1
def C13_mayB1 : FuncId → Option Ctr := tabC D_mayB1 I13_mayB1
theorem c13_mayB1 {W : World} (hW : Tabs W) : CtrOk (Fw W) Tryz.prog C13_mayB1 := tabC_cons Tryz.call230 (good_inl rfl tyOk (d_mayB1 hW) (c12_mayB1 hW) Tryz.func230 (fun _ _ _ => none)) (c12_mayB1 hW)
def I14_mayB1 : List (FuncId × Ctr) := (233, inl TY C13_mayB1 D_mayB1 (fun _ => false) (fun _ _ _ => none) Tryz.f233) :: I13_mayB1
def C14_mayB1 : FuncId → Option Ctr := tabC D_mayB1 I14_mayB1
theorem c14_mayB1 {W : World} (hW : Tabs W) : CtrOk (Fw W) Tryz.prog C14_mayB1 := tabC_cons Tryz.call233 (good_inl rfl tyOk (d_mayB1 hW) (c13_mayB1 hW) Tryz.func233 (fun _ _ _ => none)) (c13_mayB1 hW)
def I15_mayB1 : List (FuncId × Ctr) := (227, inl TY C14_mayB1 D_mayB1 (fun _ => false) (fun _ _ _ => none) Tryz.f227) :: I14_mayB1
def C15_mayB1 : FuncId → Option Ctr := tabC D_mayB1 I15_mayB1
theorem c15_mayB1 {W : World} (hW : Tabs W) : CtrOk (Fw W) Tryz.prog C15_mayB1 := tabC_cons Tryz.call227 (good_inl rfl tyOk (d_mayB1 hW) (c14_mayB1 hW) Tryz.func227 (fun _ _ _ => none)) (c14_mayB1 hW)
def I16_mayB1 : List (FuncId × Ctr) := (211, inl TY C15_mayB1 D_mayB1 (fun _ => false) (fun _ _ _ => none) Tryz.f211) :: I15_mayB1
def C16_mayB1 : FuncId → Option Ctr := tabC D_mayB1 I16_mayB1
theorem c16_mayB1 {W : World} (hW : Tabs W) : CtrOk (Fw W) Tryz.prog C16_mayB1 := tabC_cons Tryz.call211 (good_inl rfl tyOk (d_mayB1 hW) (c15_mayB1 hW) Tryz.func211 (fun _ _ _ => none)) (c15_mayB1 hW)
def I17_mayB1 : List (FuncId × Ctr) := (212, inl TY C16_mayB1 D_mayB1 (fun _ => false) (fun _ _ _ => none) Tryz.f212) :: I16_mayB1
def C17_mayB1 : FuncId → Option Ctr := tabC D_mayB1 I17_mayB1
theorem c17_mayB1 {W : World} (hW : Tabs W) : CtrOk (Fw W) Tryz.prog C17_mayB1 := tabC_cons Tryz.call212 (good_inl rfl tyOk (d_mayB1 hW) (c16_mayB1 hW) Tryz.func212 (fun _ _ _ => none)) (c16_mayB1 hW)
def LI18_mayB1 : List AV → List Blk → Nat → Option LR := fun cs H i => cond (Nat.beq i 1) (some (.order [0, 1, 3, 4, 2, 6, 5, 7, 8, 9])) (none)
def I18_mayB1 : List (FuncId × Ctr) := (140, inl TY C17_mayB1 D_mayB1 (fun _ => false) (LI18_mayB1) Tryz.f140) :: I17_mayB1
def C18_mayB1 : FuncId → Option Ctr := tabC D_mayB1 I18_mayB1
theorem c18_mayB1 {W : World} (hW : Tabs W) : CtrOk (Fw W) Tryz.prog C18_mayB1 := tabC_cons Tryz.call140 (good_inl rfl tyOk (d_mayB1 hW) (c17_mayB1 hW) Tryz.func140 (LI18_mayB1)) (c17_mayB1 hW)
def LI19_mayB1 (r : Request) : List AV → List Blk → Nat → Option LR := fun cs H i => cond (Nat.beq i 0) (some (.order [0, 1, 2, 3, 4, 5, 6, 7, 8, 9, 10, 11, 12, 13, 14, 15, 16, 17, 18])) (cond (Nat.beq i 6) (some (.order [0, 1, 2, 3, 4, 5, 6, 7, 8, 9, 10, 11, 12, 13, 14, 15])) ((fun cs H i => cond (Nat.beq i 2) (some (.inv (LCo2 (gP1 r) 12 r cs H))) none) cs H i))
def I19_mayB1 (r : Request) : List (FuncId × Ctr) := (277, inl TY (C18_mayB1) D_mayB1 (fun _ => false) (LI19_mayB1 r) Tryz.f277) :: I18_mayB1
def C19_mayB1 (r : Request) : FuncId → Option Ctr := tabC D_mayB1 (I19_mayB1 r)
def LI20_mayB1 (r : Request) : List AV → List Blk → Nat → Option LR := fun cs H i => cond (Nat.beq i 0) (some (.order [0, 1, 2, 3, 4, 5, 6, 7, 8, 9, 10, 11, 12, 13, 14, 15, 16, 17])) ((fun cs H i => cond (Nat.beq i 3) (some (.inv (LTx2 (lcB (gP1 r) 12 r.coupons r.coupons.length) r cs H))) none) cs H i)
def I20_mayB1 (r : Request) : List (FuncId × Ctr) := (229, inl TY (C19_mayB1 r) D_mayB1 (fun _ => false) (LI20_mayB1 r) Tryz.f229) :: I19_mayB1 r
def C20_mayB1 (r : Request) : FuncId → Option Ctr := tabC D_mayB1 (I20_mayB1 r)
def I21_mayB1 (r : Request) : List (FuncId × Ctr) := (228, inl TY (C20_mayB1 r) D_mayB1 (fun _ => false) (fun _ _ _ => none) Tryz.f228) :: I20_mayB1 r
def C21_mayB1 (r : Request) : FuncId → Option Ctr := tabC D_mayB1 (I21_mayB1 r)
def I22_mayB1 (r : Request) : List (FuncId × Ctr) := (234, inl TY (C21_mayB1 r) D_mayB1 (fun _ => false) (fun _ _ _ => none) Tryz.f234) :: I21_mayB1 r
def C22_mayB1 (r : Request) : FuncId → Option Ctr := tabC D_mayB1 (I22_mayB1 r)
def I23_mayB1 (r : Request) : List (FuncId × Ctr) := (164, inl TY (C22_mayB1 r) D_mayB1 (fun _ => false) (fun _ _ _ => none) Tryz.f164) :: I22_mayB1 r
def C23_mayB1 (r : Request) : FuncId → Option Ctr := tabC D_mayB1 (I23_mayB1 r)
def LI24_mayB1 (r : Request) : List AV → List Blk → Nat → Option LR := fun _ _ i => cond (Nat.beq i 2) (some (.unroll 7)) none
def I24_mayB1 (r : Request) : List (FuncId × Ctr) := (141, inl TY (C23_mayB1 r) D_mayB1 (fun _ => false) (LI24_mayB1 r) Tryz.f141) :: I23_mayB1 r
def C24_mayB1 (r : Request) : FuncId → Option Ctr := tabC D_mayB1 (I24_mayB1 r)
set_option maxHeartbeats 4000000 in
theorem g_mayB1 {W : World} (hW : Tabs W) : GoodP (Fw W) Tryz.prog 71 pcMayB1 := by
 have hD := d_mayB1 hW
 have hC18 : ∀ r : Request, CtrOk (Fw W) Tryz.prog C18_mayB1 := fun r => (c18_mayB1 hW)
 have hC19 : ∀ r : Request, CtrOk (Fw W) Tryz.prog (C19_mayB1 r) := fun r => tabC_cons Tryz.call277 (good_inl rfl tyOk hD (hC18 r) Tryz.func277 (LI19_mayB1 r)) (hC18 r)
 have hC20 : ∀ r : Request, CtrOk (Fw W) Tryz.prog (C20_mayB1 r) := fun r => tabC_cons Tryz.call229 (good_inl rfl tyOk hD (hC19 r) Tryz.func229 (LI20_mayB1 r)) (hC19 r)
 have hC21 : ∀ r : Request, CtrOk (Fw W) Tryz.prog (C21_mayB1 r) := fun r => tabC_cons Tryz.call228 (good_inl rfl tyOk hD (hC20 r) Tryz.func228 (fun _ _ _ => none)) (hC20 r)
 have hC22 : ∀ r : Request, CtrOk (Fw W) Tryz.prog (C22_mayB1 r) := fun r => tabC_cons Tryz.call234 (good_inl rfl tyOk hD (hC21 r) Tryz.func234 (fun _ _ _ => none)) (hC21 r)
 have hC23 : ∀ r : Request, CtrOk (Fw W) Tryz.prog (C23_mayB1 r) := fun r => tabC_cons Tryz.call164 (good_inl rfl tyOk hD (hC22 r) Tryz.func164 (fun _ _ _ => none)) (hC22 r)
 have hC24 : ∀ r : Request, CtrOk (Fw W) Tryz.prog (C24_mayB1 r) := fun r => tabC_cons Tryz.call141 (good_inl rfl tyOk hD (hC23 r) Tryz.func141 (LI24_mayB1 r)) (hC23 r)
 refine goodP_ofC (D := D_mayB1) (C := fun r => C24_mayB1 r) (wr := (fun _ => false)) rfl tyOk hD hC24 Tryz.func71 (fun _ _ => none) (fun _ => rfl) ?_
 rintro ⟨key, kind, day, ticket, coupon, status, locator, coupons, taxes, amount, frm, til⟩ hf hp
 have hft : factL [slE 2 Tax.enc taxes] := ⟨hf.1.2.2.2.2.2.2.2.2.1, True.intro⟩
 clear hf
 obtain ⟨hk, hcn, htn, hp1, hp2⟩ := hp
 dsimp only at hk hcn htn hp1 hp2
 rcases hk with rfl
 have hex : ¬ nameQ 1 = [] := by rw [nameQ_at (by decide)]; decide
 have hca : ¬ 0 + coupons.length ≤ 0 := by omega
 have hta : ¬ 0 + taxes.length ≤ 0 := by omega
 (conv => whnf)
 (repeat' ((first
  | (with_reducible refine inl_intro ?_)
  | (exact absurd (by with_reducible assumption) hex)
  | (exact absurd (by with_reducible assumption) hcn)
  | (exact absurd (by with_reducible assumption) htn)
  | (exact absurd (by with_reducible assumption) hca)
  | (exact absurd (by with_reducible assumption) hta)
  | ((with_reducible apply inlC_weigh'); (focus rfl); (focus rfl))
  | ((with_reducible apply inlC_number'); (focus rfl); (focus rfl); (focus rfl))
  | ((refine ⟨rfl, _, ?_, rfl⟩); (try simp only [sB_eq, sI_eq, eqI_eq, cond_true, cond_false, Bool.true_and, Bool.and_false, Bool.false_and, List.length_nil]) <;> first | rfl | exact numOk_lo (by omega) | exact numOk_hi (by omega) | exact numOk_in (by omega) | (rename_i hh; (try simp only [List.length_nil] at hh); first | (rw [hh]; first | rfl | (simp; done)) | (rw [hh.1, hh.2]; first | rfl | (simp; done)) | (simp [hh]; done) | (rcases hh with hh | hh <;> first | (rw [hh]; first | rfl | (simp; done)) | (simp [hh]; done))))
  | with_reducible refine And.intro (?_ : opQ _ _ _ _ _ _) ?_
  | ((with_reducible refine And.intro ?_ ?_); focus (first | with_reducible exact True.intro | ((with_reducible show okB _ _ _ = true); rfl) | ((with_reducible show okQ _ _ = true); rfl) | omega | (simp only [inK_def, Go.Vc.lo, Go.Vc.hi]; omega) | (simp only [growOk, ty2, ty3, ty4, ty5, ty9, ty21, ty37, ty42, ty43, ty45, ty47, ty67, ty95, ty105, ty113, ty150, ty161, ty198, ty242, ty275]; first | omega | (refine ⟨?_, ?_⟩ <;> omega))))
  | (split <;> rename_i hh <;> (try simp only [wS] at hh) <;> (try simp (disch := omega) only [wT] at hh))
  | with_reducible refine (fun (hln : (_ : Int) ≤ 9223372036854775807) => ?_)
  | fail) <;> (conv => whnf)))
 all_goals (try (show _ = _; simp only [wQ]))
 refine ⟨?_, fun (i : Nat) (hi : i ≤ coupons.length) => ?_⟩
 ·(conv => whnf)
  refine ⟨(0 : Nat), [], ?_, ⟨⟨rfl, Nat.le_of_ble_eq_true rfl, rfl⟩, ?_, ?_⟩⟩
  ·exact Nat.zero_le _
  ·(conv => whnf)
   (repeat' ((first | with_reducible exact True.intro | ((with_reducible refine And.intro ?_ ?_); focus (first | with_reducible rfl | omega | exact Nat.le_of_ble_eq_true rfl | rfl)) | with_reducible refine And.intro (?_ : leA _ _ _) ?_ | fail) <;> (conv => whnf)))
   all_goals (try simp only [wQ])
   all_goals (try first | omega)
  ·(conv => whnf)
   (repeat' ((first | with_reducible exact True.intro | ((with_reducible refine Or.inr ?_); rfl) | ((with_reducible refine And.intro ?_ ?_); focus (first | with_reducible rfl | omega | exact Nat.le_of_ble_eq_true rfl | rfl)) | with_reducible refine And.intro (?_ : leA _ _ _) ?_ | with_reducible refine And.intro (?_ : leL _ _ _) ?_ | with_reducible refine And.intro (?_ : leBlk _ _ _ _) ?_ | fail) <;> (conv => whnf)))
   all_goals (try simp only [wQ])
   all_goals (try first | omega | rfl | exact ⟨fun h => h, fun _ _ => True.intro⟩)
   all_goals (try first | exact fun _ _ => ⟨True.intro, rfl⟩)
   ·intro e he
    refine ⟨?_, rfl⟩
    show catRow 0 _ _ e = _
    unfold catRow
    rw [if_neg (by omega), Nat.sub_zero]
    simp only [clrC, fz_zero]
   ·rw [lcB_zero, Nat.zero_add]; unfold gP1; rfl
   ·intro e he
    rcases (by omega : e = 0 ∨ e = 1 ∨ e = 2 ∨ e = 3 ∨ e = 4) with rfl | rfl | rfl | rfl | rfl <;> exact ⟨True.intro, rfl⟩
 ·(conv => whnf)
  (repeat' ((first
   | (with_reducible refine inl_intro ?_)
   | ((with_reducible apply inlC_weigh'); (focus rfl); (focus rfl))
   | ((with_reducible apply inlC_number'); (focus rfl); (focus rfl); (focus rfl))
   | ((with_reducible apply inlC_numberE'); (focus rfl); (focus rfl); (focus rfl))
   | (refine optP_coupon ?_)
   | ((refine ⟨rfl, _, ?_, rfl⟩); (try simp only [sB_eq, sI_eq, eqI_eq, cond_true, cond_false, Bool.true_and, Bool.and_false, Bool.false_and, List.length_nil]) <;> first | rfl | exact numOk_lo (by omega) | exact numOk_hi (by omega) | exact numOk_in (by omega) | (rename_i hh; (try simp only [List.length_nil] at hh); first | (rw [hh]; first | rfl | (simp; done)) | (rw [hh.1, hh.2]; first | rfl | (simp; done)) | (simp [hh]; done) | (rcases hh with hh | hh <;> first | (rw [hh]; first | rfl | (simp; done)) | (simp [hh]; done))))
   | with_reducible refine And.intro (?_ : opQ _ _ _ _ _ _) ?_
   | ((with_reducible refine And.intro ?_ ?_); focus (first | ((with_reducible show okQ _ _ = true); rfl) | omega | (simp only [inK_def, Go.Vc.lo, Go.Vc.hi]; omega)))
   | (split <;> rename_i hh <;> (try simp only [wS] at hh) <;> (try simp (disch := omega) only [wT] at hh))
   | with_reducible refine (fun (hln : (_ : Int) ≤ 9223372036854775807) => ?_)
   | fail) <;> (conv => whnf)))
  all_goals (try (show _ = _; simp only [wQ]))
  ·(conv => whnf)
   refine ⟨(i + 1 : Nat), [], ?_, ⟨⟨rfl, Nat.le_of_ble_eq_true rfl, rfl⟩, ?_, ?_⟩⟩
   ·exact ⟨show i + 1 ≤ coupons.length by omega, show coupons.length - (i + 1) < coupons.length - i by omega⟩
   ·(conv => whnf)
    (repeat' ((first | with_reducible exact True.intro | ((with_reducible refine And.intro ?_ ?_); focus (first | with_reducible rfl | omega | exact Nat.le_of_ble_eq_true rfl | rfl)) | with_reducible refine And.intro (?_ : leA _ _ _) ?_ | fail) <;> (conv => whnf)))
    all_goals (try simp only [wQ])
    all_goals (try first | omega)
   ·(conv => whnf)
    (repeat' ((first | with_reducible exact True.intro | ((with_reducible refine Or.inr ?_); rfl) | ((with_reducible refine And.intro ?_ ?_); focus (first | with_reducible rfl | omega | exact Nat.le_of_ble_eq_true rfl | rfl)) | with_reducible refine And.intro (?_ : leA _ _ _) ?_ | with_reducible refine And.intro (?_ : leL _ _ _) ?_ | with_reducible refine And.intro (?_ : leBlk _ _ _ _) ?_ | fail) <;> (conv => whnf)))
    all_goals (try simp only [wQ])
    all_goals (try first | omega | rfl | exact ⟨fun h => h, fun _ _ => True.intro⟩)
    all_goals (try first | exact fun _ _ => ⟨True.intro, rfl⟩)
    ·intro e he
     refine ⟨?_, rfl⟩
     simp only [mergeL_eq, decide_true, if_true, decide_eq_true_eq]
     by_cases h1 : e = i
     ·subst h1
      simp only [if_pos (show e = 0 + Int.toNat (e : Int) by omega)]
      rw [clrC_at]; simp only [Nat.zero_add, Int.toNat_natCast]; rfl
     ·simp only [if_neg (show ¬ e = 0 + Int.toNat (i : Int) by omega)]
      rw [clrC_ne h1]
    ·rw [lcB_succ (by omega), Bool.eq_iff_iff]
     simp only [Bool.and_eq_true, numOk_iff, plainB_iff, beq_iff_eq, selI, decide_true, if_true, fz_ge (Nat.le_refl i), Nat.zero_add, Int.toNat_natCast, true_and, and_assoc, cond_true, cond_false]
    ·intro e he
     rcases (by omega : e = 0 ∨ e = 1 ∨ e = 2 ∨ e = 3 ∨ e = 4) with rfl | rfl | rfl | rfl | rfl <;> exact ⟨True.intro, rfl⟩
  ·obtain rfl : i = coupons.length := by omega
   refine ⟨?_, fun (k : Nat) (hk : k ≤ taxes.length) => ?_⟩
   ·(conv => whnf)
    refine ⟨(0 : Nat), [], ?_, ⟨⟨rfl, Nat.le_of_ble_eq_true rfl, rfl⟩, ?_, ?_⟩⟩
    ·exact Nat.zero_le _
    ·(conv => whnf)
     (repeat' ((first | with_reducible exact True.intro | ((with_reducible refine And.intro ?_ ?_); focus (first | with_reducible rfl | omega | exact Nat.le_of_ble_eq_true rfl | rfl)) | with_reducible refine And.intro (?_ : leA _ _ _) ?_ | fail) <;> (conv => whnf)))
     all_goals (try simp only [wQ])
     all_goals (try first | omega)
     all_goals exact (leastT_zero _).symm
    ·(conv => whnf)
     (repeat' ((first | with_reducible exact True.intro | ((with_reducible refine Or.inr ?_); rfl) | ((with_reducible refine And.intro ?_ ?_); focus (first | with_reducible rfl | omega | exact Nat.le_of_ble_eq_true rfl | rfl)) | with_reducible refine And.intro (?_ : leA _ _ _) ?_ | with_reducible refine And.intro (?_ : leL _ _ _) ?_ | with_reducible refine And.intro (?_ : leBlk _ _ _ _) ?_ | fail) <;> (conv => whnf)))
     all_goals (try simp only [wQ])
     all_goals (try first | omega | rfl | exact ⟨fun h => h, fun _ _ => True.intro⟩)
     all_goals (try first | exact fun _ _ => ⟨True.intro, rfl⟩)
     ·intro e he
      refine ⟨?_, rfl⟩
      show catRow 0 _ _ e = _
      unfold catRow
      rw [if_neg (by omega), Nat.sub_zero]
      simp only [clrT, fz_zero]
     ·rw [ltB_zero, Nat.zero_add]
     ·intro e he
      rcases (by omega : e = 0 ∨ e = 1 ∨ e = 2 ∨ e = 3 ∨ e = 4) with rfl | rfl | rfl | rfl | rfl <;> exact ⟨True.intro, rfl⟩
   ·have hfin : taxes.length ≤ k → ltB (lcB (gP1 ⟨key, 1, day, ticket, coupon, status, locator, coupons, taxes, amount, frm, til⟩) 12 coupons coupons.length) taxes k = (gP1 ⟨key, 1, day, ticket, coupon, status, locator, coupons, taxes, amount, frm, til⟩ && coupB 12 coupons && taxesB taxes) := fun h => by
     obtain rfl : k = taxes.length := by omega
     rw [ltB_full, lcB_full]
    have hcode : k < taxes.length → -9223372036854775808 ≤ fz k (0 + Int.toNat (k : Int)) (taxes.getD (0 + Int.toNat (k : Int)) default).code := fun h => by
     rw [fz_ge (by omega), Nat.zero_add]; exact tax_code hft h
    have hfz : fz k (0 + Int.toNat (k : Int)) (taxes.getD (0 + Int.toNat (k : Int)) default).code = (taxes.getD k default).code := by
     rw [fz_ge (by omega), Nat.zero_add]; rfl
    (conv => whnf)
    (repeat' ((first
     | (with_reducible refine inl_intro ?_)
     | (exact absurd (by with_reducible assumption) Bool.false_ne_true)
     | ((with_reducible apply inlC_weigh'); (focus rfl); (focus rfl))
     | ((with_reducible apply inlC_number'); (focus rfl); (focus rfl); (focus rfl))
     | ((with_reducible apply inlC_numberE'); (focus rfl); (focus rfl); (focus rfl))
     | ((refine ⟨rfl, _, ?_, rfl⟩); (try simp only [sB_eq, sI_eq, eqI_eq, cond_true, cond_false, Bool.true_and, Bool.and_false, Bool.false_and, List.length_nil]) <;> first | rfl | exact numOk_lo (by omega) | exact numOk_hi (by omega) | exact numOk_in (by omega) | (rename_i hh; (try simp only [List.length_nil] at hh); first | (rw [hh]; first | rfl | (simp; done)) | (rw [hh.1, hh.2]; first | rfl | (simp; done)) | (simp [hh]; done) | (rcases hh with hh | hh <;> first | (rw [hh]; first | rfl | (simp; done)) | (simp [hh]; done))))
     | ((with_reducible refine And.intro ?_ ?_); focus (first | ((with_reducible show okB _ _ _ = true); rfl) | (simp only [inK_def, Go.Vc.lo, Go.Vc.hi]; omega)))
     | (split <;> rename_i hh <;> (try simp only [wS] at hh) <;> (try simp (disch := omega) only [wT] at hh))
     | fail) <;> (conv => whnf)))
    all_goals (try (show _ = _; simp only [wQ]))
    ·(conv => whnf)
     refine ⟨(k + 1 : Nat), [], ?_, ⟨⟨rfl, Nat.le_of_ble_eq_true rfl, rfl⟩, ?_, ?_⟩⟩
     ·exact ⟨show k + 1 ≤ taxes.length by omega, show taxes.length - (k + 1) < taxes.length - k by omega⟩
     ·(conv => whnf)
      (repeat' ((first | with_reducible exact True.intro | ((with_reducible refine And.intro ?_ ?_); focus (first | with_reducible rfl | omega | exact Nat.le_of_ble_eq_true rfl | rfl)) | with_reducible refine And.intro (?_ : leA _ _ _) ?_ | fail) <;> (conv => whnf)))
      all_goals (try simp only [wQ])
      all_goals (try first | omega)
      all_goals (unfold leastT; rw [if_neg (by omega), Nat.add_sub_cancel]; split <;> omega)
     ·(conv => whnf)
      (repeat' ((first | with_reducible exact True.intro | ((with_reducible refine Or.inr ?_); rfl) | ((with_reducible refine And.intro ?_ ?_); focus (first | with_reducible rfl | omega | exact Nat.le_of_ble_eq_true rfl | rfl)) | with_reducible refine And.intro (?_ : leA _ _ _) ?_ | with_reducible refine And.intro (?_ : leL _ _ _) ?_ | with_reducible refine And.intro (?_ : leBlk _ _ _ _) ?_ | fail) <;> (conv => whnf)))
      all_goals (try simp only [wQ])
      all_goals (try first | omega | rfl | exact ⟨fun h => h, fun _ _ => True.intro⟩)
      all_goals (try first | exact fun _ _ => ⟨True.intro, rfl⟩)
      ·intro e he
       refine ⟨?_, rfl⟩
       simp only [mergeL_eq, decide_true, if_true, decide_eq_true_eq]
       by_cases h1 : e = k
       ·subst h1
        simp only [if_pos (show e = 0 + Int.toNat (e : Int) by omega)]
        rw [clrT_at]; simp only [Nat.zero_add, Int.toNat_natCast]; rfl
       ·simp only [if_neg (show ¬ e = 0 + Int.toNat (k : Int) by omega)]
        rw [clrT_ne h1]
      ·rw [ltB_succ (by omega), Bool.eq_iff_iff]
       unfold someB
       simp only [Bool.and_eq_true, numOk_iff, decide_eq_true_eq, selI, decide_true, if_true, fz_ge (Nat.le_refl k), Nat.zero_add, Int.toNat_natCast, true_and, and_assoc, cond_true, cond_false]
      ·intro e he
       rcases (by omega : e = 0 ∨ e = 1 ∨ e = 2 ∨ e = 3 ∨ e = 4) with rfl | rfl | rfl | rfl | rfl <;> exact ⟨True.intro, rfl⟩
    ·(conv => whnf)
     refine ⟨(k + 1 : Nat), [], ?_, ⟨⟨rfl, Nat.le_of_ble_eq_true rfl, rfl⟩, ?_, ?_⟩⟩
     ·exact ⟨show k + 1 ≤ taxes.length by omega, show taxes.length - (k + 1) < taxes.length - k by omega⟩
     ·(conv => whnf)
      (repeat' ((first | with_reducible exact True.intro | ((with_reducible refine And.intro ?_ ?_); focus (first | with_reducible rfl | omega | exact Nat.le_of_ble_eq_true rfl | rfl)) | with_reducible refine And.intro (?_ : leA _ _ _) ?_ | fail) <;> (conv => whnf)))
      all_goals (try simp only [wQ])
      all_goals (try first | omega)
      all_goals (unfold leastT; rw [if_neg (by omega), Nat.add_sub_cancel]; split <;> omega)
     ·(conv => whnf)
      (repeat' ((first | with_reducible exact True.intro | ((with_reducible refine Or.inr ?_); rfl) | ((with_reducible refine And.intro ?_ ?_); focus (first | with_reducible rfl | omega | exact Nat.le_of_ble_eq_true rfl | rfl)) | with_reducible refine And.intro (?_ : leA _ _ _) ?_ | with_reducible refine And.intro (?_ : leL _ _ _) ?_ | with_reducible refine And.intro (?_ : leBlk _ _ _ _) ?_ | fail) <;> (conv => whnf)))
      all_goals (try simp only [wQ])
      all_goals (try first | omega | rfl | exact ⟨fun h => h, fun _ _ => True.intro⟩)
      all_goals (try first | exact fun _ _ => ⟨True.intro, rfl⟩)
      ·intro e he
       refine ⟨?_, rfl⟩
       simp only [mergeL_eq, decide_true, if_true, decide_eq_true_eq]
       by_cases h1 : e = k
       ·subst h1
        simp only [if_pos (show e = 0 + Int.toNat (e : Int) by omega)]
        rw [clrT_at]; simp only [Nat.zero_add, Int.toNat_natCast]; rfl
       ·simp only [if_neg (show ¬ e = 0 + Int.toNat (k : Int) by omega)]
        rw [clrT_ne h1]
      ·rw [ltB_succ (by omega), Bool.eq_iff_iff]
       unfold someB
       simp only [Bool.and_eq_true, numOk_iff, decide_eq_true_eq, selI, decide_true, if_true, fz_ge (Nat.le_refl k), Nat.zero_add, Int.toNat_natCast, true_and, and_assoc, cond_true, cond_false]
      ·intro e he
       rcases (by omega : e = 0 ∨ e = 1 ∨ e = 2 ∨ e = 3 ∨ e = 4) with rfl | rfl | rfl | rfl | rfl <;> exact ⟨True.intro, rfl⟩
    ·refine ⟨((⟨[], 1, 0, ticket, coupon, status, [], [], [], amount, frm, til⟩, ⟨[], 1, 0, 0, 0, 0, [], [], [], 0, 0, 0⟩) : Request × Request), True.intro, ?_, ?_⟩
     ·(conv => whnf)
      (repeat' ((first | with_reducible exact True.intro | ((with_reducible refine And.intro ?_ ?_); focus (first | with_reducible rfl | omega | exact Nat.le_of_ble_eq_true rfl | rfl)) | with_reducible refine And.intro (?_ : leA _ _ _) ?_ | fail) <;> (conv => whnf)))
      all_goals (try simp only [wQ])
     (conv => whnf)
     all_goals (try (show _ = _; simp only [wQ]))
     rw [cond_true, Bool.eq_iff_iff, sameR_iff, may_iff_1]
     rw [hfin (by omega)] at hh
     simp only [Bool.and_eq_true, gP1_iff, Request.mk.injEq, true_and, and_true] at hh ⊢
     exact ⟨fun h => by simp_all, fun h => by simp_all⟩
    ·symm
     refine Bool.eq_false_iff.2 fun hm => ?_
     rw [may_iff_1] at hm
     rw [hfin (by omega)] at hh
     refine absurd hh ?_
     rw [Bool.not_eq_false]
     simp only [Bool.and_eq_true, gP1_iff]
     simp_all
def pcMayB2 : PC := PC.of (fun r : Request => [.agg r.enc]) (fun r => (r.kind = 1) ∧ ¬ r.coupons.length = 0 ∧ r.taxes = [] ∧ shortR r) (fun r => .bool (sB (mayReqB r)))
def LI17_mayB2 : List AV → List Blk → Nat → Option LR := fun cs H i => cond (Nat.beq i 0) (some (.order [0, 1, 2, 3, 4, 5, 6, 7, 8, 9, 10, 11, 12, 13, 14, 15, 16, 17])) ((fun cs H i => cond (Nat.beq i 3) (some (.unroll 1)) none) cs H i)
def I17_mayB2 : List (FuncId × Ctr) := (229, inl TY C16_mayB1 D_mayB1 (fun _ => false) (LI17_mayB2) Tryz.f229) :: I16_mayB1
def C17_mayB2 : FuncId → Option Ctr := tabC D_mayB1 I17_mayB2
theorem c17_mayB2 {W : World} (hW : Tabs W) : CtrOk (Fw W) Tryz.prog C17_mayB2 := tabC_cons Tryz.call229 (good_inl rfl tyOk (d_mayB1 hW) (c16_mayB1 hW) Tryz.func229 (LI17_mayB2)) (c16_mayB1 hW)
def LI18_mayB2 : List AV → List Blk → Nat → Option LR := fun cs H i => cond (Nat.beq i 1) (some (.order [0, 1, 3, 4, 2, 6, 5, 7, 8, 9])) (none)
def I18_mayB2 : List (FuncId × Ctr) := (140, inl TY C17_mayB2 D_mayB1 (fun _ => false) (LI18_mayB2) Tryz.f140) :: I17_mayB2
def C18_mayB2 : FuncId → Option Ctr := tabC D_mayB1 I18_mayB2
theorem c18_mayB2 {W : World} (hW : Tabs W) : CtrOk (Fw W) Tryz.prog C18_mayB2 := tabC_cons Tryz.call140 (good_inl rfl tyOk (d_mayB1 hW) (c17_mayB2 hW) Tryz.func140 (LI18_mayB2)) (c17_mayB2 hW)
def LI19_mayB2 (r : Request) : List AV → List Blk → Nat → Option LR := fun cs H i => cond (Nat.beq i 0) (some (.order [0, 1, 2, 3, 4, 5, 6, 7, 8, 9, 10, 11, 12, 13, 14, 15, 16, 17, 18])) (cond (Nat.beq i 6) (some (.order [0, 1, 2, 3, 4, 5, 6, 7, 8, 9, 10, 11, 12, 13, 14, 15])) ((fun cs H i => cond (Nat.beq i 2) (some (.inv (LCo2 (gP1 r) 12 r cs H))) none) cs H i))
def I19_mayB2 (r : Request) : List (FuncId × Ctr) := (277, inl TY (C18_mayB2) D_mayB1 (fun _ => false) (LI19_mayB2 r) Tryz.f277) :: I18_mayB2
def C19_mayB2 (r : Request) : FuncId → Option Ctr := tabC D_mayB1 (I19_mayB2 r)
def I20_mayB2 (r : Request) : List (FuncId × Ctr) := (228, inl TY (C19_mayB2 r) D_mayB1 (fun _ => false) (fun _ _ _ => none) Tryz.f228) :: I19_mayB2 r
def C20_mayB2 (r : Request) : FuncId → Option Ctr := tabC D_mayB1 (I20_mayB2 r)
def I21_mayB2 (r : Request) : List (FuncId × Ctr) := (234, inl TY (C20_mayB2 r) D_mayB1 (fun _ => false) (fun _ _ _ => none) Tryz.f234) :: I20_mayB2 r
def C21_mayB2 (r : Request) : FuncId → Option Ctr := tabC D_mayB1 (I21_mayB2 r)
def I22_mayB2 (r : Request) : List (FuncId × Ctr) := (164, inl TY (C21_mayB2 r) D_mayB1 (fun _ => false) (fun _ _ _ => none) Tryz.f164) :: I21_mayB2 r
def C22_mayB2 (r : Request) : FuncId → Option Ctr := tabC D_mayB1 (I22_mayB2 r)
def LI23_mayB2 (r : Request) : List AV → List Blk → Nat → Option LR := fun _ _ i => cond (Nat.beq i 2) (some (.unroll 7)) none
def I23_mayB2 (r : Request) : List (FuncId × Ctr) := (141, inl TY (C22_mayB2 r) D_mayB1 (fun _ => false) (LI23_mayB2 r) Tryz.f141) :: I22_mayB2 r
def C23_mayB2 (r : Request) : FuncId → Option Ctr := tabC D_mayB1 (I23_mayB2 r)
set_option maxHeartbeats 4000000 in
theorem g_mayB2 {W : World} (hW : Tabs W) : GoodP (Fw W) Tryz.prog 71 pcMayB2 := by
 have hD := d_mayB1 hW
 have hC18 : ∀ r : Request, CtrOk (Fw W) Tryz.prog C18_mayB2 := fun r => (c18_mayB2 hW)
 have hC19 : ∀ r : Request, CtrOk (Fw W) Tryz.prog (C19_mayB2 r) := fun r => tabC_cons Tryz.call277 (good_inl rfl tyOk hD (hC18 r) Tryz.func277 (LI19_mayB2 r)) (hC18 r)
 have hC20 : ∀ r : Request, CtrOk (Fw W) Tryz.prog (C20_mayB2 r) := fun r => tabC_cons Tryz.call228 (good_inl rfl tyOk hD (hC19 r) Tryz.func228 (fun _ _ _ => none)) (hC19 r)
 have hC21 : ∀ r : Request, CtrOk (Fw W) Tryz.prog (C21_mayB2 r) := fun r => tabC_cons Tryz.call234 (good_inl rfl tyOk hD (hC20 r) Tryz.func234 (fun _ _ _ => none)) (hC20 r)
 have hC22 : ∀ r : Request, CtrOk (Fw W) Tryz.prog (C22_mayB2 r) := fun r => tabC_cons Tryz.call164 (good_inl rfl tyOk hD (hC21 r) Tryz.func164 (fun _ _ _ => none)) (hC21 r)
 have hC23 : ∀ r : Request, CtrOk (Fw W) Tryz.prog (C23_mayB2 r) := fun r => tabC_cons Tryz.call141 (good_inl rfl tyOk hD (hC22 r) Tryz.func141 (LI23_mayB2 r)) (hC22 r)
 refine goodP_ofC (D := D_mayB1) (C := fun r => C23_mayB2 r) (wr := (fun _ => false)) rfl tyOk hD hC23 Tryz.func71 (fun _ _ => none) (fun _ => rfl) ?_
 rintro ⟨key, kind, day, ticket, coupon, status, locator, coupons, taxes, amount, frm, til⟩ hf hp
 have hft : factL [slE 2 Tax.enc taxes] := ⟨hf.1.2.2.2.2.2.2.2.2.1, True.intro⟩
 clear hf
 obtain ⟨hk, hcn, htn, hp1, hp2⟩ := hp
 dsimp only at hk hcn htn hp1 hp2
 subst htn
 rcases hk with rfl
 have hex : ¬ nameQ 1 = [] := by rw [nameQ_at (by decide)]; decide
 have hca : ¬ 0 + coupons.length ≤ 0 := by omega
 (conv => whnf)
 (repeat' ((first
  | (with_reducible refine inl_intro ?_)
  | (exact absurd (by with_reducible assumption) hex)
  | (exact absurd (by with_reducible assumption) hcn)
  | (exact absurd (by with_reducible assumption) hca)
  | with_reducible refine And.intro (?_ : opQ _ _ _ _ _ _) ?_
  | ((with_reducible refine And.intro ?_ ?_); focus (first | with_reducible exact True.intro | ((with_reducible show okQ _ _ = true); rfl) | (simp only [growOk, ty2, ty3, ty4, ty5, ty9, ty21, ty37, ty42, ty43, ty45, ty47, ty67, ty95, ty105, ty113, ty150, ty161, ty198, ty242, ty275]; first | omega | (refine ⟨?_, ?_⟩ <;> omega))))
  | (split <;> rename_i hh <;> (try simp only [wS] at hh) <;> (try simp (disch := omega) only [wT] at hh))
  | fail) <;> (conv => whnf)))
 all_goals (try (show _ = _; simp only [wQ]))
 refine ⟨([] : List Tax), Nat.zero_le _, ?_, ?_⟩
 ·exact leL_rfl _
 (conv => whnf)
 (repeat' ((first
  | (with_reducible refine inl_intro ?_)
  | ((with_reducible apply inlC_weigh'); (focus rfl); (focus rfl))
  | ((with_reducible apply inlC_number'); (focus rfl); (focus rfl); (focus rfl))
  | ((refine ⟨rfl, _, ?_, rfl⟩); (try simp only [sB_eq, sI_eq, eqI_eq, cond_true, cond_false, Bool.true_and, Bool.and_false, Bool.false_and, List.length_nil]) <;> first | rfl | exact numOk_lo (by omega) | exact numOk_hi (by omega) | exact numOk_in (by omega) | (rename_i hh; (try simp only [List.length_nil] at hh); first | (rw [hh]; first | rfl | (simp; done)) | (rw [hh.1, hh.2]; first | rfl | (simp; done)) | (simp [hh]; done) | (rcases hh with hh | hh <;> first | (rw [hh]; first | rfl | (simp; done)) | (simp [hh]; done))))
  | with_reducible refine And.intro (?_ : opQ _ _ _ _ _ _) ?_
  | ((with_reducible refine And.intro ?_ ?_); focus (first | with_reducible exact True.intro | ((with_reducible show okB _ _ _ = true); rfl) | ((with_reducible show okQ _ _ = true); rfl) | omega | (simp only [inK_def, Go.Vc.lo, Go.Vc.hi]; omega)))
  | (split <;> rename_i hh <;> (try simp only [wS] at hh) <;> (try simp (disch := omega) only [wT] at hh))
  | with_reducible refine (fun (hln : (_ : Int) ≤ 9223372036854775807) => ?_)
  | fail) <;> (conv => whnf)))
 all_goals (try (show _ = _; simp only [wQ]))
 refine ⟨?_, fun (i : Nat) (hi : i ≤ coupons.length) => ?_⟩
 ·(conv => whnf)
  refine ⟨(0 : Nat), [], ?_, ⟨⟨rfl, Nat.le_of_ble_eq_true rfl, rfl⟩, ?_, ?_⟩⟩
  ·exact Nat.zero_le _
  ·(conv => whnf)
   (repeat' ((first | with_reducible exact True.intro | ((with_reducible refine And.intro ?_ ?_); focus (first | with_reducible rfl | omega | exact Nat.le_of_ble_eq_true rfl | rfl)) | with_reducible refine And.intro (?_ : leA _ _ _) ?_ | fail) <;> (conv => whnf)))
   all_goals (try simp only [wQ])
   all_goals (try first | omega)
  ·(conv => whnf)
   (repeat' ((first | with_reducible exact True.intro | ((with_reducible refine Or.inr ?_); rfl) | ((with_reducible refine And.intro ?_ ?_); focus (first | with_reducible rfl | omega | exact Nat.le_of_ble_eq_true rfl | rfl)) | with_reducible refine And.intro (?_ : leA _ _ _) ?_ | with_reducible refine And.intro (?_ : leL _ _ _) ?_ | with_reducible refine And.intro (?_ : leBlk _ _ _ _) ?_ | fail) <;> (conv => whnf)))
   all_goals (try simp only [wQ])
   all_goals (try first | omega | rfl | exact ⟨fun h => h, fun _ _ => True.intro⟩)
   ·intro e he
    refine ⟨?_, rfl⟩
    show catRow 0 _ _ e = _
    unfold catRow
    rw [if_neg (by omega), Nat.sub_zero]
    simp only [clrC, fz_zero]
   ·rw [lcB_zero, Nat.zero_add]; unfold gP1; rfl
   ·intro e he
    rcases (by omega : e = 0 ∨ e = 1 ∨ e = 2 ∨ e = 3 ∨ e = 4) with rfl | rfl | rfl | rfl | rfl <;> exact ⟨True.intro, rfl⟩
 ·(conv => whnf)
  (repeat' ((first
   | (with_reducible refine inl_intro ?_)
   | ((with_reducible apply inlC_weigh'); (focus rfl); (focus rfl))
   | ((with_reducible apply inlC_number'); (focus rfl); (focus rfl); (focus rfl))
   | ((with_reducible apply inlC_numberE'); (focus rfl); (focus rfl); (focus rfl))
   | (refine optP_coupon ?_)
   | ((refine ⟨rfl, _, ?_, rfl⟩); (try simp only [sB_eq, sI_eq, eqI_eq, cond_true, cond_false, Bool.true_and, Bool.and_false, Bool.false_and, List.length_nil]) <;> first | rfl | exact numOk_lo (by omega) | exact numOk_hi (by omega) | exact numOk_in (by omega) | (rename_i hh; (try simp only [List.length_nil] at hh); first | (rw [hh]; first | rfl | (simp; done)) | (rw [hh.1, hh.2]; first | rfl | (simp; done)) | (simp [hh]; done) | (rcases hh with hh | hh <;> first | (rw [hh]; first | rfl | (simp; done)) | (simp [hh]; done))))
   | with_reducible refine And.intro (?_ : opQ _ _ _ _ _ _) ?_
   | ((with_reducible refine And.intro ?_ ?_); focus (first | ((with_reducible show okQ _ _ = true); rfl) | omega | (simp only [inK_def, Go.Vc.lo, Go.Vc.hi]; omega)))
   | (split <;> rename_i hh <;> (try simp only [wS] at hh) <;> (try simp (disch := omega) only [wT] at hh))
   | with_reducible refine (fun (hln : (_ : Int) ≤ 9223372036854775807) => ?_)
   | fail) <;> (conv => whnf)))
  all_goals (try (show _ = _; simp only [wQ]))
  ·(conv => whnf)
   refine ⟨(i + 1 : Nat), [], ?_, ⟨⟨rfl, Nat.le_of_ble_eq_true rfl, rfl⟩, ?_, ?_⟩⟩
   ·exact ⟨show i + 1 ≤ coupons.length by omega, show coupons.length - (i + 1) < coupons.length - i by omega⟩
   ·(conv => whnf)
    (repeat' ((first | with_reducible exact True.intro | ((with_reducible refine And.intro ?_ ?_); focus (first | with_reducible rfl | omega | exact Nat.le_of_ble_eq_true rfl | rfl)) | with_reducible refine And.intro (?_ : leA _ _ _) ?_ | fail) <;> (conv => whnf)))
    all_goals (try simp only [wQ])
    all_goals (try first | omega)
   ·(conv => whnf)
    (repeat' ((first | with_reducible exact True.intro | ((with_reducible refine Or.inr ?_); rfl) | ((with_reducible refine And.intro ?_ ?_); focus (first | with_reducible rfl | omega | exact Nat.le_of_ble_eq_true rfl | rfl)) | with_reducible refine And.intro (?_ : leA _ _ _) ?_ | with_reducible refine And.intro (?_ : leL _ _ _) ?_ | with_reducible refine And.intro (?_ : leBlk _ _ _ _) ?_ | fail) <;> (conv => whnf)))
    all_goals (try simp only [wQ])
    all_goals (try first | omega | rfl | exact ⟨fun h => h, fun _ _ => True.intro⟩)
    ·intro e he
     refine ⟨?_, rfl⟩
     simp only [mergeL_eq, decide_true, if_true, decide_eq_true_eq]
     by_cases h1 : e = i
     ·subst h1
      simp only [if_pos (show e = 0 + Int.toNat (e : Int) by omega)]
      rw [clrC_at]; simp only [Nat.zero_add, Int.toNat_natCast]; rfl
     ·simp only [if_neg (show ¬ e = 0 + Int.toNat (i : Int) by omega)]
      rw [clrC_ne h1]
    ·rw [lcB_succ (by omega), Bool.eq_iff_iff]
     simp only [Bool.and_eq_true, numOk_iff, plainB_iff, beq_iff_eq, selI, decide_true, if_true, fz_ge (Nat.le_refl i), Nat.zero_add, Int.toNat_natCast, true_and, and_assoc, cond_true, cond_false]
    ·intro e he
     rcases (by omega : e = 0 ∨ e = 1 ∨ e = 2 ∨ e = 3 ∨ e = 4) with rfl | rfl | rfl | rfl | rfl <;> exact ⟨True.intro, rfl⟩
  ·obtain rfl : i = coupons.length := by omega
   have hfin : numOk (lcB (gP1 ⟨key, 1, day, ticket, coupon, status, locator, coupons, [], amount, frm, til⟩) 12 coupons coupons.length) 0 ([] : List Tax).length 4 = (gP1 ⟨key, 1, day, ticket, coupon, status, locator, coupons, [], amount, frm, til⟩ && coupB 12 coupons && taxesB []) := by
    rw [lcB_full, taxesB_nil, Bool.and_true, Bool.eq_iff_iff]; simp [numOk_iff]
   refine ⟨((⟨[], 1, 0, ticket, coupon, status, [], [], [], amount, frm, til⟩, ⟨[], 1, 0, 0, 0, 0, [], [], [], 0, 0, 0⟩) : Request × Request), True.intro, ?_, ?_⟩
   ·(conv => whnf)
    (repeat' ((first | with_reducible exact True.intro | ((with_reducible refine And.intro ?_ ?_); focus (first | with_reducible rfl | omega | exact Nat.le_of_ble_eq_true rfl | rfl)) | with_reducible refine And.intro (?_ : leA _ _ _) ?_ | fail) <;> (conv => whnf)))
    all_goals (try simp only [wQ])
   (conv => whnf)
   all_goals (try (show _ = _; simp only [wQ]))
   rw [cond_true, Bool.eq_iff_iff, sameR_iff, may_iff_1]
   rw [hfin] at hh
   simp only [Bool.and_eq_true, gP1_iff, Request.mk.injEq, true_and, and_true] at hh ⊢
   exact ⟨fun h => by simp_all, fun h => by simp_all⟩
  ·obtain rfl : i = coupons.length := by omega
   have hfin : numOk (lcB (gP1 ⟨key, 1, day, ticket, coupon, status, locator, coupons, [], amount, frm, til⟩) 12 coupons coupons.length) 0 ([] : List Tax).length 4 = (gP1 ⟨key, 1, day, ticket, coupon, status, locator, coupons, [], amount, frm, til⟩ && coupB 12 coupons && taxesB []) := by
    rw [lcB_full, taxesB_nil, Bool.and_true, Bool.eq_iff_iff]; simp [numOk_iff]
   symm
   refine Bool.eq_false_iff.2 fun hm => ?_
   rw [may_iff_1] at hm
   rw [hfin] at hh
   refine absurd hh ?_
   rw [Bool.not_eq_false]
   simp only [Bool.and_eq_true, gP1_iff]
   simp_all
def pcMayB3 : PC := PC.of (fun r : Request => [.agg r.enc]) (fun r => (r.kind = 1) ∧ r.coupons = [] ∧ ¬ r.taxes.length = 0 ∧ shortR r) (fun r => .bool (sB (mayReqB r)))
def I16_mayB3 : List (FuncId × Ctr) := (212, inl TY C15_mayB1 D_mayB1 (fun _ => false) (fun _ _ _ => none) Tryz.f212) :: I15_mayB1
def C16_mayB3 : FuncId → Option Ctr := tabC D_mayB1 I16_mayB3
theorem c16_mayB3 {W : World} (hW : Tabs W) : CtrOk (Fw W) Tryz.prog C16_mayB3 := tabC_cons Tryz.call212 (good_inl rfl tyOk (d_mayB1 hW) (c15_mayB1 hW) Tryz.func212 (fun _ _ _ => none)) (c15_mayB1 hW)
def LI17_mayB3 : List AV → List Blk → Nat → Option LR := fun cs H i => cond (Nat.beq i 0) (some (.order [0, 1, 2, 3, 4, 5, 6, 7, 8, 9, 10, 11, 12, 13, 14, 15, 16, 17, 18])) (cond (Nat.beq i 6) (some (.order [0, 1, 2, 3, 4, 5, 6, 7, 8, 9, 10, 11, 12, 13, 14, 15])) ((fun cs H i => cond (Nat.beq i 2) (some (.unroll 1)) none) cs H i))
def I17_mayB3 : List (FuncId × Ctr) := (277, inl TY C16_mayB3 D_mayB1 (fun _ => false) (LI17_mayB3) Tryz.f277) :: I16_mayB3
def C17_mayB3 : FuncId → Option Ctr := tabC D_mayB1 I17_mayB3
theorem c17_mayB3 {W : World} (hW : Tabs W) : CtrOk (Fw W) Tryz.prog C17_mayB3 := tabC_cons Tryz.call277 (good_inl rfl tyOk (d_mayB1 hW) (c16_mayB3 hW) Tryz.func277 (LI17_mayB3)) (c16_mayB3 hW)
def I18_mayB3 : List (FuncId × Ctr) := (228, inl TY C17_mayB3 D_mayB1 (fun _ => false) (fun _ _ _ => none) Tryz.f228) :: I17_mayB3
def C18_mayB3 : FuncId → Option Ctr := tabC D_mayB1 I18_mayB3
theorem c18_mayB3 {W : World} (hW : Tabs W) : CtrOk (Fw W) Tryz.prog C18_mayB3 := tabC_cons Tryz.call228 (good_inl rfl tyOk (d_mayB1 hW) (c17_mayB3 hW) Tryz.func228 (fun _ _ _ => none)) (c17_mayB3 hW)
def I19_mayB3 : List (FuncId × Ctr) := (234, inl TY C18_mayB3 D_mayB1 (fun _ => false) (fun _ _ _ => none) Tryz.f234) :: I18_mayB3
def C19_mayB3 : FuncId → Option Ctr := tabC D_mayB1 I19_mayB3
theorem c19_mayB3 {W : World} (hW : Tabs W) : CtrOk (Fw W) Tryz.prog C19_mayB3 := tabC_cons Tryz.call234 (good_inl rfl tyOk (d_mayB1 hW) (c18_mayB3 hW) Tryz.func234 (fun _ _ _ => none)) (c18_mayB3 hW)
def LI20_mayB3 : List AV → List Blk → Nat → Option LR := fun cs H i => cond (Nat.beq i 1) (some (.order [0, 1, 3, 4, 2, 6, 5, 7, 8, 9])) (none)
def I20_mayB3 : List (FuncId × Ctr) := (140, inl TY C19_mayB3 D_mayB1 (fun _ => false) (LI20_mayB3) Tryz.f140) :: I19_mayB3
def C20_mayB3 : FuncId → Option Ctr := tabC D_mayB1 I20_mayB3
theorem c20_mayB3 {W : World} (hW : Tabs W) : CtrOk (Fw W) Tryz.prog C20_mayB3 := tabC_cons Tryz.call140 (good_inl rfl tyOk (d_mayB1 hW) (c19_mayB3 hW) Tryz.func140 (LI20_mayB3)) (c19_mayB3 hW)
def LI21_mayB3 (r : Request) : List AV → List Blk → Nat → Option LR := fun cs H i => cond (Nat.beq i 0) (some (.order [0, 1, 2, 3, 4, 5, 6, 7, 8, 9, 10, 11, 12, 13, 14, 15, 16, 17])) ((fun cs H i => cond (Nat.beq i 3) (some (.inv (LTx2 (numOk (gP1 r) 1 0 12) r cs H))) none) cs H i)
def I21_mayB3 (r : Request) : List (FuncId × Ctr) := (229, inl TY (C20_mayB3) D_mayB1 (fun _ => false) (LI21_mayB3 r) Tryz.f229) :: I20_mayB3
def C21_mayB3 (r : Request) : FuncId → Option Ctr := tabC D_mayB1 (I21_mayB3 r)
def I22_mayB3 (r : Request) : List (FuncId × Ctr) := (164, inl TY (C21_mayB3 r) D_mayB1 (fun _ => false) (fun _ _ _ => none) Tryz.f164) :: I21_mayB3 r
def C22_mayB3 (r : Request) : FuncId → Option Ctr := tabC D_mayB1 (I22_mayB3 r)
def LI23_mayB3 (r : Request) : List AV → List Blk → Nat → Option LR := fun _ _ i => cond (Nat.beq i 2) (some (.unroll 7)) none
def I23_mayB3 (r : Request) : List (FuncId × Ctr) := (141, inl TY (C22_mayB3 r) D_mayB1 (fun _ => false) (LI23_mayB3 r) Tryz.f141) :: I22_mayB3 r
def C23_mayB3 (r : Request) : FuncId → Option Ctr := tabC D_mayB1 (I23_mayB3 r)
set_option maxHeartbeats 4000000 in
theorem g_mayB3 {W : World} (hW : Tabs W) : GoodP (Fw W) Tryz.prog 71 pcMayB3 := by
 have hD := d_mayB1 hW
 have hC20 : ∀ r : Request, CtrOk (Fw W) Tryz.prog C20_mayB3 := fun r => (c20_mayB3 hW)
 have hC21 : ∀ r : Request, CtrOk (Fw W) Tryz.prog (C21_mayB3 r) := fun r => tabC_cons Tryz.call229 (good_inl rfl tyOk hD (hC20 r) Tryz.func229 (LI21_mayB3 r)) (hC20 r)
 have hC22 : ∀ r : Request, CtrOk (Fw W) Tryz.prog (C22_mayB3 r) := fun r => tabC_cons Tryz.call164 (good_inl rfl tyOk hD (hC21 r) Tryz.func164 (fun _ _ _ => none)) (hC21 r)
 have hC23 : ∀ r : Request, CtrOk (Fw W) Tryz.prog (C23_mayB3 r) := fun r => tabC_cons Tryz.call141 (good_inl rfl tyOk hD (hC22 r) Tryz.func141 (LI23_mayB3 r)) (hC22 r)
 refine goodP_ofC (D := D_mayB1) (C := fun r => C23_mayB3 r) (wr := (fun _ => false)) rfl tyOk hD hC23 Tryz.func71 (fun _ _ => none) (fun _ => rfl) ?_
 rintro ⟨key, kind, day, ticket, coupon, status, locator, coupons, taxes, amount, frm, til⟩ hf hp
 have hft : factL [slE 2 Tax.enc taxes] := ⟨hf.1.2.2.2.2.2.2.2.2.1, True.intro⟩
 clear hf
 obtain ⟨hk, hcn, htn, hp1, hp2⟩ := hp
 dsimp only at hk hcn htn hp1 hp2
 subst hcn
 rcases hk with rfl
 have hex : ¬ nameQ 1 = [] := by rw [nameQ_at (by decide)]; decide
 have hta : ¬ 0 + taxes.length ≤ 0 := by omega
 (conv => whnf)
 (repeat' ((first
  | (with_reducible refine inl_intro ?_)
  | (exact absurd (by with_reducible assumption) hex)
  | ((with_reducible refine And.intro ?_ ?_); focus (first | with_reducible exact True.intro | ((with_reducible show okQ _ _ = true); rfl)))
  | (split <;> rename_i hh <;> (try simp only [wS] at hh) <;> (try simp (disch := omega) only [wT] at hh))
  | fail) <;> (conv => whnf)))
 all_goals (try (show _ = _; simp only [wQ]))
 refine ⟨([] : List Coupon), Nat.zero_le _, ?_, ?_⟩
 ·exact leL_rfl _
 (conv => whnf)
 (repeat' ((first
  | (with_reducible refine inl_intro ?_)
  | (exact absurd (by with_reducible assumption) htn)
  | (exact absurd (by with_reducible assumption) hta)
  | ((with_reducible apply inlC_weigh'); (focus rfl); (focus rfl))
  | ((with_reducible apply inlC_number'); (focus rfl); (focus rfl); (focus rfl))
  | ((refine ⟨rfl, _, ?_, rfl⟩); (try simp only [sB_eq, sI_eq, eqI_eq, cond_true, cond_false, Bool.true_and, Bool.and_false, Bool.false_and, List.length_nil]) <;> first | rfl | exact numOk_lo (by omega) | exact numOk_hi (by omega) | exact numOk_in (by omega) | (rename_i hh; (try simp only [List.length_nil] at hh); first | (rw [hh]; first | rfl | (simp; done)) | (rw [hh.1, hh.2]; first | rfl | (simp; done)) | (simp [hh]; done) | (rcases hh with hh | hh <;> first | (rw [hh]; first | rfl | (simp; done)) | (simp [hh]; done))))
  | with_reducible refine And.intro (?_ : opQ _ _ _ _ _ _) ?_
  | ((with_reducible refine And.intro ?_ ?_); focus (first | with_reducible exact True.intro | ((with_reducible show okB _ _ _ = true); rfl) | ((with_reducible show okQ _ _ = true); rfl) | omega | (simp only [inK_def, Go.Vc.lo, Go.Vc.hi]; omega) | (simp only [growOk, ty2, ty3, ty4, ty5, ty9, ty21, ty37, ty42, ty43, ty45, ty47, ty67, ty95, ty105, ty113, ty150, ty161, ty198, ty242, ty275]; first | omega | (refine ⟨?_, ?_⟩ <;> omega))))
  | (split <;> rename_i hh <;> (try simp only [wS] at hh) <;> (try simp (disch := omega) only [wT] at hh))
  | with_reducible refine (fun (hln : (_ : Int) ≤ 9223372036854775807) => ?_)
  | fail) <;> (conv => whnf)))
 all_goals (try (show _ = _; simp only [wQ]))
 refine ⟨?_, fun (k : Nat) (hk : k ≤ taxes.length) => ?_⟩
 ·(conv => whnf)
  refine ⟨(0 : Nat), [], ?_, ⟨⟨rfl, Nat.le_of_ble_eq_true rfl, rfl⟩, ?_, ?_⟩⟩
  ·exact Nat.zero_le _
  ·(conv => whnf)
   (repeat' ((first | with_reducible exact True.intro | ((with_reducible refine And.intro ?_ ?_); focus (first | with_reducible rfl | omega | exact Nat.le_of_ble_eq_true rfl | rfl)) | with_reducible refine And.intro (?_ : leA _ _ _) ?_ | fail) <;> (conv => whnf)))
   all_goals (try simp only [wQ])
   all_goals (try first | omega)
   all_goals exact (leastT_zero _).symm
  ·(conv => whnf)
   (repeat' ((first | with_reducible exact True.intro | ((with_reducible refine Or.inr ?_); rfl) | ((with_reducible refine And.intro ?_ ?_); focus (first | with_reducible rfl | omega | exact Nat.le_of_ble_eq_true rfl | rfl)) | with_reducible refine And.intro (?_ : leA _ _ _) ?_ | with_reducible refine And.intro (?_ : leL _ _ _) ?_ | with_reducible refine And.intro (?_ : leBlk _ _ _ _) ?_ | fail) <;> (conv => whnf)))
   all_goals (try simp only [wQ])
   all_goals (try first | omega | rfl | exact ⟨fun h => h, fun _ _ => True.intro⟩)
   ·intro e he
    refine ⟨?_, rfl⟩
    show catRow 0 _ _ e = _
    unfold catRow
    rw [if_neg (by omega), Nat.sub_zero]
    simp only [clrT, fz_zero]
   ·rw [ltB_zero, Nat.zero_add]; unfold gP1; rfl
   ·intro e he
    rcases (by omega : e = 0 ∨ e = 1 ∨ e = 2 ∨ e = 3 ∨ e = 4) with rfl | rfl | rfl | rfl | rfl <;> exact ⟨True.intro, rfl⟩
 ·have hfin : taxes.length ≤ k → ltB (numOk (gP1 ⟨key, 1, day, ticket, coupon, status, locator, [], taxes, amount, frm, til⟩) 1 0 12) taxes k = ((numOk (gP1 ⟨key, 1, day, ticket, coupon, status, locator, [], taxes, amount, frm, til⟩) 1 0 12) && taxesB taxes) := fun h => by
   obtain rfl : k = taxes.length := by omega
   rw [ltB_full]
  have hcode : k < taxes.length → -9223372036854775808 ≤ fz k (0 + Int.toNat (k : Int)) (taxes.getD (0 + Int.toNat (k : Int)) default).code := fun h => by
   rw [fz_ge (by omega), Nat.zero_add]; exact tax_code hft h
  have hfz : fz k (0 + Int.toNat (k : Int)) (taxes.getD (0 + Int.toNat (k : Int)) default).code = (taxes.getD k default).code := by
   rw [fz_ge (by omega), Nat.zero_add]; rfl
  (conv => whnf)
  (repeat' ((first
   | (with_reducible refine inl_intro ?_)
   | (exact absurd (by with_reducible assumption) Bool.false_ne_true)
   | ((with_reducible apply inlC_weigh'); (focus rfl); (focus rfl))
   | ((with_reducible apply inlC_number'); (focus rfl); (focus rfl); (focus rfl))
   | ((with_reducible apply inlC_numberE'); (focus rfl); (focus rfl); (focus rfl))
   | ((refine ⟨rfl, _, ?_, rfl⟩); (try simp only [sB_eq, sI_eq, eqI_eq, cond_true, cond_false, Bool.true_and, Bool.and_false, Bool.false_and, List.length_nil]) <;> first | rfl | exact numOk_lo (by omega) | exact numOk_hi (by omega) | exact numOk_in (by omega) | (rename_i hh; (try simp only [List.length_nil] at hh); first | (rw [hh]; first | rfl | (simp; done)) | (rw [hh.1, hh.2]; first | rfl | (simp; done)) | (simp [hh]; done) | (rcases hh with hh | hh <;> first | (rw [hh]; first | rfl | (simp; done)) | (simp [hh]; done))))
   | ((with_reducible refine And.intro ?_ ?_); focus (first | ((with_reducible show okB _ _ _ = true); rfl) | (simp only [inK_def, Go.Vc.lo, Go.Vc.hi]; omega)))
   | (split <;> rename_i hh <;> (try simp only [wS] at hh) <;> (try simp (disch := omega) only [wT] at hh))
   | fail) <;> (conv => whnf)))
  all_goals (try (show _ = _; simp only [wQ]))
  ·(conv => whnf)
   refine ⟨(k + 1 : Nat), [], ?_, ⟨⟨rfl, Nat.le_of_ble_eq_true rfl, rfl⟩, ?_, ?_⟩⟩
   ·exact ⟨show k + 1 ≤ taxes.length by omega, show taxes.length - (k + 1) < taxes.length - k by omega⟩
   ·(conv => whnf)
    (repeat' ((first | with_reducible exact True.intro | ((with_reducible refine And.intro ?_ ?_); focus (first | with_reducible rfl | omega | exact Nat.le_of_ble_eq_true rfl | rfl)) | with_reducible refine And.intro (?_ : leA _ _ _) ?_ | fail) <;> (conv => whnf)))
    all_goals (try simp only [wQ])
    all_goals (try first | omega)
    all_goals (unfold leastT; rw [if_neg (by omega), Nat.add_sub_cancel]; split <;> omega)
   ·(conv => whnf)
    (repeat' ((first | with_reducible exact True.intro | ((with_reducible refine Or.inr ?_); rfl) | ((with_reducible refine And.intro ?_ ?_); focus (first | with_reducible rfl | omega | exact Nat.le_of_ble_eq_true rfl | rfl)) | with_reducible refine And.intro (?_ : leA _ _ _) ?_ | with_reducible refine And.intro (?_ : leL _ _ _) ?_ | with_reducible refine And.intro (?_ : leBlk _ _ _ _) ?_ | fail) <;> (conv => whnf)))
    all_goals (try simp only [wQ])
    all_goals (try first | omega | rfl | exact ⟨fun h => h, fun _ _ => True.intro⟩)
    ·intro e he
     refine ⟨?_, rfl⟩
     simp only [mergeL_eq, decide_true, if_true, decide_eq_true_eq]
     by_cases h1 : e = k
     ·subst h1
      simp only [if_pos (show e = 0 + Int.toNat (e : Int) by omega)]
      rw [clrT_at]; simp only [Nat.zero_add, Int.toNat_natCast]; rfl
     ·simp only [if_neg (show ¬ e = 0 + Int.toNat (k : Int) by omega)]
      rw [clrT_ne h1]
    ·rw [ltB_succ (by omega), Bool.eq_iff_iff]
     unfold someB
     simp only [Bool.and_eq_true, numOk_iff, decide_eq_true_eq, selI, decide_true, if_true, fz_ge (Nat.le_refl k), Nat.zero_add, Int.toNat_natCast, true_and, and_assoc, cond_true, cond_false]
    ·intro e he
     rcases (by omega : e = 0 ∨ e = 1 ∨ e = 2 ∨ e = 3 ∨ e = 4) with rfl | rfl | rfl | rfl | rfl <;> exact ⟨True.intro, rfl⟩
  ·(conv => whnf)
   refine ⟨(k + 1 : Nat), [], ?_, ⟨⟨rfl, Nat.le_of_ble_eq_true rfl, rfl⟩, ?_, ?_⟩⟩
   ·exact ⟨show k + 1 ≤ taxes.length by omega, show taxes.length - (k + 1) < taxes.length - k by omega⟩
   ·(conv => whnf)
    (repeat' ((first | with_reducible exact True.intro | ((with_reducible refine And.intro ?_ ?_); focus (first | with_reducible rfl | omega | exact Nat.le_of_ble_eq_true rfl | rfl)) | with_reducible refine And.intro (?_ : leA _ _ _) ?_ | fail) <;> (conv => whnf)))
    all_goals (try simp only [wQ])
    all_goals (try first | omega)
    all_goals (unfold leastT; rw [if_neg (by omega), Nat.add_sub_cancel]; split <;> omega)
   ·(conv => whnf)
    (repeat' ((first | with_reducible exact True.intro | ((with_reducible refine Or.inr ?_); rfl) | ((with_reducible refine And.intro ?_ ?_); focus (first | with_reducible rfl | omega | exact Nat.le_of_ble_eq_true rfl | rfl)) | with_reducible refine And.intro (?_ : leA _ _ _) ?_ | with_reducible refine And.intro (?_ : leL _ _ _) ?_ | with_reducible refine And.intro (?_ : leBlk _ _ _ _) ?_ | fail) <;> (conv => whnf)))
    all_goals (try simp only [wQ])
    all_goals (try first | omega | rfl | exact ⟨fun h => h, fun _ _ => True.intro⟩)
    ·intro e he
     refine ⟨?_, rfl⟩
     simp only [mergeL_eq, decide_true, if_true, decide_eq_true_eq]
     by_cases h1 : e = k
     ·subst h1
      simp only [if_pos (show e = 0 + Int.toNat (e : Int) by omega)]
      rw [clrT_at]; simp only [Nat.zero_add, Int.toNat_natCast]; rfl
     ·simp only [if_neg (show ¬ e = 0 + Int.toNat (k : Int) by omega)]
      rw [clrT_ne h1]
    ·rw [ltB_succ (by omega), Bool.eq_iff_iff]
     unfold someB
     simp only [Bool.and_eq_true, numOk_iff, decide_eq_true_eq, selI, decide_true, if_true, fz_ge (Nat.le_refl k), Nat.zero_add, Int.toNat_natCast, true_and, and_assoc, cond_true, cond_false]
    ·intro e he
     rcases (by omega : e = 0 ∨ e = 1 ∨ e = 2 ∨ e = 3 ∨ e = 4) with rfl | rfl | rfl | rfl | rfl <;> exact ⟨True.intro, rfl⟩
  ·exfalso
   rw [hfin (by omega)] at hh
   simp only [Bool.and_eq_true, numOk_iff, List.length_nil] at hh
   omega
  ·symm
   refine Bool.eq_false_iff.2 fun hm => ?_
   rw [may_iff_1] at hm
   exact coupB_nil (m := 12) (by simp only [hm])
def pcMayB4 : PC := PC.of (fun r : Request => [.agg r.enc]) (fun r => (r.kind = 1) ∧ r.coupons = [] ∧ r.taxes = [] ∧ shortR r) (fun r => .bool (sB (mayReqB r)))
def I16_mayB4 : List (FuncId × Ctr) := (140, inl TY C15_mayB1 D_mayB1 (fun _ => false) (fun _ _ _ => none) Tryz.f140) :: I15_mayB1
def C16_mayB4 : FuncId → Option Ctr := tabC D_mayB1 I16_mayB4
theorem c16_mayB4 {W : World} (hW : Tabs W) : CtrOk (Fw W) Tryz.prog C16_mayB4 := tabC_cons Tryz.call140 (good_inl rfl tyOk (d_mayB1 hW) (c15_mayB1 hW) Tryz.func140 (fun _ _ _ => none)) (c15_mayB1 hW)
def LI17_mayB4 : List AV → List Blk → Nat → Option LR := fun cs H i => cond (Nat.beq i 0) (some (.order [0, 1, 2, 3, 4, 5, 6, 7, 8, 9, 10, 11, 12, 13, 14, 15, 16, 17, 18])) (cond (Nat.beq i 6) (some (.order [0, 1, 2, 3, 4, 5, 6, 7, 8, 9, 10, 11, 12, 13, 14, 15])) ((fun cs H i => cond (Nat.beq i 2) (some (.unroll 1)) none) cs H i))
def I17_mayB4 : List (FuncId × Ctr) := (277, inl TY C16_mayB4 D_mayB1 (fun _ => false) (LI17_mayB4) Tryz.f277) :: I16_mayB4
def C17_mayB4 : FuncId → Option Ctr := tabC D_mayB1 I17_mayB4
theorem c17_mayB4 {W : World} (hW : Tabs W) : CtrOk (Fw W) Tryz.prog C17_mayB4 := tabC_cons Tryz.call277 (good_inl rfl tyOk (d_mayB1 hW) (c16_mayB4 hW) Tryz.func277 (LI17_mayB4)) (c16_mayB4 hW)
def LI18_mayB4 : List AV → List Blk → Nat → Option LR := fun cs H i => cond (Nat.beq i 0) (some (.order [0, 1, 2, 3, 4, 5, 6, 7, 8, 9, 10, 11, 12, 13, 14, 15, 16, 17])) ((fun cs H i => cond (Nat.beq i 3) (some (.unroll 1)) none) cs H i)
def I18_mayB4 : List (FuncId × Ctr) := (229, inl TY C17_mayB4 D_mayB1 (fun _ => false) (LI18_mayB4) Tryz.f229) :: I17_mayB4
def C18_mayB4 : FuncId → Option Ctr := tabC D_mayB1 I18_mayB4
theorem c18_mayB4 {W : World} (hW : Tabs W) : CtrOk (Fw W) Tryz.prog C18_mayB4 := tabC_cons Tryz.call229 (good_inl rfl tyOk (d_mayB1 hW) (c17_mayB4 hW) Tryz.func229 (LI18_mayB4)) (c17_mayB4 hW)
def I19_mayB4 : List (FuncId × Ctr) := (228, inl TY C18_mayB4 D_mayB1 (fun _ => false) (fun _ _ _ => none) Tryz.f228) :: I18_mayB4
def C19_mayB4 : FuncId → Option Ctr := tabC D_mayB1 I19_mayB4
theorem c19_mayB4 {W : World} (hW : Tabs W) : CtrOk (Fw W) Tryz.prog C19_mayB4 := tabC_cons Tryz.call228 (good_inl rfl tyOk (d_mayB1 hW) (c18_mayB4 hW) Tryz.func228 (fun _ _ _ => none)) (c18_mayB4 hW)
def I20_mayB4 : List (FuncId × Ctr) := (234, inl TY C19_mayB4 D_mayB1 (fun _ => false) (fun _ _ _ => none) Tryz.f234) :: I19_mayB4
def C20_mayB4 : FuncId → Option Ctr := tabC D_mayB1 I20_mayB4
theorem c20_mayB4 {W : World} (hW : Tabs W) : CtrOk (Fw W) Tryz.prog C20_mayB4 := tabC_cons Tryz.call234 (good_inl rfl tyOk (d_mayB1 hW) (c19_mayB4 hW) Tryz.func234 (fun _ _ _ => none)) (c19_mayB4 hW)
def I21_mayB4 : List (FuncId × Ctr) := (164, inl TY C20_mayB4 D_mayB1 (fun _ => false) (fun _ _ _ => none) Tryz.f164) :: I20_mayB4
def C21_mayB4 : FuncId → Option Ctr := tabC D_mayB1 I21_mayB4
theorem c21_mayB4 {W : World} (hW : Tabs W) : CtrOk (Fw W) Tryz.prog C21_mayB4 := tabC_cons Tryz.call164 (good_inl rfl tyOk (d_mayB1 hW) (c20_mayB4 hW) Tryz.func164 (fun _ _ _ => none)) (c20_mayB4 hW)
def LI22_mayB4 : List AV → List Blk → Nat → Option LR := fun _ _ i => cond (Nat.beq i 2) (some (.unroll 7)) none
def I22_mayB4 : List (FuncId × Ctr) := (141, inl TY C21_mayB4 D_mayB1 (fun _ => false) (LI22_mayB4) Tryz.f141) :: I21_mayB4
def C22_mayB4 : FuncId → Option Ctr := tabC D_mayB1 I22_mayB4
theorem c22_mayB4 {W : World} (hW : Tabs W) : CtrOk (Fw W) Tryz.prog C22_mayB4 := tabC_cons Tryz.call141 (good_inl rfl tyOk (d_mayB1 hW) (c21_mayB4 hW) Tryz.func141 (LI22_mayB4)) (c21_mayB4 hW)
set_option maxHeartbeats 4000000 in
theorem g_mayB4 {W : World} (hW : Tabs W) : GoodP (Fw W) Tryz.prog 71 pcMayB4 := by
 have hD := d_mayB1 hW
 have hC0 : ∀ r : Request, CtrOk (Fw W) Tryz.prog C22_mayB4 := fun r => (c22_mayB4 hW)
 refine goodP_ofC (D := D_mayB1) (C := fun r => C22_mayB4) (wr := (fun _ => false)) rfl tyOk hD hC0 Tryz.func71 (fun _ _ => none) (fun _ => rfl) ?_
 rintro ⟨key, kind, day, ticket, coupon, status, locator, coupons, taxes, amount, frm, til⟩ hf hp
 have hft : factL [slE 2 Tax.enc taxes] := ⟨hf.1.2.2.2.2.2.2.2.2.1, True.intro⟩
 clear hf
 obtain ⟨hk, hcn, htn, hp1, hp2⟩ := hp
 dsimp only at hk hcn htn hp1 hp2
 subst hcn
 subst htn
 rcases hk with rfl
 have hex : ¬ nameQ 1 = [] := by rw [nameQ_at (by decide)]; decide
 (conv => whnf)
 (repeat' ((first
  | (with_reducible refine inl_intro ?_)
  | (exact absurd (by with_reducible assumption) hex)
  | ((with_reducible refine And.intro ?_ ?_); focus (with_reducible exact True.intro))
  | (split <;> rename_i hh <;> (try simp only [wS] at hh) <;> (try simp (disch := omega) only [wT] at hh))
  | fail) <;> (conv => whnf)))
 all_goals (try (show _ = _; simp only [wQ]))
 refine ⟨([] : List Coupon), Nat.zero_le _, ?_, ?_⟩
 ·exact leL_rfl _
 (conv => whnf)
 all_goals (try (show _ = _; simp only [wQ]))
 refine ⟨([] : List Tax), Nat.zero_le _, ?_, ?_⟩
 ·exact leL_rfl _
 (conv => whnf)
 (repeat' ((first
  | (with_reducible refine inl_intro ?_)
  | ((with_reducible apply inlC_weigh'); (focus rfl); (focus rfl))
  | ((with_reducible apply inlC_number'); (focus rfl); (focus rfl); (focus rfl))
  | ((refine ⟨rfl, _, ?_, rfl⟩); (try simp only [sB_eq, sI_eq, eqI_eq, cond_true, cond_false, Bool.true_and, Bool.and_false, Bool.false_and, List.length_nil]) <;> first | rfl | exact numOk_lo (by omega) | exact numOk_hi (by omega) | exact numOk_in (by omega) | (rename_i hh; (try simp only [List.length_nil] at hh); first | (rw [hh]; first | rfl | (simp; done)) | (rw [hh.1, hh.2]; first | rfl | (simp; done)) | (simp [hh]; done) | (rcases hh with hh | hh <;> first | (rw [hh]; first | rfl | (simp; done)) | (simp [hh]; done))))
  | with_reducible refine And.intro (?_ : opQ _ _ _ _ _ _) ?_
  | ((with_reducible refine And.intro ?_ ?_); focus (first | with_reducible exact True.intro | ((with_reducible show okB _ _ _ = true); rfl) | ((with_reducible show okQ _ _ = true); rfl) | omega | (simp only [inK_def, Go.Vc.lo, Go.Vc.hi]; omega)))
  | (split <;> rename_i hh <;> (try simp only [wS] at hh) <;> (try simp (disch := omega) only [wT] at hh))
  | with_reducible refine (fun (hln : (_ : Int) ≤ 9223372036854775807) => ?_)
  | fail) <;> (conv => whnf)))
 all_goals (try (show _ = _; simp only [wQ]))
 ·exfalso
  simp only [Bool.and_eq_true, numOk_iff, List.length_nil] at hh
  omega
 ·symm
  refine Bool.eq_false_iff.2 fun hm => ?_
  rw [may_iff_1] at hm
  exact coupB_nil (m := 12) (by simp only [hm])
end
end Go.Vc.Z
namespace Go.Vc.Z
open Go Go.Vc Go.Proofs Go.RowKit Go.Pl Go.Lib
noncomputable section
set_option maxRecDepth 100000
set_option linter.unusedSimpArgs false
set_option linter.unusedVariables false
attribute [local irreducible] inK Utf8.decode Utf8.encode Lib.itoa Pl.worth Pl.allDig
attribute [local irreducible] Lib.join
def pcMayB5 : PC := PC.of (fun r : Request => [.agg r.enc]) (fun r => (r.kind = 5) ∧ ¬ r.coupons.length = 0 ∧ ¬ r.taxes.length = 0 ∧ shortR r) (fun r => .bool (sB (mayReqB r)))
def LI19_mayB5 (r : Request) : List AV → List Blk → Nat → Option LR := fun cs H i => cond (Nat.beq i 0) (some (.order [0, 1, 2, 3, 4, 5, 6, 7, 8, 9, 10, 11, 12, 13, 14, 15, 16, 17, 18])) (cond (Nat.beq i 6) (some (.order [0, 1, 2, 3, 4, 5, 6, 7, 8, 9, 10, 11, 12, 13, 14, 15])) ((fun cs H i => cond (Nat.beq i 2) (some (.inv (LCo2 (gP5 r) 4 r cs H))) none) cs H i))
def I19_mayB5 (r : Request) : List (FuncId × Ctr) := (277, inl TY (C18_mayB1) D_mayB1 (fun _ => false) (LI19_mayB5 r) Tryz.f277) :: I18_mayB1
def C19_mayB5 (r : Request) : FuncId → Option Ctr := tabC D_mayB1 (I19_mayB5 r)
def LI20_mayB5 (r : Request) : List AV → List Blk → Nat → Option LR := fun cs H i => cond (Nat.beq i 0) (some (.order [0, 1, 2, 3, 4, 5, 6, 7, 8, 9, 10, 11, 12, 13, 14, 15, 16, 17])) ((fun cs H i => cond (Nat.beq i 3) (some (.inv (LTx2 (lcB (gP5 r) 4 r.coupons r.coupons.length) r cs H))) none) cs H i)
def I20_mayB5 (r : Request) : List (FuncId × Ctr) := (229, inl TY (C19_mayB5 r) D_mayB1 (fun _ => false) (LI20_mayB5 r) Tryz.f229) :: I19_mayB5 r
def C20_mayB5 (r : Request) : FuncId → Option Ctr := tabC D_mayB1 (I20_mayB5 r)
def I21_mayB5 (r : Request) : List (FuncId × Ctr) := (228, inl TY (C20_mayB5 r) D_mayB1 (fun _ => false) (fun _ _ _ => none) Tryz.f228) :: I20_mayB5 r
def C21_mayB5 (r : Request) : FuncId → Option Ctr := tabC D_mayB1 (I21_mayB5 r)
def I22_mayB5 (r : Request) : List (FuncId × Ctr) := (234, inl TY (C21_mayB5 r) D_mayB1 (fun _ => false) (fun _ _ _ => none) Tryz.f234) :: I21_mayB5 r
def C22_mayB5 (r : Request) : FuncId → Option Ctr := tabC D_mayB1 (I22_mayB5 r)
def I23_mayB5 (r : Request) : List (FuncId × Ctr) := (164, inl TY (C22_mayB5 r) D_mayB1 (fun _ => false) (fun _ _ _ => none) Tryz.f164) :: I22_mayB5 r
def C23_mayB5 (r : Request) : FuncId → Option Ctr := tabC D_mayB1 (I23_mayB5 r)
def LI24_mayB5 (r : Request) : List AV → List Blk → Nat → Option LR := fun _ _ i => cond (Nat.beq i 2) (some (.unroll 7)) none
def I24_mayB5 (r : Request) : List (FuncId × Ctr) := (141, inl TY (C23_mayB5 r) D_mayB1 (fun _ => false) (LI24_mayB5 r) Tryz.f141) :: I23_mayB5 r
def C24_mayB5 (r : Request) : FuncId → Option Ctr := tabC D_mayB1 (I24_mayB5 r)
set_option maxHeartbeats 4000000 in
theorem g_mayB5 {W : World} (hW : Tabs W) : GoodP (Fw W) Tryz.prog 71 pcMayB5 := by
 have hD := d_mayB1 hW
 have hC18 : ∀ r : Request, CtrOk (Fw W) Tryz.prog C18_mayB1 := fun r => (c18_mayB1 hW)
 have hC19 : ∀ r : Request, CtrOk (Fw W) Tryz.prog (C19_mayB5 r) := fun r => tabC_cons Tryz.call277 (good_inl rfl tyOk hD (hC18 r) Tryz.func277 (LI19_mayB5 r)) (hC18 r)
 have hC20 : ∀ r : Request, CtrOk (Fw W) Tryz.prog (C20_mayB5 r) := fun r => tabC_cons Tryz.call229 (good_inl rfl tyOk hD (hC19 r) Tryz.func229 (LI20_mayB5 r)) (hC19 r)
 have hC21 : ∀ r : Request, CtrOk (Fw W) Tryz.prog (C21_mayB5 r) := fun r => tabC_cons Tryz.call228 (good_inl rfl tyOk hD (hC20 r) Tryz.func228 (fun _ _ _ => none)) (hC20 r)
 have hC22 : ∀ r : Request, CtrOk (Fw W) Tryz.prog (C22_mayB5 r) := fun r => tabC_cons Tryz.call234 (good_inl rfl tyOk hD (hC21 r) Tryz.func234 (fun _ _ _ => none)) (hC21 r)
 have hC23 : ∀ r : Request, CtrOk (Fw W) Tryz.prog (C23_mayB5 r) := fun r => tabC_cons Tryz.call164 (good_inl rfl tyOk hD (hC22 r) Tryz.func164 (fun _ _ _ => none)) (hC22 r)
 have hC24 : ∀ r : Request, CtrOk (Fw W) Tryz.prog (C24_mayB5 r) := fun r => tabC_cons Tryz.call141 (good_inl rfl tyOk hD (hC23 r) Tryz.func141 (LI24_mayB5 r)) (hC23 r)
 refine goodP_ofC (D := D_mayB1) (C := fun r => C24_mayB5 r) (wr := (fun _ => false)) rfl tyOk hD hC24 Tryz.func71 (fun _ _ => none) (fun _ => rfl) ?_
 rintro ⟨key, kind, day, ticket, coupon, status, locator, coupons, taxes, amount, frm, til⟩ hf hp
 have hft : factL [slE 2 Tax.enc taxes] := ⟨hf.1.2.2.2.2.2.2.2.2.1, True.intro⟩
 clear hf
 obtain ⟨hk, hcn, htn, hp1, hp2⟩ := hp
 dsimp only at hk hcn htn hp1 hp2
 rcases hk with rfl
 have hex : ¬ nameQ 5 = [] := by rw [nameQ_at (by decide)]; decide
 have hca : ¬ 0 + coupons.length ≤ 0 := by omega
 have hta : ¬ 0 + taxes.length ≤ 0 := by omega
 (conv => whnf)
 (repeat' ((first
  | (with_reducible refine inl_intro ?_)
  | (exact absurd (by with_reducible assumption) hex)
  | (exact absurd (by with_reducible assumption) hcn)
  | (exact absurd (by with_reducible assumption) htn)
  | (exact absurd (by with_reducible assumption) hca)
  | (exact absurd (by with_reducible assumption) hta)
  | ((with_reducible apply inlC_weigh'); (focus rfl); (focus rfl))
  | ((with_reducible apply inlC_number'); (focus rfl); (focus rfl); (focus rfl))
  | ((refine ⟨rfl, _, ?_, rfl⟩); (try simp only [sB_eq, sI_eq, eqI_eq, cond_true, cond_false, Bool.true_and, Bool.and_false, Bool.false_and, List.length_nil]) <;> first | rfl | exact numOk_lo (by omega) | exact numOk_hi (by omega) | exact numOk_in (by omega) | (rename_i hh; (try simp only [List.length_nil] at hh); first | (rw [hh]; first | rfl | (simp; done)) | (rw [hh.1, hh.2]; first | rfl | (simp; done)) | (simp [hh]; done) | (rcases hh with hh | hh <;> first | (rw [hh]; first | rfl | (simp; done)) | (simp [hh]; done))))
  | with_reducible refine And.intro (?_ : opQ _ _ _ _ _ _) ?_
  | ((with_reducible refine And.intro ?_ ?_); focus (first | with_reducible exact True.intro | ((with_reducible show okB _ _ _ = true); rfl) | ((with_reducible show okQ _ _ = true); rfl) | omega | (simp only [inK_def, Go.Vc.lo, Go.Vc.hi]; omega) | (simp only [growOk, ty2, ty3, ty4, ty5, ty9, ty21, ty37, ty42, ty43, ty45, ty47, ty67, ty95, ty105, ty113, ty150, ty161, ty198, ty242, ty275]; first | omega | (refine ⟨?_, ?_⟩ <;> omega))))
  | (split <;> rename_i hh <;> (try simp only [wS] at hh) <;> (try simp (disch := omega) only [wT] at hh))
  | with_reducible refine (fun (hln : (_ : Int) ≤ 9223372036854775807) => ?_)
  | fail) <;> (conv => whnf)))
 all_goals (try (show _ = _; simp only [wQ]))
 refine ⟨?_, fun (i : Nat) (hi : i ≤ coupons.length) => ?_⟩
 ·(conv => whnf)
  refine ⟨(0 : Nat), [], ?_, ⟨⟨rfl, Nat.le_of_ble_eq_true rfl, rfl⟩, ?_, ?_⟩⟩
  ·exact Nat.zero_le _
  ·(conv => whnf)
   (repeat' ((first | with_reducible exact True.intro | ((with_reducible refine And.intro ?_ ?_); focus (first | with_reducible rfl | omega | exact Nat.le_of_ble_eq_true rfl | rfl)) | with_reducible refine And.intro (?_ : leA _ _ _) ?_ | fail) <;> (conv => whnf)))
   all_goals (try simp only [wQ])
   all_goals (try first | omega)
  ·(conv => whnf)
   (repeat' ((first | with_reducible exact True.intro | ((with_reducible refine Or.inr ?_); rfl) | ((with_reducible refine And.intro ?_ ?_); focus (first | with_reducible rfl | omega | exact Nat.le_of_ble_eq_true rfl | rfl)) | with_reducible refine And.intro (?_ : leA _ _ _) ?_ | with_reducible refine And.intro (?_ : leL _ _ _) ?_ | with_reducible refine And.intro (?_ : leBlk _ _ _ _) ?_ | fail) <;> (conv => whnf)))
   all_goals (try simp only [wQ])
   all_goals (try first | omega | rfl | exact ⟨fun h => h, fun _ _ => True.intro⟩)
   all_goals (try first | exact fun _ _ => ⟨True.intro, rfl⟩)
   ·intro e he
    refine ⟨?_, rfl⟩
    show catRow 0 _ _ e = _
    unfold catRow
    rw [if_neg (by omega), Nat.sub_zero]
    simp only [clrC, fz_zero]
   ·rw [lcB_zero, Nat.zero_add]; unfold gP5; rfl
   ·intro e he
    rcases (by omega : e = 0 ∨ e = 1 ∨ e = 2 ∨ e = 3 ∨ e = 4 ∨ e = 5) with rfl | rfl | rfl | rfl | rfl | rfl <;> exact ⟨True.intro, rfl⟩
 ·(conv => whnf)
  (repeat' ((first
   | (with_reducible refine inl_intro ?_)
   | ((with_reducible apply inlC_weigh'); (focus rfl); (focus rfl))
   | ((with_reducible apply inlC_number'); (focus rfl); (focus rfl); (focus rfl))
   | ((with_reducible apply inlC_numberE'); (focus rfl); (focus rfl); (focus rfl))
   | (refine optP_coupon ?_)
   | ((refine ⟨rfl, _, ?_, rfl⟩); (try simp only [sB_eq, sI_eq, eqI_eq, cond_true, cond_false, Bool.true_and, Bool.and_false, Bool.false_and, List.length_nil]) <;> first | rfl | exact numOk_lo (by omega) | exact numOk_hi (by omega) | exact numOk_in (by omega) | (rename_i hh; (try simp only [List.length_nil] at hh); first | (rw [hh]; first | rfl | (simp; done)) | (rw [hh.1, hh.2]; first | rfl | (simp; done)) | (simp [hh]; done) | (rcases hh with hh | hh <;> first | (rw [hh]; first | rfl | (simp; done)) | (simp [hh]; done))))
   | with_reducible refine And.intro (?_ : opQ _ _ _ _ _ _) ?_
   | ((with_reducible refine And.intro ?_ ?_); focus (first | ((with_reducible show okQ _ _ = true); rfl) | omega | (simp only [inK_def, Go.Vc.lo, Go.Vc.hi]; omega)))
   | (split <;> rename_i hh <;> (try simp only [wS] at hh) <;> (try simp (disch := omega) only [wT] at hh))
   | with_reducible refine (fun (hln : (_ : Int) ≤ 9223372036854775807) => ?_)
   | fail) <;> (conv => whnf)))
  all_goals (try (show _ = _; simp only [wQ]))
  ·(conv => whnf)
   refine ⟨(i + 1 : Nat), [], ?_, ⟨⟨rfl, Nat.le_of_ble_eq_true rfl, rfl⟩, ?_, ?_⟩⟩
   ·exact ⟨show i + 1 ≤ coupons.length by omega, show coupons.length - (i + 1) < coupons.length - i by omega⟩
   ·(conv => whnf)
    (repeat' ((first | with_reducible exact True.intro | ((with_reducible refine And.intro ?_ ?_); focus (first | with_reducible rfl | omega | exact Nat.le_of_ble_eq_true rfl | rfl)) | with_reducible refine And.intro (?_ : leA _ _ _) ?_ | fail) <;> (conv => whnf)))
    all_goals (try simp only [wQ])
    all_goals (try first | omega)
   ·(conv => whnf)
    (repeat' ((first | with_reducible exact True.intro | ((with_reducible refine Or.inr ?_); rfl) | ((with_reducible refine And.intro ?_ ?_); focus (first | with_reducible rfl | omega | exact Nat.le_of_ble_eq_true rfl | rfl)) | with_reducible refine And.intro (?_ : leA _ _ _) ?_ | with_reducible refine And.intro (?_ : leL _ _ _) ?_ | with_reducible refine And.intro (?_ : leBlk _ _ _ _) ?_ | fail) <;> (conv => whnf)))
    all_goals (try simp only [wQ])
    all_goals (try first | omega | rfl | exact ⟨fun h => h, fun _ _ => True.intro⟩)
    all_goals (try first | exact fun _ _ => ⟨True.intro, rfl⟩)
    ·intro e he
     refine ⟨?_, rfl⟩
     simp only [mergeL_eq, decide_true, if_true, decide_eq_true_eq]
     by_cases h1 : e = i
     ·subst h1
      simp only [if_pos (show e = 0 + Int.toNat (e : Int) by omega)]
      rw [clrC_at]; simp only [Nat.zero_add, Int.toNat_natCast]; rfl
     ·simp only [if_neg (show ¬ e = 0 + Int.toNat (i : Int) by omega)]
      rw [clrC_ne h1]
    ·rw [lcB_succ (by omega), Bool.eq_iff_iff]
     simp only [Bool.and_eq_true, numOk_iff, plainB_iff, beq_iff_eq, selI, decide_true, if_true, fz_ge (Nat.le_refl i), Nat.zero_add, Int.toNat_natCast, true_and, and_assoc, cond_true, cond_false]
    ·intro e he
     rcases (by omega : e = 0 ∨ e = 1 ∨ e = 2 ∨ e = 3 ∨ e = 4 ∨ e = 5) with rfl | rfl | rfl | rfl | rfl | rfl <;> exact ⟨True.intro, rfl⟩
  ·obtain rfl : i = coupons.length := by omega
   refine ⟨?_, fun (k : Nat) (hk : k ≤ taxes.length) => ?_⟩
   ·(conv => whnf)
    refine ⟨(0 : Nat), [], ?_, ⟨⟨rfl, Nat.le_of_ble_eq_true rfl, rfl⟩, ?_, ?_⟩⟩
    ·exact Nat.zero_le _
    ·(conv => whnf)
     (repeat' ((first | with_reducible exact True.intro | ((with_reducible refine And.intro ?_ ?_); focus (first | with_reducible rfl | omega | exact Nat.le_of_ble_eq_true rfl | rfl)) | with_reducible refine And.intro (?_ : leA _ _ _) ?_ | fail) <;> (conv => whnf)))
     all_goals (try simp only [wQ])
     all_goals (try first | omega)
     all_goals exact (leastT_zero _).symm
    ·(conv => whnf)
     (repeat' ((first | with_reducible exact True.intro | ((with_reducible refine Or.inr ?_); rfl) | ((with_reducible refine And.intro ?_ ?_); focus (first | with_reducible rfl | omega | exact Nat.le_of_ble_eq_true rfl | rfl)) | with_reducible refine And.intro (?_ : leA _ _ _) ?_ | with_reducible refine And.intro (?_ : leL _ _ _) ?_ | with_reducible refine And.intro (?_ : leBlk _ _ _ _) ?_ | fail) <;> (conv => whnf)))
     all_goals (try simp only [wQ])
     all_goals (try first | omega | rfl | exact ⟨fun h => h, fun _ _ => True.intro⟩)
     all_goals (try first | exact fun _ _ => ⟨True.intro, rfl⟩)
     ·intro e he
      refine ⟨?_, rfl⟩
      show catRow 0 _ _ e = _
      unfold catRow
      rw [if_neg (by omega), Nat.sub_zero]
      simp only [clrT, fz_zero]
     ·rw [ltB_zero, Nat.zero_add]
     ·intro e he
      rcases (by omega : e = 0 ∨ e = 1 ∨ e = 2 ∨ e = 3 ∨ e = 4 ∨ e = 5) with rfl | rfl | rfl | rfl | rfl | rfl <;> exact ⟨True.intro, rfl⟩
   ·have hfin : taxes.length ≤ k → ltB (lcB (gP5 ⟨key, 5, day, ticket, coupon, status, locator, coupons, taxes, amount, frm, til⟩) 4 coupons coupons.length) taxes k = (gP5 ⟨key, 5, day, ticket, coupon, status, locator, coupons, taxes, amount, frm, til⟩ && coupB 4 coupons && taxesB taxes) := fun h => by
     obtain rfl : k = taxes.length := by omega
     rw [ltB_full, lcB_full]
    have hcode : k < taxes.length → -9223372036854775808 ≤ fz k (0 + Int.toNat (k : Int)) (taxes.getD (0 + Int.toNat (k : Int)) default).code := fun h => by
     rw [fz_ge (by omega), Nat.zero_add]; exact tax_code hft h
    have hfz : fz k (0 + Int.toNat (k : Int)) (taxes.getD (0 + Int.toNat (k : Int)) default).code = (taxes.getD k default).code := by
     rw [fz_ge (by omega), Nat.zero_add]; rfl
    (conv => whnf)
    (repeat' ((first
     | (with_reducible refine inl_intro ?_)
     | (exact absurd (by with_reducible assumption) Bool.false_ne_true)
     | ((with_reducible apply inlC_weigh'); (focus rfl); (focus rfl))
     | ((with_reducible apply inlC_number'); (focus rfl); (focus rfl); (focus rfl))
     | ((with_reducible apply inlC_numberE'); (focus rfl); (focus rfl); (focus rfl))
     | ((refine ⟨rfl, _, ?_, rfl⟩); (try simp only [sB_eq, sI_eq, eqI_eq, cond_true, cond_false, Bool.true_and, Bool.and_false, Bool.false_and, List.length_nil]) <;> first | rfl | exact numOk_lo (by omega) | exact numOk_hi (by omega) | exact numOk_in (by omega) | (rename_i hh; (try simp only [List.length_nil] at hh); first | (rw [hh]; first | rfl | (simp; done)) | (rw [hh.1, hh.2]; first | rfl | (simp; done)) | (simp [hh]; done) | (rcases hh with hh | hh <;> first | (rw [hh]; first | rfl | (simp; done)) | (simp [hh]; done))))
     | ((with_reducible refine And.intro ?_ ?_); focus (first | ((with_reducible show okB _ _ _ = true); rfl) | (simp only [inK_def, Go.Vc.lo, Go.Vc.hi]; omega)))
     | (split <;> rename_i hh <;> (try simp only [wS] at hh) <;> (try simp (disch := omega) only [wT] at hh))
     | fail) <;> (conv => whnf)))
    all_goals (try (show _ = _; simp only [wQ]))
    ·(conv => whnf)
     refine ⟨(k + 1 : Nat), [], ?_, ⟨⟨rfl, Nat.le_of_ble_eq_true rfl, rfl⟩, ?_, ?_⟩⟩
     ·exact ⟨show k + 1 ≤ taxes.length by omega, show taxes.length - (k + 1) < taxes.length - k by omega⟩
     ·(conv => whnf)
      (repeat' ((first | with_reducible exact True.intro | ((with_reducible refine And.intro ?_ ?_); focus (first | with_reducible rfl | omega | exact Nat.le_of_ble_eq_true rfl | rfl)) | with_reducible refine And.intro (?_ : leA _ _ _) ?_ | fail) <;> (conv => whnf)))
      all_goals (try simp only [wQ])
      all_goals (try first | omega)
      all_goals (unfold leastT; rw [if_neg (by omega), Nat.add_sub_cancel]; split <;> omega)
     ·(conv => whnf)
      (repeat' ((first | with_reducible exact True.intro | ((with_reducible refine Or.inr ?_); rfl) | ((with_reducible refine And.intro ?_ ?_); focus (first | with_reducible rfl | omega | exact Nat.le_of_ble_eq_true rfl | rfl)) | with_reducible refine And.intro (?_ : leA _ _ _) ?_ | with_reducible refine And.intro (?_ : leL _ _ _) ?_ | with_reducible refine And.intro (?_ : leBlk _ _ _ _) ?_ | fail) <;> (conv => whnf)))
      all_goals (try simp only [wQ])
      all_goals (try first | omega | rfl | exact ⟨fun h => h, fun _ _ => True.intro⟩)
      all_goals (try first | exact fun _ _ => ⟨True.intro, rfl⟩)
      ·intro e he
       refine ⟨?_, rfl⟩
       simp only [mergeL_eq, decide_true, if_true, decide_eq_true_eq]
       by_cases h1 : e = k
       ·subst h1
        simp only [if_pos (show e = 0 + Int.toNat (e : Int) by omega)]
        rw [clrT_at]; simp only [Nat.zero_add, Int.toNat_natCast]; rfl
       ·simp only [if_neg (show ¬ e = 0 + Int.toNat (k : Int) by omega)]
        rw [clrT_ne h1]
      ·rw [ltB_succ (by omega), Bool.eq_iff_iff]
       unfold someB
       simp only [Bool.and_eq_true, numOk_iff, decide_eq_true_eq, selI, decide_true, if_true, fz_ge (Nat.le_refl k), Nat.zero_add, Int.toNat_natCast, true_and, and_assoc, cond_true, cond_false]
      ·intro e he
       rcases (by omega : e = 0 ∨ e = 1 ∨ e = 2 ∨ e = 3 ∨ e = 4 ∨ e = 5) with rfl | rfl | rfl | rfl | rfl | rfl <;> exact ⟨True.intro, rfl⟩
    ·(conv => whnf)
     refine ⟨(k + 1 : Nat), [], ?_, ⟨⟨rfl, Nat.le_of_ble_eq_true rfl, rfl⟩, ?_, ?_⟩⟩
     ·exact ⟨show k + 1 ≤ taxes.length by omega, show taxes.length - (k + 1) < taxes.length - k by omega⟩
     ·(conv => whnf)
      (repeat' ((first | with_reducible exact True.intro | ((with_reducible refine And.intro ?_ ?_); focus (first | with_reducible rfl | omega | exact Nat.le_of_ble_eq_true rfl | rfl)) | with_reducible refine And.intro (?_ : leA _ _ _) ?_ | fail) <;> (conv => whnf)))
      all_goals (try simp only [wQ])
      all_goals (try first | omega)
      all_goals (unfold leastT; rw [if_neg (by omega), Nat.add_sub_cancel]; split <;> omega)
     ·(conv => whnf)
      (repeat' ((first | with_reducible exact True.intro | ((with_reducible refine Or.inr ?_); rfl) | ((with_reducible refine And.intro ?_ ?_); focus (first | with_reducible rfl | omega | exact Nat.le_of_ble_eq_true rfl | rfl)) | with_reducible refine And.intro (?_ : leA _ _ _) ?_ | with_reducible refine And.intro (?_ : leL _ _ _) ?_ | with_reducible refine And.intro (?_ : leBlk _ _ _ _) ?_ | fail) <;> (conv => whnf)))
      all_goals (try simp only [wQ])
      all_goals (try first | omega | rfl | exact ⟨fun h => h, fun _ _ => True.intro⟩)
      all_goals (try first | exact fun _ _ => ⟨True.intro, rfl⟩)
      ·intro e he
       refine ⟨?_, rfl⟩
       simp only [mergeL_eq, decide_true, if_true, decide_eq_true_eq]
       by_cases h1 : e = k
       ·subst h1
        simp only [if_pos (show e = 0 + Int.toNat (e : Int) by omega)]
        rw [clrT_at]; simp only [Nat.zero_add, Int.toNat_natCast]; rfl
       ·simp only [if_neg (show ¬ e = 0 + Int.toNat (k : Int) by omega)]
        rw [clrT_ne h1]
      ·rw [ltB_succ (by omega), Bool.eq_iff_iff]
       unfold someB
       simp only [Bool.and_eq_true, numOk_iff, decide_eq_true_eq, selI, decide_true, if_true, fz_ge (Nat.le_refl k), Nat.zero_add, Int.toNat_natCast, true_and, and_assoc, cond_true, cond_false]
      ·intro e he
       rcases (by omega : e = 0 ∨ e = 1 ∨ e = 2 ∨ e = 3 ∨ e = 4 ∨ e = 5) with rfl | rfl | rfl | rfl | rfl | rfl <;> exact ⟨True.intro, rfl⟩
    ·refine ⟨((⟨[], 5, 0, 0, coupon, status, locator, [], [], 0, frm, til⟩, ⟨[], 5, 0, 0, 0, 0, [], [], [], 0, 0, 0⟩) : Request × Request), True.intro, ?_, ?_⟩
     ·(conv => whnf)
      (repeat' ((first | with_reducible exact True.intro | ((with_reducible refine And.intro ?_ ?_); focus (first | with_reducible rfl | omega | exact Nat.le_of_ble_eq_true rfl | rfl)) | with_reducible refine And.intro (?_ : leA _ _ _) ?_ | fail) <;> (conv => whnf)))
      all_goals (try simp only [wQ])
     (conv => whnf)
     all_goals (try (show _ = _; simp only [wQ]))
     rw [cond_true, Bool.eq_iff_iff, sameR_iff, may_iff_5]
     rw [hfin (by omega)] at hh
     simp only [Bool.and_eq_true, gP5_iff, Request.mk.injEq, true_and, and_true] at hh ⊢
     exact ⟨fun h => by simp_all, fun h => by simp_all⟩
    ·symm
     refine Bool.eq_false_iff.2 fun hm => ?_
     rw [may_iff_5] at hm
     rw [hfin (by omega)] at hh
     refine absurd hh ?_
     rw [Bool.not_eq_false]
     simp only [Bool.and_eq_true, gP5_iff]
     simp_all
def pcMayB6 : PC := PC.of (fun r : Request => [.agg r.enc]) (fun r => (r.kind = 5) ∧ ¬ r.coupons.length = 0 ∧ r.taxes = [] ∧ shortR r) (fun r => .bool (sB (mayReqB r)))
def LI19_mayB6 (r : Request) : List AV → List Blk → Nat → Option LR := fun cs H i => cond (Nat.beq i 0) (some (.order [0, 1, 2, 3, 4, 5, 6, 7, 8, 9, 10, 11, 12, 13, 14, 15, 16, 17, 18])) (cond (Nat.beq i 6) (some (.order [0, 1, 2, 3, 4, 5, 6, 7, 8, 9, 10, 11, 12, 13, 14, 15])) ((fun cs H i => cond (Nat.beq i 2) (some (.inv (LCo2 (gP5 r) 4 r cs H))) none) cs H i))
def I19_mayB6 (r : Request) : List (FuncId × Ctr) := (277, inl TY (C18_mayB2) D_mayB1 (fun _ => false) (LI19_mayB6 r) Tryz.f277) :: I18_mayB2
def C19_mayB6 (r : Request) : FuncId → Option Ctr := tabC D_mayB1 (I19_mayB6 r)
def I20_mayB6 (r : Request) : List (FuncId × Ctr) := (228, inl TY (C19_mayB6 r) D_mayB1 (fun _ => false) (fun _ _ _ => none) Tryz.f228) :: I19_mayB6 r
def C20_mayB6 (r : Request) : FuncId → Option Ctr := tabC D_mayB1 (I20_mayB6 r)
def I21_mayB6 (r : Request) : List (FuncId × Ctr) := (234, inl TY (C20_mayB6 r) D_mayB1 (fun _ => false) (fun _ _ _ => none) Tryz.f234) :: I20_mayB6 r
def C21_mayB6 (r : Request) : FuncId → Option Ctr := tabC D_mayB1 (I21_mayB6 r)
def I22_mayB6 (r : Request) : List (FuncId × Ctr) := (164, inl TY (C21_mayB6 r) D_mayB1 (fun _ => false) (fun _ _ _ => none) Tryz.f164) :: I21_mayB6 r
def C22_mayB6 (r : Request) : FuncId → Option Ctr := tabC D_mayB1 (I22_mayB6 r)
def LI23_mayB6 (r : Request) : List AV → List Blk → Nat → Option LR := fun _ _ i => cond (Nat.beq i 2) (some (.unroll 7)) none
def I23_mayB6 (r : Request) : List (FuncId × Ctr) := (141, inl TY (C22_mayB6 r) D_mayB1 (fun _ => false) (LI23_mayB6 r) Tryz.f141) :: I22_mayB6 r
def C23_mayB6 (r : Request) : FuncId → Option Ctr := tabC D_mayB1 (I23_mayB6 r)
set_option maxHeartbeats 4000000 in
theorem g_mayB6 {W : World} (hW : Tabs W) : GoodP (Fw W) Tryz.prog 71 pcMayB6 := by
 have hD := d_mayB1 hW
 have hC18 : ∀ r : Request, CtrOk (Fw W) Tryz.prog C18_mayB2 := fun r => (c18_mayB2 hW)
 have hC19 : ∀ r : Request, CtrOk (Fw W) Tryz.prog (C19_mayB6 r) := fun r => tabC_cons Tryz.call277 (good_inl rfl tyOk hD (hC18 r) Tryz.func277 (LI19_mayB6 r)) (hC18 r)
 have hC20 : ∀ r : Request, CtrOk (Fw W) Tryz.prog (C20_mayB6 r) := fun r => tabC_cons Tryz.call228 (good_inl rfl tyOk hD (hC19 r) Tryz.func228 (fun _ _ _ => none)) (hC19 r)
 have hC21 : ∀ r : Request, CtrOk (Fw W) Tryz.prog (C21_mayB6 r) := fun r => tabC_cons Tryz.call234 (good_inl rfl tyOk hD (hC20 r) Tryz.func234 (fun _ _ _ => none)) (hC20 r)
 have hC22 : ∀ r : Request, CtrOk (Fw W) Tryz.prog (C22_mayB6 r) := fun r => tabC_cons Tryz.call164 (good_inl rfl tyOk hD (hC21 r) Tryz.func164 (fun _ _ _ => none)) (hC21 r)
 have hC23 : ∀ r : Request, CtrOk (Fw W) Tryz.prog (C23_mayB6 r) := fun r => tabC_cons Tryz.call141 (good_inl rfl tyOk hD (hC22 r) Tryz.func141 (LI23_mayB6 r)) (hC22 r)
 refine goodP_ofC (D := D_mayB1) (C := fun r => C23_mayB6 r) (wr := (fun _ => false)) rfl tyOk hD hC23 Tryz.func71 (fun _ _ => none) (fun _ => rfl) ?_
 rintro ⟨key, kind, day, ticket, coupon, status, locator, coupons, taxes, amount, frm, til⟩ hf hp
 have hft : factL [slE 2 Tax.enc taxes] := ⟨hf.1.2.2.2.2.2.2.2.2.1, True.intro⟩
 clear hf
 obtain ⟨hk, hcn, htn, hp1, hp2⟩ := hp
 dsimp only at hk hcn htn hp1 hp2
 subst htn
 rcases hk with rfl
 have hex : ¬ nameQ 5 = [] := by rw [nameQ_at (by decide)]; decide
 have hca : ¬ 0 + coupons.length ≤ 0 := by omega
 (conv => whnf)
 (repeat' ((first
  | (with_reducible refine inl_intro ?_)
  | (exact absurd (by with_reducible assumption) hex)
  | (exact absurd (by with_reducible assumption) hcn)
  | (exact absurd (by with_reducible assumption) hca)
  | with_reducible refine And.intro (?_ : opQ _ _ _ _ _ _) ?_
  | ((with_reducible refine And.intro ?_ ?_); focus (first | with_reducible exact True.intro | ((with_reducible show okQ _ _ = true); rfl) | (simp only [growOk, ty2, ty3, ty4, ty5, ty9, ty21, ty37, ty42, ty43, ty45, ty47, ty67, ty95, ty105, ty113, ty150, ty161, ty198, ty242, ty275]; first | omega | (refine ⟨?_, ?_⟩ <;> omega))))
  | (split <;> rename_i hh <;> (try simp only [wS] at hh) <;> (try simp (disch := omega) only [wT] at hh))
  | fail) <;> (conv => whnf)))
 all_goals (try (show _ = _; simp only [wQ]))
 refine ⟨([] : List Tax), Nat.zero_le _, ?_, ?_⟩
 ·exact leL_rfl _
 (conv => whnf)
 (repeat' ((first
  | (with_reducible refine inl_intro ?_)
  | ((with_reducible apply inlC_weigh'); (focus rfl); (focus rfl))
  | ((with_reducible apply inlC_number'); (focus rfl); (focus rfl); (focus rfl))
  | ((refine ⟨rfl, _, ?_, rfl⟩); (try simp only [sB_eq, sI_eq, eqI_eq, cond_true, cond_false, Bool.true_and, Bool.and_false, Bool.false_and, List.length_nil]) <;> first | rfl | exact numOk_lo (by omega) | exact numOk_hi (by omega) | exact numOk_in (by omega) | (rename_i hh; (try simp only [List.length_nil] at hh); first | (rw [hh]; first | rfl | (simp; done)) | (rw [hh.1, hh.2]; first | rfl | (simp; done)) | (simp [hh]; done) | (rcases hh with hh | hh <;> first | (rw [hh]; first | rfl | (simp; done)) | (simp [hh]; done))))
  | with_reducible refine And.intro (?_ : opQ _ _ _ _ _ _) ?_
  | ((with_reducible refine And.intro ?_ ?_); focus (first | with_reducible exact True.intro | ((with_reducible show okB _ _ _ = true); rfl) | ((with_reducible show okQ _ _ = true); rfl) | omega | (simp only [inK_def, Go.Vc.lo, Go.Vc.hi]; omega)))
  | (split <;> rename_i hh <;> (try simp only [wS] at hh) <;> (try simp (disch := omega) only [wT] at hh))
  | with_reducible refine (fun (hln : (_ : Int) ≤ 9223372036854775807) => ?_)
  | fail) <;> (conv => whnf)))
 all_goals (try (show _ = _; simp only [wQ]))
 refine ⟨?_, fun (i : Nat) (hi : i ≤ coupons.length) => ?_⟩
 ·(conv => whnf)
  refine ⟨(0 : Nat), [], ?_, ⟨⟨rfl, Nat.le_of_ble_eq_true rfl, rfl⟩, ?_, ?_⟩⟩
  ·exact Nat.zero_le _
  ·(conv => whnf)
   (repeat' ((first | with_reducible exact True.intro | ((with_reducible refine And.intro ?_ ?_); focus (first | with_reducible rfl | omega | exact Nat.le_of_ble_eq_true rfl | rfl)) | with_reducible refine And.intro (?_ : leA _ _ _) ?_ | fail) <;> (conv => whnf)))
   all_goals (try simp only [wQ])
   all_goals (try first | omega)
  ·(conv => whnf)
   (repeat' ((first | with_reducible exact True.intro | ((with_reducible refine Or.inr ?_); rfl) | ((with_reducible refine And.intro ?_ ?_); focus (first | with_reducible rfl | omega | exact Nat.le_of_ble_eq_true rfl | rfl)) | with_reducible refine And.intro (?_ : leA _ _ _) ?_ | with_reducible refine And.intro (?_ : leL _ _ _) ?_ | with_reducible refine And.intro (?_ : leBlk _ _ _ _) ?_ | fail) <;> (conv => whnf)))
   all_goals (try simp only [wQ])
   all_goals (try first | omega | rfl | exact ⟨fun h => h, fun _ _ => True.intro⟩)
   ·intro e he
    refine ⟨?_, rfl⟩
    show catRow 0 _ _ e = _
    unfold catRow
    rw [if_neg (by omega), Nat.sub_zero]
    simp only [clrC, fz_zero]
   ·rw [lcB_zero, Nat.zero_add]; unfold gP5; rfl
   ·intro e he
    rcases (by omega : e = 0 ∨ e = 1 ∨ e = 2 ∨ e = 3 ∨ e = 4 ∨ e = 5) with rfl | rfl | rfl | rfl | rfl | rfl <;> exact ⟨True.intro, rfl⟩
 ·(conv => whnf)
  (repeat' ((first
   | (with_reducible refine inl_intro ?_)
   | ((with_reducible apply inlC_weigh'); (focus rfl); (focus rfl))
   | ((with_reducible apply inlC_number'); (focus rfl); (focus rfl); (focus rfl))
   | ((with_reducible apply inlC_numberE'); (focus rfl); (focus rfl); (focus rfl))
   | (refine optP_coupon ?_)
   | ((refine ⟨rfl, _, ?_, rfl⟩); (try simp only [sB_eq, sI_eq, eqI_eq, cond_true, cond_false, Bool.true_and, Bool.and_false, Bool.false_and, List.length_nil]) <;> first | rfl | exact numOk_lo (by omega) | exact numOk_hi (by omega) | exact numOk_in (by omega) | (rename_i hh; (try simp only [List.length_nil] at hh); first | (rw [hh]; first | rfl | (simp; done)) | (rw [hh.1, hh.2]; first | rfl | (simp; done)) | (simp [hh]; done) | (rcases hh with hh | hh <;> first | (rw [hh]; first | rfl | (simp; done)) | (simp [hh]; done))))
   | with_reducible refine And.intro (?_ : opQ _ _ _ _ _ _) ?_
   | ((with_reducible refine And.intro ?_ ?_); focus (first | ((with_reducible show okQ _ _ = true); rfl) | omega | (simp only [inK_def, Go.Vc.lo, Go.Vc.hi]; omega)))
   | (split <;> rename_i hh <;> (try simp only [wS] at hh) <;> (try simp (disch := omega) only [wT] at hh))
   | with_reducible refine (fun (hln : (_ : Int) ≤ 9223372036854775807) => ?_)
   | fail) <;> (conv => whnf)))
  all_goals (try (show _ = _; simp only [wQ]))
  ·(conv => whnf)
   refine ⟨(i + 1 : Nat), [], ?_, ⟨⟨rfl, Nat.le_of_ble_eq_true rfl, rfl⟩, ?_, ?_⟩⟩
   ·exact ⟨show i + 1 ≤ coupons.length by omega, show coupons.length - (i + 1) < coupons.length - i by omega⟩
   ·(conv => whnf)
    (repeat' ((first | with_reducible exact True.intro | ((with_reducible refine And.intro ?_ ?_); focus (first | with_reducible rfl | omega | exact Nat.le_of_ble_eq_true rfl | rfl)) | with_reducible refine And.intro (?_ : leA _ _ _) ?_ | fail) <;> (conv => whnf)))
    all_goals (try simp only [wQ])
    all_goals (try first | omega)
   ·(conv => whnf)
    (repeat' ((first | with_reducible exact True.intro | ((with_reducible refine Or.inr ?_); rfl) | ((with_reducible refine And.intro ?_ ?_); focus (first | with_reducible rfl | omega | exact Nat.le_of_ble_eq_true rfl | rfl)) | with_reducible refine And.intro (?_ : leA _ _ _) ?_ | with_reducible refine And.intro (?_ : leL _ _ _) ?_ | with_reducible refine And.intro (?_ : leBlk _ _ _ _) ?_ | fail) <;> (conv => whnf)))
    all_goals (try simp only [wQ])
    all_goals (try first | omega | rfl | exact ⟨fun h => h, fun _ _ => True.intro⟩)
    ·intro e he
     refine ⟨?_, rfl⟩
     simp only [mergeL_eq, decide_true, if_true, decide_eq_true_eq]
     by_cases h1 : e = i
     ·subst h1
      simp only [if_pos (show e = 0 + Int.toNat (e : Int) by omega)]
      rw [clrC_at]; simp only [Nat.zero_add, Int.toNat_natCast]; rfl
     ·simp only [if_neg (show ¬ e = 0 + Int.toNat (i : Int) by omega)]
      rw [clrC_ne h1]
    ·rw [lcB_succ (by omega), Bool.eq_iff_iff]
     simp only [Bool.and_eq_true, numOk_iff, plainB_iff, beq_iff_eq, selI, decide_true, if_true, fz_ge (Nat.le_refl i), Nat.zero_add, Int.toNat_natCast, true_and, and_assoc, cond_true, cond_false]
    ·intro e he
     rcases (by omega : e = 0 ∨ e = 1 ∨ e = 2 ∨ e = 3 ∨ e = 4 ∨ e = 5) with rfl | rfl | rfl | rfl | rfl | rfl <;> exact ⟨True.intro, rfl⟩
  ·obtain rfl : i = coupons.length := by omega
   have hfin : numOk (lcB (gP5 ⟨key, 5, day, ticket, coupon, status, locator, coupons, [], amount, frm, til⟩) 4 coupons coupons.length) 0 ([] : List Tax).length 4 = (gP5 ⟨key, 5, day, ticket, coupon, status, locator, coupons, [], amount, frm, til⟩ && coupB 4 coupons && taxesB []) := by
    rw [lcB_full, taxesB_nil, Bool.and_true, Bool.eq_iff_iff]; simp [numOk_iff]
   refine ⟨((⟨[], 5, 0, 0, coupon, status, locator, [], [], 0, frm, til⟩, ⟨[], 5, 0, 0, 0, 0, [], [], [], 0, 0, 0⟩) : Request × Request), True.intro, ?_, ?_⟩
   ·(conv => whnf)
    (repeat' ((first | with_reducible exact True.intro | ((with_reducible refine And.intro ?_ ?_); focus (first | with_reducible rfl | omega | exact Nat.le_of_ble_eq_true rfl | rfl)) | with_reducible refine And.intro (?_ : leA _ _ _) ?_ | fail) <;> (conv => whnf)))
    all_goals (try simp only [wQ])
   (conv => whnf)
   all_goals (try (show _ = _; simp only [wQ]))
   rw [cond_true, Bool.eq_iff_iff, sameR_iff, may_iff_5]
   rw [hfin] at hh
   simp only [Bool.and_eq_true, gP5_iff, Request.mk.injEq, true_and, and_true] at hh ⊢
   exact ⟨fun h => by simp_all, fun h => by simp_all⟩
  ·obtain rfl : i = coupons.length := by omega
   have hfin : numOk (lcB (gP5 ⟨key, 5, day, ticket, coupon, status, locator, coupons, [], amount, frm, til⟩) 4 coupons coupons.length) 0 ([] : List Tax).length 4 = (gP5 ⟨key, 5, day, ticket, coupon, status, locator, coupons, [], amount, frm, til⟩ && coupB 4 coupons && taxesB []) := by
    rw [lcB_full, taxesB_nil, Bool.and_true, Bool.eq_iff_iff]; simp [numOk_iff]
   symm
   refine Bool.eq_false_iff.2 fun hm => ?_
   rw [may_iff_5] at hm
   rw [hfin] at hh
   refine absurd hh ?_
   rw [Bool.not_eq_false]
   simp only [Bool.and_eq_true, gP5_iff]
   simp_all
def pcMayB7 : PC := PC.of (fun r : Request => [.agg r.enc]) (fun r => (r.kind = 5) ∧ r.coupons = [] ∧ ¬ r.taxes.length = 0 ∧ shortR r) (fun r => .bool (sB (mayReqB r)))
def LI21_mayB7 (r : Request) : List AV → List Blk → Nat → Option LR := fun cs H i => cond (Nat.beq i 0) (some (.order [0, 1, 2, 3, 4, 5, 6, 7, 8, 9, 10, 11, 12, 13, 14, 15, 16, 17])) ((fun cs H i => cond (Nat.beq i 3) (some (.inv (LTx2 (numOk (gP5 r) 1 0 4) r cs H))) none) cs H i)
def I21_mayB7 (r : Request) : List (FuncId × Ctr) := (229, inl TY (C20_mayB3) D_mayB1 (fun _ => false) (LI21_mayB7 r) Tryz.f229) :: I20_mayB3
def C21_mayB7 (r : Request) : FuncId → Option Ctr := tabC D_mayB1 (I21_mayB7 r)
def I22_mayB7 (r : Request) : List (FuncId × Ctr) := (164, inl TY (C21_mayB7 r) D_mayB1 (fun _ => false) (fun _ _ _ => none) Tryz.f164) :: I21_mayB7 r
def C22_mayB7 (r : Request) : FuncId → Option Ctr := tabC D_mayB1 (I22_mayB7 r)
def LI23_mayB7 (r : Request) : List AV → List Blk → Nat → Option LR := fun _ _ i => cond (Nat.beq i 2) (some (.unroll 7)) none
def I23_mayB7 (r : Request) : List (FuncId × Ctr) := (141, inl TY (C22_mayB7 r) D_mayB1 (fun _ => false) (LI23_mayB7 r) Tryz.f141) :: I22_mayB7 r
def C23_mayB7 (r : Request) : FuncId → Option Ctr := tabC D_mayB1 (I23_mayB7 r)
set_option maxHeartbeats 4000000 in
theorem g_mayB7 {W : World} (hW : Tabs W) : GoodP (Fw W) Tryz.prog 71 pcMayB7 := by
 have hD := d_mayB1 hW
 have hC20 : ∀ r : Request, CtrOk (Fw W) Tryz.prog C20_mayB3 := fun r => (c20_mayB3 hW)
 have hC21 : ∀ r : Request, CtrOk (Fw W) Tryz.prog (C21_mayB7 r) := fun r => tabC_cons Tryz.call229 (good_inl rfl tyOk hD (hC20 r) Tryz.func229 (LI21_mayB7 r)) (hC20 r)
 have hC22 : ∀ r : Request, CtrOk (Fw W) Tryz.prog (C22_mayB7 r) := fun r => tabC_cons Tryz.call164 (good_inl rfl tyOk hD (hC21 r) Tryz.func164 (fun _ _ _ => none)) (hC21 r)
 have hC23 : ∀ r : Request, CtrOk (Fw W) Tryz.prog (C23_mayB7 r) := fun r => tabC_cons Tryz.call141 (good_inl rfl tyOk hD (hC22 r) Tryz.func141 (LI23_mayB7 r)) (hC22 r)
 refine goodP_ofC (D := D_mayB1) (C := fun r => C23_mayB7 r) (wr := (fun _ => false)) rfl tyOk hD hC23 Tryz.func71 (fun _ _ => none) (fun _ => rfl) ?_
 rintro ⟨key, kind, day, ticket, coupon, status, locator, coupons, taxes, amount, frm, til⟩ hf hp
 have hft : factL [slE 2 Tax.enc taxes] := ⟨hf.1.2.2.2.2.2.2.2.2.1, True.intro⟩
 clear hf
 obtain ⟨hk, hcn, htn, hp1, hp2⟩ := hp
 dsimp only at hk hcn htn hp1 hp2
 subst hcn
 rcases hk with rfl
 have hex : ¬ nameQ 5 = [] := by rw [nameQ_at (by decide)]; decide
 have hta : ¬ 0 + taxes.length ≤ 0 := by omega
 (conv => whnf)
 (repeat' ((first
  | (with_reducible refine inl_intro ?_)
  | (exact absurd (by with_reducible assumption) hex)
  | ((with_reducible refine And.intro ?_ ?_); focus (first | with_reducible exact True.intro | ((with_reducible show okQ _ _ = true); rfl)))
  | (split <;> rename_i hh <;> (try simp only [wS] at hh) <;> (try simp (disch := omega) only [wT] at hh))
  | fail) <;> (conv => whnf)))
 all_goals (try (show _ = _; simp only [wQ]))
 refine ⟨([] : List Coupon), Nat.zero_le _, ?_, ?_⟩
 ·exact leL_rfl _
 (conv => whnf)
 (repeat' ((first
  | (with_reducible refine inl_intro ?_)
  | (exact absurd (by with_reducible assumption) htn)
  | (exact absurd (by with_reducible assumption) hta)
  | ((with_reducible apply inlC_weigh'); (focus rfl); (focus rfl))
  | ((with_reducible apply inlC_number'); (focus rfl); (focus rfl); (focus rfl))
  | ((refine ⟨rfl, _, ?_, rfl⟩); (try simp only [sB_eq, sI_eq, eqI_eq, cond_true, cond_false, Bool.true_and, Bool.and_false, Bool.false_and, List.length_nil]) <;> first | rfl | exact numOk_lo (by omega) | exact numOk_hi (by omega) | exact numOk_in (by omega) | (rename_i hh; (try simp only [List.length_nil] at hh); first | (rw [hh]; first | rfl | (simp; done)) | (rw [hh.1, hh.2]; first | rfl | (simp; done)) | (simp [hh]; done) | (rcases hh with hh | hh <;> first | (rw [hh]; first | rfl | (simp; done)) | (simp [hh]; done))))
  | with_reducible refine And.intro (?_ : opQ _ _ _ _ _ _) ?_
  | ((with_reducible refine And.intro ?_ ?_); focus (first | with_reducible exact True.intro | ((with_reducible show okB _ _ _ = true); rfl) | ((with_reducible show okQ _ _ = true); rfl) | omega | (simp only [inK_def, Go.Vc.lo, Go.Vc.hi]; omega) | (simp only [growOk, ty2, ty3, ty4, ty5, ty9, ty21, ty37, ty42, ty43, ty45, ty47, ty67, ty95, ty105, ty113, ty150, ty161, ty198, ty242, ty275]; first | omega | (refine ⟨?_, ?_⟩ <;> omega))))
  | (split <;> rename_i hh <;> (try simp only [wS] at hh) <;> (try simp (disch := omega) only [wT] at hh))
  | with_reducible refine (fun (hln : (_ : Int) ≤ 9223372036854775807) => ?_)
  | fail) <;> (conv => whnf)))
 all_goals (try (show _ = _; simp only [wQ]))
 refine ⟨?_, fun (k : Nat) (hk : k ≤ taxes.length) => ?_⟩
 ·(conv => whnf)
  refine ⟨(0 : Nat), [], ?_, ⟨⟨rfl, Nat.le_of_ble_eq_true rfl, rfl⟩, ?_, ?_⟩⟩
  ·exact Nat.zero_le _
  ·(conv => whnf)
   (repeat' ((first | with_reducible exact True.intro | ((with_reducible refine And.intro ?_ ?_); focus (first | with_reducible rfl | omega | exact Nat.le_of_ble_eq_true rfl | rfl)) | with_reducible refine And.intro (?_ : leA _ _ _) ?_ | fail) <;> (conv => whnf)))
   all_goals (try simp only [wQ])
   all_goals (try first | omega)
   all_goals exact (leastT_zero _).symm
  ·(conv => whnf)
   (repeat' ((first | with_reducible exact True.intro | ((with_reducible refine Or.inr ?_); rfl) | ((with_reducible refine And.intro ?_ ?_); focus (first | with_reducible rfl | omega | exact Nat.le_of_ble_eq_true rfl | rfl)) | with_reducible refine And.intro (?_ : leA _ _ _) ?_ | with_reducible refine And.intro (?_ : leL _ _ _) ?_ | with_reducible refine And.intro (?_ : leBlk _ _ _ _) ?_ | fail) <;> (conv => whnf)))
   all_goals (try simp only [wQ])
   all_goals (try first | omega | rfl | exact ⟨fun h => h, fun _ _ => True.intro⟩)
   ·intro e he
    refine ⟨?_, rfl⟩
    show catRow 0 _ _ e = _
    unfold catRow
    rw [if_neg (by omega), Nat.sub_zero]
    simp only [clrT, fz_zero]
   ·rw [ltB_zero, Nat.zero_add]; unfold gP5; rfl
   ·intro e he
    rcases (by omega : e = 0 ∨ e = 1 ∨ e = 2 ∨ e = 3 ∨ e = 4 ∨ e = 5) with rfl | rfl | rfl | rfl | rfl | rfl <;> exact ⟨True.intro, rfl⟩
 ·have hfin : taxes.length ≤ k → ltB (numOk (gP5 ⟨key, 5, day, ticket, coupon, status, locator, [], taxes, amount, frm, til⟩) 1 0 4) taxes k = ((numOk (gP5 ⟨key, 5, day, ticket, coupon, status, locator, [], taxes, amount, frm, til⟩) 1 0 4) && taxesB taxes) := fun h => by
   obtain rfl : k = taxes.length := by omega
   rw [ltB_full]
  have hcode : k < taxes.length → -9223372036854775808 ≤ fz k (0 + Int.toNat (k : Int)) (taxes.getD (0 + Int.toNat (k : Int)) default).code := fun h => by
   rw [fz_ge (by omega), Nat.zero_add]; exact tax_code hft h
  have hfz : fz k (0 + Int.toNat (k : Int)) (taxes.getD (0 + Int.toNat (k : Int)) default).code = (taxes.getD k default).code := by
   rw [fz_ge (by omega), Nat.zero_add]; rfl
  (conv => whnf)
  (repeat' ((first
   | (with_reducible refine inl_intro ?_)
   | (exact absurd (by with_reducible assumption) Bool.false_ne_true)
   | ((with_reducible apply inlC_weigh'); (focus rfl); (focus rfl))
   | ((with_reducible apply inlC_number'); (focus rfl); (focus rfl); (focus rfl))
   | ((with_reducible apply inlC_numberE'); (focus rfl); (focus rfl); (focus rfl))
   | ((refine ⟨rfl, _, ?_, rfl⟩); (try simp only [sB_eq, sI_eq, eqI_eq, cond_true, cond_false, Bool.true_and, Bool.and_false, Bool.false_and, List.length_nil]) <;> first | rfl | exact numOk_lo (by omega) | exact numOk_hi (by omega) | exact numOk_in (by omega) | (rename_i hh; (try simp only [List.length_nil] at hh); first | (rw [hh]; first | rfl | (simp; done)) | (rw [hh.1, hh.2]; first | rfl | (simp; done)) | (simp [hh]; done) | (rcases hh with hh | hh <;> first | (rw [hh]; first | rfl | (simp; done)) | (simp [hh]; done))))
   | ((with_reducible refine And.intro ?_ ?_); focus (first | ((with_reducible show okB _ _ _ = true); rfl) | (simp only [inK_def, Go.Vc.lo, Go.Vc.hi]; omega)))
   | (split <;> rename_i hh <;> (try simp only [wS] at hh) <;> (try simp (disch := omega) only [wT] at hh))
   | fail) <;> (conv => whnf)))
  all_goals (try (show _ = _; simp only [wQ]))
  ·(conv => whnf)
   refine ⟨(k + 1 : Nat), [], ?_, ⟨⟨rfl, Nat.le_of_ble_eq_true rfl, rfl⟩, ?_, ?_⟩⟩
   ·exact ⟨show k + 1 ≤ taxes.length by omega, show taxes.length - (k + 1) < taxes.length - k by omega⟩
   ·(conv => whnf)
    (repeat' ((first | with_reducible exact True.intro | ((with_reducible refine And.intro ?_ ?_); focus (first | with_reducible rfl | omega | exact Nat.le_of_ble_eq_true rfl | rfl)) | with_reducible refine And.intro (?_ : leA _ _ _) ?_ | fail) <;> (conv => whnf)))
    all_goals (try simp only [wQ])
    all_goals (try first | omega)
    all_goals (unfold leastT; rw [if_neg (by omega), Nat.add_sub_cancel]; split <;> omega)
   ·(conv => whnf)
    (repeat' ((first | with_reducible exact True.intro | ((with_reducible refine Or.inr ?_); rfl) | ((with_reducible refine And.intro ?_ ?_); focus (first | with_reducible rfl | omega | exact Nat.le_of_ble_eq_true rfl | rfl)) | with_reducible refine And.intro (?_ : leA _ _ _) ?_ | with_reducible refine And.intro (?_ : leL _ _ _) ?_ | with_reducible refine And.intro (?_ : leBlk _ _ _ _) ?_ | fail) <;> (conv => whnf)))
    all_goals (try simp only [wQ])
    all_goals (try first | omega | rfl | exact ⟨fun h => h, fun _ _ => True.intro⟩)
    ·intro e he
     refine ⟨?_, rfl⟩
     simp only [mergeL_eq, decide_true, if_true, decide_eq_true_eq]
     by_cases h1 : e = k
     ·subst h1
      simp only [if_pos (show e = 0 + Int.toNat (e : Int) by omega)]
      rw [clrT_at]; simp only [Nat.zero_add, Int.toNat_natCast]; rfl
     ·simp only [if_neg (show ¬ e = 0 + Int.toNat (k : Int) by omega)]
      rw [clrT_ne h1]
    ·rw [ltB_succ (by omega), Bool.eq_iff_iff]
     unfold someB
     simp only [Bool.and_eq_true, numOk_iff, decide_eq_true_eq, selI, decide_true, if_true, fz_ge (Nat.le_refl k), Nat.zero_add, Int.toNat_natCast, true_and, and_assoc, cond_true, cond_false]
    ·intro e he
     rcases (by omega : e = 0 ∨ e = 1 ∨ e = 2 ∨ e = 3 ∨ e = 4 ∨ e = 5) with rfl | rfl | rfl | rfl | rfl | rfl <;> exact ⟨True.intro, rfl⟩
  ·(conv => whnf)
   refine ⟨(k + 1 : Nat), [], ?_, ⟨⟨rfl, Nat.le_of_ble_eq_true rfl, rfl⟩, ?_, ?_⟩⟩
   ·exact ⟨show k + 1 ≤ taxes.length by omega, show taxes.length - (k + 1) < taxes.length - k by omega⟩
   ·(conv => whnf)
    (repeat' ((first | with_reducible exact True.intro | ((with_reducible refine And.intro ?_ ?_); focus (first | with_reducible rfl | omega | exact Nat.le_of_ble_eq_true rfl | rfl)) | with_reducible refine And.intro (?_ : leA _ _ _) ?_ | fail) <;> (conv => whnf)))
    all_goals (try simp only [wQ])
    all_goals (try first | omega)
    all_goals (unfold leastT; rw [if_neg (by omega), Nat.add_sub_cancel]; split <;> omega)
   ·(conv => whnf)
    (repeat' ((first | with_reducible exact True.intro | ((with_reducible refine Or.inr ?_); rfl) | ((with_reducible refine And.intro ?_ ?_); focus (first | with_reducible rfl | omega | exact Nat.le_of_ble_eq_true rfl | rfl)) | with_reducible refine And.intro (?_ : leA _ _ _) ?_ | with_reducible refine And.intro (?_ : leL _ _ _) ?_ | with_reducible refine And.intro (?_ : leBlk _ _ _ _) ?_ | fail) <;> (conv => whnf)))
    all_goals (try simp only [wQ])
    all_goals (try first | omega | rfl | exact ⟨fun h => h, fun _ _ => True.intro⟩)
    ·intro e he
     refine ⟨?_, rfl⟩
     simp only [mergeL_eq, decide_true, if_true, decide_eq_true_eq]
     by_cases h1 : e = k
     ·subst h1
      simp only [if_pos (show e = 0 + Int.toNat (e : Int) by omega)]
      rw [clrT_at]; simp only [Nat.zero_add, Int.toNat_natCast]; rfl
     ·simp only [if_neg (show ¬ e = 0 + Int.toNat (k : Int) by omega)]
      rw [clrT_ne h1]
    ·rw [ltB_succ (by omega), Bool.eq_iff_iff]
     unfold someB
     simp only [Bool.and_eq_true, numOk_iff, decide_eq_true_eq, selI, decide_true, if_true, fz_ge (Nat.le_refl k), Nat.zero_add, Int.toNat_natCast, true_and, and_assoc, cond_true, cond_false]
    ·intro e he
     rcases (by omega : e = 0 ∨ e = 1 ∨ e = 2 ∨ e = 3 ∨ e = 4 ∨ e = 5) with rfl | rfl | rfl | rfl | rfl | rfl <;> exact ⟨True.intro, rfl⟩
  ·exfalso
   rw [hfin (by omega)] at hh
   simp only [Bool.and_eq_true, numOk_iff, List.length_nil] at hh
   omega
  ·symm
   refine Bool.eq_false_iff.2 fun hm => ?_
   rw [may_iff_5] at hm
   exact coupB_nil (m := 4) (by simp only [hm])
def pcMayB8 : PC := PC.of (fun r : Request => [.agg r.enc]) (fun r => (r.kind = 5) ∧ r.coupons = [] ∧ r.taxes = [] ∧ shortR r) (fun r => .bool (sB (mayReqB r)))
set_option maxHeartbeats 4000000 in
theorem g_mayB8 {W : World} (hW : Tabs W) : GoodP (Fw W) Tryz.prog 71 pcMayB8 := by
 have hD := d_mayB1 hW
 have hC0 : ∀ r : Request, CtrOk (Fw W) Tryz.prog C22_mayB4 := fun r => (c22_mayB4 hW)
 refine goodP_ofC (D := D_mayB1) (C := fun r => C22_mayB4) (wr := (fun _ => false)) rfl tyOk hD hC0 Tryz.func71 (fun _ _ => none) (fun _ => rfl) ?_
 rintro ⟨key, kind, day, ticket, coupon, status, locator, coupons, taxes, amount, frm, til⟩ hf hp
 have hft : factL [slE 2 Tax.enc taxes] := ⟨hf.1.2.2.2.2.2.2.2.2.1, True.intro⟩
 clear hf
 obtain ⟨hk, hcn, htn, hp1, hp2⟩ := hp
 dsimp only at hk hcn htn hp1 hp2
 subst hcn
 subst htn
 rcases hk with rfl
 have hex : ¬ nameQ 5 = [] := by rw [nameQ_at (by decide)]; decide
 (conv => whnf)
 (repeat' ((first
  | (with_reducible refine inl_intro ?_)
  | (exact absurd (by with_reducible assumption) hex)
  | ((with_reducible refine And.intro ?_ ?_); focus (with_reducible exact True.intro))
  | (split <;> rename_i hh <;> (try simp only [wS] at hh) <;> (try simp (disch := omega) only [wT] at hh))
  | fail) <;> (conv => whnf)))
 all_goals (try (show _ = _; simp only [wQ]))
 refine ⟨([] : List Coupon), Nat.zero_le _, ?_, ?_⟩
 ·exact leL_rfl _
 (conv => whnf)
 all_goals (try (show _ = _; simp only [wQ]))
 refine ⟨([] : List Tax), Nat.zero_le _, ?_, ?_⟩
 ·exact leL_rfl _
 (conv => whnf)
 (repeat' ((first
  | (with_reducible refine inl_intro ?_)
  | ((with_reducible apply inlC_weigh'); (focus rfl); (focus rfl))
  | ((with_reducible apply inlC_number'); (focus rfl); (focus rfl); (focus rfl))
  | ((refine ⟨rfl, _, ?_, rfl⟩); (try simp only [sB_eq, sI_eq, eqI_eq, cond_true, cond_false, Bool.true_and, Bool.and_false, Bool.false_and, List.length_nil]) <;> first | rfl | exact numOk_lo (by omega) | exact numOk_hi (by omega) | exact numOk_in (by omega) | (rename_i hh; (try simp only [List.length_nil] at hh); first | (rw [hh]; first | rfl | (simp; done)) | (rw [hh.1, hh.2]; first | rfl | (simp; done)) | (simp [hh]; done) | (rcases hh with hh | hh <;> first | (rw [hh]; first | rfl | (simp; done)) | (simp [hh]; done))))
  | with_reducible refine And.intro (?_ : opQ _ _ _ _ _ _) ?_
  | ((with_reducible refine And.intro ?_ ?_); focus (first | with_reducible exact True.intro | ((with_reducible show okB _ _ _ = true); rfl) | ((with_reducible show okQ _ _ = true); rfl) | omega | (simp only [inK_def, Go.Vc.lo, Go.Vc.hi]; omega)))
  | (split <;> rename_i hh <;> (try simp only [wS] at hh) <;> (try simp (disch := omega) only [wT] at hh))
  | with_reducible refine (fun (hln : (_ : Int) ≤ 9223372036854775807) => ?_)
  | fail) <;> (conv => whnf)))
 all_goals (try (show _ = _; simp only [wQ]))
 ·exfalso
  simp only [Bool.and_eq_true, numOk_iff, List.length_nil] at hh
  omega
 ·symm
  refine Bool.eq_false_iff.2 fun hm => ?_
  rw [may_iff_5] at hm
  exact coupB_nil (m := 4) (by simp only [hm])
end
end Go.Vc.Z
namespace Go.Vc.Z
open Go Go.Vc Go.Proofs Go.RowKit Go.Pl Go.Lib
noncomputable section
def pcMayR : PC := PC.of (fun r : Request => [.agg r.enc]) shortR (fun r => .bool (sB (mayReqB r)))
theorem g_reqMay {W : World} (hW : Tabs W) : GoodP (Fw W) Tryz.prog 71 pcMayR := by
 intro S w cs vs Q hs hv hT
 obtain ⟨r, h1, h2, h3⟩ := hT
 have e0 : ∀ (l : List Coupon), l.length = 0 → l = [] := fun l h => List.length_eq_zero_iff.1 h
 have e1 : ∀ (l : List Tax), l.length = 0 → l = [] := fun l h => List.length_eq_zero_iff.1 h
 by_cases k1 : r.kind = 1
 ·by_cases c : r.coupons.length = 0 <;> by_cases t : r.taxes.length = 0
  ·exact g_mayB4 hW S w cs vs Q hs hv ⟨r, ⟨k1, e0 _ c, e1 _ t, h1⟩, h2, h3⟩
  ·exact g_mayB3 hW S w cs vs Q hs hv ⟨r, ⟨k1, e0 _ c, t, h1⟩, h2, h3⟩
  ·exact g_mayB2 hW S w cs vs Q hs hv ⟨r, ⟨k1, c, e1 _ t, h1⟩, h2, h3⟩
  ·exact g_mayB1 hW S w cs vs Q hs hv ⟨r, ⟨k1, c, t, h1⟩, h2, h3⟩
 ·by_cases k5 : r.kind = 5
  ·by_cases c : r.coupons.length = 0 <;> by_cases t : r.taxes.length = 0
   ·exact g_mayB8 hW S w cs vs Q hs hv ⟨r, ⟨k5, e0 _ c, e1 _ t, h1⟩, h2, h3⟩
   ·exact g_mayB7 hW S w cs vs Q hs hv ⟨r, ⟨k5, e0 _ c, t, h1⟩, h2, h3⟩
   ·exact g_mayB6 hW S w cs vs Q hs hv ⟨r, ⟨k5, c, e1 _ t, h1⟩, h2, h3⟩
   ·exact g_mayB5 hW S w cs vs Q hs hv ⟨r, ⟨k5, c, t, h1⟩, h2, h3⟩
  ·exact g_mayA hW S w cs vs Q hs hv ⟨r, ⟨⟨k1, k5⟩, h1⟩, h2, h3⟩
end
end Go.Vc.Z
