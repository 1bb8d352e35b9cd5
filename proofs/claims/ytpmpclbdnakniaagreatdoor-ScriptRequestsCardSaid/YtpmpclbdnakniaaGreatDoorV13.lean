/- script.RequestOf: the request of a line, kind 1. -/
import Derived.Test.YtpmpclbdnakniaaGreatDoorV12
set_option linter.all false
set_option linter.unusedVariables false
set_option linter.unusedSimpArgs false
namespace Go.Vc.Z
open Go Go.Vc Go.Proofs Go.RowKit Go.Pl Go.Lib
noncomputable section
set_option maxRecDepth 100000
set_option linter.unusedSimpArgs false
set_option linter.unusedVariables false
attribute [local irreducible] inK Utf8.decode Utf8.encode Lib.itoa Pl.worth Pl.allDig
attribute [local irreducible] Lib.join cut2 cutL
def pcReqOf1 : PC := PC.of (fun x : List UInt8 × Request × Int => [.str x.1]) (fun x => rqOf x.1 = x.2 ∧ x.1.length ≤ 1000000 ∧ kindOf ((cutL 32 x.1).getD 0 []) = 1) (fun x => .tup [.agg x.2.1.enc, .int .i64 x.2.2])
def L_reqOf1 : List UInt8 × Request × Int → Nat → Option LR := fun x i => cond (Nat.beq i 8) (some (.unroll 7)) (none)
set_option maxHeartbeats 4000000 in
theorem g_reqOf1 {W : World} (hW : Tabs W) : GoodP (Fw W) Tryz.prog 26 pcReqOf1 := by
 have hD := d_reqOfA hW
 have hC0 : ∀ x : List UInt8 × Request × Int, CtrOk (Fw W) Tryz.prog C17_reqOfA := fun x => (c17_reqOfA hW)
 refine goodP_ofC (D := D_reqOfA) (C := fun x => C17_reqOfA) (wr := (fun _ => false)) rfl tyOk hD hC0 Tryz.func26 (L_reqOf1) (fun _ => rfl) ?_
 intro x hf hp
 clear hf
 obtain ⟨hq, hs, hk2⟩ := hp
 have hcut := cutL_le 32 x.1
 have hlen1 := cutL_len 32 x.1
 have hsL := sL_eq (cutL 32 x.1)
 have hl1 : 1 ≤ (sL (cutL 32 x.1)).length := by rw [hsL]; exact hlen1
 have hmem : ∀ i, ((sL (cutL 32 x.1)).getD i []).length ≤ 1000000 := fun i => by
  rw [hsL, List.getD_eq_getElem?_getD]
  cases h : (cutL 32 x.1)[i]? with
  | none => simp
  | some w => have := (cutL_mem x.1 w (List.mem_of_getElem? h)).1; simp; omega
 have hfail : (∀ r, mayReqB r = true → reqW r = x.1 → False) → x.2 = (zeroR, 4) := fun h => by rw [← hq]; exact rqOf_no h
 have hk : kindOf ((sL (cutL 32 x.1)).getD (Int.toNat 0) []) = 1 := by rw [hsL]; exact hk2
 have hk2 : kindOf ((cutL 32 x.1).getD 0 []) = 1 := by rw [hsL] at hk; exact hk
 have hm44 : ∀ p i, ((sL (cutL 44 ((sL (cutL 32 x.1)).getD p []))).getD i []).length ≤ 100000000 := fun p i => cut_small (Nat.le_trans (hmem p) (by decide)) i
 have hpos : ∀ p, ¬ (((sL (cutL 44 ((sL (cutL 32 x.1)).getD p []))).length : Int) ≤ (([] : List Coupon).length : Int)) := fun p h => by have := cutL_len 44 ((sL (cutL 32 x.1)).getD p []); rw [← sL_eq (cutL 44 _)] at this; have h : (_ : Int) ≤ 0 := h; omega
 have hpot : ∀ p, ¬ (((sL (cutL 44 ((sL (cutL 32 x.1)).getD p []))).length : Int) ≤ (([] : List Tax).length : Int)) := fun p h => by have := cutL_len 44 ((sL (cutL 32 x.1)).getD p []); rw [← sL_eq (cutL 44 _)] at this; have h : (_ : Int) ≤ 0 := h; omega
 have hb44 : ∀ p, (sL (cutL 44 ((sL (cutL 32 x.1)).getD p []))).length ≤ 1000001 := fun p => by rw [sL_eq]; exact Nat.le_trans (cutL_le _ _) (Nat.succ_le_succ (hmem p))
 obtain ⟨r0, w0⟩ := ascii_at (l := [75, 68, 76, 67, 88]) 0 (by decide) (by decide)
 obtain ⟨r1, w1⟩ := ascii_at (l := [75, 68, 76, 67, 88]) 1 (by decide) (by decide)
 obtain ⟨r2, w2⟩ := ascii_at (l := [75, 68, 76, 67, 88]) 2 (by decide) (by decide)
 obtain ⟨r3, w3⟩ := ascii_at (l := [75, 68, 76, 67, 88]) 3 (by decide) (by decide)
 obtain ⟨r4, w4⟩ := ascii_at (l := [75, 68, 76, 67, 88]) 4 (by decide) (by decide)
 have r5 := True.intro
 have w5 := True.intro
 have v0 : runeW (⟨#[75, 68, 76, 67, 88]⟩ : ByteArray).data.toList 0 = 1 := w0
 have v1 : runeW (⟨#[75, 68, 76, 67, 88]⟩ : ByteArray).data.toList (0 + runeW (⟨#[75, 68, 76, 67, 88]⟩ : ByteArray).data.toList 0) = 1 := by rw [v0]; exact w1
 have v2 : runeW (⟨#[75, 68, 76, 67, 88]⟩ : ByteArray).data.toList ((0 + runeW (⟨#[75, 68, 76, 67, 88]⟩ : ByteArray).data.toList 0) + runeW (⟨#[75, 68, 76, 67, 88]⟩ : ByteArray).data.toList (0 + runeW (⟨#[75, 68, 76, 67, 88]⟩ : ByteArray).data.toList 0)) = 1 := by rw [v1, v0]; exact w2
 have v3 : runeW (⟨#[75, 68, 76, 67, 88]⟩ : ByteArray).data.toList (((0 + runeW (⟨#[75, 68, 76, 67, 88]⟩ : ByteArray).data.toList 0) + runeW (⟨#[75, 68, 76, 67, 88]⟩ : ByteArray).data.toList (0 + runeW (⟨#[75, 68, 76, 67, 88]⟩ : ByteArray).data.toList 0)) + runeW (⟨#[75, 68, 76, 67, 88]⟩ : ByteArray).data.toList ((0 + runeW (⟨#[75, 68, 76, 67, 88]⟩ : ByteArray).data.toList 0) + runeW (⟨#[75, 68, 76, 67, 88]⟩ : ByteArray).data.toList (0 + runeW (⟨#[75, 68, 76, 67, 88]⟩ : ByteArray).data.toList 0))) = 1 := by rw [v2, v1, v0]; exact w3
 have v4 : runeW (⟨#[75, 68, 76, 67, 88]⟩ : ByteArray).data.toList ((((0 + runeW (⟨#[75, 68, 76, 67, 88]⟩ : ByteArray).data.toList 0) + runeW (⟨#[75, 68, 76, 67, 88]⟩ : ByteArray).data.toList (0 + runeW (⟨#[75, 68, 76, 67, 88]⟩ : ByteArray).data.toList 0)) + runeW (⟨#[75, 68, 76, 67, 88]⟩ : ByteArray).data.toList ((0 + runeW (⟨#[75, 68, 76, 67, 88]⟩ : ByteArray).data.toList 0) + runeW (⟨#[75, 68, 76, 67, 88]⟩ : ByteArray).data.toList (0 + runeW (⟨#[75, 68, 76, 67, 88]⟩ : ByteArray).data.toList 0))) + runeW (⟨#[75, 68, 76, 67, 88]⟩ : ByteArray).data.toList (((0 + runeW (⟨#[75, 68, 76, 67, 88]⟩ : ByteArray).data.toList 0) + runeW (⟨#[75, 68, 76, 67, 88]⟩ : ByteArray).data.toList (0 + runeW (⟨#[75, 68, 76, 67, 88]⟩ : ByteArray).data.toList 0)) + runeW (⟨#[75, 68, 76, 67, 88]⟩ : ByteArray).data.toList ((0 + runeW (⟨#[75, 68, 76, 67, 88]⟩ : ByteArray).data.toList 0) + runeW (⟨#[75, 68, 76, 67, 88]⟩ : ByteArray).data.toList (0 + runeW (⟨#[75, 68, 76, 67, 88]⟩ : ByteArray).data.toList 0)))) = 1 := by rw [v3, v2, v1, v0]; exact w4
 have hrow : (([75, 68, 76, 67, 88] : List UInt8).length : Int) = 5 := rfl
 (conv => whnf)
 (repeat' ((first
  | ((with_reducible refine And.intro ?_ ?_); focus (omega))
  | fail) <;> (conv => whnf)))
 all_goals (try (show _ = _; simp only [wQ]))
 refine ⟨(((sL (cutL 32 x.1)).getD (Int.toNat 0) [], (1 : Int)) : List UInt8 × Int), hk, ?_, ?_⟩
 ·exact leL_rfl _
 (conv => whnf)
 (repeat' ((first
  | with_reducible exact True.intro
  | (with_reducible refine inl_intro ?_)
  | ((with_reducible refine And.intro ?_ ?_); focus (exact Nat.le_trans (hmem _) (Nat.le_of_ble_eq_true rfl)))
  | ((with_reducible refine And.intro ?_ ?_); focus (first | with_reducible exact True.intro | ((with_reducible show okB _ _ _ = true); rfl) | with_reducible rfl | omega | (simp only [inK_def, Go.Vc.lo, Go.Vc.hi]; omega) | (dsimp only at *; simp only [inK_def, Go.Vc.lo, Go.Vc.hi]; omega)))
  | (conv => arg 2; (first | change eqI (runeAt _ _) _ | change decide (_ + runeW _ _ < _) | change ! (sB _)); simp only [List.toList_toArray, sB_eq, r0, r1, r2, r3, r4, r5, w0, w1, w2, w3, w4, w5, Nat.zero_add, Nat.reduceAdd, List.length_cons, List.length_nil])
  | (split <;> rename_i hh <;> (try simp only [wS] at hh) <;> (try simp (disch := omega) only [wT] at hh))
  | with_reducible refine (fun (hln : (_ : Int) ≤ 9223372036854775807) => ?_)
  | with_reducible refine And.intro (?_ : leA _ _ _) ?_
  | fail) <;> (conv => whnf)))
 all_goals (try (show _ = _; simp only [wQ]))
 all_goals try (
  have hz : x.2 = (zeroR, 4) := by
   refine hfail fun r hm hw => ?_
   have hc := rd_1 hm hw hk2
   try simp only [List.toList_toArray, w0, w1, w2, w3, w4, w5, Nat.zero_add, Nat.reduceAdd] at hh
   rw [hsL, hc.1] at hh
   first | exact hh rfl | (cases hh.symm.trans (congrArg Prod.snd hc.2.2.1))
  rw [hz] <;> rfl)
 refine ⟨?_, fun (L : List Coupon) hL => ?_⟩
 ·(conv => whnf)
  refine ⟨([] : List Coupon), [], ?_, ⟨⟨rfl, Nat.le_of_ble_eq_true rfl, rfl⟩, ?_, ?_⟩⟩
  ·exact ⟨Nat.zero_le _, rfl, fun w hw => by cases hw⟩
  ·(conv => whnf)
   (repeat' ((first | with_reducible exact True.intro | ((with_reducible refine And.intro ?_ ?_); focus (first | with_reducible rfl | omega | exact Nat.le_of_ble_eq_true rfl | rfl)) | with_reducible refine And.intro (?_ : leA _ _ _) ?_ | fail) <;> (conv => whnf)))
   all_goals (try simp only [wQ])
   all_goals (try first | rfl | exact ⟨fun h => h, fun _ _ => True.intro⟩)
  ·(conv => whnf)
   (repeat' ((first | with_reducible exact True.intro | ((with_reducible refine And.intro ?_ ?_); focus (first | with_reducible rfl | omega | exact Nat.le_of_ble_eq_true rfl | rfl)) | with_reducible refine And.intro (?_ : leA _ _ _) ?_ | with_reducible refine And.intro (?_ : leL _ _ _) ?_ | with_reducible refine And.intro (?_ : leBlk _ _ _ _) ?_ | fail) <;> (conv => whnf)))
   all_goals (try simp only [wQ])
   all_goals (try first | rfl)
 ·obtain ⟨q1, q2, q3⟩ := hL
  try simp only [List.toList_toArray, w0, w1, w2, w3, w4, w5, Nat.zero_add, Nat.reduceAdd] at q1 q2 q3
  change L.length ≤ (sL (cutL 44 ((sL (cutL 32 x.1)).getD 4 []))).length at q1
  change L = ((sL (cutL 44 ((sL (cutL 32 x.1)).getD 4 []))).take L.length).map (fun w => (flOf w).1) at q2
  change ∀ w ∈ (sL (cutL 44 ((sL (cutL 32 x.1)).getD 4 []))).take L.length, (flOf w).2 = true at q3
  rcases L with _ | ⟨c, L⟩
  ·(conv => whnf)
   (repeat' ((first
    | with_reducible exact True.intro
    | ((with_reducible refine And.intro ?_ ?_); focus (exact hm44 _ _))
    | (exact absurd (by with_reducible assumption) (hpos _))
    | with_reducible refine And.intro (?_ : opQ _ _ _ _ _ _) ?_
    | ((with_reducible refine And.intro ?_ ?_); focus (first | ((with_reducible show okQ _ _ = true); rfl) | with_reducible rfl | omega | ((with_reducible refine ⟨?_, ?_⟩) <;> first | with_reducible assumption | omega) | (simp only [growOk, ty2, ty3, ty4, ty5, ty9, ty21, ty37, ty42, ty43, ty45, ty47, ty67, ty95, ty105, ty113, ty150, ty161, ty198, ty242, ty275]; first | omega | (refine ⟨?_, ?_⟩ <;> omega)) | decide))
    | (conv => arg 2; change ! (sB _); simp only [List.toList_toArray, sB_eq, r0, r1, r2, r3, r4, r5, w0, w1, w2, w3, w4, w5, Nat.zero_add, Nat.reduceAdd, List.length_cons, List.length_nil])
    | (split <;> rename_i hh <;> (try simp only [wS] at hh) <;> (try simp (disch := omega) only [wT] at hh))
    | with_reducible refine And.intro (?_ : leA _ _ _) ?_
    | fail) <;> (conv => whnf)))
   all_goals (try (show _ = _; simp only [wQ]))
   all_goals try (
    have hz : x.2 = (zeroR, 4) := by
     have hi := ‹((([] : List Coupon).length : Nat) : Int) < _›
     refine hfail fun r hm hw => ?_
     have hc := rd_1 hm hw hk2
     try simp only [List.toList_toArray, w0, w1, w2, w3, w4, w5, Nat.zero_add, Nat.reduceAdd] at hh
     try simp only [List.toList_toArray, w0, w1, w2, w3, w4, w5, Nat.zero_add, Nat.reduceAdd] at hi
     have hi2 : ([] : List Coupon).length < (sL (cutL 44 ((sL (cutL 32 x.1)).getD 4 []))).length := Int.ofNat_lt.1 hi
     exact absurd (hh.symm.trans (back_ok (f := flOf) hi2 (l := r.coupons) (by rw [sL_eq, hsL, hc.1]; exact hc.2.2.2.1.1) hc.2.2.2.1.2)) (by decide)
    rw [hz] <;> rfl)
   ·have hi := ‹((([] : List Coupon).length : Nat) : Int) < _›
    try simp only [List.toList_toArray, w0, w1, w2, w3, w4, w5, Nat.zero_add, Nat.reduceAdd] at hi
    have hi2 : ([] : List Coupon).length < (sL (cutL 44 ((sL (cutL 32 x.1)).getD 4 []))).length := Int.ofNat_lt.1 hi
    try simp only [List.toList_toArray, w0, w1, w2, w3, w4, w5, Nat.zero_add, Nat.reduceAdd] at hh
    have hh2 : (flOf ((sL (cutL 44 ((sL (cutL 32 x.1)).getD 4 []))).getD ([] : List Coupon).length [])).2 = true := hh
    have g1 := take_snoc q2 hi2
    have g2 := all_snoc (p := fun w => (flOf w).2) q3 hi2 hh2
    (conv => whnf)
    refine ⟨((([] : List Coupon) ++ [(flOf ((sL (cutL 44 ((sL (cutL 32 x.1)).getD 4 []))).getD ([] : List Coupon).length [])).1]) : List Coupon), [55], ?_, ⟨⟨rfl, Nat.le_of_ble_eq_true rfl, rfl⟩, ?_, ?_⟩⟩
    ·refine ⟨⟨?_, ?_, ?_⟩, ?_⟩ <;> (try simp only [List.toList_toArray, w0, w1, w2, w3, w4, w5, Nat.zero_add, Nat.reduceAdd])
     ·show (([] : List Coupon) ++ [(flOf ((sL (cutL 44 ((sL (cutL 32 x.1)).getD 4 []))).getD ([] : List Coupon).length [])).1]).length ≤ (sL (cutL 44 ((sL (cutL 32 x.1)).getD 4 []))).length
      rw [List.length_append]; exact hi2
     ·exact g1
     ·show ∀ w ∈ (sL (cutL 44 ((sL (cutL 32 x.1)).getD 4 []))).take (([] : List Coupon) ++ [(flOf ((sL (cutL 44 ((sL (cutL 32 x.1)).getD 4 []))).getD ([] : List Coupon).length [])).1]).length, (flOf w).2 = true
      rw [List.length_append]; exact g2
     ·show (sL (cutL 44 _)).length - (_ : List Coupon).length < (sL (cutL 44 _)).length - (_ : List Coupon).length
      try simp only [List.toList_toArray, w0, w1, w2, w3, w4, w5, Nat.zero_add, Nat.reduceAdd]
      show (sL (cutL 44 ((sL (cutL 32 x.1)).getD 4 []))).length - (([] : List Coupon) ++ [(flOf ((sL (cutL 44 ((sL (cutL 32 x.1)).getD 4 []))).getD ([] : List Coupon).length [])).1]).length < (sL (cutL 44 ((sL (cutL 32 x.1)).getD 4 []))).length - ([] : List Coupon).length
      rw [List.length_append, List.length_singleton]; omega
    ·(conv => whnf)
     (repeat' ((first | with_reducible exact True.intro | ((with_reducible refine And.intro ?_ ?_); focus (first | with_reducible rfl | omega | exact Nat.le_of_ble_eq_true rfl | rfl)) | with_reducible refine And.intro (?_ : leA _ _ _) ?_ | fail) <;> (conv => whnf)))
     all_goals (try simp only [wQ])
     all_goals (try first | rfl | exact ⟨fun h => h, fun _ _ => True.intro⟩)
     all_goals simp
    ·(conv => whnf)
     (repeat' ((first | with_reducible exact True.intro | ((with_reducible refine Or.inr ?_); rfl) | ((with_reducible refine And.intro ?_ ?_); focus (first | with_reducible rfl | omega | exact Nat.le_of_ble_eq_true rfl | rfl)) | with_reducible refine And.intro (?_ : leA _ _ _) ?_ | with_reducible refine And.intro (?_ : leL _ _ _) ?_ | with_reducible refine And.intro (?_ : leBlk _ _ _ _) ?_ | fail) <;> (conv => whnf)))
     all_goals (try simp only [wQ])
     all_goals (try first | rfl)
     all_goals try rfl
     all_goals try exact ⟨rfl, True.intro, True.intro, by simp, Or.inl True.intro⟩
     intro e he
     have he : e < 1 := he
     obtain rfl : e = 0 := by omega
     refine ⟨?_, rfl⟩
     try simp only [List.toList_toArray, w0, w1, w2, w3, w4, w5, Nat.zero_add, Nat.reduceAdd]
     rfl
  ·have q0 : L.length + 1 ≤ 1000001 := Nat.le_trans q1 (hb44 _)
   (conv => whnf)
   (repeat' ((first
    | with_reducible exact True.intro
    | (with_reducible refine inl_intro ?_)
    | ((with_reducible refine And.intro ?_ ?_); focus (exact Nat.le_trans (hmem _) (Nat.le_of_ble_eq_true rfl)))
    | ((with_reducible refine And.intro ?_ ?_); focus (exact hm44 _ _))
    | with_reducible refine And.intro (?_ : opQ _ _ _ _ _ _) ?_
    | ((with_reducible refine And.intro ?_ ?_); focus (first | ((with_reducible refine ⟨?_, ?_, ?_⟩) <;> first | (intro e he; rcases (by omega : e = 0 ∨ e = 1 ∨ e = 2 ∨ e = 3 ∨ e = 4 ∨ e = 5) with rfl | rfl | rfl | rfl | rfl | rfl <;> first | rfl | (exfalso; omega)) | (with_reducible assumption) | omega | ((with_reducible show growOk _ _); simp only [growOk, ty2, ty3, ty4, ty5, ty9, ty21, ty37, ty42, ty43, ty45, ty47, ty67, ty95, ty105, ty113, ty150, ty161, ty198, ty242, ty275, List.length_cons, List.length_nil]; first | omega | (refine ⟨?_, ?_⟩ <;> omega))) | ((with_reducible show okB _ _ _ = true); rfl) | ((with_reducible show okQ _ _ = true); rfl) | with_reducible rfl | omega | ((with_reducible refine ⟨?_, ?_⟩) <;> first | with_reducible assumption | omega) | (dsimp only at *; simp only [inK_def, Go.Vc.lo, Go.Vc.hi]; omega)))
    | (conv => arg 2; (first | change eqI (runeAt _ _) _ | change decide (_ + runeW _ _ < _) | change ! (sB _)); simp only [List.toList_toArray, sB_eq, r0, r1, r2, r3, r4, r5, w0, w1, w2, w3, w4, w5, Nat.zero_add, Nat.reduceAdd, List.length_cons, List.length_nil])
    | (split <;> rename_i hh <;> (try simp only [wS] at hh) <;> (try simp (disch := omega) only [wT] at hh))
    | with_reducible refine (fun (hln : (_ : Int) ≤ 9223372036854775807) => ?_)
    | with_reducible refine And.intro (?_ : leA _ _ _) ?_
    | fail) <;> (conv => whnf)))
   all_goals (try (show _ = _; simp only [wQ]))
   all_goals try (
    have hz : x.2 = (zeroR, 4) := by
     have hi := ‹(((c :: L : List Coupon).length : Nat) : Int) < _›
     refine hfail fun r hm hw => ?_
     have hc := rd_1 hm hw hk2
     try simp only [List.toList_toArray, w0, w1, w2, w3, w4, w5, Nat.zero_add, Nat.reduceAdd] at hh
     try simp only [List.toList_toArray, w0, w1, w2, w3, w4, w5, Nat.zero_add, Nat.reduceAdd] at hi
     have hi2 : (c :: L : List Coupon).length < (sL (cutL 44 ((sL (cutL 32 x.1)).getD 4 []))).length := Int.ofNat_lt.1 hi
     exact absurd (hh.symm.trans (back_ok (f := flOf) hi2 (l := r.coupons) (by rw [sL_eq, hsL, hc.1]; exact hc.2.2.2.1.1) hc.2.2.2.1.2)) (by decide)
    rw [hz] <;> rfl)
   ·have hi := ‹(((c :: L : List Coupon).length : Nat) : Int) < _›
    try simp only [List.toList_toArray, w0, w1, w2, w3, w4, w5, Nat.zero_add, Nat.reduceAdd] at hi
    have hi2 : (c :: L : List Coupon).length < (sL (cutL 44 ((sL (cutL 32 x.1)).getD 4 []))).length := Int.ofNat_lt.1 hi
    try simp only [List.toList_toArray, w0, w1, w2, w3, w4, w5, Nat.zero_add, Nat.reduceAdd] at hh
    have hh2 : (flOf ((sL (cutL 44 ((sL (cutL 32 x.1)).getD 4 []))).getD (c :: L : List Coupon).length [])).2 = true := hh
    have g1 := take_snoc q2 hi2
    have g2 := all_snoc (p := fun w => (flOf w).2) q3 hi2 hh2
    (conv => whnf)
    refine ⟨(((c :: L : List Coupon) ++ [(flOf ((sL (cutL 44 ((sL (cutL 32 x.1)).getD 4 []))).getD (c :: L : List Coupon).length [])).1]) : List Coupon), [55], ?_, ⟨⟨rfl, Nat.le_of_ble_eq_true rfl, rfl⟩, ?_, ?_⟩⟩
    ·refine ⟨⟨?_, ?_, ?_⟩, ?_⟩ <;> (try simp only [List.toList_toArray, w0, w1, w2, w3, w4, w5, Nat.zero_add, Nat.reduceAdd])
     ·show ((c :: L : List Coupon) ++ [(flOf ((sL (cutL 44 ((sL (cutL 32 x.1)).getD 4 []))).getD (c :: L : List Coupon).length [])).1]).length ≤ (sL (cutL 44 ((sL (cutL 32 x.1)).getD 4 []))).length
      rw [List.length_append]; exact hi2
     ·exact g1
     ·show ∀ w ∈ (sL (cutL 44 ((sL (cutL 32 x.1)).getD 4 []))).take ((c :: L : List Coupon) ++ [(flOf ((sL (cutL 44 ((sL (cutL 32 x.1)).getD 4 []))).getD (c :: L : List Coupon).length [])).1]).length, (flOf w).2 = true
      rw [List.length_append]; exact g2
     ·show (sL (cutL 44 _)).length - (_ : List Coupon).length < (sL (cutL 44 _)).length - (_ : List Coupon).length
      try simp only [List.toList_toArray, w0, w1, w2, w3, w4, w5, Nat.zero_add, Nat.reduceAdd]
      show (sL (cutL 44 ((sL (cutL 32 x.1)).getD 4 []))).length - ((c :: L : List Coupon) ++ [(flOf ((sL (cutL 44 ((sL (cutL 32 x.1)).getD 4 []))).getD (c :: L : List Coupon).length [])).1]).length < (sL (cutL 44 ((sL (cutL 32 x.1)).getD 4 []))).length - (c :: L : List Coupon).length
      rw [List.length_append, List.length_singleton]; omega
    ·(conv => whnf)
     (repeat' ((first | with_reducible exact True.intro | ((with_reducible refine And.intro ?_ ?_); focus (first | with_reducible rfl | omega | exact Nat.le_of_ble_eq_true rfl | rfl)) | with_reducible refine And.intro (?_ : leA _ _ _) ?_ | fail) <;> (conv => whnf)))
     all_goals (try simp only [wQ])
     all_goals (try first | exact ⟨fun h => h, fun _ _ => True.intro⟩)
     all_goals simp
    ·(conv => whnf)
     (repeat' ((first | with_reducible exact True.intro | ((with_reducible refine And.intro ?_ ?_); focus (first | with_reducible rfl | omega | exact Nat.le_of_ble_eq_true rfl | rfl)) | with_reducible refine And.intro (?_ : leA _ _ _) ?_ | with_reducible refine And.intro (?_ : leL _ _ _) ?_ | with_reducible refine And.intro (?_ : leBlk _ _ _ _) ?_ | fail) <;> (conv => whnf)))
     all_goals (try simp only [wQ])
     all_goals (try first | rfl)
     all_goals (try first | exact ⟨by simp, Or.inl trivial⟩)
     all_goals try rfl
     all_goals try exact ⟨rfl, True.intro, True.intro, by simp, Or.inl True.intro⟩
     exact ⟨by simp, fun e he => ⟨cat_encn (enc := Coupon.enc) (l := (c :: L : List Coupon)) rfl (fun _ _ => rfl) (by try simp only [List.toList_toArray, w0, w1, w2, w3, w4, w5, Nat.zero_add, Nat.reduceAdd]; rfl) (by simpa using he), rfl⟩⟩
   ·have hx := ‹(_ : Int) ≤ (((c :: L : List Coupon).length : Nat) : Int)›
    try simp only [List.toList_toArray, w0, w1, w2, w3, w4, w5, Nat.zero_add, Nat.reduceAdd] at hx
    have hx2 : ¬ (c :: L).length < (sL (cutL 44 ((sL (cutL 32 x.1)).getD 4 []))).length := Nat.not_lt.2 (Int.ofNat_le.1 hx)
    try simp only [List.toList_toArray, w0, w1, w2, w3, w4, w5, Nat.zero_add, Nat.reduceAdd] at hh
    have hdash : ((sL (cutL 32 x.1)).getD 5 []) = [45] := hh
    have hrd : ∀ r, mayReqB r = true → reqW r = x.1 → (⟨((sL (cutL 32 x.1)).getD 1 []), 1, (wholeN ((sL (cutL 32 x.1)).getD 2 [])).1, 0, 0, 0, ((sL (cutL 32 x.1)).getD 3 []), c :: L, [], 0, 0, 0⟩ : Request) = r := fun r hm hw => by
     have hc := rd_1 hm hw hk2
     have eL : c :: L = r.coupons := back_done q2 q1 hx2 (by rw [sL_eq, hsL, hc.1]; exact hc.2.2.2.1.1) hc.2.2.2.1.2
     have eX : [] = r.taxes := by
      rcases hc.2.2.2.2.1 with ⟨a, _⟩ | ⟨a, _⟩
      ·exact a.symm
      ·exact absurd (by have h := hdash; rw [hsL, hc.1] at h; exact h) a
     refine Eq.trans ?_ hc.2.1.symm
     rw [← eL, ← eX] at hc ⊢
     rw [hsL, hc.1]; simp only [List.getD_cons_zero, List.getD_cons_succ, hc.2.2.1]
    refine ⟨⟨by omega, fun e he => rfl⟩, ?_⟩
    refine ⟨(⟨((sL (cutL 32 x.1)).getD 1 []), 1, (wholeN ((sL (cutL 32 x.1)).getD 2 [])).1, 0, 0, 0, ((sL (cutL 32 x.1)).getD 3 []), c :: L, [], 0, 0, 0⟩ : Request), ⟨Nat.le_trans q0 (by decide), Nat.zero_le _⟩, ?_, ?_⟩
    ·(conv => whnf)
     (repeat' ((first | with_reducible exact True.intro | ((with_reducible refine And.intro ?_ ?_); focus (first | with_reducible rfl | omega | exact Nat.le_of_ble_eq_true rfl | rfl)) | with_reducible refine And.intro (?_ : leA _ _ _) ?_ | fail) <;> (conv => whnf)))
     all_goals (try simp only [wQ])
     all_goals (try first | (refine ⟨fun h => h, fun e he => ?_⟩; rw [Nat.zero_add]; done))
     all_goals (simp only [List.toList_toArray, w0, w1, w2, w3, w4, w5, Nat.zero_add, Nat.reduceAdd]; rfl)
    (conv => whnf)
    (repeat' ((first
     | with_reducible exact True.intro
     | ((with_reducible refine And.intro ?_ ?_); focus (with_reducible rfl))
     | (conv => arg 2; change ! (sB _); simp only [List.toList_toArray, sB_eq, r0, r1, r2, r3, r4, r5, w0, w1, w2, w3, w4, w5, Nat.zero_add, Nat.reduceAdd, List.length_cons, List.length_nil])
     | (split <;> rename_i hh <;> (try simp only [wS] at hh) <;> (try simp (disch := omega) only [wT] at hh))
     | with_reducible refine And.intro (?_ : leA _ _ _) ?_
     | fail) <;> (conv => whnf)))
    all_goals (try (show _ = _; simp only [wQ]))
    all_goals try (
     have hz : x.2 = (zeroR, 4) := by
      refine hfail fun r hm hw => ?_
      rw [hrd r hm hw, hm] at hh
      cases hh
     rw [hz] <;> rfl)
    refine ⟨⟨by omega, fun e he => rfl⟩, ?_⟩
    refine ⟨(⟨((sL (cutL 32 x.1)).getD 1 []), 1, (wholeN ((sL (cutL 32 x.1)).getD 2 [])).1, 0, 0, 0, ((sL (cutL 32 x.1)).getD 3 []), c :: L, [], 0, 0, 0⟩ : Request), ⟨Nat.le_trans q0 (by decide), Nat.zero_le _⟩, ?_, ?_⟩
    ·(conv => whnf)
     (repeat' ((first | with_reducible exact True.intro | ((with_reducible refine And.intro ?_ ?_); focus (first | with_reducible rfl | omega | exact Nat.le_of_ble_eq_true rfl | rfl)) | with_reducible refine And.intro (?_ : leA _ _ _) ?_ | fail) <;> (conv => whnf)))
     all_goals (try simp only [wQ])
     all_goals (try first | (refine ⟨fun h => h, fun e he => ?_⟩; rw [Nat.zero_add]; done))
     all_goals (simp only [List.toList_toArray, w0, w1, w2, w3, w4, w5, Nat.zero_add, Nat.reduceAdd]; rfl)
    (conv => whnf)
    (repeat' ((first
     | with_reducible exact True.intro
     | ((with_reducible refine And.intro ?_ ?_); focus (with_reducible rfl))
     | (split <;> rename_i hh <;> (try simp only [wS] at hh) <;> (try simp (disch := omega) only [wT] at hh))
     | with_reducible refine And.intro (?_ : leA _ _ _) ?_
     | fail) <;> (conv => whnf)))
    all_goals (try (show _ = _; simp only [wQ]))
    all_goals try (
     have hz : x.2 = (zeroR, 4) := by
      refine hfail fun r hm hw => ?_
      rw [hrd r hm hw] at hh
      exact hh hw
     rw [hz] <;> rfl)
    have hz := hq.symm.trans (rqOf_yes (by assumption) (by assumption) hrd)
    refine ⟨⟨by omega, fun e he => rfl⟩, ?_⟩
    rw [hz]
    (conv => whnf)
    (repeat' ((first
     | with_reducible exact True.intro
     | ((with_reducible refine And.intro ?_ ?_); focus (with_reducible rfl))
     | with_reducible refine And.intro (?_ : leA _ _ _) ?_
     | fail) <;> (conv => whnf)))
    all_goals (try (show _ = _; simp only [wQ]))
    all_goals first | (simp only [List.toList_toArray, w0, w1, w2, w3, w4, w5, Nat.zero_add, Nat.reduceAdd]; rfl) | rfl | exact ⟨rfl, fun h => h, fun _ _ => True.intro⟩ | exact ⟨rfl, fun h => h, fun e _ => by simp only [Nat.zero_add]⟩
   ·have hx := ‹(_ : Int) ≤ (((c :: L : List Coupon).length : Nat) : Int)›
    try simp only [List.toList_toArray, w0, w1, w2, w3, w4, w5, Nat.zero_add, Nat.reduceAdd] at hx
    have hx2 : ¬ (c :: L).length < (sL (cutL 44 ((sL (cutL 32 x.1)).getD 4 []))).length := Nat.not_lt.2 (Int.ofNat_le.1 hx)
    try simp only [List.toList_toArray, w0, w1, w2, w3, w4, w5, Nat.zero_add, Nat.reduceAdd] at hh
    have hdash : ¬ ((sL (cutL 32 x.1)).getD 5 []) = [45] := hh
    refine ⟨?_, fun (T : List Tax) hT => ?_⟩
    ·(conv => whnf)
     refine ⟨([] : List Tax), [], ?_, ⟨⟨rfl, Nat.le_of_ble_eq_true rfl, rfl⟩, ?_, ?_⟩⟩
     ·exact ⟨Nat.zero_le _, rfl, fun w hw => by cases hw⟩
     ·(conv => whnf)
      (repeat' ((first | with_reducible exact True.intro | ((with_reducible refine And.intro ?_ ?_); focus (first | with_reducible rfl | omega | exact Nat.le_of_ble_eq_true rfl | rfl)) | with_reducible refine And.intro (?_ : leA _ _ _) ?_ | fail) <;> (conv => whnf)))
      all_goals (try simp only [wQ])
      all_goals (try first | rfl | exact ⟨fun h => h, fun _ _ => True.intro⟩)
     ·(conv => whnf)
      (repeat' ((first | with_reducible exact True.intro | ((with_reducible refine Or.inr ?_); rfl) | ((with_reducible refine And.intro ?_ ?_); focus (first | with_reducible rfl | omega | exact Nat.le_of_ble_eq_true rfl | rfl)) | with_reducible refine And.intro (?_ : leA _ _ _) ?_ | with_reducible refine And.intro (?_ : leL _ _ _) ?_ | with_reducible refine And.intro (?_ : leBlk _ _ _ _) ?_ | fail) <;> (conv => whnf)))
      all_goals (try simp only [wQ])
      all_goals (try first | rfl)
      all_goals (try first | exact fun _ _ => ⟨True.intro, rfl⟩)
    ·obtain ⟨t1, t2, t3⟩ := hT
     try simp only [List.toList_toArray, w0, w1, w2, w3, w4, w5, Nat.zero_add, Nat.reduceAdd] at t1 t2 t3
     change T.length ≤ (sL (cutL 44 ((sL (cutL 32 x.1)).getD 5 []))).length at t1
     change T = ((sL (cutL 44 ((sL (cutL 32 x.1)).getD 5 []))).take T.length).map (fun w => (txOf w).1) at t2
     change ∀ w ∈ (sL (cutL 44 ((sL (cutL 32 x.1)).getD 5 []))).take T.length, (txOf w).2 = true at t3
     rcases T with _ | ⟨t, T⟩
     ·(conv => whnf)
      (repeat' ((first
       | with_reducible exact True.intro
       | ((with_reducible refine And.intro ?_ ?_); focus (exact hm44 _ _))
       | (exact absurd (by with_reducible assumption) (hpot _))
       | ((with_reducible refine And.intro ?_ ?_); focus (first | with_reducible exact True.intro | with_reducible rfl | omega | ((with_reducible refine ⟨?_, ?_⟩) <;> first | with_reducible assumption | omega) | (simp only [growOk, ty2, ty3, ty4, ty5, ty9, ty21, ty37, ty42, ty43, ty45, ty47, ty67, ty95, ty105, ty113, ty150, ty161, ty198, ty242, ty275]; first | omega | (refine ⟨?_, ?_⟩ <;> omega)) | decide))
       | (conv => arg 2; change ! (sB _); simp only [List.toList_toArray, sB_eq, r0, r1, r2, r3, r4, r5, w0, w1, w2, w3, w4, w5, Nat.zero_add, Nat.reduceAdd, List.length_cons, List.length_nil])
       | (split <;> rename_i hh <;> (try simp only [wS] at hh) <;> (try simp (disch := omega) only [wT] at hh))
       | with_reducible refine And.intro (?_ : leA _ _ _) ?_
       | fail) <;> (conv => whnf)))
      all_goals (try (show _ = _; simp only [wQ]))
      all_goals try (
       have hz : x.2 = (zeroR, 4) := by
        have hi := ‹((([] : List Tax).length : Nat) : Int) < _›
        refine hfail fun r hm hw => ?_
        have hc := rd_1 hm hw hk2
        try simp only [List.toList_toArray, w0, w1, w2, w3, w4, w5, Nat.zero_add, Nat.reduceAdd] at hh
        try simp only [List.toList_toArray, w0, w1, w2, w3, w4, w5, Nat.zero_add, Nat.reduceAdd] at hi
        have hi2 : ([] : List Tax).length < (sL (cutL 44 ((sL (cutL 32 x.1)).getD 5 []))).length := Int.ofNat_lt.1 hi
        rcases hc.2.2.2.2.1 with ⟨a, a2⟩ | ⟨_, a1, a2⟩
        ·exact hdash (by rw [hsL, hc.1]; exact a2)
        ·have hb := back_ok (f := txOf) hi2 (l := r.taxes) (by rw [sL_eq, hsL, hc.1]; exact a1) a2
         unfold txOf at hb
         simp only [Bool.and_eq_true] at hb
         exact absurd (hh.symm.trans hb.1) (by decide)
       rw [hz] <;> rfl)
      all_goals try (
       have hz : x.2 = (zeroR, 4) := by
        have hi := ‹((([] : List Tax).length : Nat) : Int) < _›
        refine hfail fun r hm hw => ?_
        have hc := rd_1 hm hw hk2
        try simp only [List.toList_toArray, w0, w1, w2, w3, w4, w5, Nat.zero_add, Nat.reduceAdd] at hh
        try simp only [List.toList_toArray, w0, w1, w2, w3, w4, w5, Nat.zero_add, Nat.reduceAdd] at hi
        have hi2 : ([] : List Tax).length < (sL (cutL 44 ((sL (cutL 32 x.1)).getD 5 []))).length := Int.ofNat_lt.1 hi
        rcases hc.2.2.2.2.1 with ⟨a, a2⟩ | ⟨_, a1, a2⟩
        ·exact hdash (by rw [hsL, hc.1]; exact a2)
        ·have hb := back_ok (f := txOf) hi2 (l := r.taxes) (by rw [sL_eq, hsL, hc.1]; exact a1) a2
         unfold txOf at hb
         simp only [Bool.and_eq_true] at hb
         exact absurd (hh.symm.trans hb.2) (by decide)
       rw [hz] <;> rfl)
      ·have hi := ‹((([] : List Tax).length : Nat) : Int) < _›
       try simp only [List.toList_toArray, w0, w1, w2, w3, w4, w5, Nat.zero_add, Nat.reduceAdd] at hi
       have hi2 : ([] : List Tax).length < (sL (cutL 44 ((sL (cutL 32 x.1)).getD 5 []))).length := Int.ofNat_lt.1 hi
       have hp := ‹(pairV _).2.2 = true›
       try simp only [List.toList_toArray, w0, w1, w2, w3, w4, w5, Nat.zero_add, Nat.reduceAdd] at hh
       try simp only [List.toList_toArray, w0, w1, w2, w3, w4, w5, Nat.zero_add, Nat.reduceAdd] at hp
       have hh2 : (txOf ((sL (cutL 44 ((sL (cutL 32 x.1)).getD 5 []))).getD ([] : List Tax).length [])).2 = true := by
        unfold txOf; simp only [Bool.and_eq_true]; exact ⟨hp, hh⟩
       have g1 := take_snoc t2 hi2
       have g2 := all_snoc (p := fun w => (txOf w).2) t3 hi2 hh2
       (conv => whnf)
       refine ⟨((([] : List Tax) ++ [(txOf ((sL (cutL 44 ((sL (cutL 32 x.1)).getD 5 []))).getD ([] : List Tax).length [])).1]) : List Tax), [64], ?_, ⟨⟨rfl, Nat.le_of_ble_eq_true rfl, rfl⟩, ?_, ?_⟩⟩
       ·refine ⟨⟨?_, ?_, ?_⟩, ?_⟩ <;> (try simp only [List.toList_toArray, w0, w1, w2, w3, w4, w5, Nat.zero_add, Nat.reduceAdd])
        ·show (([] : List Tax) ++ [(txOf ((sL (cutL 44 ((sL (cutL 32 x.1)).getD 5 []))).getD ([] : List Tax).length [])).1]).length ≤ (sL (cutL 44 ((sL (cutL 32 x.1)).getD 5 []))).length
         rw [List.length_append]; exact hi2
        ·exact g1
        ·show ∀ w ∈ (sL (cutL 44 ((sL (cutL 32 x.1)).getD 5 []))).take (([] : List Tax) ++ [(txOf ((sL (cutL 44 ((sL (cutL 32 x.1)).getD 5 []))).getD ([] : List Tax).length [])).1]).length, (txOf w).2 = true
         rw [List.length_append]; exact g2
        ·show (sL (cutL 44 _)).length - (_ : List Tax).length < (sL (cutL 44 _)).length - (_ : List Tax).length
         try simp only [List.toList_toArray, w0, w1, w2, w3, w4, w5, Nat.zero_add, Nat.reduceAdd]
         show (sL (cutL 44 ((sL (cutL 32 x.1)).getD 5 []))).length - (([] : List Tax) ++ [(txOf ((sL (cutL 44 ((sL (cutL 32 x.1)).getD 5 []))).getD ([] : List Tax).length [])).1]).length < (sL (cutL 44 ((sL (cutL 32 x.1)).getD 5 []))).length - ([] : List Tax).length
         rw [List.length_append, List.length_singleton]; omega
       ·(conv => whnf)
        (repeat' ((first | with_reducible exact True.intro | ((with_reducible refine And.intro ?_ ?_); focus (first | with_reducible rfl | omega | exact Nat.le_of_ble_eq_true rfl | rfl)) | with_reducible refine And.intro (?_ : leA _ _ _) ?_ | fail) <;> (conv => whnf)))
        all_goals (try simp only [wQ])
        all_goals (try first | rfl | exact ⟨fun h => h, fun _ _ => True.intro⟩)
        all_goals simp
       ·(conv => whnf)
        (repeat' ((first | with_reducible exact True.intro | ((with_reducible refine Or.inr ?_); rfl) | ((with_reducible refine And.intro ?_ ?_); focus (first | with_reducible rfl | omega | exact Nat.le_of_ble_eq_true rfl | rfl)) | with_reducible refine And.intro (?_ : leA _ _ _) ?_ | with_reducible refine And.intro (?_ : leL _ _ _) ?_ | with_reducible refine And.intro (?_ : leBlk _ _ _ _) ?_ | fail) <;> (conv => whnf)))
        all_goals (try simp only [wQ])
        all_goals (try first | rfl)
        all_goals (try first | exact fun _ _ => ⟨True.intro, rfl⟩)
        all_goals try rfl
        all_goals try exact ⟨rfl, True.intro, True.intro, by simp, Or.inl True.intro⟩
        intro e he
        have he : e < 1 := he
        obtain rfl : e = 0 := by omega
        refine ⟨?_, rfl⟩
        try simp only [List.toList_toArray, w0, w1, w2, w3, w4, w5, Nat.zero_add, Nat.reduceAdd]
        unfold txOf
        rfl
     ·have t0 : T.length + 1 ≤ 1000001 := Nat.le_trans t1 (hb44 _)
      (conv => whnf)
      (repeat' ((first
       | with_reducible exact True.intro
       | ((with_reducible refine And.intro ?_ ?_); focus (exact hm44 _ _))
       | ((with_reducible refine And.intro ?_ ?_); focus (first | with_reducible exact True.intro | ((with_reducible refine ⟨?_, ?_, ?_⟩) <;> first | (intro e he; rcases (by omega : e = 0 ∨ e = 1 ∨ e = 2 ∨ e = 3 ∨ e = 4 ∨ e = 5) with rfl | rfl | rfl | rfl | rfl | rfl <;> first | rfl | (exfalso; omega)) | (with_reducible assumption) | omega | ((with_reducible show growOk _ _); simp only [growOk, ty2, ty3, ty4, ty5, ty9, ty21, ty37, ty42, ty43, ty45, ty47, ty67, ty95, ty105, ty113, ty150, ty161, ty198, ty242, ty275, List.length_cons, List.length_nil]; first | omega | (refine ⟨?_, ?_⟩ <;> omega))) | with_reducible rfl | omega | ((with_reducible refine ⟨?_, ?_⟩) <;> first | with_reducible assumption | omega) | (dsimp only at *; simp only [inK_def, Go.Vc.lo, Go.Vc.hi]; omega)))
       | (conv => arg 2; (first | change decide (_ + runeW _ _ < _) | change ! (sB _)); simp only [List.toList_toArray, sB_eq, r0, r1, r2, r3, r4, r5, w0, w1, w2, w3, w4, w5, Nat.zero_add, Nat.reduceAdd, List.length_cons, List.length_nil])
       | (split <;> rename_i hh <;> (try simp only [wS] at hh) <;> (try simp (disch := omega) only [wT] at hh))
       | with_reducible refine And.intro (?_ : leA _ _ _) ?_
       | fail) <;> (conv => whnf)))
      all_goals (try (show _ = _; simp only [wQ]))
      all_goals try (
       have hz : x.2 = (zeroR, 4) := by
        have hi := ‹(((t :: T : List Tax).length : Nat) : Int) < _›
        refine hfail fun r hm hw => ?_
        have hc := rd_1 hm hw hk2
        try simp only [List.toList_toArray, w0, w1, w2, w3, w4, w5, Nat.zero_add, Nat.reduceAdd] at hh
        try simp only [List.toList_toArray, w0, w1, w2, w3, w4, w5, Nat.zero_add, Nat.reduceAdd] at hi
        have hi2 : (t :: T : List Tax).length < (sL (cutL 44 ((sL (cutL 32 x.1)).getD 5 []))).length := Int.ofNat_lt.1 hi
        rcases hc.2.2.2.2.1 with ⟨a, a2⟩ | ⟨_, a1, a2⟩
        ·exact hdash (by rw [hsL, hc.1]; exact a2)
        ·have hb := back_ok (f := txOf) hi2 (l := r.taxes) (by rw [sL_eq, hsL, hc.1]; exact a1) a2
         unfold txOf at hb
         simp only [Bool.and_eq_true] at hb
         exact absurd (hh.symm.trans hb.1) (by decide)
       rw [hz] <;> rfl)
      all_goals try (
       have hz : x.2 = (zeroR, 4) := by
        have hi := ‹(((t :: T : List Tax).length : Nat) : Int) < _›
        refine hfail fun r hm hw => ?_
        have hc := rd_1 hm hw hk2
        try simp only [List.toList_toArray, w0, w1, w2, w3, w4, w5, Nat.zero_add, Nat.reduceAdd] at hh
        try simp only [List.toList_toArray, w0, w1, w2, w3, w4, w5, Nat.zero_add, Nat.reduceAdd] at hi
        have hi2 : (t :: T : List Tax).length < (sL (cutL 44 ((sL (cutL 32 x.1)).getD 5 []))).length := Int.ofNat_lt.1 hi
        rcases hc.2.2.2.2.1 with ⟨a, a2⟩ | ⟨_, a1, a2⟩
        ·exact hdash (by rw [hsL, hc.1]; exact a2)
        ·have hb := back_ok (f := txOf) hi2 (l := r.taxes) (by rw [sL_eq, hsL, hc.1]; exact a1) a2
         unfold txOf at hb
         simp only [Bool.and_eq_true] at hb
         exact absurd (hh.symm.trans hb.2) (by decide)
       rw [hz] <;> rfl)
      ·have hi := ‹(((t :: T : List Tax).length : Nat) : Int) < _›
       try simp only [List.toList_toArray, w0, w1, w2, w3, w4, w5, Nat.zero_add, Nat.reduceAdd] at hi
       have hi2 : (t :: T : List Tax).length < (sL (cutL 44 ((sL (cutL 32 x.1)).getD 5 []))).length := Int.ofNat_lt.1 hi
       have hp := ‹(pairV _).2.2 = true›
       try simp only [List.toList_toArray, w0, w1, w2, w3, w4, w5, Nat.zero_add, Nat.reduceAdd] at hh
       try simp only [List.toList_toArray, w0, w1, w2, w3, w4, w5, Nat.zero_add, Nat.reduceAdd] at hp
       have hh2 : (txOf ((sL (cutL 44 ((sL (cutL 32 x.1)).getD 5 []))).getD (t :: T : List Tax).length [])).2 = true := by
        unfold txOf; simp only [Bool.and_eq_true]; exact ⟨hp, hh⟩
       have g1 := take_snoc t2 hi2
       have g2 := all_snoc (p := fun w => (txOf w).2) t3 hi2 hh2
       (conv => whnf)
       refine ⟨(((t :: T : List Tax) ++ [(txOf ((sL (cutL 44 ((sL (cutL 32 x.1)).getD 5 []))).getD (t :: T : List Tax).length [])).1]) : List Tax), [64], ?_, ⟨⟨rfl, Nat.le_of_ble_eq_true rfl, rfl⟩, ?_, ?_⟩⟩
       ·refine ⟨⟨?_, ?_, ?_⟩, ?_⟩ <;> (try simp only [List.toList_toArray, w0, w1, w2, w3, w4, w5, Nat.zero_add, Nat.reduceAdd])
        ·show ((t :: T : List Tax) ++ [(txOf ((sL (cutL 44 ((sL (cutL 32 x.1)).getD 5 []))).getD (t :: T : List Tax).length [])).1]).length ≤ (sL (cutL 44 ((sL (cutL 32 x.1)).getD 5 []))).length
         rw [List.length_append]; exact hi2
        ·exact g1
        ·show ∀ w ∈ (sL (cutL 44 ((sL (cutL 32 x.1)).getD 5 []))).take ((t :: T : List Tax) ++ [(txOf ((sL (cutL 44 ((sL (cutL 32 x.1)).getD 5 []))).getD (t :: T : List Tax).length [])).1]).length, (txOf w).2 = true
         rw [List.length_append]; exact g2
        ·show (sL (cutL 44 _)).length - (_ : List Tax).length < (sL (cutL 44 _)).length - (_ : List Tax).length
         try simp only [List.toList_toArray, w0, w1, w2, w3, w4, w5, Nat.zero_add, Nat.reduceAdd]
         show (sL (cutL 44 ((sL (cutL 32 x.1)).getD 5 []))).length - ((t :: T : List Tax) ++ [(txOf ((sL (cutL 44 ((sL (cutL 32 x.1)).getD 5 []))).getD (t :: T : List Tax).length [])).1]).length < (sL (cutL 44 ((sL (cutL 32 x.1)).getD 5 []))).length - (t :: T : List Tax).length
         rw [List.length_append, List.length_singleton]; omega
       ·(conv => whnf)
        (repeat' ((first | with_reducible exact True.intro | ((with_reducible refine And.intro ?_ ?_); focus (first | with_reducible rfl | omega | exact Nat.le_of_ble_eq_true rfl | rfl)) | with_reducible refine And.intro (?_ : leA _ _ _) ?_ | fail) <;> (conv => whnf)))
        all_goals (try simp only [wQ])
        all_goals (try first | exact ⟨fun h => h, fun _ _ => True.intro⟩)
        all_goals simp
       ·(conv => whnf)
        (repeat' ((first | with_reducible exact True.intro | ((with_reducible refine Or.inr ?_); rfl) | ((with_reducible refine And.intro ?_ ?_); focus (first | with_reducible rfl | omega | exact Nat.le_of_ble_eq_true rfl | rfl)) | with_reducible refine And.intro (?_ : leA _ _ _) ?_ | with_reducible refine And.intro (?_ : leL _ _ _) ?_ | with_reducible refine And.intro (?_ : leBlk _ _ _ _) ?_ | fail) <;> (conv => whnf)))
        all_goals (try simp only [wQ])
        all_goals (try first | rfl)
        all_goals (try first | exact fun _ _ => ⟨True.intro, rfl⟩ | exact ⟨by simp, Or.inl trivial⟩)
        all_goals try rfl
        all_goals try exact ⟨rfl, True.intro, True.intro, by simp, Or.inl True.intro⟩
        exact ⟨by simp, fun e he => ⟨cat_encn (enc := Tax.enc) (l := (t :: T : List Tax)) rfl (fun _ _ => rfl) (by try simp only [List.toList_toArray, w0, w1, w2, w3, w4, w5, Nat.zero_add, Nat.reduceAdd]; unfold txOf; rfl) (by simpa using he), rfl⟩⟩
      ·have hy := ‹(_ : Int) ≤ (((t :: T : List Tax).length : Nat) : Int)›
       try simp only [List.toList_toArray, w0, w1, w2, w3, w4, w5, Nat.zero_add, Nat.reduceAdd] at hy
       have hy2 : ¬ (t :: T).length < (sL (cutL 44 ((sL (cutL 32 x.1)).getD 5 []))).length := Nat.not_lt.2 (Int.ofNat_le.1 hy)
       have hrd : ∀ r, mayReqB r = true → reqW r = x.1 → (⟨((sL (cutL 32 x.1)).getD 1 []), 1, (wholeN ((sL (cutL 32 x.1)).getD 2 [])).1, 0, 0, 0, ((sL (cutL 32 x.1)).getD 3 []), c :: L, t :: T, 0, 0, 0⟩ : Request) = r := fun r hm hw => by
        have hc := rd_1 hm hw hk2
        have eL : c :: L = r.coupons := back_done q2 q1 hx2 (by rw [sL_eq, hsL, hc.1]; exact hc.2.2.2.1.1) hc.2.2.2.1.2
        have eX : t :: T = r.taxes := by
         rcases hc.2.2.2.2.1 with ⟨a, a2⟩ | ⟨_, a1, a2⟩
         ·exact absurd (by rw [hsL, hc.1]; exact a2) hdash
         ·exact back_done t2 t1 hy2 (by rw [sL_eq, hsL, hc.1]; exact a1) a2
        refine Eq.trans ?_ hc.2.1.symm
        rw [← eL, ← eX] at hc ⊢
        rw [hsL, hc.1]; simp only [List.getD_cons_zero, List.getD_cons_succ, hc.2.2.1]
       refine ⟨⟨by omega, fun e he => rfl⟩, ?_⟩
       refine ⟨⟨by omega, fun e he => rfl⟩, ?_⟩
       refine ⟨(⟨((sL (cutL 32 x.1)).getD 1 []), 1, (wholeN ((sL (cutL 32 x.1)).getD 2 [])).1, 0, 0, 0, ((sL (cutL 32 x.1)).getD 3 []), c :: L, t :: T, 0, 0, 0⟩ : Request), ⟨Nat.le_trans q0 (by decide), Nat.le_trans t0 (by decide)⟩, ?_, ?_⟩
       ·(conv => whnf)
        (repeat' ((first | with_reducible exact True.intro | ((with_reducible refine And.intro ?_ ?_); focus (first | with_reducible rfl | omega | exact Nat.le_of_ble_eq_true rfl | rfl)) | with_reducible refine And.intro (?_ : leA _ _ _) ?_ | fail) <;> (conv => whnf)))
        all_goals (try simp only [wQ])
        all_goals (try first | (refine ⟨fun h => h, fun e he => ?_⟩; rw [Nat.zero_add]; done))
        all_goals (simp only [List.toList_toArray, w0, w1, w2, w3, w4, w5, Nat.zero_add, Nat.reduceAdd]; rfl)
       (conv => whnf)
       (repeat' ((first
        | with_reducible exact True.intro
        | ((with_reducible refine And.intro ?_ ?_); focus (with_reducible rfl))
        | (conv => arg 2; change ! (sB _); simp only [List.toList_toArray, sB_eq, r0, r1, r2, r3, r4, r5, w0, w1, w2, w3, w4, w5, Nat.zero_add, Nat.reduceAdd, List.length_cons, List.length_nil])
        | (split <;> rename_i hh <;> (try simp only [wS] at hh) <;> (try simp (disch := omega) only [wT] at hh))
        | with_reducible refine And.intro (?_ : leA _ _ _) ?_
        | fail) <;> (conv => whnf)))
       all_goals (try (show _ = _; simp only [wQ]))
       all_goals try (
        have hz : x.2 = (zeroR, 4) := by
         refine hfail fun r hm hw => ?_
         rw [hrd r hm hw, hm] at hh
         cases hh
        rw [hz] <;> rfl)
       refine ⟨⟨by omega, fun e he => rfl⟩, ?_⟩
       refine ⟨⟨by omega, fun e he => rfl⟩, ?_⟩
       refine ⟨(⟨((sL (cutL 32 x.1)).getD 1 []), 1, (wholeN ((sL (cutL 32 x.1)).getD 2 [])).1, 0, 0, 0, ((sL (cutL 32 x.1)).getD 3 []), c :: L, t :: T, 0, 0, 0⟩ : Request), ⟨Nat.le_trans q0 (by decide), Nat.le_trans t0 (by decide)⟩, ?_, ?_⟩
       ·(conv => whnf)
        (repeat' ((first | with_reducible exact True.intro | ((with_reducible refine And.intro ?_ ?_); focus (first | with_reducible rfl | omega | exact Nat.le_of_ble_eq_true rfl | rfl)) | with_reducible refine And.intro (?_ : leA _ _ _) ?_ | fail) <;> (conv => whnf)))
        all_goals (try simp only [wQ])
        all_goals (try first | (refine ⟨fun h => h, fun e he => ?_⟩; rw [Nat.zero_add]; done))
        all_goals (simp only [List.toList_toArray, w0, w1, w2, w3, w4, w5, Nat.zero_add, Nat.reduceAdd]; rfl)
       (conv => whnf)
       (repeat' ((first
        | with_reducible exact True.intro
        | ((with_reducible refine And.intro ?_ ?_); focus (with_reducible rfl))
        | (split <;> rename_i hh <;> (try simp only [wS] at hh) <;> (try simp (disch := omega) only [wT] at hh))
        | with_reducible refine And.intro (?_ : leA _ _ _) ?_
        | fail) <;> (conv => whnf)))
       all_goals (try (show _ = _; simp only [wQ]))
       all_goals try (
        have hz : x.2 = (zeroR, 4) := by
         refine hfail fun r hm hw => ?_
         rw [hrd r hm hw] at hh
         exact hh hw
        rw [hz] <;> rfl)
       have hz := hq.symm.trans (rqOf_yes (by assumption) (by assumption) hrd)
       refine ⟨⟨by omega, fun e he => rfl⟩, ?_⟩
       refine ⟨⟨by omega, fun e he => rfl⟩, ?_⟩
       rw [hz]
       (conv => whnf)
       (repeat' ((first
        | with_reducible exact True.intro
        | ((with_reducible refine And.intro ?_ ?_); focus (with_reducible rfl))
        | with_reducible refine And.intro (?_ : leA _ _ _) ?_
        | fail) <;> (conv => whnf)))
       all_goals (try (show _ = _; simp only [wQ]))
       all_goals first | (simp only [List.toList_toArray, w0, w1, w2, w3, w4, w5, Nat.zero_add, Nat.reduceAdd]; rfl) | rfl | exact ⟨rfl, fun h => h, fun _ _ => True.intro⟩ | exact ⟨rfl, fun h => h, fun e _ => by simp only [Nat.zero_add]⟩
end
end Go.Vc.Z
namespace Go.Vc.Z
open Go Go.Vc Go.Proofs Go.RowKit Go.Pl Go.Lib
noncomputable section
set_option maxRecDepth 100000
set_option linter.unusedSimpArgs false
set_option linter.unusedVariables false
attribute [local irreducible] inK Utf8.decode Utf8.encode Lib.itoa Pl.worth Pl.allDig
attribute [local irreducible] Lib.join cut2 cutL
def pcReqOf5 : PC := PC.of (fun x : List UInt8 × Request × Int => [.str x.1]) (fun x => rqOf x.1 = x.2 ∧ x.1.length ≤ 1000000 ∧ kindOf ((cutL 32 x.1).getD 0 []) = 5) (fun x => .tup [.agg x.2.1.enc, .int .i64 x.2.2])
def L_reqOf5 : List UInt8 × Request × Int → Nat → Option LR := fun x i => cond (Nat.beq i 8) (some (.unroll 7)) (none)
set_option maxHeartbeats 4000000 in
theorem g_reqOf5 {W : World} (hW : Tabs W) : GoodP (Fw W) Tryz.prog 26 pcReqOf5 := by
 have hD := d_reqOfA hW
 have hC0 : ∀ x : List UInt8 × Request × Int, CtrOk (Fw W) Tryz.prog C17_reqOfA := fun x => (c17_reqOfA hW)
 refine goodP_ofC (D := D_reqOfA) (C := fun x => C17_reqOfA) (wr := (fun _ => false)) rfl tyOk hD hC0 Tryz.func26 (L_reqOf5) (fun _ => rfl) ?_
 intro x hf hp
 clear hf
 obtain ⟨hq, hs, hk2⟩ := hp
 have hcut := cutL_le 32 x.1
 have hlen1 := cutL_len 32 x.1
 have hsL := sL_eq (cutL 32 x.1)
 have hl1 : 1 ≤ (sL (cutL 32 x.1)).length := by rw [hsL]; exact hlen1
 have hmem : ∀ i, ((sL (cutL 32 x.1)).getD i []).length ≤ 1000000 := fun i => by
  rw [hsL, List.getD_eq_getElem?_getD]
  cases h : (cutL 32 x.1)[i]? with
  | none => simp
  | some w => have := (cutL_mem x.1 w (List.mem_of_getElem? h)).1; simp; omega
 have hfail : (∀ r, mayReqB r = true → reqW r = x.1 → False) → x.2 = (zeroR, 4) := fun h => by rw [← hq]; exact rqOf_no h
 have hk : kindOf ((sL (cutL 32 x.1)).getD (Int.toNat 0) []) = 5 := by rw [hsL]; exact hk2
 have hk2 : kindOf ((cutL 32 x.1).getD 0 []) = 5 := by rw [hsL] at hk; exact hk
 have hm44 : ∀ p i, ((sL (cutL 44 ((sL (cutL 32 x.1)).getD p []))).getD i []).length ≤ 100000000 := fun p i => cut_small (Nat.le_trans (hmem p) (by decide)) i
 have hpos : ∀ p, ¬ (((sL (cutL 44 ((sL (cutL 32 x.1)).getD p []))).length : Int) ≤ (([] : List Coupon).length : Int)) := fun p h => by have := cutL_len 44 ((sL (cutL 32 x.1)).getD p []); rw [← sL_eq (cutL 44 _)] at this; have h : (_ : Int) ≤ 0 := h; omega
 have hpot : ∀ p, ¬ (((sL (cutL 44 ((sL (cutL 32 x.1)).getD p []))).length : Int) ≤ (([] : List Tax).length : Int)) := fun p h => by have := cutL_len 44 ((sL (cutL 32 x.1)).getD p []); rw [← sL_eq (cutL 44 _)] at this; have h : (_ : Int) ≤ 0 := h; omega
 have hb44 : ∀ p, (sL (cutL 44 ((sL (cutL 32 x.1)).getD p []))).length ≤ 1000001 := fun p => by rw [sL_eq]; exact Nat.le_trans (cutL_le _ _) (Nat.succ_le_succ (hmem p))
 obtain ⟨r0, w0⟩ := ascii_at (l := [75, 68, 84, 65, 67, 88]) 0 (by decide) (by decide)
 obtain ⟨r1, w1⟩ := ascii_at (l := [75, 68, 84, 65, 67, 88]) 1 (by decide) (by decide)
 obtain ⟨r2, w2⟩ := ascii_at (l := [75, 68, 84, 65, 67, 88]) 2 (by decide) (by decide)
 obtain ⟨r3, w3⟩ := ascii_at (l := [75, 68, 84, 65, 67, 88]) 3 (by decide) (by decide)
 obtain ⟨r4, w4⟩ := ascii_at (l := [75, 68, 84, 65, 67, 88]) 4 (by decide) (by decide)
 obtain ⟨r5, w5⟩ := ascii_at (l := [75, 68, 84, 65, 67, 88]) 5 (by decide) (by decide)
 have v0 : runeW (⟨#[75, 68, 84, 65, 67, 88]⟩ : ByteArray).data.toList 0 = 1 := w0
 have v1 : runeW (⟨#[75, 68, 84, 65, 67, 88]⟩ : ByteArray).data.toList (0 + runeW (⟨#[75, 68, 84, 65, 67, 88]⟩ : ByteArray).data.toList 0) = 1 := by rw [v0]; exact w1
 have v2 : runeW (⟨#[75, 68, 84, 65, 67, 88]⟩ : ByteArray).data.toList ((0 + runeW (⟨#[75, 68, 84, 65, 67, 88]⟩ : ByteArray).data.toList 0) + runeW (⟨#[75, 68, 84, 65, 67, 88]⟩ : ByteArray).data.toList (0 + runeW (⟨#[75, 68, 84, 65, 67, 88]⟩ : ByteArray).data.toList 0)) = 1 := by rw [v1, v0]; exact w2
 have v3 : runeW (⟨#[75, 68, 84, 65, 67, 88]⟩ : ByteArray).data.toList (((0 + runeW (⟨#[75, 68, 84, 65, 67, 88]⟩ : ByteArray).data.toList 0) + runeW (⟨#[75, 68, 84, 65, 67, 88]⟩ : ByteArray).data.toList (0 + runeW (⟨#[75, 68, 84, 65, 67, 88]⟩ : ByteArray).data.toList 0)) + runeW (⟨#[75, 68, 84, 65, 67, 88]⟩ : ByteArray).data.toList ((0 + runeW (⟨#[75, 68, 84, 65, 67, 88]⟩ : ByteArray).data.toList 0) + runeW (⟨#[75, 68, 84, 65, 67, 88]⟩ : ByteArray).data.toList (0 + runeW (⟨#[75, 68, 84, 65, 67, 88]⟩ : ByteArray).data.toList 0))) = 1 := by rw [v2, v1, v0]; exact w3
 have v4 : runeW (⟨#[75, 68, 84, 65, 67, 88]⟩ : ByteArray).data.toList ((((0 + runeW (⟨#[75, 68, 84, 65, 67, 88]⟩ : ByteArray).data.toList 0) + runeW (⟨#[75, 68, 84, 65, 67, 88]⟩ : ByteArray).data.toList (0 + runeW (⟨#[75, 68, 84, 65, 67, 88]⟩ : ByteArray).data.toList 0)) + runeW (⟨#[75, 68, 84, 65, 67, 88]⟩ : ByteArray).data.toList ((0 + runeW (⟨#[75, 68, 84, 65, 67, 88]⟩ : ByteArray).data.toList 0) + runeW (⟨#[75, 68, 84, 65, 67, 88]⟩ : ByteArray).data.toList (0 + runeW (⟨#[75, 68, 84, 65, 67, 88]⟩ : ByteArray).data.toList 0))) + runeW (⟨#[75, 68, 84, 65, 67, 88]⟩ : ByteArray).data.toList (((0 + runeW (⟨#[75, 68, 84, 65, 67, 88]⟩ : ByteArray).data.toList 0) + runeW (⟨#[75, 68, 84, 65, 67, 88]⟩ : ByteArray).data.toList (0 + runeW (⟨#[75, 68, 84, 65, 67, 88]⟩ : ByteArray).data.toList 0)) + runeW (⟨#[75, 68, 84, 65, 67, 88]⟩ : ByteArray).data.toList ((0 + runeW (⟨#[75, 68, 84, 65, 67, 88]⟩ : ByteArray).data.toList 0) + runeW (⟨#[75, 68, 84, 65, 67, 88]⟩ : ByteArray).data.toList (0 + runeW (⟨#[75, 68, 84, 65, 67, 88]⟩ : ByteArray).data.toList 0)))) = 1 := by rw [v3, v2, v1, v0]; exact w4
 have v5 : runeW (⟨#[75, 68, 84, 65, 67, 88]⟩ : ByteArray).data.toList (((((0 + runeW (⟨#[75, 68, 84, 65, 67, 88]⟩ : ByteArray).data.toList 0) + runeW (⟨#[75, 68, 84, 65, 67, 88]⟩ : ByteArray).data.toList (0 + runeW (⟨#[75, 68, 84, 65, 67, 88]⟩ : ByteArray).data.toList 0)) + runeW (⟨#[75, 68, 84, 65, 67, 88]⟩ : ByteArray).data.toList ((0 + runeW (⟨#[75, 68, 84, 65, 67, 88]⟩ : ByteArray).data.toList 0) + runeW (⟨#[75, 68, 84, 65, 67, 88]⟩ : ByteArray).data.toList (0 + runeW (⟨#[75, 68, 84, 65, 67, 88]⟩ : ByteArray).data.toList 0))) + runeW (⟨#[75, 68, 84, 65, 67, 88]⟩ : ByteArray).data.toList (((0 + runeW (⟨#[75, 68, 84, 65, 67, 88]⟩ : ByteArray).data.toList 0) + runeW (⟨#[75, 68, 84, 65, 67, 88]⟩ : ByteArray).data.toList (0 + runeW (⟨#[75, 68, 84, 65, 67, 88]⟩ : ByteArray).data.toList 0)) + runeW (⟨#[75, 68, 84, 65, 67, 88]⟩ : ByteArray).data.toList ((0 + runeW (⟨#[75, 68, 84, 65, 67, 88]⟩ : ByteArray).data.toList 0) + runeW (⟨#[75, 68, 84, 65, 67, 88]⟩ : ByteArray).data.toList (0 + runeW (⟨#[75, 68, 84, 65, 67, 88]⟩ : ByteArray).data.toList 0)))) + runeW (⟨#[75, 68, 84, 65, 67, 88]⟩ : ByteArray).data.toList ((((0 + runeW (⟨#[75, 68, 84, 65, 67, 88]⟩ : ByteArray).data.toList 0) + runeW (⟨#[75, 68, 84, 65, 67, 88]⟩ : ByteArray).data.toList (0 + runeW (⟨#[75, 68, 84, 65, 67, 88]⟩ : ByteArray).data.toList 0)) + runeW (⟨#[75, 68, 84, 65, 67, 88]⟩ : ByteArray).data.toList ((0 + runeW (⟨#[75, 68, 84, 65, 67, 88]⟩ : ByteArray).data.toList 0) + runeW (⟨#[75, 68, 84, 65, 67, 88]⟩ : ByteArray).data.toList (0 + runeW (⟨#[75, 68, 84, 65, 67, 88]⟩ : ByteArray).data.toList 0))) + runeW (⟨#[75, 68, 84, 65, 67, 88]⟩ : ByteArray).data.toList (((0 + runeW (⟨#[75, 68, 84, 65, 67, 88]⟩ : ByteArray).data.toList 0) + runeW (⟨#[75, 68, 84, 65, 67, 88]⟩ : ByteArray).data.toList (0 + runeW (⟨#[75, 68, 84, 65, 67, 88]⟩ : ByteArray).data.toList 0)) + runeW (⟨#[75, 68, 84, 65, 67, 88]⟩ : ByteArray).data.toList ((0 + runeW (⟨#[75, 68, 84, 65, 67, 88]⟩ : ByteArray).data.toList 0) + runeW (⟨#[75, 68, 84, 65, 67, 88]⟩ : ByteArray).data.toList (0 + runeW (⟨#[75, 68, 84, 65, 67, 88]⟩ : ByteArray).data.toList 0))))) = 1 := by rw [v4, v3, v2, v1, v0]; exact w5
 have hrow : (([75, 68, 84, 65, 67, 88] : List UInt8).length : Int) = 6 := rfl
 (conv => whnf)
 (repeat' ((first
  | ((with_reducible refine And.intro ?_ ?_); focus (omega))
  | fail) <;> (conv => whnf)))
 all_goals (try (show _ = _; simp only [wQ]))
 refine ⟨(((sL (cutL 32 x.1)).getD (Int.toNat 0) [], (5 : Int)) : List UInt8 × Int), hk, ?_, ?_⟩
 ·exact leL_rfl _
 (conv => whnf)
 (repeat' ((first
  | with_reducible exact True.intro
  | (with_reducible refine inl_intro ?_)
  | ((with_reducible refine And.intro ?_ ?_); focus (exact Nat.le_trans (hmem _) (Nat.le_of_ble_eq_true rfl)))
  | ((with_reducible refine And.intro ?_ ?_); focus (first | with_reducible exact True.intro | ((with_reducible show okB _ _ _ = true); rfl) | with_reducible rfl | omega | (simp only [inK_def, Go.Vc.lo, Go.Vc.hi]; omega) | (dsimp only at *; simp only [inK_def, Go.Vc.lo, Go.Vc.hi]; omega)))
  | (conv => arg 2; (first | change eqI (runeAt _ _) _ | change decide (_ + runeW _ _ < _) | change ! (sB _)); simp only [List.toList_toArray, sB_eq, r0, r1, r2, r3, r4, r5, w0, w1, w2, w3, w4, w5, Nat.zero_add, Nat.reduceAdd, List.length_cons, List.length_nil])
  | (split <;> rename_i hh <;> (try simp only [wS] at hh) <;> (try simp (disch := omega) only [wT] at hh))
  | with_reducible refine (fun (hln : (_ : Int) ≤ 9223372036854775807) => ?_)
  | with_reducible refine And.intro (?_ : leA _ _ _) ?_
  | fail) <;> (conv => whnf)))
 all_goals (try (show _ = _; simp only [wQ]))
 all_goals try (
  have hz : x.2 = (zeroR, 4) := by
   refine hfail fun r hm hw => ?_
   have hc := rd_5 hm hw hk2
   try simp only [List.toList_toArray, w0, w1, w2, w3, w4, w5, Nat.zero_add, Nat.reduceAdd] at hh
   rw [hsL, hc.1] at hh
   first | exact hh rfl | (cases hh.symm.trans (congrArg Prod.snd hc.2.2.1)) | (exact absurd (congrArg Prod.snd hc.2.2.2.1) hh) | (exact absurd (congrArg Prod.snd hc.2.2.2.2.1) hh)
  rw [hz] <;> rfl)
 refine ⟨?_, fun (L : List Coupon) hL => ?_⟩
 ·(conv => whnf)
  refine ⟨([] : List Coupon), [], ?_, ⟨⟨rfl, Nat.le_of_ble_eq_true rfl, rfl⟩, ?_, ?_⟩⟩
  ·exact ⟨Nat.zero_le _, rfl, fun w hw => by cases hw⟩
  ·(conv => whnf)
   (repeat' ((first | with_reducible exact True.intro | ((with_reducible refine And.intro ?_ ?_); focus (first | with_reducible rfl | omega | exact Nat.le_of_ble_eq_true rfl | rfl)) | with_reducible refine And.intro (?_ : leA _ _ _) ?_ | fail) <;> (conv => whnf)))
   all_goals (try simp only [wQ])
   all_goals (try first | rfl | exact ⟨fun h => h, fun _ _ => True.intro⟩)
  ·(conv => whnf)
   (repeat' ((first | with_reducible exact True.intro | ((with_reducible refine And.intro ?_ ?_); focus (first | with_reducible rfl | omega | exact Nat.le_of_ble_eq_true rfl | rfl)) | with_reducible refine And.intro (?_ : leA _ _ _) ?_ | with_reducible refine And.intro (?_ : leL _ _ _) ?_ | with_reducible refine And.intro (?_ : leBlk _ _ _ _) ?_ | fail) <;> (conv => whnf)))
   all_goals (try simp only [wQ])
   all_goals (try first | rfl)
 ·obtain ⟨q1, q2, q3⟩ := hL
  try simp only [List.toList_toArray, w0, w1, w2, w3, w4, w5, Nat.zero_add, Nat.reduceAdd] at q1 q2 q3
  change L.length ≤ (sL (cutL 44 ((sL (cutL 32 x.1)).getD 5 []))).length at q1
  change L = ((sL (cutL 44 ((sL (cutL 32 x.1)).getD 5 []))).take L.length).map (fun w => (flOf w).1) at q2
  change ∀ w ∈ (sL (cutL 44 ((sL (cutL 32 x.1)).getD 5 []))).take L.length, (flOf w).2 = true at q3
  rcases L with _ | ⟨c, L⟩
  ·(conv => whnf)
   (repeat' ((first
    | with_reducible exact True.intro
    | ((with_reducible refine And.intro ?_ ?_); focus (exact hm44 _ _))
    | (exact absurd (by with_reducible assumption) (hpos _))
    | with_reducible refine And.intro (?_ : opQ _ _ _ _ _ _) ?_
    | ((with_reducible refine And.intro ?_ ?_); focus (first | ((with_reducible show okQ _ _ = true); rfl) | with_reducible rfl | omega | ((with_reducible refine ⟨?_, ?_⟩) <;> first | with_reducible assumption | omega) | (simp only [growOk, ty2, ty3, ty4, ty5, ty9, ty21, ty37, ty42, ty43, ty45, ty47, ty67, ty95, ty105, ty113, ty150, ty161, ty198, ty242, ty275]; first | omega | (refine ⟨?_, ?_⟩ <;> omega)) | decide))
    | (conv => arg 2; change ! (sB _); simp only [List.toList_toArray, sB_eq, r0, r1, r2, r3, r4, r5, w0, w1, w2, w3, w4, w5, Nat.zero_add, Nat.reduceAdd, List.length_cons, List.length_nil])
    | (split <;> rename_i hh <;> (try simp only [wS] at hh) <;> (try simp (disch := omega) only [wT] at hh))
    | with_reducible refine And.intro (?_ : leA _ _ _) ?_
    | fail) <;> (conv => whnf)))
   all_goals (try (show _ = _; simp only [wQ]))
   all_goals try (
    have hz : x.2 = (zeroR, 4) := by
     have hi := ‹((([] : List Coupon).length : Nat) : Int) < _›
     refine hfail fun r hm hw => ?_
     have hc := rd_5 hm hw hk2
     try simp only [List.toList_toArray, w0, w1, w2, w3, w4, w5, Nat.zero_add, Nat.reduceAdd] at hh
     try simp only [List.toList_toArray, w0, w1, w2, w3, w4, w5, Nat.zero_add, Nat.reduceAdd] at hi
     have hi2 : ([] : List Coupon).length < (sL (cutL 44 ((sL (cutL 32 x.1)).getD 5 []))).length := Int.ofNat_lt.1 hi
     exact absurd (hh.symm.trans (back_ok (f := flOf) hi2 (l := r.coupons) (by rw [sL_eq, hsL, hc.1]; exact hc.2.2.2.2.2.1.1) hc.2.2.2.2.2.1.2)) (by decide)
    rw [hz] <;> rfl)
   ·have hi := ‹((([] : List Coupon).length : Nat) : Int) < _›
    try simp only [List.toList_toArray, w0, w1, w2, w3, w4, w5, Nat.zero_add, Nat.reduceAdd] at hi
    have hi2 : ([] : List Coupon).length < (sL (cutL 44 ((sL (cutL 32 x.1)).getD 5 []))).length := Int.ofNat_lt.1 hi
    try simp only [List.toList_toArray, w0, w1, w2, w3, w4, w5, Nat.zero_add, Nat.reduceAdd] at hh
    have hh2 : (flOf ((sL (cutL 44 ((sL (cutL 32 x.1)).getD 5 []))).getD ([] : List Coupon).length [])).2 = true := hh
    have g1 := take_snoc q2 hi2
    have g2 := all_snoc (p := fun w => (flOf w).2) q3 hi2 hh2
    (conv => whnf)
    refine ⟨((([] : List Coupon) ++ [(flOf ((sL (cutL 44 ((sL (cutL 32 x.1)).getD 5 []))).getD ([] : List Coupon).length [])).1]) : List Coupon), [64], ?_, ⟨⟨rfl, Nat.le_of_ble_eq_true rfl, rfl⟩, ?_, ?_⟩⟩
    ·refine ⟨⟨?_, ?_, ?_⟩, ?_⟩ <;> (try simp only [List.toList_toArray, w0, w1, w2, w3, w4, w5, Nat.zero_add, Nat.reduceAdd])
     ·show (([] : List Coupon) ++ [(flOf ((sL (cutL 44 ((sL (cutL 32 x.1)).getD 5 []))).getD ([] : List Coupon).length [])).1]).length ≤ (sL (cutL 44 ((sL (cutL 32 x.1)).getD 5 []))).length
      rw [List.length_append]; exact hi2
     ·exact g1
     ·show ∀ w ∈ (sL (cutL 44 ((sL (cutL 32 x.1)).getD 5 []))).take (([] : List Coupon) ++ [(flOf ((sL (cutL 44 ((sL (cutL 32 x.1)).getD 5 []))).getD ([] : List Coupon).length [])).1]).length, (flOf w).2 = true
      rw [List.length_append]; exact g2
     ·show (sL (cutL 44 _)).length - (_ : List Coupon).length < (sL (cutL 44 _)).length - (_ : List Coupon).length
      try simp only [List.toList_toArray, w0, w1, w2, w3, w4, w5, Nat.zero_add, Nat.reduceAdd]
      show (sL (cutL 44 ((sL (cutL 32 x.1)).getD 5 []))).length - (([] : List Coupon) ++ [(flOf ((sL (cutL 44 ((sL (cutL 32 x.1)).getD 5 []))).getD ([] : List Coupon).length [])).1]).length < (sL (cutL 44 ((sL (cutL 32 x.1)).getD 5 []))).length - ([] : List Coupon).length
      rw [List.length_append, List.length_singleton]; omega
    ·(conv => whnf)
     (repeat' ((first | with_reducible exact True.intro | ((with_reducible refine And.intro ?_ ?_); focus (first | with_reducible rfl | omega | exact Nat.le_of_ble_eq_true rfl | rfl)) | with_reducible refine And.intro (?_ : leA _ _ _) ?_ | fail) <;> (conv => whnf)))
     all_goals (try simp only [wQ])
     all_goals (try first | rfl | exact ⟨fun h => h, fun _ _ => True.intro⟩)
     all_goals simp
    ·(conv => whnf)
     (repeat' ((first | with_reducible exact True.intro | ((with_reducible refine Or.inr ?_); rfl) | ((with_reducible refine And.intro ?_ ?_); focus (first | with_reducible rfl | omega | exact Nat.le_of_ble_eq_true rfl | rfl)) | with_reducible refine And.intro (?_ : leA _ _ _) ?_ | with_reducible refine And.intro (?_ : leL _ _ _) ?_ | with_reducible refine And.intro (?_ : leBlk _ _ _ _) ?_ | fail) <;> (conv => whnf)))
     all_goals (try simp only [wQ])
     all_goals (try first | rfl)
     all_goals try rfl
     all_goals try exact ⟨rfl, True.intro, True.intro, by simp, Or.inl True.intro⟩
     intro e he
     have he : e < 1 := he
     obtain rfl : e = 0 := by omega
     refine ⟨?_, rfl⟩
     try simp only [List.toList_toArray, w0, w1, w2, w3, w4, w5, Nat.zero_add, Nat.reduceAdd]
     rfl
  ·have q0 : L.length + 1 ≤ 1000001 := Nat.le_trans q1 (hb44 _)
   (conv => whnf)
   (repeat' ((first
    | with_reducible exact True.intro
    | (with_reducible refine inl_intro ?_)
    | ((with_reducible refine And.intro ?_ ?_); focus (exact Nat.le_trans (hmem _) (Nat.le_of_ble_eq_true rfl)))
    | ((with_reducible refine And.intro ?_ ?_); focus (exact hm44 _ _))
    | with_reducible refine And.intro (?_ : opQ _ _ _ _ _ _) ?_
    | ((with_reducible refine And.intro ?_ ?_); focus (first | ((with_reducible refine ⟨?_, ?_, ?_⟩) <;> first | (intro e he; rcases (by omega : e = 0 ∨ e = 1 ∨ e = 2 ∨ e = 3 ∨ e = 4 ∨ e = 5) with rfl | rfl | rfl | rfl | rfl | rfl <;> first | rfl | (exfalso; omega)) | (with_reducible assumption) | omega | ((with_reducible show growOk _ _); simp only [growOk, ty2, ty3, ty4, ty5, ty9, ty21, ty37, ty42, ty43, ty45, ty47, ty67, ty95, ty105, ty113, ty150, ty161, ty198, ty242, ty275, List.length_cons, List.length_nil]; first | omega | (refine ⟨?_, ?_⟩ <;> omega))) | ((with_reducible show okB _ _ _ = true); rfl) | ((with_reducible show okQ _ _ = true); rfl) | with_reducible rfl | omega | ((with_reducible refine ⟨?_, ?_⟩) <;> first | with_reducible assumption | omega) | (dsimp only at *; simp only [inK_def, Go.Vc.lo, Go.Vc.hi]; omega)))
    | (conv => arg 2; (first | change eqI (runeAt _ _) _ | change decide (_ + runeW _ _ < _) | change ! (sB _)); simp only [List.toList_toArray, sB_eq, r0, r1, r2, r3, r4, r5, w0, w1, w2, w3, w4, w5, Nat.zero_add, Nat.reduceAdd, List.length_cons, List.length_nil])
    | (split <;> rename_i hh <;> (try simp only [wS] at hh) <;> (try simp (disch := omega) only [wT] at hh))
    | with_reducible refine (fun (hln : (_ : Int) ≤ 9223372036854775807) => ?_)
    | with_reducible refine And.intro (?_ : leA _ _ _) ?_
    | fail) <;> (conv => whnf)))
   all_goals (try (show _ = _; simp only [wQ]))
   all_goals try (
    have hz : x.2 = (zeroR, 4) := by
     have hi := ‹(((c :: L : List Coupon).length : Nat) : Int) < _›
     refine hfail fun r hm hw => ?_
     have hc := rd_5 hm hw hk2
     try simp only [List.toList_toArray, w0, w1, w2, w3, w4, w5, Nat.zero_add, Nat.reduceAdd] at hh
     try simp only [List.toList_toArray, w0, w1, w2, w3, w4, w5, Nat.zero_add, Nat.reduceAdd] at hi
     have hi2 : (c :: L : List Coupon).length < (sL (cutL 44 ((sL (cutL 32 x.1)).getD 5 []))).length := Int.ofNat_lt.1 hi
     exact absurd (hh.symm.trans (back_ok (f := flOf) hi2 (l := r.coupons) (by rw [sL_eq, hsL, hc.1]; exact hc.2.2.2.2.2.1.1) hc.2.2.2.2.2.1.2)) (by decide)
    rw [hz] <;> rfl)
   ·have hi := ‹(((c :: L : List Coupon).length : Nat) : Int) < _›
    try simp only [List.toList_toArray, w0, w1, w2, w3, w4, w5, Nat.zero_add, Nat.reduceAdd] at hi
    have hi2 : (c :: L : List Coupon).length < (sL (cutL 44 ((sL (cutL 32 x.1)).getD 5 []))).length := Int.ofNat_lt.1 hi
    try simp only [List.toList_toArray, w0, w1, w2, w3, w4, w5, Nat.zero_add, Nat.reduceAdd] at hh
    have hh2 : (flOf ((sL (cutL 44 ((sL (cutL 32 x.1)).getD 5 []))).getD (c :: L : List Coupon).length [])).2 = true := hh
    have g1 := take_snoc q2 hi2
    have g2 := all_snoc (p := fun w => (flOf w).2) q3 hi2 hh2
    (conv => whnf)
    refine ⟨(((c :: L : List Coupon) ++ [(flOf ((sL (cutL 44 ((sL (cutL 32 x.1)).getD 5 []))).getD (c :: L : List Coupon).length [])).1]) : List Coupon), [64], ?_, ⟨⟨rfl, Nat.le_of_ble_eq_true rfl, rfl⟩, ?_, ?_⟩⟩
    ·refine ⟨⟨?_, ?_, ?_⟩, ?_⟩ <;> (try simp only [List.toList_toArray, w0, w1, w2, w3, w4, w5, Nat.zero_add, Nat.reduceAdd])
     ·show ((c :: L : List Coupon) ++ [(flOf ((sL (cutL 44 ((sL (cutL 32 x.1)).getD 5 []))).getD (c :: L : List Coupon).length [])).1]).length ≤ (sL (cutL 44 ((sL (cutL 32 x.1)).getD 5 []))).length
      rw [List.length_append]; exact hi2
     ·exact g1
     ·show ∀ w ∈ (sL (cutL 44 ((sL (cutL 32 x.1)).getD 5 []))).take ((c :: L : List Coupon) ++ [(flOf ((sL (cutL 44 ((sL (cutL 32 x.1)).getD 5 []))).getD (c :: L : List Coupon).length [])).1]).length, (flOf w).2 = true
      rw [List.length_append]; exact g2
     ·show (sL (cutL 44 _)).length - (_ : List Coupon).length < (sL (cutL 44 _)).length - (_ : List Coupon).length
      try simp only [List.toList_toArray, w0, w1, w2, w3, w4, w5, Nat.zero_add, Nat.reduceAdd]
      show (sL (cutL 44 ((sL (cutL 32 x.1)).getD 5 []))).length - ((c :: L : List Coupon) ++ [(flOf ((sL (cutL 44 ((sL (cutL 32 x.1)).getD 5 []))).getD (c :: L : List Coupon).length [])).1]).length < (sL (cutL 44 ((sL (cutL 32 x.1)).getD 5 []))).length - (c :: L : List Coupon).length
      rw [List.length_append, List.length_singleton]; omega
    ·(conv => whnf)
     (repeat' ((first | with_reducible exact True.intro | ((with_reducible refine And.intro ?_ ?_); focus (first | with_reducible rfl | omega | exact Nat.le_of_ble_eq_true rfl | rfl)) | with_reducible refine And.intro (?_ : leA _ _ _) ?_ | fail) <;> (conv => whnf)))
     all_goals (try simp only [wQ])
     all_goals (try first | exact ⟨fun h => h, fun _ _ => True.intro⟩)
     all_goals simp
    ·(conv => whnf)
     (repeat' ((first | with_reducible exact True.intro | ((with_reducible refine And.intro ?_ ?_); focus (first | with_reducible rfl | omega | exact Nat.le_of_ble_eq_true rfl | rfl)) | with_reducible refine And.intro (?_ : leA _ _ _) ?_ | with_reducible refine And.intro (?_ : leL _ _ _) ?_ | with_reducible refine And.intro (?_ : leBlk _ _ _ _) ?_ | fail) <;> (conv => whnf)))
     all_goals (try simp only [wQ])
     all_goals (try first | rfl)
     all_goals (try first | exact ⟨by simp, Or.inl trivial⟩)
     all_goals try rfl
     all_goals try exact ⟨rfl, True.intro, True.intro, by simp, Or.inl True.intro⟩
     exact ⟨by simp, fun e he => ⟨cat_encn (enc := Coupon.enc) (l := (c :: L : List Coupon)) rfl (fun _ _ => rfl) (by try simp only [List.toList_toArray, w0, w1, w2, w3, w4, w5, Nat.zero_add, Nat.reduceAdd]; rfl) (by simpa using he), rfl⟩⟩
   ·have hx := ‹(_ : Int) ≤ (((c :: L : List Coupon).length : Nat) : Int)›
    try simp only [List.toList_toArray, w0, w1, w2, w3, w4, w5, Nat.zero_add, Nat.reduceAdd] at hx
    have hx2 : ¬ (c :: L).length < (sL (cutL 44 ((sL (cutL 32 x.1)).getD 5 []))).length := Nat.not_lt.2 (Int.ofNat_le.1 hx)
    try simp only [List.toList_toArray, w0, w1, w2, w3, w4, w5, Nat.zero_add, Nat.reduceAdd] at hh
    have hdash : ((sL (cutL 32 x.1)).getD 6 []) = [45] := hh
    have hrd : ∀ r, mayReqB r = true → reqW r = x.1 → (⟨((sL (cutL 32 x.1)).getD 1 []), 5, (wholeN ((sL (cutL 32 x.1)).getD 2 [])).1, (numOf ((sL (cutL 32 x.1)).getD 3 [])).1, 0, 0, [], c :: L, [], (fareOf ((sL (cutL 32 x.1)).getD 4 [])).1, 0, 0⟩ : Request) = r := fun r hm hw => by
     have hc := rd_5 hm hw hk2
     have eL : c :: L = r.coupons := back_done q2 q1 hx2 (by rw [sL_eq, hsL, hc.1]; exact hc.2.2.2.2.2.1.1) hc.2.2.2.2.2.1.2
     have eX : [] = r.taxes := by
      rcases hc.2.2.2.2.2.2.1 with ⟨a, _⟩ | ⟨a, _⟩
      ·exact a.symm
      ·exact absurd (by have h := hdash; rw [hsL, hc.1] at h; exact h) a
     refine Eq.trans ?_ hc.2.1.symm
     rw [← eL, ← eX] at hc ⊢
     rw [hsL, hc.1]; simp only [List.getD_cons_zero, List.getD_cons_succ, hc.2.2.1, hc.2.2.2.1, hc.2.2.2.2.1]
    refine ⟨⟨by omega, fun e he => rfl⟩, ?_⟩
    refine ⟨(⟨((sL (cutL 32 x.1)).getD 1 []), 5, (wholeN ((sL (cutL 32 x.1)).getD 2 [])).1, (numOf ((sL (cutL 32 x.1)).getD 3 [])).1, 0, 0, [], c :: L, [], (fareOf ((sL (cutL 32 x.1)).getD 4 [])).1, 0, 0⟩ : Request), ⟨Nat.le_trans q0 (by decide), Nat.zero_le _⟩, ?_, ?_⟩
    ·(conv => whnf)
     (repeat' ((first | with_reducible exact True.intro | ((with_reducible refine And.intro ?_ ?_); focus (first | with_reducible rfl | omega | exact Nat.le_of_ble_eq_true rfl | rfl)) | with_reducible refine And.intro (?_ : leA _ _ _) ?_ | fail) <;> (conv => whnf)))
     all_goals (try simp only [wQ])
     all_goals (try first | (refine ⟨fun h => h, fun e he => ?_⟩; rw [Nat.zero_add]; done))
     all_goals (simp only [List.toList_toArray, w0, w1, w2, w3, w4, w5, Nat.zero_add, Nat.reduceAdd]; rfl)
    (conv => whnf)
    (repeat' ((first
     | with_reducible exact True.intro
     | ((with_reducible refine And.intro ?_ ?_); focus (with_reducible rfl))
     | (conv => arg 2; change ! (sB _); simp only [List.toList_toArray, sB_eq, r0, r1, r2, r3, r4, r5, w0, w1, w2, w3, w4, w5, Nat.zero_add, Nat.reduceAdd, List.length_cons, List.length_nil])
     | (split <;> rename_i hh <;> (try simp only [wS] at hh) <;> (try simp (disch := omega) only [wT] at hh))
     | with_reducible refine And.intro (?_ : leA _ _ _) ?_
     | fail) <;> (conv => whnf)))
    all_goals (try (show _ = _; simp only [wQ]))
    all_goals try (
     have hz : x.2 = (zeroR, 4) := by
      refine hfail fun r hm hw => ?_
      rw [hrd r hm hw, hm] at hh
      cases hh
     rw [hz] <;> rfl)
    refine ⟨⟨by omega, fun e he => rfl⟩, ?_⟩
    refine ⟨(⟨((sL (cutL 32 x.1)).getD 1 []), 5, (wholeN ((sL (cutL 32 x.1)).getD 2 [])).1, (numOf ((sL (cutL 32 x.1)).getD 3 [])).1, 0, 0, [], c :: L, [], (fareOf ((sL (cutL 32 x.1)).getD 4 [])).1, 0, 0⟩ : Request), ⟨Nat.le_trans q0 (by decide), Nat.zero_le _⟩, ?_, ?_⟩
    ·(conv => whnf)
     (repeat' ((first | with_reducible exact True.intro | ((with_reducible refine And.intro ?_ ?_); focus (first | with_reducible rfl | omega | exact Nat.le_of_ble_eq_true rfl | rfl)) | with_reducible refine And.intro (?_ : leA _ _ _) ?_ | fail) <;> (conv => whnf)))
     all_goals (try simp only [wQ])
     all_goals (try first | (refine ⟨fun h => h, fun e he => ?_⟩; rw [Nat.zero_add]; done))
     all_goals (simp only [List.toList_toArray, w0, w1, w2, w3, w4, w5, Nat.zero_add, Nat.reduceAdd]; rfl)
    (conv => whnf)
    (repeat' ((first
     | with_reducible exact True.intro
     | ((with_reducible refine And.intro ?_ ?_); focus (with_reducible rfl))
     | (split <;> rename_i hh <;> (try simp only [wS] at hh) <;> (try simp (disch := omega) only [wT] at hh))
     | with_reducible refine And.intro (?_ : leA _ _ _) ?_
     | fail) <;> (conv => whnf)))
    all_goals (try (show _ = _; simp only [wQ]))
    all_goals try (
     have hz : x.2 = (zeroR, 4) := by
      refine hfail fun r hm hw => ?_
      rw [hrd r hm hw] at hh
      exact hh hw
     rw [hz] <;> rfl)
    have hz := hq.symm.trans (rqOf_yes (by assumption) (by assumption) hrd)
    refine ⟨⟨by omega, fun e he => rfl⟩, ?_⟩
    rw [hz]
    (conv => whnf)
    (repeat' ((first
     | with_reducible exact True.intro
     | ((with_reducible refine And.intro ?_ ?_); focus (with_reducible rfl))
     | with_reducible refine And.intro (?_ : leA _ _ _) ?_
     | fail) <;> (conv => whnf)))
    all_goals (try (show _ = _; simp only [wQ]))
    all_goals first | (simp only [List.toList_toArray, w0, w1, w2, w3, w4, w5, Nat.zero_add, Nat.reduceAdd]; rfl) | rfl | exact ⟨rfl, fun h => h, fun _ _ => True.intro⟩ | exact ⟨rfl, fun h => h, fun e _ => by simp only [Nat.zero_add]⟩
   ·have hx := ‹(_ : Int) ≤ (((c :: L : List Coupon).length : Nat) : Int)›
    try simp only [List.toList_toArray, w0, w1, w2, w3, w4, w5, Nat.zero_add, Nat.reduceAdd] at hx
    have hx2 : ¬ (c :: L).length < (sL (cutL 44 ((sL (cutL 32 x.1)).getD 5 []))).length := Nat.not_lt.2 (Int.ofNat_le.1 hx)
    try simp only [List.toList_toArray, w0, w1, w2, w3, w4, w5, Nat.zero_add, Nat.reduceAdd] at hh
    have hdash : ¬ ((sL (cutL 32 x.1)).getD 6 []) = [45] := hh
    refine ⟨?_, fun (T : List Tax) hT => ?_⟩
    ·(conv => whnf)
     refine ⟨([] : List Tax), [], ?_, ⟨⟨rfl, Nat.le_of_ble_eq_true rfl, rfl⟩, ?_, ?_⟩⟩
     ·exact ⟨Nat.zero_le _, rfl, fun w hw => by cases hw⟩
     ·(conv => whnf)
      (repeat' ((first | with_reducible exact True.intro | ((with_reducible refine And.intro ?_ ?_); focus (first | with_reducible rfl | omega | exact Nat.le_of_ble_eq_true rfl | rfl)) | with_reducible refine And.intro (?_ : leA _ _ _) ?_ | fail) <;> (conv => whnf)))
      all_goals (try simp only [wQ])
      all_goals (try first | rfl | exact ⟨fun h => h, fun _ _ => True.intro⟩)
     ·(conv => whnf)
      (repeat' ((first | with_reducible exact True.intro | ((with_reducible refine Or.inr ?_); rfl) | ((with_reducible refine And.intro ?_ ?_); focus (first | with_reducible rfl | omega | exact Nat.le_of_ble_eq_true rfl | rfl)) | with_reducible refine And.intro (?_ : leA _ _ _) ?_ | with_reducible refine And.intro (?_ : leL _ _ _) ?_ | with_reducible refine And.intro (?_ : leBlk _ _ _ _) ?_ | fail) <;> (conv => whnf)))
      all_goals (try simp only [wQ])
      all_goals (try first | rfl)
      all_goals (try first | exact fun _ _ => ⟨True.intro, rfl⟩)
    ·obtain ⟨t1, t2, t3⟩ := hT
     try simp only [List.toList_toArray, w0, w1, w2, w3, w4, w5, Nat.zero_add, Nat.reduceAdd] at t1 t2 t3
     change T.length ≤ (sL (cutL 44 ((sL (cutL 32 x.1)).getD 6 []))).length at t1
     change T = ((sL (cutL 44 ((sL (cutL 32 x.1)).getD 6 []))).take T.length).map (fun w => (txOf w).1) at t2
     change ∀ w ∈ (sL (cutL 44 ((sL (cutL 32 x.1)).getD 6 []))).take T.length, (txOf w).2 = true at t3
     rcases T with _ | ⟨t, T⟩
     ·(conv => whnf)
      (repeat' ((first
       | with_reducible exact True.intro
       | ((with_reducible refine And.intro ?_ ?_); focus (exact hm44 _ _))
       | (exact absurd (by with_reducible assumption) (hpot _))
       | ((with_reducible refine And.intro ?_ ?_); focus (first | with_reducible exact True.intro | with_reducible rfl | omega | ((with_reducible refine ⟨?_, ?_⟩) <;> first | with_reducible assumption | omega) | (simp only [growOk, ty2, ty3, ty4, ty5, ty9, ty21, ty37, ty42, ty43, ty45, ty47, ty67, ty95, ty105, ty113, ty150, ty161, ty198, ty242, ty275]; first | omega | (refine ⟨?_, ?_⟩ <;> omega)) | decide))
       | (conv => arg 2; change ! (sB _); simp only [List.toList_toArray, sB_eq, r0, r1, r2, r3, r4, r5, w0, w1, w2, w3, w4, w5, Nat.zero_add, Nat.reduceAdd, List.length_cons, List.length_nil])
       | (split <;> rename_i hh <;> (try simp only [wS] at hh) <;> (try simp (disch := omega) only [wT] at hh))
       | with_reducible refine And.intro (?_ : leA _ _ _) ?_
       | fail) <;> (conv => whnf)))
      all_goals (try (show _ = _; simp only [wQ]))
      all_goals try (
       have hz : x.2 = (zeroR, 4) := by
        have hi := ‹((([] : List Tax).length : Nat) : Int) < _›
        refine hfail fun r hm hw => ?_
        have hc := rd_5 hm hw hk2
        try simp only [List.toList_toArray, w0, w1, w2, w3, w4, w5, Nat.zero_add, Nat.reduceAdd] at hh
        try simp only [List.toList_toArray, w0, w1, w2, w3, w4, w5, Nat.zero_add, Nat.reduceAdd] at hi
        have hi2 : ([] : List Tax).length < (sL (cutL 44 ((sL (cutL 32 x.1)).getD 6 []))).length := Int.ofNat_lt.1 hi
        rcases hc.2.2.2.2.2.2.1 with ⟨a, a2⟩ | ⟨_, a1, a2⟩
        ·exact hdash (by rw [hsL, hc.1]; exact a2)
        ·have hb := back_ok (f := txOf) hi2 (l := r.taxes) (by rw [sL_eq, hsL, hc.1]; exact a1) a2
         unfold txOf at hb
         simp only [Bool.and_eq_true] at hb
         exact absurd (hh.symm.trans hb.1) (by decide)
       rw [hz] <;> rfl)
      all_goals try (
       have hz : x.2 = (zeroR, 4) := by
        have hi := ‹((([] : List Tax).length : Nat) : Int) < _›
        refine hfail fun r hm hw => ?_
        have hc := rd_5 hm hw hk2
        try simp only [List.toList_toArray, w0, w1, w2, w3, w4, w5, Nat.zero_add, Nat.reduceAdd] at hh
        try simp only [List.toList_toArray, w0, w1, w2, w3, w4, w5, Nat.zero_add, Nat.reduceAdd] at hi
        have hi2 : ([] : List Tax).length < (sL (cutL 44 ((sL (cutL 32 x.1)).getD 6 []))).length := Int.ofNat_lt.1 hi
        rcases hc.2.2.2.2.2.2.1 with ⟨a, a2⟩ | ⟨_, a1, a2⟩
        ·exact hdash (by rw [hsL, hc.1]; exact a2)
        ·have hb := back_ok (f := txOf) hi2 (l := r.taxes) (by rw [sL_eq, hsL, hc.1]; exact a1) a2
         unfold txOf at hb
         simp only [Bool.and_eq_true] at hb
         exact absurd (hh.symm.trans hb.2) (by decide)
       rw [hz] <;> rfl)
      ·have hi := ‹((([] : List Tax).length : Nat) : Int) < _›
       try simp only [List.toList_toArray, w0, w1, w2, w3, w4, w5, Nat.zero_add, Nat.reduceAdd] at hi
       have hi2 : ([] : List Tax).length < (sL (cutL 44 ((sL (cutL 32 x.1)).getD 6 []))).length := Int.ofNat_lt.1 hi
       have hp := ‹(pairV _).2.2 = true›
       try simp only [List.toList_toArray, w0, w1, w2, w3, w4, w5, Nat.zero_add, Nat.reduceAdd] at hh
       try simp only [List.toList_toArray, w0, w1, w2, w3, w4, w5, Nat.zero_add, Nat.reduceAdd] at hp
       have hh2 : (txOf ((sL (cutL 44 ((sL (cutL 32 x.1)).getD 6 []))).getD ([] : List Tax).length [])).2 = true := by
        unfold txOf; simp only [Bool.and_eq_true]; exact ⟨hp, hh⟩
       have g1 := take_snoc t2 hi2
       have g2 := all_snoc (p := fun w => (txOf w).2) t3 hi2 hh2
       (conv => whnf)
       refine ⟨((([] : List Tax) ++ [(txOf ((sL (cutL 44 ((sL (cutL 32 x.1)).getD 6 []))).getD ([] : List Tax).length [])).1]) : List Tax), [73], ?_, ⟨⟨rfl, Nat.le_of_ble_eq_true rfl, rfl⟩, ?_, ?_⟩⟩
       ·refine ⟨⟨?_, ?_, ?_⟩, ?_⟩ <;> (try simp only [List.toList_toArray, w0, w1, w2, w3, w4, w5, Nat.zero_add, Nat.reduceAdd])
        ·show (([] : List Tax) ++ [(txOf ((sL (cutL 44 ((sL (cutL 32 x.1)).getD 6 []))).getD ([] : List Tax).length [])).1]).length ≤ (sL (cutL 44 ((sL (cutL 32 x.1)).getD 6 []))).length
         rw [List.length_append]; exact hi2
        ·exact g1
        ·show ∀ w ∈ (sL (cutL 44 ((sL (cutL 32 x.1)).getD 6 []))).take (([] : List Tax) ++ [(txOf ((sL (cutL 44 ((sL (cutL 32 x.1)).getD 6 []))).getD ([] : List Tax).length [])).1]).length, (txOf w).2 = true
         rw [List.length_append]; exact g2
        ·show (sL (cutL 44 _)).length - (_ : List Tax).length < (sL (cutL 44 _)).length - (_ : List Tax).length
         try simp only [List.toList_toArray, w0, w1, w2, w3, w4, w5, Nat.zero_add, Nat.reduceAdd]
         show (sL (cutL 44 ((sL (cutL 32 x.1)).getD 6 []))).length - (([] : List Tax) ++ [(txOf ((sL (cutL 44 ((sL (cutL 32 x.1)).getD 6 []))).getD ([] : List Tax).length [])).1]).length < (sL (cutL 44 ((sL (cutL 32 x.1)).getD 6 []))).length - ([] : List Tax).length
         rw [List.length_append, List.length_singleton]; omega
       ·(conv => whnf)
        (repeat' ((first | with_reducible exact True.intro | ((with_reducible refine And.intro ?_ ?_); focus (first | with_reducible rfl | omega | exact Nat.le_of_ble_eq_true rfl | rfl)) | with_reducible refine And.intro (?_ : leA _ _ _) ?_ | fail) <;> (conv => whnf)))
        all_goals (try simp only [wQ])
        all_goals (try first | rfl | exact ⟨fun h => h, fun _ _ => True.intro⟩)
        all_goals simp
       ·(conv => whnf)
        (repeat' ((first | with_reducible exact True.intro | ((with_reducible refine Or.inr ?_); rfl) | ((with_reducible refine And.intro ?_ ?_); focus (first | with_reducible rfl | omega | exact Nat.le_of_ble_eq_true rfl | rfl)) | with_reducible refine And.intro (?_ : leA _ _ _) ?_ | with_reducible refine And.intro (?_ : leL _ _ _) ?_ | with_reducible refine And.intro (?_ : leBlk _ _ _ _) ?_ | fail) <;> (conv => whnf)))
        all_goals (try simp only [wQ])
        all_goals (try first | rfl)
        all_goals (try first | exact fun _ _ => ⟨True.intro, rfl⟩)
        all_goals try rfl
        all_goals try exact ⟨rfl, True.intro, True.intro, by simp, Or.inl True.intro⟩
        intro e he
        have he : e < 1 := he
        obtain rfl : e = 0 := by omega
        refine ⟨?_, rfl⟩
        try simp only [List.toList_toArray, w0, w1, w2, w3, w4, w5, Nat.zero_add, Nat.reduceAdd]
        unfold txOf
        rfl
     ·have t0 : T.length + 1 ≤ 1000001 := Nat.le_trans t1 (hb44 _)
      (conv => whnf)
      (repeat' ((first
       | with_reducible exact True.intro
       | ((with_reducible refine And.intro ?_ ?_); focus (exact hm44 _ _))
       | ((with_reducible refine And.intro ?_ ?_); focus (first | with_reducible exact True.intro | ((with_reducible refine ⟨?_, ?_, ?_⟩) <;> first | (intro e he; rcases (by omega : e = 0 ∨ e = 1 ∨ e = 2 ∨ e = 3 ∨ e = 4 ∨ e = 5) with rfl | rfl | rfl | rfl | rfl | rfl <;> first | rfl | (exfalso; omega)) | (with_reducible assumption) | omega | ((with_reducible show growOk _ _); simp only [growOk, ty2, ty3, ty4, ty5, ty9, ty21, ty37, ty42, ty43, ty45, ty47, ty67, ty95, ty105, ty113, ty150, ty161, ty198, ty242, ty275, List.length_cons, List.length_nil]; first | omega | (refine ⟨?_, ?_⟩ <;> omega))) | with_reducible rfl | omega | ((with_reducible refine ⟨?_, ?_⟩) <;> first | with_reducible assumption | omega) | (dsimp only at *; simp only [inK_def, Go.Vc.lo, Go.Vc.hi]; omega)))
       | (conv => arg 2; (first | change decide (_ + runeW _ _ < _) | change ! (sB _)); simp only [List.toList_toArray, sB_eq, r0, r1, r2, r3, r4, r5, w0, w1, w2, w3, w4, w5, Nat.zero_add, Nat.reduceAdd, List.length_cons, List.length_nil])
       | (split <;> rename_i hh <;> (try simp only [wS] at hh) <;> (try simp (disch := omega) only [wT] at hh))
       | with_reducible refine And.intro (?_ : leA _ _ _) ?_
       | fail) <;> (conv => whnf)))
      all_goals (try (show _ = _; simp only [wQ]))
      all_goals try (
       have hz : x.2 = (zeroR, 4) := by
        have hi := ‹(((t :: T : List Tax).length : Nat) : Int) < _›
        refine hfail fun r hm hw => ?_
        have hc := rd_5 hm hw hk2
        try simp only [List.toList_toArray, w0, w1, w2, w3, w4, w5, Nat.zero_add, Nat.reduceAdd] at hh
        try simp only [List.toList_toArray, w0, w1, w2, w3, w4, w5, Nat.zero_add, Nat.reduceAdd] at hi
        have hi2 : (t :: T : List Tax).length < (sL (cutL 44 ((sL (cutL 32 x.1)).getD 6 []))).length := Int.ofNat_lt.1 hi
        rcases hc.2.2.2.2.2.2.1 with ⟨a, a2⟩ | ⟨_, a1, a2⟩
        ·exact hdash (by rw [hsL, hc.1]; exact a2)
        ·have hb := back_ok (f := txOf) hi2 (l := r.taxes) (by rw [sL_eq, hsL, hc.1]; exact a1) a2
         unfold txOf at hb
         simp only [Bool.and_eq_true] at hb
         exact absurd (hh.symm.trans hb.1) (by decide)
       rw [hz] <;> rfl)
      all_goals try (
       have hz : x.2 = (zeroR, 4) := by
        have hi := ‹(((t :: T : List Tax).length : Nat) : Int) < _›
        refine hfail fun r hm hw => ?_
        have hc := rd_5 hm hw hk2
        try simp only [List.toList_toArray, w0, w1, w2, w3, w4, w5, Nat.zero_add, Nat.reduceAdd] at hh
        try simp only [List.toList_toArray, w0, w1, w2, w3, w4, w5, Nat.zero_add, Nat.reduceAdd] at hi
        have hi2 : (t :: T : List Tax).length < (sL (cutL 44 ((sL (cutL 32 x.1)).getD 6 []))).length := Int.ofNat_lt.1 hi
        rcases hc.2.2.2.2.2.2.1 with ⟨a, a2⟩ | ⟨_, a1, a2⟩
        ·exact hdash (by rw [hsL, hc.1]; exact a2)
        ·have hb := back_ok (f := txOf) hi2 (l := r.taxes) (by rw [sL_eq, hsL, hc.1]; exact a1) a2
         unfold txOf at hb
         simp only [Bool.and_eq_true] at hb
         exact absurd (hh.symm.trans hb.2) (by decide)
       rw [hz] <;> rfl)
      ·have hi := ‹(((t :: T : List Tax).length : Nat) : Int) < _›
       try simp only [List.toList_toArray, w0, w1, w2, w3, w4, w5, Nat.zero_add, Nat.reduceAdd] at hi
       have hi2 : (t :: T : List Tax).length < (sL (cutL 44 ((sL (cutL 32 x.1)).getD 6 []))).length := Int.ofNat_lt.1 hi
       have hp := ‹(pairV _).2.2 = true›
       try simp only [List.toList_toArray, w0, w1, w2, w3, w4, w5, Nat.zero_add, Nat.reduceAdd] at hh
       try simp only [List.toList_toArray, w0, w1, w2, w3, w4, w5, Nat.zero_add, Nat.reduceAdd] at hp
       have hh2 : (txOf ((sL (cutL 44 ((sL (cutL 32 x.1)).getD 6 []))).getD (t :: T : List Tax).length [])).2 = true := by
        unfold txOf; simp only [Bool.and_eq_true]; exact ⟨hp, hh⟩
       have g1 := take_snoc t2 hi2
       have g2 := all_snoc (p := fun w => (txOf w).2) t3 hi2 hh2
       (conv => whnf)
       refine ⟨(((t :: T : List Tax) ++ [(txOf ((sL (cutL 44 ((sL (cutL 32 x.1)).getD 6 []))).getD (t :: T : List Tax).length [])).1]) : List Tax), [73], ?_, ⟨⟨rfl, Nat.le_of_ble_eq_true rfl, rfl⟩, ?_, ?_⟩⟩
       ·refine ⟨⟨?_, ?_, ?_⟩, ?_⟩ <;> (try simp only [List.toList_toArray, w0, w1, w2, w3, w4, w5, Nat.zero_add, Nat.reduceAdd])
        ·show ((t :: T : List Tax) ++ [(txOf ((sL (cutL 44 ((sL (cutL 32 x.1)).getD 6 []))).getD (t :: T : List Tax).length [])).1]).length ≤ (sL (cutL 44 ((sL (cutL 32 x.1)).getD 6 []))).length
         rw [List.length_append]; exact hi2
        ·exact g1
        ·show ∀ w ∈ (sL (cutL 44 ((sL (cutL 32 x.1)).getD 6 []))).take ((t :: T : List Tax) ++ [(txOf ((sL (cutL 44 ((sL (cutL 32 x.1)).getD 6 []))).getD (t :: T : List Tax).length [])).1]).length, (txOf w).2 = true
         rw [List.length_append]; exact g2
        ·show (sL (cutL 44 _)).length - (_ : List Tax).length < (sL (cutL 44 _)).length - (_ : List Tax).length
         try simp only [List.toList_toArray, w0, w1, w2, w3, w4, w5, Nat.zero_add, Nat.reduceAdd]
         show (sL (cutL 44 ((sL (cutL 32 x.1)).getD 6 []))).length - ((t :: T : List Tax) ++ [(txOf ((sL (cutL 44 ((sL (cutL 32 x.1)).getD 6 []))).getD (t :: T : List Tax).length [])).1]).length < (sL (cutL 44 ((sL (cutL 32 x.1)).getD 6 []))).length - (t :: T : List Tax).length
         rw [List.length_append, List.length_singleton]; omega
       ·(conv => whnf)
        (repeat' ((first | with_reducible exact True.intro | ((with_reducible refine And.intro ?_ ?_); focus (first | with_reducible rfl | omega | exact Nat.le_of_ble_eq_true rfl | rfl)) | with_reducible refine And.intro (?_ : leA _ _ _) ?_ | fail) <;> (conv => whnf)))
        all_goals (try simp only [wQ])
        all_goals (try first | exact ⟨fun h => h, fun _ _ => True.intro⟩)
        all_goals simp
       ·(conv => whnf)
        (repeat' ((first | with_reducible exact True.intro | ((with_reducible refine Or.inr ?_); rfl) | ((with_reducible refine And.intro ?_ ?_); focus (first | with_reducible rfl | omega | exact Nat.le_of_ble_eq_true rfl | rfl)) | with_reducible refine And.intro (?_ : leA _ _ _) ?_ | with_reducible refine And.intro (?_ : leL _ _ _) ?_ | with_reducible refine And.intro (?_ : leBlk _ _ _ _) ?_ | fail) <;> (conv => whnf)))
        all_goals (try simp only [wQ])
        all_goals (try first | rfl)
        all_goals (try first | exact fun _ _ => ⟨True.intro, rfl⟩ | exact ⟨by simp, Or.inl trivial⟩)
        all_goals try rfl
        all_goals try exact ⟨rfl, True.intro, True.intro, by simp, Or.inl True.intro⟩
        exact ⟨by simp, fun e he => ⟨cat_encn (enc := Tax.enc) (l := (t :: T : List Tax)) rfl (fun _ _ => rfl) (by try simp only [List.toList_toArray, w0, w1, w2, w3, w4, w5, Nat.zero_add, Nat.reduceAdd]; unfold txOf; rfl) (by simpa using he), rfl⟩⟩
      ·have hy := ‹(_ : Int) ≤ (((t :: T : List Tax).length : Nat) : Int)›
       try simp only [List.toList_toArray, w0, w1, w2, w3, w4, w5, Nat.zero_add, Nat.reduceAdd] at hy
       have hy2 : ¬ (t :: T).length < (sL (cutL 44 ((sL (cutL 32 x.1)).getD 6 []))).length := Nat.not_lt.2 (Int.ofNat_le.1 hy)
       have hrd : ∀ r, mayReqB r = true → reqW r = x.1 → (⟨((sL (cutL 32 x.1)).getD 1 []), 5, (wholeN ((sL (cutL 32 x.1)).getD 2 [])).1, (numOf ((sL (cutL 32 x.1)).getD 3 [])).1, 0, 0, [], c :: L, t :: T, (fareOf ((sL (cutL 32 x.1)).getD 4 [])).1, 0, 0⟩ : Request) = r := fun r hm hw => by
        have hc := rd_5 hm hw hk2
        have eL : c :: L = r.coupons := back_done q2 q1 hx2 (by rw [sL_eq, hsL, hc.1]; exact hc.2.2.2.2.2.1.1) hc.2.2.2.2.2.1.2
        have eX : t :: T = r.taxes := by
         rcases hc.2.2.2.2.2.2.1 with ⟨a, a2⟩ | ⟨_, a1, a2⟩
         ·exact absurd (by rw [hsL, hc.1]; exact a2) hdash
         ·exact back_done t2 t1 hy2 (by rw [sL_eq, hsL, hc.1]; exact a1) a2
        refine Eq.trans ?_ hc.2.1.symm
        rw [← eL, ← eX] at hc ⊢
        rw [hsL, hc.1]; simp only [List.getD_cons_zero, List.getD_cons_succ, hc.2.2.1, hc.2.2.2.1, hc.2.2.2.2.1]
       refine ⟨⟨by omega, fun e he => rfl⟩, ?_⟩
       refine ⟨⟨by omega, fun e he => rfl⟩, ?_⟩
       refine ⟨(⟨((sL (cutL 32 x.1)).getD 1 []), 5, (wholeN ((sL (cutL 32 x.1)).getD 2 [])).1, (numOf ((sL (cutL 32 x.1)).getD 3 [])).1, 0, 0, [], c :: L, t :: T, (fareOf ((sL (cutL 32 x.1)).getD 4 [])).1, 0, 0⟩ : Request), ⟨Nat.le_trans q0 (by decide), Nat.le_trans t0 (by decide)⟩, ?_, ?_⟩
       ·(conv => whnf)
        (repeat' ((first | with_reducible exact True.intro | ((with_reducible refine And.intro ?_ ?_); focus (first | with_reducible rfl | omega | exact Nat.le_of_ble_eq_true rfl | rfl)) | with_reducible refine And.intro (?_ : leA _ _ _) ?_ | fail) <;> (conv => whnf)))
        all_goals (try simp only [wQ])
        all_goals (try first | (refine ⟨fun h => h, fun e he => ?_⟩; rw [Nat.zero_add]; done))
        all_goals (simp only [List.toList_toArray, w0, w1, w2, w3, w4, w5, Nat.zero_add, Nat.reduceAdd]; rfl)
       (conv => whnf)
       (repeat' ((first
        | with_reducible exact True.intro
        | ((with_reducible refine And.intro ?_ ?_); focus (with_reducible rfl))
        | (conv => arg 2; change ! (sB _); simp only [List.toList_toArray, sB_eq, r0, r1, r2, r3, r4, r5, w0, w1, w2, w3, w4, w5, Nat.zero_add, Nat.reduceAdd, List.length_cons, List.length_nil])
        | (split <;> rename_i hh <;> (try simp only [wS] at hh) <;> (try simp (disch := omega) only [wT] at hh))
        | with_reducible refine And.intro (?_ : leA _ _ _) ?_
        | fail) <;> (conv => whnf)))
       all_goals (try (show _ = _; simp only [wQ]))
       all_goals try (
        have hz : x.2 = (zeroR, 4) := by
         refine hfail fun r hm hw => ?_
         rw [hrd r hm hw, hm] at hh
         cases hh
        rw [hz] <;> rfl)
       refine ⟨⟨by omega, fun e he => rfl⟩, ?_⟩
       refine ⟨⟨by omega, fun e he => rfl⟩, ?_⟩
       refine ⟨(⟨((sL (cutL 32 x.1)).getD 1 []), 5, (wholeN ((sL (cutL 32 x.1)).getD 2 [])).1, (numOf ((sL (cutL 32 x.1)).getD 3 [])).1, 0, 0, [], c :: L, t :: T, (fareOf ((sL (cutL 32 x.1)).getD 4 [])).1, 0, 0⟩ : Request), ⟨Nat.le_trans q0 (by decide), Nat.le_trans t0 (by decide)⟩, ?_, ?_⟩
       ·(conv => whnf)
        (repeat' ((first | with_reducible exact True.intro | ((with_reducible refine And.intro ?_ ?_); focus (first | with_reducible rfl | omega | exact Nat.le_of_ble_eq_true rfl | rfl)) | with_reducible refine And.intro (?_ : leA _ _ _) ?_ | fail) <;> (conv => whnf)))
        all_goals (try simp only [wQ])
        all_goals (try first | (refine ⟨fun h => h, fun e he => ?_⟩; rw [Nat.zero_add]; done))
        all_goals (simp only [List.toList_toArray, w0, w1, w2, w3, w4, w5, Nat.zero_add, Nat.reduceAdd]; rfl)
       (conv => whnf)
       (repeat' ((first
        | with_reducible exact True.intro
        | ((with_reducible refine And.intro ?_ ?_); focus (with_reducible rfl))
        | (split <;> rename_i hh <;> (try simp only [wS] at hh) <;> (try simp (disch := omega) only [wT] at hh))
        | with_reducible refine And.intro (?_ : leA _ _ _) ?_
        | fail) <;> (conv => whnf)))
       all_goals (try (show _ = _; simp only [wQ]))
       all_goals try (
        have hz : x.2 = (zeroR, 4) := by
         refine hfail fun r hm hw => ?_
         rw [hrd r hm hw] at hh
         exact hh hw
        rw [hz] <;> rfl)
       have hz := hq.symm.trans (rqOf_yes (by assumption) (by assumption) hrd)
       refine ⟨⟨by omega, fun e he => rfl⟩, ?_⟩
       refine ⟨⟨by omega, fun e he => rfl⟩, ?_⟩
       rw [hz]
       (conv => whnf)
       (repeat' ((first
        | with_reducible exact True.intro
        | ((with_reducible refine And.intro ?_ ?_); focus (with_reducible rfl))
        | with_reducible refine And.intro (?_ : leA _ _ _) ?_
        | fail) <;> (conv => whnf)))
       all_goals (try (show _ = _; simp only [wQ]))
       all_goals first | (simp only [List.toList_toArray, w0, w1, w2, w3, w4, w5, Nat.zero_add, Nat.reduceAdd]; rfl) | rfl | exact ⟨rfl, fun h => h, fun _ _ => True.intro⟩ | exact ⟨rfl, fun h => h, fun e _ => by simp only [Nat.zero_add]⟩
end
end Go.Vc.Z
namespace Go.Vc.Z
open Go Go.Vc Go.Proofs Go.RowKit Go.Pl Go.Lib
noncomputable section
def pcReqOf : PC := PC.of (fun x : List UInt8 × Request × Int => [.str x.1]) (fun x => rqOf x.1 = x.2 ∧ x.1.length ≤ 1000000) (fun x => .tup [.agg x.2.1.enc, .int .i64 x.2.2])
theorem g_reqOf {W : World} (hW : Tabs W) : GoodP (Fw W) Tryz.prog 26 pcReqOf := by
 intro S w cs vs Q hs hv hT
 obtain ⟨x, ⟨h1, h1'⟩, h2, h3⟩ := hT
 by_cases k1 : kindOf ((cutL 32 x.1).getD 0 []) = 1
 ·exact g_reqOf1 hW S w cs vs Q hs hv ⟨x, ⟨h1, h1', k1⟩, h2, h3⟩
 ·by_cases k5 : kindOf ((cutL 32 x.1).getD 0 []) = 5
  ·exact g_reqOf5 hW S w cs vs Q hs hv ⟨x, ⟨h1, h1', k5⟩, h2, h3⟩
  ·exact g_reqOfA hW S w cs vs Q hs hv ⟨x, ⟨h1, h1', k1, k5⟩, h2, h3⟩
end
end Go.Vc.Z
namespace Go.Vc.Z
open Go Go.Vc Go.Proofs Go.RowKit Go.Pl Go.Lib
noncomputable section
set_option maxRecDepth 100000
set_option linter.unusedSimpArgs false
set_option linter.unusedVariables false
attribute [local irreducible] inK Utf8.decode Utf8.encode Lib.itoa Pl.worth Pl.allDig
attribute [local irreducible] Lib.join
def pcRequests : PC := PC.of (fun r : Request => [.agg r.enc]) (fun _ => True) (fun _ => .bool (sB true))
def D_couponlaw26_ScriptRequests : PT := tabD [(12, pcKnown), (23, pcMuchR), (24, pcReqLine), (25, pcMayReq), (26, pcReqOf), (27, pcReqLineR), (28, pcSameR)]
theorem d_couponlaw26_ScriptRequests {W : World} (hW : Tabs W) : PTOk (Fw W) Tryz.prog D_couponlaw26_ScriptRequests := (tabD_cons Tryz.call12 (g_known0 hW) (tabD_cons Tryz.call23 (g_couponref16_Much hW) (tabD_cons Tryz.call24 (g_reqLine hW) (tabD_cons Tryz.call25 (g_couponref16_May hW) (tabD_cons Tryz.call26 (g_reqOf hW) (tabD_cons Tryz.call27 (g_couponref26_RequestLine hW) (tabD_cons Tryz.call28 (g_couponref16_Same hW) tabD_nil)))))))
def C_couponlaw26_ScriptRequests : FuncId → Option Ctr := tabC D_couponlaw26_ScriptRequests []
theorem c_couponlaw26_ScriptRequests {W : World} (hW : Tabs W) : CtrOk (Fw W) Tryz.prog C_couponlaw26_ScriptRequests := (tabC_nil (d_couponlaw26_ScriptRequests hW))
set_option maxHeartbeats 2000000 in
theorem g_couponlaw26_ScriptRequests {W : World} (hW : Tabs W) : GoodP (Fw W) Tryz.prog 5 pcRequests := by
 have hD := d_couponlaw26_ScriptRequests hW
 have hC0 : ∀ r : Request, CtrOk (Fw W) Tryz.prog C_couponlaw26_ScriptRequests := fun r => (c_couponlaw26_ScriptRequests hW)
 refine goodP_ofC (D := D_couponlaw26_ScriptRequests) (C := fun r => C_couponlaw26_ScriptRequests) (wr := (fun _ => false)) rfl tyOk hD hC0 Tryz.func5 (fun _ _ => none) (fun _ => rfl) ?_
 intro r hf hp
 have hlen : (reqW r).length ≤ 1000000 := by
  unfold reqW
  split
  ·exact Nat.le_trans (reqJ_len (by assumption) hf) (by decide)
  ·exact Nat.zero_le _
 clear hf
 have hsh : muchR r = false → shortR r := fun h => by
  unfold muchR at h
  simp only [Bool.or_eq_false_iff, decide_eq_false_iff_not] at h
  exact ⟨by omega, by omega⟩
 (conv => whnf)
 all_goals (try (show _ = _; simp only [wQ]))
 refine ⟨r, True.intro, ?_, ?_⟩
 ·exact leL_rfl _
 (conv => whnf)
 (repeat' ((first
  | ((with_reducible refine And.intro ?_ ?_); focus (with_reducible exact True.intro))
  | (split <;> rename_i hh <;> (try simp only [wS] at hh) <;> (try simp (disch := omega) only [wT] at hh))
  | fail) <;> (conv => whnf)))
 all_goals (try (show _ = _; simp only [wQ]))
 refine ⟨r, hsh (by assumption), ?_, ?_⟩
 ·exact leL_rfl _
 (conv => whnf)
 all_goals (try (show _ = _; simp only [wQ]))
 refine ⟨r, True.intro, ?_, ?_⟩
 ·exact leL_rfl _
 (conv => whnf)
 (repeat' ((first
  | ((with_reducible refine And.intro ?_ ?_); focus (with_reducible exact True.intro))
  | (split <;> rename_i hh <;> (try simp only [wS] at hh) <;> (try simp (disch := omega) only [wT] at hh))
  | fail) <;> (conv => whnf)))
 all_goals (try (show _ = _; simp only [wQ]))
 ·rfl
 ·exact absurd (reqW_no (by assumption)) (by assumption)
 ·have hm := ‹mayReqB r = true›
  have hone : rqOf (reqW r) = (r, 0) := rqOf_line hm
  have hsame : sameR r r = true := sameR_iff.2 rfl
  refine ⟨((reqW r, (r, 0)) : List UInt8 × Request × Int), ⟨hone, hlen⟩, ?_, ?_⟩
  ·(conv => whnf)
   (repeat' ((first | with_reducible exact True.intro | with_reducible refine And.intro (?_ : leA _ _ _) ?_ | fail) <;> (conv => whnf)))
   all_goals (try simp only [wQ])
  (conv => whnf)
  all_goals (try (show _ = _; simp only [wQ]))
  refine ⟨r, hm, ?_, ?_⟩
  ·exact leL_rfl _
  (conv => whnf)
  (repeat' ((first
   | (split <;> rename_i hh <;> (try simp only [wS] at hh) <;> (try simp (disch := omega) only [wT] at hh))
   | fail) <;> (conv => whnf)))
  all_goals (try (show _ = _; simp only [wQ]))
  ·refine ⟨((r, r) : Request × Request), True.intro, ?_, ?_⟩
   ·exact leL_rfl _
   (conv => whnf)
   (repeat' ((first
    | ((with_reducible refine And.intro ?_ ?_); focus (with_reducible exact True.intro))
    | (split <;> rename_i hh <;> (try simp only [wS] at hh) <;> (try simp (disch := omega) only [wT] at hh))
    | fail) <;> (conv => whnf)))
   all_goals (try (show _ = _; simp only [wQ]))
   all_goals first | rfl | exact absurd (hsame.symm.trans (by assumption)) (by decide)
  ·exact absurd True.intro (by assumption)
end
end Go.Vc.Z
