/- The request of a line: the plain law. -/
import Derived.Test.YtpmpclbdnakniaaGreatDoorV11
set_option linter.all false
set_option linter.unusedVariables false
set_option linter.unusedSimpArgs false
namespace Go.Vc.Z
open Go Go.Vc Go.Proofs Go.RowKit Go.Pl Go.Lib
noncomputable section
abbrev zeroR : Request := ⟨[], 0, 0, 0, 0, 0, [], [], [], 0, 0, 0⟩
open Classical in
@[irreducible] def rqOf (s : List UInt8) : Request × Int := if h : ∃ r, mayReqB r = true ∧ reqW r = s then (h.choose, 0) else (zeroR, 4)
theorem rqOf_no {s : List UInt8} (h : ∀ r, mayReqB r = true → reqW r = s → False) : rqOf s = (zeroR, 4) := by
 unfold rqOf
 rw [dif_neg]
 rintro ⟨r, h1, h2⟩
 exact h r h1 h2
theorem rqOf_yes {s : List UInt8} {R : Request} (h1 : mayReqB R = true) (h2 : reqW R = s) (h : ∀ r, mayReqB r = true → reqW r = s → R = r) : rqOf s = (R, 0) := by
 have hx : ∃ r, mayReqB r = true ∧ reqW r = s := ⟨R, h1, h2⟩
 unfold rqOf
 rw [dif_pos hx, ← h _ hx.choose_spec.1 hx.choose_spec.2]
theorem reqParts_hd {r : Request} (h : mayReqB r = true) : (reqParts r).getD 0 [] = namesL.getD (r.kind - 1).toNat [] := by
 rcases req_cases h with k | k | k | k | k | k | k | k | k | k
 ·rw [reqParts_1 k, k]; rfl
 ·rw [reqParts_2 k, k]; rfl
 ·rw [reqParts_3 k, k]; rfl
 ·rw [reqParts_4 k, k]; rfl
 ·rw [reqParts_5 k, k]; rfl
 ·rw [reqParts_6 k, k]; rfl
 ·rw [reqParts_7 k, k]; rfl
 ·rw [reqParts_8 k, k]; rfl
 ·rw [reqParts_9 k, k]; rfl
 ·rw [reqParts_10 k, k]; rfl
theorem only_of {r : Request} (h : mayReqB r = true) : r = onlyR r := by
 rcases req_cases h with k | k | k | k | k | k | k | k | k | k
 ·rw [mayReq_1 k] at h; simp only [Bool.and_eq_true, sameR_iff] at h; exact h.2.2.2.2.2
 ·rw [mayReq_2 k] at h; simp only [Bool.and_eq_true, sameR_iff] at h; exact h.2.2.2.2.2
 ·rw [mayReq_3 k] at h; simp only [Bool.and_eq_true, sameR_iff] at h; exact h.2.2.2
 ·rw [mayReq_4 k] at h; simp only [Bool.and_eq_true, sameR_iff] at h; exact h.2.2.2.2
 ·rw [mayReq_5 k] at h; simp only [Bool.and_eq_true, sameR_iff] at h; exact h.2.2.2.2.2.2
 ·rw [mayReq_6 k] at h; simp only [Bool.and_eq_true, sameR_iff] at h; exact h.2.2.2.2
 ·rw [mayReq_7 k] at h; simp only [Bool.and_eq_true, sameR_iff] at h; exact h.2.2.2.2
 ·rw [mayReq_8 k] at h; simp only [Bool.and_eq_true, sameR_iff] at h; exact h.2
 ·rw [mayReq_9 k] at h; simp only [Bool.and_eq_true, sameR_iff] at h; exact h.2
 ·rw [mayReq_10 k] at h; simp only [Bool.and_eq_true, sameR_iff] at h; exact h.2
theorem kindOf_cases (s : List UInt8) : kindOf s = 0 ∨ kindOf s = 1 ∨ kindOf s = 2 ∨ kindOf s = 3 ∨ kindOf s = 4 ∨ kindOf s = 5 ∨ kindOf s = 6 ∨ kindOf s = 7 ∨ kindOf s = 8 ∨ kindOf s = 9 ∨ kindOf s = 10 := by
 unfold kindOf
 repeat' split
 all_goals omega
theorem rd_kind {s : List UInt8} {r : Request} {k : Int} (hm : mayReqB r = true) (hw : reqW r = s) (hk : kindOf ((cutL 32 s).getD 0 []) = k) : r.kind = k := by
 have hc := req_cut hm
 rw [hw] at hc
 have h1 : 1 ≤ r.kind ∧ r.kind ≤ 10 := by rcases req_cases hm with k | k | k | k | k | k | k | k | k | k <;> omega
 rw [hc, reqParts_hd hm, ← nameQ_at h1, kindOf_at h1] at hk
 exact hk
theorem flights_back {m : Int} {l : List Coupon} (h : coupB m l = true) : cutL 44 (flightsW l) = l.map flightW ∧ ∀ c ∈ l, flOf (flightW c) = (c, true) := by
 obtain ⟨h1, h2, h3⟩ := coupB_facts h
 exact ⟨flights_cut (by intro e; rw [e] at h1; simp at h1), fun c hc => flOf_word (h3 c hc)⟩
theorem taxes_back {l : List Tax} (h : taxesB l = true) : (l = [] ∧ taxesW l = [45]) ∨ (taxesW l ≠ [45] ∧ cutL 44 (taxesW l) = l.map taxW ∧ ∀ c ∈ l, txOf (taxW c) = (c, true)) := by
 by_cases h0 : l = []
 ·subst h0; exact .inl ⟨rfl, by unfold taxesW; rfl⟩
 ·exact .inr ⟨taxesW_dash h0, taxes_cut h0, fun c hc => txOf_word (taxesB_all h c hc).1 (taxesB_all h c hc).2⟩
theorem rd_1 {s : List UInt8} {r : Request} (hm : mayReqB r = true) (hw : reqW r = s) (hk : kindOf ((cutL 32 s).getD 0 []) = 1) : cutL 32 s = [[105, 115, 115, 117, 101], r.key, Lib.itoa r.day, r.locator, flightsW r.coupons, taxesW r.taxes] ∧ r = ⟨r.key, 1, r.day, 0, 0, 0, r.locator, r.coupons, r.taxes, 0, 0, 0⟩ ∧ (wholeN (Lib.itoa r.day) = (r.day, true)) ∧ (cutL 44 (flightsW r.coupons) = r.coupons.map flightW ∧ ∀ c ∈ r.coupons, flOf (flightW c) = (c, true)) ∧ ((r.taxes = [] ∧ taxesW r.taxes = [45]) ∨ (taxesW r.taxes ≠ [45] ∧ cutL 44 (taxesW r.taxes) = r.taxes.map taxW ∧ ∀ c ∈ r.taxes, txOf (taxW c) = (c, true))) ∧ True := by
 have k := rd_kind hm hw hk
 have hc := req_cut hm
 have ho := only_of hm
 rw [hw, reqParts_1 k] at hc
 obtain ⟨hK, hD, hL, hC, hX⟩ := mayFacts_1 k hm
 refine ⟨hc, ?_, whole_itoa (dayB_le hD).1 (by have := dayB_le hD; omega), flights_back hC, taxes_back hX, True.intro⟩
 refine ho.trans ?_
 unfold onlyR; rw [k]; rfl
theorem rd_2 {s : List UInt8} {r : Request} (hm : mayReqB r = true) (hw : reqW r = s) (hk : kindOf ((cutL 32 s).getD 0 []) = 2) : cutL 32 s = [[109, 111, 118, 101], r.key, Lib.itoa r.day, numText r.ticket, Lib.itoa r.coupon, letterS r.status] ∧ r = ⟨r.key, 2, r.day, r.ticket, r.coupon, r.status, [], [], [], 0, 0, 0⟩ ∧ (wholeN (Lib.itoa r.day) = (r.day, true)) ∧ (numOf (numText r.ticket) = (r.ticket, 0)) ∧ (wholeN (Lib.itoa r.coupon) = (r.coupon, true)) ∧ (statOf (letterS r.status) = r.status ∧ r.status ≠ 0) ∧ True := by
 have k := rd_kind hm hw hk
 have hc := req_cut hm
 have ho := only_of hm
 rw [hw, reqParts_2 k] at hc
 obtain ⟨hK, hD, hT, hN, hS⟩ := mayFacts_2 k hm
 refine ⟨hc, ?_, whole_itoa (dayB_le hD).1 (by have := dayB_le hD; omega), numOf_text (by unfold numdB at hT; simpa using hT), whole_itoa (by omega) (by omega), ⟨statOf_letter hS, by have := mayS_iff.1 hS; omega⟩, True.intro⟩
 refine ho.trans ?_
 unfold onlyR; rw [k]; rfl
theorem rd_3 {s : List UInt8} {r : Request} (hm : mayReqB r = true) (hw : reqW r = s) (hk : kindOf ((cutL 32 s).getD 0 []) = 3) : cutL 32 s = [[118, 111, 105, 100], r.key, Lib.itoa r.day, numText r.ticket] ∧ r = ⟨r.key, 3, r.day, r.ticket, 0, 0, [], [], [], 0, 0, 0⟩ ∧ (wholeN (Lib.itoa r.day) = (r.day, true)) ∧ (numOf (numText r.ticket) = (r.ticket, 0)) ∧ True := by
 have k := rd_kind hm hw hk
 have hc := req_cut hm
 have ho := only_of hm
 rw [hw, reqParts_3 k] at hc
 obtain ⟨hK, hD, hT⟩ := mayFacts_3 k hm
 refine ⟨hc, ?_, whole_itoa (dayB_le hD).1 (by have := dayB_le hD; omega), numOf_text (by unfold numdB at hT; simpa using hT), True.intro⟩
 refine ho.trans ?_
 unfold onlyR; rw [k]; rfl
theorem rd_4 {s : List UInt8} {r : Request} (hm : mayReqB r = true) (hw : reqW r = s) (hk : kindOf ((cutL 32 s).getD 0 []) = 4) : cutL 32 s = [[114, 101, 102, 117, 110, 100], r.key, Lib.itoa r.day, numText r.ticket, fareT r.amount] ∧ r = ⟨r.key, 4, r.day, r.ticket, 0, 0, [], [], [], r.amount, 0, 0⟩ ∧ (wholeN (Lib.itoa r.day) = (r.day, true)) ∧ (numOf (numText r.ticket) = (r.ticket, 0)) ∧ (fareOf (fareT r.amount) = (r.amount, 0)) ∧ True := by
 have k := rd_kind hm hw hk
 have hc := req_cut hm
 have ho := only_of hm
 rw [hw, reqParts_4 k] at hc
 obtain ⟨hK, hD, hT, hA⟩ := mayFacts_4 k hm
 refine ⟨hc, ?_, whole_itoa (dayB_le hD).1 (by have := dayB_le hD; omega), numOf_text (by unfold numdB at hT; simpa using hT), fareOf_text (someB_money hA), True.intro⟩
 refine ho.trans ?_
 unfold onlyR; rw [k]; rfl
theorem rd_5 {s : List UInt8} {r : Request} (hm : mayReqB r = true) (hw : reqW r = s) (hk : kindOf ((cutL 32 s).getD 0 []) = 5) : cutL 32 s = [[101, 120, 99, 104, 97, 110, 103, 101], r.key, Lib.itoa r.day, numText r.ticket, fareT r.amount, flightsW r.coupons, taxesW r.taxes] ∧ r = ⟨r.key, 5, r.day, r.ticket, 0, 0, [], r.coupons, r.taxes, r.amount, 0, 0⟩ ∧ (wholeN (Lib.itoa r.day) = (r.day, true)) ∧ (numOf (numText r.ticket) = (r.ticket, 0)) ∧ (fareOf (fareT r.amount) = (r.amount, 0)) ∧ (cutL 44 (flightsW r.coupons) = r.coupons.map flightW ∧ ∀ c ∈ r.coupons, flOf (flightW c) = (c, true)) ∧ ((r.taxes = [] ∧ taxesW r.taxes = [45]) ∨ (taxesW r.taxes ≠ [45] ∧ cutL 44 (taxesW r.taxes) = r.taxes.map taxW ∧ ∀ c ∈ r.taxes, txOf (taxW c) = (c, true))) ∧ True := by
 have k := rd_kind hm hw hk
 have hc := req_cut hm
 have ho := only_of hm
 rw [hw, reqParts_5 k] at hc
 obtain ⟨hK, hD, hT, hA, hC, hX⟩ := mayFacts_5 k hm
 refine ⟨hc, ?_, whole_itoa (dayB_le hD).1 (by have := dayB_le hD; omega), numOf_text (by unfold numdB at hT; simpa using hT), fareOf_text (someB_money hA), flights_back hC, taxes_back hX, True.intro⟩
 refine ho.trans ?_
 unfold onlyR; rw [k]; rfl
theorem rd_6 {s : List UInt8} {r : Request} (hm : mayReqB r = true) (hw : reqW r = s) (hk : kindOf ((cutL 32 s).getD 0 []) = 6) : cutL 32 s = [[97, 115, 107], r.key, Lib.itoa r.day, numText r.ticket, Lib.itoa r.coupon] ∧ r = ⟨r.key, 6, r.day, r.ticket, r.coupon, 0, [], [], [], 0, 0, 0⟩ ∧ (wholeN (Lib.itoa r.day) = (r.day, true)) ∧ (numOf (numText r.ticket) = (r.ticket, 0)) ∧ (wholeN (Lib.itoa r.coupon) = (r.coupon, true)) ∧ True := by
 have k := rd_kind hm hw hk
 have hc := req_cut hm
 have ho := only_of hm
 rw [hw, reqParts_6 k] at hc
 obtain ⟨hK, hD, hT, hN⟩ := mayFacts_6 k hm
 refine ⟨hc, ?_, whole_itoa (dayB_le hD).1 (by have := dayB_le hD; omega), numOf_text (by unfold numdB at hT; simpa using hT), whole_itoa (by omega) (by omega), True.intro⟩
 refine ho.trans ?_
 unfold onlyR; rw [k]; rfl
theorem rd_7 {s : List UInt8} {r : Request} (hm : mayReqB r = true) (hw : reqW r = s) (hk : kindOf ((cutL 32 s).getD 0 []) = 7) : cutL 32 s = [[114, 101, 116, 117, 114, 110], r.key, Lib.itoa r.day, numText r.ticket, Lib.itoa r.coupon] ∧ r = ⟨r.key, 7, r.day, r.ticket, r.coupon, 0, [], [], [], 0, 0, 0⟩ ∧ (wholeN (Lib.itoa r.day) = (r.day, true)) ∧ (numOf (numText r.ticket) = (r.ticket, 0)) ∧ (wholeN (Lib.itoa r.coupon) = (r.coupon, true)) ∧ True := by
 have k := rd_kind hm hw hk
 have hc := req_cut hm
 have ho := only_of hm
 rw [hw, reqParts_7 k] at hc
 obtain ⟨hK, hD, hT, hN⟩ := mayFacts_7 k hm
 refine ⟨hc, ?_, whole_itoa (dayB_le hD).1 (by have := dayB_le hD; omega), numOf_text (by unfold numdB at hT; simpa using hT), whole_itoa (by omega) (by omega), True.intro⟩
 refine ho.trans ?_
 unfold onlyR; rw [k]; rfl
theorem rd_8 {s : List UInt8} {r : Request} (hm : mayReqB r = true) (hw : reqW r = s) (hk : kindOf ((cutL 32 s).getD 0 []) = 8) : cutL 32 s = [[115, 104, 111, 119], numText r.ticket] ∧ r = ⟨[], 8, 0, r.ticket, 0, 0, [], [], [], 0, 0, 0⟩ ∧ (numOf (numText r.ticket) = (r.ticket, 0)) ∧ True := by
 have k := rd_kind hm hw hk
 have hc := req_cut hm
 have ho := only_of hm
 rw [hw, reqParts_8 k] at hc
 have hT := mayFacts_8 k hm
 refine ⟨hc, ?_, numOf_text (by unfold numdB at hT; simpa using hT), True.intro⟩
 refine ho.trans ?_
 unfold onlyR; rw [k]; rfl
theorem rd_9 {s : List UInt8} {r : Request} (hm : mayReqB r = true) (hw : reqW r = s) (hk : kindOf ((cutL 32 s).getD 0 []) = 9) : cutL 32 s = [[102, 105, 110, 100], r.locator] ∧ r = ⟨[], 9, 0, 0, 0, 0, r.locator, [], [], 0, 0, 0⟩ ∧ True := by
 have k := rd_kind hm hw hk
 have hc := req_cut hm
 have ho := only_of hm
 rw [hw, reqParts_9 k] at hc
 have hL := mayFacts_9 k hm
 refine ⟨hc, ?_, True.intro⟩
 refine ho.trans ?_
 unfold onlyR; rw [k]; rfl
theorem rd_10 {s : List UInt8} {r : Request} (hm : mayReqB r = true) (hw : reqW r = s) (hk : kindOf ((cutL 32 s).getD 0 []) = 10) : cutL 32 s = [[114, 101, 112, 111, 114, 116], Lib.itoa r.frm, Lib.itoa r.til] ∧ r = ⟨[], 10, 0, 0, 0, 0, [], [], [], 0, r.frm, r.til⟩ ∧ (wholeN (Lib.itoa r.frm) = (r.frm, true)) ∧ (wholeN (Lib.itoa r.til) = (r.til, true)) ∧ True := by
 have k := rd_kind hm hw hk
 have hc := req_cut hm
 have ho := only_of hm
 rw [hw, reqParts_10 k] at hc
 obtain ⟨hF, hU⟩ := mayFacts_10 k hm
 refine ⟨hc, ?_, whole_itoa (dayB_le hF).1 (by have := dayB_le hF; omega), whole_itoa (dayB_le hU).1 (by have := dayB_le hU; omega), True.intro⟩
 refine ho.trans ?_
 unfold onlyR; rw [k]; rfl
end
end Go.Vc.Z
namespace Go.Vc.Z
open Go Go.Vc Go.Proofs Go.RowKit Go.Pl Go.Lib
theorem back_done {α : Type} {f : List UInt8 → α × Bool} {g : α → List UInt8} {W : List (List UInt8)} {L l : List α} (h : L = (W.take L.length).map (fun w => (f w).1)) (hle : L.length ≤ W.length) (hn : ¬ L.length < W.length) (hW : W = l.map g) (hf : ∀ c ∈ l, f (g c) = (c, true)) : L = l := by
 have e : L.length = W.length := by omega
 rw [e, List.take_length, hW, List.map_map] at h
 rw [h]
 clear h hle hn hW e
 induction l with
 | nil => rfl
 | cons c l ih =>
  rw [List.map_cons, ih (fun d hd => hf d (List.mem_cons_of_mem _ hd))]
  show (f (g c)).1 :: l = c :: l
  rw [hf c (List.mem_cons_self ..)]
theorem back_ok {α : Type} {f : List UInt8 → α × Bool} {g : α → List UInt8} {W : List (List UInt8)} {l : List α} {i : Nat} (hi : i < W.length) (hW : W = l.map g) (hf : ∀ c ∈ l, f (g c) = (c, true)) : (f (W.getD i [])).2 = true := by
 subst hW
 rw [List.getD_eq_getElem?_getD, List.getElem?_eq_getElem hi, Option.getD_some, List.getElem_map, hf _ (List.getElem_mem _)]
theorem take_snoc {α : Type} {f : List UInt8 → α × Bool} {W : List (List UInt8)} {L : List α} (h : L = (W.take L.length).map (fun w => (f w).1)) (hi : L.length < W.length) : L ++ [(f (W.getD L.length [])).1] = (W.take (L ++ [(f (W.getD L.length [])).1]).length).map (fun w => (f w).1) := by
 rw [List.length_append, List.length_singleton, List.take_add_one, List.map_append, ← h, List.getElem?_eq_getElem hi, List.getD_eq_getElem?_getD, List.getElem?_eq_getElem hi]
 rfl
theorem all_snoc {W : List (List UInt8)} {p : List UInt8 → Bool} {n : Nat} (h : ∀ w ∈ W.take n, p w = true) (hi : n < W.length) (hp : p (W.getD n []) = true) : ∀ w ∈ W.take (n + 1), p w = true := by
 intro w hw
 rw [List.take_add_one, List.getElem?_eq_getElem hi, List.mem_append] at hw
 rcases hw with hw | hw
 ·exact h w hw
 ·rw [List.getD_eq_getElem?_getD, List.getElem?_eq_getElem hi] at hp
  simp at hw; rw [hw]; exact hp
theorem cat_encn {α : Type} [Inhabited α] {enc : α → List AV} {l : List α} {n : Nat} {d : α} {g b : Nat → List AV} (hn : n = l.length) (hg : ∀ e, e < l.length → g e = enc (l.getD e default)) (hb : b 0 = enc d) {e : Nat} (he : e < n + 1) : catRow n g b e = enc ((l ++ [d]).getD e default) := by
 subst hn
 unfold catRow
 by_cases h : e < l.length
 ·rw [if_pos h, hg e h, List.getD_eq_getElem?_getD, List.getD_eq_getElem?_getD, List.getElem?_append_left h]
 ·rw [if_neg h]
  obtain rfl : e = l.length := by omega
  rw [Nat.sub_self, hb, List.getD_eq_getElem?_getD, List.getElem?_append_right (Nat.le_refl _), Nat.sub_self]; rfl
theorem cut_small {c : UInt8} {s : List UInt8} {m : Nat} (h : s.length ≤ m) (i : Nat) : ((sL (cutL c s)).getD i []).length ≤ m := by
 rw [sL_eq, List.getD_eq_getElem?_getD]
 cases e : (cutL c s)[i]? with
 | none => simp
 | some w => have := (cutL_mem s w (List.mem_of_getElem? e)).1; simp; omega
theorem maps_inj {α : Type} {f : List UInt8 → α × Bool} {g : α → List UInt8} : ∀ {l k : List α}, l.map g = k.map g → (∀ c ∈ l, f (g c) = (c, true)) → (∀ c ∈ k, f (g c) = (c, true)) → l = k
 | [], [], _, _, _ => rfl
 | [], _ :: _, h, _, _ => by cases h
 | _ :: _, [], h, _, _ => by cases h
 | a :: l, b :: k, h, h1, h2 => by
  rw [List.map_cons, List.map_cons] at h
  injection h with e1 e2
  have e3 := (h1 a (List.mem_cons_self ..)).symm.trans ((congrArg f e1).trans (h2 b (List.mem_cons_self ..)))
  rw [show a = b from congrArg Prod.fst e3, maps_inj e2 (fun c hc => h1 c (List.mem_cons_of_mem _ hc)) (fun c hc => h2 c (List.mem_cons_of_mem _ hc))]
theorem cut_inj {α : Type} {f : List UInt8 → α × Bool} {g : α → List UInt8} {l k : List α} {a b : List UInt8} (h : a = b) (h1 : cutL 44 a = l.map g ∧ ∀ c ∈ l, f (g c) = (c, true)) (h2 : cutL 44 b = k.map g ∧ ∀ c ∈ k, f (g c) = (c, true)) : l = k :=
 maps_inj (h1.1.symm.trans ((congrArg (cutL 44) h).trans h2.1)) h1.2 h2.2
theorem tax_inj {l k : List Tax} (h : taxesW l = taxesW k) (h1 : (l = [] ∧ taxesW l = [45]) ∨ (taxesW l ≠ [45] ∧ cutL 44 (taxesW l) = l.map taxW ∧ ∀ c ∈ l, txOf (taxW c) = (c, true))) (h2 : (k = [] ∧ taxesW k = [45]) ∨ (taxesW k ≠ [45] ∧ cutL 44 (taxesW k) = k.map taxW ∧ ∀ c ∈ k, txOf (taxW c) = (c, true))) : l = k := by
 rcases h1 with ⟨a, b⟩ | ⟨a, b⟩ <;> rcases h2 with ⟨c, d⟩ | ⟨c, d⟩
 ·rw [a, c]
 ·exact absurd (h.symm.trans b) c
 ·exact absurd (h.trans d) a
 ·exact cut_inj h b d
theorem inj_1 {r q : Request} (hm : mayReqB r = true) (hn : mayReqB q = true) (hw : reqW r = reqW q) (hk : kindOf ((cutL 32 (reqW q)).getD 0 []) = 1) : r = q := by
 obtain ⟨c1, e1, fD, fC, fX, -⟩ := rd_1 hm hw hk
 obtain ⟨c2, e2, gD, gC, gX, -⟩ := rd_1 hn rfl hk
 have h := c1.symm.trans c2
 simp only [List.cons.injEq, and_true, true_and] at h
 obtain ⟨hK, hD, hL, hC, hX⟩ := h
 have iK : r.key = q.key := hK
 have iD : r.day = q.day := congrArg Prod.fst (fD.symm.trans ((congrArg wholeN hD).trans gD))
 have iL : r.locator = q.locator := hL
 have iC : r.coupons = q.coupons := cut_inj hC fC gC
 have iX : r.taxes = q.taxes := tax_inj hX fX gX
 rw [e1, e2, iK, iD, iL, iC, iX]
theorem inj_2 {r q : Request} (hm : mayReqB r = true) (hn : mayReqB q = true) (hw : reqW r = reqW q) (hk : kindOf ((cutL 32 (reqW q)).getD 0 []) = 2) : r = q := by
 obtain ⟨c1, e1, fD, fT, fN, fS, -⟩ := rd_2 hm hw hk
 obtain ⟨c2, e2, gD, gT, gN, gS, -⟩ := rd_2 hn rfl hk
 have h := c1.symm.trans c2
 simp only [List.cons.injEq, and_true, true_and] at h
 obtain ⟨hK, hD, hT, hN, hS⟩ := h
 have iK : r.key = q.key := hK
 have iD : r.day = q.day := congrArg Prod.fst (fD.symm.trans ((congrArg wholeN hD).trans gD))
 have iT : r.ticket = q.ticket := congrArg Prod.fst (fT.symm.trans ((congrArg numOf hT).trans gT))
 have iN : r.coupon = q.coupon := congrArg Prod.fst (fN.symm.trans ((congrArg wholeN hN).trans gN))
 have iS : r.status = q.status := fS.1.symm.trans ((congrArg statOf hS).trans gS.1)
 rw [e1, e2, iK, iD, iT, iN, iS]
theorem inj_3 {r q : Request} (hm : mayReqB r = true) (hn : mayReqB q = true) (hw : reqW r = reqW q) (hk : kindOf ((cutL 32 (reqW q)).getD 0 []) = 3) : r = q := by
 obtain ⟨c1, e1, fD, fT, -⟩ := rd_3 hm hw hk
 obtain ⟨c2, e2, gD, gT, -⟩ := rd_3 hn rfl hk
 have h := c1.symm.trans c2
 simp only [List.cons.injEq, and_true, true_and] at h
 obtain ⟨hK, hD, hT⟩ := h
 have iK : r.key = q.key := hK
 have iD : r.day = q.day := congrArg Prod.fst (fD.symm.trans ((congrArg wholeN hD).trans gD))
 have iT : r.ticket = q.ticket := congrArg Prod.fst (fT.symm.trans ((congrArg numOf hT).trans gT))
 rw [e1, e2, iK, iD, iT]
theorem inj_4 {r q : Request} (hm : mayReqB r = true) (hn : mayReqB q = true) (hw : reqW r = reqW q) (hk : kindOf ((cutL 32 (reqW q)).getD 0 []) = 4) : r = q := by
 obtain ⟨c1, e1, fD, fT, fA, -⟩ := rd_4 hm hw hk
 obtain ⟨c2, e2, gD, gT, gA, -⟩ := rd_4 hn rfl hk
 have h := c1.symm.trans c2
 simp only [List.cons.injEq, and_true, true_and] at h
 obtain ⟨hK, hD, hT, hA⟩ := h
 have iK : r.key = q.key := hK
 have iD : r.day = q.day := congrArg Prod.fst (fD.symm.trans ((congrArg wholeN hD).trans gD))
 have iT : r.ticket = q.ticket := congrArg Prod.fst (fT.symm.trans ((congrArg numOf hT).trans gT))
 have iA : r.amount = q.amount := congrArg Prod.fst (fA.symm.trans ((congrArg fareOf hA).trans gA))
 rw [e1, e2, iK, iD, iT, iA]
theorem inj_5 {r q : Request} (hm : mayReqB r = true) (hn : mayReqB q = true) (hw : reqW r = reqW q) (hk : kindOf ((cutL 32 (reqW q)).getD 0 []) = 5) : r = q := by
 obtain ⟨c1, e1, fD, fT, fA, fC, fX, -⟩ := rd_5 hm hw hk
 obtain ⟨c2, e2, gD, gT, gA, gC, gX, -⟩ := rd_5 hn rfl hk
 have h := c1.symm.trans c2
 simp only [List.cons.injEq, and_true, true_and] at h
 obtain ⟨hK, hD, hT, hA, hC, hX⟩ := h
 have iK : r.key = q.key := hK
 have iD : r.day = q.day := congrArg Prod.fst (fD.symm.trans ((congrArg wholeN hD).trans gD))
 have iT : r.ticket = q.ticket := congrArg Prod.fst (fT.symm.trans ((congrArg numOf hT).trans gT))
 have iA : r.amount = q.amount := congrArg Prod.fst (fA.symm.trans ((congrArg fareOf hA).trans gA))
 have iC : r.coupons = q.coupons := cut_inj hC fC gC
 have iX : r.taxes = q.taxes := tax_inj hX fX gX
 rw [e1, e2, iK, iD, iT, iA, iC, iX]
theorem inj_6 {r q : Request} (hm : mayReqB r = true) (hn : mayReqB q = true) (hw : reqW r = reqW q) (hk : kindOf ((cutL 32 (reqW q)).getD 0 []) = 6) : r = q := by
 obtain ⟨c1, e1, fD, fT, fN, -⟩ := rd_6 hm hw hk
 obtain ⟨c2, e2, gD, gT, gN, -⟩ := rd_6 hn rfl hk
 have h := c1.symm.trans c2
 simp only [List.cons.injEq, and_true, true_and] at h
 obtain ⟨hK, hD, hT, hN⟩ := h
 have iK : r.key = q.key := hK
 have iD : r.day = q.day := congrArg Prod.fst (fD.symm.trans ((congrArg wholeN hD).trans gD))
 have iT : r.ticket = q.ticket := congrArg Prod.fst (fT.symm.trans ((congrArg numOf hT).trans gT))
 have iN : r.coupon = q.coupon := congrArg Prod.fst (fN.symm.trans ((congrArg wholeN hN).trans gN))
 rw [e1, e2, iK, iD, iT, iN]
theorem inj_7 {r q : Request} (hm : mayReqB r = true) (hn : mayReqB q = true) (hw : reqW r = reqW q) (hk : kindOf ((cutL 32 (reqW q)).getD 0 []) = 7) : r = q := by
 obtain ⟨c1, e1, fD, fT, fN, -⟩ := rd_7 hm hw hk
 obtain ⟨c2, e2, gD, gT, gN, -⟩ := rd_7 hn rfl hk
 have h := c1.symm.trans c2
 simp only [List.cons.injEq, and_true, true_and] at h
 obtain ⟨hK, hD, hT, hN⟩ := h
 have iK : r.key = q.key := hK
 have iD : r.day = q.day := congrArg Prod.fst (fD.symm.trans ((congrArg wholeN hD).trans gD))
 have iT : r.ticket = q.ticket := congrArg Prod.fst (fT.symm.trans ((congrArg numOf hT).trans gT))
 have iN : r.coupon = q.coupon := congrArg Prod.fst (fN.symm.trans ((congrArg wholeN hN).trans gN))
 rw [e1, e2, iK, iD, iT, iN]
theorem inj_8 {r q : Request} (hm : mayReqB r = true) (hn : mayReqB q = true) (hw : reqW r = reqW q) (hk : kindOf ((cutL 32 (reqW q)).getD 0 []) = 8) : r = q := by
 obtain ⟨c1, e1, fT, -⟩ := rd_8 hm hw hk
 obtain ⟨c2, e2, gT, -⟩ := rd_8 hn rfl hk
 have h := c1.symm.trans c2
 simp only [List.cons.injEq, and_true, true_and] at h
 have hT := h
 have iT : r.ticket = q.ticket := congrArg Prod.fst (fT.symm.trans ((congrArg numOf hT).trans gT))
 rw [e1, e2, iT]
theorem inj_9 {r q : Request} (hm : mayReqB r = true) (hn : mayReqB q = true) (hw : reqW r = reqW q) (hk : kindOf ((cutL 32 (reqW q)).getD 0 []) = 9) : r = q := by
 obtain ⟨c1, e1, -⟩ := rd_9 hm hw hk
 obtain ⟨c2, e2, -⟩ := rd_9 hn rfl hk
 have h := c1.symm.trans c2
 simp only [List.cons.injEq, and_true, true_and] at h
 have hL := h
 have iL : r.locator = q.locator := hL
 rw [e1, e2, iL]
theorem inj_10 {r q : Request} (hm : mayReqB r = true) (hn : mayReqB q = true) (hw : reqW r = reqW q) (hk : kindOf ((cutL 32 (reqW q)).getD 0 []) = 10) : r = q := by
 obtain ⟨c1, e1, fF, fU, -⟩ := rd_10 hm hw hk
 obtain ⟨c2, e2, gF, gU, -⟩ := rd_10 hn rfl hk
 have h := c1.symm.trans c2
 simp only [List.cons.injEq, and_true, true_and] at h
 obtain ⟨hF, hU⟩ := h
 have iF : r.frm = q.frm := congrArg Prod.fst (fF.symm.trans ((congrArg wholeN hF).trans gF))
 have iU : r.til = q.til := congrArg Prod.fst (fU.symm.trans ((congrArg wholeN hU).trans gU))
 rw [e1, e2, iF, iU]
theorem reqW_inj {r q : Request} (hm : mayReqB r = true) (hn : mayReqB q = true) (hw : reqW r = reqW q) : r = q := by
 rcases kindOf_cases ((cutL 32 (reqW q)).getD 0 []) with hk | hk | hk | hk | hk | hk | hk | hk | hk | hk | hk
 ·have h1 := rd_kind hn rfl hk
  rcases req_cases hn with h | h | h | h | h | h | h | h | h | h <;> omega
 ·exact inj_1 hm hn hw hk
 ·exact inj_2 hm hn hw hk
 ·exact inj_3 hm hn hw hk
 ·exact inj_4 hm hn hw hk
 ·exact inj_5 hm hn hw hk
 ·exact inj_6 hm hn hw hk
 ·exact inj_7 hm hn hw hk
 ·exact inj_8 hm hn hw hk
 ·exact inj_9 hm hn hw hk
 ·exact inj_10 hm hn hw hk
theorem rqOf_line {r : Request} (h : mayReqB r = true) : rqOf (reqW r) = (r, 0) :=
 rqOf_yes h rfl fun _ hm hw => (reqW_inj hm h hw).symm
end Go.Vc.Z
namespace Go.Vc.Z
open Go Go.Vc Go.Proofs Go.RowKit Go.Pl Go.Lib
noncomputable section
set_option maxRecDepth 100000
set_option linter.unusedSimpArgs false
set_option linter.unusedVariables false
attribute [local irreducible] inK Utf8.decode Utf8.encode Lib.itoa Pl.worth Pl.allDig
attribute [local irreducible] Lib.join cut2 cutL
def pcKindAt : PC := PC.of (fun x : List UInt8 × Int => [.str x.1]) (fun x => kindOf x.1 = x.2) (fun x => .int .i64 x.2)
theorem g_kindAt {W : World} (hW : Tabs W) : GoodP (Fw W) Tryz.prog 79 pcKindAt := by
 refine (g_script_kind hW).imp fun cs Q h => ?_
 obtain ⟨⟨s, k⟩, h1, h2, h3⟩ := h
 have h1 : kindOf s = k := h1
 subst h1
 have hcs : cs = [.str s] := by
  match cs, h2 with
  | [c], h2 =>
   have h4 : leA (fun i => i) c (.str s) := h2.1
   cases c with
   | str t => have h5 : t = s := h4; rw [h5]
   | _ => exact h4.elim
 subst hcs
 show True ∧ Q _
 rw [sI_eq]
 exact ⟨trivial, h3⟩
def rowC (l : List Coupon) : Blk := match l with
 | [] => .dead
 | c :: l => .row 6 (l.length + 1) (fun e => ((c :: l).getD e default).enc)
def oslC (id : Nat) : List Coupon → AV
 | [] => .nilsl
 | _ :: l => .osl id 6 0 (l.length + 1) none
def rowT (l : List Tax) : Blk := match l with
 | [] => .dead
 | c :: l => .row 2 (l.length + 1) (fun e => ((c :: l).getD e default).enc)
def oslT (id : Nat) : List Tax → AV
 | [] => .nilsl
 | _ :: l => .osl id 2 0 (l.length + 1) none
def LTkC0 (p : Nat) (s : List UInt8) (H : List Blk) : LoopSpec := {
 α := List Coupon
 keep := [0, 10, 11, 12]
 vals L := [.ptr p 0, slS (sL (cutL 44 s)), .int .i64 (sL (cutL 44 s)).length, .int .i64 L.length]
 heap L := setCell H p 7 (oslC H.length L) ++ [rowC L]
 ok L := L.length ≤ (sL (cutL 44 s)).length ∧ L = ((sL (cutL 44 s)).take L.length).map (fun w => (flOf w).1) ∧ ∀ w ∈ (sL (cutL 44 s)).take L.length, (flOf w).2 = true
 μ L := (sL (cutL 44 s)).length - L.length }
def LTkC (cs : List AV) (H : List Blk) : LoopSpec := match cs with
 | [.ptr p _, .str s] => LTkC0 p s H
 | _ => LTkC0 0 [] H
def LTkT0 (p : Nat) (s : List UInt8) (H : List Blk) : LoopSpec := {
 α := List Tax
 keep := [0, 15, 16, 17]
 vals L := [.ptr p 0, slS (sL (cutL 44 s)), .int .i64 (sL (cutL 44 s)).length, .int .i64 L.length]
 heap L := setCell H p 8 (oslT H.length L) ++ [rowT L]
 ok L := L.length ≤ (sL (cutL 44 s)).length ∧ L = ((sL (cutL 44 s)).take L.length).map (fun w => (txOf w).1) ∧ ∀ w ∈ (sL (cutL 44 s)).take L.length, (txOf w).2 = true
 μ L := (sL (cutL 44 s)).length - L.length }
def LTkT (cs : List AV) (H : List Blk) : LoopSpec := match cs with
 | [.ptr p _, .str s] => LTkT0 p s H
 | _ => LTkT0 0 [] H
def pcReqOfA : PC := PC.of (fun x : List UInt8 × Request × Int => [.str x.1]) (fun x => rqOf x.1 = x.2 ∧ x.1.length ≤ 1000000 ∧ (kindOf ((cutL 32 x.1).getD 0 []) ≠ 1 ∧ kindOf ((cutL 32 x.1).getD 0 []) ≠ 5)) (fun x => .tup [.agg x.2.1.enc, .int .i64 x.2.2])
def D_reqOfA : PT := tabD [(24, pcReqLine), (71, pcMayR), (78, pcSplit), (79, pcKindAt), (93, pcWhole), (153, pcNOf), (156, pcSOf), (159, pcFareOf), (223, pcFlOf), (224, pcPair)]
theorem d_reqOfA {W : World} (hW : Tabs W) : PTOk (Fw W) Tryz.prog D_reqOfA := (tabD_cons Tryz.call24 (g_reqLine hW) (tabD_cons Tryz.call71 (g_reqMay hW) (tabD_cons Tryz.call78 (goodSplit hW) (tabD_cons Tryz.call79 (g_kindAt hW) (tabD_cons Tryz.call93 (g_script_whole hW) (tabD_cons Tryz.call153 (g_number_Of hW) (tabD_cons Tryz.call156 (g_status_Of hW) (tabD_cons Tryz.call159 (g_fare_Of hW) (tabD_cons Tryz.call223 (g_script_flightOf hW) (tabD_cons Tryz.call224 (g_script_pair hW) tabD_nil))))))))))
def C_reqOfA : FuncId → Option Ctr := tabC D_reqOfA []
theorem c_reqOfA {W : World} (hW : Tabs W) : CtrOk (Fw W) Tryz.prog C_reqOfA := (tabC_nil (d_reqOfA hW))
def I1_reqOfA : List (FuncId × Ctr) := (74, inl TY C_reqOfA D_reqOfA (fun _ => false) (fun _ _ _ => none) Tryz.f74) :: []
def C1_reqOfA : FuncId → Option Ctr := tabC D_reqOfA I1_reqOfA
theorem c1_reqOfA {W : World} (hW : Tabs W) : CtrOk (Fw W) Tryz.prog C1_reqOfA := tabC_cons Tryz.call74 (good_inl rfl tyOk (d_reqOfA hW) (c_reqOfA hW) Tryz.func74 (fun _ _ _ => none)) (c_reqOfA hW)
def I2_reqOfA : List (FuncId × Ctr) := (144, inl TY C1_reqOfA D_reqOfA (fun _ => false) (fun _ _ _ => none) Tryz.f144) :: I1_reqOfA
def C2_reqOfA : FuncId → Option Ctr := tabC D_reqOfA I2_reqOfA
theorem c2_reqOfA {W : World} (hW : Tabs W) : CtrOk (Fw W) Tryz.prog C2_reqOfA := tabC_cons Tryz.call144 (good_inl rfl tyOk (d_reqOfA hW) (c1_reqOfA hW) Tryz.func144 (fun _ _ _ => none)) (c1_reqOfA hW)
def I3_reqOfA : List (FuncId × Ctr) := (145, inl TY C2_reqOfA D_reqOfA (fun _ => false) (fun _ _ _ => none) Tryz.f145) :: I2_reqOfA
def C3_reqOfA : FuncId → Option Ctr := tabC D_reqOfA I3_reqOfA
theorem c3_reqOfA {W : World} (hW : Tabs W) : CtrOk (Fw W) Tryz.prog C3_reqOfA := tabC_cons Tryz.call145 (good_inl rfl tyOk (d_reqOfA hW) (c2_reqOfA hW) Tryz.func145 (fun _ _ _ => none)) (c2_reqOfA hW)
def I4_reqOfA : List (FuncId × Ctr) := (147, inl TY C3_reqOfA D_reqOfA (fun _ => false) (fun _ _ _ => none) Tryz.f147) :: I3_reqOfA
def C4_reqOfA : FuncId → Option Ctr := tabC D_reqOfA I4_reqOfA
theorem c4_reqOfA {W : World} (hW : Tabs W) : CtrOk (Fw W) Tryz.prog C4_reqOfA := tabC_cons Tryz.call147 (good_inl rfl tyOk (d_reqOfA hW) (c3_reqOfA hW) Tryz.func147 (fun _ _ _ => none)) (c3_reqOfA hW)
def I5_reqOfA : List (FuncId × Ctr) := (148, inl TY C4_reqOfA D_reqOfA (fun _ => false) (fun _ _ _ => none) Tryz.f148) :: I4_reqOfA
def C5_reqOfA : FuncId → Option Ctr := tabC D_reqOfA I5_reqOfA
theorem c5_reqOfA {W : World} (hW : Tabs W) : CtrOk (Fw W) Tryz.prog C5_reqOfA := tabC_cons Tryz.call148 (good_inl rfl tyOk (d_reqOfA hW) (c4_reqOfA hW) Tryz.func148 (fun _ _ _ => none)) (c4_reqOfA hW)
def I6_reqOfA : List (FuncId × Ctr) := (149, inl TY C5_reqOfA D_reqOfA (fun _ => false) (fun _ _ _ => none) Tryz.f149) :: I5_reqOfA
def C6_reqOfA : FuncId → Option Ctr := tabC D_reqOfA I6_reqOfA
theorem c6_reqOfA {W : World} (hW : Tabs W) : CtrOk (Fw W) Tryz.prog C6_reqOfA := tabC_cons Tryz.call149 (good_inl rfl tyOk (d_reqOfA hW) (c5_reqOfA hW) Tryz.func149 (fun _ _ _ => none)) (c5_reqOfA hW)
def I7_reqOfA : List (FuncId × Ctr) := (150, inl TY C6_reqOfA D_reqOfA (fun _ => false) (fun _ _ _ => none) Tryz.f150) :: I6_reqOfA
def C7_reqOfA : FuncId → Option Ctr := tabC D_reqOfA I7_reqOfA
theorem c7_reqOfA {W : World} (hW : Tabs W) : CtrOk (Fw W) Tryz.prog C7_reqOfA := tabC_cons Tryz.call150 (good_inl rfl tyOk (d_reqOfA hW) (c6_reqOfA hW) Tryz.func150 (fun _ _ _ => none)) (c6_reqOfA hW)
def I8_reqOfA : List (FuncId × Ctr) := (152, inl TY C7_reqOfA D_reqOfA (fun _ => false) (fun _ _ _ => none) Tryz.f152) :: I7_reqOfA
def C8_reqOfA : FuncId → Option Ctr := tabC D_reqOfA I8_reqOfA
theorem c8_reqOfA {W : World} (hW : Tabs W) : CtrOk (Fw W) Tryz.prog C8_reqOfA := tabC_cons Tryz.call152 (good_inl rfl tyOk (d_reqOfA hW) (c7_reqOfA hW) Tryz.func152 (fun _ _ _ => none)) (c7_reqOfA hW)
def I9_reqOfA : List (FuncId × Ctr) := (155, inl TY C8_reqOfA D_reqOfA (fun _ => false) (fun _ _ _ => none) Tryz.f155) :: I8_reqOfA
def C9_reqOfA : FuncId → Option Ctr := tabC D_reqOfA I9_reqOfA
theorem c9_reqOfA {W : World} (hW : Tabs W) : CtrOk (Fw W) Tryz.prog C9_reqOfA := tabC_cons Tryz.call155 (good_inl rfl tyOk (d_reqOfA hW) (c8_reqOfA hW) Tryz.func155 (fun _ _ _ => none)) (c8_reqOfA hW)
def I10_reqOfA : List (FuncId × Ctr) := (158, inl TY C9_reqOfA D_reqOfA (fun _ => false) (fun _ _ _ => none) Tryz.f158) :: I9_reqOfA
def C10_reqOfA : FuncId → Option Ctr := tabC D_reqOfA I10_reqOfA
theorem c10_reqOfA {W : World} (hW : Tabs W) : CtrOk (Fw W) Tryz.prog C10_reqOfA := tabC_cons Tryz.call158 (good_inl rfl tyOk (d_reqOfA hW) (c9_reqOfA hW) Tryz.func158 (fun _ _ _ => none)) (c9_reqOfA hW)
def I11_reqOfA : List (FuncId × Ctr) := (217, inl TY C10_reqOfA D_reqOfA (fun _ => false) (fun _ _ _ => none) Tryz.f217) :: I10_reqOfA
def C11_reqOfA : FuncId → Option Ctr := tabC D_reqOfA I11_reqOfA
theorem c11_reqOfA {W : World} (hW : Tabs W) : CtrOk (Fw W) Tryz.prog C11_reqOfA := tabC_cons Tryz.call217 (good_inl rfl tyOk (d_reqOfA hW) (c10_reqOfA hW) Tryz.func217 (fun _ _ _ => none)) (c10_reqOfA hW)
def I12_reqOfA : List (FuncId × Ctr) := (219, inl TY C11_reqOfA D_reqOfA (fun _ => false) (fun _ _ _ => none) Tryz.f219) :: I11_reqOfA
def C12_reqOfA : FuncId → Option Ctr := tabC D_reqOfA I12_reqOfA
theorem c12_reqOfA {W : World} (hW : Tabs W) : CtrOk (Fw W) Tryz.prog C12_reqOfA := tabC_cons Tryz.call219 (good_inl rfl tyOk (d_reqOfA hW) (c11_reqOfA hW) Tryz.func219 (fun _ _ _ => none)) (c11_reqOfA hW)
def I13_reqOfA : List (FuncId × Ctr) := (143, inl TY C12_reqOfA D_reqOfA (fun _ => false) (fun _ _ _ => none) Tryz.f143) :: I12_reqOfA
def C13_reqOfA : FuncId → Option Ctr := tabC D_reqOfA I13_reqOfA
theorem c13_reqOfA {W : World} (hW : Tabs W) : CtrOk (Fw W) Tryz.prog C13_reqOfA := tabC_cons Tryz.call143 (good_inl rfl tyOk (d_reqOfA hW) (c12_reqOfA hW) Tryz.func143 (fun _ _ _ => none)) (c12_reqOfA hW)
def I14_reqOfA : List (FuncId × Ctr) := (146, inl TY C13_reqOfA D_reqOfA (fun _ => false) (fun _ _ _ => none) Tryz.f146) :: I13_reqOfA
def C14_reqOfA : FuncId → Option Ctr := tabC D_reqOfA I14_reqOfA
theorem c14_reqOfA {W : World} (hW : Tabs W) : CtrOk (Fw W) Tryz.prog C14_reqOfA := tabC_cons Tryz.call146 (good_inl rfl tyOk (d_reqOfA hW) (c13_reqOfA hW) Tryz.func146 (fun _ _ _ => none)) (c13_reqOfA hW)
def LI15_reqOfA : List AV → List Blk → Nat → Option LR := fun cs H i => cond (Nat.beq i 7) (some (.order [0, 1, 2, 3, 4, 5, 6, 7, 8, 9, 10])) ((fun cs H i => cond (Nat.beq i 2) (some (.inv (LTkC cs H))) none) cs H i)
def I15_reqOfA : List (FuncId × Ctr) := (161, inl TY C14_reqOfA D_reqOfA (fun _ => false) (LI15_reqOfA) Tryz.f161) :: I14_reqOfA
def C15_reqOfA : FuncId → Option Ctr := tabC D_reqOfA I15_reqOfA
theorem c15_reqOfA {W : World} (hW : Tabs W) : CtrOk (Fw W) Tryz.prog C15_reqOfA := tabC_cons Tryz.call161 (good_inl rfl tyOk (d_reqOfA hW) (c14_reqOfA hW) Tryz.func161 (LI15_reqOfA)) (c14_reqOfA hW)
def LI16_reqOfA : List AV → List Blk → Nat → Option LR := fun cs H i => cond (Nat.beq i 4) (some (.inv (LTkT cs H))) none
def I16_reqOfA : List (FuncId × Ctr) := (163, inl TY C15_reqOfA D_reqOfA (fun _ => false) (LI16_reqOfA) Tryz.f163) :: I15_reqOfA
def C16_reqOfA : FuncId → Option Ctr := tabC D_reqOfA I16_reqOfA
theorem c16_reqOfA {W : World} (hW : Tabs W) : CtrOk (Fw W) Tryz.prog C16_reqOfA := tabC_cons Tryz.call163 (good_inl rfl tyOk (d_reqOfA hW) (c15_reqOfA hW) Tryz.func163 (LI16_reqOfA)) (c15_reqOfA hW)
def I17_reqOfA : List (FuncId × Ctr) := (72, inl TY C16_reqOfA D_reqOfA (fun _ => false) (fun _ _ _ => none) Tryz.f72) :: I16_reqOfA
def C17_reqOfA : FuncId → Option Ctr := tabC D_reqOfA I17_reqOfA
theorem c17_reqOfA {W : World} (hW : Tabs W) : CtrOk (Fw W) Tryz.prog C17_reqOfA := tabC_cons Tryz.call72 (good_inl rfl tyOk (d_reqOfA hW) (c16_reqOfA hW) Tryz.func72 (fun _ _ _ => none)) (c16_reqOfA hW)
def L_reqOfA : List UInt8 × Request × Int → Nat → Option LR := fun x i => cond (Nat.beq i 8) (some (.unroll 7)) (none)
set_option maxHeartbeats 4000000 in
theorem g_reqOfA {W : World} (hW : Tabs W) : GoodP (Fw W) Tryz.prog 26 pcReqOfA := by
 have hD := d_reqOfA hW
 have hC0 : ∀ x : List UInt8 × Request × Int, CtrOk (Fw W) Tryz.prog C17_reqOfA := fun x => (c17_reqOfA hW)
 refine goodP_ofC (D := D_reqOfA) (C := fun x => C17_reqOfA) (wr := (fun _ => false)) rfl tyOk hD hC0 Tryz.func26 (L_reqOfA) (fun _ => rfl) ?_
 intro x hf hp
 clear hf
 obtain ⟨hq, hs, hn1, hn5⟩ := hp
 have hcut := cutL_le 32 x.1
 have hlen1 := cutL_len 32 x.1
 have hsL := sL_eq (cutL 32 x.1)
 have hl1 : 1 ≤ (sL (cutL 32 x.1)).length := by rw [hsL]; exact hlen1
 have hmem : ∀ i, ((sL (cutL 32 x.1)).getD i []).length ≤ 1000000 := fun i => by
  rw [hsL, List.getD_eq_getElem?_getD]
  cases h : (cutL 32 x.1)[i]? with
  | none => simp
  | some w => have := (cutL_mem x.1 w (List.mem_of_getElem? h)).1; simp; omega
 have hfail : (∀ r, mayReqB r = true → reqW r = x.1 → False) → x.2 = (zeroR, 4) := fun h => by rw [← hq]; exact rqOf_no h
 rw [← hsL] at hn1 hn5
 rcases (kindOf_cases ((sL (cutL 32 x.1)).getD (Int.toNat 0) [])) with hk | hk | hk | hk | hk | hk | hk | hk | hk | hk | hk
 ·have hk2 : kindOf ((cutL 32 x.1).getD 0 []) = 0 := by rw [hsL] at hk; exact hk
  have hno : x.2 = (zeroR, 4) := hfail fun r hm hw => by
   have h1 := rd_kind hm hw hk2
   rcases req_cases hm with h | h | h | h | h | h | h | h | h | h <;> omega
  obtain ⟨r0, w0⟩ := ascii_at (l := [70, 85]) 0 (by decide) (by decide)
  obtain ⟨r1, w1⟩ := ascii_at (l := [70, 85]) 1 (by decide) (by decide)
  have r2 := True.intro
  have w2 := True.intro
  have r3 := True.intro
  have w3 := True.intro
  have r4 := True.intro
  have w4 := True.intro
  have r5 := True.intro
  have w5 := True.intro
  have v0 : runeW (⟨#[70, 85]⟩ : ByteArray).data.toList 0 = 1 := w0
  have v1 : runeW (⟨#[70, 85]⟩ : ByteArray).data.toList (0 + runeW (⟨#[70, 85]⟩ : ByteArray).data.toList 0) = 1 := by rw [v0]; exact w1
  have hrow : (([70, 85] : List UInt8).length : Int) = 2 := rfl
  (conv => whnf)
  (repeat' ((first
   | ((with_reducible refine And.intro ?_ ?_); focus (omega))
   | fail) <;> (conv => whnf)))
  all_goals (try (show _ = _; simp only [wQ]))
  refine ⟨(((sL (cutL 32 x.1)).getD (Int.toNat 0) [], (0 : Int)) : List UInt8 × Int), hk, ?_, ?_⟩
  ·exact leL_rfl _
  (conv => whnf)
  (repeat' ((first
   | with_reducible exact True.intro
   | (with_reducible refine inl_intro ?_)
   | ((with_reducible refine And.intro ?_ ?_); focus (first | with_reducible exact True.intro | ((with_reducible show okB _ _ _ = true); rfl) | with_reducible rfl | omega | (simp only [inK_def, Go.Vc.lo, Go.Vc.hi]; omega)))
   | (conv => arg 2; (first | change eqI (runeAt _ _) _ | change decide (_ + runeW _ _ < _) | change ! (sB _)); simp only [List.toList_toArray, sB_eq, r0, r1, r2, r3, r4, r5, w0, w1, w2, w3, w4, w5, Nat.zero_add, Nat.reduceAdd, List.length_cons, List.length_nil])
   | (split <;> rename_i hh <;> (try simp only [wS] at hh) <;> (try simp (disch := omega) only [wT] at hh))
   | with_reducible refine (fun (hln : (_ : Int) ≤ 9223372036854775807) => ?_)
   | with_reducible refine And.intro (?_ : leA _ _ _) ?_
   | fail) <;> (conv => whnf)))
  all_goals (try (show _ = _; simp only [wQ]))
  all_goals try (rw [hno] <;> rfl)
  refine ⟨(⟨[], 0, 0, 0, 0, 0, [], [], [], 0, (wholeN ((sL (cutL 32 x.1)).getD 1 [])).1, (wholeN ((sL (cutL 32 x.1)).getD 2 [])).1⟩ : Request), ⟨Nat.zero_le _, Nat.zero_le _⟩, ?_, ?_⟩
  ·(conv => whnf)
   (repeat' ((first | with_reducible exact True.intro | ((with_reducible refine And.intro ?_ ?_); focus (first | with_reducible rfl | omega | exact Nat.le_of_ble_eq_true rfl | rfl)) | with_reducible refine And.intro (?_ : leA _ _ _) ?_ | fail) <;> (conv => whnf)))
   all_goals (try simp only [wQ])
   all_goals (try first | rfl)
   all_goals (simp only [w0, w1, w2, w3, w4, w5, Nat.zero_add, Nat.reduceAdd]; rfl)
  (conv => whnf)
  (repeat' ((first
   | with_reducible exact True.intro
   | ((with_reducible refine And.intro ?_ ?_); focus (with_reducible rfl))
   | (conv => arg 2; change ! (sB _); simp only [List.toList_toArray, sB_eq, r0, r1, r2, r3, r4, r5, w0, w1, w2, w3, w4, w5, Nat.zero_add, Nat.reduceAdd, List.length_cons, List.length_nil])
   | (split <;> rename_i hh <;> (try simp only [wS] at hh) <;> (try simp (disch := omega) only [wT] at hh))
   | with_reducible refine And.intro (?_ : leA _ _ _) ?_
   | fail) <;> (conv => whnf)))
  all_goals (try (show _ = _; simp only [wQ]))
  all_goals first | (rw [hno] <;> rfl) | (exfalso; rw [mayReq_no (show ¬ (1 ≤ (0 : Int) ∧ (0 : Int) ≤ 10) by decide)] at hh; cases hh)
 ·exact absurd hk hn1
 ·have hk2 : kindOf ((cutL 32 x.1).getD 0 []) = 2 := by rw [hsL] at hk; exact hk
  have hrd : ∀ r, mayReqB r = true → reqW r = x.1 → (⟨((sL (cutL 32 x.1)).getD 1 []), 2, (wholeN ((sL (cutL 32 x.1)).getD 2 [])).1, (numOf ((sL (cutL 32 x.1)).getD 3 [])).1, (wholeN ((sL (cutL 32 x.1)).getD 4 [])).1, (statOf ((sL (cutL 32 x.1)).getD 5 [])), [], [], [], 0, 0, 0⟩ : Request) = r := fun r hm hw => by
   have hc := rd_2 hm hw hk2
   rw [hsL, hc.1]; simp only [List.getD_cons_zero, List.getD_cons_succ, hc.2.2.1, hc.2.2.2.1, hc.2.2.2.2.1, hc.2.2.2.2.2.1.1]; exact hc.2.1.symm
  obtain ⟨r0, w0⟩ := ascii_at (l := [75, 68, 84, 78, 83]) 0 (by decide) (by decide)
  obtain ⟨r1, w1⟩ := ascii_at (l := [75, 68, 84, 78, 83]) 1 (by decide) (by decide)
  obtain ⟨r2, w2⟩ := ascii_at (l := [75, 68, 84, 78, 83]) 2 (by decide) (by decide)
  obtain ⟨r3, w3⟩ := ascii_at (l := [75, 68, 84, 78, 83]) 3 (by decide) (by decide)
  obtain ⟨r4, w4⟩ := ascii_at (l := [75, 68, 84, 78, 83]) 4 (by decide) (by decide)
  have r5 := True.intro
  have w5 := True.intro
  have v0 : runeW (⟨#[75, 68, 84, 78, 83]⟩ : ByteArray).data.toList 0 = 1 := w0
  have v1 : runeW (⟨#[75, 68, 84, 78, 83]⟩ : ByteArray).data.toList (0 + runeW (⟨#[75, 68, 84, 78, 83]⟩ : ByteArray).data.toList 0) = 1 := by rw [v0]; exact w1
  have v2 : runeW (⟨#[75, 68, 84, 78, 83]⟩ : ByteArray).data.toList ((0 + runeW (⟨#[75, 68, 84, 78, 83]⟩ : ByteArray).data.toList 0) + runeW (⟨#[75, 68, 84, 78, 83]⟩ : ByteArray).data.toList (0 + runeW (⟨#[75, 68, 84, 78, 83]⟩ : ByteArray).data.toList 0)) = 1 := by rw [v1, v0]; exact w2
  have v3 : runeW (⟨#[75, 68, 84, 78, 83]⟩ : ByteArray).data.toList (((0 + runeW (⟨#[75, 68, 84, 78, 83]⟩ : ByteArray).data.toList 0) + runeW (⟨#[75, 68, 84, 78, 83]⟩ : ByteArray).data.toList (0 + runeW (⟨#[75, 68, 84, 78, 83]⟩ : ByteArray).data.toList 0)) + runeW (⟨#[75, 68, 84, 78, 83]⟩ : ByteArray).data.toList ((0 + runeW (⟨#[75, 68, 84, 78, 83]⟩ : ByteArray).data.toList 0) + runeW (⟨#[75, 68, 84, 78, 83]⟩ : ByteArray).data.toList (0 + runeW (⟨#[75, 68, 84, 78, 83]⟩ : ByteArray).data.toList 0))) = 1 := by rw [v2, v1, v0]; exact w3
  have v4 : runeW (⟨#[75, 68, 84, 78, 83]⟩ : ByteArray).data.toList ((((0 + runeW (⟨#[75, 68, 84, 78, 83]⟩ : ByteArray).data.toList 0) + runeW (⟨#[75, 68, 84, 78, 83]⟩ : ByteArray).data.toList (0 + runeW (⟨#[75, 68, 84, 78, 83]⟩ : ByteArray).data.toList 0)) + runeW (⟨#[75, 68, 84, 78, 83]⟩ : ByteArray).data.toList ((0 + runeW (⟨#[75, 68, 84, 78, 83]⟩ : ByteArray).data.toList 0) + runeW (⟨#[75, 68, 84, 78, 83]⟩ : ByteArray).data.toList (0 + runeW (⟨#[75, 68, 84, 78, 83]⟩ : ByteArray).data.toList 0))) + runeW (⟨#[75, 68, 84, 78, 83]⟩ : ByteArray).data.toList (((0 + runeW (⟨#[75, 68, 84, 78, 83]⟩ : ByteArray).data.toList 0) + runeW (⟨#[75, 68, 84, 78, 83]⟩ : ByteArray).data.toList (0 + runeW (⟨#[75, 68, 84, 78, 83]⟩ : ByteArray).data.toList 0)) + runeW (⟨#[75, 68, 84, 78, 83]⟩ : ByteArray).data.toList ((0 + runeW (⟨#[75, 68, 84, 78, 83]⟩ : ByteArray).data.toList 0) + runeW (⟨#[75, 68, 84, 78, 83]⟩ : ByteArray).data.toList (0 + runeW (⟨#[75, 68, 84, 78, 83]⟩ : ByteArray).data.toList 0)))) = 1 := by rw [v3, v2, v1, v0]; exact w4
  have hrow : (([75, 68, 84, 78, 83] : List UInt8).length : Int) = 5 := rfl
  (conv => whnf)
  (repeat' ((first
   | ((with_reducible refine And.intro ?_ ?_); focus (omega))
   | fail) <;> (conv => whnf)))
  all_goals (try (show _ = _; simp only [wQ]))
  refine ⟨(((sL (cutL 32 x.1)).getD (Int.toNat 0) [], (2 : Int)) : List UInt8 × Int), hk, ?_, ?_⟩
  ·exact leL_rfl _
  (conv => whnf)
  (repeat' ((first
   | with_reducible exact True.intro
   | (with_reducible refine inl_intro ?_)
   | ((with_reducible refine And.intro ?_ ?_); focus (first | with_reducible exact True.intro | ((with_reducible show okB _ _ _ = true); rfl) | with_reducible rfl | omega | (simp only [inK_def, Go.Vc.lo, Go.Vc.hi]; omega) | (dsimp only at *; simp only [inK_def, Go.Vc.lo, Go.Vc.hi]; omega)))
   | (conv => arg 2; (first | change eqI (runeAt _ _) _ | change decide (_ + runeW _ _ < _) | change ! (sB _)); simp only [List.toList_toArray, sB_eq, r0, r1, r2, r3, r4, r5, w0, w1, w2, w3, w4, w5, Nat.zero_add, Nat.reduceAdd, List.length_cons, List.length_nil])
   | (split <;> rename_i hh <;> (try simp only [wS] at hh) <;> (try simp (disch := omega) only [wT] at hh))
   | with_reducible refine (fun (hln : (_ : Int) ≤ 9223372036854775807) => ?_)
   | with_reducible refine And.intro (?_ : leA _ _ _) ?_
   | fail) <;> (conv => whnf)))
  all_goals (try (show _ = _; simp only [wQ]))
  all_goals try (
   have hz : x.2 = (zeroR, 4) := by
    refine hfail fun r hm hw => ?_
    have hc := rd_2 hm hw hk2
    try simp only [List.toList_toArray, w0, w1, w2, w3, w4, w5, Nat.zero_add, Nat.reduceAdd] at hh
    rw [hsL, hc.1] at hh
    first | exact hh rfl | (cases hh.symm.trans (congrArg Prod.snd hc.2.2.1)) | (exact absurd (congrArg Prod.snd hc.2.2.2.1) hh) | (cases hh.symm.trans (congrArg Prod.snd hc.2.2.2.2.1)) | (exact hh ((statErr_or (letterS r.status)).elim (fun h => absurd (hc.2.2.2.2.2.1.1.symm.trans h.1) hc.2.2.2.2.2.1.2) (fun h => h.2)))
   rw [hz] <;> rfl)
  refine ⟨(⟨((sL (cutL 32 x.1)).getD 1 []), 2, (wholeN ((sL (cutL 32 x.1)).getD 2 [])).1, (numOf ((sL (cutL 32 x.1)).getD 3 [])).1, (wholeN ((sL (cutL 32 x.1)).getD 4 [])).1, (statOf ((sL (cutL 32 x.1)).getD 5 [])), [], [], [], 0, 0, 0⟩ : Request), ⟨Nat.zero_le _, Nat.zero_le _⟩, ?_, ?_⟩
  ·(conv => whnf)
   (repeat' ((first | with_reducible exact True.intro | ((with_reducible refine And.intro ?_ ?_); focus (first | with_reducible rfl | omega | exact Nat.le_of_ble_eq_true rfl | rfl)) | with_reducible refine And.intro (?_ : leA _ _ _) ?_ | fail) <;> (conv => whnf)))
   all_goals (try simp only [wQ])
   all_goals (simp only [w0, w1, w2, w3, w4, w5, Nat.zero_add, Nat.reduceAdd]; rfl)
  (conv => whnf)
  (repeat' ((first
   | with_reducible exact True.intro
   | ((with_reducible refine And.intro ?_ ?_); focus (with_reducible rfl))
   | (conv => arg 2; change ! (sB _); simp only [List.toList_toArray, sB_eq, r0, r1, r2, r3, r4, r5, w0, w1, w2, w3, w4, w5, Nat.zero_add, Nat.reduceAdd, List.length_cons, List.length_nil])
   | (split <;> rename_i hh <;> (try simp only [wS] at hh) <;> (try simp (disch := omega) only [wT] at hh))
   | with_reducible refine And.intro (?_ : leA _ _ _) ?_
   | fail) <;> (conv => whnf)))
  all_goals (try (show _ = _; simp only [wQ]))
  all_goals try (
   have hz : x.2 = (zeroR, 4) := by
    refine hfail fun r hm hw => ?_
    rw [hrd r hm hw, hm] at hh
    cases hh
   rw [hz] <;> rfl)
  refine ⟨(⟨((sL (cutL 32 x.1)).getD 1 []), 2, (wholeN ((sL (cutL 32 x.1)).getD 2 [])).1, (numOf ((sL (cutL 32 x.1)).getD 3 [])).1, (wholeN ((sL (cutL 32 x.1)).getD 4 [])).1, (statOf ((sL (cutL 32 x.1)).getD 5 [])), [], [], [], 0, 0, 0⟩ : Request), ⟨Nat.zero_le _, Nat.zero_le _⟩, ?_, ?_⟩
  ·(conv => whnf)
   (repeat' ((first | with_reducible exact True.intro | ((with_reducible refine And.intro ?_ ?_); focus (first | with_reducible rfl | omega | exact Nat.le_of_ble_eq_true rfl | rfl)) | with_reducible refine And.intro (?_ : leA _ _ _) ?_ | fail) <;> (conv => whnf)))
   all_goals (try simp only [wQ])
   all_goals (simp only [w0, w1, w2, w3, w4, w5, Nat.zero_add, Nat.reduceAdd]; rfl)
  (conv => whnf)
  (repeat' ((first
   | with_reducible exact True.intro
   | ((with_reducible refine And.intro ?_ ?_); focus (with_reducible rfl))
   | (split <;> rename_i hh <;> (try simp only [wS] at hh) <;> (try simp (disch := omega) only [wT] at hh))
   | with_reducible refine And.intro (?_ : leA _ _ _) ?_
   | fail) <;> (conv => whnf)))
  all_goals (try (show _ = _; simp only [wQ]))
  all_goals try (
   have hz : x.2 = (zeroR, 4) := by
    refine hfail fun r hm hw => ?_
    rw [hrd r hm hw] at hh
    exact hh hw
   rw [hz] <;> rfl)
  all_goals (
   have hz := hq.symm.trans (rqOf_yes (by assumption) (by assumption) hrd)
   try simp only [List.toList_toArray, w0, w1, w2, w3, w4, w5, Nat.zero_add, Nat.reduceAdd]
   rw [hz] <;> rfl)
 ·have hk2 : kindOf ((cutL 32 x.1).getD 0 []) = 3 := by rw [hsL] at hk; exact hk
  have hrd : ∀ r, mayReqB r = true → reqW r = x.1 → (⟨((sL (cutL 32 x.1)).getD 1 []), 3, (wholeN ((sL (cutL 32 x.1)).getD 2 [])).1, (numOf ((sL (cutL 32 x.1)).getD 3 [])).1, 0, 0, [], [], [], 0, 0, 0⟩ : Request) = r := fun r hm hw => by
   have hc := rd_3 hm hw hk2
   rw [hsL, hc.1]; simp only [List.getD_cons_zero, List.getD_cons_succ, hc.2.2.1, hc.2.2.2.1]; exact hc.2.1.symm
  obtain ⟨r0, w0⟩ := ascii_at (l := [75, 68, 84]) 0 (by decide) (by decide)
  obtain ⟨r1, w1⟩ := ascii_at (l := [75, 68, 84]) 1 (by decide) (by decide)
  obtain ⟨r2, w2⟩ := ascii_at (l := [75, 68, 84]) 2 (by decide) (by decide)
  have r3 := True.intro
  have w3 := True.intro
  have r4 := True.intro
  have w4 := True.intro
  have r5 := True.intro
  have w5 := True.intro
  have v0 : runeW (⟨#[75, 68, 84]⟩ : ByteArray).data.toList 0 = 1 := w0
  have v1 : runeW (⟨#[75, 68, 84]⟩ : ByteArray).data.toList (0 + runeW (⟨#[75, 68, 84]⟩ : ByteArray).data.toList 0) = 1 := by rw [v0]; exact w1
  have v2 : runeW (⟨#[75, 68, 84]⟩ : ByteArray).data.toList ((0 + runeW (⟨#[75, 68, 84]⟩ : ByteArray).data.toList 0) + runeW (⟨#[75, 68, 84]⟩ : ByteArray).data.toList (0 + runeW (⟨#[75, 68, 84]⟩ : ByteArray).data.toList 0)) = 1 := by rw [v1, v0]; exact w2
  have hrow : (([75, 68, 84] : List UInt8).length : Int) = 3 := rfl
  (conv => whnf)
  (repeat' ((first
   | ((with_reducible refine And.intro ?_ ?_); focus (omega))
   | fail) <;> (conv => whnf)))
  all_goals (try (show _ = _; simp only [wQ]))
  refine ⟨(((sL (cutL 32 x.1)).getD (Int.toNat 0) [], (3 : Int)) : List UInt8 × Int), hk, ?_, ?_⟩
  ·exact leL_rfl _
  (conv => whnf)
  (repeat' ((first
   | with_reducible exact True.intro
   | (with_reducible refine inl_intro ?_)
   | ((with_reducible refine And.intro ?_ ?_); focus (first | with_reducible exact True.intro | ((with_reducible show okB _ _ _ = true); rfl) | with_reducible rfl | omega | (simp only [inK_def, Go.Vc.lo, Go.Vc.hi]; omega) | (dsimp only at *; simp only [inK_def, Go.Vc.lo, Go.Vc.hi]; omega)))
   | (conv => arg 2; (first | change eqI (runeAt _ _) _ | change decide (_ + runeW _ _ < _) | change ! (sB _)); simp only [List.toList_toArray, sB_eq, r0, r1, r2, r3, r4, r5, w0, w1, w2, w3, w4, w5, Nat.zero_add, Nat.reduceAdd, List.length_cons, List.length_nil])
   | (split <;> rename_i hh <;> (try simp only [wS] at hh) <;> (try simp (disch := omega) only [wT] at hh))
   | with_reducible refine (fun (hln : (_ : Int) ≤ 9223372036854775807) => ?_)
   | with_reducible refine And.intro (?_ : leA _ _ _) ?_
   | fail) <;> (conv => whnf)))
  all_goals (try (show _ = _; simp only [wQ]))
  all_goals try (
   have hz : x.2 = (zeroR, 4) := by
    refine hfail fun r hm hw => ?_
    have hc := rd_3 hm hw hk2
    try simp only [List.toList_toArray, w0, w1, w2, w3, w4, w5, Nat.zero_add, Nat.reduceAdd] at hh
    rw [hsL, hc.1] at hh
    first | exact hh rfl | (cases hh.symm.trans (congrArg Prod.snd hc.2.2.1)) | (exact absurd (congrArg Prod.snd hc.2.2.2.1) hh)
   rw [hz] <;> rfl)
  refine ⟨(⟨((sL (cutL 32 x.1)).getD 1 []), 3, (wholeN ((sL (cutL 32 x.1)).getD 2 [])).1, (numOf ((sL (cutL 32 x.1)).getD 3 [])).1, 0, 0, [], [], [], 0, 0, 0⟩ : Request), ⟨Nat.zero_le _, Nat.zero_le _⟩, ?_, ?_⟩
  ·(conv => whnf)
   (repeat' ((first | with_reducible exact True.intro | ((with_reducible refine And.intro ?_ ?_); focus (first | with_reducible rfl | omega | exact Nat.le_of_ble_eq_true rfl | rfl)) | with_reducible refine And.intro (?_ : leA _ _ _) ?_ | fail) <;> (conv => whnf)))
   all_goals (try simp only [wQ])
   all_goals (simp only [w0, w1, w2, w3, w4, w5, Nat.zero_add, Nat.reduceAdd]; rfl)
  (conv => whnf)
  (repeat' ((first
   | with_reducible exact True.intro
   | ((with_reducible refine And.intro ?_ ?_); focus (with_reducible rfl))
   | (conv => arg 2; change ! (sB _); simp only [List.toList_toArray, sB_eq, r0, r1, r2, r3, r4, r5, w0, w1, w2, w3, w4, w5, Nat.zero_add, Nat.reduceAdd, List.length_cons, List.length_nil])
   | (split <;> rename_i hh <;> (try simp only [wS] at hh) <;> (try simp (disch := omega) only [wT] at hh))
   | with_reducible refine And.intro (?_ : leA _ _ _) ?_
   | fail) <;> (conv => whnf)))
  all_goals (try (show _ = _; simp only [wQ]))
  all_goals try (
   have hz : x.2 = (zeroR, 4) := by
    refine hfail fun r hm hw => ?_
    rw [hrd r hm hw, hm] at hh
    cases hh
   rw [hz] <;> rfl)
  refine ⟨(⟨((sL (cutL 32 x.1)).getD 1 []), 3, (wholeN ((sL (cutL 32 x.1)).getD 2 [])).1, (numOf ((sL (cutL 32 x.1)).getD 3 [])).1, 0, 0, [], [], [], 0, 0, 0⟩ : Request), ⟨Nat.zero_le _, Nat.zero_le _⟩, ?_, ?_⟩
  ·(conv => whnf)
   (repeat' ((first | with_reducible exact True.intro | ((with_reducible refine And.intro ?_ ?_); focus (first | with_reducible rfl | omega | exact Nat.le_of_ble_eq_true rfl | rfl)) | with_reducible refine And.intro (?_ : leA _ _ _) ?_ | fail) <;> (conv => whnf)))
   all_goals (try simp only [wQ])
   all_goals (simp only [w0, w1, w2, w3, w4, w5, Nat.zero_add, Nat.reduceAdd]; rfl)
  (conv => whnf)
  (repeat' ((first
   | with_reducible exact True.intro
   | ((with_reducible refine And.intro ?_ ?_); focus (with_reducible rfl))
   | (split <;> rename_i hh <;> (try simp only [wS] at hh) <;> (try simp (disch := omega) only [wT] at hh))
   | with_reducible refine And.intro (?_ : leA _ _ _) ?_
   | fail) <;> (conv => whnf)))
  all_goals (try (show _ = _; simp only [wQ]))
  all_goals try (
   have hz : x.2 = (zeroR, 4) := by
    refine hfail fun r hm hw => ?_
    rw [hrd r hm hw] at hh
    exact hh hw
   rw [hz] <;> rfl)
  all_goals (
   have hz := hq.symm.trans (rqOf_yes (by assumption) (by assumption) hrd)
   try simp only [List.toList_toArray, w0, w1, w2, w3, w4, w5, Nat.zero_add, Nat.reduceAdd]
   rw [hz] <;> rfl)
 ·have hk2 : kindOf ((cutL 32 x.1).getD 0 []) = 4 := by rw [hsL] at hk; exact hk
  have hrd : ∀ r, mayReqB r = true → reqW r = x.1 → (⟨((sL (cutL 32 x.1)).getD 1 []), 4, (wholeN ((sL (cutL 32 x.1)).getD 2 [])).1, (numOf ((sL (cutL 32 x.1)).getD 3 [])).1, 0, 0, [], [], [], (fareOf ((sL (cutL 32 x.1)).getD 4 [])).1, 0, 0⟩ : Request) = r := fun r hm hw => by
   have hc := rd_4 hm hw hk2
   rw [hsL, hc.1]; simp only [List.getD_cons_zero, List.getD_cons_succ, hc.2.2.1, hc.2.2.2.1, hc.2.2.2.2.1]; exact hc.2.1.symm
  obtain ⟨r0, w0⟩ := ascii_at (l := [75, 68, 84, 65]) 0 (by decide) (by decide)
  obtain ⟨r1, w1⟩ := ascii_at (l := [75, 68, 84, 65]) 1 (by decide) (by decide)
  obtain ⟨r2, w2⟩ := ascii_at (l := [75, 68, 84, 65]) 2 (by decide) (by decide)
  obtain ⟨r3, w3⟩ := ascii_at (l := [75, 68, 84, 65]) 3 (by decide) (by decide)
  have r4 := True.intro
  have w4 := True.intro
  have r5 := True.intro
  have w5 := True.intro
  have v0 : runeW (⟨#[75, 68, 84, 65]⟩ : ByteArray).data.toList 0 = 1 := w0
  have v1 : runeW (⟨#[75, 68, 84, 65]⟩ : ByteArray).data.toList (0 + runeW (⟨#[75, 68, 84, 65]⟩ : ByteArray).data.toList 0) = 1 := by rw [v0]; exact w1
  have v2 : runeW (⟨#[75, 68, 84, 65]⟩ : ByteArray).data.toList ((0 + runeW (⟨#[75, 68, 84, 65]⟩ : ByteArray).data.toList 0) + runeW (⟨#[75, 68, 84, 65]⟩ : ByteArray).data.toList (0 + runeW (⟨#[75, 68, 84, 65]⟩ : ByteArray).data.toList 0)) = 1 := by rw [v1, v0]; exact w2
  have v3 : runeW (⟨#[75, 68, 84, 65]⟩ : ByteArray).data.toList (((0 + runeW (⟨#[75, 68, 84, 65]⟩ : ByteArray).data.toList 0) + runeW (⟨#[75, 68, 84, 65]⟩ : ByteArray).data.toList (0 + runeW (⟨#[75, 68, 84, 65]⟩ : ByteArray).data.toList 0)) + runeW (⟨#[75, 68, 84, 65]⟩ : ByteArray).data.toList ((0 + runeW (⟨#[75, 68, 84, 65]⟩ : ByteArray).data.toList 0) + runeW (⟨#[75, 68, 84, 65]⟩ : ByteArray).data.toList (0 + runeW (⟨#[75, 68, 84, 65]⟩ : ByteArray).data.toList 0))) = 1 := by rw [v2, v1, v0]; exact w3
  have hrow : (([75, 68, 84, 65] : List UInt8).length : Int) = 4 := rfl
  (conv => whnf)
  (repeat' ((first
   | ((with_reducible refine And.intro ?_ ?_); focus (omega))
   | fail) <;> (conv => whnf)))
  all_goals (try (show _ = _; simp only [wQ]))
  refine ⟨(((sL (cutL 32 x.1)).getD (Int.toNat 0) [], (4 : Int)) : List UInt8 × Int), hk, ?_, ?_⟩
  ·exact leL_rfl _
  (conv => whnf)
  (repeat' ((first
   | with_reducible exact True.intro
   | (with_reducible refine inl_intro ?_)
   | ((with_reducible refine And.intro ?_ ?_); focus (exact Nat.le_trans (hmem _) (Nat.le_of_ble_eq_true rfl)))
   | ((with_reducible refine And.intro ?_ ?_); focus (first | with_reducible exact True.intro | ((with_reducible show okB _ _ _ = true); rfl) | with_reducible rfl | omega | (simp only [inK_def, Go.Vc.lo, Go.Vc.hi]; omega) | (dsimp only at *; simp only [inK_def, Go.Vc.lo, Go.Vc.hi]; omega)))
   | (conv => arg 2; (first | change eqI (runeAt _ _) _ | change decide (_ + runeW _ _ < _) | change ! (sB _)); simp only [List.toList_toArray, sB_eq, r0, r1, r2, r3, r4, r5, w0, w1, w2, w3, w4, w5, Nat.zero_add, Nat.reduceAdd, List.length_cons, List.length_nil])
   | (split <;> rename_i hh <;> (try simp only [wS] at hh) <;> (try simp (disch := omega) only [wT] at hh))
   | with_reducible refine (fun (hln : (_ : Int) ≤ 9223372036854775807) => ?_)
   | with_reducible refine And.intro (?_ : leA _ _ _) ?_
   | fail) <;> (conv => whnf)))
  all_goals (try (show _ = _; simp only [wQ]))
  all_goals try (
   have hz : x.2 = (zeroR, 4) := by
    refine hfail fun r hm hw => ?_
    have hc := rd_4 hm hw hk2
    try simp only [List.toList_toArray, w0, w1, w2, w3, w4, w5, Nat.zero_add, Nat.reduceAdd] at hh
    rw [hsL, hc.1] at hh
    first | exact hh rfl | (cases hh.symm.trans (congrArg Prod.snd hc.2.2.1)) | (exact absurd (congrArg Prod.snd hc.2.2.2.1) hh) | (exact absurd (congrArg Prod.snd hc.2.2.2.2.1) hh)
   rw [hz] <;> rfl)
  refine ⟨(⟨((sL (cutL 32 x.1)).getD 1 []), 4, (wholeN ((sL (cutL 32 x.1)).getD 2 [])).1, (numOf ((sL (cutL 32 x.1)).getD 3 [])).1, 0, 0, [], [], [], (fareOf ((sL (cutL 32 x.1)).getD 4 [])).1, 0, 0⟩ : Request), ⟨Nat.zero_le _, Nat.zero_le _⟩, ?_, ?_⟩
  ·(conv => whnf)
   (repeat' ((first | with_reducible exact True.intro | ((with_reducible refine And.intro ?_ ?_); focus (first | with_reducible rfl | omega | exact Nat.le_of_ble_eq_true rfl | rfl)) | with_reducible refine And.intro (?_ : leA _ _ _) ?_ | fail) <;> (conv => whnf)))
   all_goals (try simp only [wQ])
   all_goals (simp only [w0, w1, w2, w3, w4, w5, Nat.zero_add, Nat.reduceAdd]; rfl)
  (conv => whnf)
  (repeat' ((first
   | with_reducible exact True.intro
   | ((with_reducible refine And.intro ?_ ?_); focus (with_reducible rfl))
   | (conv => arg 2; change ! (sB _); simp only [List.toList_toArray, sB_eq, r0, r1, r2, r3, r4, r5, w0, w1, w2, w3, w4, w5, Nat.zero_add, Nat.reduceAdd, List.length_cons, List.length_nil])
   | (split <;> rename_i hh <;> (try simp only [wS] at hh) <;> (try simp (disch := omega) only [wT] at hh))
   | with_reducible refine And.intro (?_ : leA _ _ _) ?_
   | fail) <;> (conv => whnf)))
  all_goals (try (show _ = _; simp only [wQ]))
  all_goals try (
   have hz : x.2 = (zeroR, 4) := by
    refine hfail fun r hm hw => ?_
    rw [hrd r hm hw, hm] at hh
    cases hh
   rw [hz] <;> rfl)
  refine ⟨(⟨((sL (cutL 32 x.1)).getD 1 []), 4, (wholeN ((sL (cutL 32 x.1)).getD 2 [])).1, (numOf ((sL (cutL 32 x.1)).getD 3 [])).1, 0, 0, [], [], [], (fareOf ((sL (cutL 32 x.1)).getD 4 [])).1, 0, 0⟩ : Request), ⟨Nat.zero_le _, Nat.zero_le _⟩, ?_, ?_⟩
  ·(conv => whnf)
   (repeat' ((first | with_reducible exact True.intro | ((with_reducible refine And.intro ?_ ?_); focus (first | with_reducible rfl | omega | exact Nat.le_of_ble_eq_true rfl | rfl)) | with_reducible refine And.intro (?_ : leA _ _ _) ?_ | fail) <;> (conv => whnf)))
   all_goals (try simp only [wQ])
   all_goals (simp only [w0, w1, w2, w3, w4, w5, Nat.zero_add, Nat.reduceAdd]; rfl)
  (conv => whnf)
  (repeat' ((first
   | with_reducible exact True.intro
   | ((with_reducible refine And.intro ?_ ?_); focus (with_reducible rfl))
   | (split <;> rename_i hh <;> (try simp only [wS] at hh) <;> (try simp (disch := omega) only [wT] at hh))
   | with_reducible refine And.intro (?_ : leA _ _ _) ?_
   | fail) <;> (conv => whnf)))
  all_goals (try (show _ = _; simp only [wQ]))
  all_goals try (
   have hz : x.2 = (zeroR, 4) := by
    refine hfail fun r hm hw => ?_
    rw [hrd r hm hw] at hh
    exact hh hw
   rw [hz] <;> rfl)
  all_goals (
   have hz := hq.symm.trans (rqOf_yes (by assumption) (by assumption) hrd)
   try simp only [List.toList_toArray, w0, w1, w2, w3, w4, w5, Nat.zero_add, Nat.reduceAdd]
   rw [hz] <;> rfl)
 ·exact absurd hk hn5
 ·have hk2 : kindOf ((cutL 32 x.1).getD 0 []) = 6 := by rw [hsL] at hk; exact hk
  have hrd : ∀ r, mayReqB r = true → reqW r = x.1 → (⟨((sL (cutL 32 x.1)).getD 1 []), 6, (wholeN ((sL (cutL 32 x.1)).getD 2 [])).1, (numOf ((sL (cutL 32 x.1)).getD 3 [])).1, (wholeN ((sL (cutL 32 x.1)).getD 4 [])).1, 0, [], [], [], 0, 0, 0⟩ : Request) = r := fun r hm hw => by
   have hc := rd_6 hm hw hk2
   rw [hsL, hc.1]; simp only [List.getD_cons_zero, List.getD_cons_succ, hc.2.2.1, hc.2.2.2.1, hc.2.2.2.2.1]; exact hc.2.1.symm
  obtain ⟨r0, w0⟩ := ascii_at (l := [75, 68, 84, 78]) 0 (by decide) (by decide)
  obtain ⟨r1, w1⟩ := ascii_at (l := [75, 68, 84, 78]) 1 (by decide) (by decide)
  obtain ⟨r2, w2⟩ := ascii_at (l := [75, 68, 84, 78]) 2 (by decide) (by decide)
  obtain ⟨r3, w3⟩ := ascii_at (l := [75, 68, 84, 78]) 3 (by decide) (by decide)
  have r4 := True.intro
  have w4 := True.intro
  have r5 := True.intro
  have w5 := True.intro
  have v0 : runeW (⟨#[75, 68, 84, 78]⟩ : ByteArray).data.toList 0 = 1 := w0
  have v1 : runeW (⟨#[75, 68, 84, 78]⟩ : ByteArray).data.toList (0 + runeW (⟨#[75, 68, 84, 78]⟩ : ByteArray).data.toList 0) = 1 := by rw [v0]; exact w1
  have v2 : runeW (⟨#[75, 68, 84, 78]⟩ : ByteArray).data.toList ((0 + runeW (⟨#[75, 68, 84, 78]⟩ : ByteArray).data.toList 0) + runeW (⟨#[75, 68, 84, 78]⟩ : ByteArray).data.toList (0 + runeW (⟨#[75, 68, 84, 78]⟩ : ByteArray).data.toList 0)) = 1 := by rw [v1, v0]; exact w2
  have v3 : runeW (⟨#[75, 68, 84, 78]⟩ : ByteArray).data.toList (((0 + runeW (⟨#[75, 68, 84, 78]⟩ : ByteArray).data.toList 0) + runeW (⟨#[75, 68, 84, 78]⟩ : ByteArray).data.toList (0 + runeW (⟨#[75, 68, 84, 78]⟩ : ByteArray).data.toList 0)) + runeW (⟨#[75, 68, 84, 78]⟩ : ByteArray).data.toList ((0 + runeW (⟨#[75, 68, 84, 78]⟩ : ByteArray).data.toList 0) + runeW (⟨#[75, 68, 84, 78]⟩ : ByteArray).data.toList (0 + runeW (⟨#[75, 68, 84, 78]⟩ : ByteArray).data.toList 0))) = 1 := by rw [v2, v1, v0]; exact w3
  have hrow : (([75, 68, 84, 78] : List UInt8).length : Int) = 4 := rfl
  (conv => whnf)
  (repeat' ((first
   | ((with_reducible refine And.intro ?_ ?_); focus (omega))
   | fail) <;> (conv => whnf)))
  all_goals (try (show _ = _; simp only [wQ]))
  refine ⟨(((sL (cutL 32 x.1)).getD (Int.toNat 0) [], (6 : Int)) : List UInt8 × Int), hk, ?_, ?_⟩
  ·exact leL_rfl _
  (conv => whnf)
  (repeat' ((first
   | with_reducible exact True.intro
   | (with_reducible refine inl_intro ?_)
   | ((with_reducible refine And.intro ?_ ?_); focus (first | with_reducible exact True.intro | ((with_reducible show okB _ _ _ = true); rfl) | with_reducible rfl | omega | (simp only [inK_def, Go.Vc.lo, Go.Vc.hi]; omega) | (dsimp only at *; simp only [inK_def, Go.Vc.lo, Go.Vc.hi]; omega)))
   | (conv => arg 2; (first | change eqI (runeAt _ _) _ | change decide (_ + runeW _ _ < _) | change ! (sB _)); simp only [List.toList_toArray, sB_eq, r0, r1, r2, r3, r4, r5, w0, w1, w2, w3, w4, w5, Nat.zero_add, Nat.reduceAdd, List.length_cons, List.length_nil])
   | (split <;> rename_i hh <;> (try simp only [wS] at hh) <;> (try simp (disch := omega) only [wT] at hh))
   | with_reducible refine (fun (hln : (_ : Int) ≤ 9223372036854775807) => ?_)
   | with_reducible refine And.intro (?_ : leA _ _ _) ?_
   | fail) <;> (conv => whnf)))
  all_goals (try (show _ = _; simp only [wQ]))
  all_goals try (
   have hz : x.2 = (zeroR, 4) := by
    refine hfail fun r hm hw => ?_
    have hc := rd_6 hm hw hk2
    try simp only [List.toList_toArray, w0, w1, w2, w3, w4, w5, Nat.zero_add, Nat.reduceAdd] at hh
    rw [hsL, hc.1] at hh
    first | exact hh rfl | (cases hh.symm.trans (congrArg Prod.snd hc.2.2.1)) | (exact absurd (congrArg Prod.snd hc.2.2.2.1) hh) | (cases hh.symm.trans (congrArg Prod.snd hc.2.2.2.2.1))
   rw [hz] <;> rfl)
  refine ⟨(⟨((sL (cutL 32 x.1)).getD 1 []), 6, (wholeN ((sL (cutL 32 x.1)).getD 2 [])).1, (numOf ((sL (cutL 32 x.1)).getD 3 [])).1, (wholeN ((sL (cutL 32 x.1)).getD 4 [])).1, 0, [], [], [], 0, 0, 0⟩ : Request), ⟨Nat.zero_le _, Nat.zero_le _⟩, ?_, ?_⟩
  ·(conv => whnf)
   (repeat' ((first | with_reducible exact True.intro | ((with_reducible refine And.intro ?_ ?_); focus (first | with_reducible rfl | omega | exact Nat.le_of_ble_eq_true rfl | rfl)) | with_reducible refine And.intro (?_ : leA _ _ _) ?_ | fail) <;> (conv => whnf)))
   all_goals (try simp only [wQ])
   all_goals (simp only [w0, w1, w2, w3, w4, w5, Nat.zero_add, Nat.reduceAdd]; rfl)
  (conv => whnf)
  (repeat' ((first
   | with_reducible exact True.intro
   | ((with_reducible refine And.intro ?_ ?_); focus (with_reducible rfl))
   | (conv => arg 2; change ! (sB _); simp only [List.toList_toArray, sB_eq, r0, r1, r2, r3, r4, r5, w0, w1, w2, w3, w4, w5, Nat.zero_add, Nat.reduceAdd, List.length_cons, List.length_nil])
   | (split <;> rename_i hh <;> (try simp only [wS] at hh) <;> (try simp (disch := omega) only [wT] at hh))
   | with_reducible refine And.intro (?_ : leA _ _ _) ?_
   | fail) <;> (conv => whnf)))
  all_goals (try (show _ = _; simp only [wQ]))
  all_goals try (
   have hz : x.2 = (zeroR, 4) := by
    refine hfail fun r hm hw => ?_
    rw [hrd r hm hw, hm] at hh
    cases hh
   rw [hz] <;> rfl)
  refine ⟨(⟨((sL (cutL 32 x.1)).getD 1 []), 6, (wholeN ((sL (cutL 32 x.1)).getD 2 [])).1, (numOf ((sL (cutL 32 x.1)).getD 3 [])).1, (wholeN ((sL (cutL 32 x.1)).getD 4 [])).1, 0, [], [], [], 0, 0, 0⟩ : Request), ⟨Nat.zero_le _, Nat.zero_le _⟩, ?_, ?_⟩
  ·(conv => whnf)
   (repeat' ((first | with_reducible exact True.intro | ((with_reducible refine And.intro ?_ ?_); focus (first | with_reducible rfl | omega | exact Nat.le_of_ble_eq_true rfl | rfl)) | with_reducible refine And.intro (?_ : leA _ _ _) ?_ | fail) <;> (conv => whnf)))
   all_goals (try simp only [wQ])
   all_goals (simp only [w0, w1, w2, w3, w4, w5, Nat.zero_add, Nat.reduceAdd]; rfl)
  (conv => whnf)
  (repeat' ((first
   | with_reducible exact True.intro
   | ((with_reducible refine And.intro ?_ ?_); focus (with_reducible rfl))
   | (split <;> rename_i hh <;> (try simp only [wS] at hh) <;> (try simp (disch := omega) only [wT] at hh))
   | with_reducible refine And.intro (?_ : leA _ _ _) ?_
   | fail) <;> (conv => whnf)))
  all_goals (try (show _ = _; simp only [wQ]))
  all_goals try (
   have hz : x.2 = (zeroR, 4) := by
    refine hfail fun r hm hw => ?_
    rw [hrd r hm hw] at hh
    exact hh hw
   rw [hz] <;> rfl)
  all_goals (
   have hz := hq.symm.trans (rqOf_yes (by assumption) (by assumption) hrd)
   try simp only [List.toList_toArray, w0, w1, w2, w3, w4, w5, Nat.zero_add, Nat.reduceAdd]
   rw [hz] <;> rfl)
 ·have hk2 : kindOf ((cutL 32 x.1).getD 0 []) = 7 := by rw [hsL] at hk; exact hk
  have hrd : ∀ r, mayReqB r = true → reqW r = x.1 → (⟨((sL (cutL 32 x.1)).getD 1 []), 7, (wholeN ((sL (cutL 32 x.1)).getD 2 [])).1, (numOf ((sL (cutL 32 x.1)).getD 3 [])).1, (wholeN ((sL (cutL 32 x.1)).getD 4 [])).1, 0, [], [], [], 0, 0, 0⟩ : Request) = r := fun r hm hw => by
   have hc := rd_7 hm hw hk2
   rw [hsL, hc.1]; simp only [List.getD_cons_zero, List.getD_cons_succ, hc.2.2.1, hc.2.2.2.1, hc.2.2.2.2.1]; exact hc.2.1.symm
  obtain ⟨r0, w0⟩ := ascii_at (l := [75, 68, 84, 78]) 0 (by decide) (by decide)
  obtain ⟨r1, w1⟩ := ascii_at (l := [75, 68, 84, 78]) 1 (by decide) (by decide)
  obtain ⟨r2, w2⟩ := ascii_at (l := [75, 68, 84, 78]) 2 (by decide) (by decide)
  obtain ⟨r3, w3⟩ := ascii_at (l := [75, 68, 84, 78]) 3 (by decide) (by decide)
  have r4 := True.intro
  have w4 := True.intro
  have r5 := True.intro
  have w5 := True.intro
  have v0 : runeW (⟨#[75, 68, 84, 78]⟩ : ByteArray).data.toList 0 = 1 := w0
  have v1 : runeW (⟨#[75, 68, 84, 78]⟩ : ByteArray).data.toList (0 + runeW (⟨#[75, 68, 84, 78]⟩ : ByteArray).data.toList 0) = 1 := by rw [v0]; exact w1
  have v2 : runeW (⟨#[75, 68, 84, 78]⟩ : ByteArray).data.toList ((0 + runeW (⟨#[75, 68, 84, 78]⟩ : ByteArray).data.toList 0) + runeW (⟨#[75, 68, 84, 78]⟩ : ByteArray).data.toList (0 + runeW (⟨#[75, 68, 84, 78]⟩ : ByteArray).data.toList 0)) = 1 := by rw [v1, v0]; exact w2
  have v3 : runeW (⟨#[75, 68, 84, 78]⟩ : ByteArray).data.toList (((0 + runeW (⟨#[75, 68, 84, 78]⟩ : ByteArray).data.toList 0) + runeW (⟨#[75, 68, 84, 78]⟩ : ByteArray).data.toList (0 + runeW (⟨#[75, 68, 84, 78]⟩ : ByteArray).data.toList 0)) + runeW (⟨#[75, 68, 84, 78]⟩ : ByteArray).data.toList ((0 + runeW (⟨#[75, 68, 84, 78]⟩ : ByteArray).data.toList 0) + runeW (⟨#[75, 68, 84, 78]⟩ : ByteArray).data.toList (0 + runeW (⟨#[75, 68, 84, 78]⟩ : ByteArray).data.toList 0))) = 1 := by rw [v2, v1, v0]; exact w3
  have hrow : (([75, 68, 84, 78] : List UInt8).length : Int) = 4 := rfl
  (conv => whnf)
  (repeat' ((first
   | ((with_reducible refine And.intro ?_ ?_); focus (omega))
   | fail) <;> (conv => whnf)))
  all_goals (try (show _ = _; simp only [wQ]))
  refine ⟨(((sL (cutL 32 x.1)).getD (Int.toNat 0) [], (7 : Int)) : List UInt8 × Int), hk, ?_, ?_⟩
  ·exact leL_rfl _
  (conv => whnf)
  (repeat' ((first
   | with_reducible exact True.intro
   | (with_reducible refine inl_intro ?_)
   | ((with_reducible refine And.intro ?_ ?_); focus (first | with_reducible exact True.intro | ((with_reducible show okB _ _ _ = true); rfl) | with_reducible rfl | omega | (simp only [inK_def, Go.Vc.lo, Go.Vc.hi]; omega) | (dsimp only at *; simp only [inK_def, Go.Vc.lo, Go.Vc.hi]; omega)))
   | (conv => arg 2; (first | change eqI (runeAt _ _) _ | change decide (_ + runeW _ _ < _) | change ! (sB _)); simp only [List.toList_toArray, sB_eq, r0, r1, r2, r3, r4, r5, w0, w1, w2, w3, w4, w5, Nat.zero_add, Nat.reduceAdd, List.length_cons, List.length_nil])
   | (split <;> rename_i hh <;> (try simp only [wS] at hh) <;> (try simp (disch := omega) only [wT] at hh))
   | with_reducible refine (fun (hln : (_ : Int) ≤ 9223372036854775807) => ?_)
   | with_reducible refine And.intro (?_ : leA _ _ _) ?_
   | fail) <;> (conv => whnf)))
  all_goals (try (show _ = _; simp only [wQ]))
  all_goals try (
   have hz : x.2 = (zeroR, 4) := by
    refine hfail fun r hm hw => ?_
    have hc := rd_7 hm hw hk2
    try simp only [List.toList_toArray, w0, w1, w2, w3, w4, w5, Nat.zero_add, Nat.reduceAdd] at hh
    rw [hsL, hc.1] at hh
    first | exact hh rfl | (cases hh.symm.trans (congrArg Prod.snd hc.2.2.1)) | (exact absurd (congrArg Prod.snd hc.2.2.2.1) hh) | (cases hh.symm.trans (congrArg Prod.snd hc.2.2.2.2.1))
   rw [hz] <;> rfl)
  refine ⟨(⟨((sL (cutL 32 x.1)).getD 1 []), 7, (wholeN ((sL (cutL 32 x.1)).getD 2 [])).1, (numOf ((sL (cutL 32 x.1)).getD 3 [])).1, (wholeN ((sL (cutL 32 x.1)).getD 4 [])).1, 0, [], [], [], 0, 0, 0⟩ : Request), ⟨Nat.zero_le _, Nat.zero_le _⟩, ?_, ?_⟩
  ·(conv => whnf)
   (repeat' ((first | with_reducible exact True.intro | ((with_reducible refine And.intro ?_ ?_); focus (first | with_reducible rfl | omega | exact Nat.le_of_ble_eq_true rfl | rfl)) | with_reducible refine And.intro (?_ : leA _ _ _) ?_ | fail) <;> (conv => whnf)))
   all_goals (try simp only [wQ])
   all_goals (simp only [w0, w1, w2, w3, w4, w5, Nat.zero_add, Nat.reduceAdd]; rfl)
  (conv => whnf)
  (repeat' ((first
   | with_reducible exact True.intro
   | ((with_reducible refine And.intro ?_ ?_); focus (with_reducible rfl))
   | (conv => arg 2; change ! (sB _); simp only [List.toList_toArray, sB_eq, r0, r1, r2, r3, r4, r5, w0, w1, w2, w3, w4, w5, Nat.zero_add, Nat.reduceAdd, List.length_cons, List.length_nil])
   | (split <;> rename_i hh <;> (try simp only [wS] at hh) <;> (try simp (disch := omega) only [wT] at hh))
   | with_reducible refine And.intro (?_ : leA _ _ _) ?_
   | fail) <;> (conv => whnf)))
  all_goals (try (show _ = _; simp only [wQ]))
  all_goals try (
   have hz : x.2 = (zeroR, 4) := by
    refine hfail fun r hm hw => ?_
    rw [hrd r hm hw, hm] at hh
    cases hh
   rw [hz] <;> rfl)
  refine ⟨(⟨((sL (cutL 32 x.1)).getD 1 []), 7, (wholeN ((sL (cutL 32 x.1)).getD 2 [])).1, (numOf ((sL (cutL 32 x.1)).getD 3 [])).1, (wholeN ((sL (cutL 32 x.1)).getD 4 [])).1, 0, [], [], [], 0, 0, 0⟩ : Request), ⟨Nat.zero_le _, Nat.zero_le _⟩, ?_, ?_⟩
  ·(conv => whnf)
   (repeat' ((first | with_reducible exact True.intro | ((with_reducible refine And.intro ?_ ?_); focus (first | with_reducible rfl | omega | exact Nat.le_of_ble_eq_true rfl | rfl)) | with_reducible refine And.intro (?_ : leA _ _ _) ?_ | fail) <;> (conv => whnf)))
   all_goals (try simp only [wQ])
   all_goals (simp only [w0, w1, w2, w3, w4, w5, Nat.zero_add, Nat.reduceAdd]; rfl)
  (conv => whnf)
  (repeat' ((first
   | with_reducible exact True.intro
   | ((with_reducible refine And.intro ?_ ?_); focus (with_reducible rfl))
   | (split <;> rename_i hh <;> (try simp only [wS] at hh) <;> (try simp (disch := omega) only [wT] at hh))
   | with_reducible refine And.intro (?_ : leA _ _ _) ?_
   | fail) <;> (conv => whnf)))
  all_goals (try (show _ = _; simp only [wQ]))
  all_goals try (
   have hz : x.2 = (zeroR, 4) := by
    refine hfail fun r hm hw => ?_
    rw [hrd r hm hw] at hh
    exact hh hw
   rw [hz] <;> rfl)
  all_goals (
   have hz := hq.symm.trans (rqOf_yes (by assumption) (by assumption) hrd)
   try simp only [List.toList_toArray, w0, w1, w2, w3, w4, w5, Nat.zero_add, Nat.reduceAdd]
   rw [hz] <;> rfl)
 ·have hk2 : kindOf ((cutL 32 x.1).getD 0 []) = 8 := by rw [hsL] at hk; exact hk
  have hrd : ∀ r, mayReqB r = true → reqW r = x.1 → (⟨[], 8, 0, (numOf ((sL (cutL 32 x.1)).getD 1 [])).1, 0, 0, [], [], [], 0, 0, 0⟩ : Request) = r := fun r hm hw => by
   have hc := rd_8 hm hw hk2
   rw [hsL, hc.1]; simp only [List.getD_cons_zero, List.getD_cons_succ, hc.2.2.1]; exact hc.2.1.symm
  obtain ⟨r0, w0⟩ := ascii_at (l := [84]) 0 (by decide) (by decide)
  have r1 := True.intro
  have w1 := True.intro
  have r2 := True.intro
  have w2 := True.intro
  have r3 := True.intro
  have w3 := True.intro
  have r4 := True.intro
  have w4 := True.intro
  have r5 := True.intro
  have w5 := True.intro
  have v0 : runeW (⟨#[84]⟩ : ByteArray).data.toList 0 = 1 := w0
  have hrow : (([84] : List UInt8).length : Int) = 1 := rfl
  (conv => whnf)
  (repeat' ((first
   | ((with_reducible refine And.intro ?_ ?_); focus (omega))
   | fail) <;> (conv => whnf)))
  all_goals (try (show _ = _; simp only [wQ]))
  refine ⟨(((sL (cutL 32 x.1)).getD (Int.toNat 0) [], (8 : Int)) : List UInt8 × Int), hk, ?_, ?_⟩
  ·exact leL_rfl _
  (conv => whnf)
  (repeat' ((first
   | with_reducible exact True.intro
   | (with_reducible refine inl_intro ?_)
   | ((with_reducible refine And.intro ?_ ?_); focus (first | with_reducible exact True.intro | ((with_reducible show okB _ _ _ = true); rfl) | with_reducible rfl | omega | (simp only [inK_def, Go.Vc.lo, Go.Vc.hi]; omega)))
   | (conv => arg 2; (first | change eqI (runeAt _ _) _ | change decide (_ + runeW _ _ < _)); simp only [List.toList_toArray, sB_eq, r0, r1, r2, r3, r4, r5, w0, w1, w2, w3, w4, w5, Nat.zero_add, Nat.reduceAdd, List.length_cons, List.length_nil])
   | (split <;> rename_i hh <;> (try simp only [wS] at hh) <;> (try simp (disch := omega) only [wT] at hh))
   | with_reducible refine (fun (hln : (_ : Int) ≤ 9223372036854775807) => ?_)
   | with_reducible refine And.intro (?_ : leA _ _ _) ?_
   | fail) <;> (conv => whnf)))
  all_goals (try (show _ = _; simp only [wQ]))
  all_goals try (
   have hz : x.2 = (zeroR, 4) := by
    refine hfail fun r hm hw => ?_
    have hc := rd_8 hm hw hk2
    try simp only [List.toList_toArray, w0, w1, w2, w3, w4, w5, Nat.zero_add, Nat.reduceAdd] at hh
    rw [hsL, hc.1] at hh
    first | exact hh rfl | (exact absurd (congrArg Prod.snd hc.2.2.1) hh)
   rw [hz] <;> rfl)
  refine ⟨(⟨[], 8, 0, (numOf ((sL (cutL 32 x.1)).getD 1 [])).1, 0, 0, [], [], [], 0, 0, 0⟩ : Request), ⟨Nat.zero_le _, Nat.zero_le _⟩, ?_, ?_⟩
  ·(conv => whnf)
   (repeat' ((first | with_reducible exact True.intro | ((with_reducible refine And.intro ?_ ?_); focus (first | with_reducible rfl | omega | exact Nat.le_of_ble_eq_true rfl | rfl)) | with_reducible refine And.intro (?_ : leA _ _ _) ?_ | fail) <;> (conv => whnf)))
   all_goals (try simp only [wQ])
   all_goals (try first | rfl)
   all_goals (simp only [w0, w1, w2, w3, w4, w5, Nat.zero_add, Nat.reduceAdd]; rfl)
  (conv => whnf)
  (repeat' ((first
   | with_reducible exact True.intro
   | ((with_reducible refine And.intro ?_ ?_); focus (with_reducible rfl))
   | (conv => arg 2; change ! (sB _); simp only [List.toList_toArray, sB_eq, r0, r1, r2, r3, r4, r5, w0, w1, w2, w3, w4, w5, Nat.zero_add, Nat.reduceAdd, List.length_cons, List.length_nil])
   | (split <;> rename_i hh <;> (try simp only [wS] at hh) <;> (try simp (disch := omega) only [wT] at hh))
   | with_reducible refine And.intro (?_ : leA _ _ _) ?_
   | fail) <;> (conv => whnf)))
  all_goals (try (show _ = _; simp only [wQ]))
  all_goals try (
   have hz : x.2 = (zeroR, 4) := by
    refine hfail fun r hm hw => ?_
    rw [hrd r hm hw, hm] at hh
    cases hh
   rw [hz] <;> rfl)
  refine ⟨(⟨[], 8, 0, (numOf ((sL (cutL 32 x.1)).getD 1 [])).1, 0, 0, [], [], [], 0, 0, 0⟩ : Request), ⟨Nat.zero_le _, Nat.zero_le _⟩, ?_, ?_⟩
  ·(conv => whnf)
   (repeat' ((first | with_reducible exact True.intro | ((with_reducible refine And.intro ?_ ?_); focus (first | with_reducible rfl | omega | exact Nat.le_of_ble_eq_true rfl | rfl)) | with_reducible refine And.intro (?_ : leA _ _ _) ?_ | fail) <;> (conv => whnf)))
   all_goals (try simp only [wQ])
   all_goals (try first | rfl)
   all_goals (simp only [w0, w1, w2, w3, w4, w5, Nat.zero_add, Nat.reduceAdd]; rfl)
  (conv => whnf)
  (repeat' ((first
   | with_reducible exact True.intro
   | ((with_reducible refine And.intro ?_ ?_); focus (with_reducible rfl))
   | (split <;> rename_i hh <;> (try simp only [wS] at hh) <;> (try simp (disch := omega) only [wT] at hh))
   | with_reducible refine And.intro (?_ : leA _ _ _) ?_
   | fail) <;> (conv => whnf)))
  all_goals (try (show _ = _; simp only [wQ]))
  all_goals try (
   have hz : x.2 = (zeroR, 4) := by
    refine hfail fun r hm hw => ?_
    rw [hrd r hm hw] at hh
    exact hh hw
   rw [hz] <;> rfl)
  all_goals (
   have hz := hq.symm.trans (rqOf_yes (by assumption) (by assumption) hrd)
   try simp only [List.toList_toArray, w0, w1, w2, w3, w4, w5, Nat.zero_add, Nat.reduceAdd]
   rw [hz] <;> rfl)
 ·have hk2 : kindOf ((cutL 32 x.1).getD 0 []) = 9 := by rw [hsL] at hk; exact hk
  have hrd : ∀ r, mayReqB r = true → reqW r = x.1 → (⟨[], 9, 0, 0, 0, 0, ((sL (cutL 32 x.1)).getD 1 []), [], [], 0, 0, 0⟩ : Request) = r := fun r hm hw => by
   have hc := rd_9 hm hw hk2
   rw [hsL, hc.1]; simp only [List.getD_cons_zero, List.getD_cons_succ]; exact hc.2.1.symm
  obtain ⟨r0, w0⟩ := ascii_at (l := [76]) 0 (by decide) (by decide)
  have r1 := True.intro
  have w1 := True.intro
  have r2 := True.intro
  have w2 := True.intro
  have r3 := True.intro
  have w3 := True.intro
  have r4 := True.intro
  have w4 := True.intro
  have r5 := True.intro
  have w5 := True.intro
  have v0 : runeW (⟨#[76]⟩ : ByteArray).data.toList 0 = 1 := w0
  have hrow : (([76] : List UInt8).length : Int) = 1 := rfl
  (conv => whnf)
  (repeat' ((first
   | ((with_reducible refine And.intro ?_ ?_); focus (omega))
   | fail) <;> (conv => whnf)))
  all_goals (try (show _ = _; simp only [wQ]))
  refine ⟨(((sL (cutL 32 x.1)).getD (Int.toNat 0) [], (9 : Int)) : List UInt8 × Int), hk, ?_, ?_⟩
  ·exact leL_rfl _
  (conv => whnf)
  (repeat' ((first
   | with_reducible exact True.intro
   | (with_reducible refine inl_intro ?_)
   | ((with_reducible refine And.intro ?_ ?_); focus (first | ((with_reducible show okB _ _ _ = true); rfl) | with_reducible rfl | omega | (simp only [inK_def, Go.Vc.lo, Go.Vc.hi]; omega)))
   | (conv => arg 2; (first | change eqI (runeAt _ _) _ | change decide (_ + runeW _ _ < _)); simp only [List.toList_toArray, sB_eq, r0, r1, r2, r3, r4, r5, w0, w1, w2, w3, w4, w5, Nat.zero_add, Nat.reduceAdd, List.length_cons, List.length_nil])
   | (split <;> rename_i hh <;> (try simp only [wS] at hh) <;> (try simp (disch := omega) only [wT] at hh))
   | with_reducible refine (fun (hln : (_ : Int) ≤ 9223372036854775807) => ?_)
   | with_reducible refine And.intro (?_ : leA _ _ _) ?_
   | fail) <;> (conv => whnf)))
  all_goals (try (show _ = _; simp only [wQ]))
  all_goals try (
   have hz : x.2 = (zeroR, 4) := by
    refine hfail fun r hm hw => ?_
    have hc := rd_9 hm hw hk2
    try simp only [List.toList_toArray, w0, w1, w2, w3, w4, w5, Nat.zero_add, Nat.reduceAdd] at hh
    rw [hsL, hc.1] at hh
    first | exact hh rfl
   rw [hz] <;> rfl)
  refine ⟨(⟨[], 9, 0, 0, 0, 0, ((sL (cutL 32 x.1)).getD 1 []), [], [], 0, 0, 0⟩ : Request), ⟨Nat.zero_le _, Nat.zero_le _⟩, ?_, ?_⟩
  ·(conv => whnf)
   (repeat' ((first | with_reducible exact True.intro | ((with_reducible refine And.intro ?_ ?_); focus (first | with_reducible rfl | omega | exact Nat.le_of_ble_eq_true rfl | rfl)) | with_reducible refine And.intro (?_ : leA _ _ _) ?_ | fail) <;> (conv => whnf)))
   all_goals (try simp only [wQ])
   all_goals (simp only [w0, w1, w2, w3, w4, w5, Nat.zero_add, Nat.reduceAdd]; rfl)
  (conv => whnf)
  (repeat' ((first
   | with_reducible exact True.intro
   | ((with_reducible refine And.intro ?_ ?_); focus (with_reducible rfl))
   | (conv => arg 2; change ! (sB _); simp only [List.toList_toArray, sB_eq, r0, r1, r2, r3, r4, r5, w0, w1, w2, w3, w4, w5, Nat.zero_add, Nat.reduceAdd, List.length_cons, List.length_nil])
   | (split <;> rename_i hh <;> (try simp only [wS] at hh) <;> (try simp (disch := omega) only [wT] at hh))
   | with_reducible refine And.intro (?_ : leA _ _ _) ?_
   | fail) <;> (conv => whnf)))
  all_goals (try (show _ = _; simp only [wQ]))
  all_goals try (
   have hz : x.2 = (zeroR, 4) := by
    refine hfail fun r hm hw => ?_
    rw [hrd r hm hw, hm] at hh
    cases hh
   rw [hz] <;> rfl)
  refine ⟨(⟨[], 9, 0, 0, 0, 0, ((sL (cutL 32 x.1)).getD 1 []), [], [], 0, 0, 0⟩ : Request), ⟨Nat.zero_le _, Nat.zero_le _⟩, ?_, ?_⟩
  ·(conv => whnf)
   (repeat' ((first | with_reducible exact True.intro | ((with_reducible refine And.intro ?_ ?_); focus (first | with_reducible rfl | omega | exact Nat.le_of_ble_eq_true rfl | rfl)) | with_reducible refine And.intro (?_ : leA _ _ _) ?_ | fail) <;> (conv => whnf)))
   all_goals (try simp only [wQ])
   all_goals (simp only [w0, w1, w2, w3, w4, w5, Nat.zero_add, Nat.reduceAdd]; rfl)
  (conv => whnf)
  (repeat' ((first
   | with_reducible exact True.intro
   | ((with_reducible refine And.intro ?_ ?_); focus (with_reducible rfl))
   | (split <;> rename_i hh <;> (try simp only [wS] at hh) <;> (try simp (disch := omega) only [wT] at hh))
   | with_reducible refine And.intro (?_ : leA _ _ _) ?_
   | fail) <;> (conv => whnf)))
  all_goals (try (show _ = _; simp only [wQ]))
  all_goals try (
   have hz : x.2 = (zeroR, 4) := by
    refine hfail fun r hm hw => ?_
    rw [hrd r hm hw] at hh
    exact hh hw
   rw [hz] <;> rfl)
  all_goals (
   have hz := hq.symm.trans (rqOf_yes (by assumption) (by assumption) hrd)
   try simp only [List.toList_toArray, w0, w1, w2, w3, w4, w5, Nat.zero_add, Nat.reduceAdd]
   rw [hz] <;> rfl)
 ·have hk2 : kindOf ((cutL 32 x.1).getD 0 []) = 10 := by rw [hsL] at hk; exact hk
  have hrd : ∀ r, mayReqB r = true → reqW r = x.1 → (⟨[], 10, 0, 0, 0, 0, [], [], [], 0, (wholeN ((sL (cutL 32 x.1)).getD 1 [])).1, (wholeN ((sL (cutL 32 x.1)).getD 2 [])).1⟩ : Request) = r := fun r hm hw => by
   have hc := rd_10 hm hw hk2
   rw [hsL, hc.1]; simp only [List.getD_cons_zero, List.getD_cons_succ, hc.2.2.1, hc.2.2.2.1]; exact hc.2.1.symm
  obtain ⟨r0, w0⟩ := ascii_at (l := [70, 85]) 0 (by decide) (by decide)
  obtain ⟨r1, w1⟩ := ascii_at (l := [70, 85]) 1 (by decide) (by decide)
  have r2 := True.intro
  have w2 := True.intro
  have r3 := True.intro
  have w3 := True.intro
  have r4 := True.intro
  have w4 := True.intro
  have r5 := True.intro
  have w5 := True.intro
  have v0 : runeW (⟨#[70, 85]⟩ : ByteArray).data.toList 0 = 1 := w0
  have v1 : runeW (⟨#[70, 85]⟩ : ByteArray).data.toList (0 + runeW (⟨#[70, 85]⟩ : ByteArray).data.toList 0) = 1 := by rw [v0]; exact w1
  have hrow : (([70, 85] : List UInt8).length : Int) = 2 := rfl
  (conv => whnf)
  (repeat' ((first
   | ((with_reducible refine And.intro ?_ ?_); focus (omega))
   | fail) <;> (conv => whnf)))
  all_goals (try (show _ = _; simp only [wQ]))
  refine ⟨(((sL (cutL 32 x.1)).getD (Int.toNat 0) [], (10 : Int)) : List UInt8 × Int), hk, ?_, ?_⟩
  ·exact leL_rfl _
  (conv => whnf)
  (repeat' ((first
   | with_reducible exact True.intro
   | (with_reducible refine inl_intro ?_)
   | ((with_reducible refine And.intro ?_ ?_); focus (first | with_reducible exact True.intro | ((with_reducible show okB _ _ _ = true); rfl) | with_reducible rfl | omega | (simp only [inK_def, Go.Vc.lo, Go.Vc.hi]; omega)))
   | (conv => arg 2; (first | change eqI (runeAt _ _) _ | change decide (_ + runeW _ _ < _) | change ! (sB _)); simp only [List.toList_toArray, sB_eq, r0, r1, r2, r3, r4, r5, w0, w1, w2, w3, w4, w5, Nat.zero_add, Nat.reduceAdd, List.length_cons, List.length_nil])
   | (split <;> rename_i hh <;> (try simp only [wS] at hh) <;> (try simp (disch := omega) only [wT] at hh))
   | with_reducible refine (fun (hln : (_ : Int) ≤ 9223372036854775807) => ?_)
   | with_reducible refine And.intro (?_ : leA _ _ _) ?_
   | fail) <;> (conv => whnf)))
  all_goals (try (show _ = _; simp only [wQ]))
  all_goals try (
   have hz : x.2 = (zeroR, 4) := by
    refine hfail fun r hm hw => ?_
    have hc := rd_10 hm hw hk2
    try simp only [List.toList_toArray, w0, w1, w2, w3, w4, w5, Nat.zero_add, Nat.reduceAdd] at hh
    rw [hsL, hc.1] at hh
    first | exact hh rfl | (cases hh.symm.trans (congrArg Prod.snd hc.2.2.1)) | (cases hh.symm.trans (congrArg Prod.snd hc.2.2.2.1))
   rw [hz] <;> rfl)
  refine ⟨(⟨[], 10, 0, 0, 0, 0, [], [], [], 0, (wholeN ((sL (cutL 32 x.1)).getD 1 [])).1, (wholeN ((sL (cutL 32 x.1)).getD 2 [])).1⟩ : Request), ⟨Nat.zero_le _, Nat.zero_le _⟩, ?_, ?_⟩
  ·(conv => whnf)
   (repeat' ((first | with_reducible exact True.intro | ((with_reducible refine And.intro ?_ ?_); focus (first | with_reducible rfl | omega | exact Nat.le_of_ble_eq_true rfl | rfl)) | with_reducible refine And.intro (?_ : leA _ _ _) ?_ | fail) <;> (conv => whnf)))
   all_goals (try simp only [wQ])
   all_goals (try first | rfl)
   all_goals (simp only [w0, w1, w2, w3, w4, w5, Nat.zero_add, Nat.reduceAdd]; rfl)
  (conv => whnf)
  (repeat' ((first
   | with_reducible exact True.intro
   | ((with_reducible refine And.intro ?_ ?_); focus (with_reducible rfl))
   | (conv => arg 2; change ! (sB _); simp only [List.toList_toArray, sB_eq, r0, r1, r2, r3, r4, r5, w0, w1, w2, w3, w4, w5, Nat.zero_add, Nat.reduceAdd, List.length_cons, List.length_nil])
   | (split <;> rename_i hh <;> (try simp only [wS] at hh) <;> (try simp (disch := omega) only [wT] at hh))
   | with_reducible refine And.intro (?_ : leA _ _ _) ?_
   | fail) <;> (conv => whnf)))
  all_goals (try (show _ = _; simp only [wQ]))
  all_goals try (
   have hz : x.2 = (zeroR, 4) := by
    refine hfail fun r hm hw => ?_
    rw [hrd r hm hw, hm] at hh
    cases hh
   rw [hz] <;> rfl)
  refine ⟨(⟨[], 10, 0, 0, 0, 0, [], [], [], 0, (wholeN ((sL (cutL 32 x.1)).getD 1 [])).1, (wholeN ((sL (cutL 32 x.1)).getD 2 [])).1⟩ : Request), ⟨Nat.zero_le _, Nat.zero_le _⟩, ?_, ?_⟩
  ·(conv => whnf)
   (repeat' ((first | with_reducible exact True.intro | ((with_reducible refine And.intro ?_ ?_); focus (first | with_reducible rfl | omega | exact Nat.le_of_ble_eq_true rfl | rfl)) | with_reducible refine And.intro (?_ : leA _ _ _) ?_ | fail) <;> (conv => whnf)))
   all_goals (try simp only [wQ])
   all_goals (try first | rfl)
   all_goals (simp only [w0, w1, w2, w3, w4, w5, Nat.zero_add, Nat.reduceAdd]; rfl)
  (conv => whnf)
  (repeat' ((first
   | with_reducible exact True.intro
   | ((with_reducible refine And.intro ?_ ?_); focus (with_reducible rfl))
   | (split <;> rename_i hh <;> (try simp only [wS] at hh) <;> (try simp (disch := omega) only [wT] at hh))
   | with_reducible refine And.intro (?_ : leA _ _ _) ?_
   | fail) <;> (conv => whnf)))
  all_goals (try (show _ = _; simp only [wQ]))
  all_goals try (
   have hz : x.2 = (zeroR, 4) := by
    refine hfail fun r hm hw => ?_
    rw [hrd r hm hw] at hh
    exact hh hw
   rw [hz] <;> rfl)
  all_goals (
   have hz := hq.symm.trans (rqOf_yes (by assumption) (by assumption) hrd)
   try simp only [List.toList_toArray, w0, w1, w2, w3, w4, w5, Nat.zero_add, Nat.reduceAdd]
   rw [hz] <;> rfl)
end
end Go.Vc.Z
