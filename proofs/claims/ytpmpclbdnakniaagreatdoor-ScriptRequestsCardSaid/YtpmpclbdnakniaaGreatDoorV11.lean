/- script.RequestLine: the line of a request, the program's. -/
import Derived.Test.YtpmpclbdnakniaaGreatDoorV10
import Derived.Ground.NamesProg
import Derived.Shelf.Strings.Search3
import Derived.Shelf.Strings.Cut
import Derived.Shelf.Strings.Split
set_option linter.all false
set_option linter.unusedVariables false
set_option linter.unusedSimpArgs false
namespace Go.Vc.Z
open Go Go.Vc Go.Proofs Go.RowKit Go.Pl Go.Lib
noncomputable section
set_option maxRecDepth 100000
set_option linter.unusedSimpArgs false
set_option linter.unusedVariables false
attribute [local irreducible] inK Utf8.decode Utf8.encode Lib.itoa Pl.worth Pl.allDig
attribute [local irreducible] Lib.join
theorem flight_facts {l : List Coupon} {r : List AV} (h : factL (slE 6 Coupon.enc l :: r)) : ∀ s ∈ l.map flightW, s.length ≤ 200 := by
 intro s hs
 obtain ⟨c, hc, rfl⟩ := List.mem_map.1 hs
 exact flightW_cap (l := l) (by simp only [factL] at h ⊢; exact ⟨h.1, trivial⟩) c hc
def LJFlight (l : List Coupon) : LoopSpec := {
 α := Nat × List (List UInt8)
 keep := [1, 5, 8, 9, 10]
 vals x := [.fn 129 [], oslS 0 x.2, slE 6 Coupon.enc l, .int .i64 l.length, .int .i64 x.1]
 heap x := [rowS x.2]
 ok x := x.1 ≤ l.length ∧ x.2 = (l.take x.1).map flightW
 μ x := l.length - x.1 }
def pcJFlight : PC := PC.of (fun l : List Coupon => [slE 6 Coupon.enc l, .fn 129 []]) (fun l => 0 < l.length ∧ l.length ≤ 1000000) (fun l => .str (sS (Lib.join (l.map flightW) [44])))
def D_jFlight : PT := tabD [(62, pcJoinS), (129, pcFlightW)]
theorem d_jFlight {W : World} (hW : Tabs W) : PTOk (Fw W) Tryz.prog D_jFlight := (tabD_cons Tryz.call62 (goodJoinS hW) (tabD_cons Tryz.call129 (g_script_flight hW) tabD_nil))
def C_jFlight : FuncId → Option Ctr := tabC D_jFlight []
theorem c_jFlight {W : World} (hW : Tabs W) : CtrOk (Fw W) Tryz.prog C_jFlight := (tabC_nil (d_jFlight hW))
def L_jFlight : List Coupon → Nat → Option LR := fun l i => cond (Nat.beq i 3) (some (.inv (LJFlight l))) (none)
set_option maxHeartbeats 2000000 in
theorem g_jFlight {W : World} (hW : Tabs W) : GoodP (Fw W) Tryz.prog 56 pcJFlight := by
 have hD := d_jFlight hW
 have hC0 : ∀ l : List Coupon, CtrOk (Fw W) Tryz.prog C_jFlight := fun l => (c_jFlight hW)
 refine goodP_ofC (D := D_jFlight) (C := fun l => C_jFlight) (wr := (fun _ => false)) rfl tyOk hD hC0 Tryz.func56 (L_jFlight) (fun _ => rfl) ?_
 intro l hf hp
 obtain ⟨hp0, hp1⟩ := hp
 have hw : ∀ s ∈ l.map flightW, s.length ≤ 200 := (flight_facts hf)
 clear hf
 (conv => whnf)
 (repeat' ((first
  | with_reducible refine (fun (hln : (_ : Int) ≤ 9223372036854775807) => ?_)
  | fail) <;> (conv => whnf)))
 all_goals (try (show _ = _; simp only [wQ]))
 refine ⟨?_, fun (x : Nat × List (List UInt8)) hx => ?_⟩
 ·(conv => whnf)
  refine ⟨((0, []) : Nat × List (List UInt8)), [], ?_, ⟨⟨rfl, Nat.le_of_ble_eq_true rfl, rfl⟩, ?_, ?_⟩⟩
  ·exact ⟨Nat.zero_le _, rfl⟩
  ·exact leL_rfl _
  ·(conv => whnf)
   (repeat' ((first | with_reducible exact True.intro | fail) <;> (conv => whnf)))
   all_goals (try simp only [wQ])
 ·obtain ⟨i, L⟩ := x
  obtain ⟨h1, h2⟩ := hx
  change i ≤ l.length at h1
  change L = (l.take i).map flightW at h2
  have hlen : L.length = i := by rw [h2]; simp; omega
  have hstep : i < l.length → L ++ [flightW (l.getD (Int.toNat (i : Int)) default)] = (l.take (i + 1)).map flightW := fun h => by
   rw [h2, List.take_add_one, List.map_append, List.getElem?_eq_getElem h]
   have : l.getD (Int.toNat (i : Int)) default = l[i] := by
    rw [show Int.toNat (i : Int) = i from rfl, List.getD_eq_getElem?_getD, List.getElem?_eq_getElem h]; rfl
   rw [this]; rfl
  rcases L with _ | ⟨s, L⟩
  ·have hi : i = 0 := by simpa using hlen.symm
   subst hi
   (conv => whnf)
   (repeat' ((first
    | ((with_reducible refine And.intro ?_ ?_); focus (first | with_reducible exact True.intro | omega | (simp only [inK_def, Go.Vc.lo, Go.Vc.hi]; omega) | (simp only [growOk, ty2, ty3, ty4, ty5, ty9, ty21, ty37, ty42, ty43, ty45, ty47, ty67, ty95, ty105, ty113, ty150, ty161, ty198, ty242, ty275]; first | omega | (refine ⟨?_, ?_⟩ <;> omega))))
    | (split <;> rename_i hh <;> (try simp only [wS] at hh) <;> (try simp (disch := omega) only [wT] at hh))
    | fail) <;> (conv => whnf)))
   all_goals (try (show _ = _; simp only [wQ]))
   ·(conv => whnf)
    refine ⟨((1, [flightW (l.getD (Int.toNat ((0 : Nat) : Int)) default)]) : Nat × List (List UInt8)), [3], ?_, ⟨⟨rfl, Nat.le_of_ble_eq_true rfl, rfl⟩, ?_, ?_⟩⟩
    ·exact ⟨⟨show 1 ≤ l.length by omega, hstep (by omega)⟩, show l.length - 1 < l.length - 0 by omega⟩
    ·(conv => whnf)
     (repeat' ((first | with_reducible exact True.intro | ((with_reducible refine Or.inr ?_); rfl) | ((with_reducible refine And.intro ?_ ?_); focus (first | with_reducible rfl | omega | exact Nat.le_of_ble_eq_true rfl | rfl)) | with_reducible refine And.intro (?_ : leA _ _ _) ?_ | fail) <;> (conv => whnf)))
     all_goals (try simp only [wQ])
     all_goals (try first | omega | exact ⟨fun h => h, fun _ _ => True.intro⟩)
    ·(conv => whnf)
     (repeat' ((first | with_reducible exact True.intro | ((with_reducible refine And.intro ?_ ?_); focus (first | with_reducible rfl | omega | exact Nat.le_of_ble_eq_true rfl | rfl)) | with_reducible refine And.intro (?_ : leBlk _ _ _ _) ?_ | fail) <;> (conv => whnf)))
     all_goals (try simp only [wQ])
     intro e he
     have he : e < 1 := he
     obtain rfl : e = 0 := by omega
     exact ⟨rfl, rfl⟩
   ·exfalso; omega
  ·have hlen2 : L.length + 1 = i := hlen
   (conv => whnf)
   (repeat' ((first
    | ((with_reducible refine And.intro ?_ ?_); focus (first | with_reducible exact True.intro | ((with_reducible refine ⟨?_, ?_, ?_⟩) <;> first | (intro e he; rcases (by omega : e = 0 ∨ e = 1 ∨ e = 2 ∨ e = 3 ∨ e = 4 ∨ e = 5) with rfl | rfl | rfl | rfl | rfl | rfl <;> first | rfl | (exfalso; omega)) | (with_reducible assumption) | omega | ((with_reducible show growOk _ _); simp only [growOk, ty2, ty3, ty4, ty5, ty9, ty21, ty37, ty42, ty43, ty45, ty47, ty67, ty95, ty105, ty113, ty150, ty161, ty198, ty242, ty275, List.length_cons, List.length_nil]; first | omega | (refine ⟨?_, ?_⟩ <;> omega))) | omega | (simp only [inK_def, Go.Vc.lo, Go.Vc.hi]; omega)))
    | (split <;> rename_i hh <;> (try simp only [wS] at hh) <;> (try simp (disch := omega) only [wT] at hh))
    | fail) <;> (conv => whnf)))
   all_goals (try (show _ = _; simp only [wQ]))
   ·(conv => whnf)
    refine ⟨((i + 1, s :: L ++ [flightW (l.getD (Int.toNat (i : Int)) default)]) : Nat × List (List UInt8)), [3], ?_, ⟨⟨rfl, Nat.le_of_ble_eq_true rfl, rfl⟩, ?_, ?_⟩⟩
    ·exact ⟨⟨show i + 1 ≤ l.length by omega, hstep (by omega)⟩, show l.length - (i + 1) < l.length - i by omega⟩
    ·(conv => whnf)
     (repeat' ((first | with_reducible exact True.intro | ((with_reducible refine And.intro ?_ ?_); focus (first | with_reducible rfl | omega | exact Nat.le_of_ble_eq_true rfl | rfl)) | with_reducible refine And.intro (?_ : leA _ _ _) ?_ | fail) <;> (conv => whnf)))
     all_goals (try simp only [wQ])
     all_goals (try first | omega | exact ⟨fun h => h, fun _ _ => True.intro⟩)
     all_goals (try first | exact ⟨by simp, Or.inl trivial⟩)
    ·(conv => whnf)
     (repeat' ((first | with_reducible exact True.intro | ((with_reducible refine And.intro ?_ ?_); focus (first | with_reducible rfl | omega | exact Nat.le_of_ble_eq_true rfl | rfl)) | with_reducible refine And.intro (?_ : leBlk _ _ _ _) ?_ | fail) <;> (conv => whnf)))
     all_goals (try simp only [wQ])
     exact ⟨by simp, fun e he => ⟨cat_strn (l := s :: L) rfl (fun _ _ => rfl) rfl (by simpa using he), rfl⟩⟩
   ·have hi : i = l.length := by omega
    rw [hi, List.take_length] at h2
    refine ⟨⟨by omega, fun e he => rfl⟩, ?_⟩
    refine ⟨((s :: L, [44]) : List (List UInt8) × List UInt8), ⟨by have := join_le [44] 200 (s :: L) (by rw [h2]; exact hw); simp at this; show (Lib.join (s :: L) [44]).length ≤ _; omega, by show (s :: L).length ≤ _; simp; omega⟩, ?_, ?_⟩
    ·(conv => whnf)
     (repeat' ((first | with_reducible exact True.intro | ((with_reducible refine And.intro ?_ ?_); focus (first | with_reducible rfl | omega | exact Nat.le_of_ble_eq_true rfl | rfl)) | with_reducible refine And.intro (?_ : leA _ _ _) ?_ | fail) <;> (conv => whnf)))
     all_goals (try simp only [wQ])
     all_goals (try first | (refine ⟨fun h => h, fun e he => ?_⟩; rw [Nat.zero_add]; done))
    (conv => whnf)
    all_goals (try (show _ = _; simp only [wQ]))
    rw [h2]
theorem taxesB_len {l : List Tax} (h : taxesB l = true) : l.length ≤ 4 := by
 unfold taxesB at h; simp only [Bool.and_eq_true, decide_eq_true_eq] at h; exact h.2
theorem ascii_at {l : List UInt8} (i : Nat) (h : i < l.length) (hb : (l.getD i 0).toNat < 128) : runeAt l i = ((l.getD i 0).toNat : Int) ∧ runeW l i = 1 := by
 rcases rune_cases h with ⟨h6, h7, h8⟩ | ⟨h6, h7⟩
 ·exact ⟨h6, h7⟩
 ·omega
def pcReqLine : PC := PC.of (fun r : Request => [.agg r.enc]) shortR (fun r => .str (sS (reqW r)))
def D_reqLine : PT := tabD [(46, pcItoaS), (54, pcNText), (56, pcJFlight), (58, pcTaxesW), (61, pcLetter), (62, pcJoinS), (71, pcMayR), (73, pcName), (129, pcFlightW), (132, pcFareT)]
theorem d_reqLine {W : World} (hW : Tabs W) : PTOk (Fw W) Tryz.prog D_reqLine := (tabD_cons Tryz.call46 (g_script_digits hW) (tabD_cons Tryz.call54 (g_number_Text hW) (tabD_cons Tryz.call56 (g_jFlight hW) (tabD_cons Tryz.call58 (g_script_taxes hW) (tabD_cons Tryz.call61 (g_status_Letter hW) (tabD_cons Tryz.call62 (goodJoinS hW) (tabD_cons Tryz.call71 (g_reqMay hW) (tabD_cons Tryz.call73 (g_request_Name hW) (tabD_cons Tryz.call129 (g_script_flight hW) (tabD_cons Tryz.call132 (g_fareT hW) tabD_nil))))))))))
def C_reqLine : FuncId → Option Ctr := tabC D_reqLine []
theorem c_reqLine {W : World} (hW : Tabs W) : CtrOk (Fw W) Tryz.prog C_reqLine := (tabC_nil (d_reqLine hW))
def I1_reqLine : List (FuncId × Ctr) := (74, inl TY C_reqLine D_reqLine (fun _ => false) (fun _ _ _ => none) Tryz.f74) :: []
def C1_reqLine : FuncId → Option Ctr := tabC D_reqLine I1_reqLine
theorem c1_reqLine {W : World} (hW : Tabs W) : CtrOk (Fw W) Tryz.prog C1_reqLine := tabC_cons Tryz.call74 (good_inl rfl tyOk (d_reqLine hW) (c_reqLine hW) Tryz.func74 (fun _ _ _ => none)) (c_reqLine hW)
def I2_reqLine : List (FuncId × Ctr) := (144, inl TY C1_reqLine D_reqLine (fun _ => false) (fun _ _ _ => none) Tryz.f144) :: I1_reqLine
def C2_reqLine : FuncId → Option Ctr := tabC D_reqLine I2_reqLine
theorem c2_reqLine {W : World} (hW : Tabs W) : CtrOk (Fw W) Tryz.prog C2_reqLine := tabC_cons Tryz.call144 (good_inl rfl tyOk (d_reqLine hW) (c1_reqLine hW) Tryz.func144 (fun _ _ _ => none)) (c1_reqLine hW)
def I3_reqLine : List (FuncId × Ctr) := (145, inl TY C2_reqLine D_reqLine (fun _ => false) (fun _ _ _ => none) Tryz.f145) :: I2_reqLine
def C3_reqLine : FuncId → Option Ctr := tabC D_reqLine I3_reqLine
theorem c3_reqLine {W : World} (hW : Tabs W) : CtrOk (Fw W) Tryz.prog C3_reqLine := tabC_cons Tryz.call145 (good_inl rfl tyOk (d_reqLine hW) (c2_reqLine hW) Tryz.func145 (fun _ _ _ => none)) (c2_reqLine hW)
def I4_reqLine : List (FuncId × Ctr) := (147, inl TY C3_reqLine D_reqLine (fun _ => false) (fun _ _ _ => none) Tryz.f147) :: I3_reqLine
def C4_reqLine : FuncId → Option Ctr := tabC D_reqLine I4_reqLine
theorem c4_reqLine {W : World} (hW : Tabs W) : CtrOk (Fw W) Tryz.prog C4_reqLine := tabC_cons Tryz.call147 (good_inl rfl tyOk (d_reqLine hW) (c3_reqLine hW) Tryz.func147 (fun _ _ _ => none)) (c3_reqLine hW)
def I5_reqLine : List (FuncId × Ctr) := (148, inl TY C4_reqLine D_reqLine (fun _ => false) (fun _ _ _ => none) Tryz.f148) :: I4_reqLine
def C5_reqLine : FuncId → Option Ctr := tabC D_reqLine I5_reqLine
theorem c5_reqLine {W : World} (hW : Tabs W) : CtrOk (Fw W) Tryz.prog C5_reqLine := tabC_cons Tryz.call148 (good_inl rfl tyOk (d_reqLine hW) (c4_reqLine hW) Tryz.func148 (fun _ _ _ => none)) (c4_reqLine hW)
def I6_reqLine : List (FuncId × Ctr) := (149, inl TY C5_reqLine D_reqLine (fun _ => false) (fun _ _ _ => none) Tryz.f149) :: I5_reqLine
def C6_reqLine : FuncId → Option Ctr := tabC D_reqLine I6_reqLine
theorem c6_reqLine {W : World} (hW : Tabs W) : CtrOk (Fw W) Tryz.prog C6_reqLine := tabC_cons Tryz.call149 (good_inl rfl tyOk (d_reqLine hW) (c5_reqLine hW) Tryz.func149 (fun _ _ _ => none)) (c5_reqLine hW)
def I7_reqLine : List (FuncId × Ctr) := (150, inl TY C6_reqLine D_reqLine (fun _ => false) (fun _ _ _ => none) Tryz.f150) :: I6_reqLine
def C7_reqLine : FuncId → Option Ctr := tabC D_reqLine I7_reqLine
theorem c7_reqLine {W : World} (hW : Tabs W) : CtrOk (Fw W) Tryz.prog C7_reqLine := tabC_cons Tryz.call150 (good_inl rfl tyOk (d_reqLine hW) (c6_reqLine hW) Tryz.func150 (fun _ _ _ => none)) (c6_reqLine hW)
def I8_reqLine : List (FuncId × Ctr) := (151, inl TY C7_reqLine D_reqLine (fun _ => false) (fun _ _ _ => none) Tryz.f151) :: I7_reqLine
def C8_reqLine : FuncId → Option Ctr := tabC D_reqLine I8_reqLine
theorem c8_reqLine {W : World} (hW : Tabs W) : CtrOk (Fw W) Tryz.prog C8_reqLine := tabC_cons Tryz.call151 (good_inl rfl tyOk (d_reqLine hW) (c7_reqLine hW) Tryz.func151 (fun _ _ _ => none)) (c7_reqLine hW)
def I9_reqLine : List (FuncId × Ctr) := (154, inl TY C8_reqLine D_reqLine (fun _ => false) (fun _ _ _ => none) Tryz.f154) :: I8_reqLine
def C9_reqLine : FuncId → Option Ctr := tabC D_reqLine I9_reqLine
theorem c9_reqLine {W : World} (hW : Tabs W) : CtrOk (Fw W) Tryz.prog C9_reqLine := tabC_cons Tryz.call154 (good_inl rfl tyOk (d_reqLine hW) (c8_reqLine hW) Tryz.func154 (fun _ _ _ => none)) (c8_reqLine hW)
def I10_reqLine : List (FuncId × Ctr) := (157, inl TY C9_reqLine D_reqLine (fun _ => false) (fun _ _ _ => none) Tryz.f157) :: I9_reqLine
def C10_reqLine : FuncId → Option Ctr := tabC D_reqLine I10_reqLine
theorem c10_reqLine {W : World} (hW : Tabs W) : CtrOk (Fw W) Tryz.prog C10_reqLine := tabC_cons Tryz.call157 (good_inl rfl tyOk (d_reqLine hW) (c9_reqLine hW) Tryz.func157 (fun _ _ _ => none)) (c9_reqLine hW)
def I11_reqLine : List (FuncId × Ctr) := (160, inl TY C10_reqLine D_reqLine (fun _ => false) (fun _ _ _ => none) Tryz.f160) :: I10_reqLine
def C11_reqLine : FuncId → Option Ctr := tabC D_reqLine I11_reqLine
theorem c11_reqLine {W : World} (hW : Tabs W) : CtrOk (Fw W) Tryz.prog C11_reqLine := tabC_cons Tryz.call160 (good_inl rfl tyOk (d_reqLine hW) (c10_reqLine hW) Tryz.func160 (fun _ _ _ => none)) (c10_reqLine hW)
def I12_reqLine : List (FuncId × Ctr) := (162, inl TY C11_reqLine D_reqLine (fun _ => false) (fun _ _ _ => none) Tryz.f162) :: I11_reqLine
def C12_reqLine : FuncId → Option Ctr := tabC D_reqLine I12_reqLine
theorem c12_reqLine {W : World} (hW : Tabs W) : CtrOk (Fw W) Tryz.prog C12_reqLine := tabC_cons Tryz.call162 (good_inl rfl tyOk (d_reqLine hW) (c11_reqLine hW) Tryz.func162 (fun _ _ _ => none)) (c11_reqLine hW)
def I13_reqLine : List (FuncId × Ctr) := (216, inl TY C12_reqLine D_reqLine (fun _ => false) (fun _ _ _ => none) Tryz.f216) :: I12_reqLine
def C13_reqLine : FuncId → Option Ctr := tabC D_reqLine I13_reqLine
theorem c13_reqLine {W : World} (hW : Tabs W) : CtrOk (Fw W) Tryz.prog C13_reqLine := tabC_cons Tryz.call216 (good_inl rfl tyOk (d_reqLine hW) (c12_reqLine hW) Tryz.func216 (fun _ _ _ => none)) (c12_reqLine hW)
def I14_reqLine : List (FuncId × Ctr) := (218, inl TY C13_reqLine D_reqLine (fun _ => false) (fun _ _ _ => none) Tryz.f218) :: I13_reqLine
def C14_reqLine : FuncId → Option Ctr := tabC D_reqLine I14_reqLine
theorem c14_reqLine {W : World} (hW : Tabs W) : CtrOk (Fw W) Tryz.prog C14_reqLine := tabC_cons Tryz.call218 (good_inl rfl tyOk (d_reqLine hW) (c13_reqLine hW) Tryz.func218 (fun _ _ _ => none)) (c13_reqLine hW)
def I15_reqLine : List (FuncId × Ctr) := (143, inl TY C14_reqLine D_reqLine (fun _ => false) (fun _ _ _ => none) Tryz.f143) :: I14_reqLine
def C15_reqLine : FuncId → Option Ctr := tabC D_reqLine I15_reqLine
theorem c15_reqLine {W : World} (hW : Tabs W) : CtrOk (Fw W) Tryz.prog C15_reqLine := tabC_cons Tryz.call143 (good_inl rfl tyOk (d_reqLine hW) (c14_reqLine hW) Tryz.func143 (fun _ _ _ => none)) (c14_reqLine hW)
def I16_reqLine : List (FuncId × Ctr) := (146, inl TY C15_reqLine D_reqLine (fun _ => false) (fun _ _ _ => none) Tryz.f146) :: I15_reqLine
def C16_reqLine : FuncId → Option Ctr := tabC D_reqLine I16_reqLine
theorem c16_reqLine {W : World} (hW : Tabs W) : CtrOk (Fw W) Tryz.prog C16_reqLine := tabC_cons Tryz.call146 (good_inl rfl tyOk (d_reqLine hW) (c15_reqLine hW) Tryz.func146 (fun _ _ _ => none)) (c15_reqLine hW)
def I17_reqLine : List (FuncId × Ctr) := (72, inl TY C16_reqLine D_reqLine (fun _ => false) (fun _ _ _ => none) Tryz.f72) :: I16_reqLine
def C17_reqLine : FuncId → Option Ctr := tabC D_reqLine I17_reqLine
theorem c17_reqLine {W : World} (hW : Tabs W) : CtrOk (Fw W) Tryz.prog C17_reqLine := tabC_cons Tryz.call72 (good_inl rfl tyOk (d_reqLine hW) (c16_reqLine hW) Tryz.func72 (fun _ _ _ => none)) (c16_reqLine hW)
def L_reqLine : Request → Nat → Option LR := fun r i => cond (Nat.beq i 6) (some (.unroll 7)) (none)
set_option maxHeartbeats 4000000 in
theorem g_reqLine {W : World} (hW : Tabs W) : GoodP (Fw W) Tryz.prog 24 pcReqLine := by
 have hD := d_reqLine hW
 have hC0 : ∀ r : Request, CtrOk (Fw W) Tryz.prog C17_reqLine := fun r => (c17_reqLine hW)
 refine goodP_ofC (D := D_reqLine) (C := fun r => C17_reqLine) (wr := (fun _ => false)) rfl tyOk hD hC0 Tryz.func24 (L_reqLine) (fun _ => rfl) ?_
 rintro ⟨key, kind, day, ticket, coupon, status, locator, coupons, taxes, amount, frm, til⟩ hf hp
 by_cases hmay : mayReqB ⟨key, kind, day, ticket, coupon, status, locator, coupons, taxes, amount, frm, til⟩ = true
 ·have hex : ¬ mayReqB ⟨key, kind, day, ticket, coupon, status, locator, coupons, taxes, amount, frm, til⟩ = false := by rw [hmay]; simp
  have hjl := reqJ_len hmay hf
  have hW : reqW ⟨key, kind, day, ticket, coupon, status, locator, coupons, taxes, amount, frm, til⟩ = Lib.join (reqParts ⟨key, kind, day, ticket, coupon, status, locator, coupons, taxes, amount, frm, til⟩) [32] := by unfold reqW; rw [if_pos hmay]
  simp only [factL, factA, inK_def, Go.Vc.lo, Go.Vc.hi, and_true] at hf
  rcases req_cases hmay with k | k | k | k | k | k | k | k | k | k
  all_goals (
   have k' : kind = _ := k
   subst k'
   clear k)
  ·have hpar := reqParts_1 (r := ⟨key, 1, day, ticket, coupon, status, locator, coupons, taxes, amount, frm, til⟩) rfl
   have hfac := mayFacts_1 (r := ⟨key, 1, day, ticket, coupon, status, locator, coupons, taxes, amount, frm, til⟩) rfl hmay
   dsimp only at hpar hfac
   obtain ⟨r0, w0⟩ := ascii_at (l := [75, 68, 76, 67, 88]) 0 (by decide) (by decide)
   obtain ⟨r1, w1⟩ := ascii_at (l := [75, 68, 76, 67, 88]) 1 (by decide) (by decide)
   obtain ⟨r2, w2⟩ := ascii_at (l := [75, 68, 76, 67, 88]) 2 (by decide) (by decide)
   obtain ⟨r3, w3⟩ := ascii_at (l := [75, 68, 76, 67, 88]) 3 (by decide) (by decide)
   obtain ⟨r4, w4⟩ := ascii_at (l := [75, 68, 76, 67, 88]) 4 (by decide) (by decide)
   have r5 := True.intro
   have w5 := True.intro
   have hn : nameQ 1 = namesL.getD (1 - 1) [] := nameQ_at ⟨by decide, by decide⟩
   have hfl : flightsW coupons = Lib.join (coupons.map flightW) [44] := by unfold flightsW; rfl
   have hE : reqParts ⟨key, 1, day, ticket, coupon, status, locator, coupons, taxes, amount, frm, til⟩ = [nameQ 1, key, Lib.itoa day, locator, Lib.join (coupons.map flightW) [44], taxesW taxes] := by rw [hpar, hn, hfl]; rfl
   rw [hE] at hjl hW
   have hc1 : 0 < coupons.length ∧ coupons.length ≤ 1000000 := by have := coupB_facts hfac.2.2.2.1; omega
   have hx1 : taxes.length ≤ 1000000 := by have := taxesB_len hfac.2.2.2.2; omega
   (conv => whnf)
   all_goals (try (show _ = _; simp only [wQ]))
   refine ⟨(⟨key, 1, day, ticket, coupon, status, locator, coupons, taxes, amount, frm, til⟩ : Request), hp, ?_, ?_⟩
   ·exact leL_rfl _
   (conv => whnf)
   (repeat' ((first
    | (with_reducible refine inl_intro ?_)
    | (exact absurd (by with_reducible assumption) hex)
    | ((with_reducible refine And.intro ?_ ?_); focus (first | with_reducible exact True.intro | ((with_reducible refine ⟨?_, ?_, ?_⟩) <;> first | (intro e he; rcases (by omega : e = 0 ∨ e = 1 ∨ e = 2 ∨ e = 3 ∨ e = 4 ∨ e = 5) with rfl | rfl | rfl | rfl | rfl | rfl <;> first | rfl | (exfalso; omega)) | (with_reducible assumption) | omega | ((with_reducible show growOk _ _); simp only [growOk, ty2, ty3, ty4, ty5, ty9, ty21, ty37, ty42, ty43, ty45, ty47, ty67, ty95, ty105, ty113, ty150, ty161, ty198, ty242, ty275, List.length_cons, List.length_nil]; first | omega | (refine ⟨?_, ?_⟩ <;> omega))) | omega | (simp only [growOk, ty2, ty3, ty4, ty5, ty9, ty21, ty37, ty42, ty43, ty45, ty47, ty67, ty95, ty105, ty113, ty150, ty161, ty198, ty242, ty275]; first | omega | (refine ⟨?_, ?_⟩ <;> omega))))
    | (conv => arg 2; (first | change eqI (runeAt _ _) _ | change decide (_ + runeW _ _ < _) | change ! (sB _)); simp only [List.toList_toArray, sB_eq, r0, r1, r2, r3, r4, r5, w0, w1, w2, w3, w4, w5, Nat.zero_add, Nat.reduceAdd, List.length_cons, List.length_nil])
    | (split <;> rename_i hh <;> (try simp only [wS] at hh) <;> (try simp (disch := omega) only [wT] at hh))
    | fail) <;> (conv => whnf)))
   all_goals (try (show _ = _; simp only [wQ]))
   refine ⟨coupons, hc1, ?_, ?_⟩
   ·exact leL_rfl _
   (conv => whnf)
   (repeat' ((first
    | (with_reducible refine inl_intro ?_)
    | ((with_reducible refine And.intro ?_ ?_); focus (first | ((with_reducible refine ⟨?_, ?_, ?_⟩) <;> first | (intro e he; rcases (by omega : e = 0 ∨ e = 1 ∨ e = 2 ∨ e = 3 ∨ e = 4 ∨ e = 5) with rfl | rfl | rfl | rfl | rfl | rfl <;> first | rfl | (exfalso; omega)) | (with_reducible assumption) | omega | ((with_reducible show growOk _ _); simp only [growOk, ty2, ty3, ty4, ty5, ty9, ty21, ty37, ty42, ty43, ty45, ty47, ty67, ty95, ty105, ty113, ty150, ty161, ty198, ty242, ty275, List.length_cons, List.length_nil]; first | omega | (refine ⟨?_, ?_⟩ <;> omega))) | omega))
    | (conv => arg 2; (first | change eqI (runeAt _ _) _ | change decide (_ + runeW _ _ < _)); simp only [List.toList_toArray, sB_eq, r0, r1, r2, r3, r4, r5, w0, w1, w2, w3, w4, w5, Nat.zero_add, Nat.reduceAdd, List.length_cons, List.length_nil])
    | fail) <;> (conv => whnf)))
   all_goals (try (show _ = _; simp only [wQ]))
   refine ⟨taxes, hx1, ?_, ?_⟩
   ·exact leL_rfl _
   (conv => whnf)
   (repeat' ((first
    | ((with_reducible refine And.intro ?_ ?_); focus (first | ((with_reducible refine ⟨?_, ?_, ?_⟩) <;> first | (intro e he; rcases (by omega : e = 0 ∨ e = 1 ∨ e = 2 ∨ e = 3 ∨ e = 4 ∨ e = 5) with rfl | rfl | rfl | rfl | rfl | rfl <;> first | rfl | (exfalso; omega)) | (with_reducible assumption) | omega | ((with_reducible show growOk _ _); simp only [growOk, ty2, ty3, ty4, ty5, ty9, ty21, ty37, ty42, ty43, ty45, ty47, ty67, ty95, ty105, ty113, ty150, ty161, ty198, ty242, ty275, List.length_cons, List.length_nil]; first | omega | (refine ⟨?_, ?_⟩ <;> omega))) | omega))
    | (conv => arg 2; change decide (_ + runeW _ _ < _); simp only [List.toList_toArray, sB_eq, r0, r1, r2, r3, r4, r5, w0, w1, w2, w3, w4, w5, Nat.zero_add, Nat.reduceAdd, List.length_cons, List.length_nil])
    | fail) <;> (conv => whnf)))
   all_goals (try (show _ = _; simp only [wQ]))
   refine ⟨⟨Nat.le_of_ble_eq_true rfl, fun e he => ?_⟩, ?_⟩
   ·change e < 6 at he
    rcases (by omega : e = 0 ∨ e = 1 ∨ e = 2 ∨ e = 3 ∨ e = 4 ∨ e = 5) with rfl | rfl | rfl | rfl | rfl | rfl <;> rfl
   refine ⟨(([nameQ 1, key, Lib.itoa day, locator, Lib.join (coupons.map flightW) [44], taxesW taxes], [32]) : List (List UInt8) × List UInt8), ⟨Nat.le_trans hjl (Nat.le_of_ble_eq_true rfl), Nat.le_of_ble_eq_true rfl⟩, ?_, ?_⟩
   ·(conv => whnf)
    (repeat' ((first | with_reducible exact True.intro | ((with_reducible refine And.intro ?_ ?_); focus (first | with_reducible rfl | omega | exact Nat.le_of_ble_eq_true rfl | rfl)) | with_reducible refine And.intro (?_ : leA _ _ _) ?_ | fail) <;> (conv => whnf)))
    all_goals (try simp only [wQ])
    refine ⟨fun h => h, fun e he => ?_⟩
    change e < 6 at he
    rcases (by omega : e = 0 ∨ e = 1 ∨ e = 2 ∨ e = 3 ∨ e = 4 ∨ e = 5) with rfl | rfl | rfl | rfl | rfl | rfl <;> rfl
   (conv => whnf)
   all_goals (try (show _ = _; simp only [wQ]))
   all_goals exact hW.symm
  ·have hpar := reqParts_2 (r := ⟨key, 2, day, ticket, coupon, status, locator, coupons, taxes, amount, frm, til⟩) rfl
   have hfac := mayFacts_2 (r := ⟨key, 2, day, ticket, coupon, status, locator, coupons, taxes, amount, frm, til⟩) rfl hmay
   dsimp only at hpar hfac
   obtain ⟨r0, w0⟩ := ascii_at (l := [75, 68, 84, 78, 83]) 0 (by decide) (by decide)
   obtain ⟨r1, w1⟩ := ascii_at (l := [75, 68, 84, 78, 83]) 1 (by decide) (by decide)
   obtain ⟨r2, w2⟩ := ascii_at (l := [75, 68, 84, 78, 83]) 2 (by decide) (by decide)
   obtain ⟨r3, w3⟩ := ascii_at (l := [75, 68, 84, 78, 83]) 3 (by decide) (by decide)
   obtain ⟨r4, w4⟩ := ascii_at (l := [75, 68, 84, 78, 83]) 4 (by decide) (by decide)
   have r5 := True.intro
   have w5 := True.intro
   have hn : nameQ 2 = namesL.getD (2 - 1) [] := nameQ_at ⟨by decide, by decide⟩
   have hE : reqParts ⟨key, 2, day, ticket, coupon, status, locator, coupons, taxes, amount, frm, til⟩ = [nameQ 2, key, Lib.itoa day, numText ticket, Lib.itoa coupon, letterS status] := by rw [hpar, hn]; rfl
   rw [hE] at hjl hW
   (conv => whnf)
   all_goals (try (show _ = _; simp only [wQ]))
   refine ⟨(⟨key, 2, day, ticket, coupon, status, locator, coupons, taxes, amount, frm, til⟩ : Request), hp, ?_, ?_⟩
   ·exact leL_rfl _
   (conv => whnf)
   (repeat' ((first
    | (with_reducible refine inl_intro ?_)
    | (exact absurd (by with_reducible assumption) hex)
    | ((with_reducible refine And.intro ?_ ?_); focus (first | with_reducible exact True.intro | ((with_reducible refine ⟨?_, ?_, ?_⟩) <;> first | (intro e he; rcases (by omega : e = 0 ∨ e = 1 ∨ e = 2 ∨ e = 3 ∨ e = 4 ∨ e = 5) with rfl | rfl | rfl | rfl | rfl | rfl <;> first | rfl | (exfalso; omega)) | (with_reducible assumption) | omega | ((with_reducible show growOk _ _); simp only [growOk, ty2, ty3, ty4, ty5, ty9, ty21, ty37, ty42, ty43, ty45, ty47, ty67, ty95, ty105, ty113, ty150, ty161, ty198, ty242, ty275, List.length_cons, List.length_nil]; first | omega | (refine ⟨?_, ?_⟩ <;> omega))) | omega | (simp only [growOk, ty2, ty3, ty4, ty5, ty9, ty21, ty37, ty42, ty43, ty45, ty47, ty67, ty95, ty105, ty113, ty150, ty161, ty198, ty242, ty275]; first | omega | (refine ⟨?_, ?_⟩ <;> omega))))
    | (conv => arg 2; (first | change eqI (runeAt _ _) _ | change decide (_ + runeW _ _ < _) | change ! (sB _)); simp only [List.toList_toArray, sB_eq, r0, r1, r2, r3, r4, r5, w0, w1, w2, w3, w4, w5, Nat.zero_add, Nat.reduceAdd, List.length_cons, List.length_nil])
    | (split <;> rename_i hh <;> (try simp only [wS] at hh) <;> (try simp (disch := omega) only [wT] at hh))
    | fail) <;> (conv => whnf)))
   all_goals (try (show _ = _; simp only [wQ]))
   refine ⟨⟨Nat.le_of_ble_eq_true rfl, fun e he => ?_⟩, ?_⟩
   ·change e < 6 at he
    rcases (by omega : e = 0 ∨ e = 1 ∨ e = 2 ∨ e = 3 ∨ e = 4 ∨ e = 5) with rfl | rfl | rfl | rfl | rfl | rfl <;> rfl
   refine ⟨(([nameQ 2, key, Lib.itoa day, numText ticket, Lib.itoa coupon, letterS status], [32]) : List (List UInt8) × List UInt8), ⟨Nat.le_trans hjl (Nat.le_of_ble_eq_true rfl), Nat.le_of_ble_eq_true rfl⟩, ?_, ?_⟩
   ·(conv => whnf)
    (repeat' ((first | with_reducible exact True.intro | ((with_reducible refine And.intro ?_ ?_); focus (first | with_reducible rfl | omega | exact Nat.le_of_ble_eq_true rfl | rfl)) | with_reducible refine And.intro (?_ : leA _ _ _) ?_ | fail) <;> (conv => whnf)))
    all_goals (try simp only [wQ])
    refine ⟨fun h => h, fun e he => ?_⟩
    change e < 6 at he
    rcases (by omega : e = 0 ∨ e = 1 ∨ e = 2 ∨ e = 3 ∨ e = 4 ∨ e = 5) with rfl | rfl | rfl | rfl | rfl | rfl <;> rfl
   (conv => whnf)
   all_goals (try (show _ = _; simp only [wQ]))
   all_goals exact hW.symm
  ·have hpar := reqParts_3 (r := ⟨key, 3, day, ticket, coupon, status, locator, coupons, taxes, amount, frm, til⟩) rfl
   have hfac := mayFacts_3 (r := ⟨key, 3, day, ticket, coupon, status, locator, coupons, taxes, amount, frm, til⟩) rfl hmay
   dsimp only at hpar hfac
   obtain ⟨r0, w0⟩ := ascii_at (l := [75, 68, 84]) 0 (by decide) (by decide)
   obtain ⟨r1, w1⟩ := ascii_at (l := [75, 68, 84]) 1 (by decide) (by decide)
   obtain ⟨r2, w2⟩ := ascii_at (l := [75, 68, 84]) 2 (by decide) (by decide)
   have r3 := True.intro
   have w3 := True.intro
   have r4 := True.intro
   have w4 := True.intro
   have r5 := True.intro
   have w5 := True.intro
   have hn : nameQ 3 = namesL.getD (3 - 1) [] := nameQ_at ⟨by decide, by decide⟩
   have hE : reqParts ⟨key, 3, day, ticket, coupon, status, locator, coupons, taxes, amount, frm, til⟩ = [nameQ 3, key, Lib.itoa day, numText ticket] := by rw [hpar, hn]; rfl
   rw [hE] at hjl hW
   (conv => whnf)
   all_goals (try (show _ = _; simp only [wQ]))
   refine ⟨(⟨key, 3, day, ticket, coupon, status, locator, coupons, taxes, amount, frm, til⟩ : Request), hp, ?_, ?_⟩
   ·exact leL_rfl _
   (conv => whnf)
   (repeat' ((first
    | (with_reducible refine inl_intro ?_)
    | (exact absurd (by with_reducible assumption) hex)
    | ((with_reducible refine And.intro ?_ ?_); focus (first | with_reducible exact True.intro | ((with_reducible refine ⟨?_, ?_, ?_⟩) <;> first | (intro e he; rcases (by omega : e = 0 ∨ e = 1 ∨ e = 2 ∨ e = 3 ∨ e = 4 ∨ e = 5) with rfl | rfl | rfl | rfl | rfl | rfl <;> first | rfl | (exfalso; omega)) | (with_reducible assumption) | omega | ((with_reducible show growOk _ _); simp only [growOk, ty2, ty3, ty4, ty5, ty9, ty21, ty37, ty42, ty43, ty45, ty47, ty67, ty95, ty105, ty113, ty150, ty161, ty198, ty242, ty275, List.length_cons, List.length_nil]; first | omega | (refine ⟨?_, ?_⟩ <;> omega))) | omega | (simp only [growOk, ty2, ty3, ty4, ty5, ty9, ty21, ty37, ty42, ty43, ty45, ty47, ty67, ty95, ty105, ty113, ty150, ty161, ty198, ty242, ty275]; first | omega | (refine ⟨?_, ?_⟩ <;> omega))))
    | (conv => arg 2; (first | change eqI (runeAt _ _) _ | change decide (_ + runeW _ _ < _) | change ! (sB _)); simp only [List.toList_toArray, sB_eq, r0, r1, r2, r3, r4, r5, w0, w1, w2, w3, w4, w5, Nat.zero_add, Nat.reduceAdd, List.length_cons, List.length_nil])
    | (split <;> rename_i hh <;> (try simp only [wS] at hh) <;> (try simp (disch := omega) only [wT] at hh))
    | fail) <;> (conv => whnf)))
   all_goals (try (show _ = _; simp only [wQ]))
   refine ⟨⟨Nat.le_of_ble_eq_true rfl, fun e he => ?_⟩, ?_⟩
   ·change e < 4 at he
    rcases (by omega : e = 0 ∨ e = 1 ∨ e = 2 ∨ e = 3) with rfl | rfl | rfl | rfl <;> rfl
   refine ⟨(([nameQ 3, key, Lib.itoa day, numText ticket], [32]) : List (List UInt8) × List UInt8), ⟨Nat.le_trans hjl (Nat.le_of_ble_eq_true rfl), Nat.le_of_ble_eq_true rfl⟩, ?_, ?_⟩
   ·(conv => whnf)
    (repeat' ((first | with_reducible exact True.intro | ((with_reducible refine And.intro ?_ ?_); focus (first | with_reducible rfl | omega | exact Nat.le_of_ble_eq_true rfl | rfl)) | with_reducible refine And.intro (?_ : leA _ _ _) ?_ | fail) <;> (conv => whnf)))
    all_goals (try simp only [wQ])
    refine ⟨fun h => h, fun e he => ?_⟩
    change e < 4 at he
    rcases (by omega : e = 0 ∨ e = 1 ∨ e = 2 ∨ e = 3) with rfl | rfl | rfl | rfl <;> rfl
   (conv => whnf)
   all_goals (try (show _ = _; simp only [wQ]))
   all_goals exact hW.symm
  ·have hpar := reqParts_4 (r := ⟨key, 4, day, ticket, coupon, status, locator, coupons, taxes, amount, frm, til⟩) rfl
   have hfac := mayFacts_4 (r := ⟨key, 4, day, ticket, coupon, status, locator, coupons, taxes, amount, frm, til⟩) rfl hmay
   dsimp only at hpar hfac
   obtain ⟨r0, w0⟩ := ascii_at (l := [75, 68, 84, 65]) 0 (by decide) (by decide)
   obtain ⟨r1, w1⟩ := ascii_at (l := [75, 68, 84, 65]) 1 (by decide) (by decide)
   obtain ⟨r2, w2⟩ := ascii_at (l := [75, 68, 84, 65]) 2 (by decide) (by decide)
   obtain ⟨r3, w3⟩ := ascii_at (l := [75, 68, 84, 65]) 3 (by decide) (by decide)
   have r4 := True.intro
   have w4 := True.intro
   have r5 := True.intro
   have w5 := True.intro
   have hn : nameQ 4 = namesL.getD (4 - 1) [] := nameQ_at ⟨by decide, by decide⟩
   have hE : reqParts ⟨key, 4, day, ticket, coupon, status, locator, coupons, taxes, amount, frm, til⟩ = [nameQ 4, key, Lib.itoa day, numText ticket, fareT amount] := by rw [hpar, hn]; rfl
   rw [hE] at hjl hW
   (conv => whnf)
   all_goals (try (show _ = _; simp only [wQ]))
   refine ⟨(⟨key, 4, day, ticket, coupon, status, locator, coupons, taxes, amount, frm, til⟩ : Request), hp, ?_, ?_⟩
   ·exact leL_rfl _
   (conv => whnf)
   (repeat' ((first
    | (with_reducible refine inl_intro ?_)
    | (exact absurd (by with_reducible assumption) hex)
    | ((with_reducible refine And.intro ?_ ?_); focus (first | with_reducible exact True.intro | ((with_reducible refine ⟨?_, ?_, ?_⟩) <;> first | (intro e he; rcases (by omega : e = 0 ∨ e = 1 ∨ e = 2 ∨ e = 3 ∨ e = 4 ∨ e = 5) with rfl | rfl | rfl | rfl | rfl | rfl <;> first | rfl | (exfalso; omega)) | (with_reducible assumption) | omega | ((with_reducible show growOk _ _); simp only [growOk, ty2, ty3, ty4, ty5, ty9, ty21, ty37, ty42, ty43, ty45, ty47, ty67, ty95, ty105, ty113, ty150, ty161, ty198, ty242, ty275, List.length_cons, List.length_nil]; first | omega | (refine ⟨?_, ?_⟩ <;> omega))) | omega | (simp only [growOk, ty2, ty3, ty4, ty5, ty9, ty21, ty37, ty42, ty43, ty45, ty47, ty67, ty95, ty105, ty113, ty150, ty161, ty198, ty242, ty275]; first | omega | (refine ⟨?_, ?_⟩ <;> omega))))
    | (conv => arg 2; (first | change eqI (runeAt _ _) _ | change decide (_ + runeW _ _ < _) | change ! (sB _)); simp only [List.toList_toArray, sB_eq, r0, r1, r2, r3, r4, r5, w0, w1, w2, w3, w4, w5, Nat.zero_add, Nat.reduceAdd, List.length_cons, List.length_nil])
    | (split <;> rename_i hh <;> (try simp only [wS] at hh) <;> (try simp (disch := omega) only [wT] at hh))
    | fail) <;> (conv => whnf)))
   all_goals (try (show _ = _; simp only [wQ]))
   refine ⟨⟨Nat.le_of_ble_eq_true rfl, fun e he => ?_⟩, ?_⟩
   ·change e < 5 at he
    rcases (by omega : e = 0 ∨ e = 1 ∨ e = 2 ∨ e = 3 ∨ e = 4) with rfl | rfl | rfl | rfl | rfl <;> rfl
   refine ⟨(([nameQ 4, key, Lib.itoa day, numText ticket, fareT amount], [32]) : List (List UInt8) × List UInt8), ⟨Nat.le_trans hjl (Nat.le_of_ble_eq_true rfl), Nat.le_of_ble_eq_true rfl⟩, ?_, ?_⟩
   ·(conv => whnf)
    (repeat' ((first | with_reducible exact True.intro | ((with_reducible refine And.intro ?_ ?_); focus (first | with_reducible rfl | omega | exact Nat.le_of_ble_eq_true rfl | rfl)) | with_reducible refine And.intro (?_ : leA _ _ _) ?_ | fail) <;> (conv => whnf)))
    all_goals (try simp only [wQ])
    refine ⟨fun h => h, fun e he => ?_⟩
    change e < 5 at he
    rcases (by omega : e = 0 ∨ e = 1 ∨ e = 2 ∨ e = 3 ∨ e = 4) with rfl | rfl | rfl | rfl | rfl <;> rfl
   (conv => whnf)
   all_goals (try (show _ = _; simp only [wQ]))
   all_goals exact hW.symm
  ·have hpar := reqParts_5 (r := ⟨key, 5, day, ticket, coupon, status, locator, coupons, taxes, amount, frm, til⟩) rfl
   have hfac := mayFacts_5 (r := ⟨key, 5, day, ticket, coupon, status, locator, coupons, taxes, amount, frm, til⟩) rfl hmay
   dsimp only at hpar hfac
   obtain ⟨r0, w0⟩ := ascii_at (l := [75, 68, 84, 65, 67, 88]) 0 (by decide) (by decide)
   obtain ⟨r1, w1⟩ := ascii_at (l := [75, 68, 84, 65, 67, 88]) 1 (by decide) (by decide)
   obtain ⟨r2, w2⟩ := ascii_at (l := [75, 68, 84, 65, 67, 88]) 2 (by decide) (by decide)
   obtain ⟨r3, w3⟩ := ascii_at (l := [75, 68, 84, 65, 67, 88]) 3 (by decide) (by decide)
   obtain ⟨r4, w4⟩ := ascii_at (l := [75, 68, 84, 65, 67, 88]) 4 (by decide) (by decide)
   obtain ⟨r5, w5⟩ := ascii_at (l := [75, 68, 84, 65, 67, 88]) 5 (by decide) (by decide)
   have hn : nameQ 5 = namesL.getD (5 - 1) [] := nameQ_at ⟨by decide, by decide⟩
   have hfl : flightsW coupons = Lib.join (coupons.map flightW) [44] := by unfold flightsW; rfl
   have hE : reqParts ⟨key, 5, day, ticket, coupon, status, locator, coupons, taxes, amount, frm, til⟩ = [nameQ 5, key, Lib.itoa day, numText ticket, fareT amount, Lib.join (coupons.map flightW) [44], taxesW taxes] := by rw [hpar, hn, hfl]; rfl
   rw [hE] at hjl hW
   have hc1 : 0 < coupons.length ∧ coupons.length ≤ 1000000 := by have := coupB_facts hfac.2.2.2.2.1; omega
   have hx1 : taxes.length ≤ 1000000 := by have := taxesB_len hfac.2.2.2.2.2; omega
   (conv => whnf)
   all_goals (try (show _ = _; simp only [wQ]))
   refine ⟨(⟨key, 5, day, ticket, coupon, status, locator, coupons, taxes, amount, frm, til⟩ : Request), hp, ?_, ?_⟩
   ·exact leL_rfl _
   (conv => whnf)
   (repeat' ((first
    | (with_reducible refine inl_intro ?_)
    | (exact absurd (by with_reducible assumption) hex)
    | ((with_reducible refine And.intro ?_ ?_); focus (first | with_reducible exact True.intro | ((with_reducible refine ⟨?_, ?_, ?_⟩) <;> first | (intro e he; rcases (by omega : e = 0 ∨ e = 1 ∨ e = 2 ∨ e = 3 ∨ e = 4 ∨ e = 5) with rfl | rfl | rfl | rfl | rfl | rfl <;> first | rfl | (exfalso; omega)) | (with_reducible assumption) | omega | ((with_reducible show growOk _ _); simp only [growOk, ty2, ty3, ty4, ty5, ty9, ty21, ty37, ty42, ty43, ty45, ty47, ty67, ty95, ty105, ty113, ty150, ty161, ty198, ty242, ty275, List.length_cons, List.length_nil]; first | omega | (refine ⟨?_, ?_⟩ <;> omega))) | omega | (simp only [growOk, ty2, ty3, ty4, ty5, ty9, ty21, ty37, ty42, ty43, ty45, ty47, ty67, ty95, ty105, ty113, ty150, ty161, ty198, ty242, ty275]; first | omega | (refine ⟨?_, ?_⟩ <;> omega))))
    | (conv => arg 2; (first | change eqI (runeAt _ _) _ | change decide (_ + runeW _ _ < _) | change ! (sB _)); simp only [List.toList_toArray, sB_eq, r0, r1, r2, r3, r4, r5, w0, w1, w2, w3, w4, w5, Nat.zero_add, Nat.reduceAdd, List.length_cons, List.length_nil])
    | (split <;> rename_i hh <;> (try simp only [wS] at hh) <;> (try simp (disch := omega) only [wT] at hh))
    | fail) <;> (conv => whnf)))
   all_goals (try (show _ = _; simp only [wQ]))
   refine ⟨coupons, hc1, ?_, ?_⟩
   ·exact leL_rfl _
   (conv => whnf)
   (repeat' ((first
    | (with_reducible refine inl_intro ?_)
    | ((with_reducible refine And.intro ?_ ?_); focus (first | ((with_reducible refine ⟨?_, ?_, ?_⟩) <;> first | (intro e he; rcases (by omega : e = 0 ∨ e = 1 ∨ e = 2 ∨ e = 3 ∨ e = 4 ∨ e = 5) with rfl | rfl | rfl | rfl | rfl | rfl <;> first | rfl | (exfalso; omega)) | (with_reducible assumption) | omega | ((with_reducible show growOk _ _); simp only [growOk, ty2, ty3, ty4, ty5, ty9, ty21, ty37, ty42, ty43, ty45, ty47, ty67, ty95, ty105, ty113, ty150, ty161, ty198, ty242, ty275, List.length_cons, List.length_nil]; first | omega | (refine ⟨?_, ?_⟩ <;> omega))) | omega))
    | (conv => arg 2; (first | change eqI (runeAt _ _) _ | change decide (_ + runeW _ _ < _)); simp only [List.toList_toArray, sB_eq, r0, r1, r2, r3, r4, r5, w0, w1, w2, w3, w4, w5, Nat.zero_add, Nat.reduceAdd, List.length_cons, List.length_nil])
    | fail) <;> (conv => whnf)))
   all_goals (try (show _ = _; simp only [wQ]))
   refine ⟨taxes, hx1, ?_, ?_⟩
   ·exact leL_rfl _
   (conv => whnf)
   (repeat' ((first
    | ((with_reducible refine And.intro ?_ ?_); focus (first | ((with_reducible refine ⟨?_, ?_, ?_⟩) <;> first | (intro e he; rcases (by omega : e = 0 ∨ e = 1 ∨ e = 2 ∨ e = 3 ∨ e = 4 ∨ e = 5) with rfl | rfl | rfl | rfl | rfl | rfl <;> first | rfl | (exfalso; omega)) | (with_reducible assumption) | omega | ((with_reducible show growOk _ _); simp only [growOk, ty2, ty3, ty4, ty5, ty9, ty21, ty37, ty42, ty43, ty45, ty47, ty67, ty95, ty105, ty113, ty150, ty161, ty198, ty242, ty275, List.length_cons, List.length_nil]; first | omega | (refine ⟨?_, ?_⟩ <;> omega))) | omega))
    | (conv => arg 2; change decide (_ + runeW _ _ < _); simp only [List.toList_toArray, sB_eq, r0, r1, r2, r3, r4, r5, w0, w1, w2, w3, w4, w5, Nat.zero_add, Nat.reduceAdd, List.length_cons, List.length_nil])
    | fail) <;> (conv => whnf)))
   all_goals (try (show _ = _; simp only [wQ]))
   refine ⟨⟨Nat.le_of_ble_eq_true rfl, fun e he => ?_⟩, ?_⟩
   ·change e < 7 at he
    rcases (by omega : e = 0 ∨ e = 1 ∨ e = 2 ∨ e = 3 ∨ e = 4 ∨ e = 5 ∨ e = 6) with rfl | rfl | rfl | rfl | rfl | rfl | rfl <;> rfl
   refine ⟨(([nameQ 5, key, Lib.itoa day, numText ticket, fareT amount, Lib.join (coupons.map flightW) [44], taxesW taxes], [32]) : List (List UInt8) × List UInt8), ⟨Nat.le_trans hjl (Nat.le_of_ble_eq_true rfl), Nat.le_of_ble_eq_true rfl⟩, ?_, ?_⟩
   ·(conv => whnf)
    (repeat' ((first | with_reducible exact True.intro | ((with_reducible refine And.intro ?_ ?_); focus (first | with_reducible rfl | omega | exact Nat.le_of_ble_eq_true rfl | rfl)) | with_reducible refine And.intro (?_ : leA _ _ _) ?_ | fail) <;> (conv => whnf)))
    all_goals (try simp only [wQ])
    refine ⟨fun h => h, fun e he => ?_⟩
    change e < 7 at he
    rcases (by omega : e = 0 ∨ e = 1 ∨ e = 2 ∨ e = 3 ∨ e = 4 ∨ e = 5 ∨ e = 6) with rfl | rfl | rfl | rfl | rfl | rfl | rfl <;> rfl
   (conv => whnf)
   all_goals (try (show _ = _; simp only [wQ]))
   all_goals exact hW.symm
  ·have hpar := reqParts_6 (r := ⟨key, 6, day, ticket, coupon, status, locator, coupons, taxes, amount, frm, til⟩) rfl
   have hfac := mayFacts_6 (r := ⟨key, 6, day, ticket, coupon, status, locator, coupons, taxes, amount, frm, til⟩) rfl hmay
   dsimp only at hpar hfac
   obtain ⟨r0, w0⟩ := ascii_at (l := [75, 68, 84, 78]) 0 (by decide) (by decide)
   obtain ⟨r1, w1⟩ := ascii_at (l := [75, 68, 84, 78]) 1 (by decide) (by decide)
   obtain ⟨r2, w2⟩ := ascii_at (l := [75, 68, 84, 78]) 2 (by decide) (by decide)
   obtain ⟨r3, w3⟩ := ascii_at (l := [75, 68, 84, 78]) 3 (by decide) (by decide)
   have r4 := True.intro
   have w4 := True.intro
   have r5 := True.intro
   have w5 := True.intro
   have hn : nameQ 6 = namesL.getD (6 - 1) [] := nameQ_at ⟨by decide, by decide⟩
   have hE : reqParts ⟨key, 6, day, ticket, coupon, status, locator, coupons, taxes, amount, frm, til⟩ = [nameQ 6, key, Lib.itoa day, numText ticket, Lib.itoa coupon] := by rw [hpar, hn]; rfl
   rw [hE] at hjl hW
   (conv => whnf)
   all_goals (try (show _ = _; simp only [wQ]))
   refine ⟨(⟨key, 6, day, ticket, coupon, status, locator, coupons, taxes, amount, frm, til⟩ : Request), hp, ?_, ?_⟩
   ·exact leL_rfl _
   (conv => whnf)
   (repeat' ((first
    | (with_reducible refine inl_intro ?_)
    | (exact absurd (by with_reducible assumption) hex)
    | ((with_reducible refine And.intro ?_ ?_); focus (first | with_reducible exact True.intro | ((with_reducible refine ⟨?_, ?_, ?_⟩) <;> first | (intro e he; rcases (by omega : e = 0 ∨ e = 1 ∨ e = 2 ∨ e = 3 ∨ e = 4 ∨ e = 5) with rfl | rfl | rfl | rfl | rfl | rfl <;> first | rfl | (exfalso; omega)) | (with_reducible assumption) | omega | ((with_reducible show growOk _ _); simp only [growOk, ty2, ty3, ty4, ty5, ty9, ty21, ty37, ty42, ty43, ty45, ty47, ty67, ty95, ty105, ty113, ty150, ty161, ty198, ty242, ty275, List.length_cons, List.length_nil]; first | omega | (refine ⟨?_, ?_⟩ <;> omega))) | omega | (simp only [growOk, ty2, ty3, ty4, ty5, ty9, ty21, ty37, ty42, ty43, ty45, ty47, ty67, ty95, ty105, ty113, ty150, ty161, ty198, ty242, ty275]; first | omega | (refine ⟨?_, ?_⟩ <;> omega))))
    | (conv => arg 2; (first | change eqI (runeAt _ _) _ | change decide (_ + runeW _ _ < _) | change ! (sB _)); simp only [List.toList_toArray, sB_eq, r0, r1, r2, r3, r4, r5, w0, w1, w2, w3, w4, w5, Nat.zero_add, Nat.reduceAdd, List.length_cons, List.length_nil])
    | (split <;> rename_i hh <;> (try simp only [wS] at hh) <;> (try simp (disch := omega) only [wT] at hh))
    | fail) <;> (conv => whnf)))
   all_goals (try (show _ = _; simp only [wQ]))
   refine ⟨⟨Nat.le_of_ble_eq_true rfl, fun e he => ?_⟩, ?_⟩
   ·change e < 5 at he
    rcases (by omega : e = 0 ∨ e = 1 ∨ e = 2 ∨ e = 3 ∨ e = 4) with rfl | rfl | rfl | rfl | rfl <;> rfl
   refine ⟨(([nameQ 6, key, Lib.itoa day, numText ticket, Lib.itoa coupon], [32]) : List (List UInt8) × List UInt8), ⟨Nat.le_trans hjl (Nat.le_of_ble_eq_true rfl), Nat.le_of_ble_eq_true rfl⟩, ?_, ?_⟩
   ·(conv => whnf)
    (repeat' ((first | with_reducible exact True.intro | ((with_reducible refine And.intro ?_ ?_); focus (first | with_reducible rfl | omega | exact Nat.le_of_ble_eq_true rfl | rfl)) | with_reducible refine And.intro (?_ : leA _ _ _) ?_ | fail) <;> (conv => whnf)))
    all_goals (try simp only [wQ])
    refine ⟨fun h => h, fun e he => ?_⟩
    change e < 5 at he
    rcases (by omega : e = 0 ∨ e = 1 ∨ e = 2 ∨ e = 3 ∨ e = 4) with rfl | rfl | rfl | rfl | rfl <;> rfl
   (conv => whnf)
   all_goals (try (show _ = _; simp only [wQ]))
   all_goals exact hW.symm
  ·have hpar := reqParts_7 (r := ⟨key, 7, day, ticket, coupon, status, locator, coupons, taxes, amount, frm, til⟩) rfl
   have hfac := mayFacts_7 (r := ⟨key, 7, day, ticket, coupon, status, locator, coupons, taxes, amount, frm, til⟩) rfl hmay
   dsimp only at hpar hfac
   obtain ⟨r0, w0⟩ := ascii_at (l := [75, 68, 84, 78]) 0 (by decide) (by decide)
   obtain ⟨r1, w1⟩ := ascii_at (l := [75, 68, 84, 78]) 1 (by decide) (by decide)
   obtain ⟨r2, w2⟩ := ascii_at (l := [75, 68, 84, 78]) 2 (by decide) (by decide)
   obtain ⟨r3, w3⟩ := ascii_at (l := [75, 68, 84, 78]) 3 (by decide) (by decide)
   have r4 := True.intro
   have w4 := True.intro
   have r5 := True.intro
   have w5 := True.intro
   have hn : nameQ 7 = namesL.getD (7 - 1) [] := nameQ_at ⟨by decide, by decide⟩
   have hE : reqParts ⟨key, 7, day, ticket, coupon, status, locator, coupons, taxes, amount, frm, til⟩ = [nameQ 7, key, Lib.itoa day, numText ticket, Lib.itoa coupon] := by rw [hpar, hn]; rfl
   rw [hE] at hjl hW
   (conv => whnf)
   all_goals (try (show _ = _; simp only [wQ]))
   refine ⟨(⟨key, 7, day, ticket, coupon, status, locator, coupons, taxes, amount, frm, til⟩ : Request), hp, ?_, ?_⟩
   ·exact leL_rfl _
   (conv => whnf)
   (repeat' ((first
    | (with_reducible refine inl_intro ?_)
    | (exact absurd (by with_reducible assumption) hex)
    | ((with_reducible refine And.intro ?_ ?_); focus (first | with_reducible exact True.intro | ((with_reducible refine ⟨?_, ?_, ?_⟩) <;> first | (intro e he; rcases (by omega : e = 0 ∨ e = 1 ∨ e = 2 ∨ e = 3 ∨ e = 4 ∨ e = 5) with rfl | rfl | rfl | rfl | rfl | rfl <;> first | rfl | (exfalso; omega)) | (with_reducible assumption) | omega | ((with_reducible show growOk _ _); simp only [growOk, ty2, ty3, ty4, ty5, ty9, ty21, ty37, ty42, ty43, ty45, ty47, ty67, ty95, ty105, ty113, ty150, ty161, ty198, ty242, ty275, List.length_cons, List.length_nil]; first | omega | (refine ⟨?_, ?_⟩ <;> omega))) | omega | (simp only [growOk, ty2, ty3, ty4, ty5, ty9, ty21, ty37, ty42, ty43, ty45, ty47, ty67, ty95, ty105, ty113, ty150, ty161, ty198, ty242, ty275]; first | omega | (refine ⟨?_, ?_⟩ <;> omega))))
    | (conv => arg 2; (first | change eqI (runeAt _ _) _ | change decide (_ + runeW _ _ < _) | change ! (sB _)); simp only [List.toList_toArray, sB_eq, r0, r1, r2, r3, r4, r5, w0, w1, w2, w3, w4, w5, Nat.zero_add, Nat.reduceAdd, List.length_cons, List.length_nil])
    | (split <;> rename_i hh <;> (try simp only [wS] at hh) <;> (try simp (disch := omega) only [wT] at hh))
    | fail) <;> (conv => whnf)))
   all_goals (try (show _ = _; simp only [wQ]))
   refine ⟨⟨Nat.le_of_ble_eq_true rfl, fun e he => ?_⟩, ?_⟩
   ·change e < 5 at he
    rcases (by omega : e = 0 ∨ e = 1 ∨ e = 2 ∨ e = 3 ∨ e = 4) with rfl | rfl | rfl | rfl | rfl <;> rfl
   refine ⟨(([nameQ 7, key, Lib.itoa day, numText ticket, Lib.itoa coupon], [32]) : List (List UInt8) × List UInt8), ⟨Nat.le_trans hjl (Nat.le_of_ble_eq_true rfl), Nat.le_of_ble_eq_true rfl⟩, ?_, ?_⟩
   ·(conv => whnf)
    (repeat' ((first | with_reducible exact True.intro | ((with_reducible refine And.intro ?_ ?_); focus (first | with_reducible rfl | omega | exact Nat.le_of_ble_eq_true rfl | rfl)) | with_reducible refine And.intro (?_ : leA _ _ _) ?_ | fail) <;> (conv => whnf)))
    all_goals (try simp only [wQ])
    refine ⟨fun h => h, fun e he => ?_⟩
    change e < 5 at he
    rcases (by omega : e = 0 ∨ e = 1 ∨ e = 2 ∨ e = 3 ∨ e = 4) with rfl | rfl | rfl | rfl | rfl <;> rfl
   (conv => whnf)
   all_goals (try (show _ = _; simp only [wQ]))
   all_goals exact hW.symm
  ·have hpar := reqParts_8 (r := ⟨key, 8, day, ticket, coupon, status, locator, coupons, taxes, amount, frm, til⟩) rfl
   have hfac := mayFacts_8 (r := ⟨key, 8, day, ticket, coupon, status, locator, coupons, taxes, amount, frm, til⟩) rfl hmay
   dsimp only at hpar hfac
   obtain ⟨r0, w0⟩ := ascii_at (l := [84]) 0 (by decide) (by decide)
   have r1 := True.intro
   have w1 := True.intro
   have r2 := True.intro
   have w2 := True.intro
   have r3 := True.intro
   have w3 := True.intro
   have r4 := True.intro
   have w4 := True.intro
   have r5 := True.intro
   have w5 := True.intro
   have hn : nameQ 8 = namesL.getD (8 - 1) [] := nameQ_at ⟨by decide, by decide⟩
   have hE : reqParts ⟨key, 8, day, ticket, coupon, status, locator, coupons, taxes, amount, frm, til⟩ = [nameQ 8, numText ticket] := by rw [hpar, hn]; rfl
   rw [hE] at hjl hW
   (conv => whnf)
   all_goals (try (show _ = _; simp only [wQ]))
   refine ⟨(⟨key, 8, day, ticket, coupon, status, locator, coupons, taxes, amount, frm, til⟩ : Request), hp, ?_, ?_⟩
   ·exact leL_rfl _
   (conv => whnf)
   (repeat' ((first
    | (with_reducible refine inl_intro ?_)
    | (exact absurd (by with_reducible assumption) hex)
    | ((with_reducible refine And.intro ?_ ?_); focus (first | with_reducible exact True.intro | omega | (simp only [growOk, ty2, ty3, ty4, ty5, ty9, ty21, ty37, ty42, ty43, ty45, ty47, ty67, ty95, ty105, ty113, ty150, ty161, ty198, ty242, ty275]; first | omega | (refine ⟨?_, ?_⟩ <;> omega))))
    | (conv => arg 2; (first | change eqI (runeAt _ _) _ | change decide (_ + runeW _ _ < _) | change ! (sB _)); simp only [List.toList_toArray, sB_eq, r0, r1, r2, r3, r4, r5, w0, w1, w2, w3, w4, w5, Nat.zero_add, Nat.reduceAdd, List.length_cons, List.length_nil])
    | (split <;> rename_i hh <;> (try simp only [wS] at hh) <;> (try simp (disch := omega) only [wT] at hh))
    | fail) <;> (conv => whnf)))
   all_goals (try (show _ = _; simp only [wQ]))
   refine ⟨⟨Nat.le_of_ble_eq_true rfl, fun e he => ?_⟩, ?_⟩
   ·change e < 2 at he
    rcases (by omega : e = 0 ∨ e = 1) with rfl | rfl <;> rfl
   refine ⟨(([nameQ 8, numText ticket], [32]) : List (List UInt8) × List UInt8), ⟨Nat.le_trans hjl (Nat.le_of_ble_eq_true rfl), Nat.le_of_ble_eq_true rfl⟩, ?_, ?_⟩
   ·(conv => whnf)
    (repeat' ((first | with_reducible exact True.intro | ((with_reducible refine And.intro ?_ ?_); focus (first | with_reducible rfl | omega | exact Nat.le_of_ble_eq_true rfl | rfl)) | with_reducible refine And.intro (?_ : leA _ _ _) ?_ | fail) <;> (conv => whnf)))
    all_goals (try simp only [wQ])
    refine ⟨fun h => h, fun e he => ?_⟩
    change e < 2 at he
    rcases (by omega : e = 0 ∨ e = 1) with rfl | rfl <;> rfl
   (conv => whnf)
   all_goals (try (show _ = _; simp only [wQ]))
   all_goals exact hW.symm
  ·have hpar := reqParts_9 (r := ⟨key, 9, day, ticket, coupon, status, locator, coupons, taxes, amount, frm, til⟩) rfl
   have hfac := mayFacts_9 (r := ⟨key, 9, day, ticket, coupon, status, locator, coupons, taxes, amount, frm, til⟩) rfl hmay
   dsimp only at hpar hfac
   obtain ⟨r0, w0⟩ := ascii_at (l := [76]) 0 (by decide) (by decide)
   have r1 := True.intro
   have w1 := True.intro
   have r2 := True.intro
   have w2 := True.intro
   have r3 := True.intro
   have w3 := True.intro
   have r4 := True.intro
   have w4 := True.intro
   have r5 := True.intro
   have w5 := True.intro
   have hn : nameQ 9 = namesL.getD (9 - 1) [] := nameQ_at ⟨by decide, by decide⟩
   have hE : reqParts ⟨key, 9, day, ticket, coupon, status, locator, coupons, taxes, amount, frm, til⟩ = [nameQ 9, locator] := by rw [hpar, hn]; rfl
   rw [hE] at hjl hW
   (conv => whnf)
   all_goals (try (show _ = _; simp only [wQ]))
   refine ⟨(⟨key, 9, day, ticket, coupon, status, locator, coupons, taxes, amount, frm, til⟩ : Request), hp, ?_, ?_⟩
   ·exact leL_rfl _
   (conv => whnf)
   (repeat' ((first
    | (with_reducible refine inl_intro ?_)
    | (exact absurd (by with_reducible assumption) hex)
    | ((with_reducible refine And.intro ?_ ?_); focus (first | with_reducible exact True.intro | omega | (simp only [growOk, ty2, ty3, ty4, ty5, ty9, ty21, ty37, ty42, ty43, ty45, ty47, ty67, ty95, ty105, ty113, ty150, ty161, ty198, ty242, ty275]; first | omega | (refine ⟨?_, ?_⟩ <;> omega))))
    | (conv => arg 2; (first | change eqI (runeAt _ _) _ | change decide (_ + runeW _ _ < _) | change ! (sB _)); simp only [List.toList_toArray, sB_eq, r0, r1, r2, r3, r4, r5, w0, w1, w2, w3, w4, w5, Nat.zero_add, Nat.reduceAdd, List.length_cons, List.length_nil])
    | (split <;> rename_i hh <;> (try simp only [wS] at hh) <;> (try simp (disch := omega) only [wT] at hh))
    | fail) <;> (conv => whnf)))
   all_goals (try (show _ = _; simp only [wQ]))
   refine ⟨⟨Nat.le_of_ble_eq_true rfl, fun e he => ?_⟩, ?_⟩
   ·change e < 2 at he
    rcases (by omega : e = 0 ∨ e = 1) with rfl | rfl <;> rfl
   refine ⟨(([nameQ 9, locator], [32]) : List (List UInt8) × List UInt8), ⟨Nat.le_trans hjl (Nat.le_of_ble_eq_true rfl), Nat.le_of_ble_eq_true rfl⟩, ?_, ?_⟩
   ·(conv => whnf)
    (repeat' ((first | with_reducible exact True.intro | ((with_reducible refine And.intro ?_ ?_); focus (first | with_reducible rfl | omega | exact Nat.le_of_ble_eq_true rfl | rfl)) | with_reducible refine And.intro (?_ : leA _ _ _) ?_ | fail) <;> (conv => whnf)))
    all_goals (try simp only [wQ])
    refine ⟨fun h => h, fun e he => ?_⟩
    change e < 2 at he
    rcases (by omega : e = 0 ∨ e = 1) with rfl | rfl <;> rfl
   (conv => whnf)
   all_goals (try (show _ = _; simp only [wQ]))
   all_goals exact hW.symm
  ·have hpar := reqParts_10 (r := ⟨key, 10, day, ticket, coupon, status, locator, coupons, taxes, amount, frm, til⟩) rfl
   have hfac := mayFacts_10 (r := ⟨key, 10, day, ticket, coupon, status, locator, coupons, taxes, amount, frm, til⟩) rfl hmay
   dsimp only at hpar hfac
   obtain ⟨r0, w0⟩ := ascii_at (l := [70, 85]) 0 (by decide) (by decide)
   obtain ⟨r1, w1⟩ := ascii_at (l := [70, 85]) 1 (by decide) (by decide)
   have r2 := True.intro
   have w2 := True.intro
   have r3 := True.intro
   have w3 := True.intro
   have r4 := True.intro
   have w4 := True.intro
   have r5 := True.intro
   have w5 := True.intro
   have hn : nameQ 10 = namesL.getD (10 - 1) [] := nameQ_at ⟨by decide, by decide⟩
   have hE : reqParts ⟨key, 10, day, ticket, coupon, status, locator, coupons, taxes, amount, frm, til⟩ = [nameQ 10, Lib.itoa frm, Lib.itoa til] := by rw [hpar, hn]; rfl
   rw [hE] at hjl hW
   (conv => whnf)
   all_goals (try (show _ = _; simp only [wQ]))
   refine ⟨(⟨key, 10, day, ticket, coupon, status, locator, coupons, taxes, amount, frm, til⟩ : Request), hp, ?_, ?_⟩
   ·exact leL_rfl _
   (conv => whnf)
   (repeat' ((first
    | (with_reducible refine inl_intro ?_)
    | (exact absurd (by with_reducible assumption) hex)
    | ((with_reducible refine And.intro ?_ ?_); focus (first | with_reducible exact True.intro | ((with_reducible refine ⟨?_, ?_, ?_⟩) <;> first | (intro e he; rcases (by omega : e = 0 ∨ e = 1 ∨ e = 2 ∨ e = 3 ∨ e = 4 ∨ e = 5) with rfl | rfl | rfl | rfl | rfl | rfl <;> first | rfl | (exfalso; omega)) | (with_reducible assumption) | omega | ((with_reducible show growOk _ _); simp only [growOk, ty2, ty3, ty4, ty5, ty9, ty21, ty37, ty42, ty43, ty45, ty47, ty67, ty95, ty105, ty113, ty150, ty161, ty198, ty242, ty275, List.length_cons, List.length_nil]; first | omega | (refine ⟨?_, ?_⟩ <;> omega))) | omega | (simp only [growOk, ty2, ty3, ty4, ty5, ty9, ty21, ty37, ty42, ty43, ty45, ty47, ty67, ty95, ty105, ty113, ty150, ty161, ty198, ty242, ty275]; first | omega | (refine ⟨?_, ?_⟩ <;> omega))))
    | (conv => arg 2; (first | change eqI (runeAt _ _) _ | change decide (_ + runeW _ _ < _) | change ! (sB _)); simp only [List.toList_toArray, sB_eq, r0, r1, r2, r3, r4, r5, w0, w1, w2, w3, w4, w5, Nat.zero_add, Nat.reduceAdd, List.length_cons, List.length_nil])
    | (split <;> rename_i hh <;> (try simp only [wS] at hh) <;> (try simp (disch := omega) only [wT] at hh))
    | fail) <;> (conv => whnf)))
   all_goals (try (show _ = _; simp only [wQ]))
   refine ⟨⟨Nat.le_of_ble_eq_true rfl, fun e he => ?_⟩, ?_⟩
   ·change e < 3 at he
    rcases (by omega : e = 0 ∨ e = 1 ∨ e = 2) with rfl | rfl | rfl <;> rfl
   refine ⟨(([nameQ 10, Lib.itoa frm, Lib.itoa til], [32]) : List (List UInt8) × List UInt8), ⟨Nat.le_trans hjl (Nat.le_of_ble_eq_true rfl), Nat.le_of_ble_eq_true rfl⟩, ?_, ?_⟩
   ·(conv => whnf)
    (repeat' ((first | with_reducible exact True.intro | ((with_reducible refine And.intro ?_ ?_); focus (first | with_reducible rfl | omega | exact Nat.le_of_ble_eq_true rfl | rfl)) | with_reducible refine And.intro (?_ : leA _ _ _) ?_ | fail) <;> (conv => whnf)))
    all_goals (try simp only [wQ])
    refine ⟨fun h => h, fun e he => ?_⟩
    change e < 3 at he
    rcases (by omega : e = 0 ∨ e = 1 ∨ e = 2) with rfl | rfl | rfl <;> rfl
   (conv => whnf)
   all_goals (try (show _ = _; simp only [wQ]))
   all_goals exact hW.symm
 ·have hm : mayReqB ⟨key, kind, day, ticket, coupon, status, locator, coupons, taxes, amount, frm, til⟩ = false := by simpa using hmay
  have hex : ¬ mayReqB ⟨key, kind, day, ticket, coupon, status, locator, coupons, taxes, amount, frm, til⟩ = true := hmay
  clear hf
  (conv => whnf)
  all_goals (try (show _ = _; simp only [wQ]))
  refine ⟨(⟨key, kind, day, ticket, coupon, status, locator, coupons, taxes, amount, frm, til⟩ : Request), hp, ?_, ?_⟩
  ·exact leL_rfl _
  (conv => whnf)
  (repeat' ((first
   | (with_reducible refine inl_intro ?_)
   | (exact absurd (by with_reducible assumption) hex)
   | (split <;> rename_i hh <;> (try simp only [wS] at hh) <;> (try simp (disch := omega) only [wT] at hh))
   | fail) <;> (conv => whnf)))
  all_goals (try (show _ = _; simp only [wQ]))
  rw [reqW_no hm]
end
end Go.Vc.Z
namespace Go.Vc.Z
open Go Go.Vc Go.Proofs Go.RowKit Go.Pl Go.Lib
def r0 : Request := ⟨[107, 55], 1, 3, 0, 0, 0, [65, 66, 67, 50, 51, 52], [c7], [], 0, 0, 0⟩
theorem may_r0 : mayReqB r0 = true := by
 rw [mayReq_1 rfl]
 have p1 : partB r0 75 = true := by unfold partB keyB; decide
 have p2 : partB r0 68 = true := by unfold partB dayB; decide
 have p3 : partB r0 76 = true := by unfold partB locOk; decide
 have p4 : partB r0 74 = true := by unfold partB coupB plainB dayB someB; decide
 have p5 : partB r0 88 = true := by unfold partB taxesB; decide
 have p6 : sameR r0 (onlyR r0) = true := sameR_iff.2 rfl
 rw [p1, p2, p3, p4, p5, p6]; rfl
theorem lineI_r0 : reqW r0 = lineI := by
 rw [reqW_1 rfl may_r0]
 show [105, 115, 115, 117, 101] ++ [32] ++ [107, 55] ++ [32] ++ Lib.itoa 3 ++ [32] ++ [65, 66, 67, 50, 51, 52] ++ [32] ++ flightsW [c7] ++ [32] ++ taxesW [] = lineI
 rw [show flightsW [c7] = flightW ⟨7, 9, 1000, 0, 0, 0⟩ by unfold flightsW; simp [Lib.join, c7], flightW_c7, taxesW_nil, itoa_one (n := 3) (by decide) (by decide)]; rfl
theorem short_r0 : shortR r0 := ⟨by decide, by decide⟩
theorem line_0 : codeW 0 ++ [32] ++ codeW 6 ++ [32] ++ Lib.itoa 0 = [111, 107, 32, 110, 111, 110, 101, 32, 48] := by
 unfold codeW
 rw [show Lib.itoa 0 = [48] from itoa_one (n := 0) (by decide) (by decide)]
 rfl
noncomputable def partsE : List (List UInt8) := [[100, 111], Lib.itoa 0, reqW r0]
theorem jE_eq : Lib.join partsE [32] = [100, 111, 32, 48, 32] ++ lineI := by
 unfold partsE; rw [itoa_one (n := 0) (by decide) (by decide), lineI_r0]; rfl
theorem jE_len : (Lib.join partsE [32]).length ≤ 140737488355328 := by rw [jE_eq]; decide
noncomputable section
set_option maxRecDepth 100000
set_option linter.unusedSimpArgs false
set_option linter.unusedVariables false
attribute [local irreducible] inK Utf8.decode Utf8.encode Lib.itoa Pl.worth Pl.allDig
attribute [local irreducible] Lib.join
def line0L : List (List UInt8) := [[111, 107, 32, 110, 111, 110, 101, 32, 48]]
def pcLines0 : PC := PC.of (fun _ : Unit => [.agg told0.enc]) (fun _ => True) (fun _ => slS line0L)
def D_lines0 : PT := tabD [(16, pcCode), (46, pcItoaS)]
theorem d_lines0 {W : World} (hW : Tabs W) : PTOk (Fw W) Tryz.prog D_lines0 := (tabD_cons Tryz.call16 (g_script_Code hW) (tabD_cons Tryz.call46 (g_script_digits hW) tabD_nil))
def C_lines0 : FuncId → Option Ctr := tabC D_lines0 []
theorem c_lines0 {W : World} (hW : Tabs W) : CtrOk (Fw W) Tryz.prog C_lines0 := (tabC_nil (d_lines0 hW))
def I1_lines0 : List (FuncId × Ctr) := (109, inl TY C_lines0 D_lines0 (fun _ => false) (fun _ _ _ => none) Tryz.f109) :: []
def C1_lines0 : FuncId → Option Ctr := tabC D_lines0 I1_lines0
theorem c1_lines0 {W : World} (hW : Tabs W) : CtrOk (Fw W) Tryz.prog C1_lines0 := tabC_cons Tryz.call109 (good_inl rfl tyOk (d_lines0 hW) (c_lines0 hW) Tryz.func109 (fun _ _ _ => none)) (c_lines0 hW)
def I2_lines0 : List (FuncId × Ctr) := (106, inl TY C1_lines0 D_lines0 (fun _ => false) (fun _ _ _ => none) Tryz.f106) :: I1_lines0
def C2_lines0 : FuncId → Option Ctr := tabC D_lines0 I2_lines0
theorem c2_lines0 {W : World} (hW : Tabs W) : CtrOk (Fw W) Tryz.prog C2_lines0 := tabC_cons Tryz.call106 (good_inl rfl tyOk (d_lines0 hW) (c1_lines0 hW) Tryz.func106 (fun _ _ _ => none)) (c1_lines0 hW)
def LI3_lines0 : List AV → List Blk → Nat → Option LR := fun _ _ i => cond (Nat.beq i 2) (some (.unroll 1)) none
def I3_lines0 : List (FuncId × Ctr) := (187, inl TY C2_lines0 D_lines0 (fun _ => false) (LI3_lines0) Tryz.f187) :: I2_lines0
def C3_lines0 : FuncId → Option Ctr := tabC D_lines0 I3_lines0
theorem c3_lines0 {W : World} (hW : Tabs W) : CtrOk (Fw W) Tryz.prog C3_lines0 := tabC_cons Tryz.call187 (good_inl rfl tyOk (d_lines0 hW) (c2_lines0 hW) Tryz.func187 (LI3_lines0)) (c2_lines0 hW)
def I4_lines0 : List (FuncId × Ctr) := (108, inl TY C3_lines0 D_lines0 (fun _ => false) (fun _ _ _ => none) Tryz.f108) :: I3_lines0
def C4_lines0 : FuncId → Option Ctr := tabC D_lines0 I4_lines0
theorem c4_lines0 {W : World} (hW : Tabs W) : CtrOk (Fw W) Tryz.prog C4_lines0 := tabC_cons Tryz.call108 (good_inl rfl tyOk (d_lines0 hW) (c3_lines0 hW) Tryz.func108 (fun _ _ _ => none)) (c3_lines0 hW)
def LI5_lines0 : List AV → List Blk → Nat → Option LR := fun _ _ i => cond (Nat.beq i 4) (some (.unroll 1)) (cond (Nat.beq i 10) (some (.unroll 1)) none)
def I5_lines0 : List (FuncId × Ctr) := (45, inl TY C4_lines0 D_lines0 (fun _ => false) (LI5_lines0) Tryz.f45) :: I4_lines0
def C5_lines0 : FuncId → Option Ctr := tabC D_lines0 I5_lines0
theorem c5_lines0 {W : World} (hW : Tabs W) : CtrOk (Fw W) Tryz.prog C5_lines0 := tabC_cons Tryz.call45 (good_inl rfl tyOk (d_lines0 hW) (c4_lines0 hW) Tryz.func45 (LI5_lines0)) (c4_lines0 hW)
def L_lines0 : Unit → Nat → Option LR := fun t i => cond (Nat.beq i 5) (some (.unroll 1)) (cond (Nat.beq i 10) (some (.unroll 1)) (cond (Nat.beq i 15) (some (.unroll 1)) (none)))
set_option maxHeartbeats 2000000 in
theorem g_lines0 {W : World} (hW : Tabs W) : GoodP (Fw W) Tryz.prog 13 pcLines0 := by
 have hD := d_lines0 hW
 have hC0 : ∀ t : Unit, CtrOk (Fw W) Tryz.prog C5_lines0 := fun t => (c5_lines0 hW)
 refine goodP_ofC (D := D_lines0) (C := fun t => C5_lines0) (wr := (fun _ => false)) rfl tyOk hD hC0 Tryz.func13 (L_lines0) (fun _ => rfl) ?_
 intro t hf hp
 clear hf
 have c0 : codeW 0 = [111, 107] := by unfold codeW; rfl
 have c6 : codeW 6 = [110, 111, 110, 101] := by unfold codeW; rfl
 have i0 : Lib.itoa 0 = [48] := itoa_one (n := 0) (by decide) (by decide)
 have k1 : (Lib.itoa told0.came).length ≤ 20 := by rw [show Lib.itoa told0.came = [48] from i0]; decide
 have k2 := codeW_len told0.code
 have k3 := codeW_len told0.answer.code
 (conv => whnf)
 (repeat' ((first
  | (with_reducible refine inl_intro ?_)
  | ((with_reducible refine And.intro ?_ ?_); focus (first | with_reducible exact True.intro | ((with_reducible show okB _ _ _ = true); rfl) | (simp only [List.length_append, bytesOf_length, List.toList_toArray, List.length_cons, List.length_nil, List.length_take, List.length_drop, sS_eq]; omega) | decide))
  | (split <;> rename_i hh <;> (try simp only [wS] at hh) <;> (try simp (disch := omega) only [wT] at hh))
  | with_reducible refine (fun (hln : (_ : Int) ≤ 9223372036854775807) => ?_)
  | fail) <;> (conv => whnf)))
 all_goals (try (show _ = _; simp only [wQ]))
 ·exact absurd (c0.symm.trans (by assumption)) (by decide)
 ·intro e he
  obtain rfl : e = 0 := by omega
  show [AV.str _] = [AV.str _]
  refine congrArg (fun l => [AV.str l]) ?_
  simp only [sS_eq]
  exact line_0
def D_sMay0 : PT := tabD [(71, pcMayR)]
theorem d_sMay0 {W : World} (hW : Tabs W) : PTOk (Fw W) Tryz.prog D_sMay0 := (tabD_cons Tryz.call71 (g_reqMay hW) tabD_nil)
def C_sMay0 : FuncId → Option Ctr := tabC D_sMay0 []
theorem c_sMay0 {W : World} (hW : Tabs W) : CtrOk (Fw W) Tryz.prog C_sMay0 := (tabC_nil (d_sMay0 hW))
def I1_sMay0 : List (FuncId × Ctr) := (213, inl TY C_sMay0 D_sMay0 (fun _ => false) (fun _ _ _ => none) Tryz.f213) :: []
def C1_sMay0 : FuncId → Option Ctr := tabC D_sMay0 I1_sMay0
theorem c1_sMay0 {W : World} (hW : Tabs W) : CtrOk (Fw W) Tryz.prog C1_sMay0 := tabC_cons Tryz.call213 (good_inl rfl tyOk (d_sMay0 hW) (c_sMay0 hW) Tryz.func213 (fun _ _ _ => none)) (c_sMay0 hW)
def LI2_sMay0 : List AV → List Blk → Nat → Option LR := fun _ _ i => cond (Nat.beq i 4) (some (.unroll 1)) none
def I2_sMay0 : List (FuncId × Ctr) := (214, inl TY C1_sMay0 D_sMay0 (fun _ => false) (LI2_sMay0) Tryz.f214) :: I1_sMay0
def C2_sMay0 : FuncId → Option Ctr := tabC D_sMay0 I2_sMay0
theorem c2_sMay0 {W : World} (hW : Tabs W) : CtrOk (Fw W) Tryz.prog C2_sMay0 := tabC_cons Tryz.call214 (good_inl rfl tyOk (d_sMay0 hW) (c1_sMay0 hW) Tryz.func214 (LI2_sMay0)) (c1_sMay0 hW)
def LI3_sMay0 : List AV → List Blk → Nat → Option LR := fun _ _ i => cond (Nat.beq i 4) (some (.unroll 1)) none
def I3_sMay0 : List (FuncId × Ctr) := (215, inl TY C2_sMay0 D_sMay0 (fun _ => false) (LI3_sMay0) Tryz.f215) :: I2_sMay0
def C3_sMay0 : FuncId → Option Ctr := tabC D_sMay0 I3_sMay0
theorem c3_sMay0 {W : World} (hW : Tabs W) : CtrOk (Fw W) Tryz.prog C3_sMay0 := tabC_cons Tryz.call215 (good_inl rfl tyOk (d_sMay0 hW) (c2_sMay0 hW) Tryz.func215 (LI3_sMay0)) (c2_sMay0 hW)
def LI4_sMay0 : List AV → List Blk → Nat → Option LR := fun cs H i => cond (Nat.beq i 2) (some (.order [0, 1, 3, 4, 2, 5, 6, 7, 8, 9, 10, 11, 12, 13, 14, 15, 16, 17, 18, 19, 20, 21])) (none)
def I4_sMay0 : List (FuncId × Ctr) := (142, inl TY C3_sMay0 D_sMay0 (fun _ => false) (LI4_sMay0) Tryz.f142) :: I3_sMay0
def C4_sMay0 : FuncId → Option Ctr := tabC D_sMay0 I4_sMay0
theorem c4_sMay0 {W : World} (hW : Tabs W) : CtrOk (Fw W) Tryz.prog C4_sMay0 := tabC_cons Tryz.call142 (good_inl rfl tyOk (d_sMay0 hW) (c3_sMay0 hW) Tryz.func142 (LI4_sMay0)) (c3_sMay0 hW)
def I5_sMay0 : List (FuncId × Ctr) := (98, inl TY C4_sMay0 D_sMay0 (fun _ => false) (fun _ _ _ => none) Tryz.f98) :: I4_sMay0
def C5_sMay0 : FuncId → Option Ctr := tabC D_sMay0 I5_sMay0
theorem c5_sMay0 {W : World} (hW : Tabs W) : CtrOk (Fw W) Tryz.prog C5_sMay0 := tabC_cons Tryz.call98 (good_inl rfl tyOk (d_sMay0 hW) (c4_sMay0 hW) Tryz.func98 (fun _ _ _ => none)) (c4_sMay0 hW)
set_option maxHeartbeats 2000000 in
theorem g_sMay0 {W : World} (hW : Tabs W) : GoodP (Fw W) Tryz.prog 36 pcSMay := by
 have hD := d_sMay0 hW
 have hC0 : ∀ b : Bool, CtrOk (Fw W) Tryz.prog C5_sMay0 := fun b => (c5_sMay0 hW)
 refine goodP_ofC (D := D_sMay0) (C := fun b => C5_sMay0) (wr := (fun _ => false)) rfl tyOk hD hC0 Tryz.func36 (fun _ _ => none) (fun z => by cases z <;> rfl) ?_
 have hexM : ¬ mayReqB r0 = false := by rw [may_r0]; exact Bool.true_eq_false.mp
 intro b hf hp
 clear hf
 cases b
 ·(conv => whnf)
  (repeat' ((first
   | (with_reducible refine inl_intro ?_)
   | (refine optP_bare ?_)
   | with_reducible refine And.intro (?_ : opQ _ _ _ _ _ _) ?_
   | ((with_reducible refine And.intro ?_ ?_); focus (((with_reducible show okQ _ _ = true); rfl)))
   | with_reducible refine (fun (hln : (_ : Int) ≤ 9223372036854775807) => ?_)
   | fail) <;> (conv => whnf)))
  all_goals (try (show _ = _; simp only [wQ]))
  all_goals rfl
 ·(conv => whnf)
  all_goals (try (show _ = _; simp only [wQ]))
  refine ⟨r0, short_r0, ?_, ?_⟩
  ·(conv => whnf)
   (repeat' ((first | with_reducible exact True.intro | ((with_reducible refine And.intro ?_ ?_); focus (first | with_reducible rfl | omega | exact Nat.le_of_ble_eq_true rfl | rfl)) | with_reducible refine And.intro (?_ : leA _ _ _) ?_ | fail) <;> (conv => whnf)))
   all_goals (try simp only [wQ])
   all_goals (try first | rfl | exact ⟨fun h => h, fun _ _ => rfl⟩)
  (conv => whnf)
  (repeat' ((first
   | (with_reducible refine inl_intro ?_)
   | (refine optP_bare ?_)
   | (exact absurd (by with_reducible assumption) hexM)
   | with_reducible refine And.intro (?_ : opQ _ _ _ _ _ _) ?_
   | ((with_reducible refine And.intro ?_ ?_); focus (((with_reducible show okQ _ _ = true); rfl)))
   | (split <;> rename_i hh <;> (try simp only [wS] at hh) <;> (try simp (disch := omega) only [wT] at hh))
   | fail) <;> (conv => whnf)))
  all_goals (try (show _ = _; simp only [wQ]))
  all_goals rfl
def D_actL0 : PT := tabD [(24, pcReqLine), (36, pcSMay), (46, pcItoaS), (62, pcJoinS)]
theorem d_actL0 {W : World} (hW : Tabs W) : PTOk (Fw W) Tryz.prog D_actL0 := (tabD_cons Tryz.call24 (g_reqLine hW) (tabD_cons Tryz.call36 (g_sMay0 hW) (tabD_cons Tryz.call46 (g_script_digits hW) (tabD_cons Tryz.call62 (goodJoinS hW) tabD_nil))))
def C_actL0 : FuncId → Option Ctr := tabC D_actL0 []
theorem c_actL0 {W : World} (hW : Tabs W) : CtrOk (Fw W) Tryz.prog C_actL0 := (tabC_nil (d_actL0 hW))
def L_actL0 : Bool → Nat → Option LR := fun b i => cond (Nat.beq i 15) (some (.unroll 3)) (none)
set_option maxHeartbeats 2000000 in
theorem g_actL0 {W : World} (hW : Tabs W) : GoodP (Fw W) Tryz.prog 34 pcActL := by
 have hD := d_actL0 hW
 have hC0 : ∀ b : Bool, CtrOk (Fw W) Tryz.prog C_actL0 := fun b => (c_actL0 hW)
 refine goodP_ofC (D := D_actL0) (C := fun b => C_actL0) (wr := (fun _ => false)) rfl tyOk hD hC0 Tryz.func34 (L_actL0) (fun z => by cases z <;> rfl) ?_
 have hexM : ¬ mayReqB r0 = false := by rw [may_r0]; exact Bool.true_eq_false.mp
 intro b hf hp
 clear hf
 cases b
 ·(conv => whnf)
  all_goals (try (show _ = _; simp only [wQ]))
  refine ⟨false, True.intro, ?_, ?_⟩
  ·exact leL_rfl _
  (conv => whnf)
  (repeat' ((first
   | (exact absurd (by with_reducible assumption) Bool.false_ne_true)
   | ((with_reducible refine And.intro ?_ ?_); focus (first | with_reducible exact True.intro | ((with_reducible refine ⟨?_, ?_, ?_⟩) <;> first | (intro e he; rcases (by omega : e = 0 ∨ e = 1 ∨ e = 2 ∨ e = 3 ∨ e = 4 ∨ e = 5) with rfl | rfl | rfl | rfl | rfl | rfl <;> first | rfl | (exfalso; omega)) | (with_reducible assumption) | omega | ((with_reducible show growOk _ _); simp only [growOk, ty2, ty3, ty4, ty5, ty9, ty21, ty37, ty42, ty43, ty45, ty47, ty67, ty95, ty105, ty113, ty150, ty161, ty198, ty242, ty275, List.length_cons, List.length_nil]; first | omega | (refine ⟨?_, ?_⟩ <;> omega))) | omega | (simp only [inK_def, Go.Vc.lo, Go.Vc.hi]; omega) | (simp only [growOk, ty2, ty3, ty4, ty5, ty9, ty21, ty37, ty42, ty43, ty45, ty47, ty67, ty95, ty105, ty113, ty150, ty161, ty198, ty242, ty275]; first | omega | (refine ⟨?_, ?_⟩ <;> omega)) | decide))
   | (split <;> rename_i hh <;> (try simp only [wS] at hh) <;> (try simp (disch := omega) only [wT] at hh))
   | with_reducible refine (fun (hln : (_ : Int) ≤ 9223372036854775807) => ?_)
   | fail) <;> (conv => whnf)))
  all_goals (try (show _ = _; simp only [wQ]))
  refine ⟨(partsC, [32]), ⟨jC_len, by decide⟩, ?_, ?_⟩
  ·(conv => whnf)
   (repeat' ((first | with_reducible exact True.intro | ((with_reducible refine And.intro ?_ ?_); focus (first | with_reducible rfl | omega | exact Nat.le_of_ble_eq_true rfl | rfl)) | with_reducible refine And.intro (?_ : leA _ _ _) ?_ | fail) <;> (conv => whnf)))
   all_goals (try simp only [wQ])
   refine ⟨fun h => h, fun e he => ?_⟩
   change e < 4 at he
   rcases (by omega : e = 0 ∨ e = 1 ∨ e = 2 ∨ e = 3) with rfl | rfl | rfl | rfl <;> rfl
  (conv => whnf)
  all_goals (try (show _ = _; simp only [wQ]))
  all_goals exact jC_eq
 ·(conv => whnf)
  all_goals (try (show _ = _; simp only [wQ]))
  refine ⟨true, True.intro, ?_, ?_⟩
  ·exact leL_rfl _
  (conv => whnf)
  (repeat' ((first
   | (exact absurd (by with_reducible assumption) Bool.false_ne_true)
   | ((with_reducible refine And.intro ?_ ?_); focus (first | with_reducible exact True.intro | ((with_reducible show okB _ _ _ = true); rfl)))
   | (split <;> rename_i hh <;> (try simp only [wS] at hh) <;> (try simp (disch := omega) only [wT] at hh))
   | fail) <;> (conv => whnf)))
  all_goals (try (show _ = _; simp only [wQ]))
  refine ⟨r0, short_r0, ?_, ?_⟩
  ·(conv => whnf)
   (repeat' ((first | with_reducible exact True.intro | ((with_reducible refine And.intro ?_ ?_); focus (first | with_reducible rfl | omega | exact Nat.le_of_ble_eq_true rfl | rfl)) | with_reducible refine And.intro (?_ : leA _ _ _) ?_ | fail) <;> (conv => whnf)))
   all_goals (try simp only [wQ])
   all_goals (try first | rfl | exact ⟨fun h => h, fun _ _ => rfl⟩)
  (conv => whnf)
  (repeat' ((first
   | ((with_reducible refine And.intro ?_ ?_); focus (decide))
   | fail) <;> (conv => whnf)))
  all_goals (try (show _ = _; simp only [wQ]))
  refine ⟨(partsE, [32]), ⟨jE_len, by decide⟩, ?_, ?_⟩
  ·(conv => whnf)
   (repeat' ((first | with_reducible exact True.intro | ((with_reducible refine And.intro ?_ ?_); focus (first | with_reducible rfl | omega | exact Nat.le_of_ble_eq_true rfl | rfl)) | with_reducible refine And.intro (?_ : leA _ _ _) ?_ | fail) <;> (conv => whnf)))
   all_goals (try simp only [wQ])
   refine ⟨fun h => h, fun e he => ?_⟩
   change e < 3 at he
   rcases (by omega : e = 0 ∨ e = 1 ∨ e = 2) with rfl | rfl | rfl <;> rfl
  (conv => whnf)
  all_goals (try (show _ = _; simp only [wQ]))
  all_goals exact jE_eq
def D_known0 : PT := tabD [(13, pcLines0), (34, pcActL)]
theorem d_known0 {W : World} (hW : Tabs W) : PTOk (Fw W) Tryz.prog D_known0 := (tabD_cons Tryz.call13 (g_lines0 hW) (tabD_cons Tryz.call34 (g_actL0 hW) tabD_nil))
def C_known0 : FuncId → Option Ctr := tabC D_known0 []
theorem c_known0 {W : World} (hW : Tabs W) : CtrOk (Fw W) Tryz.prog C_known0 := (tabC_nil (d_known0 hW))
set_option maxHeartbeats 2000000 in
theorem g_known0 {W : World} (hW : Tabs W) : GoodP (Fw W) Tryz.prog 12 pcKnown := by
 have hD := d_known0 hW
 have hC0 : CtrOk (Fw W) Tryz.prog C_known0 := (c_known0 hW)
 refine goodP_fun (D := D_known0) (C := C_known0) (wr := (fun _ => false)) rfl tyOk hD hC0 Tryz.func12 (fun _ _ => none) ?_
 clear hC0 hD hW
 intro cs p r h hf hp
 split at h
 case h_2 => cases h
 skip
 cases h
 try simp only [factL, factA, inK_def, Go.Vc.lo, Go.Vc.hi, and_true] at hf
 have hT : actLn true = [100, 111, 32, 48, 32, 105, 115, 115, 117, 101, 32, 107, 55, 32, 51, 32, 65, 66, 67, 50, 51, 52, 32, 55, 64, 57, 61, 49, 48, 46, 48, 48, 32, 45] := rfl
 have hC : actLn false = [99, 114, 97, 115, 104, 32, 49, 32, 52, 32, 45, 49] := rfl
 (conv => whnf)
 all_goals (try (show _ = _; simp only [wQ]))
 refine ⟨(), True.intro, ?_, ?_⟩
 ·(conv => whnf)
  (repeat' ((first | with_reducible exact True.intro | ((with_reducible refine And.intro ?_ ?_); focus (first | with_reducible rfl | omega | exact Nat.le_of_ble_eq_true rfl | rfl)) | with_reducible refine And.intro (?_ : leA _ _ _) ?_ | fail) <;> (conv => whnf)))
  all_goals (try simp only [wQ])
  all_goals (try first | rfl)
 (conv => whnf)
 (repeat' ((first
  | ((with_reducible refine And.intro ?_ ?_); focus (decide))
  | fail) <;> (conv => whnf)))
 all_goals (try (show _ = _; simp only [wQ]))
 refine ⟨true, True.intro, ?_, ?_⟩
 ·(conv => whnf)
  (repeat' ((first | with_reducible exact True.intro | ((with_reducible refine And.intro ?_ ?_); focus (first | with_reducible rfl | omega | exact Nat.le_of_ble_eq_true rfl | rfl)) | with_reducible refine And.intro (?_ : leA _ _ _) ?_ | fail) <;> (conv => whnf)))
  all_goals (try simp only [wQ])
  exact ⟨fun h => h, fun e he => by obtain rfl : e = 0 := (by omega); rfl⟩
 (conv => whnf)
 (repeat' ((first
  | (exact absurd hT (by with_reducible assumption))
  | ((with_reducible refine And.intro ?_ ?_); focus (decide))
  | (split <;> rename_i hh <;> (try simp only [wS] at hh) <;> (try simp (disch := omega) only [wT] at hh))
  | fail) <;> (conv => whnf)))
 all_goals (try (show _ = _; simp only [wQ]))
 refine ⟨false, True.intro, ?_, ?_⟩
 ·(conv => whnf)
  (repeat' ((first | with_reducible exact True.intro | ((with_reducible refine And.intro ?_ ?_); focus (first | with_reducible rfl | omega | exact Nat.le_of_ble_eq_true rfl | rfl)) | with_reducible refine And.intro (?_ : leA _ _ _) ?_ | fail) <;> (conv => whnf)))
  all_goals (try simp only [wQ])
  exact ⟨fun h => h, fun e he => by rcases (by change e < 2 at he; omega : e = 0 ∨ e = 1) with rfl | rfl <;> rfl⟩
 (conv => whnf)
 (repeat' ((first
  | (exact absurd hC (by with_reducible assumption))
  | ((with_reducible refine And.intro ?_ ?_); focus (decide))
  | (split <;> rename_i hh <;> (try simp only [wS] at hh) <;> (try simp (disch := omega) only [wT] at hh))
  | with_reducible refine (fun (hln : (_ : Int) ≤ 9223372036854775807) => ?_)
  | fail) <;> (conv => whnf)))
 all_goals (try (show _ = _; simp only [wQ]))
 all_goals rfl
end
end Go.Vc.Z
namespace Go.Proofs
open Go.Shelf Go.RowKit
set_option maxRecDepth 1000000
def Tryz.lays143_ren : Go.Shelf.Ren := ⟨fun | 143 => 220 | 219 => 243 | 217 => 283 | 225 => 284 | 224 => 285 | 267 => 286 | 266 => 307 | 314 => 308 | n => n, fun | 9 => 9 | 3 => 3 | 4 => 4 | 5 => 5 | 46 => 284 | 146 => 310 | 51 => 282 | n => n, fun | 1 => 1 | n => n⟩
theorem Tryz.lays143 : Go.Proofs.Lays.n143 Tryz.prog Tryz.lays143_ren := {
 mixed := by kernel_rfl
 f143 := Tryz.func220.trans (congrArg some (by kernel_rfl))
 f217 := Tryz.func283.trans (congrArg some (by kernel_rfl))
 f219 := Tryz.func243.trans (congrArg some (by kernel_rfl))
 f224 := Tryz.func285.trans (congrArg some (by kernel_rfl))
 f225 := Tryz.func284.trans (congrArg some (by kernel_rfl))
 f266 := Tryz.func307.trans (congrArg some (by kernel_rfl))
 f267 := Tryz.func286.trans (congrArg some (by kernel_rfl))
 f314 := Tryz.func308.trans (congrArg some (by kernel_rfl))
 t3 := Tryz.underlying3
 a3 := Tryz.isAgg3
 z3 := Tryz.sizeOf3
 v3 := Tryz.zeroValue3
 t4 := Tryz.underlying4
 a4 := Tryz.isAgg4
 z4 := Tryz.sizeOf4
 v4 := Tryz.zeroValue4
 t5 := Tryz.underlying5
 a5 := Tryz.isAgg5
 z5 := Tryz.sizeOf5
 v5 := Tryz.zeroValue5
 t9 := Tryz.underlying9
 a9 := Tryz.isAgg9
 z9 := Tryz.sizeOf9
 v9 := Tryz.zeroValue9
 t46 := Tryz.underlying284
 a46 := Tryz.isAgg284
 z46 := Tryz.sizeOf284
 v46 := Tryz.zeroValue284
 t51 := Tryz.underlying282
 a51 := Tryz.isAgg282
 z51 := Tryz.sizeOf282
 v51 := Tryz.zeroValue282
 t146 := Tryz.underlying310
 a146 := Tryz.isAgg310
 z146 := Tryz.sizeOf310
 v146 := Tryz.zeroValue310
 g1 := by kernel_rfl }
def Tryz.lays145_ren : Go.Shelf.Ren := ⟨fun | 145 => 94 | 220 => 177 | 219 => 243 | 217 => 283 | 225 => 284 | 224 => 285 | 267 => 286 | 266 => 307 | 314 => 308 | n => n, fun | 9 => 9 | 4 => 4 | 59 => 143 | 3 => 3 | 5 => 5 | 46 => 284 | 146 => 310 | 51 => 282 | n => n, fun | 1 => 1 | n => n⟩
theorem Tryz.lays145 : Go.Proofs.Lays.n145 Tryz.prog Tryz.lays145_ren := {
 mixed := by kernel_rfl
 f145 := Tryz.func94.trans (congrArg some (by kernel_rfl))
 f217 := Tryz.func283.trans (congrArg some (by kernel_rfl))
 f219 := Tryz.func243.trans (congrArg some (by kernel_rfl))
 f220 := Tryz.func177.trans (congrArg some (by kernel_rfl))
 f224 := Tryz.func285.trans (congrArg some (by kernel_rfl))
 f225 := Tryz.func284.trans (congrArg some (by kernel_rfl))
 f266 := Tryz.func307.trans (congrArg some (by kernel_rfl))
 f267 := Tryz.func286.trans (congrArg some (by kernel_rfl))
 f314 := Tryz.func308.trans (congrArg some (by kernel_rfl))
 t3 := Tryz.underlying3
 a3 := Tryz.isAgg3
 z3 := Tryz.sizeOf3
 v3 := Tryz.zeroValue3
 t4 := Tryz.underlying4
 a4 := Tryz.isAgg4
 z4 := Tryz.sizeOf4
 v4 := Tryz.zeroValue4
 t5 := Tryz.underlying5
 a5 := Tryz.isAgg5
 z5 := Tryz.sizeOf5
 v5 := Tryz.zeroValue5
 t9 := Tryz.underlying9
 a9 := Tryz.isAgg9
 z9 := Tryz.sizeOf9
 v9 := Tryz.zeroValue9
 t46 := Tryz.underlying284
 a46 := Tryz.isAgg284
 z46 := Tryz.sizeOf284
 v46 := Tryz.zeroValue284
 t51 := Tryz.underlying282
 a51 := Tryz.isAgg282
 z51 := Tryz.sizeOf282
 v51 := Tryz.zeroValue282
 t59 := Tryz.underlying143
 a59 := Tryz.isAgg143
 z59 := Tryz.sizeOf143
 v59 := Tryz.zeroValue143
 t146 := Tryz.underlying310
 a146 := Tryz.isAgg310
 z146 := Tryz.sizeOf310
 v146 := Tryz.zeroValue310
 g1 := by kernel_rfl }
def Tryz.lays146_ren : Go.Shelf.Ren := ⟨fun | 146 => 78 | 221 => 168 | 268 => 236 | 138 => 237 | 143 => 220 | 195 => 280 | 197 => 281 | 218 => 282 | 219 => 243 | 260 => 306 | 217 => 283 | 225 => 284 | 224 => 285 | 267 => 286 | 266 => 307 | 314 => 308 | n => n, fun | 9 => 9 | 31 => 32 | 3 => 3 | 4 => 4 | 0 => 0 | 105 => 293 | 21 => 21 | 5 => 5 | 46 => 284 | 119 => 330 | 139 => 333 | 138 => 332 | 146 => 310 | 51 => 282 | n => n, fun | 1 => 1 | 3 => 6 | 4 => 7 | n => n⟩
theorem Tryz.lays146 : Go.Proofs.Lays.n146 Tryz.prog Tryz.lays146_ren := {
 mixed := by kernel_rfl
 f138 := Tryz.func237.trans (congrArg some (by kernel_rfl))
 f143 := Tryz.func220.trans (congrArg some (by kernel_rfl))
 f146 := Tryz.func78.trans (congrArg some (by kernel_rfl))
 f195 := Tryz.func280.trans (congrArg some (by kernel_rfl))
 f197 := Tryz.func281.trans (congrArg some (by kernel_rfl))
 f217 := Tryz.func283.trans (congrArg some (by kernel_rfl))
 f218 := Tryz.func282.trans (congrArg some (by kernel_rfl))
 f219 := Tryz.func243.trans (congrArg some (by kernel_rfl))
 f221 := Tryz.func168.trans (congrArg some (by kernel_rfl))
 f224 := Tryz.func285.trans (congrArg some (by kernel_rfl))
 f225 := Tryz.func284.trans (congrArg some (by kernel_rfl))
 f260 := Tryz.func306.trans (congrArg some (by kernel_rfl))
 f266 := Tryz.func307.trans (congrArg some (by kernel_rfl))
 f267 := Tryz.func286.trans (congrArg some (by kernel_rfl))
 f268 := Tryz.func236.trans (congrArg some (by kernel_rfl))
 f314 := Tryz.func308.trans (congrArg some (by kernel_rfl))
 t0 := Tryz.underlying0
 a0 := Tryz.isAgg0
 z0 := Tryz.sizeOf0
 v0 := Tryz.zeroValue0
 t3 := Tryz.underlying3
 a3 := Tryz.isAgg3
 z3 := Tryz.sizeOf3
 v3 := Tryz.zeroValue3
 t4 := Tryz.underlying4
 a4 := Tryz.isAgg4
 z4 := Tryz.sizeOf4
 v4 := Tryz.zeroValue4
 t5 := Tryz.underlying5
 a5 := Tryz.isAgg5
 z5 := Tryz.sizeOf5
 v5 := Tryz.zeroValue5
 t9 := Tryz.underlying9
 a9 := Tryz.isAgg9
 z9 := Tryz.sizeOf9
 v9 := Tryz.zeroValue9
 t21 := Tryz.underlying21
 a21 := Tryz.isAgg21
 z21 := Tryz.sizeOf21
 v21 := Tryz.zeroValue21
 t31 := Tryz.underlying32
 a31 := Tryz.isAgg32
 z31 := Tryz.sizeOf32
 v31 := Tryz.zeroValue32
 t46 := Tryz.underlying284
 a46 := Tryz.isAgg284
 z46 := Tryz.sizeOf284
 v46 := Tryz.zeroValue284
 t51 := Tryz.underlying282
 a51 := Tryz.isAgg282
 z51 := Tryz.sizeOf282
 v51 := Tryz.zeroValue282
 t105 := Tryz.underlying293
 a105 := Tryz.isAgg293
 z105 := Tryz.sizeOf293
 v105 := Tryz.zeroValue293
 t119 := Tryz.underlying330
 a119 := Tryz.isAgg330
 z119 := Tryz.sizeOf330
 t138 := Tryz.underlying332
 a138 := Tryz.isAgg332
 z138 := Tryz.sizeOf332
 v138 := Tryz.zeroValue332
 t139 := Tryz.underlying333
 a139 := Tryz.isAgg333
 z139 := Tryz.sizeOf333
 v139 := Tryz.zeroValue333
 t146 := Tryz.underlying310
 a146 := Tryz.isAgg310
 z146 := Tryz.sizeOf310
 v146 := Tryz.zeroValue310
 g1 := by kernel_rfl
 g3 := by kernel_rfl
 g4 := by kernel_rfl }
end Go.Proofs
namespace Go.Vc
open Go Go.Proofs Go.RowKit Go.Sort Go.Pl
theorem goodP_fresh {F : Nat → Obj → Prop} {P : Program} {f : FuncId} {α : Type} {args : α → List AV} {pre : α → Prop} {res : α → AV} (hu : ∀ x, underL 0 (args x) = true)
  (h : ∀ x S w vs, pre x → factL (args x) → Sok F S w → VL (fun _ => none) S w (args x) vs → Calls P f vs w fun e w' => ∃ v S', e = .returned v ∧ V (fun _ => none) S' w' (res x) v ∧ Below w.heap.size w w' ∧ (∀ b, S b → S' b) ∧ (∀ b, S' b → S b ∨ w.heap.size ≤ b) ∧ ∀ b, S' b → b < w'.heap.size) : GoodP F P f (PC.of args pre res) := by
 intro S w cs vs Q hs hv hpre
 obtain ⟨x, h1, h2, h3⟩ := hpre
 have hl := leL_length h2
 have hv' : VL (fun _ => none) S w (args x) vs := by
  refine ⟨by rw [← hl]; exact hv.1, fun i c v hc hv' => ?_⟩
  have hi : i < cs.length := by
   rcases Nat.lt_or_ge i (args x).length with h' | h'
   ·omega
   ·rw [List.getElem?_eq_none h'] at hc; cases hc
  exact (hv.2 i cs[i] v (List.getElem?_eq_getElem hi) hv').le (σ := fun i => i) (n := 0) (fun i b hi => by omega) (leL_get h2 i _ _ (List.getElem?_eq_getElem hi) hc) (underL_get (hu x) i c hc)
 refine (h x S w vs h1 hv'.fact hs hv').mono ?_
 rintro e w' ⟨v, S', rfl, hV, hb, g1, g2, g3⟩
 have hE : Ext (fun _ => none) S w (fun _ => none) S' w' := ⟨fun _ _ h => (by cases h), g1, fun b hb' _ => hb.block b hb', hb.size, fun b arr T fr hb' => ⟨arr, fr, (hb.block b (lt_of_some hb')).trans hb', rfl⟩, fun _ _ h => (by cases h), fun b h => (g2 b h).elim .inl (fun h => .inr (.inr h)), hb.os, hb.tape, hb.output⟩
 exact ⟨v, res x, S', rfl, h3, hV, hE, hs.ext hE g3⟩
theorem below_alloc (w : World) (o : Obj) : Below w.heap.size w (w.alloc o) := by
 refine ⟨rfl, rfl, rfl, ?_, fun b hb => ?_⟩
 ·show w.heap.size ≤ (w.heap.push o).size
  simp
 ·show (w.heap.push o)[b]? = _
  rw [Array.getElem?_push, if_neg (by omega)]
theorem vl_two {S : Nat → Prop} {w : World} {a b : AV} {vs : Array Value} (h : VL (fun _ => none) S w [a, b] vs) : ∃ x y, vs = #[x, y] ∧ V (fun _ => none) S w a x ∧ V (fun _ => none) S w b y := by
 obtain ⟨vs⟩ := vs
 match vs, h with
 | [x, y], h => exact ⟨x, y, rfl, h.2 0 _ _ rfl rfl, h.2 1 _ _ rfl rfl⟩
 | [], h => simp [VL] at h
 | [_], h => simp [VL] at h
 | _ :: _ :: _ :: _, h => have := h.1; simp at this
theorem V.texts {S : Nat → Prop} {w : World} {l : List ByteArray} {T : TypeId} (hs : ∀ b, S b → b < w.heap.size) (hl : l.length ≤ maxLen) (hx : ∀ x ∈ l, x.data.toList.length ≤ maxLen) :
  V (fun _ => none) (fun b => S b ∨ b = w.heap.size) (w.alloc (.cells (l.map Value.string).toArray T)) (slS (l.map (·.data.toList))) (.slice (some ⟨w.heap.size, 0, none⟩) l.length l.length) := by
 have e : (l.map (·.data.toList)).length = l.length := by simp
 unfold V slS
 rw [e]
 refine .sl false 1 l.length _ w.heap.size 0 l.length (fun e _ => .string (l.getD e ByteArray.empty)) (fun _ => ⟨.inr rfl, ?_⟩) (Nat.le_refl _) hl (fun h => by cases h) (fun e he => rfl) (fun e j he hj => ?_) (fun e j c he hc => ?_)
 ·show w.heap.size < (w.heap.push _).size
  simp
 ·have hj0 : j = 0 := by omega
  subst hj0
  simp only [World.cell?, heap_alloc_at]
  simp [he, List.getD_eq_getElem?_getD]
 ·have hj0 : j = 0 := by
   cases j with
   | zero => rfl
   | succ j => simp at hc
  subst hj0
  simp only [List.getElem?_cons_zero, Option.some.injEq] at hc
  subst hc
  refine .str _ _ ?_ ?_
  ·simp [he, List.getD_eq_getElem?_getD]
  ·simp only [List.getD_eq_getElem?_getD, List.getElem?_map, List.getElem?_eq_getElem he, Option.map_some, Option.getD_some]
   exact hx _ (List.getElem_mem he)
theorem max_cell {W : World} (hW : Tabs W) {S : Nat → Prop} {w : World} (hs : Sok (Fw W) S w) : ∃ m, w.cell? ⟨1, 0, none⟩ = some (.int .i64 m) := by
 obtain ⟨m, hm⟩ : ∃ m, W.cell? ⟨1, 0, none⟩ = some (.int .i64 m) := cell_of_shapedOpen_int (zero := #[.int .i64 0]) (t := 3) hW.2 (of_decide_eq_true (by kernel_rfl)) (by kernel_rfl) rfl (by kernel_rfl) (by kernel_rfl) Tryz.underlying3
 exact ⟨m, Fw.cell hs hm⟩
theorem bytes_mk (s : ByteArray) {l : List UInt8} (h : s.data.toList = l) : s.size = l.length := by rw [← h, Array.length_toList]; rfl
namespace Z
noncomputable section
def pcSplit0 : PC := PC.of (fun x : List UInt8 × UInt8 => [.str x.1, .str [x.2]]) (fun x => x.1.length ≤ 100000000) (fun x => slS (sL (cutL x.2 x.1)))
theorem goodSplit0 {W : World} (hW : Tabs W) : GoodP (Fw W) Tryz.prog 78 pcSplit0 := by
 refine goodP_fresh (fun _ => rfl) ?_
 rintro ⟨s, c⟩ S w vs hpre hf hs hv
 simp only at hpre hv ⊢
 obtain ⟨x, y, rfl, hx, hy⟩ := vl_two hv
 obtain ⟨sx, rfl, h1, h2⟩ := V.strR' hx
 obtain ⟨sy, rfl, h3, h4⟩ := V.strR' hy
 obtain ⟨m, hm⟩ := max_cell hW hs
 have e1 := bytes_mk sx h1
 have e2 : sy.size = 1 := bytes_mk sy h3
 have hd : (Lib.splitB sy 0 (Lib.countB sx sy) sx).map (·.data.toList) = cutL c s := by
  rw [Lib.splitB_data, ← split_cut]
  unfold Lib.split Lib.countB
  rw [h1, h3]
 have hlen : (Lib.splitB sy 0 (Lib.countB sx sy) sx).length = Lib.countB sx sy + 1 := by
  have a1 : (Lib.splitB sy 0 (Lib.countB sx sy) sx).length = (cutL c s).length := by rw [← hd]; simp
  have a2 : Lib.countB sx sy = s.count c := by
   have : ∀ t : List UInt8, Lib.count t [c] = t.count c := fun t => by
    refine cutInd (c := c) (P := fun t => Lib.count t [c] = t.count c) (fun t h => ?_) (fun a b ha ih => ?_) t.length t (Nat.le_refl _)
    ·rw [Lib.count_miss (index_one_no h), List.count_eq_zero_of_not_mem h]
    ·rw [Lib.count_hit (by simp) (index_one_at ha b)]
     have hd : (a ++ c :: b).drop (a.length + [c].length) = b := by simp
     rw [hd, ih, List.count_append, List.count_cons_self, List.count_eq_zero_of_not_mem ha]; omega
   unfold Lib.countB
   rw [h1, h3, this]
  rw [a1, cutL_length, a2]
 refine (Any.strings_Split Tryz.lays146 (by kernel_rfl) sx sy m w (by omega) hm (by omega)).mono ?_
 rintro e w' ⟨rfl, rfl⟩
 have hc := cutL_le c s
 have hcl : (cutL c s).length = Lib.countB sx sy + 1 := by rw [← hd, List.length_map, hlen]
 have hV := V.texts (S := S) (w := w) (l := Lib.splitB sy 0 (Lib.countB sx sy) sx) (T := 9) hs.lt (by rw [hlen, maxLen_eq]; omega) (fun x hx => by
  have : x.data.toList ∈ cutL c s := by rw [← hd]; exact List.mem_map_of_mem hx
  have := (cutL_mem s _ this).1
  rw [maxLen_eq]; omega)
 rw [hd, hlen] at hV
 refine ⟨_, fun b => S b ∨ b = w.heap.size, rfl, ?_, below_alloc _ _, fun b h => .inl h, fun b h => ?_, fun b h => ?_⟩
 ·rw [sL_eq]; exact hV
 ·rcases h with h | h
  ·exact .inl h
  ·exact .inr (Nat.le_of_eq h.symm)
 ·have hsz : (w.alloc (.cells ((Lib.splitB sy 0 (Lib.countB sx sy) sx).map Value.string).toArray 9)).heap.size = w.heap.size + 1 := by
   show (w.heap.push _).size = _
   simp
  show b < (w.alloc (.cells ((Lib.splitB sy 0 (Lib.countB sx sy) sx).map Value.string).toArray 9)).heap.size
  rw [hsz]
  rcases h with h | h
  ·have := hs.lt b h; omega
  ·omega
def pcCut20 : PC := PC.of (fun x : List UInt8 × UInt8 => [.str x.1, .str [x.2]]) (fun x => x.1.length ≤ 100000000) (fun x => .tup [.str (sS (cut2 x.2 x.1).1), .str (sS (cut2 x.2 x.1).2.1), .bool (sB (cut2 x.2 x.1).2.2)])
theorem below_drewN (w : World) (n : Nat) : Below w.heap.size w (w.drewN n) := ⟨rfl, rfl, rfl, Nat.le_refl _, fun _ _ => rfl⟩
theorem goodCut20 {W : World} (hW : Tabs W) : GoodP (Fw W) Tryz.prog 94 pcCut20 := by
 refine goodP_below (fun _ => rfl) (fun _ => rfl) ?_
 rintro ⟨s, c⟩ S w vs hpre hf hs hv
 simp only at hpre hv ⊢
 obtain ⟨x, y, rfl, hx, hy⟩ := vl_two hv
 obtain ⟨sx, rfl, h1, h2⟩ := V.strR' hx
 obtain ⟨sy, rfl, h3, h4⟩ := V.strR' hy
 obtain ⟨m, hm⟩ := max_cell hW hs
 have e1 := bytes_mk sx h1
 refine (Any.strings_Cut Tryz.lays145 sx sy m w (by omega) hm).mono ?_
 rintro e w' ⟨rfl, n, rfl⟩
 refine ⟨_, rfl, fun S' w' => ?_, below_drewN w n⟩
 have hle := cut2_le c s
 rw [sS_eq, sS_eq, sB_eq, h1, h3]
 refine .tup _ _ rfl fun i c' v hc hv => ?_
 match i, hc, hv with
 | 0, hc, hv => cases hc; cases hv; exact .str _ _ rfl (by rw [maxLen_eq]; omega)
 | 1, hc, hv => cases hc; cases hv; exact .str _ _ rfl (by rw [maxLen_eq]; omega)
 | 2, hc, hv => cases hc; cases hv; exact .bool _
 | i + 3, hc, hv => simp at hc
def pcSplit : PC := PC.fun fun | [.str s, .str [c]] => some (s.length ≤ 100000000, slS (sL (cutL c s))) | _ => none
theorem goodSplit {W : World} (hW : Tabs W) : GoodP (Fw W) Tryz.prog 78 pcSplit := by
 intro S w cs vs Q hs hv hT
 refine goodSplit0 hW S w cs vs Q hs hv ?_
 simp only [pcSplit, PC.fun] at hT
 split at hT
 ·rename_i p r hf
  split at hf
  ·cases hf
   rename_i s c
   exact ⟨(s, c), hT.1, ⟨⟨rfl, ⟨rfl, trivial⟩⟩, hT.2⟩⟩
  ·cases hf
 ·exact hT.elim
def pcCut2 : PC := PC.fun fun | [.str s, .str [c]] => some (s.length ≤ 100000000, .tup [.str (sS (cut2 c s).1), .str (sS (cut2 c s).2.1), .bool (sB (cut2 c s).2.2)]) | _ => none
theorem goodCut2 {W : World} (hW : Tabs W) : GoodP (Fw W) Tryz.prog 94 pcCut2 := by
 intro S w cs vs Q hs hv hT
 refine goodCut20 hW S w cs vs Q hs hv ?_
 simp only [pcCut2, PC.fun] at hT
 split at hT
 ·rename_i p r hf
  split at hf
  ·cases hf
   rename_i s c
   exact ⟨(s, c), hT.1, ⟨⟨rfl, ⟨rfl, trivial⟩⟩, hT.2⟩⟩
  ·cases hf
 ·exact hT.elim
def pcIndex : PC := PC.fun fun | [.str s, .str t] => some (s.length ≤ 100000000, .int .i64 (sI (Lib.index s t))) | _ => none
theorem goodIndex {W : World} (hW : Tabs W) : GoodP (Fw W) Tryz.prog 220 pcIndex := by
 have h : GoodP (Fw W) Tryz.prog 220 (PC.of (fun x : List UInt8 × List UInt8 => [.str x.1, .str x.2]) (fun x => x.1.length ≤ 100000000) (fun x => .int .i64 (Lib.index x.1 x.2))) := by
  refine goodP_below (fun _ => rfl) (fun _ => rfl) ?_
  rintro ⟨s, t⟩ S w vs hpre hf hs hv
  simp only at hpre hv ⊢
  obtain ⟨x, y, rfl, hx, hy⟩ := vl_two hv
  obtain ⟨sx, rfl, h1, h2⟩ := V.strR' hx
  obtain ⟨sy, rfl, h3, h4⟩ := V.strR' hy
  obtain ⟨m, hm⟩ := max_cell hW hs
  have e1 := bytes_mk sx h1
  refine (Any.strings_Index Tryz.lays143 sx sy m w (by omega) hm).mono ?_
  rintro e w' ⟨rfl, rfl⟩
  refine ⟨_, rfl, fun S' w' => ?_, Below.refl _ _⟩
  rw [h1, h3]
  have g1 := Lib.index_ge s t
  have g2 := Lib.index_le s t
  exact .int _ _ (by have : IntKind.min .i64 = -9223372036854775808 := rfl; omega) (by have : IntKind.max .i64 = 9223372036854775807 := rfl; omega)
 intro S w cs vs Q hs hv hT
 refine h S w cs vs Q hs hv ?_
 simp only [pcIndex, PC.fun] at hT
 split at hT
 ·rename_i p r hf
  split at hf
  ·cases hf
   rename_i s t
   rw [sI_eq] at hT
   exact ⟨(s, t), hT.1, ⟨⟨rfl, ⟨rfl, trivial⟩⟩, hT.2⟩⟩
  ·cases hf
 ·exact hT.elim
end
end Z
end Go.Vc
namespace Go.Vc.Z
open Go Go.Vc Go.Proofs Go.RowKit Go.Pl Go.Lib
def satW (s : List UInt8) : Int := if (worth s : Int) ≤ 1000000000001 then (worth s : Int) else 1000000000001
@[irreducible] def wholeF (s : List UInt8) : Int × Bool := if allDig s = true then (satW s, isDec s) else (0, false)
theorem satW_snoc {s : List UInt8} {i : Nat} (h : i < s.length) : satW (s.take (i + 1)) = if 10 * satW (s.take i) + ((s.getD i 0).toNat - 48 : Nat) ≤ 1000000000001 then 10 * satW (s.take i) + ((s.getD i 0).toNat - 48 : Nat) else 1000000000001 := by
 unfold satW
 rw [worth_take_succ h]
 repeat' split
 all_goals omega
theorem satW_le (s : List UInt8) : 0 ≤ satW s ∧ satW s ≤ 1000000000001 := by unfold satW; split <;> omega
theorem satW_nil : satW [] = 0 := by unfold satW; simp [worth]
theorem isDec_nil : isDec [] = false := by unfold isDec; simp [allDig]
theorem satW_whole {s : List UInt8} (h : worth s ≤ 1000000000001) : satW s = worth s := by unfold satW; rw [if_pos (by omega)]
theorem allDig_one {c : List UInt8} : allDig (49 :: c) = allDig c := by simp [allDig, isDig]
theorem isDec_one {c : List UInt8} : isDec (49 :: c) = allDig c := by unfold isDec; rw [allDig_one]; simp
theorem worth_two {c : List UInt8} (h : c.length = 2) (hd : allDig c = true) : worth (49 :: c) = 100 + worth c ∧ worth c < 100 := by
 rw [worth_cons, h]
 have := worth_lt hd
 rw [h] at this
 exact ⟨by simp, by simpa using this⟩
theorem prefix_cut {s : List UInt8} {c : UInt8} (h : 1 ≤ s.length) : (s.take 1 == [c]) = Lib.hasPrefix s [c] := by
 cases s with
 | nil => exact absurd h (by simp)
 | cons d t =>
  show ([d] == [c]) = ((c == d) && true)
  rw [Bool.and_true, Bool.eq_iff_iff, beq_iff_eq, beq_iff_eq]
  exact ⟨fun h => (List.cons.inj h).1.symm, fun h => by rw [h]⟩
theorem prefix_no {s : List UInt8} {c : UInt8} (h : ¬ 1 ≤ s.length) : Lib.hasPrefix s [c] = false := by
 cases s with
 | nil => rfl
 | cons d t => simp at h
def preL (c : UInt8) (s : List UInt8) : List UInt8 := if Lib.hasPrefix s [c] = true then s.drop 1 else s
theorem preL_le (c : UInt8) (s : List UInt8) : (preL c s).length ≤ s.length := by unfold preL; split <;> simp
theorem wholeF_le (s : List UInt8) : 0 ≤ (wholeF s).1 ∧ (wholeF s).1 ≤ 1000000000001 := by
 unfold wholeF; split
 ·exact satW_le s
 ·exact ⟨by decide, by decide⟩
theorem wholeF_2 (s : List UInt8) : (wholeF s).2 = isDec s := by
 unfold wholeF
 split
 ·rfl
 ·rename_i h
  symm; refine Bool.eq_false_iff.2 fun hd => h ?_
  unfold isDec at hd; simp only [Bool.and_eq_true] at hd; exact hd.1
theorem fare_parts {s : List UInt8} : (fareF s = ((cut2 46 s).2.2 && (wholeF (cut2 46 s).1).2 && (wholeF (49 :: (cut2 46 s).2.1)).2 && decide ((cut2 46 s).2.1.length = 2))) ∧
  (fareF s = true → (fareV s = 100 * (wholeF (cut2 46 s).1).1 + (wholeF (49 :: (cut2 46 s).2.1)).1 - 100 ∨ (1000000000001 < 100 * (wholeF (cut2 46 s).1).1 + (wholeF (49 :: (cut2 46 s).2.1)).1 - 100 ∧ 1000000000001 < fareV s)) ∧ 0 ≤ 100 * (wholeF (cut2 46 s).1).1 + (wholeF (49 :: (cut2 46 s).2.1)).1 - 100) := by
 have e : fareF s = ((cut2 46 s).2.2 && (wholeF (cut2 46 s).1).2 && (wholeF (49 :: (cut2 46 s).2.1)).2 && decide ((cut2 46 s).2.1.length = 2)) := by
  rw [wholeF_2, wholeF_2, isDec_one]; rfl
 refine ⟨e, fun h => ?_⟩
 rw [e] at h
 simp only [Bool.and_eq_true, decide_eq_true_eq, wholeF_2, isDec_one] at h
 obtain ⟨⟨⟨h1, h2⟩, h3⟩, h4⟩ := h
 obtain ⟨w1, w2⟩ := worth_two h4 h3
 have hd2 : allDig (cut2 46 s).1 = true := (isDec_spec h2).1
 have a1 : (wholeF (cut2 46 s).1).1 = satW (cut2 46 s).1 := by unfold wholeF; rw [if_pos hd2]
 have a2 : (wholeF (49 :: (cut2 46 s).2.1)).1 = 100 + worth (cut2 46 s).2.1 := by
  unfold wholeF; rw [if_pos (by rw [allDig_one]; exact h3)]
  show satW _ = _
  rw [satW_whole (by omega), w1]; omega
 rw [a1, a2]
 unfold fareV satW
 split <;> omega
theorem fare_bad {s : List UInt8} (h : fareF (preL 45 s) = false) : fareOf s = (0, 4) := by
 unfold preL at h
 unfold fareOf
 split
 ·rename_i hp
  rw [if_pos hp] at h
  rw [if_neg (by rw [h]; simp)]
 ·rename_i hp
  rw [if_neg hp] at h
  rw [if_neg (by rw [h]; simp)]
theorem fare_neg {s : List UInt8} (hp : Lib.hasPrefix s [45] = true) (h : fareF (preL 45 s) = true) : fareOf s = if fareV (preL 45 s) = 0 then (0, 4) else if 1000000000000 < fareV (preL 45 s) then (0, 14) else (-fareV (preL 45 s), 0) := by
 unfold preL at h ⊢
 rw [if_pos hp] at h ⊢
 unfold fareOf
 rw [if_pos hp]
 by_cases h0 : fareV (s.drop 1) = 0
 ·rw [if_neg (fun hn => hn.2 h0), if_pos h0]
 ·rw [if_pos ⟨h, h0⟩, if_neg h0]
theorem fare_pos {s : List UInt8} (hp : Lib.hasPrefix s [45] = false) (h : fareF (preL 45 s) = true) : fareOf s = if 1000000000000 < fareV (preL 45 s) then (0, 14) else (fareV (preL 45 s), 0) := by
 have hp' : ¬ Lib.hasPrefix s [45] = true := by rw [hp]; simp
 unfold preL at h ⊢
 rw [if_neg hp'] at h ⊢
 unfold fareOf
 rw [if_neg hp', if_pos h]
theorem stat_index (c : UInt8) : Lib.index stL [c] = statOf [c] - 1 := by
 rw [Lib.index_one]
 unfold statOf stL
 simp only [List.cons.injEq, and_true]
 by_cases h1 : c = 79
 ·subst h1; rfl
 by_cases h2 : c = 67
 ·subst h2; rfl
 by_cases h3 : c = 76
 ·subst h3; rfl
 by_cases h4 : c = 70
 ·subst h4; rfl
 by_cases h5 : c = 69
 ·subst h5; rfl
 by_cases h6 : c = 82
 ·subst h6; rfl
 by_cases h7 : c = 86
 ·subst h7; rfl
 by_cases h8 : c = 83
 ·subst h8; rfl
 by_cases h9 : c = 65
 ·subst h9; rfl
 rw [if_neg h1, if_neg h2, if_neg h3, if_neg h4, if_neg h5, if_neg h6, if_neg h7, if_neg h8, if_neg h9]
 simp [Lib.indexByte, Ne.symm h1, Ne.symm h2, Ne.symm h3, Ne.symm h4, Ne.symm h5, Ne.symm h6, Ne.symm h7, Ne.symm h8, Ne.symm h9]
theorem statOf_long {s : List UInt8} (h : s.length ≠ 1) : statOf s = 0 := by
 unfold statOf
 repeat' split
 all_goals first | rfl | (rename_i e; rw [e] at h; exact absurd rfl h)
theorem stat_index' {s : List UInt8} (h : s.length = 1) : Lib.index stL s = statOf s - 1 := by
 match s, h with
 | [c], _ => exact stat_index c
@[irreducible] def statErr (s : List UInt8) : Int := if statOf s = 0 then 2 else 0
theorem statErr_or (s : List UInt8) : (statOf s = 0 ∧ statErr s = 2) ∨ (statOf s ≠ 0 ∧ statErr s = 0) := by
 unfold statErr
 by_cases h : statOf s = 0
 ·exact .inl ⟨h, if_pos h⟩
 ·exact .inr ⟨h, if_neg h⟩
noncomputable section
set_option maxRecDepth 100000
set_option linter.unusedSimpArgs false
set_option linter.unusedVariables false
attribute [local irreducible] inK Utf8.decode Utf8.encode Lib.itoa Pl.worth Pl.allDig
attribute [local irreducible] Lib.join cut2 cutL
def pcWholeF : PC := PC.fun fun | [.str s] => some (True, .tup [.int .i64 (sI (wholeF s).1), .bool (sB (wholeF s).2)]) | _ => none
def LWholeF (s : List UInt8) : LoopSpec := {
 α := Nat
 keep := [0, 4, 8]
 vals i := [.str s, .int .i64 (sI (satW (s.take i))), .iter 0]
 heap i := [.iter s i]
 ok i := i ≤ s.length ∧ allDig (s.take i) = true
 μ i := s.length - i }
def D_fare_whole : PT := tabD []
theorem d_fare_whole {W : World} (hW : Tabs W) : PTOk (Fw W) Tryz.prog D_fare_whole := tabD_nil
def C_fare_whole : FuncId → Option Ctr := tabC D_fare_whole []
theorem c_fare_whole {W : World} (hW : Tabs W) : CtrOk (Fw W) Tryz.prog C_fare_whole := (tabC_nil (d_fare_whole hW))
def L_fare_whole : List AV → Nat → Option LR := fun cs i => match cs with | [.str s] => cond (Nat.beq i 3) (some (.inv (LWholeF s))) (none) | _ => none
theorem g_fare_whole {W : World} (hW : Tabs W) : GoodP (Fw W) Tryz.prog 222 pcWholeF := by
 have hD := d_fare_whole hW
 have hC0 : CtrOk (Fw W) Tryz.prog C_fare_whole := (c_fare_whole hW)
 refine goodP_fun (D := D_fare_whole) (C := C_fare_whole) (wr := (fun _ => false)) rfl tyOk hD hC0 Tryz.func222 (L_fare_whole) ?_
 clear hC0 hD hW
 intro cs p r h hf hp
 split at h
 case h_2 => cases h
 rename_i s
 cases h
 try simp only [factL, factA, inK_def, Go.Vc.lo, Go.Vc.hi, and_true] at hf
 have e0 : s.getD (Int.toNat 0) 0 = s.getD 0 0 := rfl
 have hbyte : ∀ c : UInt8, eqI (c.toNat : Int) 48 = (c == 48) := fun c => eqI_byte c 48
 have s0 := satW_nil
 (conv => whnf)
 all_goals (try (show _ = _; simp only [wQ]))
 refine ⟨?_, fun (i : Nat) hi => ?_⟩
 ·(conv => whnf)
  refine ⟨(0 : Nat), [], ?_, ⟨⟨rfl, Nat.le_of_ble_eq_true rfl, rfl⟩, ?_, ?_⟩⟩
  ·exact ⟨Nat.zero_le _, by simp [allDig]⟩
  ·(conv => whnf)
   (repeat' ((first | with_reducible exact True.intro | ((with_reducible refine And.intro ?_ ?_); focus (first | with_reducible rfl | omega | exact Nat.le_of_ble_eq_true rfl | rfl)) | with_reducible refine And.intro (?_ : leA _ _ _) ?_ | fail) <;> (conv => whnf)))
   all_goals (try simp only [wQ])
   rw [List.take_zero, s0]
  ·(conv => whnf)
   (repeat' ((first | with_reducible exact True.intro | ((with_reducible refine And.intro ?_ ?_); focus (first | with_reducible rfl | omega | exact Nat.le_of_ble_eq_true rfl | rfl)) | with_reducible refine And.intro (?_ : leBlk _ _ _ _) ?_ | fail) <;> (conv => whnf)))
   all_goals (try simp only [wQ])
 ·obtain ⟨h1, h2⟩ := hi
  have h1 : i ≤ s.length := h1
  have hl := satW_le (s.take i)
  have hsi := sI_eq (satW (s.take i))
  have hbad : i < s.length → ¬ (48 ≤ runeAt s i ∧ runeAt s i ≤ 57) → wholeF s = (0, false) := fun h hc => by
   have : allDig s = false := not_allDig h (by rcases rune_cases h with h6 | h6 <;> omega)
   unfold wholeF; rw [this]; rfl
  have hfin : s.length ≤ i → wholeF s = (satW (s.take i), isDec s) := fun h => by
   rw [List.take_of_length_le h] at h2 ⊢
   unfold wholeF; rw [if_pos h2]
  have hdec : s.length ≤ i → isDec s = (s == [48] || (s != [] && s.getD 0 0 != 48)) := fun h => by
   rw [List.take_of_length_le h] at h2
   unfold isDec; rw [h2, Bool.true_and]
  by_cases hs : s = []
  ·subst hs
   obtain rfl : i = 0 := Nat.le_zero.1 h1
   (conv => whnf)
   (repeat' ((first
    | with_reducible exact True.intro
    | ((with_reducible refine And.intro ?_ ?_); focus (first | ((with_reducible show okB _ _ _ = true); rfl) | with_reducible rfl))
    | with_reducible refine And.intro (?_ : leA _ _ _) ?_
    | fail) <;> (conv => whnf)))
   all_goals (try (show _ = _; simp only [wQ]))
   ·rw [hfin (Nat.le_refl _)]
   ·rw [hfin (Nat.le_refl _)]; exact isDec_nil.symm
  ·have hpos : 0 < s.length := List.length_pos_iff.2 hs
   (conv => whnf)
   (repeat' ((first
    | with_reducible exact True.intro
    | ((with_reducible refine And.intro ?_ ?_); focus (first | ((with_reducible show okB _ _ _ = true); rfl) | with_reducible rfl | omega | (simp only [inK_def, Go.Vc.lo, Go.Vc.hi]; omega)))
    | (split <;> rename_i hh <;> (try simp only [wS] at hh) <;> (try simp (disch := omega) only [wT] at hh))
    | with_reducible refine And.intro (?_ : leA _ _ _) ?_
    | fail) <;> (conv => whnf)))
   all_goals (try (show _ = _; simp only [wQ]))
   all_goals first | (rw [hbad (by omega) (by omega)]; done) | (exact absurd (by assumption) hs) | (exfalso; exact absurd (by assumption) Bool.false_ne_true) | skip
   ·obtain ⟨h6, h7, h8⟩ : runeAt s i = ((s.getD i 0).toNat : Int) ∧ runeW s i = 1 ∧ (s.getD i 0).toNat < 128 := by
     rcases rune_cases (l := s) (p := i) (by omega) with h6 | h6 <;> omega
    have hst := satW_snoc (s := s) (i := i) (by omega)
    (conv => whnf)
    refine ⟨(i + 1 : Nat), [], ?_, ⟨⟨rfl, Nat.le_of_ble_eq_true rfl, rfl⟩, ?_, ?_⟩⟩
    ·exact ⟨⟨show i + 1 ≤ s.length by omega, allDig_take_succ (by omega) h2 (by omega) (by omega)⟩, show s.length - (i + 1) < s.length - i by omega⟩
    ·(conv => whnf)
     (repeat' ((first | with_reducible exact True.intro | ((with_reducible refine And.intro ?_ ?_); focus (first | with_reducible rfl | omega | exact Nat.le_of_ble_eq_true rfl | rfl)) | with_reducible refine And.intro (?_ : leA _ _ _) ?_ | fail) <;> (conv => whnf)))
     all_goals (try simp only [wQ])
     all_goals (try first | omega)
     all_goals (rw [hst]; split <;> omega)
    ·(conv => whnf)
     (repeat' ((first | with_reducible exact True.intro | ((with_reducible refine And.intro ?_ ?_); focus (first | with_reducible rfl | omega | exact Nat.le_of_ble_eq_true rfl | rfl)) | with_reducible refine And.intro (?_ : leBlk _ _ _ _) ?_ | fail) <;> (conv => whnf)))
     all_goals (try simp only [wQ])
     all_goals (try first | omega)
     all_goals (rw [h7])
   ·obtain ⟨h6, h7, h8⟩ : runeAt s i = ((s.getD i 0).toNat : Int) ∧ runeW s i = 1 ∧ (s.getD i 0).toNat < 128 := by
     rcases rune_cases (l := s) (p := i) (by omega) with h6 | h6 <;> omega
    have hst := satW_snoc (s := s) (i := i) (by omega)
    (conv => whnf)
    refine ⟨(i + 1 : Nat), [], ?_, ⟨⟨rfl, Nat.le_of_ble_eq_true rfl, rfl⟩, ?_, ?_⟩⟩
    ·exact ⟨⟨show i + 1 ≤ s.length by omega, allDig_take_succ (by omega) h2 (by omega) (by omega)⟩, show s.length - (i + 1) < s.length - i by omega⟩
    ·(conv => whnf)
     (repeat' ((first | with_reducible exact True.intro | ((with_reducible refine And.intro ?_ ?_); focus (first | with_reducible rfl | omega | exact Nat.le_of_ble_eq_true rfl | rfl)) | with_reducible refine And.intro (?_ : leA _ _ _) ?_ | fail) <;> (conv => whnf)))
     all_goals (try simp only [wQ])
     all_goals (try first | omega)
     all_goals (rw [hst]; split <;> omega)
    ·(conv => whnf)
     (repeat' ((first | with_reducible exact True.intro | ((with_reducible refine And.intro ?_ ?_); focus (first | with_reducible rfl | omega | exact Nat.le_of_ble_eq_true rfl | rfl)) | with_reducible refine And.intro (?_ : leBlk _ _ _ _) ?_ | fail) <;> (conv => whnf)))
     all_goals (try simp only [wQ])
     all_goals (try first | omega)
     all_goals (rw [h7])
   ·rw [hfin (by omega)]
   ·rw [hfin (by omega), hdec (by omega), show s = [48] by assumption]; rfl
   ·rw [hfin (by omega)]
   ·rw [hfin (by omega), hdec (by omega), hbyte, e0]
    have a1 : (s == [48]) = false := by rw [beq_eq_false_iff_ne]; assumption
    have a2 : (s != []) = true := by rw [bne_iff_ne]; assumption
    rw [a1, a2]; rfl
def pcCutPre : PC := PC.fun fun | [.str s, .str [c]] => some (True, .tup [.str (sS (preL c s)), .bool (sB (Lib.hasPrefix s [c]))]) | _ => none
def I1_strings_CutPrefix : List (FuncId × Ctr) := (244, inl TY C_fare_whole D_fare_whole (fun _ => false) (fun _ _ _ => none) Tryz.f244) :: []
def C1_strings_CutPrefix : FuncId → Option Ctr := tabC D_fare_whole I1_strings_CutPrefix
theorem c1_strings_CutPrefix {W : World} (hW : Tabs W) : CtrOk (Fw W) Tryz.prog C1_strings_CutPrefix := tabC_cons Tryz.call244 (good_inl rfl tyOk (d_fare_whole hW) (c_fare_whole hW) Tryz.func244 (fun _ _ _ => none)) (c_fare_whole hW)
def I2_strings_CutPrefix : List (FuncId × Ctr) := (272, inl TY C1_strings_CutPrefix D_fare_whole (fun _ => false) (fun _ _ _ => none) Tryz.f272) :: I1_strings_CutPrefix
def C2_strings_CutPrefix : FuncId → Option Ctr := tabC D_fare_whole I2_strings_CutPrefix
theorem c2_strings_CutPrefix {W : World} (hW : Tabs W) : CtrOk (Fw W) Tryz.prog C2_strings_CutPrefix := tabC_cons Tryz.call272 (good_inl rfl tyOk (d_fare_whole hW) (c1_strings_CutPrefix hW) Tryz.func272 (fun _ _ _ => none)) (c1_strings_CutPrefix hW)
theorem g_strings_CutPrefix {W : World} (hW : Tabs W) : GoodP (Fw W) Tryz.prog 221 pcCutPre := by
 have hD := d_fare_whole hW
 have hC0 : CtrOk (Fw W) Tryz.prog C2_strings_CutPrefix := (c2_strings_CutPrefix hW)
 refine goodP_fun (D := D_fare_whole) (C := C2_strings_CutPrefix) (wr := (fun _ => false)) rfl tyOk hD hC0 Tryz.func221 (fun _ _ => none) ?_
 clear hC0 hD hW
 intro cs p r h hf hp
 split at h
 case h_2 => cases h
 rename_i s c
 cases h
 try simp only [factL, factA, inK_def, Go.Vc.lo, Go.Vc.hi, and_true] at hf
 have h1 := prefix_cut (s := s) (c := c)
 have h2 := prefix_no (s := s) (c := c)
 have h3 : preL c s = if Lib.hasPrefix s [c] = true then s.drop 1 else s := by unfold preL; rfl
 have h4 : ([c].length : Int) = 1 := rfl
 have hn : Lib.hasPrefix s [c] = false → s = preL c s ∧ false = Lib.hasPrefix s [c] := fun h => by rw [h3, h]; exact ⟨rfl, rfl⟩
 have hy : 1 ≤ s.length → Lib.hasPrefix s [c] = true → List.take (s.length - Int.toNat ([c].length : Int)) (List.drop (Int.toNat ([c].length : Int)) s) = preL c s ∧ true = Lib.hasPrefix s [c] := fun h0 h => by
  rw [h3, h]
  refine ⟨?_, rfl⟩
  show List.take (s.length - 1) (List.drop 1 s) = _
  rw [List.take_of_length_le (by simp)]; rfl
 have k1 : 1 ≤ s.length → ¬ List.take (Int.toNat ([c].length : Int) - 0) (List.drop 0 s) = [c] → Lib.hasPrefix s [c] = false := fun h0 h => by
  rw [← h1 h0, beq_eq_false_iff_ne]; exact h
 have k2 : 1 ≤ s.length → List.take (Int.toNat ([c].length : Int) - 0) (List.drop 0 s) = [c] → Lib.hasPrefix s [c] = true := fun h0 h => by
  rw [← h1 h0, beq_iff_eq]; exact h
 (conv => whnf)
 (repeat' ((first
  | with_reducible exact True.intro
  | (with_reducible refine inl_intro ?_)
  | ((with_reducible refine And.intro ?_ ?_); focus (omega))
  | (split <;> rename_i hh <;> (try simp only [wS] at hh) <;> (try simp (disch := omega) only [wT] at hh))
  | with_reducible refine (fun (hln : (_ : Int) ≤ 9223372036854775807) => ?_)
  | with_reducible refine And.intro (?_ : leA _ _ _) ?_
  | fail) <;> (conv => whnf)))
 all_goals (try (show _ = _; simp only [wQ]))
 ·exact (hn (k1 (by omega) (by assumption))).1
 ·exact (hn (k1 (by omega) (by assumption))).2
 ·exact (hy (by omega) (k2 (by omega) (by assumption))).1
 ·exact (hy (by omega) (k2 (by omega) (by assumption))).2
 ·exact (hn (h2 (by omega))).1
 ·exact (hn (h2 (by omega))).2
def pcFareOf : PC := PC.fun fun | [.str s] => some (s.length ≤ 100000000, .tup [.int .i64 (sI (fareOf s).1), .int .i64 (sI (fareOf s).2)]) | _ => none
def D_fare_Of : PT := tabD [(94, pcCut2), (221, pcCutPre), (222, pcWholeF)]
theorem d_fare_Of {W : World} (hW : Tabs W) : PTOk (Fw W) Tryz.prog D_fare_Of := (tabD_cons Tryz.call94 (goodCut2 hW) (tabD_cons Tryz.call221 (g_strings_CutPrefix hW) (tabD_cons Tryz.call222 (g_fare_whole hW) tabD_nil)))
def C_fare_Of : FuncId → Option Ctr := tabC D_fare_Of []
theorem c_fare_Of {W : World} (hW : Tabs W) : CtrOk (Fw W) Tryz.prog C_fare_Of := (tabC_nil (d_fare_Of hW))
theorem g_fare_Of {W : World} (hW : Tabs W) : GoodP (Fw W) Tryz.prog 159 pcFareOf := by
 have hD := d_fare_Of hW
 have hC0 : CtrOk (Fw W) Tryz.prog C_fare_Of := (c_fare_Of hW)
 refine goodP_fun (D := D_fare_Of) (C := C_fare_Of) (wr := (fun _ => false)) rfl tyOk hD hC0 Tryz.func159 (fun _ _ => none) ?_
 clear hC0 hD hW
 intro cs p r h hf hp
 split at h
 case h_2 => cases h
 rename_i s
 cases h
 try simp only [factL, factA, inK_def, Go.Vc.lo, Go.Vc.hi, and_true] at hf
 have e1 := sS_eq (preL 45 s)
 have e2 := sS_eq (cut2 46 (sS (preL 45 s))).1
 have e3 := sS_eq (cut2 46 (sS (preL 45 s))).2.1
 have c1 := preL_le 45 s
 have c2 := cut2_le 46 (sS (preL 45 s))
 have c3 : (sS (preL 45 s)).length ≤ 100000000 := by rw [e1]; omega
 have c4 : (sS (cut2 46 (sS (preL 45 s))).2.1).length ≤ 100000000 := by rw [e3]; omega
 have c5 := cut2_le 46 (preL 45 s)
 have w1 := wholeF_le (sS (cut2 46 (sS (preL 45 s))).1)
 have w2 := wholeF_le ((⟨#[49]⟩ : ByteArray).data.toList ++ sS (cut2 46 (sS (preL 45 s))).2.1)
 have w3 := sI_eq (wholeF (sS (cut2 46 (sS (preL 45 s))).1)).1
 have w4 := sI_eq (wholeF ((⟨#[49]⟩ : ByteArray).data.toList ++ sS (cut2 46 (sS (preL 45 s))).2.1)).1
 have hF : fareF (preL 45 s) = ((cut2 46 (preL 45 s)).2.2 && (wholeF (cut2 46 (preL 45 s)).1).2 && (wholeF ((⟨#[49]⟩ : ByteArray).data.toList ++ (cut2 46 (preL 45 s)).2.1)).2 && decide ((cut2 46 (preL 45 s)).2.1.length = 2)) := fare_parts.1
 have hV : fareF (preL 45 s) = true → (fareV (preL 45 s) = 100 * (wholeF (cut2 46 (preL 45 s)).1).1 + (wholeF ([49] ++ (cut2 46 (preL 45 s)).2.1)).1 - 100 ∨ (1000000000001 < 100 * (wholeF (cut2 46 (preL 45 s)).1).1 + (wholeF ([49] ++ (cut2 46 (preL 45 s)).2.1)).1 - 100 ∧ 1000000000001 < fareV (preL 45 s))) ∧ 0 ≤ 100 * (wholeF (cut2 46 (preL 45 s)).1).1 + (wholeF ([49] ++ (cut2 46 (preL 45 s)).2.1)).1 - 100 := (fare_parts (s := preL 45 s)).2
 have b1 : (cut2 46 (preL 45 s)).2.2 = false → fareOf s = (0, 4) := fun h => fare_bad (by rw [hF, h]; rfl)
 have b2 : (wholeF (cut2 46 (preL 45 s)).1).2 = false → fareOf s = (0, 4) := fun h => fare_bad (by rw [hF, h]; simp)
 have b3 : (wholeF ((⟨#[49]⟩ : ByteArray).data.toList ++ (cut2 46 (preL 45 s)).2.1)).2 = false → fareOf s = (0, 4) := fun h => fare_bad (by rw [hF, h]; simp)
 have b4 : ¬ (cut2 46 (preL 45 s)).2.1.length = 2 → fareOf s = (0, 4) := fun h => fare_bad (by rw [hF, decide_eq_false h]; simp)
 have hg : (cut2 46 (preL 45 s)).2.2 = true → (wholeF (cut2 46 (preL 45 s)).1).2 = true → (wholeF ((⟨#[49]⟩ : ByteArray).data.toList ++ (cut2 46 (preL 45 s)).2.1)).2 = true → (cut2 46 (preL 45 s)).2.1.length = 2 → fareF (preL 45 s) = true := fun h1 h2 h3 h4 => by rw [hF, h1, h2, h3, decide_eq_true h4]; rfl
 clear c2 hF
 (conv => whnf)
 (repeat' ((first
  | with_reducible exact True.intro
  | ((with_reducible refine And.intro ?_ ?_); focus (first | with_reducible exact True.intro | with_reducible assumption | with_reducible rfl | omega | (simp only [inK_def, Go.Vc.lo, Go.Vc.hi]; omega) | (simp only [List.length_append, bytesOf_length, List.toList_toArray, List.length_cons, List.length_nil, List.length_take, List.length_drop, sS_eq]; omega) | (dsimp only at *; simp only [inK_def, Go.Vc.lo, Go.Vc.hi]; omega)))
  | (split <;> rename_i hh <;> (try simp only [wS] at hh) <;> (try simp (disch := omega) only [wT] at hh))
  | with_reducible refine (fun (hln : (_ : Int) ≤ 9223372036854775807) => ?_)
  | with_reducible refine And.intro (?_ : leA _ _ _) ?_
  | fail) <;> (conv => whnf)))
 all_goals (try (show _ = _; simp only [wQ]))
 all_goals first
  | exact absurd (by assumption) Bool.false_ne_true
  | (rw [b1 (by assumption)]; done)
  | (rw [b2 (by assumption)]; done)
  | (rw [b3 (by assumption)]; done)
  | (rw [b4 (by omega)]; done)
  | (
   have hf := hg (by assumption) (by assumption) (by assumption) (by omega)
   obtain ⟨v1, v2⟩ := hV hf
   first
   | (rw [fare_neg (by assumption) hf]; (repeat' split) <;> ((try dsimp only) <;> omega))
   | (rw [fare_pos (by assumption) hf]; (repeat' split) <;> ((try dsimp only) <;> omega)))
def pcSOf : PC := PC.fun fun | [.str s] => some (True, .tup [.int .i64 (sI (statOf s)), .int .i64 (sI (statErr s))]) | _ => none
def D_status_Of : PT := tabD [(220, pcIndex)]
theorem d_status_Of {W : World} (hW : Tabs W) : PTOk (Fw W) Tryz.prog D_status_Of := (tabD_cons Tryz.call220 (goodIndex hW) tabD_nil)
def C_status_Of : FuncId → Option Ctr := tabC D_status_Of []
theorem c_status_Of {W : World} (hW : Tabs W) : CtrOk (Fw W) Tryz.prog C_status_Of := (tabC_nil (d_status_Of hW))
theorem g_status_Of {W : World} (hW : Tabs W) : GoodP (Fw W) Tryz.prog 156 pcSOf := by
 have hD := d_status_Of hW
 have hC0 : CtrOk (Fw W) Tryz.prog C_status_Of := (c_status_Of hW)
 refine goodP_fun (D := D_status_Of) (C := C_status_Of) (wr := (fun _ => false)) rfl tyOk hD hC0 Tryz.func156 (fun _ _ => none) ?_
 clear hC0 hD hW
 intro cs p r h hf hp
 split at h
 case h_2 => cases h
 rename_i s
 cases h
 try simp only [factL, factA, inK_def, Go.Vc.lo, Go.Vc.hi, and_true] at hf
 have h1 : (s.length : Int) = 1 ∨ statOf s = 0 := by
  by_cases h : s.length = 1
  ·exact .inl (by omega)
  ·exact .inr (statOf_long h)
 have h2 : ¬ (s.length : Int) = 1 ∨ Lib.index [79, 67, 76, 70, 69, 82, 86, 83, 65] s = statOf s - 1 := by
  by_cases h : s.length = 1
  ·exact .inr (stat_index' h)
  ·exact .inl (by omega)
 have h4 : sI (Lib.index (⟨#[79, 67, 76, 70, 69, 82, 86, 83, 65]⟩ : ByteArray).data.toList s) = Lib.index [79, 67, 76, 70, 69, 82, 86, 83, 65] s := sI_eq _
 have h6 : statOf s = 0 ∨ (1 ≤ statOf s ∧ statOf s ≤ 9) := (statOf_may (s := s)).imp id mayS_iff.1
 have h7 := statErr_or s
 (conv => whnf)
 (repeat' ((first
  | with_reducible exact True.intro
  | ((with_reducible refine And.intro ?_ ?_); focus (first | with_reducible rfl | (simp only [inK_def, Go.Vc.lo, Go.Vc.hi]; simp (disch := omega) only [Int.tdiv_eq_ediv_of_nonneg, Int.tmod_eq_emod_of_nonneg, sI_eq, sN_eq]; omega) | (simp only [List.length_append, bytesOf_length, List.toList_toArray, List.length_cons, List.length_nil, List.length_take, List.length_drop, sS_eq]; omega)))
  | (split <;> rename_i hh <;> (try simp only [wS] at hh) <;> (try simp (disch := omega) only [wT] at hh))
  | with_reducible refine (fun (hln : (_ : Int) ≤ 9223372036854775807) => ?_)
  | with_reducible refine And.intro (?_ : leA _ _ _) ?_
  | fail) <;> (conv => whnf)))
 all_goals (try (show _ = _; simp only [wQ]))
 all_goals omega
def pcPair : PC := PC.fun fun | [.str s] => some (s.length ≤ 100000000, .tup [.str (sS (pairV s).1), .int .i64 (sI (pairV s).2.1), .bool (sB (pairV s).2.2)]) | _ => none
def D_script_pair : PT := tabD [(94, pcCut2), (159, pcFareOf)]
theorem d_script_pair {W : World} (hW : Tabs W) : PTOk (Fw W) Tryz.prog D_script_pair := (tabD_cons Tryz.call94 (goodCut2 hW) (tabD_cons Tryz.call159 (g_fare_Of hW) tabD_nil))
def C_script_pair : FuncId → Option Ctr := tabC D_script_pair []
theorem c_script_pair {W : World} (hW : Tabs W) : CtrOk (Fw W) Tryz.prog C_script_pair := (tabC_nil (d_script_pair hW))
theorem g_script_pair {W : World} (hW : Tabs W) : GoodP (Fw W) Tryz.prog 224 pcPair := by
 have hD := d_script_pair hW
 have hC0 : CtrOk (Fw W) Tryz.prog C_script_pair := (c_script_pair hW)
 refine goodP_fun (D := D_script_pair) (C := C_script_pair) (wr := (fun _ => false)) rfl tyOk hD hC0 Tryz.func224 (fun _ _ => none) ?_
 clear hC0 hD hW
 intro cs p r h hf hp
 split at h
 case h_2 => cases h
 rename_i s
 cases h
 try simp only [factL, factA, inK_def, Go.Vc.lo, Go.Vc.hi, and_true] at hf
 have c1 := cut2_le 61 s
 have c2 : (sS (cut2 61 s).2.1).length ≤ 100000000 := by rw [sS_eq]; omega
 have h1 : pairV s = ((cut2 61 s).1, (fareOf (cut2 61 s).2.1).1, (cut2 61 s).2.2 && decide ((fareOf (cut2 61 s).2.1).2 = 0)) := by unfold pairV; rfl
 (conv => whnf)
 (repeat' ((first
  | with_reducible exact True.intro
  | ((with_reducible refine And.intro ?_ ?_); focus (first | with_reducible assumption | with_reducible rfl))
  | (split <;> rename_i hh <;> (try simp only [wS] at hh) <;> (try simp (disch := omega) only [wT] at hh))
  | with_reducible refine And.intro (?_ : leA _ _ _) ?_
  | fail) <;> (conv => whnf)))
 all_goals (try (show _ = _; simp only [wQ]))
 all_goals first | (rw [h1]; done) | (rw [h1, Bool.eq_iff_iff]; simp [*, eqI_eq]; done)
def pcFlOf : PC := PC.fun fun | [.str s] => some (s.length ≤ 100000000, .tup [.agg (flOf s).1.enc, .bool (sB (flOf s).2)]) | _ => none
def D_script_flightOf : PT := tabD [(93, pcWhole), (94, pcCut2), (224, pcPair)]
theorem d_script_flightOf {W : World} (hW : Tabs W) : PTOk (Fw W) Tryz.prog D_script_flightOf := (tabD_cons Tryz.call93 (g_script_whole hW) (tabD_cons Tryz.call94 (goodCut2 hW) (tabD_cons Tryz.call224 (g_script_pair hW) tabD_nil)))
def C_script_flightOf : FuncId → Option Ctr := tabC D_script_flightOf []
theorem c_script_flightOf {W : World} (hW : Tabs W) : CtrOk (Fw W) Tryz.prog C_script_flightOf := (tabC_nil (d_script_flightOf hW))
theorem g_script_flightOf {W : World} (hW : Tabs W) : GoodP (Fw W) Tryz.prog 223 pcFlOf := by
 have hD := d_script_flightOf hW
 have hC0 : CtrOk (Fw W) Tryz.prog C_script_flightOf := (c_script_flightOf hW)
 refine goodP_fun (D := D_script_flightOf) (C := C_script_flightOf) (wr := (fun _ => false)) rfl tyOk hD hC0 Tryz.func223 (fun _ _ => none) ?_
 clear hC0 hD hW
 intro cs p r h hf hp
 split at h
 case h_2 => cases h
 rename_i s
 cases h
 try simp only [factL, factA, inK_def, Go.Vc.lo, Go.Vc.hi, and_true] at hf
 have h1 : (sS (pairV s).1).length ≤ 100000000 := by
  rw [sS_eq]; have := cut2_le 61 s; unfold pairV; dsimp only; omega
 have hf : flOf s = (⟨(wholeN (cut2 64 (pairV s).1).1).1, (wholeN (cut2 64 (pairV s).1).2.1).1, (pairV s).2.1, 0, 0, 0⟩, (pairV s).2.2 && (cut2 64 (pairV s).1).2.2 && (wholeN (cut2 64 (pairV s).1).1).2 && (wholeN (cut2 64 (pairV s).1).2.1).2) := by unfold flOf; rfl
 (conv => whnf)
 (repeat' ((first
  | with_reducible exact True.intro
  | ((with_reducible refine And.intro ?_ ?_); focus (first | with_reducible exact True.intro | with_reducible assumption | with_reducible rfl))
  | (split <;> rename_i hh <;> (try simp only [wS] at hh) <;> (try simp (disch := omega) only [wT] at hh))
  | with_reducible refine And.intro (?_ : leA _ _ _) ?_
  | fail) <;> (conv => whnf)))
 all_goals (try (show _ = _; simp only [wQ]))
 all_goals first | (rw [hf]; done) | (rw [hf, Bool.eq_iff_iff]; simp [*]; done)
end
end Go.Vc.Z
