/- Words of lists. -/
import Derived.Test.YtpmpclbdnakniaaGreatDoorV7
set_option linter.all false
set_option linter.unusedVariables false
set_option linter.unusedSimpArgs false
namespace Go.Vc.Z
open Go Go.Vc Go.Proofs Go.RowKit Go.Pl Go.Lib
noncomputable section
set_option maxRecDepth 100000
set_option linter.unusedSimpArgs false
set_option linter.unusedVariables false
attribute [local irreducible] inK Utf8.decode Utf8.encode Lib.itoa Pl.worth Pl.allDig
attribute [local irreducible] Lib.join
def rowS (l : List (List UInt8)) : Blk := match l with
  | [] => .dead
  | c :: l => .row 1 (l.length + 1) (fun e => [.str ((c :: l).getD e [])])
def oslS (id : Nat) : List (List UInt8) → AV
  | [] => .nilsl
  | _ :: l => .osl id 1 0 (l.length + 1) none
theorem cat_strn {l : List (List UInt8)} {n : Nat} {d : List UInt8} {g b : Nat → List AV} (hn : n = l.length) (hg : ∀ e, e < l.length → g e = [.str (l.getD e [])]) (hb : b 0 = [.str d]) {e : Nat} (he : e < n + 1) : catRow n g b e = [AV.str ((l ++ [d]).getD e [])] := by
  subst hn
  rw [← cat_str (L := l) (b := b) hb (by simpa using he)]
  unfold catRow
  split
  · exact hg e (by assumption)
  · rfl
def D_script_digits : PT := tabD [(111, pcItoaS)]
def C_script_digits : FuncId → Option Ctr := tabC D_script_digits []
theorem g_script_digits {W : World} (hW : Tabs W) : GoodP (Fw W) Tryz.prog 46 pcItoaS := by
  have hD : PTOk (Fw W) Tryz.prog D_script_digits := (tabD_cons Tryz.call111 (goodItoaS hW) tabD_nil)
  have hC0 : CtrOk (Fw W) Tryz.prog C_script_digits := (tabC_nil hD)
  refine goodP_fun (D := D_script_digits) (C := C_script_digits) (wr := (fun _ => false)) rfl tyOk hD hC0 Tryz.func46 (fun _ _ => none) ?_
  clear hC0 hD hW
  intro cs p r h hf hp
  split at h
  case h_2 => cases h
  rename_i n
  cases h
  try simp only [factL, factA, inK_def, Go.Vc.lo, Go.Vc.hi, and_true] at hf
  (conv => whnf)
  (repeat' ((first
    | ((with_reducible refine And.intro ?_ ?_); focus (with_reducible exact True.intro))
    | fail) <;> (conv => whnf)))
  all_goals (try (show _ = _; simp only [wQ]))
theorem fareT_len (n : Int) : (fareT n).length ≤ 31 := by
  unfold fareT
  split
  · rename_i h
    unfold moneyB at h; simp at h
    exact moneyT_len (by omega)
  · simp
@[irreducible] def taxW (x : Tax) : List UInt8 := Lib.itoa x.code ++ [61] ++ fareT x.amount
theorem taxW_len {x : Tax} (h : -9223372036854775808 ≤ x.code ∧ x.code ≤ 9223372036854775807) : (taxW x).length ≤ 70 := by
  unfold taxW
  have := itoa_len x.code h.1 h.2
  have := fareT_len x.amount
  simp only [List.length_append, List.length_cons, List.length_nil]; omega
def pcTaxW : PC := PC.fun fun | [.agg [.int .i64 c, .int .i64 a]] => some (True, .str (sS (taxW ⟨c, a⟩))) | _ => none
def D_script_taxes_1 : PT := tabD [(46, pcItoaS), (132, pcFareT)]
def C_script_taxes_1 : FuncId → Option Ctr := tabC D_script_taxes_1 []
theorem g_script_taxes_1 {W : World} (hW : Tabs W) : GoodP (Fw W) Tryz.prog 131 pcTaxW := by
  have hD : PTOk (Fw W) Tryz.prog D_script_taxes_1 := (tabD_cons Tryz.call46 (g_script_digits hW) (tabD_cons Tryz.call132 (g_fareT hW) tabD_nil))
  have hC0 : CtrOk (Fw W) Tryz.prog C_script_taxes_1 := (tabC_nil hD)
  refine goodP_fun (D := D_script_taxes_1) (C := C_script_taxes_1) (wr := (fun _ => false)) rfl tyOk hD hC0 Tryz.func131 (fun _ _ => none) ?_
  clear hC0 hD hW
  intro cs p r h hf hp
  split at h
  case h_2 => cases h
  rename_i c a
  cases h
  try simp only [factL, factA, inK_def, Go.Vc.lo, Go.Vc.hi, and_true] at hf
  have l1 := itoa_len c (by omega) (by omega)
  have l2 := fareT_len a
  have l3 := taxW_len (x := ⟨c, a⟩) (by simp; omega)
  (conv => whnf)
  (repeat' ((first
    | ((with_reducible refine And.intro ?_ ?_); focus (first | with_reducible exact True.intro | ((with_reducible show okB _ _ _ = true); rfl) | (simp only [List.length_append, bytesOf_length, List.toList_toArray, List.length_cons, List.length_nil, List.length_take, List.length_drop, sS_eq]; omega)))
    | fail) <;> (conv => whnf)))
  all_goals (try (show _ = _; simp only [wQ]))
  unfold taxW; rfl
theorem tax_facts {l : List Tax} {r : List AV} (h : factL (slE 2 Tax.enc l :: r)) : ∀ s ∈ l.map taxW, s.length ≤ 200 := by
  intro s hs
  obtain ⟨x, hx, rfl⟩ := List.mem_map.1 hs
  obtain ⟨i, hi, rfl⟩ := List.getElem_of_mem hx
  simp only [factL, factA] at h
  have h1 := (h.1.2 i hi).2.1
  have hx : l.getD i default = l[i] := by simp [List.getD_eq_getElem?_getD, hi]
  rw [hx] at h1
  have h2 : -9223372036854775808 ≤ l[i].code ∧ l[i].code ≤ 9223372036854775807 := inK_def.1 h1
  exact Nat.le_trans (taxW_len h2) (by omega)
def LJTax (l : List Tax) : LoopSpec := {
  α := Nat × List (List UInt8)
  keep := [1, 5, 8, 9, 10]
  vals x := [.fn 131 [], oslS 0 x.2, slE 2 Tax.enc l, .int .i64 l.length, .int .i64 x.1]
  heap x := [rowS x.2]
  ok x := x.1 ≤ l.length ∧ x.2 = (l.take x.1).map taxW
  μ x := l.length - x.1 }
def pcJTax : PC := PC.of (fun l : List Tax => [slE 2 Tax.enc l, .fn 131 []]) (fun l => 0 < l.length ∧ l.length ≤ 1000000) (fun l => .str (sS (Lib.join (l.map taxW) [44])))
def D_script_joined_api_Tax : PT := tabD [(62, pcJoinS), (131, pcTaxW)]
def C_script_joined_api_Tax : FuncId → Option Ctr := tabC D_script_joined_api_Tax []
def L_script_joined_api_Tax : List Tax → Nat → Option LR := fun l i => cond (Nat.beq i 3) (some (.inv (LJTax l))) (none)
set_option maxHeartbeats 2000000 in
theorem g_script_joined_api_Tax {W : World} (hW : Tabs W) : GoodP (Fw W) Tryz.prog 130 pcJTax := by
  have hD : PTOk (Fw W) Tryz.prog D_script_joined_api_Tax := (tabD_cons Tryz.call62 (goodJoinS hW) (tabD_cons Tryz.call131 (g_script_taxes_1 hW) tabD_nil))
  have hC0 : ∀ l : List Tax, CtrOk (Fw W) Tryz.prog (C_script_joined_api_Tax) := fun l => (tabC_nil hD)
  refine goodP_ofC (D := D_script_joined_api_Tax) (C := fun l => C_script_joined_api_Tax) (wr := (fun _ => false)) rfl tyOk hD hC0 Tryz.func130 (L_script_joined_api_Tax) (fun _ => rfl) ?_
  intro l hf hp
  obtain ⟨hp0, hp1⟩ := hp
  have hw : ∀ s ∈ l.map taxW, s.length ≤ 200 := (tax_facts hf)
  clear hf
  (conv => whnf)
  (repeat' ((first
    | with_reducible refine (fun (hln : (_ : Int) ≤ 9223372036854775807) => ?_)
    | fail) <;> (conv => whnf)))
  all_goals (try (show _ = _; simp only [wQ]))
  refine ⟨?_, fun (x : Nat × List (List UInt8)) hx => ?_⟩
  · (conv => whnf)
    refine ⟨((0, []) : Nat × List (List UInt8)), [], ?_, ⟨⟨rfl, Nat.le_of_ble_eq_true rfl, rfl⟩, ?_, ?_⟩⟩
    · exact ⟨Nat.zero_le _, rfl⟩
    · exact leL_rfl _
    · (conv => whnf)
      (repeat' ((first | with_reducible exact True.intro | fail) <;> (conv => whnf)))
      all_goals (try simp only [wQ])
  · obtain ⟨i, L⟩ := x
    obtain ⟨h1, h2⟩ := hx
    change i ≤ l.length at h1
    change L = (l.take i).map taxW at h2
    have hlen : L.length = i := by rw [h2]; simp; omega
    have hstep : i < l.length → L ++ [taxW (l.getD (Int.toNat (i : Int)) default)] = (l.take (i + 1)).map taxW := fun h => by
      rw [h2, List.take_add_one, List.map_append, List.getElem?_eq_getElem h]
      have : l.getD (Int.toNat (i : Int)) default = l[i] := by
        rw [show Int.toNat (i : Int) = i from rfl, List.getD_eq_getElem?_getD, List.getElem?_eq_getElem h]; rfl
      rw [this]; rfl
    rcases L with _ | ⟨s, L⟩
    · have hi : i = 0 := by simpa using hlen.symm
      subst hi
      (conv => whnf)
      (repeat' ((first
        | ((with_reducible refine And.intro ?_ ?_); focus (first | with_reducible exact True.intro | omega | (simp only [inK_def, Go.Vc.lo, Go.Vc.hi]; omega) | (simp only [growOk, ty2, ty3, ty4, ty5, ty9, ty21, ty37, ty42, ty43, ty45, ty47, ty67, ty95, ty105, ty113, ty150, ty161, ty198, ty242, ty275]; first | omega | (refine ⟨?_, ?_⟩ <;> omega))))
        | (split <;> rename_i hh <;> (try simp only [wS] at hh) <;> (try simp (disch := omega) only [Int.tdiv_eq_ediv_of_nonneg, Int.tmod_eq_emod_of_nonneg] at hh))
        | fail) <;> (conv => whnf)))
      all_goals (try (show _ = _; simp only [wQ]))
      · (conv => whnf)
        refine ⟨((1, [taxW (l.getD (Int.toNat ((0 : Nat) : Int)) default)]) : Nat × List (List UInt8)), [3], ?_, ⟨⟨rfl, Nat.le_of_ble_eq_true rfl, rfl⟩, ?_, ?_⟩⟩
        · exact ⟨⟨show 1 ≤ l.length by omega, hstep (by omega)⟩, show l.length - 1 < l.length - 0 by omega⟩
        · (conv => whnf)
          (repeat' ((first | with_reducible exact True.intro | ((with_reducible refine Or.inr ?_); rfl) | ((with_reducible refine And.intro ?_ ?_); focus (first | with_reducible rfl | omega | exact Nat.le_of_ble_eq_true rfl | rfl)) | with_reducible refine And.intro (?_ : leA _ _ _) ?_ | fail) <;> (conv => whnf)))
          all_goals (try simp only [wQ])
          all_goals (try first | omega | exact ⟨fun h => h, fun _ _ => True.intro⟩)
        · (conv => whnf)
          (repeat' ((first | with_reducible exact True.intro | ((with_reducible refine And.intro ?_ ?_); focus (first | with_reducible rfl | omega | exact Nat.le_of_ble_eq_true rfl | rfl)) | with_reducible refine And.intro (?_ : leBlk _ _ _ _) ?_ | fail) <;> (conv => whnf)))
          all_goals (try simp only [wQ])
          intro e he
          have he : e < 1 := he
          obtain rfl : e = 0 := by omega
          exact ⟨rfl, rfl⟩
      · exfalso; omega
    · have hlen2 : L.length + 1 = i := hlen
      (conv => whnf)
      (repeat' ((first
        | ((with_reducible refine And.intro ?_ ?_); focus (first | with_reducible exact True.intro | ((with_reducible refine ⟨?_, ?_, ?_⟩) <;> first | (intro e he; rcases (by omega : e = 0 ∨ e = 1 ∨ e = 2 ∨ e = 3 ∨ e = 4 ∨ e = 5) with rfl | rfl | rfl | rfl | rfl | rfl <;> first | rfl | (exfalso; omega)) | (with_reducible assumption) | omega | ((with_reducible show growOk _ _); simp only [growOk, ty2, ty3, ty4, ty5, ty9, ty21, ty37, ty42, ty43, ty45, ty47, ty67, ty95, ty105, ty113, ty150, ty161, ty198, ty242, ty275, List.length_cons, List.length_nil]; first | omega | (refine ⟨?_, ?_⟩ <;> omega))) | omega | (simp only [inK_def, Go.Vc.lo, Go.Vc.hi]; omega)))
        | (split <;> rename_i hh <;> (try simp only [wS] at hh) <;> (try simp (disch := omega) only [Int.tdiv_eq_ediv_of_nonneg, Int.tmod_eq_emod_of_nonneg] at hh))
        | fail) <;> (conv => whnf)))
      all_goals (try (show _ = _; simp only [wQ]))
      · (conv => whnf)
        refine ⟨((i + 1, s :: L ++ [taxW (l.getD (Int.toNat (i : Int)) default)]) : Nat × List (List UInt8)), [3], ?_, ⟨⟨rfl, Nat.le_of_ble_eq_true rfl, rfl⟩, ?_, ?_⟩⟩
        · exact ⟨⟨show i + 1 ≤ l.length by omega, hstep (by omega)⟩, show l.length - (i + 1) < l.length - i by omega⟩
        · (conv => whnf)
          (repeat' ((first | with_reducible exact True.intro | ((with_reducible refine And.intro ?_ ?_); focus (first | with_reducible rfl | omega | exact Nat.le_of_ble_eq_true rfl | rfl)) | with_reducible refine And.intro (?_ : leA _ _ _) ?_ | fail) <;> (conv => whnf)))
          all_goals (try simp only [wQ])
          all_goals (try first | omega | exact ⟨fun h => h, fun _ _ => True.intro⟩)
          all_goals (try first | exact ⟨by simp, Or.inl trivial⟩)
        · (conv => whnf)
          (repeat' ((first | with_reducible exact True.intro | ((with_reducible refine And.intro ?_ ?_); focus (first | with_reducible rfl | omega | exact Nat.le_of_ble_eq_true rfl | rfl)) | with_reducible refine And.intro (?_ : leBlk _ _ _ _) ?_ | fail) <;> (conv => whnf)))
          all_goals (try simp only [wQ])
          exact ⟨by simp, fun e he => ⟨cat_strn (l := s :: L) rfl (fun _ _ => rfl) rfl (by simpa using he), rfl⟩⟩
      · have hi : i = l.length := by omega
        rw [hi, List.take_length] at h2
        refine ⟨⟨by omega, fun e he => rfl⟩, ?_⟩
        refine ⟨((s :: L, [44]) : List (List UInt8) × List UInt8), ⟨by have := join_le [44] 200 (s :: L) (by rw [h2]; exact hw); simp at this; show (Lib.join (s :: L) [44]).length ≤ _; omega, by show (s :: L).length ≤ _; simp; omega⟩, ?_, ?_⟩
        · (conv => whnf)
          (repeat' ((first | with_reducible exact True.intro | ((with_reducible refine And.intro ?_ ?_); focus (first | with_reducible rfl | omega | exact Nat.le_of_ble_eq_true rfl | rfl)) | with_reducible refine And.intro (?_ : leA _ _ _) ?_ | fail) <;> (conv => whnf)))
          all_goals (try simp only [wQ])
          all_goals (try first | (refine ⟨fun h => h, fun e he => ?_⟩; rw [Nat.zero_add]; done))
        (conv => whnf)
        all_goals (try (show _ = _; simp only [wQ]))
        rw [h2]
@[irreducible] def taxesW (l : List Tax) : List UInt8 := if l.length = 0 then [45] else Lib.join (l.map taxW) [44]
def pcTaxesW : PC := PC.of (fun l : List Tax => [slE 2 Tax.enc l]) (fun l => l.length ≤ 1000000) (fun l => .str (sS (taxesW l)))
def D_script_taxes : PT := tabD [(130, pcJTax), (131, pcTaxW)]
def C_script_taxes : FuncId → Option Ctr := tabC D_script_taxes []
theorem g_script_taxes {W : World} (hW : Tabs W) : GoodP (Fw W) Tryz.prog 58 pcTaxesW := by
  have hD : PTOk (Fw W) Tryz.prog D_script_taxes := (tabD_cons Tryz.call130 (g_script_joined_api_Tax hW) (tabD_cons Tryz.call131 (g_script_taxes_1 hW) tabD_nil))
  have hC0 : ∀ l : List Tax, CtrOk (Fw W) Tryz.prog (C_script_taxes) := fun l => (tabC_nil hD)
  refine goodP_ofC (D := D_script_taxes) (C := fun l => C_script_taxes) (wr := (fun _ => false)) rfl tyOk hD hC0 Tryz.func58 (fun _ _ => none) (fun _ => rfl) ?_
  intro l hf hp
  clear hf
  (conv => whnf)
  (repeat' ((first
    | (split <;> rename_i hh <;> (try simp only [wS] at hh) <;> (try simp (disch := omega) only [Int.tdiv_eq_ediv_of_nonneg, Int.tmod_eq_emod_of_nonneg] at hh))
    | with_reducible refine (fun (hln : (_ : Int) ≤ 9223372036854775807) => ?_)
    | fail) <;> (conv => whnf)))
  all_goals (try (show _ = _; simp only [wQ]))
  · unfold taxesW; rw [if_pos (by omega)]
  · refine ⟨l, ⟨by omega, hp⟩, ?_, ?_⟩
    · exact leL_rfl _
    (conv => whnf)
    all_goals (try (show _ = _; simp only [wQ]))
    unfold taxesW; rw [if_neg (by omega)]
@[irreducible] def flightW (c : Coupon) : List UInt8 := Lib.itoa c.flight ++ [64] ++ Lib.itoa c.day ++ [61] ++ fareT c.value
@[irreducible] def couponW (c : Coupon) : List UInt8 := flightW c ++ [58] ++ letterS c.status ++ (if c.holder = 0 then [] else 47 :: Lib.itoa c.holder) ++ (if c.next = 0 then [] else 62 :: numText c.next)
theorem letterS_len (s : Int) : (letterS s).length ≤ 1 := by
  by_cases h : mayS s = true
  · obtain ⟨c, hc, _⟩ := letter_one h; rw [hc]; exact Nat.le_refl 1
  · unfold letterS; rw [if_neg h]; simp
theorem flightW_len {c : Coupon} (h1 : -9223372036854775808 ≤ c.flight ∧ c.flight ≤ 9223372036854775807) (h2 : -9223372036854775808 ≤ c.day ∧ c.day ≤ 9223372036854775807) : (flightW c).length ≤ 100 := by
  unfold flightW
  have := itoa_len c.flight h1.1 h1.2
  have := itoa_len c.day h2.1 h2.2
  have := fareT_len c.value
  simp only [List.length_append, List.length_cons, List.length_nil]; omega
theorem couponW_len {c : Coupon} (h1 : -9223372036854775808 ≤ c.flight ∧ c.flight ≤ 9223372036854775807) (h2 : -9223372036854775808 ≤ c.day ∧ c.day ≤ 9223372036854775807) (h3 : -9223372036854775808 ≤ c.holder ∧ c.holder ≤ 9223372036854775807) : (couponW c).length ≤ 200 := by
  unfold couponW
  have := flightW_len h1 h2
  have := itoa_len c.holder h3.1 h3.2
  have := letterS_len c.status
  have := numText_len c.next
  simp only [List.length_append, List.length_cons, List.length_nil]
  repeat' split
  all_goals (try simp only [List.length_cons, List.length_nil])
  all_goals omega
def pcFlightW : PC := PC.fun fun | [.agg [.int .i64 cf, .int .i64 cd, .int .i64 cv, .int .i64 cs, .int .i64 ch, .int .u64 cx]] => some (True, .str (sS (flightW (Coupon.mk cf cd cv cs ch cx)))) | _ => none
def pcCouponW : PC := PC.fun fun | [.agg [.int .i64 cf, .int .i64 cd, .int .i64 cv, .int .i64 cs, .int .i64 ch, .int .u64 cx]] => some (True, .str (sS (couponW (Coupon.mk cf cd cv cs ch cx)))) | _ => none
def D_script_flight : PT := tabD [(46, pcItoaS), (132, pcFareT)]
def C_script_flight : FuncId → Option Ctr := tabC D_script_flight []
theorem g_script_flight {W : World} (hW : Tabs W) : GoodP (Fw W) Tryz.prog 129 pcFlightW := by
  have hD : PTOk (Fw W) Tryz.prog D_script_flight := (tabD_cons Tryz.call46 (g_script_digits hW) (tabD_cons Tryz.call132 (g_fareT hW) tabD_nil))
  have hC0 : CtrOk (Fw W) Tryz.prog C_script_flight := (tabC_nil hD)
  refine goodP_fun (D := D_script_flight) (C := C_script_flight) (wr := (fun _ => false)) rfl tyOk hD hC0 Tryz.func129 (fun _ _ => none) ?_
  clear hC0 hD hW
  intro cs p r h hf hp
  split at h
  case h_2 => cases h
  rename_i cf cd cv cs ch cx
  cases h
  try simp only [factL, factA, inK_def, Go.Vc.lo, Go.Vc.hi, and_true] at hf
  have l1 := itoa_len cf (by omega) (by omega)
  have l2 := itoa_len cd (by omega) (by omega)
  have l3 := fareT_len cv
  clear hf
  (conv => whnf)
  (repeat' ((first
    | ((with_reducible refine And.intro ?_ ?_); focus (first | with_reducible exact True.intro | ((with_reducible show okB _ _ _ = true); rfl) | (simp only [List.length_append, bytesOf_length, List.toList_toArray, List.length_cons, List.length_nil, List.length_take, List.length_drop, sS_eq]; omega)))
    | fail) <;> (conv => whnf)))
  all_goals (try (show _ = _; simp only [wQ]))
  unfold flightW; rfl
def D_script_coupon : PT := tabD [(129, pcFlightW), (61, pcLetter), (46, pcItoaS), (54, pcNText)]
def C_script_coupon : FuncId → Option Ctr := tabC D_script_coupon []
theorem g_script_coupon {W : World} (hW : Tabs W) : GoodP (Fw W) Tryz.prog 57 pcCouponW := by
  have hD : PTOk (Fw W) Tryz.prog D_script_coupon := (tabD_cons Tryz.call129 (g_script_flight hW) (tabD_cons Tryz.call61 (g_status_Letter hW) (tabD_cons Tryz.call46 (g_script_digits hW) (tabD_cons Tryz.call54 (g_number_Text hW) tabD_nil))))
  have hC0 : CtrOk (Fw W) Tryz.prog C_script_coupon := (tabC_nil hD)
  refine goodP_fun (D := D_script_coupon) (C := C_script_coupon) (wr := (fun _ => false)) rfl tyOk hD hC0 Tryz.func57 (fun _ _ => none) ?_
  clear hC0 hD hW
  intro cs p r h hf hp
  split at h
  case h_2 => cases h
  rename_i cf cd cv cs ch cx
  cases h
  try simp only [factL, factA, inK_def, Go.Vc.lo, Go.Vc.hi, and_true] at hf
  have l1 := flightW_len (c := (Coupon.mk cf cd cv cs ch cx)) (by simp; omega) (by simp; omega)
  have l2 := letterS_len cs
  have l3 := itoa_len ch (by omega) (by omega)
  have l4 := numText_len cx
  have l5 := couponW_len (c := (Coupon.mk cf cd cv cs ch cx)) (by simp; omega) (by simp; omega) (by simp; omega)
  have e : couponW (Coupon.mk cf cd cv cs ch cx) = flightW (Coupon.mk cf cd cv cs ch cx) ++ [58] ++ letterS cs ++ (if ch = 0 then [] else 47 :: Lib.itoa ch) ++ (if cx = 0 then [] else 62 :: numText cx) := by unfold couponW; rfl
  clear hf
  (conv => whnf)
  (repeat' ((first
    | ((with_reducible refine And.intro ?_ ?_); focus (first | with_reducible exact True.intro | ((with_reducible show okB _ _ _ = true); rfl) | (simp only [List.length_append, bytesOf_length, List.toList_toArray, List.length_cons, List.length_nil, List.length_take, List.length_drop, sS_eq]; omega)))
    | (split <;> rename_i hh <;> (try simp only [wS] at hh) <;> (try simp (disch := omega) only [Int.tdiv_eq_ediv_of_nonneg, Int.tmod_eq_emod_of_nonneg] at hh))
    | fail) <;> (conv => whnf)))
  all_goals (try (show _ = _; simp only [wQ]))
  all_goals (rw [e]; simp [*])
theorem coupon_facts {l : List Coupon} {r : List AV} (h : factL (slE 6 Coupon.enc l :: r)) : ∀ s ∈ l.map couponW, s.length ≤ 200 := by
  intro s hs
  obtain ⟨x, hx, rfl⟩ := List.mem_map.1 hs
  obtain ⟨i, hi, rfl⟩ := List.getElem_of_mem hx
  simp only [factL, factA] at h
  have h1 := (h.1.2 i hi).2
  have hx : l.getD i default = l[i] := by simp [List.getD_eq_getElem?_getD, hi]
  rw [hx] at h1
  exact couponW_len (inK_def.1 h1.1) (inK_def.1 h1.2.1) (inK_def.1 h1.2.2.2.2.1)
def LJCoupon (l : List Coupon) : LoopSpec := {
  α := Nat × List (List UInt8)
  keep := [1, 5, 8, 9, 10]
  vals x := [.fn 57 [], oslS 0 x.2, slE 6 Coupon.enc l, .int .i64 l.length, .int .i64 x.1]
  heap x := [rowS x.2]
  ok x := x.1 ≤ l.length ∧ x.2 = (l.take x.1).map couponW
  μ x := l.length - x.1 }
def pcJCoupon : PC := PC.of (fun l : List Coupon => [slE 6 Coupon.enc l, .fn 57 []]) (fun l => 0 < l.length ∧ l.length ≤ 1000000) (fun l => .str (sS (Lib.join (l.map couponW) [44])))
def D_script_joined_api_Coupon : PT := tabD [(62, pcJoinS), (57, pcCouponW)]
def C_script_joined_api_Coupon : FuncId → Option Ctr := tabC D_script_joined_api_Coupon []
def L_script_joined_api_Coupon : List Coupon → Nat → Option LR := fun l i => cond (Nat.beq i 3) (some (.inv (LJCoupon l))) (none)
set_option maxHeartbeats 2000000 in
theorem g_script_joined_api_Coupon {W : World} (hW : Tabs W) : GoodP (Fw W) Tryz.prog 56 pcJCoupon := by
  have hD : PTOk (Fw W) Tryz.prog D_script_joined_api_Coupon := (tabD_cons Tryz.call62 (goodJoinS hW) (tabD_cons Tryz.call57 (g_script_coupon hW) tabD_nil))
  have hC0 : ∀ l : List Coupon, CtrOk (Fw W) Tryz.prog (C_script_joined_api_Coupon) := fun l => (tabC_nil hD)
  refine goodP_ofC (D := D_script_joined_api_Coupon) (C := fun l => C_script_joined_api_Coupon) (wr := (fun _ => false)) rfl tyOk hD hC0 Tryz.func56 (L_script_joined_api_Coupon) (fun _ => rfl) ?_
  intro l hf hp
  obtain ⟨hp0, hp1⟩ := hp
  have hw : ∀ s ∈ l.map couponW, s.length ≤ 200 := (coupon_facts hf)
  clear hf
  (conv => whnf)
  (repeat' ((first
    | with_reducible refine (fun (hln : (_ : Int) ≤ 9223372036854775807) => ?_)
    | fail) <;> (conv => whnf)))
  all_goals (try (show _ = _; simp only [wQ]))
  refine ⟨?_, fun (x : Nat × List (List UInt8)) hx => ?_⟩
  · (conv => whnf)
    refine ⟨((0, []) : Nat × List (List UInt8)), [], ?_, ⟨⟨rfl, Nat.le_of_ble_eq_true rfl, rfl⟩, ?_, ?_⟩⟩
    · exact ⟨Nat.zero_le _, rfl⟩
    · exact leL_rfl _
    · (conv => whnf)
      (repeat' ((first | with_reducible exact True.intro | fail) <;> (conv => whnf)))
      all_goals (try simp only [wQ])
  · obtain ⟨i, L⟩ := x
    obtain ⟨h1, h2⟩ := hx
    change i ≤ l.length at h1
    change L = (l.take i).map couponW at h2
    have hlen : L.length = i := by rw [h2]; simp; omega
    have hstep : i < l.length → L ++ [couponW (l.getD (Int.toNat (i : Int)) default)] = (l.take (i + 1)).map couponW := fun h => by
      rw [h2, List.take_add_one, List.map_append, List.getElem?_eq_getElem h]
      have : l.getD (Int.toNat (i : Int)) default = l[i] := by
        rw [show Int.toNat (i : Int) = i from rfl, List.getD_eq_getElem?_getD, List.getElem?_eq_getElem h]; rfl
      rw [this]; rfl
    rcases L with _ | ⟨s, L⟩
    · have hi : i = 0 := by simpa using hlen.symm
      subst hi
      (conv => whnf)
      (repeat' ((first
        | ((with_reducible refine And.intro ?_ ?_); focus (first | with_reducible exact True.intro | omega | (simp only [inK_def, Go.Vc.lo, Go.Vc.hi]; omega) | (simp only [growOk, ty2, ty3, ty4, ty5, ty9, ty21, ty37, ty42, ty43, ty45, ty47, ty67, ty95, ty105, ty113, ty150, ty161, ty198, ty242, ty275]; first | omega | (refine ⟨?_, ?_⟩ <;> omega))))
        | (split <;> rename_i hh <;> (try simp only [wS] at hh) <;> (try simp (disch := omega) only [Int.tdiv_eq_ediv_of_nonneg, Int.tmod_eq_emod_of_nonneg] at hh))
        | fail) <;> (conv => whnf)))
      all_goals (try (show _ = _; simp only [wQ]))
      · (conv => whnf)
        refine ⟨((1, [couponW (l.getD (Int.toNat ((0 : Nat) : Int)) default)]) : Nat × List (List UInt8)), [3], ?_, ⟨⟨rfl, Nat.le_of_ble_eq_true rfl, rfl⟩, ?_, ?_⟩⟩
        · exact ⟨⟨show 1 ≤ l.length by omega, hstep (by omega)⟩, show l.length - 1 < l.length - 0 by omega⟩
        · (conv => whnf)
          (repeat' ((first | with_reducible exact True.intro | ((with_reducible refine Or.inr ?_); rfl) | ((with_reducible refine And.intro ?_ ?_); focus (first | with_reducible rfl | omega | exact Nat.le_of_ble_eq_true rfl | rfl)) | with_reducible refine And.intro (?_ : leA _ _ _) ?_ | fail) <;> (conv => whnf)))
          all_goals (try simp only [wQ])
          all_goals (try first | omega | exact ⟨fun h => h, fun _ _ => True.intro⟩)
        · (conv => whnf)
          (repeat' ((first | with_reducible exact True.intro | ((with_reducible refine And.intro ?_ ?_); focus (first | with_reducible rfl | omega | exact Nat.le_of_ble_eq_true rfl | rfl)) | with_reducible refine And.intro (?_ : leBlk _ _ _ _) ?_ | fail) <;> (conv => whnf)))
          all_goals (try simp only [wQ])
          intro e he
          have he : e < 1 := he
          obtain rfl : e = 0 := by omega
          exact ⟨rfl, rfl⟩
      · exfalso; omega
    · have hlen2 : L.length + 1 = i := hlen
      (conv => whnf)
      (repeat' ((first
        | ((with_reducible refine And.intro ?_ ?_); focus (first | with_reducible exact True.intro | ((with_reducible refine ⟨?_, ?_, ?_⟩) <;> first | (intro e he; rcases (by omega : e = 0 ∨ e = 1 ∨ e = 2 ∨ e = 3 ∨ e = 4 ∨ e = 5) with rfl | rfl | rfl | rfl | rfl | rfl <;> first | rfl | (exfalso; omega)) | (with_reducible assumption) | omega | ((with_reducible show growOk _ _); simp only [growOk, ty2, ty3, ty4, ty5, ty9, ty21, ty37, ty42, ty43, ty45, ty47, ty67, ty95, ty105, ty113, ty150, ty161, ty198, ty242, ty275, List.length_cons, List.length_nil]; first | omega | (refine ⟨?_, ?_⟩ <;> omega))) | omega | (simp only [inK_def, Go.Vc.lo, Go.Vc.hi]; omega)))
        | (split <;> rename_i hh <;> (try simp only [wS] at hh) <;> (try simp (disch := omega) only [Int.tdiv_eq_ediv_of_nonneg, Int.tmod_eq_emod_of_nonneg] at hh))
        | fail) <;> (conv => whnf)))
      all_goals (try (show _ = _; simp only [wQ]))
      · (conv => whnf)
        refine ⟨((i + 1, s :: L ++ [couponW (l.getD (Int.toNat (i : Int)) default)]) : Nat × List (List UInt8)), [3], ?_, ⟨⟨rfl, Nat.le_of_ble_eq_true rfl, rfl⟩, ?_, ?_⟩⟩
        · exact ⟨⟨show i + 1 ≤ l.length by omega, hstep (by omega)⟩, show l.length - (i + 1) < l.length - i by omega⟩
        · (conv => whnf)
          (repeat' ((first | with_reducible exact True.intro | ((with_reducible refine And.intro ?_ ?_); focus (first | with_reducible rfl | omega | exact Nat.le_of_ble_eq_true rfl | rfl)) | with_reducible refine And.intro (?_ : leA _ _ _) ?_ | fail) <;> (conv => whnf)))
          all_goals (try simp only [wQ])
          all_goals (try first | omega | exact ⟨fun h => h, fun _ _ => True.intro⟩)
          all_goals (try first | exact ⟨by simp, Or.inl trivial⟩)
        · (conv => whnf)
          (repeat' ((first | with_reducible exact True.intro | ((with_reducible refine And.intro ?_ ?_); focus (first | with_reducible rfl | omega | exact Nat.le_of_ble_eq_true rfl | rfl)) | with_reducible refine And.intro (?_ : leBlk _ _ _ _) ?_ | fail) <;> (conv => whnf)))
          all_goals (try simp only [wQ])
          exact ⟨by simp, fun e he => ⟨cat_strn (l := s :: L) rfl (fun _ _ => rfl) rfl (by simpa using he), rfl⟩⟩
      · have hi : i = l.length := by omega
        rw [hi, List.take_length] at h2
        refine ⟨⟨by omega, fun e he => rfl⟩, ?_⟩
        refine ⟨((s :: L, [44]) : List (List UInt8) × List UInt8), ⟨by have := join_le [44] 200 (s :: L) (by rw [h2]; exact hw); simp at this; show (Lib.join (s :: L) [44]).length ≤ _; omega, by show (s :: L).length ≤ _; simp; omega⟩, ?_, ?_⟩
        · (conv => whnf)
          (repeat' ((first | with_reducible exact True.intro | ((with_reducible refine And.intro ?_ ?_); focus (first | with_reducible rfl | omega | exact Nat.le_of_ble_eq_true rfl | rfl)) | with_reducible refine And.intro (?_ : leA _ _ _) ?_ | fail) <;> (conv => whnf)))
          all_goals (try simp only [wQ])
          all_goals (try first | (refine ⟨fun h => h, fun e he => ?_⟩; rw [Nat.zero_add]; done))
        (conv => whnf)
        all_goals (try (show _ = _; simp only [wQ]))
        rw [h2]
@[irreducible] def eventW (x : Event) : List UInt8 := Lib.itoa x.day ++ [46] ++ Lib.itoa x.coupon ++ [46] ++ letterS x.src ++ letterS x.dst
theorem eventW_len {x : Event} (h : -9223372036854775808 ≤ x.day ∧ x.day ≤ 9223372036854775807) (h2 : -9223372036854775808 ≤ x.coupon ∧ x.coupon ≤ 9223372036854775807) : (eventW x).length ≤ 200 := by
  unfold eventW
  have := itoa_len x.day h.1 h.2
  have := itoa_len x.coupon h2.1 h2.2
  have := letterS_len x.src
  have := letterS_len x.dst
  simp only [List.length_append, List.length_cons, List.length_nil]; omega
def pcEventW : PC := PC.fun fun | [.agg [.int .i64 d, .int .i64 c, .int .i64 f, .int .i64 t]] => some (True, .str (sS (eventW ⟨d, c, f, t⟩))) | _ => none
def D_script_TicketLine_1 : PT := tabD [(46, pcItoaS), (61, pcLetter)]
def C_script_TicketLine_1 : FuncId → Option Ctr := tabC D_script_TicketLine_1 []
theorem g_script_TicketLine_1 {W : World} (hW : Tabs W) : GoodP (Fw W) Tryz.prog 60 pcEventW := by
  have hD : PTOk (Fw W) Tryz.prog D_script_TicketLine_1 := (tabD_cons Tryz.call46 (g_script_digits hW) (tabD_cons Tryz.call61 (g_status_Letter hW) tabD_nil))
  have hC0 : CtrOk (Fw W) Tryz.prog C_script_TicketLine_1 := (tabC_nil hD)
  refine goodP_fun (D := D_script_TicketLine_1) (C := C_script_TicketLine_1) (wr := (fun _ => false)) rfl tyOk hD hC0 Tryz.func60 (fun _ _ => none) ?_
  clear hC0 hD hW
  intro cs p r h hf hp
  split at h
  case h_2 => cases h
  rename_i d c f t
  cases h
  try simp only [factL, factA, inK_def, Go.Vc.lo, Go.Vc.hi, and_true] at hf
  have l1 := itoa_len d (by omega) (by omega)
  have l2 := itoa_len c (by omega) (by omega)
  have l3 := letterS_len f
  have l4 := letterS_len t
  clear hf
  (conv => whnf)
  (repeat' ((first
    | ((with_reducible refine And.intro ?_ ?_); focus (first | with_reducible exact True.intro | ((with_reducible show okB _ _ _ = true); rfl) | (simp only [List.length_append, bytesOf_length, List.toList_toArray, List.length_cons, List.length_nil, List.length_take, List.length_drop, sS_eq]; omega)))
    | fail) <;> (conv => whnf)))
  all_goals (try (show _ = _; simp only [wQ]))
  unfold eventW; simp
theorem event_facts {l : List Event} {r : List AV} (h : factL (slE 4 Event.enc l :: r)) : ∀ s ∈ l.map eventW, s.length ≤ 200 := by
  intro s hs
  obtain ⟨x, hx, rfl⟩ := List.mem_map.1 hs
  obtain ⟨i, hi, rfl⟩ := List.getElem_of_mem hx
  simp only [factL, factA] at h
  have h1 := (h.1.2 i hi).2
  have hx : l.getD i default = l[i] := by simp [List.getD_eq_getElem?_getD, hi]
  rw [hx] at h1
  exact eventW_len (inK_def.1 h1.1) (inK_def.1 h1.2.1)
def LJEvent (l : List Event) : LoopSpec := {
  α := Nat × List (List UInt8)
  keep := [1, 5, 8, 9, 10]
  vals x := [.fn 60 [], oslS 0 x.2, slE 4 Event.enc l, .int .i64 l.length, .int .i64 x.1]
  heap x := [rowS x.2]
  ok x := x.1 ≤ l.length ∧ x.2 = (l.take x.1).map eventW
  μ x := l.length - x.1 }
def pcJEvent : PC := PC.of (fun l : List Event => [slE 4 Event.enc l, .fn 60 []]) (fun l => 0 < l.length ∧ l.length ≤ 1000000) (fun l => .str (sS (Lib.join (l.map eventW) [44])))
def D_script_joined_api_Event : PT := tabD [(62, pcJoinS), (60, pcEventW)]
def C_script_joined_api_Event : FuncId → Option Ctr := tabC D_script_joined_api_Event []
def L_script_joined_api_Event : List Event → Nat → Option LR := fun l i => cond (Nat.beq i 3) (some (.inv (LJEvent l))) (none)
set_option maxHeartbeats 2000000 in
theorem g_script_joined_api_Event {W : World} (hW : Tabs W) : GoodP (Fw W) Tryz.prog 59 pcJEvent := by
  have hD : PTOk (Fw W) Tryz.prog D_script_joined_api_Event := (tabD_cons Tryz.call62 (goodJoinS hW) (tabD_cons Tryz.call60 (g_script_TicketLine_1 hW) tabD_nil))
  have hC0 : ∀ l : List Event, CtrOk (Fw W) Tryz.prog (C_script_joined_api_Event) := fun l => (tabC_nil hD)
  refine goodP_ofC (D := D_script_joined_api_Event) (C := fun l => C_script_joined_api_Event) (wr := (fun _ => false)) rfl tyOk hD hC0 Tryz.func59 (L_script_joined_api_Event) (fun _ => rfl) ?_
  intro l hf hp
  obtain ⟨hp0, hp1⟩ := hp
  have hw : ∀ s ∈ l.map eventW, s.length ≤ 200 := (event_facts hf)
  clear hf
  (conv => whnf)
  (repeat' ((first
    | with_reducible refine (fun (hln : (_ : Int) ≤ 9223372036854775807) => ?_)
    | fail) <;> (conv => whnf)))
  all_goals (try (show _ = _; simp only [wQ]))
  refine ⟨?_, fun (x : Nat × List (List UInt8)) hx => ?_⟩
  · (conv => whnf)
    refine ⟨((0, []) : Nat × List (List UInt8)), [], ?_, ⟨⟨rfl, Nat.le_of_ble_eq_true rfl, rfl⟩, ?_, ?_⟩⟩
    · exact ⟨Nat.zero_le _, rfl⟩
    · exact leL_rfl _
    · (conv => whnf)
      (repeat' ((first | with_reducible exact True.intro | fail) <;> (conv => whnf)))
      all_goals (try simp only [wQ])
  · obtain ⟨i, L⟩ := x
    obtain ⟨h1, h2⟩ := hx
    change i ≤ l.length at h1
    change L = (l.take i).map eventW at h2
    have hlen : L.length = i := by rw [h2]; simp; omega
    have hstep : i < l.length → L ++ [eventW (l.getD (Int.toNat (i : Int)) default)] = (l.take (i + 1)).map eventW := fun h => by
      rw [h2, List.take_add_one, List.map_append, List.getElem?_eq_getElem h]
      have : l.getD (Int.toNat (i : Int)) default = l[i] := by
        rw [show Int.toNat (i : Int) = i from rfl, List.getD_eq_getElem?_getD, List.getElem?_eq_getElem h]; rfl
      rw [this]; rfl
    rcases L with _ | ⟨s, L⟩
    · have hi : i = 0 := by simpa using hlen.symm
      subst hi
      (conv => whnf)
      (repeat' ((first
        | ((with_reducible refine And.intro ?_ ?_); focus (first | with_reducible exact True.intro | omega | (simp only [inK_def, Go.Vc.lo, Go.Vc.hi]; omega) | (simp only [growOk, ty2, ty3, ty4, ty5, ty9, ty21, ty37, ty42, ty43, ty45, ty47, ty67, ty95, ty105, ty113, ty150, ty161, ty198, ty242, ty275]; first | omega | (refine ⟨?_, ?_⟩ <;> omega))))
        | (split <;> rename_i hh <;> (try simp only [wS] at hh) <;> (try simp (disch := omega) only [Int.tdiv_eq_ediv_of_nonneg, Int.tmod_eq_emod_of_nonneg] at hh))
        | fail) <;> (conv => whnf)))
      all_goals (try (show _ = _; simp only [wQ]))
      · (conv => whnf)
        refine ⟨((1, [eventW (l.getD (Int.toNat ((0 : Nat) : Int)) default)]) : Nat × List (List UInt8)), [3], ?_, ⟨⟨rfl, Nat.le_of_ble_eq_true rfl, rfl⟩, ?_, ?_⟩⟩
        · exact ⟨⟨show 1 ≤ l.length by omega, hstep (by omega)⟩, show l.length - 1 < l.length - 0 by omega⟩
        · (conv => whnf)
          (repeat' ((first | with_reducible exact True.intro | ((with_reducible refine Or.inr ?_); rfl) | ((with_reducible refine And.intro ?_ ?_); focus (first | with_reducible rfl | omega | exact Nat.le_of_ble_eq_true rfl | rfl)) | with_reducible refine And.intro (?_ : leA _ _ _) ?_ | fail) <;> (conv => whnf)))
          all_goals (try simp only [wQ])
          all_goals (try first | omega | exact ⟨fun h => h, fun _ _ => True.intro⟩)
        · (conv => whnf)
          (repeat' ((first | with_reducible exact True.intro | ((with_reducible refine And.intro ?_ ?_); focus (first | with_reducible rfl | omega | exact Nat.le_of_ble_eq_true rfl | rfl)) | with_reducible refine And.intro (?_ : leBlk _ _ _ _) ?_ | fail) <;> (conv => whnf)))
          all_goals (try simp only [wQ])
          intro e he
          have he : e < 1 := he
          obtain rfl : e = 0 := by omega
          exact ⟨rfl, rfl⟩
      · exfalso; omega
    · have hlen2 : L.length + 1 = i := hlen
      (conv => whnf)
      (repeat' ((first
        | ((with_reducible refine And.intro ?_ ?_); focus (first | with_reducible exact True.intro | ((with_reducible refine ⟨?_, ?_, ?_⟩) <;> first | (intro e he; rcases (by omega : e = 0 ∨ e = 1 ∨ e = 2 ∨ e = 3 ∨ e = 4 ∨ e = 5) with rfl | rfl | rfl | rfl | rfl | rfl <;> first | rfl | (exfalso; omega)) | (with_reducible assumption) | omega | ((with_reducible show growOk _ _); simp only [growOk, ty2, ty3, ty4, ty5, ty9, ty21, ty37, ty42, ty43, ty45, ty47, ty67, ty95, ty105, ty113, ty150, ty161, ty198, ty242, ty275, List.length_cons, List.length_nil]; first | omega | (refine ⟨?_, ?_⟩ <;> omega))) | omega | (simp only [inK_def, Go.Vc.lo, Go.Vc.hi]; omega)))
        | (split <;> rename_i hh <;> (try simp only [wS] at hh) <;> (try simp (disch := omega) only [Int.tdiv_eq_ediv_of_nonneg, Int.tmod_eq_emod_of_nonneg] at hh))
        | fail) <;> (conv => whnf)))
      all_goals (try (show _ = _; simp only [wQ]))
      · (conv => whnf)
        refine ⟨((i + 1, s :: L ++ [eventW (l.getD (Int.toNat (i : Int)) default)]) : Nat × List (List UInt8)), [3], ?_, ⟨⟨rfl, Nat.le_of_ble_eq_true rfl, rfl⟩, ?_, ?_⟩⟩
        · exact ⟨⟨show i + 1 ≤ l.length by omega, hstep (by omega)⟩, show l.length - (i + 1) < l.length - i by omega⟩
        · (conv => whnf)
          (repeat' ((first | with_reducible exact True.intro | ((with_reducible refine And.intro ?_ ?_); focus (first | with_reducible rfl | omega | exact Nat.le_of_ble_eq_true rfl | rfl)) | with_reducible refine And.intro (?_ : leA _ _ _) ?_ | fail) <;> (conv => whnf)))
          all_goals (try simp only [wQ])
          all_goals (try first | omega | exact ⟨fun h => h, fun _ _ => True.intro⟩)
          all_goals (try first | exact ⟨by simp, Or.inl trivial⟩)
        · (conv => whnf)
          (repeat' ((first | with_reducible exact True.intro | ((with_reducible refine And.intro ?_ ?_); focus (first | with_reducible rfl | omega | exact Nat.le_of_ble_eq_true rfl | rfl)) | with_reducible refine And.intro (?_ : leBlk _ _ _ _) ?_ | fail) <;> (conv => whnf)))
          all_goals (try simp only [wQ])
          exact ⟨by simp, fun e he => ⟨cat_strn (l := s :: L) rfl (fun _ _ => rfl) rfl (by simpa using he), rfl⟩⟩
      · have hi : i = l.length := by omega
        rw [hi, List.take_length] at h2
        refine ⟨⟨by omega, fun e he => rfl⟩, ?_⟩
        refine ⟨((s :: L, [44]) : List (List UInt8) × List UInt8), ⟨by have := join_le [44] 200 (s :: L) (by rw [h2]; exact hw); simp at this; show (Lib.join (s :: L) [44]).length ≤ _; omega, by show (s :: L).length ≤ _; simp; omega⟩, ?_, ?_⟩
        · (conv => whnf)
          (repeat' ((first | with_reducible exact True.intro | ((with_reducible refine And.intro ?_ ?_); focus (first | with_reducible rfl | omega | exact Nat.le_of_ble_eq_true rfl | rfl)) | with_reducible refine And.intro (?_ : leA _ _ _) ?_ | fail) <;> (conv => whnf)))
          all_goals (try simp only [wQ])
          all_goals (try first | (refine ⟨fun h => h, fun e he => ?_⟩; rw [Nat.zero_add]; done))
        (conv => whnf)
        all_goals (try (show _ = _; simp only [wQ]))
        rw [h2]
end
end Go.Vc.Z

/- Tickets' lines. -/
namespace Go.Vc.Z
open Go Go.Vc Go.Proofs Go.RowKit Go.Pl Go.Lib
noncomputable section
set_option maxRecDepth 100000
set_option linter.unusedSimpArgs false
set_option linter.unusedVariables false
attribute [local irreducible] inK Utf8.decode Utf8.encode Lib.itoa Pl.worth Pl.allDig
attribute [local irreducible] Lib.join
abbrev numsL (t : Ticket) : List Int := [t.prev, t.origin, t.first, t.voucher, t.posts]
abbrev decW (n : Int) : List UInt8 := decDigits n.toNat
def tkHead (t : Ticket) : List (List UInt8) := [[116, 105, 99, 107, 101, 116], numText t.number, t.locator, Lib.itoa t.issued]
def histW (t : Ticket) : List UInt8 := if t.history.length = 0 then [45] else Lib.join (t.history.map eventW) [44]
def tkTail (t : Ticket) : List (List UInt8) := [Lib.join (t.coupons.map couponW) [44], taxesW t.taxes, histW t]
def tkParts (t : Ticket) : List (List UInt8) := tkHead t ++ (numsL t).map decW ++ tkTail t
@[irreducible] def ticketW (t : Ticket) : List UInt8 := if mayTicketB t = true then Lib.join (tkParts t) [32] else []
def LTk (t : Ticket) : LoopSpec := {
  α := Nat × List (List UInt8)
  keep := [1, 3, 30, 31, 32]
  vals x := [.ptr 0 0, .osl 11 1 0 x.2.length none, .osl 10 1 0 5 (some 5), .int .i64 5, .int .i64 x.1]
  heap x := [.var t.enc, .dead, .dead, .dead, .dead, .dead, .dead, .dead, .dead, .dead, .row 1 5 (fun e => [.int .u64 ((numsL t).getD e 0)]), .row 1 x.2.length (fun e => [.str (x.2.getD e [])])]
  ok x := x.1 ≤ 5 ∧ x.2 = tkHead t ++ ((numsL t).take x.1).map decW
  μ x := 5 - x.1 }
theorem may_facts {t : Ticket} (h : mayTicketB t = true) : (1 ≤ t.coupons.length ∧ t.coupons.length ≤ 4) ∧ t.history.length ≤ 60 ∧ headB t = true ∧ taxesB t.taxes = true ∧ couponsB t.number t.coupons = true := by
  unfold mayTicketB at h
  simp only [Bool.and_eq_true, decide_eq_true_eq] at h
  exact ⟨⟨h.1.1.1.1.1.1, h.1.1.1.1.1.2⟩, h.1.1.1.1.2, h.1.1.1.2, h.1.1.2, h.1.2⟩
theorem head_facts {t : Ticket} (h : headB t = true) : checkN t.number = 0 ∧ locOk t.locator = true ∧ (0 ≤ t.issued ∧ t.issued ≤ 1000000) ∧ checkN t.first = 0 ∧ (0 ≤ t.voucher ∧ t.voucher ≤ 1125899906842624) ∧ (0 ≤ t.posts ∧ t.posts ≤ 200) := by
  unfold headB mayHeadB numdB at h
  simp only [Bool.and_eq_true, decide_eq_true_eq] at h
  obtain ⟨⟨⟨⟨⟨⟨⟨⟨h1, h2⟩, h3⟩, h4⟩, h5⟩, h6⟩, h7⟩, h8⟩, h9⟩ := h
  exact ⟨h1, h2, dayB_le h3, h5, ⟨h6, h7⟩, ⟨h8, h9⟩⟩
theorem locOk_len {s : List UInt8} (h : locOk s = true) : s.length = 6 := by
  unfold locOk at h; simp at h; exact h.2
theorem taxesW_len {l : List Tax} (h : l.length ≤ 4) (hf : ∀ s ∈ l.map taxW, s.length ≤ 200) : (taxesW l).length ≤ 1000 := by
  unfold taxesW
  split
  · simp
  · have := join_le [44] 200 _ hf
    simp at this; omega
theorem tkParts_word {t : Ticket} (hmay : mayTicketB t = true) (hfc : factL [slE 6 Coupon.enc t.coupons]) (hft : factL [slE 2 Tax.enc t.taxes]) (hfe : factL [slE 4 Event.enc t.history]) (hu : t.prev ≤ 18446744073709551615 ∧ t.origin ≤ 18446744073709551615 ∧ t.first ≤ 18446744073709551615) : ∀ s ∈ tkParts t, s.length ≤ 1000000 := by
  obtain ⟨f1, f2, f3, f4, f5⟩ := may_facts hmay
  obtain ⟨g1, g2, g3, g4, g5, g6⟩ := head_facts f3
  have htx : t.taxes.length ≤ 4 := by
    unfold taxesB at f4; simp at f4; exact f4.2
  have a1 := numText_len t.number
  have a2 := locOk_len g2
  have a3 := itoa_len t.issued (by omega) (by omega)
  have a4 := join_le [44] 200 _ (coupon_facts hfc)
  have a5 := taxesW_len htx (tax_facts hft)
  have a6 := join_le [44] 200 _ (event_facts hfe)
  intro s hs
  simp only [tkParts, tkHead, tkTail, List.map_cons, List.map_nil, List.cons_append, List.nil_append, List.mem_cons, List.not_mem_nil, or_false] at hs
  rcases hs with rfl | rfl | rfl | rfl | rfl | rfl | rfl | rfl | rfl | rfl | rfl | rfl
  · decide
  · omega
  · omega
  · omega
  · have := dec_len_le (t.prev).toNat (by omega); exact Nat.le_trans this (by omega)
  · have := dec_len_le (t.origin).toNat (by omega); exact Nat.le_trans this (by omega)
  · have := dec_len_le (t.first).toNat (by omega); exact Nat.le_trans this (by omega)
  · have := dec_len_le (t.voucher).toNat (by omega); exact Nat.le_trans this (by omega)
  · have := dec_len_le (t.posts).toNat (by omega); exact Nat.le_trans this (by omega)
  · simp at a4; omega
  · omega
  · unfold histW
    split
    · decide
    · simp at a6; omega
def pcTicketW : PC := PC.of (fun t : Ticket => [.agg t.enc]) (fun _ => True) (fun t => .str (sS (ticketW t)))
def D_script_TicketLine : PT := tabD [(53, pcMayTicket), (54, pcNText), (46, pcItoaS), (55, pcFmtUint), (56, pcJCoupon), (57, pcCouponW), (58, pcTaxesW), (59, pcJEvent), (60, pcEventW), (62, pcJoinS)]
def C_script_TicketLine : FuncId → Option Ctr := tabC D_script_TicketLine []
def L_script_TicketLine : Ticket → Nat → Option LR := fun t i => cond (Nat.beq i 5) (some (.inv (LTk t))) (none)
set_option maxHeartbeats 2000000 in
theorem g_script_TicketLine {W : World} (hW : Tabs W) : GoodP (Fw W) Tryz.prog 18 pcTicketW := by
  have hD : PTOk (Fw W) Tryz.prog D_script_TicketLine := (tabD_cons Tryz.call53 (g_ticket_May hW) (tabD_cons Tryz.call54 (g_number_Text hW) (tabD_cons Tryz.call46 (g_script_digits hW) (tabD_cons Tryz.call55 (goodFmtUint hW) (tabD_cons Tryz.call56 (g_script_joined_api_Coupon hW) (tabD_cons Tryz.call57 (g_script_coupon hW) (tabD_cons Tryz.call58 (g_script_taxes hW) (tabD_cons Tryz.call59 (g_script_joined_api_Event hW) (tabD_cons Tryz.call60 (g_script_TicketLine_1 hW) (tabD_cons Tryz.call62 (goodJoinS hW) tabD_nil))))))))))
  have hC0 : ∀ t : Ticket, CtrOk (Fw W) Tryz.prog (C_script_TicketLine) := fun t => (tabC_nil hD)
  refine goodP_ofC (D := D_script_TicketLine) (C := fun t => C_script_TicketLine) (wr := (fun _ => false)) rfl tyOk hD hC0 Tryz.func18 (L_script_TicketLine) (fun _ => rfl) ?_
  intro t hf hp
  clear hp
  have hfc : factL [slE 6 Coupon.enc t.coupons] := by
    simp only [factL, factA, and_true] at hf ⊢; exact hf.2.2.2.1
  have hft : factL [slE 2 Tax.enc t.taxes] := by
    simp only [factL, factA, and_true] at hf ⊢; exact hf.2.2.2.2.1
  have hfe : factL [slE 4 Event.enc t.history] := by
    simp only [factL, factA, and_true] at hf ⊢; exact hf.2.2.2.2.2.2.2.2.2.2
  have hu : t.prev ≤ 18446744073709551615 ∧ t.origin ≤ 18446744073709551615 ∧ t.first ≤ 18446744073709551615 := by
    simp only [factL, factA, and_true] at hf
    obtain ⟨_, _, _, _, _, k1, k2, k3, _⟩ := hf
    exact ⟨(inK_def.1 k1).2, (inK_def.1 k2).2, (inK_def.1 k3).2⟩
  clear hf
  by_cases hmay : mayTicketB t = true
  · have hex : ¬ mayTicketB t = false := by rw [hmay]; simp
    obtain ⟨f1, f2, f3, f4, f5⟩ := may_facts hmay
    obtain ⟨g1, g2, g3, g4, g5, g6⟩ := head_facts f3
    (conv => whnf)
    all_goals (try (show _ = _; simp only [wQ]))
    refine ⟨t, True.intro, ?_, ?_⟩
    · exact leL_rfl _
    (conv => whnf)
    (repeat' ((first
      | (exact absurd (by with_reducible assumption) hex)
      | ((with_reducible refine And.intro ?_ ?_); focus (first | with_reducible exact True.intro | ((with_reducible show okB _ _ _ = true); rfl) | (simp only [inK_def, Go.Vc.lo, Go.Vc.hi]; omega)))
      | (split <;> rename_i hh <;> (try simp only [wS] at hh) <;> (try simp (disch := omega) only [Int.tdiv_eq_ediv_of_nonneg, Int.tmod_eq_emod_of_nonneg] at hh))
      | with_reducible refine (fun (hln : (_ : Int) ≤ 9223372036854775807) => ?_)
      | fail) <;> (conv => whnf)))
    all_goals (try (show _ = _; simp only [wQ]))
    refine ⟨?_, fun (x : Nat × List (List UInt8)) hx => ?_⟩
    · (conv => whnf)
      refine ⟨((0, tkHead t) : Nat × List (List UInt8)), [9], ?_, ⟨⟨rfl, Nat.le_of_ble_eq_true rfl, rfl⟩, ?_, ?_⟩⟩
      · exact ⟨Nat.zero_le _, by simp⟩
      · (conv => whnf)
        (repeat' ((first | with_reducible exact True.intro | ((with_reducible refine Or.inr ?_); rfl) | ((with_reducible refine And.intro ?_ ?_); focus (first | with_reducible rfl | omega | exact Nat.le_of_ble_eq_true rfl | rfl)) | with_reducible refine And.intro (?_ : leA _ _ _) ?_ | fail) <;> (conv => whnf)))
        all_goals (try simp only [wQ])
        all_goals (try first | omega | exact Or.inl True.intro)
      · (conv => whnf)
        (repeat' ((first | with_reducible exact True.intro | ((with_reducible refine And.intro ?_ ?_); focus (first | with_reducible rfl | omega | exact Nat.le_of_ble_eq_true rfl | rfl)) | with_reducible refine And.intro (?_ : leA _ _ _) ?_ | with_reducible refine And.intro (?_ : leL _ _ _) ?_ | with_reducible refine And.intro (?_ : leBlk _ _ _ _) ?_ | fail) <;> (conv => whnf)))
        all_goals (try simp only [wQ])
        all_goals (try first | rfl | exact ⟨fun h => h, fun _ _ => True.intro⟩)
        all_goals (intro e he)
        · change e < 5 at he
          rcases (by omega : e = 0 ∨ e = 1 ∨ e = 2 ∨ e = 3 ∨ e = 4) with rfl | rfl | rfl | rfl | rfl
          all_goals exact ⟨rfl, rfl⟩
        · change e < 4 at he
          rcases (by omega : e = 0 ∨ e = 1 ∨ e = 2 ∨ e = 3) with rfl | rfl | rfl | rfl
          all_goals exact ⟨rfl, rfl⟩
    · obtain ⟨i, L⟩ := x
      obtain ⟨h1, h2⟩ := hx
      change i ≤ 5 at h1
      change L = tkHead t ++ ((numsL t).take i).map decW at h2
      have hlen : L.length = 4 + i := by rw [h2]; simp [tkHead]; omega
      have hstep : i < 5 → L ++ [decW ((numsL t).getD (0 + Int.toNat (i : Int)) 0)] = tkHead t ++ ((numsL t).take (i + 1)).map decW := fun h => by
        rw [h2]
        rcases (by omega : i = 0 ∨ i = 1 ∨ i = 2 ∨ i = 3 ∨ i = 4) with rfl | rfl | rfl | rfl | rfl
        all_goals rfl
      have htx : t.taxes.length ≤ 4 := by
        unfold taxesB at f4; simp at f4; exact f4.2
      (conv => whnf)
      (repeat' ((first
        | ((with_reducible refine And.intro ?_ ?_); focus (first | ((with_reducible refine ⟨?_, ?_, ?_⟩) <;> first | (intro e he; rcases (by omega : e = 0 ∨ e = 1 ∨ e = 2 ∨ e = 3 ∨ e = 4 ∨ e = 5) with rfl | rfl | rfl | rfl | rfl | rfl <;> first | rfl | (exfalso; omega)) | (with_reducible assumption) | omega | ((with_reducible show growOk _ _); simp only [growOk, ty2, ty3, ty4, ty5, ty9, ty21, ty37, ty42, ty43, ty45, ty47, ty67, ty95, ty105, ty113, ty150, ty161, ty198, ty242, ty275, List.length_cons, List.length_nil]; first | omega | (refine ⟨?_, ?_⟩ <;> omega))) | with_reducible rfl | omega | (simp only [inK_def, Go.Vc.lo, Go.Vc.hi]; omega)))
        | (split <;> rename_i hh <;> (try simp only [wS] at hh) <;> (try simp (disch := omega) only [Int.tdiv_eq_ediv_of_nonneg, Int.tmod_eq_emod_of_nonneg] at hh))
        | fail) <;> (conv => whnf)))
      all_goals (try (show _ = _; simp only [wQ]))
      · (conv => whnf)
        refine ⟨((i + 1, L ++ [decW ((numsL t).getD (0 + Int.toNat (i : Int)) 0)]) : Nat × List (List UInt8)), [13], ?_, ⟨⟨rfl, Nat.le_of_ble_eq_true rfl, rfl⟩, ?_, ?_⟩⟩
        · exact ⟨⟨show i + 1 ≤ 5 by omega, hstep (by omega)⟩, show 5 - (i + 1) < 5 - i by omega⟩
        · (conv => whnf)
          (repeat' ((first | with_reducible exact True.intro | ((with_reducible refine Or.inr ?_); rfl) | ((with_reducible refine And.intro ?_ ?_); focus (first | with_reducible rfl | omega | exact Nat.le_of_ble_eq_true rfl | rfl)) | with_reducible refine And.intro (?_ : leA _ _ _) ?_ | fail) <;> (conv => whnf)))
          all_goals (try simp only [wQ])
          all_goals (try first | omega)
          all_goals (try first | exact ⟨by simp, Or.inl trivial⟩)
        · (conv => whnf)
          (repeat' ((first | with_reducible exact True.intro | ((with_reducible refine And.intro ?_ ?_); focus (first | with_reducible rfl | omega | exact Nat.le_of_ble_eq_true rfl | rfl)) | with_reducible refine And.intro (?_ : leA _ _ _) ?_ | with_reducible refine And.intro (?_ : leL _ _ _) ?_ | with_reducible refine And.intro (?_ : leBlk _ _ _ _) ?_ | fail) <;> (conv => whnf)))
          all_goals (try simp only [wQ])
          all_goals (try first | rfl | exact ⟨fun h => h, fun _ _ => True.intro⟩)
          all_goals (try first | exact fun _ _ => ⟨True.intro, rfl⟩ | exact ⟨by simp, fun e he => ⟨cat_str rfl he, rfl⟩⟩)
      · obtain rfl : i = 5 := by omega
        subst h2
        clear hstep
        have hj := join_le [32] 1000000 (tkParts t) (tkParts_word hmay hfc hft hfe hu)
        have hjl : (tkParts t).length = 12 := rfl
        refine ⟨t.coupons, ⟨by omega, by omega⟩, ?_, ?_⟩
        · exact leL_rfl _
        (conv => whnf)
        all_goals (try (show _ = _; simp only [wQ]))
        refine ⟨t.taxes, (by show t.taxes.length ≤ 1000000; omega), ?_, ?_⟩
        · exact leL_rfl _
        (conv => whnf)
        (repeat' ((first
          | ((with_reducible refine And.intro ?_ ?_); focus (first | ((with_reducible refine ⟨?_, ?_, ?_⟩) <;> first | (intro e he; rcases (by omega : e = 0 ∨ e = 1 ∨ e = 2 ∨ e = 3 ∨ e = 4 ∨ e = 5) with rfl | rfl | rfl | rfl | rfl | rfl <;> first | rfl | (exfalso; omega)) | (with_reducible assumption) | omega | ((with_reducible show growOk _ _); simp only [growOk, ty2, ty3, ty4, ty5, ty9, ty21, ty37, ty42, ty43, ty45, ty47, ty67, ty95, ty105, ty113, ty150, ty161, ty198, ty242, ty275, List.length_cons, List.length_nil]; first | omega | (refine ⟨?_, ?_⟩ <;> omega))) | ((with_reducible show okB _ _ _ = true); rfl) | omega | (simp only [inK_def, Go.Vc.lo, Go.Vc.hi]; omega)))
          | (split <;> rename_i hh <;> (try simp only [wS] at hh) <;> (try simp (disch := omega) only [Int.tdiv_eq_ediv_of_nonneg, Int.tmod_eq_emod_of_nonneg] at hh))
          | with_reducible refine (fun (hln : (_ : Int) ≤ 9223372036854775807) => ?_)
          | fail) <;> (conv => whnf)))
        all_goals (try (show _ = _; simp only [wQ]))
        · refine ⟨t.history, ⟨by omega, by omega⟩, ?_, ?_⟩
          · exact leL_rfl _
          (conv => whnf)
          (repeat' ((first
            | ((with_reducible refine And.intro ?_ ?_); focus (omega))
            | fail) <;> (conv => whnf)))
          all_goals (try (show _ = _; simp only [wQ]))
          have hh9 : histW t = Lib.join (t.history.map eventW) [44] := by unfold histW; rw [if_neg (by omega)]
          refine ⟨⟨Nat.le_of_ble_eq_true rfl, fun e he => ?_⟩, ?_⟩
          · change e < 12 at he
            rcases (by omega : e = 0 ∨ e = 1 ∨ e = 2 ∨ e = 3 ∨ e = 4 ∨ e = 5 ∨ e = 6 ∨ e = 7 ∨ e = 8 ∨ e = 9 ∨ e = 10 ∨ e = 11) with rfl | rfl | rfl | rfl | rfl | rfl | rfl | rfl | rfl | rfl | rfl | rfl
            all_goals rfl
          · refine ⟨((tkParts t, [32]) : List (List UInt8) × List UInt8), ⟨?_, Nat.le_of_ble_eq_true rfl⟩, ?_, ?_⟩
            · show (Lib.join (tkParts t) [32]).length ≤ _
              rw [hjl] at hj; simp at hj; omega
            · (conv => whnf)
              (repeat' ((first | with_reducible exact True.intro | ((with_reducible refine And.intro ?_ ?_); focus (first | with_reducible rfl | omega | exact Nat.le_of_ble_eq_true rfl | rfl)) | with_reducible refine And.intro (?_ : leA _ _ _) ?_ | fail) <;> (conv => whnf)))
              all_goals (try simp only [wQ])
              refine ⟨fun h => h, fun e he => ?_⟩
              change e < 12 at he
              rcases (by omega : e = 0 ∨ e = 1 ∨ e = 2 ∨ e = 3 ∨ e = 4 ∨ e = 5 ∨ e = 6 ∨ e = 7 ∨ e = 8 ∨ e = 9 ∨ e = 10 ∨ e = 11) with rfl | rfl | rfl | rfl | rfl | rfl | rfl | rfl | rfl | rfl | rfl | rfl
              all_goals first | rfl | (show [AV.str _] = [AV.str (histW t)]; rw [hh9])
            (conv => whnf)
            all_goals (try (show _ = _; simp only [wQ]))
            unfold ticketW; rw [if_pos hmay]
        · have hh9 : histW t = [45] := by unfold histW; rw [if_pos (by omega)]
          refine ⟨⟨Nat.le_of_ble_eq_true rfl, fun e he => ?_⟩, ?_⟩
          · change e < 12 at he
            rcases (by omega : e = 0 ∨ e = 1 ∨ e = 2 ∨ e = 3 ∨ e = 4 ∨ e = 5 ∨ e = 6 ∨ e = 7 ∨ e = 8 ∨ e = 9 ∨ e = 10 ∨ e = 11) with rfl | rfl | rfl | rfl | rfl | rfl | rfl | rfl | rfl | rfl | rfl | rfl
            all_goals rfl
          · refine ⟨((tkParts t, [32]) : List (List UInt8) × List UInt8), ⟨?_, Nat.le_of_ble_eq_true rfl⟩, ?_, ?_⟩
            · show (Lib.join (tkParts t) [32]).length ≤ _
              rw [hjl] at hj; simp at hj; omega
            · (conv => whnf)
              (repeat' ((first | with_reducible exact True.intro | ((with_reducible refine And.intro ?_ ?_); focus (first | with_reducible rfl | omega | exact Nat.le_of_ble_eq_true rfl | rfl)) | with_reducible refine And.intro (?_ : leA _ _ _) ?_ | fail) <;> (conv => whnf)))
              all_goals (try simp only [wQ])
              refine ⟨fun h => h, fun e he => ?_⟩
              change e < 12 at he
              rcases (by omega : e = 0 ∨ e = 1 ∨ e = 2 ∨ e = 3 ∨ e = 4 ∨ e = 5 ∨ e = 6 ∨ e = 7 ∨ e = 8 ∨ e = 9 ∨ e = 10 ∨ e = 11) with rfl | rfl | rfl | rfl | rfl | rfl | rfl | rfl | rfl | rfl | rfl | rfl
              all_goals first | rfl | (show [AV.str _] = [AV.str (histW t)]; rw [hh9])
            (conv => whnf)
            all_goals (try (show _ = _; simp only [wQ]))
            unfold ticketW; rw [if_pos hmay]
  · have hex := hmay
    (conv => whnf)
    all_goals (try (show _ = _; simp only [wQ]))
    refine ⟨t, True.intro, ?_, ?_⟩
    · exact leL_rfl _
    (conv => whnf)
    (repeat' ((first
      | (exact absurd (by with_reducible assumption) hex)
      | (split <;> rename_i hh <;> (try simp only [wS] at hh) <;> (try simp (disch := omega) only [Int.tdiv_eq_ediv_of_nonneg, Int.tmod_eq_emod_of_nonneg] at hh))
      | fail) <;> (conv => whnf)))
    all_goals (try (show _ = _; simp only [wQ]))
    unfold ticketW; rw [if_neg hmay]
end
end Go.Vc.Z

/- Answers: may one be? -/
namespace Go.Vc.Z
open Go Go.Vc Go.Proofs Go.RowKit Go.Pl Go.Lib
noncomputable section
set_option maxRecDepth 100000
set_option linter.unusedSimpArgs false
set_option linter.unusedVariables false
attribute [local irreducible] inK Utf8.decode Utf8.encode Lib.itoa Pl.worth Pl.allDig
@[irreducible] def longB (a : Answer) : Bool := decide (200 < a.tickets.length) || decide (5000 < a.postings.length) || decide (200 < a.loans.length)
@[irreducible] def mayAnsB (a : Answer) : Bool := !longB a && decide (0 ≤ a.code) && decide (a.code ≤ 17) && a.tickets.all mayTicketB && a.postings.all mayPostB && a.loans.all loanB
def pcLong : PC := PC.of (fun a : Answer => [.agg a.enc]) (fun _ => True) (fun a => .bool (sB (longB a)))
def pcMayAns : PC := PC.of (fun a : Answer => [.agg a.enc]) (fun _ => True) (fun a => .bool (sB (mayAnsB a)))
def D_request_long : PT := tabD []
def C_request_long : FuncId → Option Ctr := tabC D_request_long []
theorem g_request_long {W : World} (hW : Tabs W) : GoodP (Fw W) Tryz.prog 106 pcLong := by
  have hD : PTOk (Fw W) Tryz.prog D_request_long := tabD_nil
  have hC0 : ∀ a : Answer, CtrOk (Fw W) Tryz.prog (C_request_long) := fun a => (tabC_nil hD)
  refine goodP_ofC (D := D_request_long) (C := fun a => C_request_long) (wr := (fun _ => false)) rfl tyOk hD hC0 Tryz.func106 (fun _ _ => none) (fun _ => rfl) ?_
  intro a hf hp
  clear hf
  (conv => whnf)
  (repeat' ((first
    | (split <;> rename_i hh <;> (try simp only [wS] at hh) <;> (try simp (disch := omega) only [Int.tdiv_eq_ediv_of_nonneg, Int.tmod_eq_emod_of_nonneg] at hh))
    | with_reducible refine (fun (hln : (_ : Int) ≤ 9223372036854775807) => ?_)
    | fail) <;> (conv => whnf)))
  all_goals (try (show _ = _; simp only [wQ]))
  all_goals (unfold longB; first | (symm; simp only [Bool.or_eq_true, decide_eq_true_eq]; omega) | (rw [ltI_eq, decide_eq_false (show ¬ 200 < a.tickets.length by omega), decide_eq_false (show ¬ 5000 < a.postings.length by omega), Bool.false_or, Bool.false_or]; exact decide_eq_decide.2 ⟨fun h => by omega, fun h => by omega⟩))
theorem all_getD {α : Type} [Inhabited α] {p : α → Bool} {l : List α} (h : ∀ j, j < l.length → p (l.getD j default) = true) : l.all p = true := by
  refine List.all_eq_true.2 fun x hx => ?_
  obtain ⟨i, hi, rfl⟩ := List.getElem_of_mem hx
  have := h i hi
  rwa [List.getD_eq_getElem?_getD, List.getElem?_eq_getElem hi] at this
theorem not_all_getD {α : Type} [Inhabited α] {p : α → Bool} {l : List α} {j : Nat} (hj : j < l.length) (h : p (l.getD j default) = false) : l.all p = false := by
  refine Bool.eq_false_iff.2 fun ha => ?_
  have := List.all_eq_true.1 ha l[j] (List.getElem_mem hj)
  rw [List.getD_eq_getElem?_getD, List.getElem?_eq_getElem hj] at h
  rw [show (some l[j]).getD default = l[j] from rfl, this] at h
  cases h
def LMA (a : Answer) (n : Nat) (keep : List Nat) (vals : Nat → List AV) (p : Nat → Bool) : LoopSpec := {
  α := Nat
  keep := keep
  vals := vals
  heap _ := [.var a.enc]
  ok i := i ≤ n ∧ ∀ j, j < i → p j = true
  μ i := n - i }
def D_request_MayAnswer : PT := tabD [(106, pcLong), (53, pcMayTicket), (107, pcMayPost), (110, pcLoan)]
def C_request_MayAnswer : FuncId → Option Ctr := tabC D_request_MayAnswer []
def C1_request_MayAnswer (a : Answer) : FuncId → Option Ctr := tabC D_request_MayAnswer [(109, inl TY (C_request_MayAnswer) D_request_MayAnswer (fun _ => false) (fun _ _ _ => none) Tryz.f109)]
def LI2_request_MayAnswer (a : Answer) : List AV → List Blk → Nat → Option LR := fun _ _ i => cond (Nat.beq i 2) (some (.inv (LMA a a.loans.length [0, 1, 7, 8] (fun i => [slE 9 Loan.enc a.loans, .fn 109 [], .int .i64 a.loans.length, .int .i64 i]) (fun j => loanB (a.loans.getD j default))))) none
def C2_request_MayAnswer (a : Answer) : FuncId → Option Ctr := tabC D_request_MayAnswer [(187, inl TY (C1_request_MayAnswer a) D_request_MayAnswer (fun _ => false) (LI2_request_MayAnswer a) Tryz.f187), (109, inl TY (C_request_MayAnswer) D_request_MayAnswer (fun _ => false) (fun _ _ _ => none) Tryz.f109)]
def C3_request_MayAnswer (a : Answer) : FuncId → Option Ctr := tabC D_request_MayAnswer [(108, inl TY (C2_request_MayAnswer a) D_request_MayAnswer (fun _ => false) (fun _ _ _ => none) Tryz.f108), (187, inl TY (C1_request_MayAnswer a) D_request_MayAnswer (fun _ => false) (LI2_request_MayAnswer a) Tryz.f187), (109, inl TY (C_request_MayAnswer) D_request_MayAnswer (fun _ => false) (fun _ _ _ => none) Tryz.f109)]
def L_request_MayAnswer : Answer → Nat → Option LR := fun a i => cond (Nat.beq i 4) (some (.inv (LMA a a.tickets.length [1, 20, 21, 22] (fun i => [.ptr 0 0, slE 11 Ticket.enc a.tickets, .int .i64 a.tickets.length, .int .i64 i]) (fun j => mayTicketB (a.tickets.getD j default))))) (cond (Nat.beq i 10) (some (.inv (LMA a a.postings.length [1, 31, 32, 33] (fun i => [.ptr 0 0, slE 10 Posting.enc a.postings, .int .i64 a.postings.length, .int .i64 i]) (fun j => mayPostB (a.postings.getD j default))))) (none))
set_option maxHeartbeats 2000000 in
theorem g_request_MayAnswer {W : World} (hW : Tabs W) : GoodP (Fw W) Tryz.prog 45 pcMayAns := by
  have hD : PTOk (Fw W) Tryz.prog D_request_MayAnswer := (tabD_cons Tryz.call106 (g_request_long hW) (tabD_cons Tryz.call53 (g_ticket_May hW) (tabD_cons Tryz.call107 (g_posting_May hW) (tabD_cons Tryz.call110 (g_request_mayLoan hW) tabD_nil))))
  have hC0 : ∀ a : Answer, CtrOk (Fw W) Tryz.prog (C_request_MayAnswer) := fun a => (tabC_nil hD)
  have hC1 : ∀ a : Answer, CtrOk (Fw W) Tryz.prog (C1_request_MayAnswer a) := fun a => tabC_cons Tryz.call109 (good_inl rfl tyOk hD (hC0 a) Tryz.func109 (fun _ _ _ => none)) (hC0 a)
  have hC2 : ∀ a : Answer, CtrOk (Fw W) Tryz.prog (C2_request_MayAnswer a) := fun a => tabC_cons Tryz.call187 (good_inl rfl tyOk hD (hC1 a) Tryz.func187 (LI2_request_MayAnswer a)) (hC1 a)
  have hC3 : ∀ a : Answer, CtrOk (Fw W) Tryz.prog (C3_request_MayAnswer a) := fun a => tabC_cons Tryz.call108 (good_inl rfl tyOk hD (hC2 a) Tryz.func108 (fun _ _ _ => none)) (hC2 a)
  refine goodP_ofC (D := D_request_MayAnswer) (C := fun a => C3_request_MayAnswer a) (wr := (fun _ => false)) rfl tyOk hD hC3 Tryz.func45 (L_request_MayAnswer) (fun _ => rfl) ?_
  intro a hf hp
  clear hf
  have hm : mayAnsB a = (!longB a && decide (0 ≤ a.code) && decide (a.code ≤ 17) && a.tickets.all mayTicketB && a.postings.all mayPostB && a.loans.all loanB) := by unfold mayAnsB; rfl
  (conv => whnf)
  all_goals (try (show _ = _; simp only [wQ]))
  refine ⟨a, True.intro, ?_, ?_⟩
  · exact leL_rfl _
  (conv => whnf)
  (repeat' ((first
    | (split <;> rename_i hh <;> (try simp only [wS] at hh) <;> (try simp (disch := omega) only [Int.tdiv_eq_ediv_of_nonneg, Int.tmod_eq_emod_of_nonneg] at hh))
    | with_reducible refine (fun (hln : (_ : Int) ≤ 9223372036854775807) => ?_)
    | fail) <;> (conv => whnf)))
  all_goals (try (show _ = _; simp only [wQ]))
  · rw [hm]; simp [*]
  · rw [hm]; symm; refine Bool.eq_false_iff.2 fun h => ?_; simp only [Bool.and_eq_true, decide_eq_true_eq] at h; omega
  · rw [hm]; symm; refine Bool.eq_false_iff.2 fun h => ?_; simp only [Bool.and_eq_true, decide_eq_true_eq] at h; omega
  · refine ⟨?_, fun (i : Nat) hi => ?_⟩
    · (conv => whnf)
      refine ⟨(0 : Nat), [], ?_, ⟨⟨rfl, Nat.le_of_ble_eq_true rfl, rfl⟩, ?_, ?_⟩⟩
      · exact ⟨Nat.zero_le _, fun j hj => absurd hj (Nat.not_lt_zero _)⟩
      · (conv => whnf)
        (repeat' ((first | with_reducible exact True.intro | ((with_reducible refine And.intro ?_ ?_); focus (first | with_reducible rfl | omega | exact Nat.le_of_ble_eq_true rfl | rfl)) | with_reducible refine And.intro (?_ : leA _ _ _) ?_ | fail) <;> (conv => whnf)))
        all_goals (try simp only [wQ])
        all_goals (try first | omega | exact ⟨fun h => h, fun _ _ => True.intro⟩)
      · (conv => whnf)
        (repeat' ((first | with_reducible exact True.intro | ((with_reducible refine And.intro ?_ ?_); focus (first | with_reducible rfl | omega | exact Nat.le_of_ble_eq_true rfl | rfl)) | with_reducible refine And.intro (?_ : leA _ _ _) ?_ | with_reducible refine And.intro (?_ : leL _ _ _) ?_ | with_reducible refine And.intro (?_ : leBlk _ _ _ _) ?_ | fail) <;> (conv => whnf)))
        all_goals (try simp only [wQ])
        all_goals (try first | rfl | exact ⟨fun h => h, fun _ _ => True.intro⟩)
    · obtain ⟨h1, h2⟩ := hi
      (conv => whnf)
      (repeat' ((first
        | ((with_reducible refine And.intro ?_ ?_); focus (omega))
        | (split <;> rename_i hh <;> (try simp only [wS] at hh) <;> (try simp (disch := omega) only [Int.tdiv_eq_ediv_of_nonneg, Int.tmod_eq_emod_of_nonneg] at hh))
        | with_reducible refine (fun (hln : (_ : Int) ≤ 9223372036854775807) => ?_)
        | fail) <;> (conv => whnf)))
      all_goals (try (show _ = _; simp only [wQ]))
      · refine ⟨(a.tickets.getD (Int.toNat (i : Int)) default), True.intro, ?_, ?_⟩
        · exact leL_rfl _
        (conv => whnf)
        (repeat' ((first
          | ((with_reducible refine And.intro ?_ ?_); focus ((simp only [inK_def, Go.Vc.lo, Go.Vc.hi]; omega)))
          | (split <;> rename_i hh <;> (try simp only [wS] at hh) <;> (try simp (disch := omega) only [Int.tdiv_eq_ediv_of_nonneg, Int.tmod_eq_emod_of_nonneg] at hh))
          | fail) <;> (conv => whnf)))
        all_goals (try (show _ = _; simp only [wQ]))
        · rw [hm, not_all_getD (j := i) (by omega) (by assumption)]; simp
        · (conv => whnf)
          refine ⟨(i + 1 : Nat), [], ?_, ⟨⟨rfl, Nat.le_of_ble_eq_true rfl, rfl⟩, ?_, ?_⟩⟩
          · refine ⟨⟨show i + 1 ≤ a.tickets.length by omega, fun j hj => ?_⟩, show a.tickets.length - (i + 1) < a.tickets.length - i by omega⟩
            have hj : j < i + 1 := hj
            by_cases he : j = i
            · subst he; assumption
            · exact h2 j (by omega)
          · (conv => whnf)
            (repeat' ((first | with_reducible exact True.intro | ((with_reducible refine And.intro ?_ ?_); focus (first | with_reducible rfl | omega | exact Nat.le_of_ble_eq_true rfl | rfl)) | with_reducible refine And.intro (?_ : leA _ _ _) ?_ | fail) <;> (conv => whnf)))
            all_goals (try simp only [wQ])
            all_goals (try first | omega | exact ⟨fun h => h, fun _ _ => True.intro⟩)
          · (conv => whnf)
            (repeat' ((first | with_reducible exact True.intro | ((with_reducible refine And.intro ?_ ?_); focus (first | with_reducible rfl | omega | exact Nat.le_of_ble_eq_true rfl | rfl)) | with_reducible refine And.intro (?_ : leA _ _ _) ?_ | with_reducible refine And.intro (?_ : leL _ _ _) ?_ | with_reducible refine And.intro (?_ : leBlk _ _ _ _) ?_ | fail) <;> (conv => whnf)))
            all_goals (try simp only [wQ])
            all_goals (try first | rfl | exact ⟨fun h => h, fun _ _ => True.intro⟩)
      · have ht : a.tickets.all mayTicketB = true := all_getD fun j hj => h2 j (by omega)
        clear h1 h2
        refine ⟨?_, fun (i : Nat) hi => ?_⟩
        · (conv => whnf)
          refine ⟨(0 : Nat), [], ?_, ⟨⟨rfl, Nat.le_of_ble_eq_true rfl, rfl⟩, ?_, ?_⟩⟩
          · exact ⟨Nat.zero_le _, fun j hj => absurd hj (Nat.not_lt_zero _)⟩
          · (conv => whnf)
            (repeat' ((first | with_reducible exact True.intro | ((with_reducible refine And.intro ?_ ?_); focus (first | with_reducible rfl | omega | exact Nat.le_of_ble_eq_true rfl | rfl)) | with_reducible refine And.intro (?_ : leA _ _ _) ?_ | fail) <;> (conv => whnf)))
            all_goals (try simp only [wQ])
            all_goals (try first | omega | exact ⟨fun h => h, fun _ _ => True.intro⟩)
          · (conv => whnf)
            (repeat' ((first | with_reducible exact True.intro | ((with_reducible refine And.intro ?_ ?_); focus (first | with_reducible rfl | omega | exact Nat.le_of_ble_eq_true rfl | rfl)) | with_reducible refine And.intro (?_ : leA _ _ _) ?_ | with_reducible refine And.intro (?_ : leL _ _ _) ?_ | with_reducible refine And.intro (?_ : leBlk _ _ _ _) ?_ | fail) <;> (conv => whnf)))
            all_goals (try simp only [wQ])
            all_goals (try first | rfl | exact ⟨fun h => h, fun _ _ => True.intro⟩)
        · obtain ⟨h1, h2⟩ := hi
          (conv => whnf)
          (repeat' ((first
            | (with_reducible refine inl_intro ?_)
            | ((with_reducible refine And.intro ?_ ?_); focus (first | with_reducible exact True.intro | omega | (simp only [inK_def, Go.Vc.lo, Go.Vc.hi]; omega)))
            | (split <;> rename_i hh <;> (try simp only [wS] at hh) <;> (try simp (disch := omega) only [Int.tdiv_eq_ediv_of_nonneg, Int.tmod_eq_emod_of_nonneg] at hh))
            | with_reducible refine (fun (hln : (_ : Int) ≤ 9223372036854775807) => ?_)
            | fail) <;> (conv => whnf)))
          all_goals (try (show _ = _; simp only [wQ]))
          · rw [hm, not_all_getD (j := i) (l := a.postings) (p := mayPostB) (by omega) (by assumption)]; simp
          · (conv => whnf)
            refine ⟨(i + 1 : Nat), [], ?_, ⟨⟨rfl, Nat.le_of_ble_eq_true rfl, rfl⟩, ?_, ?_⟩⟩
            · refine ⟨⟨show i + 1 ≤ a.postings.length by omega, fun j hj => ?_⟩, show a.postings.length - (i + 1) < a.postings.length - i by omega⟩
              have hj : j < i + 1 := hj
              by_cases he : j = i
              · subst he; assumption
              · exact h2 j (by omega)
            · (conv => whnf)
              (repeat' ((first | with_reducible exact True.intro | ((with_reducible refine And.intro ?_ ?_); focus (first | with_reducible rfl | omega | exact Nat.le_of_ble_eq_true rfl | rfl)) | with_reducible refine And.intro (?_ : leA _ _ _) ?_ | fail) <;> (conv => whnf)))
              all_goals (try simp only [wQ])
              all_goals (try first | omega | exact ⟨fun h => h, fun _ _ => True.intro⟩)
            · (conv => whnf)
              (repeat' ((first | with_reducible exact True.intro | ((with_reducible refine And.intro ?_ ?_); focus (first | with_reducible rfl | omega | exact Nat.le_of_ble_eq_true rfl | rfl)) | with_reducible refine And.intro (?_ : leA _ _ _) ?_ | with_reducible refine And.intro (?_ : leL _ _ _) ?_ | with_reducible refine And.intro (?_ : leBlk _ _ _ _) ?_ | fail) <;> (conv => whnf)))
              all_goals (try simp only [wQ])
              all_goals (try first | rfl | exact ⟨fun h => h, fun _ _ => True.intro⟩)
          · have hq : a.postings.all mayPostB = true := all_getD fun j hj => h2 j (by omega)
            clear h1 h2
            refine ⟨?_, fun (i : Nat) hi => ?_⟩
            · (conv => whnf)
              refine ⟨(0 : Nat), [], ?_, ⟨⟨rfl, Nat.le_of_ble_eq_true rfl, rfl⟩, ?_, ?_⟩⟩
              · exact ⟨Nat.zero_le _, fun j hj => absurd hj (Nat.not_lt_zero _)⟩
              · (conv => whnf)
                (repeat' ((first | with_reducible exact True.intro | ((with_reducible refine And.intro ?_ ?_); focus (first | with_reducible rfl | omega | exact Nat.le_of_ble_eq_true rfl | rfl)) | with_reducible refine And.intro (?_ : leA _ _ _) ?_ | fail) <;> (conv => whnf)))
                all_goals (try simp only [wQ])
                all_goals (try first | omega | exact ⟨fun h => h, fun _ _ => True.intro⟩)
              · (conv => whnf)
                (repeat' ((first | with_reducible exact True.intro | ((with_reducible refine And.intro ?_ ?_); focus (first | with_reducible rfl | omega | exact Nat.le_of_ble_eq_true rfl | rfl)) | with_reducible refine And.intro (?_ : leA _ _ _) ?_ | with_reducible refine And.intro (?_ : leL _ _ _) ?_ | with_reducible refine And.intro (?_ : leBlk _ _ _ _) ?_ | fail) <;> (conv => whnf)))
                all_goals (try simp only [wQ])
                all_goals (try first | rfl | exact ⟨fun h => h, fun _ _ => True.intro⟩)
            · obtain ⟨h1, h2⟩ := hi
              (conv => whnf)
              (repeat' ((first
                | (with_reducible refine inl_intro ?_)
                | ((with_reducible refine And.intro ?_ ?_); focus (omega))
                | (split <;> rename_i hh <;> (try simp only [wS] at hh) <;> (try simp (disch := omega) only [Int.tdiv_eq_ediv_of_nonneg, Int.tmod_eq_emod_of_nonneg] at hh))
                | fail) <;> (conv => whnf)))
              all_goals (try (show _ = _; simp only [wQ]))
              · refine ⟨(a.loans.getD (Int.toNat (i : Int)) default), True.intro, ?_, ?_⟩
                · exact leL_rfl _
                (conv => whnf)
                (repeat' ((first
                  | ((with_reducible refine And.intro ?_ ?_); focus ((simp only [inK_def, Go.Vc.lo, Go.Vc.hi]; omega)))
                  | (split <;> rename_i hh <;> (try simp only [wS] at hh) <;> (try simp (disch := omega) only [Int.tdiv_eq_ediv_of_nonneg, Int.tmod_eq_emod_of_nonneg] at hh))
                  | fail) <;> (conv => whnf)))
                all_goals (try (show _ = _; simp only [wQ]))
                · rw [hm, not_all_getD (j := i) (l := a.loans) (p := loanB) (by omega) (by assumption)]; simp [leI_eq]
                · (conv => whnf)
                  refine ⟨(i + 1 : Nat), [], ?_, ⟨⟨rfl, Nat.le_of_ble_eq_true rfl, rfl⟩, ?_, ?_⟩⟩
                  · refine ⟨⟨show i + 1 ≤ a.loans.length by omega, fun j hj => ?_⟩, show a.loans.length - (i + 1) < a.loans.length - i by omega⟩
                    have hj : j < i + 1 := hj
                    by_cases he : j = i
                    · subst he; assumption
                    · exact h2 j (by omega)
                  · (conv => whnf)
                    (repeat' ((first | with_reducible exact True.intro | ((with_reducible refine And.intro ?_ ?_); focus (first | with_reducible rfl | omega | exact Nat.le_of_ble_eq_true rfl | rfl)) | with_reducible refine And.intro (?_ : leA _ _ _) ?_ | fail) <;> (conv => whnf)))
                    all_goals (try simp only [wQ])
                    all_goals (try first | omega | exact ⟨fun h => h, fun _ _ => True.intro⟩)
                  · (conv => whnf)
                    (repeat' ((first | with_reducible exact True.intro | ((with_reducible refine And.intro ?_ ?_); focus (first | with_reducible rfl | omega | exact Nat.le_of_ble_eq_true rfl | rfl)) | with_reducible refine And.intro (?_ : leA _ _ _) ?_ | with_reducible refine And.intro (?_ : leL _ _ _) ?_ | with_reducible refine And.intro (?_ : leBlk _ _ _ _) ?_ | fail) <;> (conv => whnf)))
                    all_goals (try simp only [wQ])
                    all_goals (try first | rfl | exact ⟨fun h => h, fun _ _ => True.intro⟩)
              · have hl : a.loans.all loanB = true := all_getD fun j hj => h2 j (by omega)
                rw [hm, ht, hq, hl]; simp [*, leI_eq]
end
end Go.Vc.Z

/- Lines of what was told. -/
namespace Go.Vc.Z
open Go Go.Vc Go.Proofs Go.RowKit Go.Pl Go.Lib
noncomputable section
set_option maxRecDepth 100000
set_option linter.unusedSimpArgs false
set_option linter.unusedVariables false
attribute [local irreducible] inK Utf8.decode Utf8.encode Lib.itoa Pl.worth Pl.allDig
attribute [local irreducible] Lib.join
noncomputable def sL : List (List UInt8) → List (List UInt8) := Classical.choose (⟨id, rfl⟩ : ∃ f : List (List UInt8) → List (List UInt8), f = id)
theorem sL_eq (n : List (List UInt8)) : sL n = n := congrFun (Classical.choose_spec (⟨id, rfl⟩ : ∃ f : List (List UInt8) → List (List UInt8), f = id)) n
def codesL : List (List UInt8) := [[111, 107], [110, 105, 108], [97, 114, 103], [108, 111, 110, 103], [98, 121, 116, 101, 115], [114, 97, 110, 103, 101], [110, 111, 110, 101], [101, 120, 105, 115, 116, 115], [102, 117, 108, 108], [115, 116, 97, 116, 101], [100, 101, 97, 100], [100, 105, 103, 105, 116], [115, 116, 111, 99, 107], [99, 111, 110, 116, 114, 111, 108], [109, 111, 110, 101, 121], [100, 97, 121], [107, 101, 121], [98, 117, 115, 121]]
@[irreducible] def codeW (e : Int) : List UInt8 := if 0 ≤ e ∧ e ≤ 17 then codesL.getD e.toNat [] else []
def pcCode : PC := PC.fun fun | [.int .i64 e] => some (True, .str (sS (codeW e))) | _ => none
theorem codeW_ne {e : Int} (h : 0 ≤ e ∧ e ≤ 17) : codeW e ≠ [] ∧ (codeW e).length ≤ 10 := by
  unfold codeW; rw [if_pos h]
  rcases (by omega : e = 0 ∨ e = 1 ∨ e = 2 ∨ e = 3 ∨ e = 4 ∨ e = 5 ∨ e = 6 ∨ e = 7 ∨ e = 8 ∨ e = 9 ∨ e = 10 ∨ e = 11 ∨ e = 12 ∨ e = 13 ∨ e = 14 ∨ e = 15 ∨ e = 16 ∨ e = 17) with rfl | rfl | rfl | rfl | rfl | rfl | rfl | rfl | rfl | rfl | rfl | rfl | rfl | rfl | rfl | rfl | rfl | rfl <;> decide
theorem codeW_nil {e : Int} (h : ¬ (0 ≤ e ∧ e ≤ 17)) : codeW e = [] := by
  unfold codeW; rw [if_neg h]
theorem codeW_len (e : Int) : (codeW e).length ≤ 10 := by
  by_cases h : 0 ≤ e ∧ e ≤ 17
  · exact (codeW_ne h).2
  · rw [codeW_nil h]; simp
def D_script_Code : PT := tabD []
def C_script_Code : FuncId → Option Ctr := tabC D_script_Code []
theorem g_script_Code {W : World} (hW : Tabs W) : GoodP (Fw W) Tryz.prog 16 pcCode := by
  have hD : PTOk (Fw W) Tryz.prog D_script_Code := tabD_nil
  have hC0 : CtrOk (Fw W) Tryz.prog C_script_Code := (tabC_nil hD)
  refine goodP_fun (D := D_script_Code) (C := C_script_Code) (wr := (fun _ => false)) rfl tyOk hD hC0 Tryz.func16 (fun _ _ => none) ?_
  clear hC0 hD hW
  intro cs p r h hf hp
  split at h
  case h_2 => cases h
  rename_i e
  cases h
  try simp only [factL, factA, inK_def, Go.Vc.lo, Go.Vc.hi, and_true] at hf
  by_cases h : 0 ≤ e ∧ e ≤ 17
  · rcases (by omega : e = 0 ∨ e = 1 ∨ e = 2 ∨ e = 3 ∨ e = 4 ∨ e = 5 ∨ e = 6 ∨ e = 7 ∨ e = 8 ∨ e = 9 ∨ e = 10 ∨ e = 11 ∨ e = 12 ∨ e = 13 ∨ e = 14 ∨ e = 15 ∨ e = 16 ∨ e = 17) with rfl | rfl | rfl | rfl | rfl | rfl | rfl | rfl | rfl | rfl | rfl | rfl | rfl | rfl | rfl | rfl | rfl | rfl
    all_goals (
      (conv => whnf)
      (repeat' ((first
        | ((with_reducible refine And.intro ?_ ?_); focus (omega))
        | with_reducible refine (fun (hln : (_ : Int) ≤ 9223372036854775807) => ?_)
        | fail) <;> (conv => whnf)))
      all_goals (try (show _ = _; simp only [wQ]))
      )
    all_goals (unfold codeW; rfl)
  · clear hf
    (conv => whnf)
    (repeat' ((first
      | ((with_reducible refine And.intro ?_ ?_); focus (omega))
      | (split <;> rename_i hh <;> (try simp only [wS] at hh) <;> (try simp (disch := omega) only [Int.tdiv_eq_ediv_of_nonneg, Int.tmod_eq_emod_of_nonneg] at hh))
      | with_reducible refine (fun (hln : (_ : Int) ≤ 9223372036854775807) => ?_)
      | fail) <;> (conv => whnf)))
    all_goals (try (show _ = _; simp only [wQ]))
    all_goals try (rw [codeW_nil h]; done)
    all_goals (exfalso; omega)
@[irreducible] def loanW (l : Loan) : List UInt8 := if loanB l = true then [108, 111, 97, 110, 32] ++ numText l.ticket ++ [32] ++ Lib.itoa l.coupon ++ (if l.held = true then [32, 104, 101, 108, 100, 32] ++ couponW l.what else [32, 97, 115, 107, 101, 100]) else []
def pcLoanW : PC := PC.of (fun l : Loan => [.agg l.enc]) (fun _ => True) (fun l => .str (sS (loanW l)))
theorem mayAns_loan (l : Loan) : mayAnsB ⟨0, [], [], [l]⟩ = loanB l := by
  unfold mayAnsB longB
  simp
theorem loan_facts {l : Loan} (h : factL [.agg l.enc]) : (-9223372036854775808 ≤ l.coupon ∧ l.coupon ≤ 9223372036854775807) ∧ (couponW l.what).length ≤ 200 := by
  simp only [factL, factA, and_true] at h
  obtain ⟨_, k1, _, k2, k3, _, _, k4, _⟩ := h
  exact ⟨inK_def.1 k1, couponW_len (inK_def.1 k2) (inK_def.1 k3) (inK_def.1 k4)⟩
def D_script_LoanLine : PT := tabD [(45, pcMayAns), (54, pcNText), (46, pcItoaS), (57, pcCouponW)]
def C_script_LoanLine : FuncId → Option Ctr := tabC D_script_LoanLine []
set_option maxHeartbeats 2000000 in
theorem g_script_LoanLine {W : World} (hW : Tabs W) : GoodP (Fw W) Tryz.prog 21 pcLoanW := by
  have hD : PTOk (Fw W) Tryz.prog D_script_LoanLine := (tabD_cons Tryz.call45 (g_request_MayAnswer hW) (tabD_cons Tryz.call54 (g_number_Text hW) (tabD_cons Tryz.call46 (g_script_digits hW) (tabD_cons Tryz.call57 (g_script_coupon hW) tabD_nil))))
  have hC0 : ∀ l : Loan, CtrOk (Fw W) Tryz.prog (C_script_LoanLine) := fun l => (tabC_nil hD)
  refine goodP_ofC (D := D_script_LoanLine) (C := fun l => C_script_LoanLine) (wr := (fun _ => false)) rfl tyOk hD hC0 Tryz.func21 (fun _ _ => none) (fun _ => rfl) ?_
  intro l hf hp
  obtain ⟨l1, l2⟩ := loan_facts hf
  have l2' : (couponW ⟨l.what.flight, l.what.day, l.what.value, l.what.status, l.what.holder, l.what.next⟩).length ≤ 200 := l2
  have l3 := numText_len l.ticket
  have l4 := itoa_len l.coupon l1.1 l1.2
  clear hf
  have hm := mayAns_loan l
  (conv => whnf)
  all_goals (try (show _ = _; simp only [wQ]))
  refine ⟨⟨by omega, fun e he => ?_⟩, ?_⟩
  · change e < 1 at he
    obtain rfl : e = 0 := by omega
    rfl
  (conv => whnf)
  all_goals (try (show _ = _; simp only [wQ]))
  refine ⟨(⟨0, [], [], [l]⟩ : Answer), True.intro, ?_, ?_⟩
  · (conv => whnf)
    (repeat' ((first | with_reducible exact True.intro | ((with_reducible refine And.intro ?_ ?_); focus (first | with_reducible rfl | omega | exact Nat.le_of_ble_eq_true rfl | rfl)) | with_reducible refine And.intro (?_ : leA _ _ _) ?_ | fail) <;> (conv => whnf)))
    all_goals (try simp only [wQ])
    refine ⟨fun h => h, fun e he => ?_⟩
    obtain rfl : e = 0 := by omega
    rfl
  (conv => whnf)
  (repeat' ((first
    | ((with_reducible refine And.intro ?_ ?_); focus (first | with_reducible exact True.intro | ((with_reducible show okB _ _ _ = true); rfl) | (simp only [List.length_append, bytesOf_length, List.toList_toArray, List.length_cons, List.length_nil, List.length_take, List.length_drop, sS_eq]; omega)))
    | (split <;> rename_i hh <;> (try simp only [wS] at hh) <;> (try simp (disch := omega) only [Int.tdiv_eq_ediv_of_nonneg, Int.tmod_eq_emod_of_nonneg] at hh))
    | fail) <;> (conv => whnf)))
  all_goals (try (show _ = _; simp only [wQ]))
  · unfold loanW; rw [if_neg (by rw [← hm, (by assumption : mayAnsB _ = false)]; exact Bool.false_ne_true)]
  · unfold loanW; rw [if_pos (by rw [← hm]; assumption), if_neg (by simp [*])]
  · unfold loanW; rw [if_pos (by rw [← hm]; assumption), if_pos (by assumption)]; simp
end
end Go.Vc.Z

/- All lines. -/
namespace Go.Vc.Z
open Go Go.Vc Go.Proofs Go.RowKit Go.Pl Go.Lib
noncomputable section
set_option maxRecDepth 100000
set_option linter.unusedSimpArgs false
set_option linter.unusedVariables false
attribute [local irreducible] inK Utf8.decode Utf8.encode Lib.itoa Pl.worth Pl.allDig
attribute [local irreducible] Lib.join
def lineHd (t : Told) : List UInt8 := codeW t.code ++ [32] ++ codeW t.answer.code ++ [32] ++ Lib.itoa t.came
@[irreducible] def toldOk (t : Told) : Bool := decide (0 ≤ t.code) && decide (t.code ≤ 17) && mayAnsB t.answer && decide (0 ≤ t.came)
@[irreducible] def linesL (t : Told) : List (List UInt8) := if toldOk t = true then [lineHd t] ++ t.answer.tickets.map ticketW ++ t.answer.postings.map postText ++ t.answer.loans.map loanW else []
def pcLines : PC := PC.of (fun t : Told => [.agg t.enc]) (fun _ => True) (fun t => slS (sL (linesL t)))
def LLn (t : Told) (n id : Nat) (keep : List Nat) (vals : Nat → AV → List AV) (parts : Nat → List (List UInt8)) : LoopSpec := {
  α := Nat × List (List UInt8)
  keep := keep
  vals x := vals x.1 (.osl id 1 0 x.2.length none)
  heap x := .var t.enc :: List.replicate (id - 1) .dead ++ [.row 1 x.2.length (fun e => [.str (x.2.getD e [])])]
  ok x := x.1 ≤ n ∧ x.2 = parts x.1
  μ x := n - x.1 }
theorem map_step {α : Type} [Inhabited α] {f : α → List UInt8} {l : List α} {i : Nat} {B : List (List UInt8)} (h : i < l.length) : (B ++ (l.take i).map f) ++ [f (l.getD (Int.toNat (i : Int)) default)] = B ++ (l.take (i + 1)).map f := by
  rw [List.append_assoc, List.take_add_one, List.map_append, List.getElem?_eq_getElem h]
  have : l.getD (Int.toNat (i : Int)) default = l[i] := by
    rw [show Int.toNat (i : Int) = i from rfl, List.getD_eq_getElem?_getD, List.getElem?_eq_getElem h]; rfl
  rw [this]; rfl
theorem mayAns_facts {a : Answer} (h : mayAnsB a = true) : a.tickets.length ≤ 200 ∧ a.postings.length ≤ 5000 ∧ a.loans.length ≤ 200 ∧ (0 ≤ a.code ∧ a.code ≤ 17) ∧ a.tickets.all mayTicketB = true ∧ a.postings.all mayPostB = true ∧ a.loans.all loanB = true := by
  unfold mayAnsB longB at h
  simp only [Bool.and_eq_true, decide_eq_true_eq, Bool.not_eq_true', Bool.or_eq_false_iff, decide_eq_false_iff_not] at h
  obtain ⟨⟨⟨⟨⟨⟨⟨h1, h2⟩, h3⟩, h4⟩, h5⟩, h6⟩, h7⟩, h8⟩ := h
  exact ⟨by omega, by omega, by omega, ⟨h4, h5⟩, h6, h7, h8⟩
def D_script_Lines : PT := tabD [(16, pcCode), (45, pcMayAns), (46, pcItoaS), (18, pcTicketW), (47, pcPText), (21, pcLoanW)]
def C_script_Lines : FuncId → Option Ctr := tabC D_script_Lines []
def L_script_Lines : Told → Nat → Option LR := fun t i => cond (Nat.beq i 5) (some (.inv (LLn t t.answer.tickets.length 15 [1, 3, 42, 43, 44] (fun i o => [.ptr 0 0, o, slE 11 Ticket.enc t.answer.tickets, .int .i64 t.answer.tickets.length, .int .i64 i]) (fun i => [lineHd t] ++ (t.answer.tickets.take i).map ticketW)))) (cond (Nat.beq i 10) (some (.inv (LLn t t.answer.postings.length 16 [1, 3, 56, 57, 58] (fun i o => [.ptr 0 0, o, slE 10 Posting.enc t.answer.postings, .int .i64 t.answer.postings.length, .int .i64 i]) (fun i => [lineHd t] ++ t.answer.tickets.map ticketW ++ (t.answer.postings.take i).map postText)))) (cond (Nat.beq i 15) (some (.inv (LLn t t.answer.loans.length 17 [3, 70, 71, 72] (fun i o => [o, slE 9 Loan.enc t.answer.loans, .int .i64 t.answer.loans.length, .int .i64 i]) (fun i => [lineHd t] ++ t.answer.tickets.map ticketW ++ t.answer.postings.map postText ++ (t.answer.loans.take i).map loanW)))) (none)))
set_option maxHeartbeats 2000000 in
theorem g_script_Lines {W : World} (hW : Tabs W) : GoodP (Fw W) Tryz.prog 13 pcLines := by
  have hD : PTOk (Fw W) Tryz.prog D_script_Lines := (tabD_cons Tryz.call16 (g_script_Code hW) (tabD_cons Tryz.call45 (g_request_MayAnswer hW) (tabD_cons Tryz.call46 (g_script_digits hW) (tabD_cons Tryz.call18 (g_script_TicketLine hW) (tabD_cons Tryz.call47 (g_posting_Text hW) (tabD_cons Tryz.call21 (g_script_LoanLine hW) tabD_nil))))))
  have hC0 : ∀ t : Told, CtrOk (Fw W) Tryz.prog (C_script_Lines) := fun t => (tabC_nil hD)
  refine goodP_ofC (D := D_script_Lines) (C := fun t => C_script_Lines) (wr := (fun _ => false)) rfl tyOk hD hC0 Tryz.func13 (L_script_Lines) (fun _ => rfl) ?_
  intro t hf hp
  have hcame : -9223372036854775808 ≤ t.came ∧ t.came ≤ 9223372036854775807 := by
    simp only [factL, factA, and_true] at hf
    exact inK_def.1 hf.2.2.2.2.2.1
  clear hf
  have k1 := itoa_len t.came hcame.1 hcame.2
  have k2 := codeW_len t.code
  have k3 := codeW_len t.answer.code
  have hn1 : codeW t.code ≠ [] ↔ 0 ≤ t.code ∧ t.code ≤ 17 := ⟨fun h => Decidable.of_not_not fun hn => h (codeW_nil hn), fun h => (codeW_ne h).1⟩
  have hbad : toldOk t = false → (sL (linesL t)).length = 0 := fun h => by rw [sL_eq]; unfold linesL; rw [if_neg (by rw [h]; exact Bool.false_ne_true)]; rfl
  have hok : toldOk t = (decide (0 ≤ t.code) && decide (t.code ≤ 17) && mayAnsB t.answer && decide (0 ≤ t.came)) := by unfold toldOk; rfl
  by_cases hmay : mayAnsB t.answer = true
  · obtain ⟨f1, f2, f3, f4, f5, f6, f7⟩ := mayAns_facts hmay
    have hex : ¬ mayAnsB t.answer = false := by rw [hmay]; simp
    (conv => whnf)
    (repeat' ((first
      | ((with_reducible refine And.intro ?_ ?_); focus (with_reducible exact True.intro))
      | (split <;> rename_i hh <;> (try simp only [wS] at hh) <;> (try simp (disch := omega) only [Int.tdiv_eq_ediv_of_nonneg, Int.tmod_eq_emod_of_nonneg] at hh))
      | fail) <;> (conv => whnf)))
    all_goals (try (show _ = _; simp only [wQ]))
    · refine hbad ?_
      rw [hok]; refine Bool.eq_false_iff.2 fun h => ?_
      simp only [Bool.and_eq_true, decide_eq_true_eq] at h
      exact hn1.2 ⟨h.1.1.1, h.1.1.2⟩ (by assumption)
    refine ⟨t.answer, True.intro, ?_, ?_⟩
    · exact leL_rfl _
    (conv => whnf)
    (repeat' ((first
      | (exact absurd (by with_reducible assumption) hex)
      | ((with_reducible refine And.intro ?_ ?_); focus (first | with_reducible exact True.intro | ((with_reducible show okB _ _ _ = true); rfl) | (simp only [List.length_append, bytesOf_length, List.toList_toArray, List.length_cons, List.length_nil, List.length_take, List.length_drop, sS_eq]; omega)))
      | (split <;> rename_i hh <;> (try simp only [wS] at hh) <;> (try simp (disch := omega) only [Int.tdiv_eq_ediv_of_nonneg, Int.tmod_eq_emod_of_nonneg] at hh))
      | with_reducible refine (fun (hln : (_ : Int) ≤ 9223372036854775807) => ?_)
      | fail) <;> (conv => whnf)))
    all_goals (try (show _ = _; simp only [wQ]))
    · refine hbad ?_
      rw [hok]; refine Bool.eq_false_iff.2 fun h => ?_
      simp only [Bool.and_eq_true, decide_eq_true_eq] at h
      omega
    have hlin : linesL t = [lineHd t] ++ t.answer.tickets.map ticketW ++ t.answer.postings.map postText ++ t.answer.loans.map loanW := by
      unfold linesL; rw [if_pos]
      have := hn1.1 (by assumption)
      rw [hok, hmay]; simp; omega
    refine ⟨?_, fun (x : Nat × List (List UInt8)) hx => ?_⟩
    · (conv => whnf)
      refine ⟨((0, [lineHd t]) : Nat × List (List UInt8)), [14], ?_, ⟨⟨rfl, Nat.le_of_ble_eq_true rfl, rfl⟩, ?_, ?_⟩⟩
      · exact ⟨Nat.zero_le _, by simp⟩
      · (conv => whnf)
        (repeat' ((first | with_reducible exact True.intro | ((with_reducible refine And.intro ?_ ?_); focus (first | with_reducible rfl | omega | exact Nat.le_of_ble_eq_true rfl | rfl)) | with_reducible refine And.intro (?_ : leA _ _ _) ?_ | fail) <;> (conv => whnf)))
        all_goals (try simp only [wQ])
        all_goals (try first | omega | exact Or.inl True.intro | exact ⟨fun h => h, fun _ _ => True.intro⟩)
      · (conv => whnf)
        (repeat' ((first | with_reducible exact True.intro | ((with_reducible refine And.intro ?_ ?_); focus (first | with_reducible rfl | omega | exact Nat.le_of_ble_eq_true rfl | rfl)) | with_reducible refine And.intro (?_ : leA _ _ _) ?_ | with_reducible refine And.intro (?_ : leL _ _ _) ?_ | with_reducible refine And.intro (?_ : leBlk _ _ _ _) ?_ | fail) <;> (conv => whnf)))
        all_goals (try simp only [wQ])
        all_goals (try first | rfl | exact ⟨fun h => h, fun _ _ => True.intro⟩)
        intro e he; obtain rfl : e = 0 := (by change e < 1 at he; omega); exact ⟨by unfold lineHd; rfl, rfl⟩
    · obtain ⟨i, L⟩ := x
      obtain ⟨h1, h2⟩ := hx
      change i ≤ t.answer.tickets.length at h1
      change L = [lineHd t] ++ (t.answer.tickets.take i).map ticketW at h2
      have hL : L.length ≤ 6000 := by rw [h2]; simp; omega
      (conv => whnf)
      (repeat' ((first
        | ((with_reducible refine And.intro ?_ ?_); focus (omega))
        | (split <;> rename_i hh <;> (try simp only [wS] at hh) <;> (try simp (disch := omega) only [Int.tdiv_eq_ediv_of_nonneg, Int.tmod_eq_emod_of_nonneg] at hh))
        | with_reducible refine (fun (hln : (_ : Int) ≤ 9223372036854775807) => ?_)
        | fail) <;> (conv => whnf)))
      all_goals (try (show _ = _; simp only [wQ]))
      · refine ⟨(t.answer.tickets.getD (Int.toNat (i : Int)) default), True.intro, ?_, ?_⟩
        · exact leL_rfl _
        (conv => whnf)
        (repeat' ((first
          | ((with_reducible refine And.intro ?_ ?_); focus (first | ((with_reducible refine ⟨?_, ?_, ?_⟩) <;> first | (intro e he; rcases (by omega : e = 0 ∨ e = 1 ∨ e = 2 ∨ e = 3 ∨ e = 4 ∨ e = 5) with rfl | rfl | rfl | rfl | rfl | rfl <;> first | rfl | (exfalso; omega)) | (with_reducible assumption) | omega | ((with_reducible show growOk _ _); simp only [growOk, ty2, ty3, ty4, ty5, ty9, ty21, ty37, ty42, ty43, ty45, ty47, ty67, ty95, ty105, ty113, ty150, ty161, ty198, ty242, ty275, List.length_cons, List.length_nil]; first | omega | (refine ⟨?_, ?_⟩ <;> omega))) | omega | (simp only [inK_def, Go.Vc.lo, Go.Vc.hi]; omega)))
          | fail) <;> (conv => whnf)))
        all_goals (try (show _ = _; simp only [wQ]))
        (conv => whnf)
        refine ⟨((i + 1, L ++ [ticketW (t.answer.tickets.getD (Int.toNat (i : Int)) default)]) : Nat × List (List UInt8)), [18], ?_, ⟨⟨rfl, Nat.le_of_ble_eq_true rfl, rfl⟩, ?_, ?_⟩⟩
        · exact ⟨⟨show i + 1 ≤ t.answer.tickets.length by omega, show L ++ _ = _ by rw [h2]; exact map_step (by omega)⟩, show t.answer.tickets.length - (i + 1) < t.answer.tickets.length - i by omega⟩
        · (conv => whnf)
          (repeat' ((first | with_reducible exact True.intro | ((with_reducible refine And.intro ?_ ?_); focus (first | with_reducible rfl | omega | exact Nat.le_of_ble_eq_true rfl | rfl)) | with_reducible refine And.intro (?_ : leA _ _ _) ?_ | fail) <;> (conv => whnf)))
          all_goals (try simp only [wQ])
          all_goals (try first | omega | exact ⟨fun h => h, fun _ _ => True.intro⟩)
          all_goals (try first | exact ⟨by simp, Or.inl trivial⟩)
        · (conv => whnf)
          (repeat' ((first | with_reducible exact True.intro | ((with_reducible refine And.intro ?_ ?_); focus (first | with_reducible rfl | omega | exact Nat.le_of_ble_eq_true rfl | rfl)) | with_reducible refine And.intro (?_ : leA _ _ _) ?_ | with_reducible refine And.intro (?_ : leL _ _ _) ?_ | with_reducible refine And.intro (?_ : leBlk _ _ _ _) ?_ | fail) <;> (conv => whnf)))
          all_goals (try simp only [wQ])
          all_goals (try first | rfl | exact ⟨fun h => h, fun _ _ => True.intro⟩)
          all_goals (try first | exact ⟨by simp, fun e he => ⟨cat_str rfl he, rfl⟩⟩)
      · have hi : i = t.answer.tickets.length := by omega
        rw [hi, List.take_length] at h2
        clear h1 hL
        refine ⟨?_, fun (x : Nat × List (List UInt8)) hx => ?_⟩
        · (conv => whnf)
          refine ⟨((0, L) : Nat × List (List UInt8)), [15], ?_, ⟨⟨rfl, Nat.le_of_ble_eq_true rfl, rfl⟩, ?_, ?_⟩⟩
          · exact ⟨Nat.zero_le _, by rw [h2]; simp⟩
          · (conv => whnf)
            (repeat' ((first | with_reducible exact True.intro | ((with_reducible refine Or.inr ?_); rfl) | ((with_reducible refine And.intro ?_ ?_); focus (first | with_reducible rfl | omega | exact Nat.le_of_ble_eq_true rfl | rfl)) | with_reducible refine And.intro (?_ : leA _ _ _) ?_ | fail) <;> (conv => whnf)))
            all_goals (try simp only [wQ])
            all_goals (try first | omega | exact ⟨fun h => h, fun _ _ => True.intro⟩)
          · (conv => whnf)
            (repeat' ((first | with_reducible exact True.intro | ((with_reducible refine And.intro ?_ ?_); focus (first | with_reducible rfl | omega | exact Nat.le_of_ble_eq_true rfl | rfl)) | with_reducible refine And.intro (?_ : leA _ _ _) ?_ | with_reducible refine And.intro (?_ : leL _ _ _) ?_ | with_reducible refine And.intro (?_ : leBlk _ _ _ _) ?_ | fail) <;> (conv => whnf)))
            all_goals (try simp only [wQ])
            all_goals (try first | rfl | exact ⟨fun h => h, fun _ _ => True.intro⟩)
            all_goals (try first | exact ⟨Nat.le_refl _, fun _ _ => ⟨True.intro, rfl⟩⟩)
            all_goals skip
        · obtain ⟨i, L⟩ := x
          obtain ⟨h1, h2⟩ := hx
          change i ≤ t.answer.postings.length at h1
          change L = [lineHd t] ++ t.answer.tickets.map ticketW ++ (t.answer.postings.take i).map postText at h2
          have hL : L.length ≤ 6000 := by rw [h2]; simp; omega
          (conv => whnf)
          (repeat' ((first
            | ((with_reducible refine And.intro ?_ ?_); focus (first | with_reducible exact True.intro | ((with_reducible refine ⟨?_, ?_, ?_⟩) <;> first | (intro e he; rcases (by omega : e = 0 ∨ e = 1 ∨ e = 2 ∨ e = 3 ∨ e = 4 ∨ e = 5) with rfl | rfl | rfl | rfl | rfl | rfl <;> first | rfl | (exfalso; omega)) | (with_reducible assumption) | omega | ((with_reducible show growOk _ _); simp only [growOk, ty2, ty3, ty4, ty5, ty9, ty21, ty37, ty42, ty43, ty45, ty47, ty67, ty95, ty105, ty113, ty150, ty161, ty198, ty242, ty275, List.length_cons, List.length_nil]; first | omega | (refine ⟨?_, ?_⟩ <;> omega))) | omega | (simp only [inK_def, Go.Vc.lo, Go.Vc.hi]; omega)))
            | (split <;> rename_i hh <;> (try simp only [wS] at hh) <;> (try simp (disch := omega) only [Int.tdiv_eq_ediv_of_nonneg, Int.tmod_eq_emod_of_nonneg] at hh))
            | with_reducible refine (fun (hln : (_ : Int) ≤ 9223372036854775807) => ?_)
            | fail) <;> (conv => whnf)))
          all_goals (try (show _ = _; simp only [wQ]))
          · (conv => whnf)
            refine ⟨((i + 1, L ++ [postText (t.answer.postings.getD (Int.toNat (i : Int)) default)]) : Nat × List (List UInt8)), [19], ?_, ⟨⟨rfl, Nat.le_of_ble_eq_true rfl, rfl⟩, ?_, ?_⟩⟩
            · exact ⟨⟨show i + 1 ≤ t.answer.postings.length by omega, show L ++ _ = _ by rw [h2]; exact map_step (by omega)⟩, show t.answer.postings.length - (i + 1) < t.answer.postings.length - i by omega⟩
            · (conv => whnf)
              (repeat' ((first | with_reducible exact True.intro | ((with_reducible refine And.intro ?_ ?_); focus (first | with_reducible rfl | omega | exact Nat.le_of_ble_eq_true rfl | rfl)) | with_reducible refine And.intro (?_ : leA _ _ _) ?_ | fail) <;> (conv => whnf)))
              all_goals (try simp only [wQ])
              all_goals (try first | omega | exact ⟨fun h => h, fun _ _ => True.intro⟩)
              all_goals (try first | exact ⟨by simp, Or.inl trivial⟩)
            · (conv => whnf)
              (repeat' ((first | with_reducible exact True.intro | ((with_reducible refine And.intro ?_ ?_); focus (first | with_reducible rfl | omega | exact Nat.le_of_ble_eq_true rfl | rfl)) | with_reducible refine And.intro (?_ : leA _ _ _) ?_ | with_reducible refine And.intro (?_ : leL _ _ _) ?_ | with_reducible refine And.intro (?_ : leBlk _ _ _ _) ?_ | fail) <;> (conv => whnf)))
              all_goals (try simp only [wQ])
              all_goals (try first | rfl | exact ⟨fun h => h, fun _ _ => True.intro⟩)
              all_goals (try first | exact ⟨by simp, fun e he => ⟨cat_str rfl he, rfl⟩⟩)
          · have hi : i = t.answer.postings.length := by omega
            rw [hi, List.take_length] at h2
            clear h1 hL
            have h2b := h2
            refine ⟨?_, fun (x : Nat × List (List UInt8)) hx => ?_⟩
            · (conv => whnf)
              refine ⟨((0, L) : Nat × List (List UInt8)), [16], ?_, ⟨⟨rfl, Nat.le_of_ble_eq_true rfl, rfl⟩, ?_, ?_⟩⟩
              · exact ⟨Nat.zero_le _, by rw [h2]; simp⟩
              · (conv => whnf)
                (repeat' ((first | with_reducible exact True.intro | ((with_reducible refine Or.inr ?_); rfl) | ((with_reducible refine And.intro ?_ ?_); focus (first | with_reducible rfl | omega | exact Nat.le_of_ble_eq_true rfl | rfl)) | with_reducible refine And.intro (?_ : leA _ _ _) ?_ | fail) <;> (conv => whnf)))
                all_goals (try simp only [wQ])
                all_goals (try first | omega | exact ⟨fun h => h, fun _ _ => True.intro⟩)
              · (conv => whnf)
                (repeat' ((first | with_reducible exact True.intro | ((with_reducible refine And.intro ?_ ?_); focus (first | with_reducible rfl | omega | exact Nat.le_of_ble_eq_true rfl | rfl)) | with_reducible refine And.intro (?_ : leA _ _ _) ?_ | with_reducible refine And.intro (?_ : leL _ _ _) ?_ | with_reducible refine And.intro (?_ : leBlk _ _ _ _) ?_ | fail) <;> (conv => whnf)))
                all_goals (try simp only [wQ])
                all_goals (try first | rfl | exact ⟨fun h => h, fun _ _ => True.intro⟩)
                all_goals (try first | exact ⟨Nat.le_refl _, fun _ _ => ⟨True.intro, rfl⟩⟩)
                all_goals skip
            · obtain ⟨i, L⟩ := x
              obtain ⟨h1, h2⟩ := hx
              change i ≤ t.answer.loans.length at h1
              change L = [lineHd t] ++ t.answer.tickets.map ticketW ++ t.answer.postings.map postText ++ (t.answer.loans.take i).map loanW at h2
              have hL : L.length ≤ 6000 := by rw [h2]; simp; omega
              (conv => whnf)
              (repeat' ((first
                | ((with_reducible refine And.intro ?_ ?_); focus (omega))
                | (split <;> rename_i hh <;> (try simp only [wS] at hh) <;> (try simp (disch := omega) only [Int.tdiv_eq_ediv_of_nonneg, Int.tmod_eq_emod_of_nonneg] at hh))
                | fail) <;> (conv => whnf)))
              all_goals (try (show _ = _; simp only [wQ]))
              · refine ⟨(t.answer.loans.getD (Int.toNat (i : Int)) default), True.intro, ?_, ?_⟩
                · exact leL_rfl _
                (conv => whnf)
                (repeat' ((first
                  | ((with_reducible refine And.intro ?_ ?_); focus (first | ((with_reducible refine ⟨?_, ?_, ?_⟩) <;> first | (intro e he; rcases (by omega : e = 0 ∨ e = 1 ∨ e = 2 ∨ e = 3 ∨ e = 4 ∨ e = 5) with rfl | rfl | rfl | rfl | rfl | rfl <;> first | rfl | (exfalso; omega)) | (with_reducible assumption) | omega | ((with_reducible show growOk _ _); simp only [growOk, ty2, ty3, ty4, ty5, ty9, ty21, ty37, ty42, ty43, ty45, ty47, ty67, ty95, ty105, ty113, ty150, ty161, ty198, ty242, ty275, List.length_cons, List.length_nil]; first | omega | (refine ⟨?_, ?_⟩ <;> omega))) | omega | (simp only [inK_def, Go.Vc.lo, Go.Vc.hi]; omega)))
                  | fail) <;> (conv => whnf)))
                all_goals (try (show _ = _; simp only [wQ]))
                (conv => whnf)
                refine ⟨((i + 1, L ++ [loanW (t.answer.loans.getD (Int.toNat (i : Int)) default)]) : Nat × List (List UInt8)), [20], ?_, ⟨⟨rfl, Nat.le_of_ble_eq_true rfl, rfl⟩, ?_, ?_⟩⟩
                · exact ⟨⟨show i + 1 ≤ t.answer.loans.length by omega, show L ++ _ = _ by rw [h2]; exact map_step (by omega)⟩, show t.answer.loans.length - (i + 1) < t.answer.loans.length - i by omega⟩
                · (conv => whnf)
                  (repeat' ((first | with_reducible exact True.intro | ((with_reducible refine And.intro ?_ ?_); focus (first | with_reducible rfl | omega | exact Nat.le_of_ble_eq_true rfl | rfl)) | with_reducible refine And.intro (?_ : leA _ _ _) ?_ | fail) <;> (conv => whnf)))
                  all_goals (try simp only [wQ])
                  all_goals (try first | omega | exact ⟨fun h => h, fun _ _ => True.intro⟩)
                  all_goals (try first | exact ⟨by simp, Or.inl trivial⟩)
                · (conv => whnf)
                  (repeat' ((first | with_reducible exact True.intro | ((with_reducible refine And.intro ?_ ?_); focus (first | with_reducible rfl | omega | exact Nat.le_of_ble_eq_true rfl | rfl)) | with_reducible refine And.intro (?_ : leA _ _ _) ?_ | with_reducible refine And.intro (?_ : leL _ _ _) ?_ | with_reducible refine And.intro (?_ : leBlk _ _ _ _) ?_ | fail) <;> (conv => whnf)))
                  all_goals (try simp only [wQ])
                  all_goals (try first | rfl | exact ⟨fun h => h, fun _ _ => True.intro⟩)
                  all_goals (try first | exact ⟨by simp, fun e he => ⟨cat_str rfl he, rfl⟩⟩)
              · have hi : i = t.answer.loans.length := by omega
                rw [hi, List.take_length] at h2
                refine ⟨⟨by omega, fun e he => rfl⟩, ?_⟩
                (conv => whnf)
                (repeat' ((first
                  | ((with_reducible refine And.intro ?_ ?_); focus (with_reducible rfl))
                  | fail) <;> (conv => whnf)))
                all_goals (try (show _ = _; simp only [wQ]))
                refine ⟨?_, fun h => h, fun e he => ?_⟩
                · rw [sL_eq, hlin, ← h2]
                · show [AV.str (L.getD (0 + e) [])] = _; rw [sL_eq, hlin, ← h2, Nat.zero_add]
  · have hex : ¬ mayAnsB t.answer = true := hmay
    have hb : toldOk t = false := by rw [hok, Bool.eq_false_iff.2 hmay]; simp
    (conv => whnf)
    (repeat' ((first
      | ((with_reducible refine And.intro ?_ ?_); focus (with_reducible exact True.intro))
      | (split <;> rename_i hh <;> (try simp only [wS] at hh) <;> (try simp (disch := omega) only [Int.tdiv_eq_ediv_of_nonneg, Int.tmod_eq_emod_of_nonneg] at hh))
      | fail) <;> (conv => whnf)))
    all_goals (try (show _ = _; simp only [wQ]))
    · exact hbad hb
    refine ⟨t.answer, True.intro, ?_, ?_⟩
    · exact leL_rfl _
    (conv => whnf)
    (repeat' ((first
      | (exact absurd (by with_reducible assumption) hex)
      | (split <;> rename_i hh <;> (try simp only [wS] at hh) <;> (try simp (disch := omega) only [Int.tdiv_eq_ediv_of_nonneg, Int.tmod_eq_emod_of_nonneg] at hh))
      | fail) <;> (conv => whnf)))
    all_goals (try (show _ = _; simp only [wQ]))
    exact hbad hb
end
end Go.Vc.Z

/- Words of lists: the document's. -/
namespace Go.Vc.Z
open Go Go.Vc Go.Proofs Go.RowKit Go.Pl Go.Lib
noncomputable section
set_option maxRecDepth 100000
set_option linter.unusedSimpArgs false
set_option linter.unusedVariables false
attribute [local irreducible] inK Utf8.decode Utf8.encode Lib.itoa Pl.worth Pl.allDig
attribute [local irreducible] Lib.join
end
end Go.Vc.Z

/- Tickets' and loans' lines: the document's. -/
namespace Go.Vc.Z
open Go Go.Vc Go.Proofs Go.RowKit Go.Pl Go.Lib
noncomputable section
set_option maxRecDepth 100000
set_option linter.unusedSimpArgs false
set_option linter.unusedVariables false
attribute [local irreducible] inK Utf8.decode Utf8.encode Lib.itoa Pl.worth Pl.allDig
attribute [local irreducible] Lib.join
def S1 (t : Ticket) (i : Nat) : List UInt8 := Lib.join (tkHead t ++ ((numsL t).take i).map decW) [32]
def S2 (t : Ticket) (i : Nat) : List UInt8 := S1 t 5 ++ (if i = 0 then [] else 32 :: Lib.join ((t.coupons.take i).map couponW) [44])
def S3 (t : Ticket) (i : Nat) : List UInt8 := S2 t t.coupons.length ++ [32] ++ taxesW t.taxes ++ [32] ++ Lib.join ((t.history.take i).map eventW) [44]
end
end Go.Vc.Z

/- All lines: the document's. -/
namespace Go.Vc.Z
open Go Go.Vc Go.Proofs Go.RowKit Go.Pl Go.Lib
noncomputable section
set_option maxRecDepth 100000
set_option linter.unusedSimpArgs false
set_option linter.unusedVariables false
attribute [local irreducible] inK Utf8.decode Utf8.encode Lib.itoa Pl.worth Pl.allDig
attribute [local irreducible] Lib.join
end
end Go.Vc.Z

/- Much. -/
namespace Go.Vc.Z
open Go Go.Vc Go.Proofs Go.RowKit Go.Pl Go.Lib
noncomputable section
set_option maxRecDepth 100000
set_option linter.unusedSimpArgs false
set_option linter.unusedVariables false
attribute [local irreducible] inK Utf8.decode Utf8.encode Lib.itoa Pl.worth Pl.allDig
@[irreducible] def muchT (t : Ticket) : Bool := decide (20 < t.coupons.length) || decide (20 < t.taxes.length) || decide (100 < t.history.length) || decide (100 < t.locator.length)
def pcMuchT : PC := PC.of (fun t : Ticket => [.agg t.enc]) (fun _ => True) (fun t => .bool (sB (muchT t)))
def D_couponref13_Much : PT := tabD []
def C_couponref13_Much : FuncId → Option Ctr := tabC D_couponref13_Much []
theorem g_couponref13_Much {W : World} (hW : Tabs W) : GoodP (Fw W) Tryz.prog 17 pcMuchT := by
  have hD : PTOk (Fw W) Tryz.prog D_couponref13_Much := tabD_nil
  have hC0 : ∀ t : Ticket, CtrOk (Fw W) Tryz.prog (C_couponref13_Much) := fun t => (tabC_nil hD)
  refine goodP_ofC (D := D_couponref13_Much) (C := fun t => C_couponref13_Much) (wr := (fun _ => false)) rfl tyOk hD hC0 Tryz.func17 (fun _ _ => none) (fun _ => rfl) ?_
  intro t hf hp
  clear hf
  have hm : muchT t = (decide (20 < t.coupons.length) || decide (20 < t.taxes.length) || decide (100 < t.history.length) || decide (100 < t.locator.length)) := by unfold muchT; rfl
  (conv => whnf)
  (repeat' ((first
    | (split <;> rename_i hh <;> (try simp only [wS] at hh) <;> (try simp (disch := omega) only [Int.tdiv_eq_ediv_of_nonneg, Int.tmod_eq_emod_of_nonneg] at hh))
    | with_reducible refine (fun (hln : (_ : Int) ≤ 9223372036854775807) => ?_)
    | fail) <;> (conv => whnf)))
  all_goals (try (show _ = _; simp only [wQ]))
  · rw [hm, decide_eq_true (show 20 < t.coupons.length by omega)]; simp
  · rw [hm, decide_eq_true (show 20 < t.taxes.length by omega)]; simp
  · rw [hm, decide_eq_true (show 100 < t.history.length by omega)]; simp
  · rw [hm, ltI_eq, decide_eq_false (show ¬ 20 < t.coupons.length by omega), decide_eq_false (show ¬ 20 < t.taxes.length by omega), decide_eq_false (show ¬ 100 < t.history.length by omega)]
    simp only [Bool.false_or]; exact decide_eq_decide.2 ⟨fun h => by omega, fun h => by omega⟩
end
end Go.Vc.Z
