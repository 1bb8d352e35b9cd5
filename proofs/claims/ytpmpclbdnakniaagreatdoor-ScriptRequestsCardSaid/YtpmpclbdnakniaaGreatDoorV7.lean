/- Words of lists. -/
import Derived.Test.YtpmpclbdnakniaaGreatDoorV6
set_option linter.all false
set_option linter.unusedVariables false
set_option linter.unusedSimpArgs false
namespace Go.Vc.Z
open Go Go.Vc Go.Proofs Go.RowKit Go.Pl Go.Lib
noncomputable section
set_option maxRecDepth 100000
set_option linter.unusedSimpArgs false
set_option linter.unusedVariables false
attribute [local irreducible] inK Utf8.decode Utf8.encode Lib.itoa Pl.worth Pl.allDig
attribute [local irreducible] Lib.join
def rowS (l : List (List UInt8)) : Blk := match l with
 | [] => .dead
 | c :: l => .row 1 (l.length + 1) (fun e => [.str ((c :: l).getD e [])])
def oslS (id : Nat) : List (List UInt8) → AV
 | [] => .nilsl
 | _ :: l => .osl id 1 0 (l.length + 1) none
theorem cat_strn {l : List (List UInt8)} {n : Nat} {d : List UInt8} {g b : Nat → List AV} (hn : n = l.length) (hg : ∀ e, e < l.length → g e = [.str (l.getD e [])]) (hb : b 0 = [.str d]) {e : Nat} (he : e < n + 1) : catRow n g b e = [AV.str ((l ++ [d]).getD e [])] := by
 subst hn
 rw [← cat_str (L := l) (b := b) hb (by simpa using he)]
 unfold catRow
 split
 ·exact hg e (by assumption)
 ·rfl
def D_script_digits : PT := tabD [(111, pcItoaS)]
theorem d_script_digits {W : World} (hW : Tabs W) : PTOk (Fw W) Tryz.prog D_script_digits := (tabD_cons Tryz.call111 (goodItoaS hW) tabD_nil)
def C_script_digits : FuncId → Option Ctr := tabC D_script_digits []
theorem c_script_digits {W : World} (hW : Tabs W) : CtrOk (Fw W) Tryz.prog C_script_digits := (tabC_nil (d_script_digits hW))
theorem g_script_digits {W : World} (hW : Tabs W) : GoodP (Fw W) Tryz.prog 46 pcItoaS := by
 have hD := d_script_digits hW
 have hC0 : CtrOk (Fw W) Tryz.prog C_script_digits := (c_script_digits hW)
 refine goodP_fun (D := D_script_digits) (C := C_script_digits) (wr := (fun _ => false)) rfl tyOk hD hC0 Tryz.func46 (fun _ _ => none) ?_
 clear hC0 hD hW
 intro cs p r h hf hp
 split at h
 case h_2 => cases h
 rename_i n
 cases h
 try simp only [factL, factA, inK_def, Go.Vc.lo, Go.Vc.hi, and_true] at hf
 (conv => whnf)
 (repeat' ((first
  | ((with_reducible refine And.intro ?_ ?_); focus (with_reducible exact True.intro))
  | fail) <;> (conv => whnf)))
 all_goals (try (show _ = _; simp only [wQ]))
theorem fareT_len (n : Int) : (fareT n).length ≤ 31 := by
 unfold fareT
 split
 ·rename_i h
  unfold moneyB at h; simp at h
  exact moneyT_len (by omega)
 ·simp
@[irreducible] def taxW (x : Tax) : List UInt8 := Lib.itoa x.code ++ [61] ++ fareT x.amount
theorem taxW_len {x : Tax} (h : -9223372036854775808 ≤ x.code ∧ x.code ≤ 9223372036854775807) : (taxW x).length ≤ 70 := by
 unfold taxW
 have := itoa_len x.code h.1 h.2
 have := fareT_len x.amount
 simp only [List.length_append, List.length_cons, List.length_nil]; omega
def pcTaxW : PC := PC.fun fun | [.agg [.int .i64 c, .int .i64 a]] => some (True, .str (sS (taxW ⟨c, a⟩))) | _ => none
def D_script_taxes_1 : PT := tabD [(46, pcItoaS), (132, pcFareT)]
theorem d_script_taxes_1 {W : World} (hW : Tabs W) : PTOk (Fw W) Tryz.prog D_script_taxes_1 := (tabD_cons Tryz.call46 (g_script_digits hW) (tabD_cons Tryz.call132 (g_fareT hW) tabD_nil))
def C_script_taxes_1 : FuncId → Option Ctr := tabC D_script_taxes_1 []
theorem c_script_taxes_1 {W : World} (hW : Tabs W) : CtrOk (Fw W) Tryz.prog C_script_taxes_1 := (tabC_nil (d_script_taxes_1 hW))
theorem g_script_taxes_1 {W : World} (hW : Tabs W) : GoodP (Fw W) Tryz.prog 131 pcTaxW := by
 have hD := d_script_taxes_1 hW
 have hC0 : CtrOk (Fw W) Tryz.prog C_script_taxes_1 := (c_script_taxes_1 hW)
 refine goodP_fun (D := D_script_taxes_1) (C := C_script_taxes_1) (wr := (fun _ => false)) rfl tyOk hD hC0 Tryz.func131 (fun _ _ => none) ?_
 clear hC0 hD hW
 intro cs p r h hf hp
 split at h
 case h_2 => cases h
 rename_i c a
 cases h
 try simp only [factL, factA, inK_def, Go.Vc.lo, Go.Vc.hi, and_true] at hf
 have l1 := itoa_len c (by omega) (by omega)
 have l2 := fareT_len a
 have l3 := taxW_len (x := ⟨c, a⟩) (by simp; omega)
 (conv => whnf)
 (repeat' ((first
  | ((with_reducible refine And.intro ?_ ?_); focus (first | with_reducible exact True.intro | ((with_reducible show okB _ _ _ = true); rfl) | (simp only [List.length_append, bytesOf_length, List.toList_toArray, List.length_cons, List.length_nil, List.length_take, List.length_drop, sS_eq]; omega)))
  | fail) <;> (conv => whnf)))
 all_goals (try (show _ = _; simp only [wQ]))
 unfold taxW; rfl
theorem tax_facts {l : List Tax} {r : List AV} (h : factL (slE 2 Tax.enc l :: r)) : ∀ s ∈ l.map taxW, s.length ≤ 200 := by
 intro s hs
 obtain ⟨x, hx, rfl⟩ := List.mem_map.1 hs
 obtain ⟨i, hi, rfl⟩ := List.getElem_of_mem hx
 simp only [factL, factA] at h
 have h1 := (h.1.2 i hi).2.1
 have hx : l.getD i default = l[i] := by simp [List.getD_eq_getElem?_getD, hi]
 rw [hx] at h1
 have h2 : -9223372036854775808 ≤ l[i].code ∧ l[i].code ≤ 9223372036854775807 := inK_def.1 h1
 exact Nat.le_trans (taxW_len h2) (by omega)
def LJTax (l : List Tax) : LoopSpec := {
 α := Nat × List (List UInt8)
 keep := [1, 5, 8, 9, 10]
 vals x := [.fn 131 [], oslS 0 x.2, slE 2 Tax.enc l, .int .i64 l.length, .int .i64 x.1]
 heap x := [rowS x.2]
 ok x := x.1 ≤ l.length ∧ x.2 = (l.take x.1).map taxW
 μ x := l.length - x.1 }
def pcJTax : PC := PC.of (fun l : List Tax => [slE 2 Tax.enc l, .fn 131 []]) (fun l => 0 < l.length ∧ l.length ≤ 1000000) (fun l => .str (sS (Lib.join (l.map taxW) [44])))
def D_script_joined_api_Tax : PT := tabD [(62, pcJoinS), (131, pcTaxW)]
theorem d_script_joined_api_Tax {W : World} (hW : Tabs W) : PTOk (Fw W) Tryz.prog D_script_joined_api_Tax := (tabD_cons Tryz.call62 (goodJoinS hW) (tabD_cons Tryz.call131 (g_script_taxes_1 hW) tabD_nil))
def C_script_joined_api_Tax : FuncId → Option Ctr := tabC D_script_joined_api_Tax []
theorem c_script_joined_api_Tax {W : World} (hW : Tabs W) : CtrOk (Fw W) Tryz.prog C_script_joined_api_Tax := (tabC_nil (d_script_joined_api_Tax hW))
def L_script_joined_api_Tax : List Tax → Nat → Option LR := fun l i => cond (Nat.beq i 3) (some (.inv (LJTax l))) (none)
set_option maxHeartbeats 2000000 in
theorem g_script_joined_api_Tax {W : World} (hW : Tabs W) : GoodP (Fw W) Tryz.prog 130 pcJTax := by
 have hD := d_script_joined_api_Tax hW
 have hC0 : ∀ l : List Tax, CtrOk (Fw W) Tryz.prog C_script_joined_api_Tax := fun l => (c_script_joined_api_Tax hW)
 refine goodP_ofC (D := D_script_joined_api_Tax) (C := fun l => C_script_joined_api_Tax) (wr := (fun _ => false)) rfl tyOk hD hC0 Tryz.func130 (L_script_joined_api_Tax) (fun _ => rfl) ?_
 intro l hf hp
 obtain ⟨hp0, hp1⟩ := hp
 have hw : ∀ s ∈ l.map taxW, s.length ≤ 200 := (tax_facts hf)
 clear hf
 (conv => whnf)
 (repeat' ((first
  | with_reducible refine (fun (hln : (_ : Int) ≤ 9223372036854775807) => ?_)
  | fail) <;> (conv => whnf)))
 all_goals (try (show _ = _; simp only [wQ]))
 refine ⟨?_, fun (x : Nat × List (List UInt8)) hx => ?_⟩
 ·(conv => whnf)
  refine ⟨((0, []) : Nat × List (List UInt8)), [], ?_, ⟨⟨rfl, Nat.le_of_ble_eq_true rfl, rfl⟩, ?_, ?_⟩⟩
  ·exact ⟨Nat.zero_le _, rfl⟩
  ·exact leL_rfl _
  ·(conv => whnf)
   (repeat' ((first | with_reducible exact True.intro | fail) <;> (conv => whnf)))
   all_goals (try simp only [wQ])
 ·obtain ⟨i, L⟩ := x
  obtain ⟨h1, h2⟩ := hx
  change i ≤ l.length at h1
  change L = (l.take i).map taxW at h2
  have hlen : L.length = i := by rw [h2]; simp; omega
  have hstep : i < l.length → L ++ [taxW (l.getD (Int.toNat (i : Int)) default)] = (l.take (i + 1)).map taxW := fun h => by
   rw [h2, List.take_add_one, List.map_append, List.getElem?_eq_getElem h]
   have : l.getD (Int.toNat (i : Int)) default = l[i] := by
    rw [show Int.toNat (i : Int) = i from rfl, List.getD_eq_getElem?_getD, List.getElem?_eq_getElem h]; rfl
   rw [this]; rfl
  rcases L with _ | ⟨s, L⟩
  ·have hi : i = 0 := by simpa using hlen.symm
   subst hi
   (conv => whnf)
   (repeat' ((first
    | ((with_reducible refine And.intro ?_ ?_); focus (first | with_reducible exact True.intro | omega | (simp only [inK_def, Go.Vc.lo, Go.Vc.hi]; omega) | (simp only [growOk, ty2, ty3, ty4, ty5, ty9, ty21, ty37, ty42, ty43, ty45, ty47, ty67, ty95, ty105, ty113, ty150, ty161, ty198, ty242, ty275]; first | omega | (refine ⟨?_, ?_⟩ <;> omega))))
    | (split <;> rename_i hh <;> (try simp only [wS] at hh) <;> (try simp (disch := omega) only [wT] at hh))
    | fail) <;> (conv => whnf)))
   all_goals (try (show _ = _; simp only [wQ]))
   ·(conv => whnf)
    refine ⟨((1, [taxW (l.getD (Int.toNat ((0 : Nat) : Int)) default)]) : Nat × List (List UInt8)), [3], ?_, ⟨⟨rfl, Nat.le_of_ble_eq_true rfl, rfl⟩, ?_, ?_⟩⟩
    ·exact ⟨⟨show 1 ≤ l.length by omega, hstep (by omega)⟩, show l.length - 1 < l.length - 0 by omega⟩
    ·(conv => whnf)
     (repeat' ((first | with_reducible exact True.intro | ((with_reducible refine Or.inr ?_); rfl) | ((with_reducible refine And.intro ?_ ?_); focus (first | with_reducible rfl | omega | exact Nat.le_of_ble_eq_true rfl | rfl)) | with_reducible refine And.intro (?_ : leA _ _ _) ?_ | fail) <;> (conv => whnf)))
     all_goals (try simp only [wQ])
     all_goals (try first | omega | exact ⟨fun h => h, fun _ _ => True.intro⟩)
    ·(conv => whnf)
     (repeat' ((first | with_reducible exact True.intro | ((with_reducible refine And.intro ?_ ?_); focus (first | with_reducible rfl | omega | exact Nat.le_of_ble_eq_true rfl | rfl)) | with_reducible refine And.intro (?_ : leBlk _ _ _ _) ?_ | fail) <;> (conv => whnf)))
     all_goals (try simp only [wQ])
     intro e he
     have he : e < 1 := he
     obtain rfl : e = 0 := by omega
     exact ⟨rfl, rfl⟩
   ·exfalso; omega
  ·have hlen2 : L.length + 1 = i := hlen
   (conv => whnf)
   (repeat' ((first
    | ((with_reducible refine And.intro ?_ ?_); focus (first | with_reducible exact True.intro | ((with_reducible refine ⟨?_, ?_, ?_⟩) <;> first | (intro e he; rcases (by omega : e = 0 ∨ e = 1 ∨ e = 2 ∨ e = 3 ∨ e = 4 ∨ e = 5) with rfl | rfl | rfl | rfl | rfl | rfl <;> first | rfl | (exfalso; omega)) | (with_reducible assumption) | omega | ((with_reducible show growOk _ _); simp only [growOk, ty2, ty3, ty4, ty5, ty9, ty21, ty37, ty42, ty43, ty45, ty47, ty67, ty95, ty105, ty113, ty150, ty161, ty198, ty242, ty275, List.length_cons, List.length_nil]; first | omega | (refine ⟨?_, ?_⟩ <;> omega))) | omega | (simp only [inK_def, Go.Vc.lo, Go.Vc.hi]; omega)))
    | (split <;> rename_i hh <;> (try simp only [wS] at hh) <;> (try simp (disch := omega) only [wT] at hh))
    | fail) <;> (conv => whnf)))
   all_goals (try (show _ = _; simp only [wQ]))
   ·(conv => whnf)
    refine ⟨((i + 1, s :: L ++ [taxW (l.getD (Int.toNat (i : Int)) default)]) : Nat × List (List UInt8)), [3], ?_, ⟨⟨rfl, Nat.le_of_ble_eq_true rfl, rfl⟩, ?_, ?_⟩⟩
    ·exact ⟨⟨show i + 1 ≤ l.length by omega, hstep (by omega)⟩, show l.length - (i + 1) < l.length - i by omega⟩
    ·(conv => whnf)
     (repeat' ((first | with_reducible exact True.intro | ((with_reducible refine And.intro ?_ ?_); focus (first | with_reducible rfl | omega | exact Nat.le_of_ble_eq_true rfl | rfl)) | with_reducible refine And.intro (?_ : leA _ _ _) ?_ | fail) <;> (conv => whnf)))
     all_goals (try simp only [wQ])
     all_goals (try first | omega | exact ⟨fun h => h, fun _ _ => True.intro⟩)
     all_goals (try first | exact ⟨by simp, Or.inl trivial⟩)
    ·(conv => whnf)
     (repeat' ((first | with_reducible exact True.intro | ((with_reducible refine And.intro ?_ ?_); focus (first | with_reducible rfl | omega | exact Nat.le_of_ble_eq_true rfl | rfl)) | with_reducible refine And.intro (?_ : leBlk _ _ _ _) ?_ | fail) <;> (conv => whnf)))
     all_goals (try simp only [wQ])
     exact ⟨by simp, fun e he => ⟨cat_strn (l := s :: L) rfl (fun _ _ => rfl) rfl (by simpa using he), rfl⟩⟩
   ·have hi : i = l.length := by omega
    rw [hi, List.take_length] at h2
    refine ⟨⟨by omega, fun e he => rfl⟩, ?_⟩
    refine ⟨((s :: L, [44]) : List (List UInt8) × List UInt8), ⟨by have := join_le [44] 200 (s :: L) (by rw [h2]; exact hw); simp at this; show (Lib.join (s :: L) [44]).length ≤ _; omega, by show (s :: L).length ≤ _; simp; omega⟩, ?_, ?_⟩
    ·(conv => whnf)
     (repeat' ((first | with_reducible exact True.intro | ((with_reducible refine And.intro ?_ ?_); focus (first | with_reducible rfl | omega | exact Nat.le_of_ble_eq_true rfl | rfl)) | with_reducible refine And.intro (?_ : leA _ _ _) ?_ | fail) <;> (conv => whnf)))
     all_goals (try simp only [wQ])
     all_goals (try first | (refine ⟨fun h => h, fun e he => ?_⟩; rw [Nat.zero_add]; done))
    (conv => whnf)
    all_goals (try (show _ = _; simp only [wQ]))
    rw [h2]
@[irreducible] def taxesW (l : List Tax) : List UInt8 := if l.length = 0 then [45] else Lib.join (l.map taxW) [44]
def pcTaxesW : PC := PC.of (fun l : List Tax => [slE 2 Tax.enc l]) (fun l => l.length ≤ 1000000) (fun l => .str (sS (taxesW l)))
def D_script_taxes : PT := tabD [(130, pcJTax), (131, pcTaxW)]
theorem d_script_taxes {W : World} (hW : Tabs W) : PTOk (Fw W) Tryz.prog D_script_taxes := (tabD_cons Tryz.call130 (g_script_joined_api_Tax hW) (tabD_cons Tryz.call131 (g_script_taxes_1 hW) tabD_nil))
def C_script_taxes : FuncId → Option Ctr := tabC D_script_taxes []
theorem c_script_taxes {W : World} (hW : Tabs W) : CtrOk (Fw W) Tryz.prog C_script_taxes := (tabC_nil (d_script_taxes hW))
theorem g_script_taxes {W : World} (hW : Tabs W) : GoodP (Fw W) Tryz.prog 58 pcTaxesW := by
 have hD := d_script_taxes hW
 have hC0 : ∀ l : List Tax, CtrOk (Fw W) Tryz.prog C_script_taxes := fun l => (c_script_taxes hW)
 refine goodP_ofC (D := D_script_taxes) (C := fun l => C_script_taxes) (wr := (fun _ => false)) rfl tyOk hD hC0 Tryz.func58 (fun _ _ => none) (fun _ => rfl) ?_
 intro l hf hp
 clear hf
 (conv => whnf)
 (repeat' ((first
  | (split <;> rename_i hh <;> (try simp only [wS] at hh) <;> (try simp (disch := omega) only [wT] at hh))
  | with_reducible refine (fun (hln : (_ : Int) ≤ 9223372036854775807) => ?_)
  | fail) <;> (conv => whnf)))
 all_goals (try (show _ = _; simp only [wQ]))
 ·unfold taxesW; rw [if_pos (by omega)]
 ·refine ⟨l, ⟨by omega, hp⟩, ?_, ?_⟩
  ·exact leL_rfl _
  (conv => whnf)
  all_goals (try (show _ = _; simp only [wQ]))
  unfold taxesW; rw [if_neg (by omega)]
@[irreducible] def flightW (c : Coupon) : List UInt8 := Lib.itoa c.flight ++ [64] ++ Lib.itoa c.day ++ [61] ++ fareT c.value
@[irreducible] def couponW (c : Coupon) : List UInt8 := flightW c ++ [58] ++ letterS c.status ++ (if c.holder = 0 then [] else 47 :: Lib.itoa c.holder) ++ (if c.next = 0 then [] else 62 :: numText c.next)
theorem letterS_len (s : Int) : (letterS s).length ≤ 1 := by
 by_cases h : mayS s = true
 ·obtain ⟨c, hc, _⟩ := letter_one h; rw [hc]; exact Nat.le_refl 1
 ·unfold letterS; rw [if_neg h]; simp
theorem flightW_len {c : Coupon} (h1 : -9223372036854775808 ≤ c.flight ∧ c.flight ≤ 9223372036854775807) (h2 : -9223372036854775808 ≤ c.day ∧ c.day ≤ 9223372036854775807) : (flightW c).length ≤ 100 := by
 unfold flightW
 have := itoa_len c.flight h1.1 h1.2
 have := itoa_len c.day h2.1 h2.2
 have := fareT_len c.value
 simp only [List.length_append, List.length_cons, List.length_nil]; omega
def pcFlightW : PC := PC.fun fun | [.agg [.int .i64 cf, .int .i64 cd, .int .i64 cv, .int .i64 cs, .int .i64 ch, .int .u64 cx]] => some (True, .str (sS (flightW (Coupon.mk cf cd cv cs ch cx)))) | _ => none
theorem g_script_flight {W : World} (hW : Tabs W) : GoodP (Fw W) Tryz.prog 129 pcFlightW := by
 have hD := d_script_taxes_1 hW
 have hC0 : CtrOk (Fw W) Tryz.prog C_script_taxes_1 := (c_script_taxes_1 hW)
 refine goodP_fun (D := D_script_taxes_1) (C := C_script_taxes_1) (wr := (fun _ => false)) rfl tyOk hD hC0 Tryz.func129 (fun _ _ => none) ?_
 clear hC0 hD hW
 intro cs p r h hf hp
 split at h
 case h_2 => cases h
 rename_i cf cd cv cs ch cx
 cases h
 try simp only [factL, factA, inK_def, Go.Vc.lo, Go.Vc.hi, and_true] at hf
 have l1 := itoa_len cf (by omega) (by omega)
 have l2 := itoa_len cd (by omega) (by omega)
 have l3 := fareT_len cv
 clear hf
 (conv => whnf)
 (repeat' ((first
  | ((with_reducible refine And.intro ?_ ?_); focus (first | with_reducible exact True.intro | ((with_reducible show okB _ _ _ = true); rfl) | (simp only [List.length_append, bytesOf_length, List.toList_toArray, List.length_cons, List.length_nil, List.length_take, List.length_drop, sS_eq]; omega)))
  | fail) <;> (conv => whnf)))
 all_goals (try (show _ = _; simp only [wQ]))
 unfold flightW; rfl
@[irreducible] def eventW (x : Event) : List UInt8 := Lib.itoa x.day ++ [46] ++ Lib.itoa x.coupon ++ [46] ++ letterS x.src ++ letterS x.dst
end
end Go.Vc.Z
namespace Go.Vc.Z
open Go Go.Vc Go.Proofs Go.RowKit Go.Pl Go.Lib
noncomputable section
set_option maxRecDepth 100000
set_option linter.unusedSimpArgs false
set_option linter.unusedVariables false
attribute [local irreducible] inK Utf8.decode Utf8.encode Lib.itoa Pl.worth Pl.allDig
attribute [local irreducible] Lib.join
abbrev numsL (t : Ticket) : List Int := [t.prev, t.origin, t.first, t.voucher, t.posts]
abbrev decW (n : Int) : List UInt8 := decDigits n.toNat
def tkHead (t : Ticket) : List (List UInt8) := [[116, 105, 99, 107, 101, 116], numText t.number, t.locator, Lib.itoa t.issued]
theorem locOk_len {s : List UInt8} (h : locOk s = true) : s.length = 6 := by
 unfold locOk at h; simp at h; exact h.2
theorem taxesW_len {l : List Tax} (h : l.length ≤ 4) (hf : ∀ s ∈ l.map taxW, s.length ≤ 200) : (taxesW l).length ≤ 1000 := by
 unfold taxesW
 split
 ·simp
 ·have := join_le [44] 200 _ hf
  simp at this; omega
end
end Go.Vc.Z
namespace Go.Vc.Z
open Go Go.Vc Go.Proofs Go.RowKit Go.Pl Go.Lib
noncomputable section
set_option maxRecDepth 100000
set_option linter.unusedSimpArgs false
set_option linter.unusedVariables false
attribute [local irreducible] inK Utf8.decode Utf8.encode Lib.itoa Pl.worth Pl.allDig
end
end Go.Vc.Z
namespace Go.Vc.Z
open Go Go.Vc Go.Proofs Go.RowKit Go.Pl Go.Lib
noncomputable section
set_option maxRecDepth 100000
set_option linter.unusedSimpArgs false
set_option linter.unusedVariables false
attribute [local irreducible] inK Utf8.decode Utf8.encode Lib.itoa Pl.worth Pl.allDig
attribute [local irreducible] Lib.join
def codesL : List (List UInt8) := [[111, 107], [110, 105, 108], [97, 114, 103], [108, 111, 110, 103], [98, 121, 116, 101, 115], [114, 97, 110, 103, 101], [110, 111, 110, 101], [101, 120, 105, 115, 116, 115], [102, 117, 108, 108], [115, 116, 97, 116, 101], [100, 101, 97, 100], [100, 105, 103, 105, 116], [115, 116, 111, 99, 107], [99, 111, 110, 116, 114, 111, 108], [109, 111, 110, 101, 121], [100, 97, 121], [107, 101, 121], [98, 117, 115, 121]]
@[irreducible] def codeW (e : Int) : List UInt8 := if 0 ≤ e ∧ e ≤ 17 then codesL.getD e.toNat [] else []
def pcCode : PC := PC.fun fun | [.int .i64 e] => some (True, .str (sS (codeW e))) | _ => none
theorem codeW_ne {e : Int} (h : 0 ≤ e ∧ e ≤ 17) : codeW e ≠ [] ∧ (codeW e).length ≤ 10 := by
 unfold codeW; rw [if_pos h]
 rcases (by omega : e = 0 ∨ e = 1 ∨ e = 2 ∨ e = 3 ∨ e = 4 ∨ e = 5 ∨ e = 6 ∨ e = 7 ∨ e = 8 ∨ e = 9 ∨ e = 10 ∨ e = 11 ∨ e = 12 ∨ e = 13 ∨ e = 14 ∨ e = 15 ∨ e = 16 ∨ e = 17) with rfl | rfl | rfl | rfl | rfl | rfl | rfl | rfl | rfl | rfl | rfl | rfl | rfl | rfl | rfl | rfl | rfl | rfl <;> decide
theorem codeW_nil {e : Int} (h : ¬ (0 ≤ e ∧ e ≤ 17)) : codeW e = [] := by
 unfold codeW; rw [if_neg h]
theorem codeW_len (e : Int) : (codeW e).length ≤ 10 := by
 by_cases h : 0 ≤ e ∧ e ≤ 17
 ·exact (codeW_ne h).2
 ·rw [codeW_nil h]; simp
theorem g_script_Code {W : World} (hW : Tabs W) : GoodP (Fw W) Tryz.prog 16 pcCode := by
 have hD := d_number_Check hW
 have hC0 : CtrOk (Fw W) Tryz.prog C_number_Check := (c_number_Check hW)
 refine goodP_fun (D := D_number_Check) (C := C_number_Check) (wr := (fun _ => false)) rfl tyOk hD hC0 Tryz.func16 (fun _ _ => none) ?_
 clear hC0 hD hW
 intro cs p r h hf hp
 split at h
 case h_2 => cases h
 rename_i e
 cases h
 try simp only [factL, factA, inK_def, Go.Vc.lo, Go.Vc.hi, and_true] at hf
 by_cases h : 0 ≤ e ∧ e ≤ 17
 ·rcases (by omega : e = 0 ∨ e = 1 ∨ e = 2 ∨ e = 3 ∨ e = 4 ∨ e = 5 ∨ e = 6 ∨ e = 7 ∨ e = 8 ∨ e = 9 ∨ e = 10 ∨ e = 11 ∨ e = 12 ∨ e = 13 ∨ e = 14 ∨ e = 15 ∨ e = 16 ∨ e = 17) with rfl | rfl | rfl | rfl | rfl | rfl | rfl | rfl | rfl | rfl | rfl | rfl | rfl | rfl | rfl | rfl | rfl | rfl
  all_goals (
   (conv => whnf)
   (repeat' ((first
    | ((with_reducible refine And.intro ?_ ?_); focus (omega))
    | with_reducible refine (fun (hln : (_ : Int) ≤ 9223372036854775807) => ?_)
    | fail) <;> (conv => whnf)))
   all_goals (try (show _ = _; simp only [wQ]))
   )
  all_goals (unfold codeW; rfl)
 ·clear hf
  (conv => whnf)
  (repeat' ((first
   | ((with_reducible refine And.intro ?_ ?_); focus (omega))
   | (split <;> rename_i hh <;> (try simp only [wS] at hh) <;> (try simp (disch := omega) only [wT] at hh))
   | with_reducible refine (fun (hln : (_ : Int) ≤ 9223372036854775807) => ?_)
   | fail) <;> (conv => whnf)))
  all_goals (try (show _ = _; simp only [wQ]))
  all_goals try (rw [codeW_nil h]; done)
  all_goals (exfalso; omega)
end
end Go.Vc.Z
namespace Go.Vc.Z
open Go Go.Vc Go.Proofs Go.RowKit Go.Pl Go.Lib
noncomputable section
set_option maxRecDepth 100000
set_option linter.unusedSimpArgs false
set_option linter.unusedVariables false
attribute [local irreducible] inK Utf8.decode Utf8.encode Lib.itoa Pl.worth Pl.allDig
attribute [local irreducible] Lib.join
theorem map_step {α : Type} [Inhabited α] {f : α → List UInt8} {l : List α} {i : Nat} {B : List (List UInt8)} (h : i < l.length) : (B ++ (l.take i).map f) ++ [f (l.getD (Int.toNat (i : Int)) default)] = B ++ (l.take (i + 1)).map f := by
 rw [List.append_assoc, List.take_add_one, List.map_append, List.getElem?_eq_getElem h]
 have : l.getD (Int.toNat (i : Int)) default = l[i] := by
  rw [show Int.toNat (i : Int) = i from rfl, List.getD_eq_getElem?_getD, List.getElem?_eq_getElem h]; rfl
 rw [this]; rfl
end
end Go.Vc.Z
namespace Go.Vc.Z
open Go Go.Vc Go.Proofs Go.RowKit Go.Pl Go.Lib
noncomputable section
set_option maxRecDepth 100000
set_option linter.unusedSimpArgs false
set_option linter.unusedVariables false
attribute [local irreducible] inK Utf8.decode Utf8.encode Lib.itoa Pl.worth Pl.allDig
attribute [local irreducible] Lib.join
theorem join_take {α : Type} [Inhabited α] {f : α → List UInt8} {l : List α} {i : Nat} (h : i < l.length) (sep : List UInt8) : Lib.join ((l.take (i + 1)).map f) sep = (if i = 0 then [] else Lib.join ((l.take i).map f) sep ++ sep) ++ f (l.getD (Int.toNat (i : Int)) default) := by
 have := map_step (f := f) (l := l) (i := i) (B := []) h
 simp only [List.nil_append] at this
 rw [← this]
 split
 ·rename_i h0
  subst h0
  simp [Lib.join_one]
 ·rw [join_snoc (by rw [ne_eq, List.map_eq_nil_iff, List.take_eq_nil_iff]; intro hc; rcases hc with hc | hc <;> first | omega | (rw [hc] at h; simp at h)), List.append_assoc]
theorem moneyT_fareT {n : Int} (h : moneyB n = true) : moneyT n = fareT n := by unfold fareT; rw [if_pos h]
theorem moneyB_of {n : Int} (h : someB n = true) : moneyB n = true ∧ -9223372036854775807 ≤ n := by
 unfold someB at h; simp at h
 exact ⟨by unfold moneyB; simp; omega, by omega⟩
theorem moneyB_lo {n : Int} (h : moneyB n = true) : -9223372036854775807 ≤ n := by
 unfold moneyB at h; simp at h; omega
def pcFlightR : PC := PC.fun fun | [.agg [.int .i64 cf, .int .i64 cd, .int .i64 cv, .int .i64 cs, .int .i64 ch, .int .u64 cx]] => some (moneyB cv = true, .str (sS (flightW (Coupon.mk cf cd cv cs ch cx)))) | _ => none
def D_couponref26_flight : PT := tabD [(49, pcNum), (83, pcMoneyT)]
theorem d_couponref26_flight {W : World} (hW : Tabs W) : PTOk (Fw W) Tryz.prog D_couponref26_flight := (tabD_cons Tryz.call49 (g_couponref26_num hW) (tabD_cons Tryz.call83 (g_couponref11_Text hW) tabD_nil))
def C_couponref26_flight : FuncId → Option Ctr := tabC D_couponref26_flight []
theorem c_couponref26_flight {W : World} (hW : Tabs W) : CtrOk (Fw W) Tryz.prog C_couponref26_flight := (tabC_nil (d_couponref26_flight hW))
theorem g_couponref26_flight {W : World} (hW : Tabs W) : GoodP (Fw W) Tryz.prog 171 pcFlightR := by
 have hD := d_couponref26_flight hW
 have hC0 : CtrOk (Fw W) Tryz.prog C_couponref26_flight := (c_couponref26_flight hW)
 refine goodP_fun (D := D_couponref26_flight) (C := C_couponref26_flight) (wr := (fun _ => false)) rfl tyOk hD hC0 Tryz.func171 (fun _ _ => none) ?_
 clear hC0 hD hW
 intro cs p r h hf hp
 split at h
 case h_2 => cases h
 rename_i cf cd cv cs ch cx
 cases h
 try simp only [factL, factA, inK_def, Go.Vc.lo, Go.Vc.hi, and_true] at hf
 have l1 := itoa_len cf (by omega) (by omega)
 have l2 := itoa_len cd (by omega) (by omega)
 have hlo := moneyB_lo hp
 have l3 : (moneyT cv).length ≤ 31 := by rw [moneyT_fareT hp]; exact fareT_len cv
 clear hf
 (conv => whnf)
 (repeat' ((first
  | ((with_reducible refine And.intro ?_ ?_); focus (first | with_reducible exact True.intro | with_reducible assumption | ((with_reducible show okB _ _ _ = true); rfl) | (simp only [List.length_append, bytesOf_length, List.toList_toArray, List.length_cons, List.length_nil, List.length_take, List.length_drop, sS_eq]; omega)))
  | fail) <;> (conv => whnf)))
 all_goals (try (show _ = _; simp only [wQ]))
 unfold flightW; rw [moneyT_fareT hp]
def pcTaxesR : PC := PC.of (fun l : List Tax => [slE 2 Tax.enc l]) (fun l => taxesB l = true) (fun l => .str (sS (taxesW l)))
def LTaxR (l : List Tax) : LoopSpec := {
 α := Nat
 keep := [0, 3, 4]
 vals i := [slE 2 Tax.enc l, .str (sS (Lib.join ((l.take i).map taxW) [44])), .int .i64 i]
 heap _ := []
 ok i := i ≤ l.length
 μ i := l.length - i }
theorem taxes_some {l : List Tax} : ∀ {k : Int}, taxesFrom k l = true → ∀ x ∈ l, someB x.amount = true := by
 induction l with
 | nil => intro k _ x hx; cases hx
 | cons y l ih =>
  intro k h x hx
  simp only [taxesFrom, Bool.and_eq_true] at h
  rcases List.mem_cons.1 hx with rfl | hx
  ·exact h.1.2
  ·exact ih h.2 x hx
theorem taxesB_facts {l : List Tax} (h : taxesB l = true) : l.length ≤ 4 ∧ ∀ i, i < l.length → someB (l.getD (Int.toNat (i : Int)) default).amount = true := by
 unfold taxesB at h
 simp only [Bool.and_eq_true, decide_eq_true_eq] at h
 refine ⟨h.2, fun i hi => taxes_some h.1 _ ?_⟩
 rw [show Int.toNat (i : Int) = i from rfl, List.getD_eq_getElem?_getD, List.getElem?_eq_getElem hi]
 exact List.getElem_mem hi
def L_couponref26_taxes : List Tax → Nat → Option LR := fun l i => cond (Nat.beq i 5) (some (.inv (LTaxR l))) (none)
set_option maxHeartbeats 2000000 in
theorem g_couponref26_taxes {W : World} (hW : Tabs W) : GoodP (Fw W) Tryz.prog 85 pcTaxesR := by
 have hD := d_couponref26_flight hW
 have hC0 : ∀ l : List Tax, CtrOk (Fw W) Tryz.prog C_couponref26_flight := fun l => (c_couponref26_flight hW)
 refine goodP_ofC (D := D_couponref26_flight) (C := fun l => C_couponref26_flight) (wr := (fun _ => false)) rfl tyOk hD hC0 Tryz.func85 (L_couponref26_taxes) (fun _ => rfl) ?_
 intro l hf hp
 obtain ⟨p1, p2⟩ := taxesB_facts hp
 have hw := tax_facts hf
 have hx : ∀ i, i < l.length → -9223372036854775808 ≤ (l.getD (Int.toNat (i : Int)) default).code ∧ (l.getD (Int.toNat (i : Int)) default).code ≤ 9223372036854775807 := fun i hi => by
  simp only [factL, factA] at hf
  exact inK_def.1 (hf.1.2 i hi).2.1
 clear hf
 (conv => whnf)
 (repeat' ((first
  | (split <;> rename_i hh <;> (try simp only [wS] at hh) <;> (try simp (disch := omega) only [wT] at hh))
  | with_reducible refine (fun (hln : (_ : Int) ≤ 9223372036854775807) => ?_)
  | fail) <;> (conv => whnf)))
 all_goals (try (show _ = _; simp only [wQ]))
 ·unfold taxesW; rw [if_pos (by omega)]
 ·refine ⟨?_, fun (i : Nat) (hi : i ≤ l.length) => ?_⟩
  ·(conv => whnf)
   refine ⟨(0 : Nat), [], ?_, ⟨⟨rfl, Nat.le_of_ble_eq_true rfl, rfl⟩, ?_, ?_⟩⟩
   ·exact Nat.zero_le _
   ·(conv => whnf)
    (repeat' ((first | with_reducible exact True.intro | ((with_reducible refine And.intro ?_ ?_); focus (first | with_reducible rfl | omega | exact Nat.le_of_ble_eq_true rfl | rfl)) | with_reducible refine And.intro (?_ : leA _ _ _) ?_ | fail) <;> (conv => whnf)))
    all_goals (try simp only [wQ])
    all_goals (try first | omega | exact ⟨fun h => h, fun _ _ => True.intro⟩)
    simp [Lib.join_nil]
   ·(conv => whnf)
    (repeat' ((first | with_reducible exact True.intro | fail) <;> (conv => whnf)))
    all_goals (try simp only [wQ])
  ·have hj := join_le [44] 200 ((l.take i).map taxW) (fun s hs => hw s (List.mem_of_mem_take (by rwa [List.map_take] at hs)))
   have hj2 : (Lib.join ((l.take i).map taxW) [44]).length ≤ 1000 := by
    have h4 : ((l.take i).map taxW).length ≤ 4 := by simp; omega
    have := Nat.mul_le_mul_right (200 + [(44 : UInt8)].length) h4
    simp only [List.length_cons, List.length_nil] at this hj
    omega
   have q1 : i < l.length → (Lib.itoa (l.getD (Int.toNat (i : Int)) default).code).length ≤ 32 := fun h => itoa_len _ (hx i h).1 (hx i h).2
   have q2 : i < l.length → (moneyT (l.getD (Int.toNat (i : Int)) default).amount).length ≤ 31 := fun h => by rw [moneyT_fareT (moneyB_of (p2 i h)).1]; exact fareT_len _
   have q3 : i < l.length → -9223372036854775807 ≤ (l.getD (Int.toNat (i : Int)) default).amount := fun h => (moneyB_of (p2 i h)).2
   have q4 : i < l.length → taxW (l.getD (Int.toNat (i : Int)) default) = Lib.itoa (l.getD (Int.toNat (i : Int)) default).code ++ [61] ++ moneyT (l.getD (Int.toNat (i : Int)) default).amount := fun h => by unfold taxW; rw [moneyT_fareT (moneyB_of (p2 i h)).1]
   (conv => whnf)
   (repeat' ((first
    | ((with_reducible refine And.intro ?_ ?_); focus (first | with_reducible exact True.intro | ((with_reducible show okB _ _ _ = true); rfl) | omega | (simp only [inK_def, Go.Vc.lo, Go.Vc.hi]; omega) | (simp only [List.length_append, bytesOf_length, List.toList_toArray, List.length_cons, List.length_nil, List.length_take, List.length_drop, sS_eq]; omega)))
    | (split <;> rename_i hh <;> (try simp only [wS] at hh) <;> (try simp (disch := omega) only [wT] at hh))
    | with_reducible refine (fun (hln : (_ : Int) ≤ 9223372036854775807) => ?_)
    | fail) <;> (conv => whnf)))
   all_goals (try (show _ = _; simp only [wQ]))
   ·(conv => whnf)
    refine ⟨(i + 1 : Nat), [], ?_, ⟨⟨rfl, Nat.le_of_ble_eq_true rfl, rfl⟩, ?_, ?_⟩⟩
    ·exact ⟨show i + 1 ≤ l.length by omega, show l.length - (i + 1) < l.length - i by omega⟩
    ·(conv => whnf)
     (repeat' ((first | with_reducible exact True.intro | ((with_reducible refine And.intro ?_ ?_); focus (first | with_reducible rfl | omega | exact Nat.le_of_ble_eq_true rfl | rfl)) | with_reducible refine And.intro (?_ : leA _ _ _) ?_ | fail) <;> (conv => whnf)))
     all_goals (try simp only [wQ])
     all_goals (try first | omega | exact ⟨fun h => h, fun _ _ => True.intro⟩)
     rw [join_take (by omega), if_neg (by omega), q4 (by omega)]; simp
    ·(conv => whnf)
     (repeat' ((first | with_reducible exact True.intro | fail) <;> (conv => whnf)))
     all_goals (try simp only [wQ])
   ·(conv => whnf)
    refine ⟨(i + 1 : Nat), [], ?_, ⟨⟨rfl, Nat.le_of_ble_eq_true rfl, rfl⟩, ?_, ?_⟩⟩
    ·exact ⟨show i + 1 ≤ l.length by omega, show l.length - (i + 1) < l.length - i by omega⟩
    ·(conv => whnf)
     (repeat' ((first | with_reducible exact True.intro | ((with_reducible refine And.intro ?_ ?_); focus (first | with_reducible rfl | omega | exact Nat.le_of_ble_eq_true rfl | rfl)) | with_reducible refine And.intro (?_ : leA _ _ _) ?_ | fail) <;> (conv => whnf)))
     all_goals (try simp only [wQ])
     all_goals (try first | omega | exact ⟨fun h => h, fun _ _ => True.intro⟩)
     obtain rfl : i = 0 := by omega
     rw [join_take (by omega), if_pos rfl, q4 (by omega)]; simp [Lib.join_nil]
    ·(conv => whnf)
     (repeat' ((first | with_reducible exact True.intro | fail) <;> (conv => whnf)))
     all_goals (try simp only [wQ])
   ·unfold taxesW; rw [if_neg (by omega), List.take_of_length_le (by omega)]
end
end Go.Vc.Z
namespace Go.Vc.Z
open Go Go.Vc Go.Proofs Go.RowKit Go.Pl Go.Lib
noncomputable section
set_option maxRecDepth 100000
set_option linter.unusedSimpArgs false
set_option linter.unusedVariables false
attribute [local irreducible] inK Utf8.decode Utf8.encode Lib.itoa Pl.worth Pl.allDig
attribute [local irreducible] Lib.join
def S1 (t : Ticket) (i : Nat) : List UInt8 := Lib.join (tkHead t ++ ((numsL t).take i).map decW) [32]
def S2 (t : Ticket) (i : Nat) : List UInt8 := S1 t 5 ++ (if i = 0 then [] else 32 :: Lib.join ((t.coupons.take i).map couponW) [44])
def S3 (t : Ticket) (i : Nat) : List UInt8 := S2 t t.coupons.length ++ [32] ++ taxesW t.taxes ++ [32] ++ Lib.join ((t.history.take i).map eventW) [44]
end
end Go.Vc.Z
namespace Go.Vc.Z
open Go Go.Vc Go.Proofs Go.RowKit Go.Pl Go.Lib
noncomputable section
set_option maxRecDepth 100000
set_option linter.unusedSimpArgs false
set_option linter.unusedVariables false
attribute [local irreducible] inK Utf8.decode Utf8.encode Lib.itoa Pl.worth Pl.allDig
attribute [local irreducible] Lib.join
end
end Go.Vc.Z
namespace Go.Vc.Z
open Go Go.Vc Go.Proofs Go.RowKit Go.Pl Go.Lib
noncomputable section
set_option maxRecDepth 100000
set_option linter.unusedSimpArgs false
set_option linter.unusedVariables false
attribute [local irreducible] inK Utf8.decode Utf8.encode Lib.itoa Pl.worth Pl.allDig
end
end Go.Vc.Z
namespace Go.Vc.Z
open Go Go.Vc Go.Proofs Go.RowKit Go.Pl Go.Lib
noncomputable section
set_option maxRecDepth 100000
set_option linter.unusedSimpArgs false
set_option linter.unusedVariables false
attribute [local irreducible] inK Utf8.decode Utf8.encode Lib.itoa Pl.worth Pl.allDig
attribute [local irreducible] Lib.join
def isKey (c : UInt8) : Bool := (decide (97 ≤ c.toNat) && decide (c.toNat ≤ 122)) || (decide (48 ≤ c.toNat) && decide (c.toNat ≤ 57))
theorem isKey_iff {c : UInt8} : isKey c = true ↔ (97 ≤ c.toNat ∧ c.toNat ≤ 122) ∨ (48 ≤ c.toNat ∧ c.toNat ≤ 57) := by simp [isKey]
@[irreducible] def keyB (s : List UInt8) : Bool := s.all isKey && decide (1 ≤ s.length) && decide (s.length ≤ 16)
def pcMayKey : PC := PC.fun fun | [.str s] => some (True, .bool (sB (keyB s))) | _ => none
def LKey (s : List UInt8) : LoopSpec := {
 α := Nat
 keep := [0, 6]
 vals i := [.str s, .iter 0]
 heap i := [.iter s i]
 ok i := i ≤ s.length ∧ (s.take i).all isKey = true
 μ i := s.length - i }
def L_request_MayKey : List AV → Nat → Option LR := fun cs i => match cs with | [.str s] => cond (Nat.beq i 2) (some (.inv (LKey s))) (none) | _ => none
theorem g_request_MayKey {W : World} (hW : Tabs W) : GoodP (Fw W) Tryz.prog 275 pcMayKey := by
 have hD := d_number_Check hW
 have hC0 : CtrOk (Fw W) Tryz.prog C_number_Check := (c_number_Check hW)
 refine goodP_fun (D := D_number_Check) (C := C_number_Check) (wr := (fun _ => false)) rfl tyOk hD hC0 Tryz.func275 (L_request_MayKey) ?_
 clear hC0 hD hW
 intro cs p r h hf hp
 split at h
 case h_2 => cases h
 rename_i s
 cases h
 try simp only [factL, factA, inK_def, Go.Vc.lo, Go.Vc.hi, and_true] at hf
 (conv => whnf)
 all_goals (try (show _ = _; simp only [wQ]))
 refine ⟨?_, fun (i : Nat) (hi : i ≤ s.length ∧ (s.take i).all isKey = true) => ?_⟩
 ·(conv => whnf)
  refine ⟨(0 : Nat), [], ?_, ⟨⟨rfl, Nat.le_of_ble_eq_true rfl, rfl⟩, ?_, ?_⟩⟩
  ·exact ⟨Nat.zero_le _, by simp⟩
  ·(conv => whnf)
   (repeat' ((first | with_reducible exact True.intro | ((with_reducible refine And.intro ?_ ?_); focus (first | with_reducible rfl | omega | exact Nat.le_of_ble_eq_true rfl | rfl)) | fail) <;> (conv => whnf)))
   all_goals (try simp only [wQ])
  ·(conv => whnf)
   (repeat' ((first | with_reducible exact True.intro | ((with_reducible refine And.intro ?_ ?_); focus (first | with_reducible rfl | omega | exact Nat.le_of_ble_eq_true rfl | rfl)) | with_reducible refine And.intro (?_ : leBlk _ _ _ _) ?_ | fail) <;> (conv => whnf)))
   all_goals (try simp only [wQ])
 ·obtain ⟨h1, h2⟩ := hi
  have hk : i < s.length → ((97 ≤ runeAt s i ∧ runeAt s i ≤ 122) ∨ (48 ≤ runeAt s i ∧ runeAt s i ≤ 57)) → isKey (s.getD i 0) = true ∧ runeW s i = 1 := fun h hc => by
   rcases rune_cases h with ⟨h6, h7, h8⟩ | ⟨h6, h7⟩
   ·exact ⟨isKey_iff.2 (by omega), h7⟩
   ·omega
  have hn : i < s.length → ¬ ((97 ≤ runeAt s i ∧ runeAt s i ≤ 122) ∨ (48 ≤ runeAt s i ∧ runeAt s i ≤ 57)) → keyB s = false := fun h hc => by
   unfold keyB
   rw [not_all_of h (by
    rcases rune_cases h with ⟨h6, h7, h8⟩ | ⟨h6, h7⟩
    ·exact Bool.eq_false_iff.2 fun h => by have := isKey_iff.1 h; omega
    ·exact Bool.eq_false_iff.2 fun h => by have := isKey_iff.1 h; omega)]
   rfl
  have hst := all_take_succ (p := isKey) (l := s) (i := i)
  have hfin : s.length ≤ i → keyB s = (decide (1 ≤ s.length) && decide (s.length ≤ 16)) := fun h => by
   rw [List.take_of_length_le h] at h2
   unfold keyB; rw [h2, Bool.true_and]
  (conv => whnf)
  (repeat' ((first
   | (split <;> rename_i hh <;> (try simp only [wS] at hh) <;> (try simp (disch := omega) only [wT] at hh))
   | with_reducible refine (fun (hln : (_ : Int) ≤ 9223372036854775807) => ?_)
   | fail) <;> (conv => whnf)))
  all_goals (try (show _ = _; simp only [wQ]))
  all_goals try (rw [hn (by omega) (by omega)]; done)
  all_goals try (
   obtain ⟨h6, h7⟩ := hk (by omega) (by omega)
   (conv => whnf)
   refine ⟨(i + 1 : Nat), [], ?_, ⟨⟨rfl, Nat.le_of_ble_eq_true rfl, rfl⟩, ?_, ?_⟩⟩
   ·exact ⟨⟨show i + 1 ≤ s.length by omega, by rw [hst (by omega), h2, h6]; rfl⟩, show s.length - (i + 1) < s.length - i by omega⟩
   ·(conv => whnf)
    (repeat' ((first | with_reducible exact True.intro | ((with_reducible refine And.intro ?_ ?_); focus (first | with_reducible rfl | omega | exact Nat.le_of_ble_eq_true rfl | rfl)) | fail) <;> (conv => whnf)))
    all_goals (try simp only [wQ])
   ·(conv => whnf)
    (repeat' ((first | with_reducible exact True.intro | ((with_reducible refine And.intro ?_ ?_); focus (first | with_reducible rfl | omega | exact Nat.le_of_ble_eq_true rfl | rfl)) | with_reducible refine And.intro (?_ : leBlk _ _ _ _) ?_ | fail) <;> (conv => whnf)))
    all_goals (try simp only [wQ])
    all_goals (try first | omega)
    all_goals (rw [h7])
   done)
  all_goals (rw [hfin (by omega)]; first | (rw [leI_eq, decide_eq_true (show 1 ≤ s.length by omega), Bool.true_and]; exact decide_eq_decide.2 ⟨fun h => by omega, fun h => by omega⟩) | (rw [decide_eq_false (show ¬ 1 ≤ s.length by omega)]; rfl))
theorem eqA_bare {k f d u st m g j k' f' d' u' st' m' g' j' : Int} {a b a' b' : List UInt8} : eqA TY 12 244 (.agg [.int .i64 k, .str a, .str b, .int .i64 f, .int .i64 d, .int .u64 u, .int .i64 st, .int .i64 m, .int .i64 g, .int .i64 j]) (.agg [.int .i64 k', .str a', .str b', .int .i64 f', .int .i64 d', .int .u64 u', .int .i64 st', .int .i64 m', .int .i64 g', .int .i64 j']) = some (k == k' && (a == a' && (b == b' && (f == f' && (d == d' && (u == u' && (st == st' && (m == m' && (g == g' && (j == j')))))))))) := by
 have e244 : TY 244 = some ty244 := rfl
 have e54 : TY 54 = some ty54 := rfl
 have e9 : TY 9 = some ty9 := rfl
 have e3 : TY 3 = some ty3 := rfl
 have e2 : TY 2 = some ty2 := rfl
 have e43 : TY 43 = some ty43 := rfl
 have e37 : TY 37 = some ty37 := rfl
 simp [eqA, eqFs, e244, e54, e9, e3, e2, e43, e37, ty244, ty54, ty9, ty3, ty2, ty43, ty37, loadA, eqI_eq]
theorem optP_bare {k f d u st m g j k' f' d' u' st' m' g' j' : Int} {a b a' b' : List UInt8} {N : Bool → Prop} (hN : N (k == k' && (a == a' && (b == b' && (f == f' && (d == d' && (u == u' && (st == st' && (m == m' && (g == g' && (j == j'))))))))))) : optP (eqA TY 12 244 (.agg [.int .i64 k, .str a, .str b, .int .i64 f, .int .i64 d, .int .u64 u, .int .i64 st, .int .i64 m, .int .i64 g, .int .i64 j]) (.agg [.int .i64 k', .str a', .str b', .int .i64 f', .int .i64 d', .int .u64 u', .int .i64 st', .int .i64 m', .int .i64 g', .int .i64 j'])) N := by
 rw [eqA_bare]; exact hN
def c7 : Coupon := ⟨7, 9, 1000, 0, 0, 0⟩
end
end Go.Vc.Z
namespace Go.Vc.Z
open Go Go.Vc Go.Proofs Go.RowKit Go.Pl Go.Lib
theorem itoa_one {n : Int} (h0 : 0 ≤ n) (h : n < 10) : Lib.itoa n = [UInt8.ofNat (48 + n.toNat)] := by
 unfold Lib.itoa; rw [if_neg (by omega), decDigits_one (by omega)]
theorem flightW_c7 : flightW ⟨7, 9, 1000, 0, 0, 0⟩ = [55, 64, 57, 61, 49, 48, 46, 48, 48] := by
 unfold flightW fareT moneyB moneyT centsT
 simp only [itoa_one (n := 7) (by decide) (by decide), itoa_one (n := 9) (by decide) (by decide)]
 rw [show Lib.decDigits (1000 / 10 / 10 : Int).toNat = [49, 48] from decDigits_two (by decide) (by decide)]
 rfl
theorem taxesW_nil : taxesW [] = [45] := by unfold taxesW; rfl
noncomputable section
set_option maxRecDepth 100000
set_option linter.unusedSimpArgs false
set_option linter.unusedVariables false
attribute [local irreducible] inK Utf8.decode Utf8.encode Lib.itoa Pl.worth Pl.allDig
attribute [local irreducible] Lib.join
def lineI : List UInt8 := [105, 115, 115, 117, 101, 32, 107, 55, 32, 51, 32, 65, 66, 67, 50, 51, 52, 32, 55, 64, 57, 61, 49, 48, 46, 48, 48, 32, 45]
end
end Go.Vc.Z
namespace Go.Vc.Z
open Go Go.Vc Go.Proofs Go.RowKit Go.Pl Go.Lib
def partsC : List (List UInt8) := [[99, 114, 97, 115, 104], Lib.itoa 1, Lib.itoa 4, Lib.itoa (-1)]
theorem itoa_m1 : Lib.itoa (-1) = [45, 49] := by
 unfold Lib.itoa; rw [if_pos (by decide)]
 rw [show (-1 : Int).natAbs = 1 from rfl, decDigits_one (by decide)]; rfl
theorem jC_eq : Lib.join partsC [32] = [99, 114, 97, 115, 104, 32, 49, 32, 52, 32, 45, 49] := by
 unfold partsC; rw [itoa_m1, itoa_one (n := 1) (by decide) (by decide), itoa_one (n := 4) (by decide) (by decide)]; rfl
theorem jC_len : (Lib.join partsC [32]).length ≤ 140737488355328 := by rw [jC_eq]; decide
noncomputable section
set_option maxRecDepth 100000
set_option linter.unusedSimpArgs false
set_option linter.unusedVariables false
attribute [local irreducible] inK Utf8.decode Utf8.encode Lib.itoa Pl.worth Pl.allDig
attribute [local irreducible] Lib.join
def actA : Bool → AV
 | true => .agg [.int .i64 1, .int .i64 0, .str [107, 55], .int .i64 1, .int .i64 3, .int .u64 0, .int .i64 0, .int .i64 0, .str [65, 66, 67, 50, 51, 52], slE 6 Coupon.enc [c7], .nilsl, .int .i64 0, .int .i64 0, .int .i64 0, .int .i64 0, .nilsl, .bool false]
 | false => .agg [.int .i64 4, .int .i64 1, .str [], .int .i64 0, .int .i64 0, .int .u64 0, .int .i64 0, .int .i64 0, .str [], .nilsl, .nilsl, .int .i64 0, .int .i64 0, .int .i64 0, .int .i64 0, .sl false 1 2 (fun e => [.int .i64 (([4, -1] : List Int).getD e 0)]), .bool false]
def pcSMay : PC := PC.of (fun b : Bool => [actA b]) (fun _ => True) (fun _ => .bool (sB true))
def actLn : Bool → List UInt8
 | true => [100, 111, 32, 48, 32] ++ lineI
 | false => [99, 114, 97, 115, 104, 32, 49, 32, 52, 32, 45, 49]
def pcActL : PC := PC.of (fun b : Bool => [actA b]) (fun _ => True) (fun b => .str (sS (actLn b)))
end
end Go.Vc.Z
namespace Go.Vc.Z
open Go Go.Vc Go.Proofs Go.RowKit Go.Pl Go.Lib
def told0 : Told := ⟨⟨6, [], [], []⟩, 0, 0⟩
noncomputable section
set_option maxRecDepth 100000
set_option linter.unusedSimpArgs false
set_option linter.unusedVariables false
attribute [local irreducible] inK Utf8.decode Utf8.encode Lib.itoa Pl.worth Pl.allDig
attribute [local irreducible] Lib.join
def pcKnown : PC := PC.fun fun | [] => some (True, .bool (sB true)) | _ => none
end
end Go.Vc.Z
namespace Go.Vc.Z
open Go Go.Vc Go.Proofs Go.RowKit Go.Pl Go.Lib
noncomputable section
set_option maxRecDepth 100000
set_option linter.unusedSimpArgs false
set_option linter.unusedVariables false
attribute [local irreducible] inK Utf8.decode Utf8.encode Lib.itoa Pl.worth Pl.allDig
attribute [local irreducible] Lib.join
end
end Go.Vc.Z
namespace Go.Vc.Z
open Go Go.Vc Go.Proofs Go.RowKit Go.Pl Go.Lib
noncomputable section
set_option maxRecDepth 100000
set_option linter.unusedSimpArgs false
set_option linter.unusedVariables false
attribute [local irreducible] inK Utf8.decode Utf8.encode Lib.itoa Pl.worth Pl.allDig
attribute [local irreducible] Lib.join
open Classical in
@[irreducible] def cEq (a b : Coupon) : Bool := decide (a = b)
theorem cEq_iff {a b : Coupon} : cEq a b = true ↔ a = b := by unfold cEq; simp
open Classical in
@[irreducible] def xEq (a b : Tax) : Bool := decide (a = b)
theorem xEq_iff {a b : Tax} : xEq a b = true ↔ a = b := by unfold xEq; simp
theorem eqA_tax (k : Nat) (c m c' m' : Int) : eqA TY (k + 3) 113 (.agg [.int .i64 c, .int .i64 m]) (.agg [.int .i64 c', .int .i64 m']) = some (c == c' && m == m') := by
 have e1 : TY 113 = some ty113 := rfl
 have e3 : TY 3 = some ty3 := rfl
 have e2 : TY 2 = some ty2 := rfl
 simp [eqA, eqFs, e1, e3, e2, ty113, ty3, ty2, loadA, eqI_eq]
theorem optP_cEq {k : Nat} {c d : Coupon} {N : Bool → Prop} (hN : N (cEq c d)) : optP (eqA TY (k + 3) 45 (.agg [.int .i64 c.flight, .int .i64 c.day, .int .i64 c.value, .int .i64 c.status, .int .i64 c.holder, .int .u64 c.next]) (.agg [.int .i64 d.flight, .int .i64 d.day, .int .i64 d.value, .int .i64 d.status, .int .i64 d.holder, .int .u64 d.next])) N := by
 rw [eqA_coupon]
 have : cEq c d = (c.flight == d.flight && (c.day == d.day && (c.value == d.value && (c.status == d.status && (c.holder == d.holder && c.next == d.next))))) := by
  cases c; cases d; rw [Bool.eq_iff_iff, cEq_iff]; simp
 rw [this] at hN; exact hN
theorem optP_xEq {k : Nat} {c d : Tax} {N : Bool → Prop} (hN : N (xEq c d)) : optP (eqA TY (k + 3) 113 (.agg [.int .i64 c.code, .int .i64 c.amount]) (.agg [.int .i64 d.code, .int .i64 d.amount])) N := by
 rw [eqA_tax]
 have : xEq c d = (c.code == d.code && c.amount == d.amount) := by
  cases c; cases d; rw [Bool.eq_iff_iff, xEq_iff]; simp
 rw [this] at hN; exact hN
theorem list_eq_getD {α : Type} [Inhabited α] : ∀ {l m : List α}, l.length = m.length → (∀ j, j < l.length → l.getD j default = m.getD j default) → l = m
 | [], [], _, _ => rfl
 | [], _ :: _, h, _ => by simp at h
 | _ :: _, [], h, _ => by simp at h
 | a :: l, b :: m, h, hj => by
  have h0 : a = b := hj 0 (by simp)
  have := list_eq_getD (l := l) (m := m) (by simpa using h) (fun j hl => by
   have := hj (j + 1) (by simp; omega)
   exact this)
  rw [h0, this]
end
end Go.Vc.Z
namespace Go.Vc.Z
open Go Go.Vc Go.Proofs Go.RowKit Go.Pl Go.Lib
structure Request where
 key : List UInt8
 kind : Int
 day : Int
 ticket : Int
 coupon : Int
 status : Int
 locator : List UInt8
 coupons : List Coupon
 taxes : List Tax
 amount : Int
 frm : Int
 til : Int
deriving Inhabited
abbrev Request.enc (r : Request) : List AV := [.str r.key, .int .i64 r.kind, .int .i64 r.day, .int .u64 r.ticket, .int .i64 r.coupon, .int .i64 r.status, .str r.locator, slE 6 Coupon.enc r.coupons, slE 2 Tax.enc r.taxes, .int .i64 r.amount, .int .i64 r.frm, .int .i64 r.til]
noncomputable section
set_option maxRecDepth 100000
set_option linter.unusedSimpArgs false
set_option linter.unusedVariables false
attribute [local irreducible] inK Utf8.decode Utf8.encode Lib.itoa Pl.worth Pl.allDig
attribute [local irreducible] Lib.join
@[irreducible] def muchR (r : Request) : Bool := decide (40 < r.coupons.length) || decide (40 < r.taxes.length) || decide (200 < r.key.length) || decide (200 < r.locator.length)
def pcMuchR : PC := PC.of (fun r : Request => [.agg r.enc]) (fun _ => True) (fun r => .bool (sB (muchR r)))
theorem g_couponref16_Much {W : World} (hW : Tabs W) : GoodP (Fw W) Tryz.prog 23 pcMuchR := by
 have hD := d_number_Check hW
 have hC0 : ∀ r : Request, CtrOk (Fw W) Tryz.prog C_number_Check := fun r => (c_number_Check hW)
 refine goodP_ofC (D := D_number_Check) (C := fun r => C_number_Check) (wr := (fun _ => false)) rfl tyOk hD hC0 Tryz.func23 (fun _ _ => none) (fun _ => rfl) ?_
 intro t hf hp
 clear hf
 have hm : muchR t = (decide (40 < t.coupons.length) || decide (40 < t.taxes.length) || decide (200 < t.key.length) || decide (200 < t.locator.length)) := by unfold muchR; rfl
 (conv => whnf)
 (repeat' ((first
  | (split <;> rename_i hh <;> (try simp only [wS] at hh) <;> (try simp (disch := omega) only [wT] at hh))
  | with_reducible refine (fun (hln : (_ : Int) ≤ 9223372036854775807) => ?_)
  | fail) <;> (conv => whnf)))
 all_goals (try (show _ = _; simp only [wQ]))
 ·rw [hm, decide_eq_true (show 40 < t.coupons.length by omega)]; simp
 ·rw [hm, decide_eq_true (show 40 < t.taxes.length by omega)]; simp
 ·rw [hm, decide_eq_true (show 200 < t.key.length by omega)]; simp
 ·rw [hm, ltI_eq, decide_eq_false (show ¬ 40 < t.coupons.length by omega), decide_eq_false (show ¬ 40 < t.taxes.length by omega), decide_eq_false (show ¬ 200 < t.key.length by omega)]
  simp only [Bool.false_or]; exact decide_eq_decide.2 ⟨fun h => by omega, fun h => by omega⟩
def rowQ (k : Int) : List UInt8 := cond (eqI k 1) [75, 68, 76, 74, 88] (cond (eqI k 2) [75, 68, 84, 78, 83] (cond (eqI k 3) [75, 68, 84] (cond (eqI k 4) [75, 68, 84, 65] (cond (eqI k 5) [75, 68, 84, 65, 67, 88] (cond (eqI k 6) [75, 68, 84, 78] (cond (eqI k 7) [75, 68, 84, 78] (cond (eqI k 8) [84] (cond (eqI k 9) [76] (cond (eqI k 10) [82] [])))))))))
theorem rowQ_no {k : Int} (h : ¬ (1 ≤ k ∧ k ≤ 10)) : rowQ k = [] := by
 unfold rowQ
 have e : ∀ m : Int, 1 ≤ m → m ≤ 10 → eqI k m = false := fun m h1 h2 => by
  rw [eqI_eq, beq_eq_false_iff_ne]; omega
 simp only [e 1 (by decide) (by decide), e 2 (by decide) (by decide), e 3 (by decide) (by decide), e 4 (by decide) (by decide), e 5 (by decide) (by decide), e 6 (by decide) (by decide), e 7 (by decide) (by decide), e 8 (by decide) (by decide), e 9 (by decide) (by decide), e 10 (by decide) (by decide), cond_false]
theorem kinds {k : Int} (h : 1 ≤ k ∧ k ≤ 10) : k = 1 ∨ k = 2 ∨ k = 3 ∨ k = 4 ∨ k = 5 ∨ k = 6 ∨ k = 7 ∨ k = 8 ∨ k = 9 ∨ k = 10 := by omega
def pcRow : PC := PC.fun fun | [.int .i64 e] => some (True, .str (rowQ e)) | _ => none
theorem g_couponref16_Row {W : World} (hW : Tabs W) : GoodP (Fw W) Tryz.prog 75 pcRow := by
 have hD := d_number_Check hW
 have hC0 : CtrOk (Fw W) Tryz.prog C_number_Check := (c_number_Check hW)
 refine goodP_fun (D := D_number_Check) (C := C_number_Check) (wr := (fun _ => false)) rfl tyOk hD hC0 Tryz.func75 (fun _ _ => none) ?_
 clear hC0 hD hW
 intro cs p r h hf hp
 split at h
 case h_2 => cases h
 rename_i e
 cases h
 try simp only [factL, factA, inK_def, Go.Vc.lo, Go.Vc.hi, and_true] at hf
 by_cases h : 1 ≤ e ∧ e ≤ 10
 ·rcases kinds h with rfl | rfl | rfl | rfl | rfl | rfl | rfl | rfl | rfl | rfl
  all_goals (
   (conv => whnf)
   (repeat' ((first
    | ((with_reducible refine And.intro ?_ ?_); focus (first | omega | (simp only [inK_def, Go.Vc.lo, Go.Vc.hi]; omega)))
    | with_reducible refine (fun (hln : (_ : Int) ≤ 9223372036854775807) => ?_)
    | fail) <;> (conv => whnf)))
   all_goals (try (show _ = _; simp only [wQ]))
   )
  all_goals rfl
 ·clear hf
  (conv => whnf)
  (repeat' ((first
   | ((with_reducible refine And.intro ?_ ?_); focus (omega))
   | (split <;> rename_i hh <;> (try simp only [wS] at hh) <;> (try simp (disch := omega) only [wT] at hh))
   | with_reducible refine (fun (hln : (_ : Int) ≤ 9223372036854775807) => ?_)
   | fail) <;> (conv => whnf)))
  all_goals (try (show _ = _; simp only [wQ]))
  all_goals try (rw [rowQ_no h]; done)
  all_goals (exfalso; omega)
def namesL : List (List UInt8) := [[105, 115, 115, 117, 101], [109, 111, 118, 101], [118, 111, 105, 100], [114, 101, 102, 117, 110, 100], [101, 120, 99, 104, 97, 110, 103, 101], [97, 115, 107], [114, 101, 116, 117, 114, 110], [115, 104, 111, 119], [102, 105, 110, 100], [114, 101, 112, 111, 114, 116]]
def pcNames : PC := PC.fun fun | [] => some (True, .sl false 1 10 (fun e => [.str (namesL.getD e [])])) | _ => none
theorem g_couponref16_Names {W : World} (hW : Tabs W) : GoodP (Fw W) Tryz.prog 80 pcNames := by
 have hD := d_number_Check hW
 have hC0 : CtrOk (Fw W) Tryz.prog C_number_Check := (c_number_Check hW)
 refine goodP_fun (D := D_number_Check) (C := C_number_Check) (wr := (fun _ => false)) rfl tyOk hD hC0 Tryz.func80 (fun _ _ => none) ?_
 clear hC0 hD hW
 intro cs p r h hf hp
 split at h
 case h_2 => cases h
 skip
 cases h
 try simp only [factL, factA, inK_def, Go.Vc.lo, Go.Vc.hi, and_true] at hf
 (conv => whnf)
 (repeat' ((first
  | ((with_reducible refine And.intro ?_ ?_); focus (first | with_reducible rfl | decide))
  | fail) <;> (conv => whnf)))
 all_goals (try (show _ = _; simp only [wQ]))
 intro e he
 match e, he with
 | 0, _ => first | rfl | exact ⟨rfl, rfl⟩
 | 1, _ => first | rfl | exact ⟨rfl, rfl⟩
 | 2, _ => first | rfl | exact ⟨rfl, rfl⟩
 | 3, _ => first | rfl | exact ⟨rfl, rfl⟩
 | 4, _ => first | rfl | exact ⟨rfl, rfl⟩
 | 5, _ => first | rfl | exact ⟨rfl, rfl⟩
 | 6, _ => first | rfl | exact ⟨rfl, rfl⟩
 | 7, _ => first | rfl | exact ⟨rfl, rfl⟩
 | 8, _ => first | rfl | exact ⟨rfl, rfl⟩
 | 9, _ => first | rfl | exact ⟨rfl, rfl⟩
 | e + 10, he => exact absurd he (by omega)
def LKeyR (s : List UInt8) : LoopSpec := {
 α := Nat
 keep := [0, 3]
 vals i := [.str s, .int .i64 i]
 heap _ := []
 ok i := i ≤ s.length ∧ (s.take i).all isKey = true
 μ i := s.length - i }
def L_couponref16_MayKey : List AV → Nat → Option LR := fun cs i => match cs with | [.str s] => cond (Nat.beq i 2) (some (.inv (LKeyR s))) (none) | _ => none
theorem g_couponref16_MayKey {W : World} (hW : Tabs W) : GoodP (Fw W) Tryz.prog 165 pcMayKey := by
 have hD := d_number_Check hW
 have hC0 : CtrOk (Fw W) Tryz.prog C_number_Check := (c_number_Check hW)
 refine goodP_fun (D := D_number_Check) (C := C_number_Check) (wr := (fun _ => false)) rfl tyOk hD hC0 Tryz.func165 (L_couponref16_MayKey) ?_
 clear hC0 hD hW
 intro cs p r h hf hp
 split at h
 case h_2 => cases h
 rename_i s
 cases h
 try simp only [factL, factA, inK_def, Go.Vc.lo, Go.Vc.hi, and_true] at hf
 (conv => whnf)
 all_goals (try (show _ = _; simp only [wQ]))
 refine ⟨?_, fun (i : Nat) (hi : i ≤ s.length ∧ (s.take i).all isKey = true) => ?_⟩
 ·(conv => whnf)
  refine ⟨(0 : Nat), [], ?_, ⟨⟨rfl, Nat.le_of_ble_eq_true rfl, rfl⟩, ?_, ?_⟩⟩
  ·exact ⟨Nat.zero_le _, by simp⟩
  ·exact leL_rfl _
  ·(conv => whnf)
   (repeat' ((first | with_reducible exact True.intro | fail) <;> (conv => whnf)))
   all_goals (try simp only [wQ])
 ·obtain ⟨h1, h2⟩ := hi
  have hk : i < s.length → ((97 ≤ ((s.getD (Int.toNat (i : Int)) 0).toNat : Int) ∧ ((s.getD (Int.toNat (i : Int)) 0).toNat : Int) ≤ 122) ∨ (48 ≤ ((s.getD (Int.toNat (i : Int)) 0).toNat : Int) ∧ ((s.getD (Int.toNat (i : Int)) 0).toNat : Int) ≤ 57)) → isKey (s.getD i 0) = true := fun h hc => isKey_iff.2 (by
   have hc' : ((97 ≤ ((s.getD i 0).toNat : Int) ∧ ((s.getD i 0).toNat : Int) ≤ 122) ∨ (48 ≤ ((s.getD i 0).toNat : Int) ∧ ((s.getD i 0).toNat : Int) ≤ 57)) := hc
   omega)
  have hn : i < s.length → ¬ ((97 ≤ ((s.getD (Int.toNat (i : Int)) 0).toNat : Int) ∧ ((s.getD (Int.toNat (i : Int)) 0).toNat : Int) ≤ 122) ∨ (48 ≤ ((s.getD (Int.toNat (i : Int)) 0).toNat : Int) ∧ ((s.getD (Int.toNat (i : Int)) 0).toNat : Int) ≤ 57)) → keyB s = false := fun h hc => by
   unfold keyB
   rw [not_all_of h (Bool.eq_false_iff.2 fun h => by
    have h' := isKey_iff.1 h
    have hc' : ¬ ((97 ≤ ((s.getD i 0).toNat : Int) ∧ ((s.getD i 0).toNat : Int) ≤ 122) ∨ (48 ≤ ((s.getD i 0).toNat : Int) ∧ ((s.getD i 0).toNat : Int) ≤ 57)) := hc
    omega)]
   rfl
  have hst := all_take_succ (p := isKey) (l := s) (i := i)
  have hfin : s.length ≤ i → keyB s = (decide (1 ≤ s.length) && decide (s.length ≤ 16)) := fun h => by
   rw [List.take_of_length_le h] at h2
   unfold keyB; rw [h2, Bool.true_and]
  (conv => whnf)
  (repeat' ((first
   | ((with_reducible refine And.intro ?_ ?_); focus (first | omega | (simp only [inK_def, Go.Vc.lo, Go.Vc.hi]; omega)))
   | (split <;> rename_i hh <;> (try simp only [wS] at hh) <;> (try simp (disch := omega) only [wT] at hh))
   | with_reducible refine (fun (hln : (_ : Int) ≤ 9223372036854775807) => ?_)
   | fail) <;> (conv => whnf)))
  all_goals (try (show _ = _; simp only [wQ]))
  all_goals try (rw [hn (by omega) (by omega)]; done)
  all_goals try (
   have h6 := hk (by omega) (by omega)
   (conv => whnf)
   refine ⟨(i + 1 : Nat), [], ?_, ⟨⟨rfl, Nat.le_of_ble_eq_true rfl, rfl⟩, ?_, ?_⟩⟩
   ·exact ⟨⟨show i + 1 ≤ s.length by omega, by rw [hst (by omega), h2, h6]; rfl⟩, show s.length - (i + 1) < s.length - i by omega⟩
   ·exact leL_rfl _
   ·(conv => whnf)
    (repeat' ((first | with_reducible exact True.intro | fail) <;> (conv => whnf)))
    all_goals (try simp only [wQ])
   done)
  all_goals (rw [hfin (by omega)]; first | (rw [leI_eq, decide_eq_true (show 1 ≤ s.length by omega), Bool.true_and]; exact decide_eq_decide.2 ⟨fun h => by omega, fun h => by omega⟩) | (rw [decide_eq_false (show ¬ 1 ≤ s.length by omega)]; rfl))
@[irreducible] def coupB (most : Int) (l : List Coupon) : Bool := l.all (fun c => plainB c 0) && decide (1 ≤ l.length) && decide ((l.length : Int) ≤ most)
def pcCoupB : PC := PC.of (fun x : List Coupon × Int => [slE 6 Coupon.enc x.1, .int .i64 x.2]) (fun _ => True) (fun x => .bool (sB (coupB x.2 x.1)))
def LCo (l : List Coupon) (m : Int) : LoopSpec := {
 α := Nat
 keep := [0, 1, 5]
 vals i := [slE 6 Coupon.enc l, .int .i64 m, .int .i64 i]
 heap _ := []
 ok i := i ≤ l.length ∧ ∀ j, j < i → plainB (l.getD j default) 0 = true
 μ i := l.length - i }
theorem all_at {α : Type} [Inhabited α] {p : α → Bool} {l : List α} (h : ∀ j, j < l.length → p (l.getD j default) = true) : l.all p = true := by
 refine List.all_eq_true.2 fun x hx => ?_
 obtain ⟨i, hi, rfl⟩ := List.getElem_of_mem hx
 have := h i hi
 rw [List.getD_eq_getElem?_getD, List.getElem?_eq_getElem hi] at this
 exact this
theorem not_all_at {α : Type} [Inhabited α] {p : α → Bool} {l : List α} {i : Nat} (hi : i < l.length) (h : p (l.getD i default) = false) : l.all p = false := by
 refine Bool.eq_false_iff.2 fun ha => ?_
 rw [List.getD_eq_getElem?_getD, List.getElem?_eq_getElem hi] at h
 have := List.all_eq_true.1 ha _ (List.getElem_mem hi)
 rw [show (some l[i]).getD default = l[i] from rfl, this] at h
 cases h
def D_couponref16_mayCoupons : PT := tabD [(70, pcPlain)]
theorem d_couponref16_mayCoupons {W : World} (hW : Tabs W) : PTOk (Fw W) Tryz.prog D_couponref16_mayCoupons := (tabD_cons Tryz.call70 (g_couponref16_plain hW) tabD_nil)
def C_couponref16_mayCoupons : FuncId → Option Ctr := tabC D_couponref16_mayCoupons []
theorem c_couponref16_mayCoupons {W : World} (hW : Tabs W) : CtrOk (Fw W) Tryz.prog C_couponref16_mayCoupons := (tabC_nil (d_couponref16_mayCoupons hW))
def L_couponref16_mayCoupons : List Coupon × Int → Nat → Option LR := fun x i => cond (Nat.beq i 2) (some (.inv (LCo x.1 x.2))) (none)
theorem g_couponref16_mayCoupons {W : World} (hW : Tabs W) : GoodP (Fw W) Tryz.prog 166 pcCoupB := by
 have hD := d_couponref16_mayCoupons hW
 have hC0 : ∀ x : List Coupon × Int, CtrOk (Fw W) Tryz.prog C_couponref16_mayCoupons := fun x => (c_couponref16_mayCoupons hW)
 refine goodP_ofC (D := D_couponref16_mayCoupons) (C := fun x => C_couponref16_mayCoupons) (wr := (fun _ => false)) rfl tyOk hD hC0 Tryz.func166 (L_couponref16_mayCoupons) (fun _ => rfl) ?_
 rintro ⟨l, m⟩ hf hp
 clear hf
 (conv => whnf)
 all_goals (try (show _ = _; simp only [wQ]))
 refine ⟨?_, fun (i : Nat) hi => ?_⟩
 ·(conv => whnf)
  refine ⟨(0 : Nat), [], ?_, ⟨⟨rfl, Nat.le_of_ble_eq_true rfl, rfl⟩, ?_, ?_⟩⟩
  ·exact ⟨Nat.zero_le _, fun j hj => absurd hj (Nat.not_lt_zero _)⟩
  ·exact leL_rfl _
  ·(conv => whnf)
   (repeat' ((first | with_reducible exact True.intro | fail) <;> (conv => whnf)))
   all_goals (try simp only [wQ])
 ·obtain ⟨h1, h2⟩ := hi
  have h1 : i ≤ l.length := h1
  (conv => whnf)
  (repeat' ((first
   | ((with_reducible refine And.intro ?_ ?_); focus (((with_reducible refine ⟨?_, ?_⟩) <;> first | with_reducible assumption | omega)))
   | (split <;> rename_i hh <;> (try simp only [wS] at hh) <;> (try simp (disch := omega) only [wT] at hh))
   | with_reducible refine (fun (hln : (_ : Int) ≤ 9223372036854775807) => ?_)
   | fail) <;> (conv => whnf)))
  all_goals (try (show _ = _; simp only [wQ]))
  refine ⟨(l.getD (Int.toNat (i : Int)) default, (0 : Int)), True.intro, ?_, ?_⟩
  ·exact leL_rfl _
  (conv => whnf)
  (repeat' ((first
   | ((with_reducible refine And.intro ?_ ?_); focus ((dsimp only at *; simp only [inK_def, Go.Vc.lo, Go.Vc.hi]; omega)))
   | (split <;> rename_i hh <;> (try simp only [wS] at hh) <;> (try simp (disch := omega) only [wT] at hh))
   | fail) <;> (conv => whnf)))
  all_goals (try (show _ = _; simp only [wQ]))
  ·have : l.all (fun c => plainB c 0) = false := not_all_at (i := i) (by omega) (by assumption)
   unfold coupB; rw [this]; rfl
  ·(conv => whnf)
   refine ⟨(i + 1 : Nat), [], ?_, ⟨⟨rfl, Nat.le_of_ble_eq_true rfl, rfl⟩, ?_, ?_⟩⟩
   ·refine ⟨⟨show i + 1 ≤ l.length by omega, fun j hj => ?_⟩, show l.length - (i + 1) < l.length - i by omega⟩
    have hj : j < i + 1 := hj
    by_cases he : j = i
    ·subst he; assumption
    ·exact h2 j (by omega)
   ·exact leL_rfl _
   ·(conv => whnf)
    (repeat' ((first | with_reducible exact True.intro | fail) <;> (conv => whnf)))
    all_goals (try simp only [wQ])
  all_goals (
   have : l.all (fun c => plainB c 0) = true := all_at fun j hj => h2 j (by omega)
   unfold coupB; rw [this]; simp only [Bool.true_and, leI_eq])
  all_goals first | (rw [decide_eq_true (show 1 ≤ l.length by omega), Bool.true_and]; rfl) | (rw [decide_eq_false (show ¬ 1 ≤ l.length by omega)]; rfl)
def LTx (l : List Tax) : LoopSpec := {
 α := Nat
 keep := [0, 3]
 vals i := [slE 2 Tax.enc l, .int .i64 i]
 heap _ := []
 ok i := i ≤ l.length ∧ (0 < i → 1 ≤ (l.getD (i - 1) default).code) ∧ taxesFrom (if i = 0 then 1 else (l.getD (i - 1) default).code + 1) (l.drop i) = taxesFrom 1 l
 μ i := l.length - i }
def D_couponref16_mayTaxes : PT := tabD [(139, pcSome)]
theorem d_couponref16_mayTaxes {W : World} (hW : Tabs W) : PTOk (Fw W) Tryz.prog D_couponref16_mayTaxes := (tabD_cons Tryz.call139 (g_couponref16_some hW) tabD_nil)
def C_couponref16_mayTaxes : FuncId → Option Ctr := tabC D_couponref16_mayTaxes []
theorem c_couponref16_mayTaxes {W : World} (hW : Tabs W) : CtrOk (Fw W) Tryz.prog C_couponref16_mayTaxes := (tabC_nil (d_couponref16_mayTaxes hW))
def L_couponref16_mayTaxes : List Tax → Nat → Option LR := fun l i => cond (Nat.beq i 2) (some (.inv (LTx l))) (none)
theorem g_couponref16_mayTaxes {W : World} (hW : Tabs W) : GoodP (Fw W) Tryz.prog 167 pcTaxes := by
 have hD := d_couponref16_mayTaxes hW
 have hC0 : ∀ l : List Tax, CtrOk (Fw W) Tryz.prog C_couponref16_mayTaxes := fun l => (c_couponref16_mayTaxes hW)
 refine goodP_ofC (D := D_couponref16_mayTaxes) (C := fun l => C_couponref16_mayTaxes) (wr := (fun _ => false)) rfl tyOk hD hC0 Tryz.func167 (L_couponref16_mayTaxes) (fun _ => rfl) ?_
 intro l hf hp
 have hbad : ∀ (h : (taxesFrom 1 l = true → False)), false = taxesB l := fun h => by
  symm
  refine Bool.eq_false_iff.2 fun hm => ?_
  unfold taxesB at hm
  simp only [Bool.and_eq_true, decide_eq_true_eq] at hm
  exact h hm.1
 (conv => whnf)
 all_goals (try (show _ = _; simp only [wQ]))
 refine ⟨?_, fun (k : Nat) hk => ?_⟩
 ·(conv => whnf)
  refine ⟨(0 : Nat), [], ?_, ⟨⟨rfl, Nat.le_of_ble_eq_true rfl, rfl⟩, ?_, ?_⟩⟩
  ·exact ⟨Nat.zero_le _, fun h => absurd h (by omega), rfl⟩
  ·exact leL_rfl _
  ·(conv => whnf)
   (repeat' ((first | with_reducible exact True.intro | fail) <;> (conv => whnf)))
   all_goals (try simp only [wQ])
 ·obtain ⟨g1, g2, g3⟩ := hk
  have g1 : k ≤ l.length := g1
  have e1 : Int.toNat ((k : Int) - 1) = k - 1 := by omega
  have hd2 : k < l.length → taxesFrom 1 l = true → ((0 < k → (l.getD (Int.toNat ((k : Int) - 1)) default).code + 1 ≤ (l.getD (Int.toNat (k : Int)) default).code) ∧ (k = 0 → 1 ≤ (l.getD (Int.toNat (k : Int)) default).code)) ∧ (l.getD (Int.toNat (k : Int)) default).code ≤ 99 ∧ someB (l.getD (Int.toNat (k : Int)) default).amount = true := fun h h2 => by
   rw [← g3, drop_getD h] at h2
   simp only [taxesFrom, Bool.and_eq_true, decide_eq_true_eq] at h2
   obtain ⟨⟨⟨b1, b2⟩, b3⟩, b4⟩ := h2
   rw [e1]
   refine ⟨⟨fun hk => ?_, fun hk => ?_⟩, b2, b3⟩
   ·rw [if_neg (by omega)] at b1; exact b1
   ·rw [if_pos hk] at b1; exact b1
  have hd3 : k < l.length → (0 < k → (l.getD (Int.toNat ((k : Int) - 1)) default).code < (l.getD (Int.toNat (k : Int)) default).code) → 1 ≤ (l.getD (Int.toNat (k : Int)) default).code → (l.getD (Int.toNat (k : Int)) default).code ≤ 99 → someB (l.getD (Int.toNat (k : Int)) default).amount = true → (LTx l).ok (k + 1) ∧ (LTx l).μ (k + 1) < (LTx l).μ k := fun h b1 b2 b3 b4 => by
   refine ⟨⟨show k + 1 ≤ l.length by omega, fun _ => b2, ?_⟩, show l.length - (k + 1) < l.length - k by omega⟩
   show taxesFrom (if k + 1 = 0 then 1 else (l.getD k default).code + 1) (l.drop (k + 1)) = _
   rw [← g3, drop_getD h, if_neg (by omega)]
   simp only [taxesFrom]
   rw [e1] at b1
   rw [show decide ((if k = 0 then 1 else (l.getD (k - 1) default).code + 1) ≤ (l.getD k default).code) = true from ?_, decide_eq_true (show (l.getD k default).code ≤ 99 from b3), (show someB (l.getD k default).amount = true from b4)]
   ·rfl
   ·rw [decide_eq_true_eq]
    by_cases hk : k = 0
    ·rw [if_pos hk]; exact b2
    ·rw [if_neg hk]; exact b1 (by omega)
  rw [← e1] at g2
  clear hf
  (conv => whnf)
  (repeat' ((first
   | ((with_reducible refine And.intro ?_ ?_); focus (first | with_reducible exact True.intro | ((with_reducible show okB _ _ _ = true); rfl) | omega | (simp only [inK_def, Go.Vc.lo, Go.Vc.hi]; omega)))
   | (split <;> rename_i hh <;> (try simp only [wS] at hh) <;> (try simp (disch := omega) only [wT] at hh))
   | with_reducible refine (fun (hln : (_ : Int) ≤ 9223372036854775807) => ?_)
   | fail) <;> (conv => whnf)))
  all_goals (try (show _ = _; simp only [wQ]))
  all_goals try (
   refine hbad fun k6 => ?_
   obtain ⟨⟨b1, b2⟩, b3, b4⟩ := hd2 (by omega) k6
   first | omega | (rename_i hh; rw [b4] at hh; cases hh))
  all_goals try (
   (conv => whnf)
   refine ⟨(k + 1 : Nat), [], ?_, ⟨⟨rfl, Nat.le_of_ble_eq_true rfl, rfl⟩, ?_, ?_⟩⟩
   ·exact hd3 (by omega) (by omega) (by omega) (by omega) (by assumption)
   ·exact leL_rfl _
   ·(conv => whnf)
    (repeat' ((first | with_reducible exact True.intro | fail) <;> (conv => whnf)))
    all_goals (try simp only [wQ])
   done)
  all_goals (
   have ht : taxesFrom 1 l = true := by rw [← g3, List.drop_eq_nil_of_le (by omega)]; rfl
   unfold taxesB
   rw [ht, leI_eq, Bool.true_and, Bool.eq_iff_iff, decide_eq_true_eq, decide_eq_true_eq]; omega)
end
end Go.Vc.Z
namespace Go.Vc.Z
open Go Go.Vc Go.Proofs
theorem dRequest : Dec Tryz.prog 56 Request.enc := by
 intro H enc W fuel cs x hx
 obtain ⟨hl, hf⟩ := dec_fields ok56 rfl hx
 obtain ⟨a0, h0⟩ := hf 0 0 1 9 ty9 rfl ok9 rfl (dec_str ok9 rfl)
 obtain ⟨a1, h1⟩ := hf 1 1 1 54 ty54 rfl ok54 rfl (dec_int ok54 rfl)
 obtain ⟨a2, h2⟩ := hf 2 2 1 3 ty3 rfl ok3 rfl (dec_int ok3 rfl)
 obtain ⟨a3, h3⟩ := hf 3 3 1 37 ty37 rfl ok37 rfl (dec_int ok37 rfl)
 obtain ⟨a4, h4⟩ := hf 4 4 1 3 ty3 rfl ok3 rfl (dec_int ok3 rfl)
 obtain ⟨a5, h5⟩ := hf 5 5 1 43 ty43 rfl ok43 rfl (dec_int ok43 rfl)
 obtain ⟨a6, h6⟩ := hf 6 6 1 9 ty9 rfl ok9 rfl (dec_str ok9 rfl)
 obtain ⟨a7, h7⟩ := hf 7 7 1 38 ty38 rfl ok38 rfl (dec_slice ok38 rfl ok45 rfl (by decide) dCoupon)
 obtain ⟨a8, h8⟩ := hf 8 8 1 39 ty39 rfl ok39 rfl (dec_slice ok39 rfl ok113 rfl (by decide) dTax)
 obtain ⟨a9, h9⟩ := hf 9 9 1 2 ty2 rfl ok2 rfl (dec_int ok2 rfl)
 obtain ⟨a10, h10⟩ := hf 10 10 1 3 ty3 rfl ok3 rfl (dec_int ok3 rfl)
 obtain ⟨a11, h11⟩ := hf 11 11 1 3 ty3 rfl ok3 rfl (dec_int ok3 rfl)
 exact ⟨⟨a0, a1, a2, a3, a4, a5, a6, a7, a8, a9, a10, a11⟩, h0.step (h1.step (h2.step (h3.step (h4.step (h5.step (h6.step (h7.step (h8.step (h9.step (h10.step (h11.step (CV.nil hl))))))))))))⟩
end Go.Vc.Z
