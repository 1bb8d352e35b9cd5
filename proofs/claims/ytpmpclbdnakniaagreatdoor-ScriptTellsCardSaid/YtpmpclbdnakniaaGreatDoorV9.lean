/- strings.Builder in own memory: copyCheck, String. -/
import Derived.Test.YtpmpclbdnakniaaGreatDoorV8
set_option linter.all false
set_option linter.unusedVariables false
set_option linter.unusedSimpArgs false
namespace Go.Proofs
open Go.Shelf Go.RowKit
set_option maxRecDepth 1000000
theorem Tryz.laysCopyCheck : Lays.n240 Tryz.prog Tryz.laysJoin_ren := { Tryz.laysJoin with }
theorem Tryz.laysBString : Lays.n169 Tryz.prog Tryz.laysJoin_ren := { Tryz.laysJoin with }
theorem Tryz.x72 : Builder.X72 Tryz.prog Tryz.laysJoin_ren := {
  sizeBuilder := by kernel_rfl
  liesBuilder := by kernel_rfl }

section
variable {P : Program} {ρ : Ren}
set_option maxHeartbeats 2000000 in
/-- (*strings.Builder).String, at a row that is laid open. -/
theorem bString_walk (L : Lays.n169 P ρ) (X : Builder.Extra P ρ) (b g n cap : Nat) (p : Value) (cs cur : Array Value) (T : TypeId) (fr fr' : Nat × Nat) (l : List UInt8) (w : World)
    (hbk : w.heap[b]? = some (.cells cs T fr)) (hcs : cs[1]? = some (.slice (some ⟨g, 0, none⟩) l.length cap)) (hg : w.heap[g]? = some (.cells cur (ρ.t 5) fr')) (h0 : 0 < l.length) (hcap : l.length ≤ cap) (hm : cap ≤ maxLen) (hle : l.length ≤ cur.size)
    (hcell : ∀ (j : Nat) (x : UInt8), l[j]? = some x → w.cell? ⟨g, j, none⟩ = some (.int .u8 x.toNat)) :
    Calls P (ρ.f 169) #[.pointer (some ⟨b, 0, none⟩)] w fun e w' => e = .returned (.string ⟨l.toArray⟩) ∧ w' = w.drew.freeze ⟨g, 0, none⟩ l.length := by
  have hl0 : l ≠ [] := by rintro rfl; simp at h0
  have c1 : w.drew.cell? ⟨b, 1, none⟩ = some (.slice (some ⟨g, 0, none⟩) l.length cap) := by
    have : w.drew.heap[b]? = some (.cells cs T fr) := hbk
    rw [Lib.cell_of_heap this]; exact hcs
  have hSD : (Builtin.unsafeSliceData_ #[(ρ.t 37)] (ρ.t 127) #[.slice (some ⟨g, 0, none⟩) l.length cap]).run P w.drew = .ok (.pointer (some ⟨g, 0, none⟩)) w.drew :=
    Lib.run_unsafeSliceData_row _ _ _ _ _ _ (by omega)
  have hUS : (Builtin.unsafeString_ #[(ρ.t 127), (ρ.t 3)] (ρ.t 9) #[.pointer (some ⟨g, 0, none⟩), .int .i64 l.length]).run P w.drew = .ok (.string ⟨l.toArray⟩) (w.drew.freeze ⟨g, 0, none⟩ l.length) := by
    refine Lib.run_unsafeString_row w.drew (ρ.t 127) (ρ.t 3) (ρ.t 9) (ρ.t 5) L.t127 X.cellsByte g cur.size (by have hg' : w.drew.heap[g]? = some (.cells cur (ρ.t 5) fr') := hg; simp [World.shape?, hg']) l hl0 (by omega) (by unfold maxLen at hm; omega) ?_
    intro j x hx
    rw [Go.Vc.addr_add, Nat.zero_add]
    exact hcell j x hx
  have mixed := L.mixed
  have t72 := L.t72; have a72 := L.a72; have z72 := L.z72; have v72 := L.v72; have u72 := run_underlying L.t72
  have t70 := L.t70; have a70 := L.a70; have z70 := L.z70; have v70 := L.v70; have u70 := run_underlying L.t70
  have t37 := L.t37; have a37 := L.a37; have z37 := L.z37; have v37 := L.v37; have u37 := run_underlying L.t37
  have t127 := L.t127; have a127 := L.a127; have z127 := L.z127; have v127 := L.v127; have u127 := run_underlying L.t127
  have t3 := L.t3; have a3 := L.a3; have z3 := L.z3; have v3 := L.v3; have u3 := run_underlying L.t3
  have t9 := L.t9; have a9 := L.a9; have z9 := L.z9; have v9 := L.v9; have u9 := run_underlying L.t9
  have t5 := X.t5; have a5 := X.a5; have z5 := X.z5; have v5 := X.v5; have u5 := run_underlying X.t5
  go_enter L.f169, Body.n169_ntmps ρ
  go_wp2
  go_region_o
  all_goals (go_wp2; go_ret; exact ⟨rfl, rfl⟩)
end
end Go.Proofs

namespace Go.Vc
open Go Go.Proofs Go.RowKit
/-- The numbers of strings.Builder and of byte. -/
def tBld : Nat := 152
def tByte : Nat := 5
theorem tBld_eq : Tryz.laysJoin_ren.t 72 = tBld := by rfl
theorem tByte_eq : Tryz.laysJoin_ren.t 5 = tByte := by rfl

def kCopyCheck : Ctr := fun cs H Q => match cs with
  | [.ptr id 0] => (match H[id]? with
    | some (.var [p, buf] (some T)) => T = tBld ∧ (match p with
      | .nilp => Q (.tup []) (H.set id (.var [.ptr id 0, buf] (some T)))
      | .ptr id' 0 => id' = id ∧ Q (.tup []) H
      | _ => False)
    | _ => False)
  | _ => False

theorem goodCopyCheck {F : Nat → Obj → Prop} : Good F Tryz.prog 182 kCopyCheck := by
  intro ρ S w H cs vs Q hs hH hv hK
  unfold kCopyCheck at hK
  split at hK
  · rename_i id
    split at hK
    · rename_i p buf T hid
      obtain ⟨rfl, hK⟩ := hK
      obtain ⟨vs⟩ := vs
      match vs, hv with
      | [a], hv =>
        obtain ⟨b, rfl, hb⟩ := (hv.2 0 _ _ rfl rfl).ptrR
        obtain ⟨hns, arr, T', fr, h1, h2, h3, h4⟩ := hH.blk _ _ hid b hb
        have h1 : w.heap[b]? = some (.cells arr tBld fr) := h1
        have h2 : arr.size = 2 := h2
        have e0 : arr[0]? = some (arr.getD 0 undef) := by simp [h2]
        have hsh : w.shape? b = some (tBld, 2) := by simp [World.shape?, h1, h2]
        have hc : w.cell? ⟨b, 0, none⟩ = some (arr.getD 0 undef) := by simp only [World.cell?, h1]; exact e0
        have v0 := h4 0 p _ rfl e0
        split at hK
        · cases hv0 : arr.getD 0 undef <;> rw [hv0] at v0 <;> cases v0
          rw [hv0] at hc
          refine (Any.Builder_copyCheck_fresh Tryz.laysCopyCheck Tryz.x72 b w hc hsh (h3 0 (by omega))).mono ?_
          rintro e w' ⟨rfl, rfl⟩
          have hw : w.setCell ⟨b, 0, none⟩ (.pointer (some ⟨b, 0, none⟩)) = w.setCells b 0 [.pointer (some ⟨b, 0, none⟩)] := rfl
          rw [hw]
          have hheap := setCells_heap b [.pointer (some ⟨b, 0, none⟩)] 0 w arr tBld fr h1
          have hE : Ext ρ S w ρ S (w.setCells b 0 [.pointer (some ⟨b, 0, none⟩)]) := ext_upd hH hb hns (setCells_size _ _ _ _) (fun k hk => setCells_other b _ _ _ k hk)
            (fun a' T2 f' h' => by rw [h1] at h'; cases h'; exact ⟨_, _, hheap, spl_size _ _ _⟩) (setCells_rest _ _ _ _).1 (setCells_rest _ _ _ _).2.1 (setCells_rest _ _ _ _).2.2
          refine ⟨_, .tup [], _, ρ, S, rfl, hK, .tup _ _ rfl (fun i c v hc => by simp at hc), hrel_upd hH hid rfl hb hE (setCells_size _ _ _ _) (fun k hk => setCells_other b _ _ _ k hk) ?_, hE, hs.still hE⟩
          intro b' hb'
          rw [hb] at hb'; cases hb'
          refine ⟨hns, _, T', fr, hheap, by rw [spl_size]; exact h2, fun o ho => ?_, fun k c v hk hv => ?_⟩
          · rw [spl_size] at ho
            rw [World.frozen?_setCells]; exact h3 o ho
          · rw [spl_get _ _ _ _ (by simp; omega)] at hv
            cases k with
            | zero => simp at hk hv; subst hk; subst hv; exact .ptr _ _ _ hb
            | succ k =>
              rw [if_neg (by simp)] at hv
              exact (h4 (k + 1) c v hk hv).mono hE
        · obtain ⟨rfl, hK⟩ := hK
          obtain ⟨b', hb', hb''⟩ := v0.ptrR
          rw [hb] at hb''; cases hb''
          rw [hb'] at hc
          refine (Any.Builder_copyCheck_used Tryz.laysCopyCheck Tryz.x72 b w hc).mono ?_
          rintro e w' ⟨rfl, rfl⟩
          exact ⟨_, .tup [], _, ρ, S, rfl, hK, .tup _ _ rfl (fun i c v hc => by simp at hc), hH, Ext.refl _ _ _, hs⟩
        · exact hK.elim
      | [], hv => simp [VL] at hv
      | _ :: _ :: _, hv => have := hv.1; simp at this
    · exact hK.elim
  · exact hK.elim

def kBString : Ctr := fun cs H Q => match cs with
  | [.ptr id 0] => (match H[id]? with
    | some (.var [_, .osl r 1 0 n _] (some _)) => (match H[r]? with
      | some (.row 1 L get (some E)) => (E = tByte ∧ 0 < n ∧ n ≤ L ∧ ∀ e, e < n → (byteCell (get e)).isSome = true) ∧ Q (.str (bytesOf n get)) (H.set r .dead)
      | _ => False)
    | _ => False)
  | _ => False

theorem goodBString {F : Nat → Obj → Prop} : Good F Tryz.prog 102 kBString := by
  intro ρ S w H cs vs Q hs hH hv hK
  unfold kBString at hK
  split at hK
  · rename_i id
    split at hK
    · rename_i p r n cap T hid
      split at hK
      · rename_i L get E hr
        obtain ⟨⟨rfl, h0, hnL, hby⟩, hK⟩ := hK
        obtain ⟨vs⟩ := vs
        match vs, hv with
        | [a], hv =>
          obtain ⟨b, rfl, hb⟩ := (hv.2 0 _ _ rfl rfl).ptrR
          obtain ⟨hns, arr, T', fr, h1, h2, h3, h4⟩ := hH.blk _ _ hid b hb
          have h2 : arr.size = 2 := h2
          have e1 : arr[1]? = some (arr.getD 1 undef) := by simp [h2]
          obtain ⟨g, o, cp, hsl, hg, hl, hm, ho, _, _⟩ := (h4 1 _ _ rfl e1).oslR
          have ho : o = 0 := by rw [ho (by omega)]
          subst ho
          obtain ⟨hgs, cur, T2, fr2, g1, g2, g3, g4, g5⟩ := hH.blk _ _ hr g hg
          have g1 : w.heap[g]? = some (.cells cur tByte fr2) := g1
          rw [Nat.mul_one] at g2
          have hbl : (bytesOf n get).length = n := by simp [bytesOf]
          have hcell : ∀ (j : Nat) (x : UInt8), (bytesOf n get)[j]? = some x → w.cell? ⟨g, j, none⟩ = some (.int .u8 x.toNat) := fun j x hx => by
            have hj : j < n := by
              rcases Nat.lt_or_ge j n with h | h
              · exact h
              · rw [List.getElem?_eq_none (by rw [hbl]; exact h)] at hx; cases hx
            obtain ⟨k, hk1, hk2, hk3⟩ : ∃ k : Int, get j = [.int .u8 k] ∧ True ∧ True := by
              have := hby j hj
              unfold byteCell at this
              split at this
              · rename_i k hk; exact ⟨k, hk, trivial, trivial⟩
              · cases this
            have hlt : j < cur.size := by omega
            have hv := g5 j 0 (.int .u8 k) cur[j] (by omega) (by rw [hk1]; rfl) (by simp [hlt])
            obtain ⟨hv1, hv2⟩ := hv.intR
            simp only [bytesOf, List.getElem?_map, List.getElem?_range hj, Option.map_some, Option.some.injEq, hk1, byteCell, Option.getD_some] at hx
            simp only [World.cell?, g1]
            rw [Array.getElem?_eq_getElem hlt, hv1, ← hx]
            have : 0 ≤ k ∧ k ≤ 255 := hv2
            congr 2
            simp [UInt8.toNat_ofNat]; omega
          have call := bString_walk Tryz.laysBString Tryz.extra b g n cp (arr.getD 0 undef) arr cur _ fr fr2 (bytesOf n get) w h1 (by rw [e1, hsl, hbl]) g1 (by omega) (by omega) hm (by omega) hcell
          rw [hbl] at call
          refine call.mono ?_
          rintro e w' ⟨rfl, rfl⟩
          have hn0 : ¬ n = 0 := by omega
          have hoth : ∀ k, k ≠ g → (w.drew.freeze ⟨g, 0, none⟩ n).heap[k]? = w.heap[k]? := fun k hk => by
            unfold World.freeze
            rw [if_neg hn0]
            show (w.heap.modify g _)[k]? = _
            rw [Array.getElem?_modify, if_neg (Ne.symm hk)]
          have hsz : (w.drew.freeze ⟨g, 0, none⟩ n).heap.size = w.heap.size := by
            unfold World.freeze
            rw [if_neg hn0]
            show (w.heap.modify g _).size = _
            simp
          have hE : Ext ρ S w ρ S (w.drew.freeze ⟨g, 0, none⟩ n) :=
            ext_upd hH hg hgs hsz hoth (fun arr2 T3 fr3 h => by
              obtain ⟨lo, hi⟩ := fr3
              refine ⟨arr2, (if lo == hi then (0, 0 + n) else (min lo 0, max hi (0 + n))), ?_, rfl⟩
              unfold World.freeze
              rw [if_neg hn0]
              show (w.heap.modify g _)[g]? = _
              rw [Array.getElem?_modify, if_pos rfl, h]; rfl)
              (by unfold World.freeze; rw [if_neg hn0]; rfl) (by unfold World.freeze; rw [if_neg hn0]; rfl) (by unfold World.freeze; rw [if_neg hn0]; rfl)
          exact ⟨_, .str _, _, ρ, S, rfl, hK, .str _ _ (by simp) (by rw [hbl]; omega), hrel_upd hH hr rfl hg hE hsz hoth trivial, hE, hs.still hE⟩
        | [], hv => simp [VL] at hv
        | _ :: _ :: _, hv => have := hv.1; simp at this
      · exact hK.elim
    · exact hK.elim
  · exact hK.elim
end Go.Vc

/- The library's contracts, their results sealed. -/
namespace Go.Vc
open Go Go.Proofs Go.RowKit

theorem GoodP.imp {F : Nat → Obj → Prop} {P : Program} {f : FuncId} {pc pc' : PC} (h : GoodP F P f pc) (hi : ∀ cs Q, pc'.T cs Q → pc.T cs Q) : GoodP F P f pc' :=
  fun S w cs vs Q hs hv hT => h S w cs vs Q hs hv (hi cs Q hT)
namespace Z
noncomputable section
def pcItoaS : PC := PC.fun fun | [.int .i64 n] => some (True, .str (sS (Lib.itoa n))) | _ => none
theorem goodItoaS {W : World} (hW : Tabs W) : GoodP (Fw W) Tryz.prog 111 pcItoaS := by
  refine (goodItoa hW).imp fun cs Q h => ?_
  simp only [pcItoaS, PC.fun] at h
  split at h
  · rename_i p r hf
    split at hf
    · cases hf
      rename_i n
      rw [sS_eq] at h
      exact ⟨n, trivial, ⟨⟨rfl, rfl⟩, trivial⟩, h.2⟩
    · cases hf
  · exact h.elim
def pcFmtInt : PC := PC.fun fun | [.int .i64 n, .int .i64 b] => some (b = 10, .str (sS (Lib.itoa n))) | _ => none
theorem goodFmtInt {W : World} (hW : Tabs W) : GoodP (Fw W) Tryz.prog 114 pcFmtInt := by
  refine (goodFormatInt hW).imp fun cs Q h => ?_
  simp only [pcFmtInt, PC.fun] at h
  split at h
  · rename_i p r hf
    split at hf
    · cases hf
      rename_i n b
      obtain ⟨rfl, h⟩ := h
      rw [sS_eq] at h
      exact ⟨n, trivial, ⟨⟨rfl, rfl⟩, ⟨rfl, rfl⟩, trivial⟩, h⟩
    · cases hf
  · exact h.elim
def pcFmtUint : PC := PC.fun fun | [.int .u64 n, .int .i64 b] => some (b = 10, .str (sS (Lib.decDigits n.toNat))) | _ => none
theorem goodFmtUint {W : World} (hW : Tabs W) : GoodP (Fw W) Tryz.prog 55 pcFmtUint := by
  refine (goodFormatUint hW).imp fun cs Q h => ?_
  simp only [pcFmtUint, PC.fun] at h
  split at h
  · rename_i p r hf
    split at hf
    · cases hf
      rename_i n b
      obtain ⟨rfl, h⟩ := h
      rw [sS_eq] at h
      exact ⟨n, trivial, ⟨⟨rfl, rfl⟩, ⟨rfl, rfl⟩, trivial⟩, h⟩
    · cases hf
  · exact h.elim
def pcJoinS : PC := PC.of (fun x : List (List UInt8) × List UInt8 => [slS x.1, .str x.2]) (fun x => (Lib.join x.1 x.2).length ≤ 140737488355328 ∧ x.1.length ≤ 140737488355328) (fun x => .str (sS (Lib.join x.1 x.2)))
theorem goodJoinS {W : World} (_ : Tabs W) : GoodP (Fw W) Tryz.prog 62 pcJoinS := by
  refine goodJoin.imp fun cs Q h => ?_
  obtain ⟨x, h1, h2, h3⟩ := h
  simp only [sS_eq] at h3
  exact ⟨x, h1, h2, h3⟩
end
end Z
end Go.Vc

/- Postings' texts. -/
namespace Go.Vc.Z
open Go Go.Vc Go.Proofs Go.RowKit Go.Pl Go.Lib
noncomputable section
set_option maxRecDepth 100000
set_option linter.unusedSimpArgs false
set_option linter.unusedVariables false
attribute [local irreducible] inK Utf8.decode Utf8.encode Lib.itoa Pl.worth Pl.allDig
attribute [local irreducible] Lib.join
def pcDig14 : PC := PC.fun fun | [.int .i64 n] => some (-9223372036854775807 ≤ n, .str (sS (Lib.itoa n))) | _ => none
def D_couponref14_digits : PT := tabD [(81, pcDigits)]
def C_couponref14_digits : FuncId → Option Ctr := tabC D_couponref14_digits []
theorem g_couponref14_digits {W : World} (hW : Tabs W) : GoodP (Fw W) Tryz.prog 119 pcDig14 := by
  have hD : PTOk (Fw W) Tryz.prog D_couponref14_digits := (tabD_cons Tryz.call81 (g_couponref10_Digits hW) tabD_nil)
  have hC0 : CtrOk (Fw W) Tryz.prog C_couponref14_digits := (tabC_nil hD)
  refine goodP_fun (D := D_couponref14_digits) (C := C_couponref14_digits) (wr := (fun _ => false)) rfl tyOk hD hC0 Tryz.func119 (fun _ _ => none) ?_
  clear hC0 hD hW
  intro cs p r h hf hp
  split at h
  case h_2 => cases h
  rename_i n
  cases h
  try simp only [factL, factA, inK_def, Go.Vc.lo, Go.Vc.hi, and_true] at hf
  have e1 : 0 ≤ n → Lib.itoa n = decDigits n.toNat := fun h => by unfold Lib.itoa; rw [if_neg (by omega)]
  have e2 : n < 0 → Lib.itoa n = 45 :: decDigits (-n).toNat := fun h => by unfold Lib.itoa; rw [if_pos h]; congr 2; omega
  have h20 : n < 0 → (decDigits (-n).toNat).length ≤ 30 := fun h => by
    rw [decDigits_length]
    exact Nat.le_trans (nDigits_le 29 _ (by omega)) (by omega)
  (conv => whnf)
  (repeat' ((first
    | ((with_reducible refine And.intro ?_ ?_); focus (first | with_reducible exact True.intro | (simp only [inK_def, Go.Vc.lo, Go.Vc.hi]; omega) | (simp only [List.length_append, bytesOf_length, List.toList_toArray, List.length_cons, List.length_nil, List.length_take, List.length_drop, sS_eq]; omega)))
    | (split <;> rename_i hh <;> (try simp only [ble_true, ble_false, beq_true, beq_false, sI_eq, sB_eq, sS_eq, sN_eq, ltI_eq, leI_eq, eqI_eq, decide_eq_true_eq, decide_eq_false_iff_not, beq_iff_eq, bne_iff_ne, ne_eq, beq_eq_false_iff_ne, bne_eq_false_iff_eq, Bool.not_eq_true, Bool.not_eq_false, Int.not_lt, Int.not_le, gt_iff_lt, ge_iff_le, Nat.not_lt, Nat.not_le, Decidable.not_not, Bool.not_eq_eq_eq_not, Bool.not_true, Bool.not_false, cond_true, cond_false, Bool.or_eq_true, Bool.and_eq_true, Bool.or_eq_false_iff, Bool.and_eq_false_iff] at hh) <;> (try simp (disch := omega) only [Int.tdiv_eq_ediv_of_nonneg, Int.tmod_eq_emod_of_nonneg] at hh))
    | fail) <;> (conv => whnf)))
  all_goals (try (show _ = _; simp only [sI_eq, sB_eq, sS_eq, sN_eq]))
  · rw [e2 (by assumption)]; rfl
  · rw [e1 (by assumption)]
def labs : List UInt8 := [67, 76, 82, 84, 80, 86]
def postW (l : List Int) (j : Nat) : List (List UInt8) := if l.getD j 0 = 0 then [] else [labs.getD j 0 :: Lib.itoa (l.getD j 0)]
def postParts (p : Posting) : Nat → List (List UInt8)
  | 0 => [pnameL p.kind, numText p.ticket, Lib.itoa p.seq, Lib.itoa p.day]
  | n + 1 => postParts p n ++ postW (amtsL p) n
@[irreducible] def postText (p : Posting) : List UInt8 := if mayPostB p = true then Lib.join (postParts p 6) [32] else []
def pcPText : PC := PC.fun fun | [.agg [.int .i64 pd, .int .u64 pt, .int .i64 ps, .int .i64 pk, .int .i64 a0, .int .i64 a1, .int .i64 a2, .int .i64 a3, .int .i64 a4, .int .i64 a5]] => some (True, .str (sS (postText (Posting.mk pd pt ps pk a0 a1 a2 a3 a4 a5)))) | _ => none
def LPT (p : Posting) : LoopSpec := {
  α := Nat × List (List UInt8)
  keep := [5, 29, 30]
  vals x := [.osl 12 1 0 x.2.length none, .agg [.int .i64 p.cash, .int .i64 p.liability, .int .i64 p.revenue, .int .i64 p.tax, .int .i64 p.penalty, .int .i64 p.voucher], .int .i64 x.1]
  heap x := [.dead, .dead, .dead, .dead, .dead, .dead, .dead, .dead, .dead, .dead, .dead, .dead, .row 1 x.2.length (fun e => [.str (x.2.getD e [])])]
  ok x := x.1 ≤ 6 ∧ x.2 = postParts p x.1
  μ x := 6 - x.1 }
theorem cat_str {L : List (List UInt8)} {w : List UInt8} {b : Nat → List AV} (hb : b 0 = [.str w]) {e : Nat} (he : e < (L ++ [w]).length) : catRow L.length (fun e => [AV.str (L.getD e [])]) b e = [AV.str ((L ++ [w]).getD e [])] := by
  unfold catRow
  rw [List.length_append, List.length_singleton] at he
  rcases Nat.lt_or_ge e L.length with h | h
  · rw [if_pos h]
    simp [List.getD_eq_getElem?_getD, List.getElem?_append_left h]
  · obtain rfl : e = L.length := by omega
    rw [if_neg (by omega), Nat.sub_self, hb]
    simp [List.getD_eq_getElem?_getD]
theorem postParts_len (p : Posting) : ∀ n, (postParts p n).length ≤ 4 + n
  | 0 => Nat.le_refl _
  | n + 1 => by
    have := postParts_len p n
    simp only [postParts, postW, List.length_append]
    split <;> simp <;> omega
theorem mayPost_facts {p : Posting} (h : mayPostB p = true) : (1 ≤ p.kind ∧ p.kind ≤ 5) ∧ checkN p.ticket = 0 ∧ (1 ≤ p.seq ∧ p.seq ≤ 200) ∧ (0 ≤ p.day ∧ p.day ≤ 1000000) ∧ ∀ j, j < 6 → -1125899906842624 ≤ (amtsL p).getD j 0 ∧ (amtsL p).getD j 0 ≤ 1125899906842624 := by
  unfold mayPostB at h
  simp only [Bool.and_eq_true, decide_eq_true_eq] at h
  obtain ⟨⟨⟨⟨⟨⟨h1, h2⟩, h3⟩, h4⟩, h5⟩, h6⟩, h7⟩ := h
  refine ⟨⟨h5, h6⟩, ?_, ⟨h3, h4⟩, dayB_le h1, fun j hj => ?_⟩
  · unfold numdB at h2; exact of_decide_eq_true h2
  · have hc : colOk p.kind (amtsL p) j = true := by
      refine Decidable.of_not_not fun hn => ?_
      rw [columnsB_bad hj hn] at h7; cases h7
    have := colOk_iff.1 hc; omega
theorem lens_le (m : Nat) : ∀ (L : List (List UInt8)), (∀ s ∈ L, s.length ≤ m) → Lib.lens L ≤ L.length * m
  | [], _ => by simp [Lib.lens]
  | x :: r, h => by
    have h1 := lens_le m r fun s hs => h s (List.mem_cons_of_mem _ hs)
    have h2 := h x List.mem_cons_self
    simp only [Lib.lens, List.map_cons, List.sum_cons, List.length_cons] at h1 ⊢
    rw [Nat.add_mul]; omega
theorem join_le (sep : List UInt8) (m : Nat) (L : List (List UInt8)) (h : ∀ s ∈ L, s.length ≤ m) : (Lib.join L sep).length ≤ L.length * (m + sep.length) := by
  cases L with
  | nil => simp [Lib.join_nil]
  | cons x r =>
    rw [Lib.join_length]
    have := lens_le m (x :: r) h
    rw [Nat.mul_add]
    have : sep.length * r.length ≤ (x :: r).length * sep.length := by
      rw [Nat.mul_comm]; exact Nat.mul_le_mul_right _ (by simp)
    omega
theorem numText_len (n : Int) : (numText n).length ≤ 20 := by
  unfold numText
  split
  · have := checkN_zero (by assumption)
    exact dec_len_le _ (by omega)
  · simp
theorem postParts_word {p : Posting} (h : mayPostB p = true) : ∀ n, n ≤ 6 → ∀ s ∈ postParts p n, s.length ≤ 40
  | 0, _, s, hs => by
    obtain ⟨h1, h2, h3, h4, h5⟩ := mayPost_facts h
    simp only [postParts, List.mem_cons, List.not_mem_nil, or_false] at hs
    rcases hs with rfl | rfl | rfl | rfl
    · unfold pnameL; repeat' split
      all_goals simp
    · have := numText_len p.ticket; omega
    · have := itoa_len p.seq (by omega) (by omega); omega
    · have := itoa_len p.day (by omega) (by omega); omega
  | n + 1, hn, s, hs => by
    obtain ⟨h1, h2, h3, h4, h5⟩ := mayPost_facts h
    rw [postParts, List.mem_append] at hs
    rcases hs with hs | hs
    · exact postParts_word h n (by omega) s hs
    · unfold postW at hs
      split at hs
      · simp at hs
      · simp only [List.mem_cons, List.not_mem_nil, or_false] at hs
        subst hs
        have := h5 n (by omega)
        have := itoa_len ((amtsL p).getD n 0) (by omega) (by omega)
        simp only [List.length_cons]; omega
def D_posting_Text : PT := tabD [(107, pcMayPost), (112, pcLook), (54, pcNText), (111, pcItoaS), (113, pcOfP), (114, pcFmtInt), (62, pcJoinS)]
def C_posting_Text : FuncId → Option Ctr := tabC D_posting_Text []
def L_posting_Text : List AV → Nat → Option LR := fun cs i => match cs with | [.agg [.int .i64 pd, .int .u64 pt, .int .i64 ps, .int .i64 pk, .int .i64 a0, .int .i64 a1, .int .i64 a2, .int .i64 a3, .int .i64 a4, .int .i64 a5]] => cond (Nat.beq i 6) (some (.inv (LPT (Posting.mk pd pt ps pk a0 a1 a2 a3 a4 a5)))) (none) | _ => none
set_option maxHeartbeats 2000000 in
theorem g_posting_Text {W : World} (hW : Tabs W) : GoodP (Fw W) Tryz.prog 47 pcPText := by
  have hD : PTOk (Fw W) Tryz.prog D_posting_Text := (tabD_cons Tryz.call107 (g_posting_May hW) (tabD_cons Tryz.call112 (g_posting_look hW) (tabD_cons Tryz.call54 (g_number_Text hW) (tabD_cons Tryz.call111 (goodItoaS hW) (tabD_cons Tryz.call113 (g_posting_of hW) (tabD_cons Tryz.call114 (goodFmtInt hW) (tabD_cons Tryz.call62 (goodJoinS hW) tabD_nil)))))))
  have hC0 : CtrOk (Fw W) Tryz.prog C_posting_Text := (tabC_nil hD)
  refine goodP_fun (D := D_posting_Text) (C := C_posting_Text) (wr := (fun _ => false)) rfl tyOk hD hC0 Tryz.func47 (L_posting_Text) ?_
  clear hC0 hD hW
  intro cs p r h hf hp
  split at h
  case h_2 => cases h
  rename_i pd pt ps pk a0 a1 a2 a3 a4 a5
  cases h
  try simp only [factL, factA, inK_def, Go.Vc.lo, Go.Vc.hi, and_true] at hf
  by_cases hmay : mayPostB (Posting.mk pd pt ps pk a0 a1 a2 a3 a4 a5) = true
  · have hex : ¬ mayPostB (Posting.mk pd pt ps pk a0 a1 a2 a3 a4 a5) = false := by rw [hmay]; simp
    obtain ⟨f1, f2, f3, f4, f5⟩ := mayPost_facts hmay
    clear hf
    have l0 := itoa_len a0 (by have := f5 0 (by omega); simp at this; omega) (by have := f5 0 (by omega); simp at this; omega)
    have l1 := itoa_len a1 (by have := f5 1 (by omega); simp at this; omega) (by have := f5 1 (by omega); simp at this; omega)
    have l2 := itoa_len a2 (by have := f5 2 (by omega); simp at this; omega) (by have := f5 2 (by omega); simp at this; omega)
    have l3 := itoa_len a3 (by have := f5 3 (by omega); simp at this; omega) (by have := f5 3 (by omega); simp at this; omega)
    have l4 := itoa_len a4 (by have := f5 4 (by omega); simp at this; omega) (by have := f5 4 (by omega); simp at this; omega)
    have l5 := itoa_len a5 (by have := f5 5 (by omega); simp at this; omega) (by have := f5 5 (by omega); simp at this; omega)
    (conv => whnf)
    (repeat' ((first
      | (exact absurd (by with_reducible assumption) hex)
      | ((with_reducible refine And.intro ?_ ?_); focus (first | with_reducible exact True.intro | ((with_reducible show okB _ _ _ = true); rfl)))
      | (split <;> rename_i hh <;> (try simp only [ble_true, ble_false, beq_true, beq_false, sI_eq, sB_eq, sS_eq, sN_eq, ltI_eq, leI_eq, eqI_eq, decide_eq_true_eq, decide_eq_false_iff_not, beq_iff_eq, bne_iff_ne, ne_eq, beq_eq_false_iff_ne, bne_eq_false_iff_eq, Bool.not_eq_true, Bool.not_eq_false, Int.not_lt, Int.not_le, gt_iff_lt, ge_iff_le, Nat.not_lt, Nat.not_le, Decidable.not_not, Bool.not_eq_eq_eq_not, Bool.not_true, Bool.not_false, cond_true, cond_false, Bool.or_eq_true, Bool.and_eq_true, Bool.or_eq_false_iff, Bool.and_eq_false_iff] at hh) <;> (try simp (disch := omega) only [Int.tdiv_eq_ediv_of_nonneg, Int.tmod_eq_emod_of_nonneg] at hh))
      | fail) <;> (conv => whnf)))
    all_goals (try (show _ = _; simp only [sI_eq, sB_eq, sS_eq, sN_eq]))
    refine ⟨?_, fun (x : Nat × List (List UInt8)) hx => ?_⟩
    · (conv => whnf)
      refine ⟨((0, postParts (Posting.mk pd pt ps pk a0 a1 a2 a3 a4 a5) 0) : Nat × List (List UInt8)), [11], ?_, ⟨⟨rfl, Nat.le_of_ble_eq_true rfl, rfl⟩, ?_, ?_⟩⟩
      · exact ⟨Nat.zero_le _, rfl⟩
      · (conv => whnf)
        (repeat' ((first | with_reducible exact True.intro | ((with_reducible refine And.intro ?_ ?_); focus (first | with_reducible rfl | omega | exact Nat.le_of_ble_eq_true rfl | rfl)) | with_reducible refine And.intro (?_ : leA _ _ _) ?_ | fail) <;> (conv => whnf)))
        all_goals (try simp only [sI_eq, sB_eq, sS_eq, sN_eq])
        all_goals (try first | omega | exact Or.inl True.intro)
      · (conv => whnf)
        (repeat' ((first | with_reducible exact True.intro | ((with_reducible refine And.intro ?_ ?_); focus (first | with_reducible rfl | omega | exact Nat.le_of_ble_eq_true rfl | rfl)) | with_reducible refine And.intro (?_ : leBlk _ _ _ _) ?_ | fail) <;> (conv => whnf)))
        all_goals (try simp only [sI_eq, sB_eq, sS_eq, sN_eq])
        intro e he
        refine ⟨?_, rfl⟩
        change e < 4 at he
        rcases (by omega : e = 0 ∨ e = 1 ∨ e = 2 ∨ e = 3) with rfl | rfl | rfl | rfl
        all_goals rfl
    · obtain ⟨i, L⟩ := x
      obtain ⟨h1, h2⟩ := hx
      change i ≤ 6 at h1
      change L = postParts (Posting.mk pd pt ps pk a0 a1 a2 a3 a4 a5) i at h2
      have hLl : L.length ≤ 4 + i := by rw [h2]; exact postParts_len _ _
      rcases (by omega : i = 0 ∨ i = 1 ∨ i = 2 ∨ i = 3 ∨ i = 4 ∨ i = 5 ∨ i = 6) with rfl | rfl | rfl | rfl | rfl | rfl | rfl
      all_goals (
        (conv => whnf)
        (repeat' ((first
          | ((with_reducible refine And.intro ?_ ?_); focus (first | ((with_reducible refine ⟨?_, ?_, ?_⟩) <;> first | (intro e he; rcases (by omega : e = 0 ∨ e = 1 ∨ e = 2 ∨ e = 3 ∨ e = 4 ∨ e = 5) with rfl | rfl | rfl | rfl | rfl | rfl <;> first | rfl | (exfalso; omega)) | (with_reducible assumption) | omega | ((with_reducible show growOk _ _); simp only [growOk, ty2, ty3, ty4, ty5, ty9, ty21, ty37, ty42, ty43, ty45, ty47, ty67, ty95, ty105, ty113, ty150, ty161, ty198, ty242, ty275, List.length_cons, List.length_nil]; first | omega | (refine ⟨?_, ?_⟩ <;> omega))) | ((with_reducible show okB _ _ _ = true); rfl) | with_reducible rfl | omega | (simp only [inK_def, Go.Vc.lo, Go.Vc.hi]; omega) | (simp only [List.length_append, bytesOf_length, List.toList_toArray, List.length_cons, List.length_nil, List.length_take, List.length_drop, sS_eq]; omega)))
          | (split <;> rename_i hh <;> (try simp only [ble_true, ble_false, beq_true, beq_false, sI_eq, sB_eq, sS_eq, sN_eq, ltI_eq, leI_eq, eqI_eq, decide_eq_true_eq, decide_eq_false_iff_not, beq_iff_eq, bne_iff_ne, ne_eq, beq_eq_false_iff_ne, bne_eq_false_iff_eq, Bool.not_eq_true, Bool.not_eq_false, Int.not_lt, Int.not_le, gt_iff_lt, ge_iff_le, Nat.not_lt, Nat.not_le, Decidable.not_not, Bool.not_eq_eq_eq_not, Bool.not_true, Bool.not_false, cond_true, cond_false, Bool.or_eq_true, Bool.and_eq_true, Bool.or_eq_false_iff, Bool.and_eq_false_iff] at hh) <;> (try simp (disch := omega) only [Int.tdiv_eq_ediv_of_nonneg, Int.tmod_eq_emod_of_nonneg] at hh))
          | fail) <;> (conv => whnf)))
        all_goals (try (show _ = _; simp only [sI_eq, sB_eq, sS_eq, sN_eq]))
        )
      · (conv => whnf)
        refine ⟨((1, L ++ [labs.getD 0 0 :: Lib.itoa a0]) : Nat × List (List UInt8)), [22], ?_, ⟨⟨rfl, Nat.le_of_ble_eq_true rfl, rfl⟩, ?_, ?_⟩⟩
        · refine ⟨⟨show 1 ≤ 6 by omega, ?_⟩, show 6 - 1 < 6 - 0 by omega⟩
          show L ++ _ = postParts (Posting.mk pd pt ps pk a0 a1 a2 a3 a4 a5) 0 ++ postW _ 0
          rw [h2, postW, if_neg (by assumption)]; rfl
        · (conv => whnf)
          (repeat' ((first | with_reducible exact True.intro | ((with_reducible refine And.intro ?_ ?_); focus (first | with_reducible rfl | omega | exact Nat.le_of_ble_eq_true rfl | rfl)) | with_reducible refine And.intro (?_ : leA _ _ _) ?_ | fail) <;> (conv => whnf)))
          all_goals (try simp only [sI_eq, sB_eq, sS_eq, sN_eq])
          all_goals (try first | omega)
          exact ⟨by simp, Or.inl trivial⟩
        · (conv => whnf)
          (repeat' ((first | with_reducible exact True.intro | ((with_reducible refine And.intro ?_ ?_); focus (first | with_reducible rfl | omega | exact Nat.le_of_ble_eq_true rfl | rfl)) | with_reducible refine And.intro (?_ : leBlk _ _ _ _) ?_ | fail) <;> (conv => whnf)))
          all_goals (try simp only [sI_eq, sB_eq, sS_eq, sN_eq])
          exact ⟨by simp, fun e he => ⟨cat_str rfl he, rfl⟩⟩
      · (conv => whnf)
        refine ⟨((1, L) : Nat × List (List UInt8)), [12], ?_, ⟨⟨rfl, Nat.le_of_ble_eq_true rfl, rfl⟩, ?_, ?_⟩⟩
        · refine ⟨⟨show 1 ≤ 6 by omega, ?_⟩, show 6 - 1 < 6 - 0 by omega⟩
          show L = postParts (Posting.mk pd pt ps pk a0 a1 a2 a3 a4 a5) 0 ++ postW _ 0
          rw [h2, postW, if_pos (by assumption), List.append_nil]
        · (conv => whnf)
          (repeat' ((first | with_reducible exact True.intro | ((with_reducible refine Or.inr ?_); rfl) | ((with_reducible refine And.intro ?_ ?_); focus (first | with_reducible rfl | omega | exact Nat.le_of_ble_eq_true rfl | rfl)) | with_reducible refine And.intro (?_ : leA _ _ _) ?_ | fail) <;> (conv => whnf)))
          all_goals (try simp only [sI_eq, sB_eq, sS_eq, sN_eq])
          all_goals (try first | omega)
        · (conv => whnf)
          (repeat' ((first | with_reducible exact True.intro | ((with_reducible refine And.intro ?_ ?_); focus (first | with_reducible rfl | omega | exact Nat.le_of_ble_eq_true rfl | rfl)) | with_reducible refine And.intro (?_ : leBlk _ _ _ _) ?_ | fail) <;> (conv => whnf)))
          all_goals (try simp only [sI_eq, sB_eq, sS_eq, sN_eq])
          exact ⟨Nat.le_refl _, fun e he => ⟨trivial, rfl⟩⟩
      · (conv => whnf)
        refine ⟨((2, L ++ [labs.getD 1 0 :: Lib.itoa a1]) : Nat × List (List UInt8)), [22], ?_, ⟨⟨rfl, Nat.le_of_ble_eq_true rfl, rfl⟩, ?_, ?_⟩⟩
        · refine ⟨⟨show 2 ≤ 6 by omega, ?_⟩, show 6 - 2 < 6 - 1 by omega⟩
          show L ++ _ = postParts (Posting.mk pd pt ps pk a0 a1 a2 a3 a4 a5) 1 ++ postW _ 1
          rw [h2, postW, if_neg (by assumption)]; rfl
        · (conv => whnf)
          (repeat' ((first | with_reducible exact True.intro | ((with_reducible refine And.intro ?_ ?_); focus (first | with_reducible rfl | omega | exact Nat.le_of_ble_eq_true rfl | rfl)) | with_reducible refine And.intro (?_ : leA _ _ _) ?_ | fail) <;> (conv => whnf)))
          all_goals (try simp only [sI_eq, sB_eq, sS_eq, sN_eq])
          all_goals (try first | omega)
          exact ⟨by simp, Or.inl trivial⟩
        · (conv => whnf)
          (repeat' ((first | with_reducible exact True.intro | ((with_reducible refine And.intro ?_ ?_); focus (first | with_reducible rfl | omega | exact Nat.le_of_ble_eq_true rfl | rfl)) | with_reducible refine And.intro (?_ : leBlk _ _ _ _) ?_ | fail) <;> (conv => whnf)))
          all_goals (try simp only [sI_eq, sB_eq, sS_eq, sN_eq])
          exact ⟨by simp, fun e he => ⟨cat_str rfl he, rfl⟩⟩
      · (conv => whnf)
        refine ⟨((2, L) : Nat × List (List UInt8)), [12], ?_, ⟨⟨rfl, Nat.le_of_ble_eq_true rfl, rfl⟩, ?_, ?_⟩⟩
        · refine ⟨⟨show 2 ≤ 6 by omega, ?_⟩, show 6 - 2 < 6 - 1 by omega⟩
          show L = postParts (Posting.mk pd pt ps pk a0 a1 a2 a3 a4 a5) 1 ++ postW _ 1
          rw [h2, postW, if_pos (by assumption), List.append_nil]
        · (conv => whnf)
          (repeat' ((first | with_reducible exact True.intro | ((with_reducible refine Or.inr ?_); rfl) | ((with_reducible refine And.intro ?_ ?_); focus (first | with_reducible rfl | omega | exact Nat.le_of_ble_eq_true rfl | rfl)) | with_reducible refine And.intro (?_ : leA _ _ _) ?_ | fail) <;> (conv => whnf)))
          all_goals (try simp only [sI_eq, sB_eq, sS_eq, sN_eq])
          all_goals (try first | omega)
        · (conv => whnf)
          (repeat' ((first | with_reducible exact True.intro | ((with_reducible refine And.intro ?_ ?_); focus (first | with_reducible rfl | omega | exact Nat.le_of_ble_eq_true rfl | rfl)) | with_reducible refine And.intro (?_ : leBlk _ _ _ _) ?_ | fail) <;> (conv => whnf)))
          all_goals (try simp only [sI_eq, sB_eq, sS_eq, sN_eq])
          exact ⟨Nat.le_refl _, fun e he => ⟨trivial, rfl⟩⟩
      · (conv => whnf)
        refine ⟨((3, L ++ [labs.getD 2 0 :: Lib.itoa a2]) : Nat × List (List UInt8)), [22], ?_, ⟨⟨rfl, Nat.le_of_ble_eq_true rfl, rfl⟩, ?_, ?_⟩⟩
        · refine ⟨⟨show 3 ≤ 6 by omega, ?_⟩, show 6 - 3 < 6 - 2 by omega⟩
          show L ++ _ = postParts (Posting.mk pd pt ps pk a0 a1 a2 a3 a4 a5) 2 ++ postW _ 2
          rw [h2, postW, if_neg (by assumption)]; rfl
        · (conv => whnf)
          (repeat' ((first | with_reducible exact True.intro | ((with_reducible refine And.intro ?_ ?_); focus (first | with_reducible rfl | omega | exact Nat.le_of_ble_eq_true rfl | rfl)) | with_reducible refine And.intro (?_ : leA _ _ _) ?_ | fail) <;> (conv => whnf)))
          all_goals (try simp only [sI_eq, sB_eq, sS_eq, sN_eq])
          all_goals (try first | omega)
          exact ⟨by simp, Or.inl trivial⟩
        · (conv => whnf)
          (repeat' ((first | with_reducible exact True.intro | ((with_reducible refine And.intro ?_ ?_); focus (first | with_reducible rfl | omega | exact Nat.le_of_ble_eq_true rfl | rfl)) | with_reducible refine And.intro (?_ : leBlk _ _ _ _) ?_ | fail) <;> (conv => whnf)))
          all_goals (try simp only [sI_eq, sB_eq, sS_eq, sN_eq])
          exact ⟨by simp, fun e he => ⟨cat_str rfl he, rfl⟩⟩
      · (conv => whnf)
        refine ⟨((3, L) : Nat × List (List UInt8)), [12], ?_, ⟨⟨rfl, Nat.le_of_ble_eq_true rfl, rfl⟩, ?_, ?_⟩⟩
        · refine ⟨⟨show 3 ≤ 6 by omega, ?_⟩, show 6 - 3 < 6 - 2 by omega⟩
          show L = postParts (Posting.mk pd pt ps pk a0 a1 a2 a3 a4 a5) 2 ++ postW _ 2
          rw [h2, postW, if_pos (by assumption), List.append_nil]
        · (conv => whnf)
          (repeat' ((first | with_reducible exact True.intro | ((with_reducible refine Or.inr ?_); rfl) | ((with_reducible refine And.intro ?_ ?_); focus (first | with_reducible rfl | omega | exact Nat.le_of_ble_eq_true rfl | rfl)) | with_reducible refine And.intro (?_ : leA _ _ _) ?_ | fail) <;> (conv => whnf)))
          all_goals (try simp only [sI_eq, sB_eq, sS_eq, sN_eq])
          all_goals (try first | omega)
        · (conv => whnf)
          (repeat' ((first | with_reducible exact True.intro | ((with_reducible refine And.intro ?_ ?_); focus (first | with_reducible rfl | omega | exact Nat.le_of_ble_eq_true rfl | rfl)) | with_reducible refine And.intro (?_ : leBlk _ _ _ _) ?_ | fail) <;> (conv => whnf)))
          all_goals (try simp only [sI_eq, sB_eq, sS_eq, sN_eq])
          exact ⟨Nat.le_refl _, fun e he => ⟨trivial, rfl⟩⟩
      · (conv => whnf)
        refine ⟨((4, L ++ [labs.getD 3 0 :: Lib.itoa a3]) : Nat × List (List UInt8)), [22], ?_, ⟨⟨rfl, Nat.le_of_ble_eq_true rfl, rfl⟩, ?_, ?_⟩⟩
        · refine ⟨⟨show 4 ≤ 6 by omega, ?_⟩, show 6 - 4 < 6 - 3 by omega⟩
          show L ++ _ = postParts (Posting.mk pd pt ps pk a0 a1 a2 a3 a4 a5) 3 ++ postW _ 3
          rw [h2, postW, if_neg (by assumption)]; rfl
        · (conv => whnf)
          (repeat' ((first | with_reducible exact True.intro | ((with_reducible refine And.intro ?_ ?_); focus (first | with_reducible rfl | omega | exact Nat.le_of_ble_eq_true rfl | rfl)) | with_reducible refine And.intro (?_ : leA _ _ _) ?_ | fail) <;> (conv => whnf)))
          all_goals (try simp only [sI_eq, sB_eq, sS_eq, sN_eq])
          all_goals (try first | omega)
          exact ⟨by simp, Or.inl trivial⟩
        · (conv => whnf)
          (repeat' ((first | with_reducible exact True.intro | ((with_reducible refine And.intro ?_ ?_); focus (first | with_reducible rfl | omega | exact Nat.le_of_ble_eq_true rfl | rfl)) | with_reducible refine And.intro (?_ : leBlk _ _ _ _) ?_ | fail) <;> (conv => whnf)))
          all_goals (try simp only [sI_eq, sB_eq, sS_eq, sN_eq])
          exact ⟨by simp, fun e he => ⟨cat_str rfl he, rfl⟩⟩
      · (conv => whnf)
        refine ⟨((4, L) : Nat × List (List UInt8)), [12], ?_, ⟨⟨rfl, Nat.le_of_ble_eq_true rfl, rfl⟩, ?_, ?_⟩⟩
        · refine ⟨⟨show 4 ≤ 6 by omega, ?_⟩, show 6 - 4 < 6 - 3 by omega⟩
          show L = postParts (Posting.mk pd pt ps pk a0 a1 a2 a3 a4 a5) 3 ++ postW _ 3
          rw [h2, postW, if_pos (by assumption), List.append_nil]
        · (conv => whnf)
          (repeat' ((first | with_reducible exact True.intro | ((with_reducible refine Or.inr ?_); rfl) | ((with_reducible refine And.intro ?_ ?_); focus (first | with_reducible rfl | omega | exact Nat.le_of_ble_eq_true rfl | rfl)) | with_reducible refine And.intro (?_ : leA _ _ _) ?_ | fail) <;> (conv => whnf)))
          all_goals (try simp only [sI_eq, sB_eq, sS_eq, sN_eq])
          all_goals (try first | omega)
        · (conv => whnf)
          (repeat' ((first | with_reducible exact True.intro | ((with_reducible refine And.intro ?_ ?_); focus (first | with_reducible rfl | omega | exact Nat.le_of_ble_eq_true rfl | rfl)) | with_reducible refine And.intro (?_ : leBlk _ _ _ _) ?_ | fail) <;> (conv => whnf)))
          all_goals (try simp only [sI_eq, sB_eq, sS_eq, sN_eq])
          exact ⟨Nat.le_refl _, fun e he => ⟨trivial, rfl⟩⟩
      · (conv => whnf)
        refine ⟨((5, L ++ [labs.getD 4 0 :: Lib.itoa a4]) : Nat × List (List UInt8)), [22], ?_, ⟨⟨rfl, Nat.le_of_ble_eq_true rfl, rfl⟩, ?_, ?_⟩⟩
        · refine ⟨⟨show 5 ≤ 6 by omega, ?_⟩, show 6 - 5 < 6 - 4 by omega⟩
          show L ++ _ = postParts (Posting.mk pd pt ps pk a0 a1 a2 a3 a4 a5) 4 ++ postW _ 4
          rw [h2, postW, if_neg (by assumption)]; rfl
        · (conv => whnf)
          (repeat' ((first | with_reducible exact True.intro | ((with_reducible refine And.intro ?_ ?_); focus (first | with_reducible rfl | omega | exact Nat.le_of_ble_eq_true rfl | rfl)) | with_reducible refine And.intro (?_ : leA _ _ _) ?_ | fail) <;> (conv => whnf)))
          all_goals (try simp only [sI_eq, sB_eq, sS_eq, sN_eq])
          all_goals (try first | omega)
          exact ⟨by simp, Or.inl trivial⟩
        · (conv => whnf)
          (repeat' ((first | with_reducible exact True.intro | ((with_reducible refine And.intro ?_ ?_); focus (first | with_reducible rfl | omega | exact Nat.le_of_ble_eq_true rfl | rfl)) | with_reducible refine And.intro (?_ : leBlk _ _ _ _) ?_ | fail) <;> (conv => whnf)))
          all_goals (try simp only [sI_eq, sB_eq, sS_eq, sN_eq])
          exact ⟨by simp, fun e he => ⟨cat_str rfl he, rfl⟩⟩
      · (conv => whnf)
        refine ⟨((5, L) : Nat × List (List UInt8)), [12], ?_, ⟨⟨rfl, Nat.le_of_ble_eq_true rfl, rfl⟩, ?_, ?_⟩⟩
        · refine ⟨⟨show 5 ≤ 6 by omega, ?_⟩, show 6 - 5 < 6 - 4 by omega⟩
          show L = postParts (Posting.mk pd pt ps pk a0 a1 a2 a3 a4 a5) 4 ++ postW _ 4
          rw [h2, postW, if_pos (by assumption), List.append_nil]
        · (conv => whnf)
          (repeat' ((first | with_reducible exact True.intro | ((with_reducible refine Or.inr ?_); rfl) | ((with_reducible refine And.intro ?_ ?_); focus (first | with_reducible rfl | omega | exact Nat.le_of_ble_eq_true rfl | rfl)) | with_reducible refine And.intro (?_ : leA _ _ _) ?_ | fail) <;> (conv => whnf)))
          all_goals (try simp only [sI_eq, sB_eq, sS_eq, sN_eq])
          all_goals (try first | omega)
        · (conv => whnf)
          (repeat' ((first | with_reducible exact True.intro | ((with_reducible refine And.intro ?_ ?_); focus (first | with_reducible rfl | omega | exact Nat.le_of_ble_eq_true rfl | rfl)) | with_reducible refine And.intro (?_ : leBlk _ _ _ _) ?_ | fail) <;> (conv => whnf)))
          all_goals (try simp only [sI_eq, sB_eq, sS_eq, sN_eq])
          exact ⟨Nat.le_refl _, fun e he => ⟨trivial, rfl⟩⟩
      · (conv => whnf)
        refine ⟨((6, L ++ [labs.getD 5 0 :: Lib.itoa a5]) : Nat × List (List UInt8)), [22], ?_, ⟨⟨rfl, Nat.le_of_ble_eq_true rfl, rfl⟩, ?_, ?_⟩⟩
        · refine ⟨⟨show 6 ≤ 6 by omega, ?_⟩, show 6 - 6 < 6 - 5 by omega⟩
          show L ++ _ = postParts (Posting.mk pd pt ps pk a0 a1 a2 a3 a4 a5) 5 ++ postW _ 5
          rw [h2, postW, if_neg (by assumption)]; rfl
        · (conv => whnf)
          (repeat' ((first | with_reducible exact True.intro | ((with_reducible refine And.intro ?_ ?_); focus (first | with_reducible rfl | omega | exact Nat.le_of_ble_eq_true rfl | rfl)) | with_reducible refine And.intro (?_ : leA _ _ _) ?_ | fail) <;> (conv => whnf)))
          all_goals (try simp only [sI_eq, sB_eq, sS_eq, sN_eq])
          all_goals (try first | omega)
          exact ⟨by simp, Or.inl trivial⟩
        · (conv => whnf)
          (repeat' ((first | with_reducible exact True.intro | ((with_reducible refine And.intro ?_ ?_); focus (first | with_reducible rfl | omega | exact Nat.le_of_ble_eq_true rfl | rfl)) | with_reducible refine And.intro (?_ : leBlk _ _ _ _) ?_ | fail) <;> (conv => whnf)))
          all_goals (try simp only [sI_eq, sB_eq, sS_eq, sN_eq])
          exact ⟨by simp, fun e he => ⟨cat_str rfl he, rfl⟩⟩
      · (conv => whnf)
        refine ⟨((6, L) : Nat × List (List UInt8)), [12], ?_, ⟨⟨rfl, Nat.le_of_ble_eq_true rfl, rfl⟩, ?_, ?_⟩⟩
        · refine ⟨⟨show 6 ≤ 6 by omega, ?_⟩, show 6 - 6 < 6 - 5 by omega⟩
          show L = postParts (Posting.mk pd pt ps pk a0 a1 a2 a3 a4 a5) 5 ++ postW _ 5
          rw [h2, postW, if_pos (by assumption), List.append_nil]
        · (conv => whnf)
          (repeat' ((first | with_reducible exact True.intro | ((with_reducible refine Or.inr ?_); rfl) | ((with_reducible refine And.intro ?_ ?_); focus (first | with_reducible rfl | omega | exact Nat.le_of_ble_eq_true rfl | rfl)) | with_reducible refine And.intro (?_ : leA _ _ _) ?_ | fail) <;> (conv => whnf)))
          all_goals (try simp only [sI_eq, sB_eq, sS_eq, sN_eq])
          all_goals (try first | omega)
        · (conv => whnf)
          (repeat' ((first | with_reducible exact True.intro | ((with_reducible refine And.intro ?_ ?_); focus (first | with_reducible rfl | omega | exact Nat.le_of_ble_eq_true rfl | rfl)) | with_reducible refine And.intro (?_ : leBlk _ _ _ _) ?_ | fail) <;> (conv => whnf)))
          all_goals (try simp only [sI_eq, sB_eq, sS_eq, sN_eq])
          exact ⟨Nat.le_refl _, fun e he => ⟨trivial, rfl⟩⟩
      · refine ⟨⟨by simp, fun e he => rfl⟩, ?_⟩
        refine ⟨((L, [32]) : List (List UInt8) × List UInt8), ⟨by have := join_le [32] 40 L (by rw [h2]; exact postParts_word hmay 6 (by omega)); simp at this; show (Lib.join L [32]).length ≤ _; omega, by show L.length ≤ _; omega⟩, ?_, ?_⟩
        · (conv => whnf)
          (repeat' ((first | with_reducible exact True.intro | ((with_reducible refine And.intro ?_ ?_); focus (first | with_reducible rfl | omega | exact Nat.le_of_ble_eq_true rfl | rfl)) | with_reducible refine And.intro (?_ : leA _ _ _) ?_ | fail) <;> (conv => whnf)))
          all_goals (try simp only [sI_eq, sB_eq, sS_eq, sN_eq])
          all_goals (try first | (refine ⟨fun h => h, fun e he => ?_⟩; rw [Nat.zero_add]; done))
        (conv => whnf)
        all_goals (try (show _ = _; simp only [sI_eq, sB_eq, sS_eq, sN_eq]))
        unfold postText; rw [if_pos hmay, h2]
  · have hex := hmay
    (conv => whnf)
    (repeat' ((first
      | (exact absurd (by with_reducible assumption) hex)
      | ((with_reducible refine And.intro ?_ ?_); focus (with_reducible exact True.intro))
      | (split <;> rename_i hh <;> (try simp only [ble_true, ble_false, beq_true, beq_false, sI_eq, sB_eq, sS_eq, sN_eq, ltI_eq, leI_eq, eqI_eq, decide_eq_true_eq, decide_eq_false_iff_not, beq_iff_eq, bne_iff_ne, ne_eq, beq_eq_false_iff_ne, bne_eq_false_iff_eq, Bool.not_eq_true, Bool.not_eq_false, Int.not_lt, Int.not_le, gt_iff_lt, ge_iff_le, Nat.not_lt, Nat.not_le, Decidable.not_not, Bool.not_eq_eq_eq_not, Bool.not_true, Bool.not_false, cond_true, cond_false, Bool.or_eq_true, Bool.and_eq_true, Bool.or_eq_false_iff, Bool.and_eq_false_iff] at hh) <;> (try simp (disch := omega) only [Int.tdiv_eq_ediv_of_nonneg, Int.tmod_eq_emod_of_nonneg] at hh))
      | fail) <;> (conv => whnf)))
    all_goals (try (show _ = _; simp only [sI_eq, sB_eq, sS_eq, sN_eq]))
    unfold postText; rw [if_neg hmay]
end
end Go.Vc.Z

/- Postings' texts: the document's. -/
namespace Go.Vc.Z
open Go Go.Vc Go.Proofs Go.RowKit Go.Pl Go.Lib
noncomputable section
set_option maxRecDepth 100000
set_option linter.unusedSimpArgs false
set_option linter.unusedVariables false
attribute [local irreducible] inK Utf8.decode Utf8.encode Lib.itoa Pl.worth Pl.allDig
attribute [local irreducible] Lib.join
theorem join_snoc {L : List (List UInt8)} (h : L ≠ []) (w sep : List UInt8) : Lib.join (L ++ [w]) sep = Lib.join L sep ++ (sep ++ w) := by
  cases L with
  | nil => exact absurd rfl h
  | cons x r =>
    rw [List.cons_append, Lib.join_cons, Lib.join_cons, List.append_assoc]
    simp [Lib.joinTail]
theorem postParts_ne (p : Posting) : ∀ n, postParts p n ≠ []
  | 0 => by simp [postParts]
  | n + 1 => by simp [postParts, postParts_ne p n]
def marksL : List (List UInt8) := [[32, 67], [32, 76], [32, 82], [32, 84], [32, 80], [32, 86]]
def LPT14 (p : Posting) : LoopSpec := {
  α := Nat
  keep := [4, 5, 6, 7]
  vals i := [.osl 2 1 0 6 (some 6), .str (sS (Lib.join (postParts p i) [32])), .sl false 1 6 (fun e => [.int .i64 ((amtsL p).getD e 0)]), .int .i64 i]
  heap i := [.dead, .dead, .row 1 6 (fun e => [.str (marksL.getD e [])])] ++ List.replicate 27 .dead
  ok i := i ≤ 6
  μ i := 6 - i }
theorem postText_first (p : Posting) : Lib.join (postParts p 0) [32] = pnameL p.kind ++ [32] ++ numText p.ticket ++ [32] ++ Lib.itoa p.seq ++ [32] ++ Lib.itoa p.day := by
  simp [postParts, Lib.join_cons, Lib.joinTail]
theorem marks_eq {j : Nat} (hj : j < 6) : marksL.getD j [] = 32 :: [labs.getD j 0] := by
  rcases (by omega : j = 0 ∨ j = 1 ∨ j = 2 ∨ j = 3 ∨ j = 4 ∨ j = 5) with rfl | rfl | rfl | rfl | rfl | rfl <;> rfl
theorem postText_step {p : Posting} {i : Nat} (hi : i < 6) : Lib.join (postParts p (i + 1)) [32] = if (amtsL p).getD i 0 = 0 then Lib.join (postParts p i) [32] else Lib.join (postParts p i) [32] ++ marksL.getD i [] ++ Lib.itoa ((amtsL p).getD i 0) := by
  rw [postParts, postW]
  split
  · rw [List.append_nil]
  · rw [join_snoc (postParts_ne p i), marks_eq hi]
    simp
def D_couponref14_Text : PT := tabD [(116, pcMayPost), (81, pcDigits), (119, pcDig14), (120, pcAmounts)]
def C_couponref14_Text : FuncId → Option Ctr := tabC D_couponref14_Text []
def L_couponref14_Text : List AV → Nat → Option LR := fun cs i => match cs with | [.agg [.int .i64 pd, .int .u64 pt, .int .i64 ps, .int .i64 pk, .int .i64 a0, .int .i64 a1, .int .i64 a2, .int .i64 a3, .int .i64 a4, .int .i64 a5]] => cond (Nat.beq i 8) (some (.inv (LPT14 (Posting.mk pd pt ps pk a0 a1 a2 a3 a4 a5)))) (none) | _ => none
set_option maxHeartbeats 2000000 in
theorem g_couponref14_Text {W : World} (hW : Tabs W) : GoodP (Fw W) Tryz.prog 51 pcPText := by
  have hD : PTOk (Fw W) Tryz.prog D_couponref14_Text := (tabD_cons Tryz.call116 (g_couponref14_May hW) (tabD_cons Tryz.call81 (g_couponref10_Digits hW) (tabD_cons Tryz.call119 (g_couponref14_digits hW) (tabD_cons Tryz.call120 (g_couponref14_Amounts hW) tabD_nil))))
  have hC0 : CtrOk (Fw W) Tryz.prog C_couponref14_Text := (tabC_nil hD)
  refine goodP_fun (D := D_couponref14_Text) (C := C_couponref14_Text) (wr := (fun _ => false)) rfl tyOk hD hC0 Tryz.func51 (L_couponref14_Text) ?_
  clear hC0 hD hW
  intro cs p r h hf hp
  split at h
  case h_2 => cases h
  rename_i pd pt ps pk a0 a1 a2 a3 a4 a5
  cases h
  try simp only [factL, factA, inK_def, Go.Vc.lo, Go.Vc.hi, and_true] at hf
  have hss : ∀ s, sS s = s := sS_eq
  by_cases hmay : mayPostB (Posting.mk pd pt ps pk a0 a1 a2 a3 a4 a5) = true
  · have hex : ¬ mayPostB (Posting.mk pd pt ps pk a0 a1 a2 a3 a4 a5) = false := by rw [hmay]; simp
    obtain ⟨f1, f2, f3, f4, f5⟩ := mayPost_facts hmay
    clear hf
    have hl : ∀ i, i ≤ 6 → (Lib.join (postParts (Posting.mk pd pt ps pk a0 a1 a2 a3 a4 a5) i) [32]).length ≤ 1000 := fun i hi => by
      have h1 := join_le [32] 40 _ (postParts_word hmay i hi)
      have h2 := postParts_len (Posting.mk pd pt ps pk a0 a1 a2 a3 a4 a5) i
      simp at h1; omega
    have hnt : numText pt = decDigits pt.toNat := by unfold numText; rw [if_pos f2]
    have ln := numText_len pt
    have l1 := itoa_len ps (by simp at f3; omega) (by simp at f3; omega)
    have l2 := itoa_len pd (by simp at f4; omega) (by simp at f4; omega)
    rw [hnt] at ln
    have hk : pk = 1 ∨ pk = 2 ∨ pk = 3 ∨ pk = 4 ∨ pk = 5 := by simp at f1; omega
    simp only at f3 f4
    clear f1
    have hfin : postText (Posting.mk pd pt ps pk a0 a1 a2 a3 a4 a5) = Lib.join (postParts (Posting.mk pd pt ps pk a0 a1 a2 a3 a4 a5) 6) [32] := by unfold postText; rw [if_pos hmay]
    have hfst := postText_first (Posting.mk pd pt ps pk a0 a1 a2 a3 a4 a5)
    have hstp := fun i => postText_step (p := (Posting.mk pd pt ps pk a0 a1 a2 a3 a4 a5)) (i := i)
    have l4 : ∀ i : Nat, i < 6 → (marksL.getD (0 + Int.toNat (i : Int)) []).length = 2 := fun i h => by rw [Nat.zero_add]; show (marksL.getD i []).length = 2; rw [marks_eq h]; rfl
    have f6 : ∀ i : Nat, i < 6 → -1125899906842624 ≤ (amtsL (Posting.mk pd pt ps pk a0 a1 a2 a3 a4 a5)).getD (Int.toNat (i : Int)) 0 ∧ (amtsL (Posting.mk pd pt ps pk a0 a1 a2 a3 a4 a5)).getD (Int.toNat (i : Int)) 0 ≤ 1125899906842624 := f5
    have l5 : ∀ i : Nat, i < 6 → (Lib.itoa ((amtsL (Posting.mk pd pt ps pk a0 a1 a2 a3 a4 a5)).getD (Int.toNat (i : Int)) 0)).length ≤ 32 := fun i h => itoa_len _ (by have := f6 i h; omega) (by have := f6 i h; omega)
    rcases hk with rfl | rfl | rfl | rfl | rfl
    all_goals (
      (conv => whnf)
      (repeat' ((first
        | (exact absurd (by with_reducible assumption) hex)
        | ((with_reducible refine And.intro ?_ ?_); focus (first | with_reducible exact True.intro | ((with_reducible show okB _ _ _ = true); rfl) | omega | (simp only [inK_def, Go.Vc.lo, Go.Vc.hi]; omega) | (simp only [List.length_append, bytesOf_length, List.toList_toArray, List.length_cons, List.length_nil, List.length_take, List.length_drop, sS_eq]; omega)))
        | (split <;> rename_i hh <;> (try simp only [ble_true, ble_false, beq_true, beq_false, sI_eq, sB_eq, sS_eq, sN_eq, ltI_eq, leI_eq, eqI_eq, decide_eq_true_eq, decide_eq_false_iff_not, beq_iff_eq, bne_iff_ne, ne_eq, beq_eq_false_iff_ne, bne_eq_false_iff_eq, Bool.not_eq_true, Bool.not_eq_false, Int.not_lt, Int.not_le, gt_iff_lt, ge_iff_le, Nat.not_lt, Nat.not_le, Decidable.not_not, Bool.not_eq_eq_eq_not, Bool.not_true, Bool.not_false, cond_true, cond_false, Bool.or_eq_true, Bool.and_eq_true, Bool.or_eq_false_iff, Bool.and_eq_false_iff] at hh) <;> (try simp (disch := omega) only [Int.tdiv_eq_ediv_of_nonneg, Int.tmod_eq_emod_of_nonneg] at hh))
        | fail) <;> (conv => whnf)))
      all_goals (try (show _ = _; simp only [sI_eq, sB_eq, sS_eq, sN_eq]))
      refine ⟨?_, fun (i : Nat) (hi : i ≤ 6) => ?_⟩
      · (conv => whnf)
        refine ⟨(0 : Nat), [], ?_, ⟨⟨rfl, Nat.le_of_ble_eq_true rfl, rfl⟩, ?_, ?_⟩⟩
        · exact Nat.zero_le _
        · (conv => whnf)
          (repeat' ((first | with_reducible exact True.intro | ((with_reducible refine Or.inr ?_); rfl) | ((with_reducible refine And.intro ?_ ?_); focus (first | with_reducible rfl | omega | exact Nat.le_of_ble_eq_true rfl | rfl)) | with_reducible refine And.intro (?_ : leA _ _ _) ?_ | fail) <;> (conv => whnf)))
          all_goals (try simp only [sI_eq, sB_eq, sS_eq, sN_eq])
          all_goals (try first | omega | exact ⟨fun h => h, fun _ _ => True.intro⟩)
          rw [hfst, hnt]; rfl
        · (conv => whnf)
          (repeat' ((first | with_reducible exact True.intro | ((with_reducible refine And.intro ?_ ?_); focus (first | with_reducible rfl | omega | exact Nat.le_of_ble_eq_true rfl | rfl)) | with_reducible refine And.intro (?_ : leBlk _ _ _ _) ?_ | fail) <;> (conv => whnf)))
          all_goals (try simp only [sI_eq, sB_eq, sS_eq, sN_eq])
          intro e he
          match e, he with
          | 0, _ => first | rfl | exact ⟨rfl, rfl⟩
          | 1, _ => first | rfl | exact ⟨rfl, rfl⟩
          | 2, _ => first | rfl | exact ⟨rfl, rfl⟩
          | 3, _ => first | rfl | exact ⟨rfl, rfl⟩
          | 4, _ => first | rfl | exact ⟨rfl, rfl⟩
          | 5, _ => first | rfl | exact ⟨rfl, rfl⟩
          | e + 6, he => exact absurd he (by omega)
      · have l3 := hl i hi
        have l4 := l4 i
        have l5 := l5 i
        have f6 := f6 i
        (conv => whnf)
        (repeat' ((first
          | ((with_reducible refine And.intro ?_ ?_); focus (first | ((with_reducible show okB _ _ _ = true); rfl) | omega | (simp only [inK_def, Go.Vc.lo, Go.Vc.hi]; omega) | (simp only [List.length_append, bytesOf_length, List.toList_toArray, List.length_cons, List.length_nil, List.length_take, List.length_drop, sS_eq]; omega)))
          | (split <;> rename_i hh <;> (try simp only [ble_true, ble_false, beq_true, beq_false, sI_eq, sB_eq, sS_eq, sN_eq, ltI_eq, leI_eq, eqI_eq, decide_eq_true_eq, decide_eq_false_iff_not, beq_iff_eq, bne_iff_ne, ne_eq, beq_eq_false_iff_ne, bne_eq_false_iff_eq, Bool.not_eq_true, Bool.not_eq_false, Int.not_lt, Int.not_le, gt_iff_lt, ge_iff_le, Nat.not_lt, Nat.not_le, Decidable.not_not, Bool.not_eq_eq_eq_not, Bool.not_true, Bool.not_false, cond_true, cond_false, Bool.or_eq_true, Bool.and_eq_true, Bool.or_eq_false_iff, Bool.and_eq_false_iff] at hh) <;> (try simp (disch := omega) only [Int.tdiv_eq_ediv_of_nonneg, Int.tmod_eq_emod_of_nonneg] at hh))
          | fail) <;> (conv => whnf)))
        all_goals (try (show _ = _; simp only [sI_eq, sB_eq, sS_eq, sN_eq]))
        · (conv => whnf)
          refine ⟨(i + 1 : Nat), [], ?_, ⟨⟨rfl, Nat.le_of_ble_eq_true rfl, rfl⟩, ?_, ?_⟩⟩
          · exact ⟨show i + 1 ≤ 6 by omega, show 6 - (i + 1) < 6 - i by omega⟩
          · (conv => whnf)
            (repeat' ((first | with_reducible exact True.intro | ((with_reducible refine Or.inr ?_); rfl) | ((with_reducible refine And.intro ?_ ?_); focus (first | with_reducible rfl | omega | exact Nat.le_of_ble_eq_true rfl | rfl)) | with_reducible refine And.intro (?_ : leA _ _ _) ?_ | fail) <;> (conv => whnf)))
            all_goals (try simp only [sI_eq, sB_eq, sS_eq, sN_eq])
            all_goals (try first | omega | exact ⟨fun h => h, fun _ _ => True.intro⟩)
            rw [hstp i (by omega), if_neg (by assumption), Nat.zero_add]; rfl
          · (conv => whnf)
            (repeat' ((first | with_reducible exact True.intro | ((with_reducible refine And.intro ?_ ?_); focus (first | with_reducible rfl | omega | exact Nat.le_of_ble_eq_true rfl | rfl)) | with_reducible refine And.intro (?_ : leBlk _ _ _ _) ?_ | fail) <;> (conv => whnf)))
            all_goals (try simp only [sI_eq, sB_eq, sS_eq, sN_eq])
            all_goals (try first | exact fun _ _ => ⟨True.intro, rfl⟩)
        · (conv => whnf)
          refine ⟨(i + 1 : Nat), [], ?_, ⟨⟨rfl, Nat.le_of_ble_eq_true rfl, rfl⟩, ?_, ?_⟩⟩
          · exact ⟨show i + 1 ≤ 6 by omega, show 6 - (i + 1) < 6 - i by omega⟩
          · (conv => whnf)
            (repeat' ((first | with_reducible exact True.intro | ((with_reducible refine Or.inr ?_); rfl) | ((with_reducible refine And.intro ?_ ?_); focus (first | with_reducible rfl | omega | exact Nat.le_of_ble_eq_true rfl | rfl)) | with_reducible refine And.intro (?_ : leA _ _ _) ?_ | fail) <;> (conv => whnf)))
            all_goals (try simp only [sI_eq, sB_eq, sS_eq, sN_eq])
            all_goals (try first | omega | exact ⟨fun h => h, fun _ _ => True.intro⟩)
            rw [hstp i (by omega), if_pos (by assumption)]
          · (conv => whnf)
            (repeat' ((first | with_reducible exact True.intro | ((with_reducible refine And.intro ?_ ?_); focus (first | with_reducible rfl | omega | exact Nat.le_of_ble_eq_true rfl | rfl)) | with_reducible refine And.intro (?_ : leBlk _ _ _ _) ?_ | fail) <;> (conv => whnf)))
            all_goals (try simp only [sI_eq, sB_eq, sS_eq, sN_eq])
            all_goals (try first | exact fun _ _ => ⟨True.intro, rfl⟩)
        · obtain rfl : i = 6 := by omega
          rw [hfin]
        )
  · have hex := hmay
    (conv => whnf)
    (repeat' ((first
      | (exact absurd (by with_reducible assumption) hex)
      | ((with_reducible refine And.intro ?_ ?_); focus (with_reducible exact True.intro))
      | (split <;> rename_i hh <;> (try simp only [ble_true, ble_false, beq_true, beq_false, sI_eq, sB_eq, sS_eq, sN_eq, ltI_eq, leI_eq, eqI_eq, decide_eq_true_eq, decide_eq_false_iff_not, beq_iff_eq, bne_iff_ne, ne_eq, beq_eq_false_iff_ne, bne_eq_false_iff_eq, Bool.not_eq_true, Bool.not_eq_false, Int.not_lt, Int.not_le, gt_iff_lt, ge_iff_le, Nat.not_lt, Nat.not_le, Decidable.not_not, Bool.not_eq_eq_eq_not, Bool.not_true, Bool.not_false, cond_true, cond_false, Bool.or_eq_true, Bool.and_eq_true, Bool.or_eq_false_iff, Bool.and_eq_false_iff] at hh) <;> (try simp (disch := omega) only [Int.tdiv_eq_ediv_of_nonneg, Int.tmod_eq_emod_of_nonneg] at hh))
      | fail) <;> (conv => whnf)))
    all_goals (try (show _ = _; simp only [sI_eq, sB_eq, sS_eq, sN_eq]))
    unfold postText; rw [if_neg hmay]
end
end Go.Vc.Z

/- Amounts' texts. -/
namespace Go.Vc.Z
open Go Go.Vc Go.Proofs Go.RowKit Go.Pl Go.Lib
noncomputable section
set_option maxRecDepth 100000
set_option linter.unusedSimpArgs false
set_option linter.unusedVariables false
attribute [local irreducible] inK Utf8.decode Utf8.encode Lib.itoa Pl.worth Pl.allDig
abbrev digB (n : Int) : UInt8 := UInt8.ofNat (48 + n % 10).toNat
@[irreducible] def centsT (n : Int) : List UInt8 := decDigits (n / 10 / 10).toNat ++ [46, digB (n / 10), digB n]
@[irreducible] def moneyT (n : Int) : List UInt8 := if n < 0 then 45 :: centsT (-n) else centsT n
@[irreducible] def fareT (n : Int) : List UInt8 := if moneyB n = true then moneyT n else []
def dig11 (n least : Int) : List UInt8 := if least = 1 then decDigits n.toNat else [digB (n / 10), digB n]
def pcDig11 : PC := PC.fun fun | [.int .i64 n, .int .i64 least] => some (0 ≤ n ∧ (least = 1 ∨ (least = 2 ∧ n < 100)), .str (sS (dig11 n least))) | _ => none
def LDig11 (n : Int) : LoopSpec := {
  α := Nat × List UInt8
  keep := [0, 1, 5]
  vals x := [.int .i64 (x.1 : Int), .int .i64 1, .str x.2]
  heap _ := []
  ok x := x.1 ≤ n.toNat ∧ (if x.1 = 0 ∧ x.2 ≠ [] then x.2 else decDigits x.1 ++ x.2) = decDigits n.toNat
  μ x := 2 * x.1 + (if x.2 = [] then 1 else 0) }
def D_couponref11_digits : PT := tabD []
def C_couponref11_digits : FuncId → Option Ctr := tabC D_couponref11_digits []
def L_couponref11_digits : List AV → Nat → Option LR := fun cs i => match cs with | [.int _ n, .int _ least] => cond (Nat.beq i 2) (some ((match decide (least = 1) with | true => .inv (LDig11 n) | false => .unroll 3))) (none) | _ => none
theorem g_couponref11_digits {W : World} (hW : Tabs W) : GoodP (Fw W) Tryz.prog 170 pcDig11 := by
  have hD : PTOk (Fw W) Tryz.prog D_couponref11_digits := tabD_nil
  have hC0 : CtrOk (Fw W) Tryz.prog C_couponref11_digits := (tabC_nil hD)
  refine goodP_fun (D := D_couponref11_digits) (C := C_couponref11_digits) (wr := (fun _ => false)) rfl tyOk hD hC0 Tryz.func170 (L_couponref11_digits) ?_
  clear hC0 hD hW
  intro cs p r h hf hp
  split at h
  case h_2 => cases h
  rename_i n least
  cases h
  try simp only [factL, factA, inK_def, Go.Vc.lo, Go.Vc.hi, and_true] at hf
  obtain ⟨h0, hl⟩ := hp
  rcases hl with rfl | ⟨rfl, h100⟩
  · (conv => whnf)
    all_goals (try (show _ = _; simp only [sI_eq, sB_eq, sS_eq, sN_eq]))
    refine ⟨?_, fun (x : Nat × List UInt8) (hx : x.1 ≤ n.toNat ∧ (if x.1 = 0 ∧ x.2 ≠ [] then x.2 else decDigits x.1 ++ x.2) = decDigits n.toNat) => ?_⟩
    · (conv => whnf)
      refine ⟨((n.toNat, []) : Nat × List UInt8), [], ?_, ⟨⟨rfl, Nat.le_of_ble_eq_true rfl, rfl⟩, ?_, ?_⟩⟩
      · exact ⟨Nat.le_refl _, by simp⟩
      · (conv => whnf)
        (repeat' ((first | with_reducible exact True.intro | ((with_reducible refine And.intro ?_ ?_); focus (first | with_reducible rfl | omega | exact Nat.le_of_ble_eq_true rfl | rfl)) | with_reducible refine And.intro (?_ : leA _ _ _) ?_ | fail) <;> (conv => whnf)))
        all_goals (try simp only [sI_eq, sB_eq, sS_eq, sN_eq])
        all_goals (try first | omega)
      · (conv => whnf)
        (repeat' ((first | with_reducible exact True.intro | fail) <;> (conv => whnf)))
        all_goals (try simp only [sI_eq, sB_eq, sS_eq, sN_eq])
    · obtain ⟨h1, h2⟩ := hx
      have hl : x.2.length ≤ 30 := by
        have := congrArg List.length h2
        have h20 : (decDigits n.toNat).length ≤ 30 := by rw [decDigits_length]; exact Nat.le_trans (nDigits_le 29 _ (by omega)) (by omega)
        split at this <;> (try simp at this) <;> omega
      have hz : x.2.length < 1 ↔ x.2 = [] := by rw [← List.length_eq_zero_iff]; omega
      (conv => whnf)
      (repeat' ((first
        | ((with_reducible refine And.intro ?_ ?_); focus (first | omega | (intro e he; rcases (by omega : e = 0 ∨ e = 1 ∨ e = 2) with rfl | rfl | rfl <;> first | rfl | (exfalso; omega)) | (simp only [inK_def, Go.Vc.lo, Go.Vc.hi]; simp (disch := omega) only [Int.tdiv_eq_ediv_of_nonneg, Int.tmod_eq_emod_of_nonneg, sI_eq, sN_eq]; omega) | (simp only [List.length_append, bytesOf_length, List.toList_toArray, List.length_cons, List.length_nil, List.length_take, List.length_drop, sS_eq]; omega)))
        | (split <;> rename_i hh <;> (try simp only [ble_true, ble_false, beq_true, beq_false, sI_eq, sB_eq, sS_eq, sN_eq, ltI_eq, leI_eq, eqI_eq, decide_eq_true_eq, decide_eq_false_iff_not, beq_iff_eq, bne_iff_ne, ne_eq, beq_eq_false_iff_ne, bne_eq_false_iff_eq, Bool.not_eq_true, Bool.not_eq_false, Int.not_lt, Int.not_le, gt_iff_lt, ge_iff_le, Nat.not_lt, Nat.not_le, Decidable.not_not, Bool.not_eq_eq_eq_not, Bool.not_true, Bool.not_false, cond_true, cond_false, Bool.or_eq_true, Bool.and_eq_true, Bool.or_eq_false_iff, Bool.and_eq_false_iff] at hh) <;> (try simp (disch := omega) only [Int.tdiv_eq_ediv_of_nonneg, Int.tmod_eq_emod_of_nonneg] at hh))
        | with_reducible refine (fun (hln : (_ : Int) ≤ 9223372036854775807) => ?_)
        | fail) <;> (conv => whnf)))
      all_goals (try (show _ = _; simp only [sI_eq, sB_eq, sS_eq, sN_eq]))
      · (conv => whnf)
        refine ⟨((x.1 / 10, UInt8.ofNat (48 + x.1 % 10) :: x.2) : Nat × List UInt8), [], ?_, ⟨⟨rfl, Nat.le_of_ble_eq_true rfl, rfl⟩, ?_, ?_⟩⟩
        · refine ⟨⟨show x.1 / 10 ≤ n.toNat by omega, (digits_step (n := x.1) (s := x.2) (.inl (by omega))).trans h2⟩, ?_⟩
          show 2 * (x.1 / 10) + (if UInt8.ofNat (48 + x.1 % 10) :: x.2 = [] then 1 else 0) < 2 * x.1 + (if x.2 = [] then 1 else 0)
          rw [if_neg (by simp)]; omega
        · (conv => whnf)
          (repeat' ((first | with_reducible exact True.intro | ((with_reducible refine And.intro ?_ ?_); focus (first | with_reducible rfl | omega | exact Nat.le_of_ble_eq_true rfl | rfl)) | with_reducible refine And.intro (?_ : leA _ _ _) ?_ | fail) <;> (conv => whnf)))
          all_goals (try simp only [sI_eq, sB_eq, sS_eq, sN_eq])
          all_goals (try first | rfl)
        · (conv => whnf)
          (repeat' ((first | with_reducible exact True.intro | fail) <;> (conv => whnf)))
          all_goals (try simp only [sI_eq, sB_eq, sS_eq, sN_eq])
      · have hs : x.2 = [] := hz.1 (by omega)
        (conv => whnf)
        refine ⟨((x.1 / 10, UInt8.ofNat (48 + x.1 % 10) :: x.2) : Nat × List UInt8), [], ?_, ⟨⟨rfl, Nat.le_of_ble_eq_true rfl, rfl⟩, ?_, ?_⟩⟩
        · refine ⟨⟨show x.1 / 10 ≤ n.toNat by omega, (digits_step (n := x.1) (s := x.2) (.inr hs)).trans h2⟩, ?_⟩
          show 2 * (x.1 / 10) + (if UInt8.ofNat (48 + x.1 % 10) :: x.2 = [] then 1 else 0) < 2 * x.1 + (if x.2 = [] then 1 else 0)
          rw [if_neg (by simp), if_pos hs]; omega
        · (conv => whnf)
          (repeat' ((first | with_reducible exact True.intro | ((with_reducible refine And.intro ?_ ?_); focus (first | with_reducible rfl | omega | exact Nat.le_of_ble_eq_true rfl | rfl)) | with_reducible refine And.intro (?_ : leA _ _ _) ?_ | fail) <;> (conv => whnf)))
          all_goals (try simp only [sI_eq, sB_eq, sS_eq, sN_eq])
          all_goals (try first | rfl)
        · (conv => whnf)
          (repeat' ((first | with_reducible exact True.intro | fail) <;> (conv => whnf)))
          all_goals (try simp only [sI_eq, sB_eq, sS_eq, sN_eq])
      · have hs : x.2 ≠ [] := fun h => by have := hz.2 h; omega
        have h0 : x.1 = 0 := by omega
        rw [if_pos ⟨h0, hs⟩] at h2
        exact h2
  · (conv => whnf)
    (repeat' ((first
      | ((with_reducible refine And.intro ?_ ?_); focus (first | omega | (intro e he; rcases (by omega : e = 0 ∨ e = 1 ∨ e = 2) with rfl | rfl | rfl <;> first | rfl | (exfalso; omega)) | (simp only [inK_def, Go.Vc.lo, Go.Vc.hi]; simp (disch := omega) only [Int.tdiv_eq_ediv_of_nonneg, Int.tmod_eq_emod_of_nonneg, sI_eq, sN_eq]; omega) | (simp only [List.length_append, bytesOf_length, List.toList_toArray, List.length_cons, List.length_nil, List.length_take, List.length_drop, sS_eq]; omega)))
      | (split <;> rename_i hh <;> (try simp only [ble_true, ble_false, beq_true, beq_false, sI_eq, sB_eq, sS_eq, sN_eq, ltI_eq, leI_eq, eqI_eq, decide_eq_true_eq, decide_eq_false_iff_not, beq_iff_eq, bne_iff_ne, ne_eq, beq_eq_false_iff_ne, bne_eq_false_iff_eq, Bool.not_eq_true, Bool.not_eq_false, Int.not_lt, Int.not_le, gt_iff_lt, ge_iff_le, Nat.not_lt, Nat.not_le, Decidable.not_not, Bool.not_eq_eq_eq_not, Bool.not_true, Bool.not_false, cond_true, cond_false, Bool.or_eq_true, Bool.and_eq_true, Bool.or_eq_false_iff, Bool.and_eq_false_iff] at hh) <;> (try simp (disch := omega) only [Int.tdiv_eq_ediv_of_nonneg, Int.tmod_eq_emod_of_nonneg] at hh))
      | with_reducible refine (fun (hln : (_ : Int) ≤ 9223372036854775807) => ?_)
      | fail) <;> (conv => whnf)))
    all_goals (try (show _ = _; simp only [sI_eq, sB_eq, sS_eq, sN_eq]))
    all_goals try (exfalso; omega)
    all_goals (
      show [UInt8.ofNat (48 + (n.tdiv 10).tmod 10).toNat, UInt8.ofNat (48 + n.tmod 10).toNat] = _
      rw [Int.tdiv_eq_ediv_of_nonneg h0, Int.tmod_eq_emod_of_nonneg h0, Int.tmod_eq_emod_of_nonneg (by omega)]
      rfl)
theorem centsT_len {n : Int} (h0 : 0 ≤ n) (h : n ≤ 9223372036854775807) : (centsT n).length ≤ 30 := by
  unfold centsT
  have := dec_len_le (n / 10 / 10).toNat (by omega)
  simp only [List.length_append, List.length_cons, List.length_nil]; omega
theorem moneyT_len {n : Int} (h : -9223372036854775807 ≤ n ∧ n ≤ 9223372036854775807) : (moneyT n).length ≤ 31 := by
  unfold moneyT
  split
  · have := centsT_len (n := -n) (by omega) (by omega)
    simp only [List.length_cons]; omega
  · have := centsT_len (n := n) (by omega) (by omega)
    omega
def pcMoneyT0 : PC := PC.fun fun | [.int .i64 n] => some (0 ≤ n, .str (sS (centsT n))) | _ => none
def pcMoneyT : PC := PC.fun fun | [.int .i64 n] => some (-9223372036854775807 ≤ n, .str (sS (moneyT n))) | _ => none
theorem centsT_dig {n : Int} (h : 0 ≤ n) : dig11 (n.tdiv 100) 1 ++ [46] ++ dig11 (n.tmod 100) 2 = centsT n := by
  have e1 : n.tdiv 100 = n / 100 := Int.tdiv_eq_ediv_of_nonneg (by omega)
  have e2 : n.tmod 100 = n % 100 := Int.tmod_eq_emod_of_nonneg (by omega)
  unfold dig11 centsT
  rw [if_pos rfl, if_neg (by omega), e1, e2, show n / 100 = n / 10 / 10 by omega]
  unfold digB
  rw [show n % 100 / 10 % 10 = n / 10 % 10 by omega, show n % 100 % 10 = n % 10 by omega]
  simp
def D_moneyT0 : PT := tabD [(170, pcDig11)]
def C_moneyT0 : FuncId → Option Ctr := tabC D_moneyT0 []
theorem g_moneyT0 {W : World} (hW : Tabs W) : GoodP (Fw W) Tryz.prog 83 pcMoneyT0 := by
  have hD : PTOk (Fw W) Tryz.prog D_moneyT0 := (tabD_cons Tryz.call170 (g_couponref11_digits hW) tabD_nil)
  have hC0 : CtrOk (Fw W) Tryz.prog C_moneyT0 := (tabC_nil hD)
  refine goodP_fun (D := D_moneyT0) (C := C_moneyT0) (wr := (fun _ => false)) rfl tyOk hD hC0 Tryz.func83 (fun _ _ => none) ?_
  clear hC0 hD hW
  intro cs p r h hf hp
  split at h
  case h_2 => cases h
  rename_i n
  cases h
  try simp only [factL, factA, inK_def, Go.Vc.lo, Go.Vc.hi, and_true] at hf
  have e1 : n.tdiv 100 = n / 100 := Int.tdiv_eq_ediv_of_nonneg (by omega)
  have e2 : n.tmod 100 = n % 100 := Int.tmod_eq_emod_of_nonneg (by omega)
  have d1 : (dig11 (n.tdiv 100) 1).length ≤ 20 := by unfold dig11; rw [if_pos rfl]; exact dec_len_le _ (by omega)
  have d2 : (dig11 (n.tmod 100) 2).length = 2 := rfl
  have hex : ¬ n < 0 := by omega
  (conv => whnf)
  (repeat' ((first
    | (exact absurd (by with_reducible assumption) hex)
    | ((with_reducible refine And.intro ?_ ?_); focus (first | omega | (simp only [inK_def, Go.Vc.lo, Go.Vc.hi]; omega) | (simp only [List.length_append, bytesOf_length, List.toList_toArray, List.length_cons, List.length_nil, List.length_take, List.length_drop, sS_eq]; omega)))
    | (split <;> rename_i hh <;> (try simp only [ble_true, ble_false, beq_true, beq_false, sI_eq, sB_eq, sS_eq, sN_eq, ltI_eq, leI_eq, eqI_eq, decide_eq_true_eq, decide_eq_false_iff_not, beq_iff_eq, bne_iff_ne, ne_eq, beq_eq_false_iff_ne, bne_eq_false_iff_eq, Bool.not_eq_true, Bool.not_eq_false, Int.not_lt, Int.not_le, gt_iff_lt, ge_iff_le, Nat.not_lt, Nat.not_le, Decidable.not_not, Bool.not_eq_eq_eq_not, Bool.not_true, Bool.not_false, cond_true, cond_false, Bool.or_eq_true, Bool.and_eq_true, Bool.or_eq_false_iff, Bool.and_eq_false_iff] at hh) <;> (try simp (disch := omega) only [Int.tdiv_eq_ediv_of_nonneg, Int.tmod_eq_emod_of_nonneg] at hh))
    | fail) <;> (conv => whnf)))
  all_goals (try (show _ = _; simp only [sI_eq, sB_eq, sS_eq, sN_eq]))
  exact centsT_dig hp
def D_couponref11_Text : PT := tabD [(83, pcMoneyT0), (170, pcDig11)]
def C_couponref11_Text : FuncId → Option Ctr := tabC D_couponref11_Text []
theorem g_couponref11_Text {W : World} (hW : Tabs W) : GoodP (Fw W) Tryz.prog 83 pcMoneyT := by
  have hD : PTOk (Fw W) Tryz.prog D_couponref11_Text := (tabD_cons Tryz.call83 (g_moneyT0 hW) (tabD_cons Tryz.call170 (g_couponref11_digits hW) tabD_nil))
  have hC0 : CtrOk (Fw W) Tryz.prog C_couponref11_Text := (tabC_nil hD)
  refine goodP_fun (D := D_couponref11_Text) (C := C_couponref11_Text) (wr := (fun _ => false)) rfl tyOk hD hC0 Tryz.func83 (fun _ _ => none) ?_
  clear hC0 hD hW
  intro cs p r h hf hp
  split at h
  case h_2 => cases h
  rename_i n
  cases h
  try simp only [factL, factA, inK_def, Go.Vc.lo, Go.Vc.hi, and_true] at hf
  by_cases h0 : 0 ≤ n
  · have e1 : n.tdiv 100 = n / 100 := Int.tdiv_eq_ediv_of_nonneg (by omega)
    have e2 : n.tmod 100 = n % 100 := Int.tmod_eq_emod_of_nonneg (by omega)
    have d1 : (dig11 (n.tdiv 100) 1).length ≤ 20 := by unfold dig11; rw [if_pos rfl]; exact dec_len_le _ (by omega)
    have d2 : (dig11 (n.tmod 100) 2).length = 2 := rfl
    have hex : ¬ n < 0 := by omega
    (conv => whnf)
    (repeat' ((first
      | (exact absurd (by with_reducible assumption) hex)
      | ((with_reducible refine And.intro ?_ ?_); focus (first | omega | (simp only [inK_def, Go.Vc.lo, Go.Vc.hi]; omega) | (simp only [List.length_append, bytesOf_length, List.toList_toArray, List.length_cons, List.length_nil, List.length_take, List.length_drop, sS_eq]; omega)))
      | (split <;> rename_i hh <;> (try simp only [ble_true, ble_false, beq_true, beq_false, sI_eq, sB_eq, sS_eq, sN_eq, ltI_eq, leI_eq, eqI_eq, decide_eq_true_eq, decide_eq_false_iff_not, beq_iff_eq, bne_iff_ne, ne_eq, beq_eq_false_iff_ne, bne_eq_false_iff_eq, Bool.not_eq_true, Bool.not_eq_false, Int.not_lt, Int.not_le, gt_iff_lt, ge_iff_le, Nat.not_lt, Nat.not_le, Decidable.not_not, Bool.not_eq_eq_eq_not, Bool.not_true, Bool.not_false, cond_true, cond_false, Bool.or_eq_true, Bool.and_eq_true, Bool.or_eq_false_iff, Bool.and_eq_false_iff] at hh) <;> (try simp (disch := omega) only [Int.tdiv_eq_ediv_of_nonneg, Int.tmod_eq_emod_of_nonneg] at hh))
      | fail) <;> (conv => whnf)))
    all_goals (try (show _ = _; simp only [sI_eq, sB_eq, sS_eq, sN_eq]))
    unfold moneyT; rw [if_neg hex]; exact centsT_dig h0
  · have hex : ¬ 0 ≤ n := by omega
    have h1 := centsT_len (n := -n) (by omega) (by omega)
    (conv => whnf)
    (repeat' ((first
      | (exact absurd (by with_reducible assumption) hex)
      | ((with_reducible refine And.intro ?_ ?_); focus (first | omega | (simp only [inK_def, Go.Vc.lo, Go.Vc.hi]; omega) | (simp only [List.length_append, bytesOf_length, List.toList_toArray, List.length_cons, List.length_nil, List.length_take, List.length_drop, sS_eq]; omega)))
      | (split <;> rename_i hh <;> (try simp only [ble_true, ble_false, beq_true, beq_false, sI_eq, sB_eq, sS_eq, sN_eq, ltI_eq, leI_eq, eqI_eq, decide_eq_true_eq, decide_eq_false_iff_not, beq_iff_eq, bne_iff_ne, ne_eq, beq_eq_false_iff_ne, bne_eq_false_iff_eq, Bool.not_eq_true, Bool.not_eq_false, Int.not_lt, Int.not_le, gt_iff_lt, ge_iff_le, Nat.not_lt, Nat.not_le, Decidable.not_not, Bool.not_eq_eq_eq_not, Bool.not_true, Bool.not_false, cond_true, cond_false, Bool.or_eq_true, Bool.and_eq_true, Bool.or_eq_false_iff, Bool.and_eq_false_iff] at hh) <;> (try simp (disch := omega) only [Int.tdiv_eq_ediv_of_nonneg, Int.tmod_eq_emod_of_nonneg] at hh))
      | fail) <;> (conv => whnf)))
    all_goals (try (show _ = _; simp only [sI_eq, sB_eq, sS_eq, sN_eq]))
    unfold moneyT; rw [if_pos (by omega)]; rfl
/-- What is still to come ahead of digits. -/
def restT (m : Int) : Nat → List UInt8
  | 0 => centsT m
  | 1 => decDigits (m / 10).toNat ++ [46, digB m]
  | 2 => decDigits m.toNat ++ [46]
  | _ + 3 => if m = 0 then [] else decDigits m.toNat
theorem rest_3 {m : Int} (h : 0 ≤ m) : (if m / 10 = 0 then [] else decDigits (m / 10).toNat) ++ [digB m] = decDigits m.toNat := by
  obtain ⟨u, rfl⟩ : ∃ u : Nat, m = u := ⟨m.toNat, by omega⟩
  have e : digB (u : Int) = UInt8.ofNat (48 + u % 10) := by unfold digB; congr 1
  rw [e, show ((u : Int) / 10).toNat = u / 10 by omega, Int.toNat_natCast]
  split
  · rw [dec_small (by omega)]; rfl
  · rw [dec_big (u := u) (by omega)]
theorem rest_step {m : Int} {i : Nat} (h : 0 ≤ m) (hi : i < 3 ∨ 0 < m) : restT (m / 10) (i + 1) ++ (if i = 2 then [digB m, 46] else [digB m]) = restT m i := by
  rcases Nat.lt_or_ge i 3 with h3 | h3
  rcases (by omega : i = 0 ∨ i = 1 ∨ i = 2) with rfl | rfl | rfl
  · simp [restT, centsT]
  · simp [restT]
  · have := rest_3 h
    simp only [restT]
    rw [if_pos True.intro, show [digB m, 46] = [digB m] ++ [46] from rfl, ← List.append_assoc, this]
  · obtain ⟨k, rfl⟩ : ∃ k, i = k + 3 := ⟨i - 3, by omega⟩
    have := rest_3 h
    rw [if_neg (by omega)]
    show (if m / 10 = 0 then [] else decDigits (m / 10).toNat) ++ [digB m] = if m = 0 then [] else decDigits m.toNat
    rw [this, if_neg (by omega)]
def rowB (l : List UInt8) : Blk := match l with
  | [] => .dead
  | c :: l => .row 1 (l.length + 1) (fun e => [.int .u8 ((c :: l).getD e 0).toNat])
def oslB (id : Nat) : List UInt8 → AV
  | [] => .nilsl
  | _ :: l => .osl id 1 0 (l.length + 1) none
abbrev FS := Nat × List UInt8 × Int
def LFare7 (n : Int) : LoopSpec := {
  α := FS
  keep := [0, 3, 4]
  vals x := [.int .i64 x.2.2, oslB 0 x.2.1, .int .i64 x.1]
  heap x := [rowB x.2.1]
  ok x := 0 ≤ x.2.2 ∧ x.2.2 ≤ n ∧ ((x.1 = 0 ↔ x.2.1 = []) ∧ x.1 ≤ x.2.1.length) ∧ restT x.2.2 x.1 ++ x.2.1.reverse = centsT n
  μ x := (3 - x.1) + 2 * x.2.2.toNat }
def bldRow (T : List UInt8) (k : Nat) : Blk := .row 1 k (fun e => [.int .u8 (T.getD e 0).toNat]) (some 5)
def LFare15 (n : Int) : LoopSpec := {
  α := Nat
  keep := [3, 5, 41, 42]
  vals k := [.osl 0 1 0 (centsT n).length none, .ptr 1 0, .int .i64 (centsT n).length, .int .i64 k]
  heap k := match k with
    | 0 => [.row 1 (centsT n).length (fun e => [.int .u8 ((centsT n).reverse.getD e 0).toNat]), .var [.nilp, .nilsl] (some 152), .dead]
    | k + 1 => [.row 1 (centsT n).length (fun e => [.int .u8 ((centsT n).reverse.getD e 0).toNat]), .var [.ptr 1 0, .osl 2 1 0 (k + 1) none] (some 152), bldRow (centsT n) (k + 1)]
  ok k := k ≤ (centsT n).length
  μ k := (centsT n).length - k }
def pcFareT0 : PC := PC.fun fun | [.int .i64 n] => some (0 ≤ n ∧ moneyB n = true, .str (sS (centsT n))) | _ => none
theorem digB_nat {m : Int} (h : 0 ≤ m) : (((digB m).toNat : Nat) : Int) = 48 + m.tmod 10 := by
  rw [Int.tmod_eq_emod_of_nonneg h]
  unfold digB
  have : (UInt8.ofNat (48 + m % 10).toNat).toNat = (48 + m % 10).toNat % 256 := UInt8.toNat_ofNat'
  omega
theorem rest_ne {m : Int} {i : Nat} (h : 0 ≤ m) (hi : i < 3 ∨ 0 < m) (h2 : i ≠ 2) : restT (m / 10) (i + 1) ++ [digB m] = restT m i := by
  have := rest_step h hi
  rw [if_neg h2] at this; exact this
theorem rest_two {m : Int} (h : 0 ≤ m) : restT (m / 10) 3 ++ [digB m, 46] = restT m 2 := rest_step h (.inl (by omega))
theorem rev_getD {T : List UInt8} {j : Nat} (h : j < T.length) : T.reverse.getD (0 + ((T.length : Int) - 1 - (j : Int)).toNat) 0 = T.getD j 0 := by
  rw [show 0 + ((T.length : Int) - 1 - (j : Int)).toNat = T.length - 1 - j by omega]
  simp only [List.getD_eq_getElem?_getD]
  rw [List.getElem?_reverse (by omega), show T.length - 1 - (T.length - 1 - j) = j by omega]
theorem cat_tab {T : List UInt8} {k : Nat} {b : Nat → List AV} (hb : b 0 = [.int .u8 (T.getD k 0).toNat]) {e : Nat} (he : e < k + 1) : catRow k (fun e => [AV.int .u8 (T.getD e 0).toNat]) b e = [AV.int .u8 (T.getD e 0).toNat] := by
  unfold catRow
  rcases Nat.lt_or_ge e k with h | h
  · rw [if_pos h]
  · obtain rfl : e = k := by omega
    rw [if_neg (by omega), Nat.sub_self, hb]
theorem bytesOf_tab (T : List UInt8) : bytesOf T.length (fun e => [AV.int .u8 (T.getD e 0).toNat]) = T := by
  refine List.ext_getElem? fun j => ?_
  simp only [bytesOf, List.getElem?_map]
  rcases Nat.lt_or_ge j T.length with h | h
  · rw [List.getElem?_range h, List.getElem?_eq_getElem h]
    simp [byteCell, List.getD_eq_getElem?_getD, h]
  · rw [List.getElem?_eq_none (by simpa using h), List.getElem?_eq_none h]; rfl
theorem cat_u8 {l : List UInt8} {d : UInt8} {b : Nat → List AV} (hb : b 0 = [.int .u8 d.toNat]) {e : Nat} (he : e < l.length + 1) : catRow l.length (fun e => [AV.int .u8 (l.getD e 0).toNat]) b e = [AV.int .u8 ((l ++ [d]).getD e 0).toNat] := by
  unfold catRow
  rcases Nat.lt_or_ge e l.length with h | h
  · rw [if_pos h]
    simp [List.getD_eq_getElem?_getD, List.getElem?_append_left h]
  · obtain rfl : e = l.length := by omega
    rw [if_neg (by omega), Nat.sub_self, hb]
    simp [List.getD_eq_getElem?_getD]
theorem cat_u8n {l : List UInt8} {n : Nat} {d : UInt8} {g b : Nat → List AV} (hn : n = l.length) (hg : ∀ e, e < l.length → g e = [.int .u8 (l.getD e 0).toNat]) (hb : b 0 = [.int .u8 d.toNat]) {e : Nat} (he : e < n + 1) : catRow n g b e = [AV.int .u8 ((l ++ [d]).getD e 0).toNat] := by
  subst hn
  rw [← cat_u8 (l := l) (b := b) hb he]
  unfold catRow
  split
  · exact hg e (by assumption)
  · rfl
theorem centsT_pos (n : Int) : 0 < (centsT n).length := by unfold centsT; simp
def D_fareT0 : PT := tabD [(207, pcMoney)]
def C_fareT0 : FuncId → Option Ctr := tabC D_fareT0 [(102, kBString), (182, kCopyCheck)]
def C1_fareT0 : FuncId → Option Ctr := tabC D_fareT0 [(208, inl TY (C_fareT0) D_fareT0 (fun _ => false) (fun _ _ _ => none) Tryz.f208), (102, kBString), (182, kCopyCheck)]
def L_fareT0 : List AV → Nat → Option LR := fun cs i => match cs with | [.int _ n] => cond (Nat.beq i 7) (some (.inv (LFare7 n))) (cond (Nat.beq i 15) (some (.inv (LFare15 n))) (none)) | _ => none
set_option maxHeartbeats 2000000 in
theorem g_fareT0 {W : World} (hW : Tabs W) : GoodP (Fw W) Tryz.prog 132 pcFareT0 := by
  have hD : PTOk (Fw W) Tryz.prog D_fareT0 := (tabD_cons Tryz.call207 (g_fare_May hW) tabD_nil)
  have hC0 : CtrOk (Fw W) Tryz.prog C_fareT0 := (tabC_cons Tryz.call102 goodBString (tabC_cons Tryz.call182 goodCopyCheck (tabC_nil hD)))
  have hC1 : CtrOk (Fw W) Tryz.prog (C1_fareT0) := tabC_cons Tryz.call208 (good_inl rfl tyOk hD (hC0) Tryz.func208 (fun _ _ _ => none)) (hC0)
  refine goodP_fun (D := D_fareT0) (C := C1_fareT0) (wr := (fun _ => false)) rfl tyOk hD hC1 Tryz.func132 (L_fareT0) ?_
  clear hC0 hD hW
  intro cs p r h hf hp
  split at h
  case h_2 => cases h
  rename_i n
  cases h
  try simp only [factL, factA, inK_def, Go.Vc.lo, Go.Vc.hi, and_true] at hf
  obtain ⟨h0, hm⟩ := hp
  have hb : 0 ≤ n ∧ n ≤ 1000000000000 := by have := hm; unfold moneyB at this; simp at this; omega
  have hex : ¬ moneyB n = false := by rw [hm]; simp
  (conv => whnf)
  (repeat' ((first
    | (exact absurd (by with_reducible assumption) hex)
    | ((with_reducible refine And.intro ?_ ?_); focus (first | with_reducible exact True.intro | omega))
    | (split <;> rename_i hh <;> (try simp only [ble_true, ble_false, beq_true, beq_false, sI_eq, sB_eq, sS_eq, sN_eq, ltI_eq, leI_eq, eqI_eq, decide_eq_true_eq, decide_eq_false_iff_not, beq_iff_eq, bne_iff_ne, ne_eq, beq_eq_false_iff_ne, bne_eq_false_iff_eq, Bool.not_eq_true, Bool.not_eq_false, Int.not_lt, Int.not_le, gt_iff_lt, ge_iff_le, Nat.not_lt, Nat.not_le, Decidable.not_not, Bool.not_eq_eq_eq_not, Bool.not_true, Bool.not_false, cond_true, cond_false, Bool.or_eq_true, Bool.and_eq_true, Bool.or_eq_false_iff, Bool.and_eq_false_iff] at hh) <;> (try simp (disch := omega) only [Int.tdiv_eq_ediv_of_nonneg, Int.tmod_eq_emod_of_nonneg] at hh))
    | fail) <;> (conv => whnf)))
  all_goals (try (show _ = _; simp only [sI_eq, sB_eq, sS_eq, sN_eq]))
  · exfalso; omega
  refine ⟨?_, fun (x : FS) hx => ?_⟩
  · (conv => whnf)
    refine ⟨((0, [], n) : FS), [0], ?_, ⟨⟨rfl, Nat.le_of_ble_eq_true rfl, rfl⟩, ?_, ?_⟩⟩
    · exact ⟨h0, Int.le_refl _, ⟨by simp, Nat.le_refl _⟩, by simp [restT]⟩
    · (conv => whnf)
      (repeat' ((first | with_reducible exact True.intro | ((with_reducible refine And.intro ?_ ?_); focus (first | with_reducible rfl | omega | exact Nat.le_of_ble_eq_true rfl | rfl)) | with_reducible refine And.intro (?_ : leA _ _ _) ?_ | fail) <;> (conv => whnf)))
      all_goals (try simp only [sI_eq, sB_eq, sS_eq, sN_eq])
      all_goals (try first | omega)
    · (conv => whnf)
      (repeat' ((first | with_reducible exact True.intro | fail) <;> (conv => whnf)))
      all_goals (try simp only [sI_eq, sB_eq, sS_eq, sN_eq])
  · obtain ⟨i, back, m⟩ := x
    obtain ⟨h1, h2, ⟨h3, h5⟩, h4⟩ := hx
    change i ≤ back.length at h5
    change 0 ≤ m at h1
    change m ≤ n at h2
    change i = 0 ↔ back = [] at h3
    change restT m i ++ back.reverse = centsT n at h4
    have hd := digB_nat h1
    have htd : m.tdiv 10 = m / 10 := Int.tdiv_eq_ediv_of_nonneg h1
    have hl : back.length ≤ 40 := by
      have := congrArg List.length h4
      have := centsT_len h0 (by omega)
      simp at *; omega
    rcases back with _ | ⟨c, l⟩
    · have hi := h3.2 rfl
      subst hi
      (conv => whnf)
      (repeat' ((first
        | ((with_reducible refine And.intro ?_ ?_); focus (first | omega | (simp only [inK_def, Go.Vc.lo, Go.Vc.hi]; omega) | (simp only [inK_def, Go.Vc.lo, Go.Vc.hi]; simp (disch := omega) only [Int.tdiv_eq_ediv_of_nonneg, Int.tmod_eq_emod_of_nonneg, sI_eq, sN_eq]; omega) | (simp only [growOk, ty2, ty3, ty4, ty5, ty9, ty21, ty37, ty42, ty43, ty45, ty47, ty67, ty95, ty105, ty113, ty150, ty161, ty198, ty242, ty275]; first | omega | (refine ⟨?_, ?_⟩ <;> omega))))
        | fail) <;> (conv => whnf)))
      all_goals (try (show _ = _; simp only [sI_eq, sB_eq, sS_eq, sN_eq]))
      · (conv => whnf)
        refine ⟨((1, [digB m], m / 10) : FS), [2], ?_, ⟨⟨rfl, Nat.le_of_ble_eq_true rfl, rfl⟩, ?_, ?_⟩⟩
        · refine ⟨⟨show 0 ≤ m / 10 by omega, show m / 10 ≤ n by omega, ⟨by simp, Nat.le_refl _⟩, ?_⟩, show (3 - 1) + 2 * (m / 10).toNat < (3 - 0) + 2 * m.toNat by omega⟩
          rw [← h4]
          have := rest_ne (i := 0) h1 (.inl (by omega)) (by omega)
          simpa using this
        · (conv => whnf)
          (repeat' ((first | with_reducible exact True.intro | ((with_reducible refine Or.inr ?_); rfl) | ((with_reducible refine And.intro ?_ ?_); focus (first | with_reducible rfl | omega | exact Nat.le_of_ble_eq_true rfl | rfl)) | with_reducible refine And.intro (?_ : leA _ _ _) ?_ | fail) <;> (conv => whnf)))
          all_goals (try simp only [sI_eq, sB_eq, sS_eq, sN_eq])
          all_goals (try first | omega)
        · (conv => whnf)
          (repeat' ((first | with_reducible exact True.intro | ((with_reducible refine And.intro ?_ ?_); focus (first | with_reducible rfl | omega | exact Nat.le_of_ble_eq_true rfl | rfl)) | with_reducible refine And.intro (?_ : leBlk _ _ _ _) ?_ | fail) <;> (conv => whnf)))
          all_goals (try simp only [sI_eq, sB_eq, sS_eq, sN_eq])
          intro e he
          have he : e < 1 := he
          obtain rfl : e = 0 := by omega
          refine ⟨?_, rfl⟩
          show [AV.int .u8 (48 + m.tmod 10)] = [AV.int .u8 ((digB m).toNat : Int)]
          rw [hd]
    · have hi : i ≠ 0 := fun h => by have := h3.1 h; cases this
      have hl2 : l.length ≤ 39 := by simp at hl; omega
      have h6 : i ≤ l.length + 1 := h5
      clear hl
      have hdr : [AV.int .u8 (48 + m.tmod 10)] = [AV.int .u8 ((digB m).toNat : Int)] := by rw [hd]
      have hfin : ¬ 0 < m → 3 ≤ i → c :: l = (centsT n).reverse := fun hm0 hi3 => by
        obtain ⟨k, rfl⟩ : ∃ k, i = k + 3 := ⟨i - 3, by omega⟩
        have hz : m = 0 := by omega
        simp only [restT] at h4
        rw [if_pos hz, List.nil_append] at h4
        rw [← h4, List.reverse_reverse]
      (conv => whnf)
      (repeat' ((first
        | ((with_reducible refine And.intro ?_ ?_); focus (first | ((with_reducible refine ⟨?_, ?_, ?_⟩) <;> first | (intro e he; rcases (by omega : e = 0 ∨ e = 1 ∨ e = 2 ∨ e = 3 ∨ e = 4 ∨ e = 5) with rfl | rfl | rfl | rfl | rfl | rfl <;> first | rfl | (exfalso; omega)) | (with_reducible assumption) | omega | ((with_reducible show growOk _ _); simp only [growOk, ty2, ty3, ty4, ty5, ty9, ty21, ty37, ty42, ty43, ty45, ty47, ty67, ty95, ty105, ty113, ty150, ty161, ty198, ty242, ty275, List.length_cons, List.length_nil]; first | omega | (refine ⟨?_, ?_⟩ <;> omega))) | omega | (simp only [inK_def, Go.Vc.lo, Go.Vc.hi]; omega) | (simp only [inK_def, Go.Vc.lo, Go.Vc.hi]; simp (disch := omega) only [Int.tdiv_eq_ediv_of_nonneg, Int.tmod_eq_emod_of_nonneg, sI_eq, sN_eq]; omega)))
        | (split <;> rename_i hh <;> (try simp only [ble_true, ble_false, beq_true, beq_false, sI_eq, sB_eq, sS_eq, sN_eq, ltI_eq, leI_eq, eqI_eq, decide_eq_true_eq, decide_eq_false_iff_not, beq_iff_eq, bne_iff_ne, ne_eq, beq_eq_false_iff_ne, bne_eq_false_iff_eq, Bool.not_eq_true, Bool.not_eq_false, Int.not_lt, Int.not_le, gt_iff_lt, ge_iff_le, Nat.not_lt, Nat.not_le, Decidable.not_not, Bool.not_eq_eq_eq_not, Bool.not_true, Bool.not_false, cond_true, cond_false, Bool.or_eq_true, Bool.and_eq_true, Bool.or_eq_false_iff, Bool.and_eq_false_iff] at hh) <;> (try simp (disch := omega) only [Int.tdiv_eq_ediv_of_nonneg, Int.tmod_eq_emod_of_nonneg] at hh))
        | with_reducible refine (fun (hln : (_ : Int) ≤ 9223372036854775807) => ?_)
        | fail) <;> (conv => whnf)))
      all_goals (try (show _ = _; simp only [sI_eq, sB_eq, sS_eq, sN_eq]))
      · (conv => whnf)
        refine ⟨((i + 1, c :: l ++ [46] ++ [digB m], m / 10) : FS), [4], ?_, ⟨⟨rfl, Nat.le_of_ble_eq_true rfl, rfl⟩, ?_, ?_⟩⟩
        · refine ⟨⟨show 0 ≤ m / 10 by omega, show m / 10 ≤ n by omega, ⟨by simp, by simp; omega⟩, ?_⟩, show (3 - (i + 1)) + 2 * (m / 10).toNat < (3 - i) + 2 * m.toNat by omega⟩
          rw [← h4]
          obtain rfl : i = 2 := by omega
          have := rest_two h1
          show restT (m / 10) 3 ++ _ = restT m 2 ++ _
          rw [← this]; simp
        · (conv => whnf)
          (repeat' ((first | with_reducible exact True.intro | ((with_reducible refine And.intro ?_ ?_); focus (first | with_reducible rfl | omega | exact Nat.le_of_ble_eq_true rfl | rfl)) | with_reducible refine And.intro (?_ : leA _ _ _) ?_ | fail) <;> (conv => whnf)))
          all_goals (try simp only [sI_eq, sB_eq, sS_eq, sN_eq])
          all_goals (try first | omega)
          all_goals (try first | exact ⟨by simp, Or.inl trivial⟩)
        · (conv => whnf)
          (repeat' ((first | with_reducible exact True.intro | ((with_reducible refine And.intro ?_ ?_); focus (first | with_reducible rfl | omega | exact Nat.le_of_ble_eq_true rfl | rfl)) | with_reducible refine And.intro (?_ : leBlk _ _ _ _) ?_ | fail) <;> (conv => whnf)))
          all_goals (try simp only [sI_eq, sB_eq, sS_eq, sN_eq])
          exact ⟨by simp, fun e he => ⟨cat_u8n (l := c :: l ++ [46]) (by simp) (fun e he => cat_u8n (l := c :: l) rfl (fun _ _ => rfl) rfl (by simpa using he)) hdr (by simpa using he), rfl⟩⟩
      · (conv => whnf)
        refine ⟨((i + 1, c :: l ++ [digB m], m / 10) : FS), [2], ?_, ⟨⟨rfl, Nat.le_of_ble_eq_true rfl, rfl⟩, ?_, ?_⟩⟩
        · refine ⟨⟨show 0 ≤ m / 10 by omega, show m / 10 ≤ n by omega, ⟨by simp, by simp; omega⟩, ?_⟩, show (3 - (i + 1)) + 2 * (m / 10).toNat < (3 - i) + 2 * m.toNat by omega⟩
          rw [← h4]
          have := rest_ne (i := i) h1 (.inl (by omega)) (by omega)
          show restT (m / 10) (i + 1) ++ _ = restT m i ++ _
          rw [← this]; simp
        · (conv => whnf)
          (repeat' ((first | with_reducible exact True.intro | ((with_reducible refine And.intro ?_ ?_); focus (first | with_reducible rfl | omega | exact Nat.le_of_ble_eq_true rfl | rfl)) | with_reducible refine And.intro (?_ : leA _ _ _) ?_ | fail) <;> (conv => whnf)))
          all_goals (try simp only [sI_eq, sB_eq, sS_eq, sN_eq])
          all_goals (try first | omega)
          all_goals (try first | exact ⟨by simp, Or.inl trivial⟩)
        · (conv => whnf)
          (repeat' ((first | with_reducible exact True.intro | ((with_reducible refine And.intro ?_ ?_); focus (first | with_reducible rfl | omega | exact Nat.le_of_ble_eq_true rfl | rfl)) | with_reducible refine And.intro (?_ : leBlk _ _ _ _) ?_ | fail) <;> (conv => whnf)))
          all_goals (try simp only [sI_eq, sB_eq, sS_eq, sN_eq])
          exact ⟨by simp, fun e he => ⟨cat_u8n (l := c :: l) rfl (fun _ _ => rfl) hdr (by simpa using he), rfl⟩⟩
      · exfalso; omega
      · (conv => whnf)
        refine ⟨((i + 1, c :: l ++ [digB m], m / 10) : FS), [2], ?_, ⟨⟨rfl, Nat.le_of_ble_eq_true rfl, rfl⟩, ?_, ?_⟩⟩
        · refine ⟨⟨show 0 ≤ m / 10 by omega, show m / 10 ≤ n by omega, ⟨by simp, by simp; omega⟩, ?_⟩, show (3 - (i + 1)) + 2 * (m / 10).toNat < (3 - i) + 2 * m.toNat by omega⟩
          rw [← h4]
          have := rest_ne (i := i) h1 (.inr (by omega)) (by omega)
          show restT (m / 10) (i + 1) ++ _ = restT m i ++ _
          rw [← this]; simp
        · (conv => whnf)
          (repeat' ((first | with_reducible exact True.intro | ((with_reducible refine And.intro ?_ ?_); focus (first | with_reducible rfl | omega | exact Nat.le_of_ble_eq_true rfl | rfl)) | with_reducible refine And.intro (?_ : leA _ _ _) ?_ | fail) <;> (conv => whnf)))
          all_goals (try simp only [sI_eq, sB_eq, sS_eq, sN_eq])
          all_goals (try first | omega)
          all_goals (try first | exact ⟨by simp, Or.inl trivial⟩)
        · (conv => whnf)
          (repeat' ((first | with_reducible exact True.intro | ((with_reducible refine And.intro ?_ ?_); focus (first | with_reducible rfl | omega | exact Nat.le_of_ble_eq_true rfl | rfl)) | with_reducible refine And.intro (?_ : leBlk _ _ _ _) ?_ | fail) <;> (conv => whnf)))
          all_goals (try simp only [sI_eq, sB_eq, sS_eq, sN_eq])
          exact ⟨by simp, fun e he => ⟨cat_u8n (l := c :: l) rfl (fun _ _ => rfl) hdr (by simpa using he), rfl⟩⟩
      · have hcl := hfin (by omega) (by omega)
        have hll : l.length + 1 = (centsT n).length := by have := congrArg List.length hcl; simpa using this
        refine ⟨?_, fun (k : Nat) (hk : k ≤ (centsT n).length) => ?_⟩
        · (conv => whnf)
          refine ⟨(0 : Nat), [], ?_, ⟨⟨rfl, Nat.le_of_ble_eq_true rfl, rfl⟩, ?_, ?_⟩⟩
          · exact Nat.zero_le _
          · (conv => whnf)
            (repeat' ((first | with_reducible exact True.intro | ((with_reducible refine Or.inr ?_); rfl) | ((with_reducible refine And.intro ?_ ?_); focus (first | with_reducible rfl | omega | exact Nat.le_of_ble_eq_true rfl | rfl)) | with_reducible refine And.intro (?_ : leA _ _ _) ?_ | fail) <;> (conv => whnf)))
            all_goals (try simp only [sI_eq, sB_eq, sS_eq, sN_eq])
            all_goals (try first | omega)
          · (conv => whnf)
            (repeat' ((first | with_reducible exact True.intro | ((with_reducible refine And.intro ?_ ?_); focus (first | with_reducible rfl | omega | exact Nat.le_of_ble_eq_true rfl | rfl)) | with_reducible refine And.intro (?_ : leA _ _ _) ?_ | with_reducible refine And.intro (?_ : leL _ _ _) ?_ | with_reducible refine And.intro (?_ : leBlk _ _ _ _) ?_ | fail) <;> (conv => whnf)))
            all_goals (try simp only [sI_eq, sB_eq, sS_eq, sN_eq])
            intro e he
            rw [hcl]; exact ⟨rfl, rfl⟩
        · have hr : ∀ k : Nat, k < (centsT n).length → [AV.int .u8 (((centsT n).reverse.getD (0 + (((centsT n).length : Int) - 1 - (k : Int)).toNat) 0).toNat : Int)] = [AV.int .u8 ((centsT n).getD k 0).toNat] := fun k hk => by rw [rev_getD hk]
          have hpos := centsT_pos n
          have h30 := centsT_len h0 (by omega)
          rcases k with _ | k
          · (conv => whnf)
            (repeat' ((first
              | (with_reducible refine inl_intro ?_)
              | ((with_reducible refine And.intro ?_ ?_); focus (first | omega | (simp only [inK_def, Go.Vc.lo, Go.Vc.hi]; omega) | (simp only [growOk, ty2, ty3, ty4, ty5, ty9, ty21, ty37, ty42, ty43, ty45, ty47, ty67, ty95, ty105, ty113, ty150, ty161, ty198, ty242, ty275]; first | omega | (refine ⟨?_, ?_⟩ <;> omega)) | decide))
              | (split <;> rename_i hh <;> (try simp only [ble_true, ble_false, beq_true, beq_false, sI_eq, sB_eq, sS_eq, sN_eq, ltI_eq, leI_eq, eqI_eq, decide_eq_true_eq, decide_eq_false_iff_not, beq_iff_eq, bne_iff_ne, ne_eq, beq_eq_false_iff_ne, bne_eq_false_iff_eq, Bool.not_eq_true, Bool.not_eq_false, Int.not_lt, Int.not_le, gt_iff_lt, ge_iff_le, Nat.not_lt, Nat.not_le, Decidable.not_not, Bool.not_eq_eq_eq_not, Bool.not_true, Bool.not_false, cond_true, cond_false, Bool.or_eq_true, Bool.and_eq_true, Bool.or_eq_false_iff, Bool.and_eq_false_iff] at hh) <;> (try simp (disch := omega) only [Int.tdiv_eq_ediv_of_nonneg, Int.tmod_eq_emod_of_nonneg] at hh))
              | with_reducible refine (fun (hln : (_ : Int) ≤ 9223372036854775807) => ?_)
              | fail) <;> (conv => whnf)))
            all_goals (try (show _ = _; simp only [sI_eq, sB_eq, sS_eq, sN_eq]))
            · (conv => whnf)
              refine ⟨(1 : Nat), [4], ?_, ⟨⟨rfl, Nat.le_of_ble_eq_true rfl, rfl⟩, ?_, ?_⟩⟩
              · exact ⟨show 1 ≤ (centsT n).length by omega, show (centsT n).length - 1 < (centsT n).length - 0 by omega⟩
              · (conv => whnf)
                (repeat' ((first | with_reducible exact True.intro | ((with_reducible refine Or.inr ?_); rfl) | ((with_reducible refine And.intro ?_ ?_); focus (first | with_reducible rfl | omega | exact Nat.le_of_ble_eq_true rfl | rfl)) | with_reducible refine And.intro (?_ : leA _ _ _) ?_ | fail) <;> (conv => whnf)))
                all_goals (try simp only [sI_eq, sB_eq, sS_eq, sN_eq])
                all_goals (try first | omega)
              · (conv => whnf)
                (repeat' ((first | with_reducible exact True.intro | ((with_reducible refine Or.inr ?_); rfl) | ((with_reducible refine And.intro ?_ ?_); focus (first | with_reducible rfl | omega | exact Nat.le_of_ble_eq_true rfl | rfl)) | with_reducible refine And.intro (?_ : leA _ _ _) ?_ | with_reducible refine And.intro (?_ : leL _ _ _) ?_ | with_reducible refine And.intro (?_ : leBlk _ _ _ _) ?_ | fail) <;> (conv => whnf)))
                all_goals (try simp only [sI_eq, sB_eq, sS_eq, sN_eq])
                all_goals (try first | exact fun _ _ => ⟨True.intro, rfl⟩)
                refine ⟨⟨rfl, Nat.le_refl _, fun e he => ?_⟩, trivial⟩
                have he : e < 1 := he
                obtain rfl : e = 0 := by omega
                exact ⟨hr 0 (by omega), rfl⟩
            · exfalso; omega
          · (conv => whnf)
            (repeat' ((first
              | (with_reducible refine inl_intro ?_)
              | ((with_reducible refine And.intro ?_ ?_); focus (first | ((with_reducible refine ⟨?_, ?_, ?_⟩) <;> first | (intro e he; rcases (by omega : e = 0 ∨ e = 1 ∨ e = 2 ∨ e = 3 ∨ e = 4 ∨ e = 5) with rfl | rfl | rfl | rfl | rfl | rfl <;> first | rfl | (exfalso; omega)) | (with_reducible assumption) | omega | ((with_reducible show growOk _ _); simp only [growOk, ty2, ty3, ty4, ty5, ty9, ty21, ty37, ty42, ty43, ty45, ty47, ty67, ty95, ty105, ty113, ty150, ty161, ty198, ty242, ty275, List.length_cons, List.length_nil]; first | omega | (refine ⟨?_, ?_⟩ <;> omega))) | with_reducible rfl | omega | (simp only [inK_def, Go.Vc.lo, Go.Vc.hi]; omega) | decide))
              | (split <;> rename_i hh <;> (try simp only [ble_true, ble_false, beq_true, beq_false, sI_eq, sB_eq, sS_eq, sN_eq, ltI_eq, leI_eq, eqI_eq, decide_eq_true_eq, decide_eq_false_iff_not, beq_iff_eq, bne_iff_ne, ne_eq, beq_eq_false_iff_ne, bne_eq_false_iff_eq, Bool.not_eq_true, Bool.not_eq_false, Int.not_lt, Int.not_le, gt_iff_lt, ge_iff_le, Nat.not_lt, Nat.not_le, Decidable.not_not, Bool.not_eq_eq_eq_not, Bool.not_true, Bool.not_false, cond_true, cond_false, Bool.or_eq_true, Bool.and_eq_true, Bool.or_eq_false_iff, Bool.and_eq_false_iff] at hh) <;> (try simp (disch := omega) only [Int.tdiv_eq_ediv_of_nonneg, Int.tmod_eq_emod_of_nonneg] at hh))
              | with_reducible refine (fun (hln : (_ : Int) ≤ 9223372036854775807) => ?_)
              | fail) <;> (conv => whnf)))
            all_goals (try (show _ = _; simp only [sI_eq, sB_eq, sS_eq, sN_eq]))
            · (conv => whnf)
              refine ⟨(k + 2 : Nat), [4], ?_, ⟨⟨rfl, Nat.le_of_ble_eq_true rfl, rfl⟩, ?_, ?_⟩⟩
              · exact ⟨show k + 2 ≤ (centsT n).length by omega, show (centsT n).length - (k + 2) < (centsT n).length - (k + 1) by omega⟩
              · (conv => whnf)
                (repeat' ((first | with_reducible exact True.intro | ((with_reducible refine Or.inr ?_); rfl) | ((with_reducible refine And.intro ?_ ?_); focus (first | with_reducible rfl | omega | exact Nat.le_of_ble_eq_true rfl | rfl)) | with_reducible refine And.intro (?_ : leA _ _ _) ?_ | fail) <;> (conv => whnf)))
                all_goals (try simp only [sI_eq, sB_eq, sS_eq, sN_eq])
                all_goals (try first | omega)
              · (conv => whnf)
                (repeat' ((first | with_reducible exact True.intro | ((with_reducible refine Or.inr ?_); rfl) | ((with_reducible refine And.intro ?_ ?_); focus (first | with_reducible rfl | omega | exact Nat.le_of_ble_eq_true rfl | rfl)) | with_reducible refine And.intro (?_ : leA _ _ _) ?_ | with_reducible refine And.intro (?_ : leL _ _ _) ?_ | with_reducible refine And.intro (?_ : leBlk _ _ _ _) ?_ | fail) <;> (conv => whnf)))
                all_goals (try simp only [sI_eq, sB_eq, sS_eq, sN_eq])
                all_goals (try first | exact fun _ _ => ⟨True.intro, rfl⟩)
                exact ⟨⟨trivial, Nat.le_refl _, fun e he => ⟨cat_tab (hr (k + 1) (by omega)) (by simpa using he), rfl⟩⟩, rfl⟩
            · refine ⟨⟨rfl, by omega, Nat.le_refl _, fun e he => rfl⟩, ?_⟩
              (conv => whnf)
              all_goals (try (show _ = _; simp only [sI_eq, sB_eq, sS_eq, sN_eq]))
              have hk1 : k + 1 = (centsT n).length := by omega
              rw [hk1]; exact bytesOf_tab _
def pcFareT1 : PC := PC.fun fun | [.int .i64 n] => some (n < 0 ∨ moneyB n = false, .str (sS (fareT n))) | _ => none
def D_fareT1 : PT := tabD [(207, pcMoney), (132, pcFareT0)]
def C_fareT1 : FuncId → Option Ctr := tabC D_fareT1 [(102, kBString)]
theorem g_fareT1 {W : World} (hW : Tabs W) : GoodP (Fw W) Tryz.prog 132 pcFareT1 := by
  have hD : PTOk (Fw W) Tryz.prog D_fareT1 := (tabD_cons Tryz.call207 (g_fare_May hW) (tabD_cons Tryz.call132 (g_fareT0 hW) tabD_nil))
  have hC0 : CtrOk (Fw W) Tryz.prog C_fareT1 := (tabC_cons Tryz.call102 goodBString (tabC_nil hD))
  refine goodP_fun (D := D_fareT1) (C := C_fareT1) (wr := (fun _ => false)) rfl tyOk hD hC0 Tryz.func132 (fun _ _ => none) ?_
  clear hC0 hD hW
  intro cs p r h hf hp
  split at h
  case h_2 => cases h
  rename_i n
  cases h
  try simp only [factL, factA, inK_def, Go.Vc.lo, Go.Vc.hi, and_true] at hf
  have hbd : moneyB n = true → -1000000000000 ≤ n ∧ n ≤ 1000000000000 := fun h => by have := h; unfold moneyB at this; simp at this; omega
  by_cases hm : moneyB n = true
  · have hn : n < 0 := by rcases hp with h | h; exact h; rw [hm] at h; cases h
    have hb := hbd hm
    have hex : ¬ 0 ≤ n := by omega
    have h1 := centsT_len (n := -n) (by omega) (by omega)
    have hm2 : 0 ≤ -n ∧ moneyB (-n) = true := ⟨by omega, by unfold moneyB; simp; omega⟩
    (conv => whnf)
    (repeat' ((first
      | (exact absurd (by with_reducible assumption) hex)
      | ((with_reducible refine And.intro ?_ ?_); focus (first | with_reducible exact True.intro | with_reducible assumption | (simp only [inK_def, Go.Vc.lo, Go.Vc.hi]; omega) | (simp only [List.length_append, bytesOf_length, List.toList_toArray, List.length_cons, List.length_nil, List.length_take, List.length_drop, sS_eq]; omega)))
      | (split <;> rename_i hh <;> (try simp only [ble_true, ble_false, beq_true, beq_false, sI_eq, sB_eq, sS_eq, sN_eq, ltI_eq, leI_eq, eqI_eq, decide_eq_true_eq, decide_eq_false_iff_not, beq_iff_eq, bne_iff_ne, ne_eq, beq_eq_false_iff_ne, bne_eq_false_iff_eq, Bool.not_eq_true, Bool.not_eq_false, Int.not_lt, Int.not_le, gt_iff_lt, ge_iff_le, Nat.not_lt, Nat.not_le, Decidable.not_not, Bool.not_eq_eq_eq_not, Bool.not_true, Bool.not_false, cond_true, cond_false, Bool.or_eq_true, Bool.and_eq_true, Bool.or_eq_false_iff, Bool.and_eq_false_iff] at hh) <;> (try simp (disch := omega) only [Int.tdiv_eq_ediv_of_nonneg, Int.tmod_eq_emod_of_nonneg] at hh))
      | fail) <;> (conv => whnf)))
    all_goals (try (show _ = _; simp only [sI_eq, sB_eq, sS_eq, sN_eq]))
    all_goals try (rename_i hh; exact absurd hm hh)
    all_goals try (rename_i hh; rw [hm] at hh; cases hh; done)
    all_goals (unfold fareT moneyT; rw [if_pos hm, if_pos hn]; rfl)
  · have hex : ¬ moneyB n = true := hm
    (conv => whnf)
    (repeat' ((first
      | (exact absurd (by with_reducible assumption) hex)
      | ((with_reducible refine And.intro ?_ ?_); focus (with_reducible exact True.intro))
      | (split <;> rename_i hh <;> (try simp only [ble_true, ble_false, beq_true, beq_false, sI_eq, sB_eq, sS_eq, sN_eq, ltI_eq, leI_eq, eqI_eq, decide_eq_true_eq, decide_eq_false_iff_not, beq_iff_eq, bne_iff_ne, ne_eq, beq_eq_false_iff_ne, bne_eq_false_iff_eq, Bool.not_eq_true, Bool.not_eq_false, Int.not_lt, Int.not_le, gt_iff_lt, ge_iff_le, Nat.not_lt, Nat.not_le, Decidable.not_not, Bool.not_eq_eq_eq_not, Bool.not_true, Bool.not_false, cond_true, cond_false, Bool.or_eq_true, Bool.and_eq_true, Bool.or_eq_false_iff, Bool.and_eq_false_iff] at hh) <;> (try simp (disch := omega) only [Int.tdiv_eq_ediv_of_nonneg, Int.tmod_eq_emod_of_nonneg] at hh))
      | fail) <;> (conv => whnf)))
    all_goals (try (show _ = _; simp only [sI_eq, sB_eq, sS_eq, sN_eq]))
    unfold fareT; rw [if_neg hm]
theorem PC.split {F : Nat → Obj → Prop} {P : Program} {i : FuncId} {f f1 f2 : List AV → Option (Prop × AV)} (h1 : GoodP F P i (PC.fun f1)) (h2 : GoodP F P i (PC.fun f2))
    (h : ∀ cs p r, f cs = some (p, r) → p → (∃ p1, f1 cs = some (p1, r) ∧ p1) ∨ (∃ p2, f2 cs = some (p2, r) ∧ p2)) : GoodP F P i (PC.fun f) := by
  intro S w cs vs Q hs hv hT
  simp only [PC.fun] at hT
  cases hf : f cs with
  | none => rw [hf] at hT; exact hT.elim
  | some pr =>
    obtain ⟨p, r⟩ := pr
    rw [hf] at hT
    rcases h cs p r hf hT.1 with ⟨p1, hc, hp⟩ | ⟨p1, hc, hp⟩
    · refine h1 S w cs vs Q hs hv ?_
      simp only [PC.fun]; rw [hc]; exact ⟨hp, hT.2⟩
    · refine h2 S w cs vs Q hs hv ?_
      simp only [PC.fun]; rw [hc]; exact ⟨hp, hT.2⟩
def pcFareT : PC := PC.fun fun | [.int .i64 n] => some (True, .str (sS (fareT n))) | _ => none
theorem g_fareT {W : World} (hW : Tabs W) : GoodP (Fw W) Tryz.prog 132 pcFareT := by
  refine PC.split (g_fareT0 hW) (g_fareT1 hW) fun cs p r h hp => ?_
  split at h
  · rename_i n
    cases h
    by_cases hc : 0 ≤ n ∧ moneyB n = true
    · refine .inl ⟨_, ?_, hc⟩
      have : fareT n = centsT n := by unfold fareT moneyT; rw [if_pos hc.2, if_neg (by omega)]
      rw [this]
    · exact .inr ⟨_, rfl, by
        by_cases h1 : n < 0
        · exact .inl h1
        · exact .inr (Bool.eq_false_iff.2 fun h2 => hc ⟨by omega, h2⟩)⟩
  · cases h
end
end Go.Vc.Z
