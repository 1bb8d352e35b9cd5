/- make and append. -/
import Derived.Test.YtpmpclbdnakniaaGreatDoorV1
import Derived.WalkSpells
import Derived.Laws.BytesString
import Derived.Laws.Cover4
import Derived.Lib.OthersKept
set_option linter.all false
set_option linter.unusedVariables false
set_option linter.unusedSimpArgs false
namespace Go.Vc
open Go
section
variable {P : Program} {TY : TypeId → Option TI} {ρ : Nat → Option Nat} {S : Nat → Prop} {w : World}
theorem ext_drew (ρ : Nat → Option Nat) (S : Nat → Prop) (w : World) : Ext ρ S w ρ S w.drew :=
 ⟨fun _ _ h => h, fun _ h => h, fun _ _ _ => rfl, Nat.le_refl _, fun _ arr _ fr h => ⟨arr, fr, h, rfl⟩, fun _ _ h => .inl ⟨_, h⟩, fun _ h => .inl h, rfl, rfl, rfl⟩
theorem hrel_drew {H : List Blk} (h : HRel ρ S w H) : HRel ρ S w.drew H :=
 ⟨h.inj, fun i b hi => (h.blk i b hi).keep (ext_drew ρ S w) fun b' hb' => ⟨hb', rfl, fun h => h⟩, h.out⟩
theorem VOk.drew {s : Sem Value} {N : AV → List Blk → Prop} {v : Value} {w' : World} {c : AV} {H' : List Blk} {ρ' : Nat → Option Nat} (h : s.run P w = .ok v w') (hN : N c H') (hv : V ρ' S w' c v) (hH : HRel ρ' S w' H')
  (hE : Ext ρ S w.drew ρ' S w') : VOk P ρ S w s N := ⟨v, w', c, H', ρ', h, hN, hv, hH, (ext_drew ρ S w).trans hE⟩
def makeSliceA (TY : TypeId → Option TI) (t : TypeId) (l c : AV) (H : List Blk) (N : AV → List Blk → Prop) : Prop :=
 match TY t, l, c with
 | some i, .int _ l, .int _ c => match i.kind with
  | .slice e => match TY e with
   | some ei => match ei.zero with
    | some z => if z.isAny = false ∧ z.cells.length = ei.size then
      (0 ≤ l ∧ l ≤ c ∧ (ei.bytes : Int) * c ≤ 281474976710656 ∧ c ≤ 9223372036854775807) ∧ N (.osl H.length ei.size 0 l.toNat (some c.toNat)) (H ++ [.row ei.size c.toNat (fun _ => z.cells)]) else False
    | none => False
   | none => False
  | _ => False
 | _, _, _ => False
theorem makeSliceA_sound (hTY : TyOk P TY) (hns : ∀ b, S b → b < w.heap.size) {H : List Blk} (hH : HRel ρ S w H) {t : TypeId} {x y : AV} {v u : Value} {N : AV → List Blk → Prop} (hx : V ρ S w x v) (hy : V ρ S w y u)
  (h : makeSliceA TY t x y H N) : VOk P ρ S w (Instr.makeSlice t v u) N := by
 unfold makeSliceA at h
 split at h
 ·rename_i i kl l kc c hi
  obtain ⟨rfl, _⟩ := hx.intR
  obtain ⟨rfl, _⟩ := hy.intR
  obtain ⟨info, d, h1, h2, _, _, _, h6, _, _⟩ := hTY.get hi
  obtain ⟨_, _, _, ks, _⟩ := kind_desc h6
  split at h
  ·rename_i e hk
   obtain rfl := ks _ hk
   split at h
   ·rename_i ei hei
    split at h
    ·rename_i z hz
     split at h
     ·rename_i hcond
      obtain ⟨⟨h0, hlc, hby, h63⟩, hN⟩ := h
      obtain ⟨einfo, _, g1, _, g3, g4, _, _, g7, _⟩ := hTY.get hei
      rw [hz] at g7
      cases hzi : einfo.zero with
      | none => rw [hzi] at g7; cases g7
      | some zv =>
       rw [hzi] at g7
       simp only [Option.map_some, Option.some.injEq] at g7
       have hr := run_make (P := P) w t e einfo zv h2 g1 hzi kl kc l c h0 hlc (by rw [g4]; exact hby) h63
       rw [g3] at hr
       have hsz : (madeCells zv.cells (c.toNat * ei.size)).size = c.toNat * ei.size := size_madeCells _ _
       refine VOk.new hH hr hN ?_ (brel_newrow hH hns (by omega) (erel_zero g7.symm (AV.ne_any hcond.1) hcond.2) e rfl)
       exact .osl _ _ _ _ _ _ _ _ (newρ_at _ _) (by omega) (by rw [maxLen_eq]; omega) (fun _ => by simp) ⟨_, e, (0, 0), heap_alloc_at w _, by rw [Nat.zero_add]; omega⟩ (fun c' hc' => by cases hc'; rfl)
     ·exact h.elim
    ·exact h.elim
   ·exact h.elim
  ·exact h.elim
 ·exact h.elim
def catRow (n : Nat) (g s : Nat → List AV) : Nat → List AV := fun e => if e < n then g e else s (e - n)
def rowVals (f : Nat → Nat → Value) (m sz : Nat) : List Value := (List.range (m * sz)).map fun k => f (k / sz) (k % sz)
theorem rowVals_length (f : Nat → Nat → Value) (m sz : Nat) : (rowVals f m sz).length = m * sz := by simp [rowVals]
theorem rowVals_get {f : Nat → Nat → Value} {m sz e j : Nat} (he : e < m) (hj : j < sz) : (rowVals f m sz)[e * sz + j]? = some (f e j) := by
 have hlt := row_in he hj
 have hd : (e * sz + j) / sz = e := by
  rw [Nat.mul_comm, Nat.mul_add_div (by omega), Nat.div_eq_of_lt hj]; omega
 have hm : (e * sz + j) % sz = j := by rw [Nat.add_comm, Nat.add_mul_mod_self_right, Nat.mod_eq_of_lt hj]
 simp only [rowVals, List.getElem?_map]
 rw [List.getElem?_range hlt]
 simp [hd, hm]
theorem rowVals_of {f : Nat → Nat → Value} {m sz k : Nat} {v : Value} (h : (rowVals f m sz)[k]? = some v) : ∃ e j, e < m ∧ j < sz ∧ k = e * sz + j ∧ v = f e j := by
 have hk : k < m * sz := by
  rcases Nat.lt_or_ge k (m * sz) with h' | h'
  ·exact h'
  ·rw [List.getElem?_eq_none (by rw [rowVals_length]; exact h')] at h; cases h
 have hsz : 0 < sz := by
  rcases Nat.eq_zero_or_pos sz with h0 | h0
  ·subst h0; simp at hk
  ·exact h0
 refine ⟨k / sz, k % sz, ?_, Nat.mod_lt _ hsz, ?_, ?_⟩
 ·rw [Nat.div_lt_iff_lt_mul hsz]; exact hk
 ·have := Nat.div_add_mod k sz; rw [Nat.mul_comm] at this; exact this.symm
 ·simp only [rowVals, List.getElem?_map] at h
  rw [List.getElem?_range hk] at h
  simpa using h.symm
theorem RowIs.vals {sz m : Nat} {src : Nat → List AV} {ao : Option Addr} (h : RowIs ρ S w sz m src ao) (hm : 0 < m) :
  ∃ (a : Addr) (f : Nat → Nat → Value), ao = some a ∧ (∀ (j : Nat) v, (rowVals f m sz)[j]? = some v → w.cell? (a.add j) = some v) ∧ (∀ (e j : Nat) (c : AV), e < m → (src e)[j]? = some c → V ρ S w c (f e j)) := by
 cases ao with
 | none => have := h.nil rfl; omega
 | some a =>
  obtain ⟨hsp, f, hf⟩ := h.at_ a rfl
  obtain ⟨b, o, sp⟩ := a
  simp only at hsp hf
  obtain rfl := hsp hm
  refine ⟨_, f, rfl, fun k v hv => ?_, fun e j c he hc => ?_⟩
  ·obtain ⟨e, j, he, hj, rfl, rfl⟩ := rowVals_of hv
   rw [addr_add, ← Nat.add_assoc]
   exact (hf e j he hj).1
  ·have hj : j < sz := by
    rcases Nat.lt_or_ge j sz with h' | h'
    ·exact h'
    ·rw [List.getElem?_eq_none (by rw [h.size e he]; exact h')] at hc; cases hc
   exact (hf e j he hj).2 c hc
theorem erel_cat {sz n m : Nat} {g s : Nat → List AV} {fg fs : Nat → Nat → Value} (hg : ∀ e, e < n → (g e).length = sz) (hs : ∀ e, e < m → (s e).length = sz)
  (vg : ∀ (e j : Nat) (c : AV), e < n → (g e)[j]? = some c → V ρ S w c (fg e j)) (vs : ∀ (e j : Nat) (c : AV), e < m → (s e)[j]? = some c → V ρ S w c (fs e j)) (z : Array Value) :
  ERel ρ S w sz (n + m) (catRow n g s) ((rowVals fg n sz).toArray ++ (rowVals fs m sz).toArray ++ z) := by
 have hl : ∀ e, e < n + m → (catRow n g s e).length = sz := fun e he => by
  unfold catRow; split
  ·exact hg _ (by assumption)
  ·exact hs _ (by omega)
 refine ⟨hl, fun e j c v he hc hv => ?_⟩
 have hj : j < sz := by
  rcases Nat.lt_or_ge j sz with h' | h'
  ·exact h'
  ·rw [List.getElem?_eq_none (by rw [hl e he]; exact h')] at hc; cases hc
 have hin := row_in he hj
 rw [Nat.add_mul] at hin
 rw [Array.getElem?_append_left (by simp [rowVals_length]; exact hin)] at hv
 unfold catRow at hc
 split at hc
 ·rename_i hen
  have h1 := row_in hen hj
  rw [Array.getElem?_append_left (by simp [rowVals_length]; exact h1)] at hv
  simp only [List.getElem?_toArray, rowVals_get hen hj, Option.some.injEq] at hv
  subst hv
  exact vg _ _ _ hen hc
 ·rename_i hen
  have hge : n * sz ≤ e * sz := Nat.mul_le_mul_right _ (by omega)
  rw [Array.getElem?_append_right (by simp [rowVals_length]; omega)] at hv
  have heq : e * sz + j - (rowVals fg n sz).toArray.size = (e - n) * sz + j := by
   simp only [List.size_toArray, rowVals_length, Nat.sub_mul]; omega
  rw [heq] at hv
  simp only [List.getElem?_toArray, rowVals_get (show e - n < m by omega) hj, Option.some.injEq] at hv
  subst hv
  exact vs _ _ _ (by omega) hc
def growOk (ei : TI) (n : Nat) : Prop := n * ei.bytes ≤ 140737488355328 ∧ n ≤ 9223372036854775807
def appT (T : Option Nat) (E : Nat) : Option Nat := match T with
 | some t => (match Nat.beq t E with | true => some t | false => none)
 | none => none
theorem appT_new (T : Option Nat) (E : Nat) : tyOr (appT T E) E = E := by
 unfold appT
 cases T with
 | none => rfl
 | some t =>
  simp only
  cases h : Nat.beq t E with
  | false => rfl
  | true => exact Nat.eq_of_beq_eq_true h
theorem appT_old (T : Option Nat) (E x : Nat) : tyOr (appT T E) (tyOr T x) = tyOr T x := by
 unfold appT
 cases T with
 | none => rfl
 | some t =>
  simp only
  cases h : Nat.beq t E <;> rfl
def appRow (E : Nat) (ei : TI) (s : AV) (m : Nat) (src : Nat → List AV) (H : List Blk) (N : AV → List Blk → Prop) : Prop :=
 match s with
 | .nilsl => if m = 0 then N .nilsl H else growOk ei m ∧ N (.osl H.length ei.size 0 m none) (H ++ [.row ei.size m src (some E)])
 | .sl true sz len get => if sz = ei.size then
   (if m = 0 then N (.sl true sz len get) H else growOk ei (len + m) ∧ N (.osl H.length ei.size 0 (len + m) none) (H ++ [.row ei.size (len + m) (catRow len get src)])) else False
 | .osl id sz off len (some c) => match H[id]? with
  | some (.row sz' L get T) => if sz = ei.size ∧ sz' = ei.size then
    (if len + m ≤ c then (off + (len + m) ≤ L ∧ ∀ e, e < m → (src e).all AV.one = true) ∧
      N (.osl id sz off (len + m) (some c)) (H.set id (.row sz L (fun e => if off + len ≤ e ∧ e < off + len + m then src (e - (off + len)) else get e) T))
     else (off + len ≤ L ∧ growOk ei (len + m)) ∧ N (.osl H.length sz 0 (len + m) none) (H ++ [.row sz (len + m) (catRow len (fun e => get (off + e)) src)])) else False
  | _ => False
 | .osl id sz 0 len none => match H[id]? with
  | some (.row sz' L get T) => if sz = ei.size ∧ sz' = ei.size then
    (len ≤ L ∧ growOk ei (len + m) ∧ ∀ e, e < m → (src e).all AV.one = true) ∧ N (.osl H.length sz 0 (len + m) none) (H.set id .dead ++ [.row sz (len + m) (catRow len get src) (appT T E)]) else False
  | _ => False
 | _ => False
def appRowB (E : Nat) (ei : TI) (s : AV) (m : Nat) (src : Nat → List AV) (H : List Blk) (N : AV → List Blk → Prop) : Prop :=
 match s with
 | .nilsl => (match Nat.beq m 0 with | true => N .nilsl H | false => growOk ei m ∧ N (.osl H.length ei.size 0 m none) (H ++ [.row ei.size m src (some E)]))
 | .sl true sz len get => if sz = ei.size then
   (match Nat.beq m 0 with | true => N (.sl true sz len get) H | false => growOk ei (len + m) ∧ N (.osl H.length ei.size 0 (len + m) none) (H ++ [.row ei.size (len + m) (catRow len get src)])) else False
 | .osl id sz off len (some c) => match H[id]? with
  | some (.row sz' L get T) => if sz = ei.size ∧ sz' = ei.size then
    (match Nat.ble (len + m) c with
     | true => (off + (len + m) ≤ L ∧ ∀ e, e < m → (src e).all AV.one = true) ∧
      N (.osl id sz off (len + m) (some c)) (H.set id (.row sz L (fun e => if off + len ≤ e ∧ e < off + len + m then src (e - (off + len)) else get e) T))
     | false => (off + len ≤ L ∧ growOk ei (len + m)) ∧ N (.osl H.length sz 0 (len + m) none) (H ++ [.row sz (len + m) (catRow len (fun e => get (off + e)) src)])) else False
  | _ => False
 | s => appRow E ei s m src H N
theorem appRowB_imp {E : Nat} {ei : TI} {s : AV} {m : Nat} {src : Nat → List AV} {H : List Blk} {N : AV → List Blk → Prop} (h : appRowB E ei s m src H N) : appRow E ei s m src H N := by
 have e0 : ∀ m : Nat, Nat.beq m 0 = true ↔ m = 0 := fun m => by rw [Nat.beq_eq]
 unfold appRowB at h
 unfold appRow
 split at h
 ·split at h
  ·rename_i hb; rw [e0] at hb; rw [if_pos hb]; exact h
  ·rename_i hb; rw [if_neg (fun hc => by rw [(e0 m).2 hc] at hb; cases hb)]; exact h
 ·split at h
  ·rename_i hs
   simp only
   rw [if_pos hs]
   split at h
   ·rename_i hb; rw [e0] at hb; rw [if_pos hb]; exact h
   ·rename_i hb; rw [if_neg (fun hc => by rw [(e0 m).2 hc] at hb; cases hb)]; exact h
  ·exact h.elim
 ·split at h
  ·rename_i hid
   split at h
   ·rename_i hs
    simp only [hid]
    rw [if_pos hs]
    split at h
    ·rename_i hb; rw [if_pos (Nat.le_of_ble_eq_true hb)]; exact h
    ·rename_i hb; rw [if_neg (fun hc => by rw [Nat.ble_eq_true_of_le hc] at hb; cases hb)]; exact h
   ·exact h.elim
  ·exact h.elim
 ·exact h
def appendA (TY : TypeId → Option TI) (t : TypeId) (s x : AV) (H : List Blk) (N : AV → List Blk → Prop) : Prop :=
 match TY t with
 | none => False
 | some i => match i.kind with
  | .slice e => match TY e with
   | some ei => match ei.zero with
    | some z => if z.isAny = false ∧ z.cells.length = ei.size ∧ ei.size ≠ 0 then
      rowE H x fun sz m src => if sz = ei.size then appRowB e ei s m src H N else False
     else False
    | none => False
   | none => False
  | _ => False
theorem hrel_move {w' : World} {H : List Blk} (h : HRel ρ S w H) {id b : Nat} {old new : Blk} (hid : H[id]? = some old) (hlive : old.live = true) (hr : ρ id = some b) (hE : Ext ρ S w (newρ ρ H.length b) S w')
  (hsz : w'.heap.size = w.heap.size) (hoth : ∀ k, k ≠ b → w'.heap[k]? = w.heap[k]?) (hnew : BRel (newρ ρ H.length b) S w' H.length new) : HRel (newρ ρ H.length b) S w' (H.set id .dead ++ [new]) := {
 inj i j bi bj c hi hj li lj ri rj := by
  have key : ∀ (i : Nat) (bi : Blk) (c : Nat), (H.set id .dead ++ [new])[i]? = some bi → bi.live = true → newρ ρ H.length b i = some c → (i = H.length ∧ c = b) ∨ (H[i]? = some bi ∧ ρ i = some c ∧ c ≠ b) := by
   intro i0 b0 c0 hi0 li0 ri0
   unfold newρ at ri0
   split at ri0
   ·cases ri0; exact .inl ⟨by assumption, rfl⟩
   ·rename_i hne
    have hlt := (h.out i0 c0 ri0).1
    rw [List.getElem?_append_left (by simpa using hlt), List.getElem?_set] at hi0
    split at hi0
    ·split at hi0
     ·cases hi0; cases li0
     ·cases hi0
    ·rename_i hidi
     refine .inr ⟨hi0, ri0, fun hcb => hidi ?_⟩
     rw [hcb] at ri0
     exact h.inj id i0 old b0 b hid hi0 hlive li0 hr ri0
  rcases key i bi c hi li ri with ⟨rfl, rfl⟩ | ⟨h1, h2, h3⟩ <;> rcases key j bj _ hj lj rj with ⟨rfl, h4⟩ | ⟨h5, h6, h7⟩
  ·rfl
  ·exact absurd rfl h7
  ·exact absurd h4 h3
  ·exact h.inj i j bi bj c h1 h5 li lj h2 h6
 blk i bi hi := by
  by_cases hlt : i < H.length
  ·rw [List.getElem?_append_left (by simpa using hlt), List.getElem?_set] at hi
   split at hi
   ·split at hi
    ·cases hi; trivial
    ·cases hi
   ·rename_i hidi
    by_cases hl : bi.live = true
    ·refine (h.blk i bi hi).keep hE fun b' hb' => ?_
     unfold newρ at hb'
     rw [if_neg (by omega)] at hb'
     refine ⟨hb', hoth b' ?_, fun h => h⟩
     rintro rfl
     exact hidi (h.inj id i old bi b' hid hi hlive hl hr hb')
    ·cases bi <;> simp [Blk.live] at hl
     trivial
  ·rw [List.getElem?_append_right (by simpa using hlt)] at hi
   have : i = H.length := by
    rcases Nat.eq_or_lt_of_le (Nat.le_of_not_lt hlt) with h1 | h1
    ·exact h1.symm
    ·rw [List.getElem?_eq_none (by simp; omega)] at hi; cases hi
   subst this
   simp at hi
   subst hi
   exact hnew
 out i c hi := by
  unfold newρ at hi
  simp only [List.length_append, List.length_set, List.length_singleton]
  split at hi
  ·cases hi
   have := (h.out id _ hr).2
   omega
  ·have := h.out i c hi; omega }
theorem VOk.newDrew (hns : ∀ b, S b → b < w.heap.size) {s : Sem Value} {N : AV → List Blk → Prop} {H : List Blk} (hH : HRel ρ S w H) {sz n cp : Nat} {get : Nat → List AV} {arr : Array Value} {T : TypeId} {T1 : Option Nat} (hT : tyOr T1 T = T)
  (h : s.run P w = .ok (.slice (some ⟨w.heap.size, 0, none⟩) n cp) (w.drew.alloc (.cells arr T))) (hN : N (.osl H.length sz 0 n none) (H ++ [.row sz n get T1]))
  (hle : n ≤ cp) (hm : cp ≤ maxLen) (hs : cp * sz ≤ arr.size) (hE : ERel ρ S w sz n get arr) : VOk P ρ S w s N := by
 have hH' := hrel_drew hH
 have hE' : ERel ρ S w.drew sz n get arr := ⟨hE.1, fun e j c v he hc hv => (hE.2 e j c v he hc hv).mono (ext_drew ρ S w)⟩
 have hns' : n * sz ≤ arr.size := Nat.le_trans (Nat.mul_le_mul_right _ hle) hs
 refine VOk.drew (c := .osl H.length sz 0 n none) h hN ?_ (hrel_alloc hH' _ (brel_newrow hH' hns hns' hE' T hT)) (ext_alloc hH' _)
 exact .osl _ _ _ _ _ _ _ _ (newρ_at _ _) hle hm (fun _ => by simp) ⟨_, T, (0, 0), heap_alloc_at w.drew _, by rw [Nat.zero_add]; exact hs⟩ (fun c hc => by cases hc)
theorem size_cat {sz n m cp : Nat} {fg fs : Nat → Nat → Value} {z : Array Value} (hz : z.size = sz) (hle : n + m ≤ cp) :
  cp * sz ≤ ((rowVals fg n sz).toArray ++ (rowVals fs m sz).toArray ++ Builtin.zeroCells z (cp - (n + m))).size := by
 simp only [Array.size_append, List.size_toArray, rowVals_length, size_zeroCells, hz]
 rw [← Nat.add_mul, ← Nat.add_mul]
 exact Nat.mul_le_mul_right _ (by omega)
theorem V.oslR {id sz off len : Nat} {cap : Option Nat} {v : Value} (h : V ρ S w (.osl id sz off len cap) v) : ∃ b o cp, v = .slice (some ⟨b, o, none⟩) len cp ∧ ρ id = some b ∧ len ≤ cp ∧ cp ≤ maxLen ∧ (0 < cp → o = off * sz) ∧
  (∃ arr T fr, w.heap[b]? = some (.cells arr T fr) ∧ (off + cp) * sz ≤ arr.size) ∧ (∀ c, cap = some c → cp = c) := by
 cases h with | osl _ _ _ _ _ b o cp h1 h2 h3 h4 h5 h6 => exact ⟨b, o, cp, rfl, h1, h2, h3, h4, h5, h6⟩
theorem run_append_none {t ty e : TypeId} {i : TypeInfo} (ht : P.underlying t = some (.slice e)) (hi : P.info? e = some i) (b : Option Addr) (len cap c : Nat) (a : Option Addr) (hlc : len ≤ cap) :
  (Builtin.append_ #[t, t] ty #[.slice b len cap, .slice a 0 c]).run P w = .ok (.slice b len cap) w := by
 have hf : (Builtin.firstCells i.size 0 (.slice a 0 c)).run P w = .ok #[] w := by
  cases a <;> simp [Builtin.firstCells, loadCells, loadCellsFrom]
 cases b with
 | none => simp [Builtin.append_, run_underlying ht, sizeOf, typeInfo, hi, Builtin.lenOf, hlc, hf]
 | some b => simp [Builtin.append_, run_underlying ht, sizeOf, typeInfo, hi, Builtin.lenOf, hlc, hf, storeCells]
end
end Go.Vc
namespace Go.Vc
open Go
section
variable {P : Program} {TY : TypeId → Option TI} {ρ : Nat → Option Nat} {S : Nat → Prop} {w : World}
theorem erel_one {sz m : Nat} {s : Nat → List AV} {fs : Nat → Nat → Value} (hs : ∀ e, e < m → (s e).length = sz) (vs : ∀ (e j : Nat) (c : AV), e < m → (s e)[j]? = some c → V ρ S w c (fs e j)) (z : Array Value) :
  ERel ρ S w sz m s ((rowVals fs m sz).toArray ++ z) := by
 have := erel_cat (n := 0) (g := s) (fg := fs) (fun e he => absurd he (Nat.not_lt_zero _)) hs (fun e j c he => absurd he (Nat.not_lt_zero _)) vs z
 have e1 : catRow 0 s s = s := funext fun e => by simp [catRow]
 have e2 : (rowVals fs 0 sz).toArray = #[] := by simp [rowVals]
 rw [e1, e2, Nat.zero_add, Array.empty_append] at this
 exact this
theorem rowVals_one {sz m : Nat} {s : Nat → List AV} {fs : Nat → Nat → Value} (hs : ∀ e, e < m → (s e).length = sz) (vs : ∀ (e j : Nat) (c : AV), e < m → (s e)[j]? = some c → V ρ S w c (fs e j))
  (h1 : ∀ e, e < m → (s e).all AV.one = true) : ∀ u ∈ rowVals fs m sz, u.oneCell' = true := by
 intro u hu
 obtain ⟨k, hk, rfl⟩ := List.getElem_of_mem hu
 obtain ⟨e, j, he, hj, _, heq⟩ := rowVals_of (List.getElem?_eq_getElem hk)
 rw [heq]
 have hj' : j < (s e).length := by rw [hs e he]; exact hj
 exact oneCell_of_V (vs e j _ he (List.getElem?_eq_getElem hj')) (List.all_eq_true.1 (h1 e he) _ (List.getElem_mem hj'))
theorem own_vals {H : List Blk} (hH : HRel ρ S w H) {id b sz L : Nat} {get : Nat → List AV} {T0 : Option Nat} (hid : H[id]? = some (.row sz L get T0)) (hb : ρ id = some b) :
  ∃ arr T fr, w.heap[b]? = some (.cells arr (tyOr T0 T) fr) ∧ ¬ S b ∧ L * sz ≤ arr.size ∧ (∀ o, o < arr.size → w.frozen? ⟨b, o, none⟩ = false) ∧ (∀ e, e < L → (get e).length = sz) ∧
   (∀ (e j : Nat) (c : AV), e < L → (get e)[j]? = some c → V ρ S w c (arr.getD (e * sz + j) undef)) ∧ (∀ e j, e < L → j < sz → w.cell? ⟨b, e * sz + j, none⟩ = some (arr.getD (e * sz + j) undef)) := by
 obtain ⟨hns, arr, T, fr, h1, h2, h3, h4, h5⟩ := hH.blk id _ hid b hb
 refine ⟨arr, T, fr, h1, hns, h2, h3, h4, fun e j c he hc => ?_, fun e j he hj => ?_⟩
 ·have hj : j < sz := by
   rcases Nat.lt_or_ge j sz with h' | h'
   ·exact h'
   ·rw [List.getElem?_eq_none (by rw [h4 e he]; exact h')] at hc; cases hc
  have := row_in he hj
  exact h5 e j c _ he hc (by rw [Array.getD_eq_getD_getElem?, Array.getElem?_eq_getElem (show e * sz + j < arr.size by omega)]; rfl)
 ·have := row_in he hj
  simp only [World.cell?, h1]
  rw [Array.getD_eq_getD_getElem?, Array.getElem?_eq_getElem (show e * sz + j < arr.size by omega)]
  rfl
theorem setRow_brel {ρ' : Nat → Option Nat} {H : List Blk} {sz L n m : Nat} {get src : Nat → List AV} {b : Nat} {arr : Array Value} {T : TypeId} {T1 : Option Nat} {fr : Nat × Nat} {f : Nat → Nat → Value} {nid : Nat}
  (hE : Ext ρ S w ρ' S (w.setCells b (n * sz) (rowVals f m sz))) (hb : ∀ b', ρ' nid = some b' → b' = b) (h1 : w.heap[b]? = some (.cells arr (tyOr T1 T) fr)) (hns : ¬ S b) (hL : L * sz ≤ arr.size) (hfr : ∀ o, o < arr.size → w.frozen? ⟨b, o, none⟩ = false)
  (hin : n * sz + m * sz ≤ arr.size)
  (get' : Nat → List AV) (L' : Nat) (hL' : L' * sz ≤ arr.size) (hz : ∀ e, e < L' → (get' e).length = sz)
  (hold : ∀ (e j : Nat) (c : AV), e < L' → (e < n ∨ n + m ≤ e) → (get' e)[j]? = some c → V ρ S w c (arr.getD (e * sz + j) undef))
  (hnew : ∀ (e j : Nat) (c : AV), e < m → n + e < L' → (get' (n + e))[j]? = some c → V ρ S w c (f e j)) :
  BRel ρ' S (w.setCells b (n * sz) (rowVals f m sz)) nid (.row sz L' get' T1) := by
 intro b' hb'
 obtain rfl := hb b' hb'
 have hvl : n * sz + (rowVals f m sz).length ≤ arr.size := by rw [rowVals_length]; exact hin
 refine ⟨hns, _, T, fr, setCells_heap _ _ _ _ _ _ _ h1, by rw [spl_size]; exact hL', fun o ho => ?_, hz, fun e j c v he hc hv => ?_⟩
 ·rw [spl_size] at ho
  rw [World.frozen?_setCells]; exact hfr o ho
 ·have hj : j < sz := by
   rcases Nat.lt_or_ge j sz with h' | h'
   ·exact h'
   ·rw [List.getElem?_eq_none (by rw [hz e he]; exact h')] at hc; cases hc
  rw [spl_get _ _ _ _ hvl, rowVals_length] at hv
  have hsz : 0 < sz := by omega
  by_cases h2 : n ≤ e ∧ e < n + m
  ·have g1 : n * sz ≤ e * sz := Nat.mul_le_mul_right _ h2.1
   have g2 := row_in h2.2 hj
   rw [Nat.add_mul] at g2
   rw [if_pos (by omega)] at hv
   have heq : e * sz + j - n * sz = (e - n) * sz + j := by rw [Nat.sub_mul]; omega
   rw [heq, rowVals_get (by omega) hj] at hv
   cases hv
   have := hnew (e - n) j c (by omega) (by omega) (by rw [show n + (e - n) = e by omega]; exact hc)
   exact this.mono hE
  ·have hcase : e < n ∨ n + m ≤ e := by omega
   rw [if_neg ?_] at hv
   ·have := hold e j c he hcase hc
    rw [Array.getD_eq_getD_getElem?, hv] at this
    exact this.mono hE
   ·rintro ⟨g1, g2⟩
    rcases hcase with h3 | h3
    ·have := row_in h3 hj; omega
    ·have : (n + m) * sz ≤ e * sz := Nat.mul_le_mul_right _ h3
     rw [Nat.add_mul] at this; omega
theorem appRow_sound (hTY : TyOk P TY) (hns : ∀ b, S b → b < w.heap.size) {H : List Blk} (hH : HRel ρ S w H) {t ty e : TypeId} {ei : TI} {z : AV} {s : AV} {vs : Value} {m : Nat} {src : Nat → List AV} {ao : Option Addr} {cx : Nat} {N : AV → List Blk → Prop}
  (ht : P.underlying t = some (.slice e)) (hei : TY e = some ei) (hz : ei.zero = some z) (hzn : z.isAny = false) (hzl : z.cells.length = ei.size) (hsz0 : ei.size ≠ 0)
  (hs : V ρ S w s vs) (hrow : RowIs ρ S w ei.size m src ao) (h : appRow e ei s m src H N) :
  VOk P ρ S w (Builtin.append_ #[t, t] ty #[vs, .slice ao m cx]) N := by
 obtain ⟨info, d, hi, _, hsize, hbytes, _, _, hzz, _⟩ := hTY.get hei
 rw [hz] at hzz
 cases hzi : info.zero with
 | none => rw [hzi] at hzz; cases hzz
 | some zv =>
 rw [hzi] at hzz
 simp only [Option.map_some, Option.some.injEq] at hzz
 have hzc : zv.cells.size = ei.size := by
  have := (crel_zero (ρ := ρ) (S := S) (w := w) hzz.symm (AV.ne_any hzn)).1; omega
 have none_run : ∀ (b : Option Addr) (len cap : Nat), len ≤ cap → m = 0 → (Builtin.append_ #[t, t] ty #[.slice b len cap, .slice ao m cx]).run P w = .ok (.slice b len cap) w := fun b len cap hlc hm => by
  subst hm; exact run_append_none ht hi b len cap cx ao hlc
 -- a new row behind nothing
 have grow_nil : ∀ (T1 : Option Nat), tyOr T1 e = e → 0 < m → growOk ei m → N (.osl H.length ei.size 0 m none) (H ++ [.row ei.size m src T1]) → VOk P ρ S w (Builtin.append_ #[t, t] ty #[.slice none 0 0, .slice ao m cx]) N := fun T1 hT1 hm hg hN => by
  obtain ⟨a, f, rfl, hcell, hval⟩ := hrow.vals hm
  have hr := run_append_nil (P := P) w t ty e info zv ht hi hzi a m cx (rowVals f m ei.size) (by rw [rowVals_length, hsize]) hcell hm (by have := hg.2; omega) (by rw [hbytes]; have := hg.1; omega)
  have hge := grownCap_ge w m 0 e
  refine VOk.newDrew hns hH hT1 hr hN hge (grownCap_le_maxLen w m 0 e (by rw [maxLen_eq]; exact hg.2)) ?_ (erel_one hrow.size hval _)
  simp only [Array.size_append, List.size_toArray, rowVals_length, size_zeroCells, hzc, ← Nat.add_mul]
  exact Nat.mul_le_mul_right _ (by omega)
 -- a new row behind some
 have grow_some : ∀ (T1 : Option Nat), tyOr T1 e = e → ∀ (H2 : List Blk), HRel ρ S w H2 → ∀ (b : Addr) (len cap : Nat) (get : Nat → List AV) (fg : Nat → Nat → Value), 0 < m → cap < len + m → growOk ei (len + m) →
   (∀ e, e < len → (get e).length = ei.size) → (∀ (e j : Nat) (c : AV), e < len → (get e)[j]? = some c → V ρ S w c (fg e j)) →
   (∀ (k : Nat) v, (rowVals fg len ei.size)[k]? = some v → w.cell? (b.add k) = some v) → N (.osl H2.length ei.size 0 (len + m) none) (H2 ++ [.row ei.size (len + m) (catRow len get src) T1]) →
   VOk P ρ S w (Builtin.append_ #[t, t] ty #[.slice (some b) len cap, .slice ao m cx]) N := fun T1 hT1 H2 hH2 b len cap get fg hm hgt hg hz1 hv1 hc1 hN => by
  obtain ⟨a, f, rfl, hcell, hval⟩ := hrow.vals hm
  have hr := run_append_grow (P := P) w t ty e info zv ht hi hzi b len cap (rowVals fg len ei.size) (by rw [rowVals_length, hsize]) hc1 a m cx (rowVals f m ei.size) (by rw [rowVals_length, hsize]) hcell hgt
   (by have := hg.2; omega) (growslice_fits hgt (by rw [hbytes]; exact hg.1))
  have hge := grownCap_ge w (len + m) cap e
  exact VOk.newDrew hns hH2 hT1 hr hN hge (grownCap_le_maxLen w (len + m) cap e (by rw [maxLen_eq]; exact hg.2)) (size_cat hzc hge) (erel_cat hz1 hrow.size hv1 hval _)
 unfold appRow at h
 split at h
 ·-- nil
  cases hs
  split at h
  ·rename_i hm
   exact VOk.same hH (none_run none 0 0 (Nat.le_refl _) hm) h .nilsl
  ·rename_i hm
   exact grow_nil (some e) rfl (by omega) h.1 h.2
 ·-- clipped
  rename_i sz len get
  split at h
  ·rename_i hsz
   subst hsz
   split at h
   ·rename_i hm
    cases hs with
    | sln _ _ _ bo => exact VOk.same hH (none_run bo 0 0 (Nat.le_refl _) hm) h (.sln _ _ _ _)
    | sl _ _ _ _ b o cap f hst hl hm' hcl hz hc hv => exact VOk.same hH (none_run _ _ _ hl hm) h (.sl _ _ _ _ b o cap f hst hl hm' hcl hz hc hv)
   ·rename_i hm
    cases hs with
    | sln _ _ _ bo =>
     cases bo with
     | none =>
      have e1 : catRow 0 get src = src := funext fun e => by simp [catRow]
      rw [e1, Nat.zero_add] at h
      exact grow_nil none rfl (by omega) h.1 h.2
     | some b =>
      refine grow_some none rfl H hH b 0 0 get (fun _ _ => undef) (by omega) (by omega) h.1 (fun e he => by omega) (fun e j c he => by omega) (fun k v hk => ?_) h.2
      obtain ⟨e', j, he, _⟩ := rowVals_of hk
      omega
    | sl _ _ _ _ b o cap f hst hl hm' hcl hz hc hv =>
     have hcap := hcl rfl
     refine grow_some none rfl H hH ⟨b, o, none⟩ len cap get f (by omega) (by omega) h.1 hz (fun e j c he hc => (hv e j c he hc).lift) (fun k v hk => ?_) h.2
     obtain ⟨e', j, he, hj, rfl, rfl⟩ := rowVals_of hk
     rw [addr_add, ← Nat.add_assoc]
     exact hc e' j he hj
  ·exact h.elim
 ·-- an own row of known capacity
  rename_i id sz off len c
  split at h
  ·rename_i sz' L get T0 hid
   split at h
   ·rename_i hcond
    obtain ⟨hszA, hszB⟩ := hcond
    subst hszA
    subst hszB
    obtain ⟨b, o, cp, rfl, hb, hl, hmx, ho, hx, hcap⟩ := hs.oslR
    obtain rfl := hcap c rfl
    obtain ⟨arr, T, fr, h1, hnS, h2, h3, h4, h5, h6⟩ := own_vals hH hid hb
    obtain ⟨arr', T', fr', h1', h7⟩ := hx
    rw [h1] at h1'; cases h1'
    split at h
    ·rename_i hfit
     obtain ⟨⟨hLo, hone⟩, hN⟩ := h
     by_cases hm : m = 0
     ·subst hm
      refine ⟨_, w, _, _, ρ, none_run _ _ _ hl rfl, hN, ?_, ?_, Ext.refl _ _ _⟩
      ·exact .osl _ _ _ _ _ b o cp hb hl hmx ho ⟨arr, _, fr, h1, h7⟩ (fun c' hc' => hcap c' hc')
      ·refine hrel_upd hH hid rfl hb (Ext.refl _ _ _) rfl (fun _ _ => rfl) ?_
       have : (fun e => if off + len ≤ e ∧ e < off + len + 0 then src (e - (off + len)) else get e) = get := funext fun e => by
        rw [if_neg (by omega)]
       rw [this]
       exact hH.blk id _ hid
     ·obtain ⟨a, f, rfl, hcell, hval⟩ := hrow.vals (by omega)
      have hoff : o = off * ei.size := ho (by omega)
      subst hoff
      have hin : (off + len) * ei.size + m * ei.size ≤ arr.size := by
       have : (off + len + m) * ei.size ≤ (off + cp) * ei.size := Nat.mul_le_mul_right _ (by omega)
       rw [Nat.add_mul] at this; omega
      have hstart : off * ei.size + len * info.size = (off + len) * ei.size := by rw [hsize, Nat.add_mul]
      have hr := run_append_room_cells (P := P) w t ty e info ht hi b (off * ei.size) len cp a m cx (rowVals f m ei.size) (by rw [rowVals_length, hsize]) hcell (rowVals_one hrow.size hval hone) hfit
       (fun j hj => by
        rw [rowVals_length] at hj
        rw [hstart]
        simp only [World.cell?, h1]
        simp; omega)
       (fun j hj => by
        rw [rowVals_length] at hj
        rw [hstart]
        exact h3 _ (by omega))
      rw [hstart] at hr
      have hE : Ext ρ S w ρ S (w.setCells b ((off + len) * ei.size) (rowVals f m ei.size)) := ext_upd hH hb hnS (setCells_size _ _ _ _) (fun k hk => setCells_other b _ _ _ k hk)
       (fun a' T' f' h' => by rw [h1] at h'; cases h'; exact ⟨_, _, setCells_heap _ _ _ _ _ _ _ h1, spl_size _ _ _⟩) (setCells_rest _ _ _ _).1 (setCells_rest _ _ _ _).2.1 (setCells_rest _ _ _ _).2.2
      refine ⟨_, _, _, _, ρ, hr, hN, ?_, ?_, hE⟩
      ·exact .osl _ _ _ _ _ b _ cp hb hfit hmx ho ⟨_, _, fr, setCells_heap _ _ _ _ _ _ _ h1, by rw [spl_size]; exact h7⟩ (fun c' hc' => hcap c' hc')
      ·refine hrel_upd hH hid rfl hb hE (setCells_size _ _ _ _) (fun k hk => setCells_other b _ _ _ k hk) ?_
       refine setRow_brel (H := H) (L := L) (get := get) (src := src) hE (fun b' hb' => by rw [hb] at hb'; cases hb'; rfl) h1 hnS h2 h3 hin _ L h2 (fun e he => ?_) (fun e j c he hcase hc => ?_) (fun e j c he hlt hc => ?_)
       ·show (if off + len ≤ e ∧ e < off + len + m then _ else _ : List AV).length = _
        split
        ·exact hrow.size _ (by omega)
        ·exact h4 e he
       ·have hc' : (if off + len ≤ e ∧ e < off + len + m then src (e - (off + len)) else get e)[j]? = some c := hc
        rw [if_neg (by omega)] at hc'
        exact h5 e j c he hc'
       ·have hc' : (if off + len ≤ off + len + e ∧ off + len + e < off + len + m then src (off + len + e - (off + len)) else get (off + len + e))[j]? = some c := hc
        rw [if_pos (by omega), show off + len + e - (off + len) = e by omega] at hc'
        exact hval e j c he hc'
    ·rename_i hfit
     obtain ⟨⟨hLo, hg⟩, hN⟩ := h
     refine grow_some none rfl H hH ⟨b, o, none⟩ len cp (fun e => get (off + e)) (fun e j => arr.getD ((off + e) * ei.size + j) undef) (by omega) (by omega) hg (fun e he => h4 _ (by omega)) (fun e j c he hc => h5 _ j c (by omega) hc) (fun k v hk => ?_) hN
     obtain ⟨e', j, he, hj, rfl, rfl⟩ := rowVals_of hk
     rw [addr_add, ho (by omega), ← Nat.add_assoc, ← Nat.add_mul]
     exact h6 _ j (by omega) hj
   ·exact h.elim
  ·exact h.elim
 ·-- an own row of unknown capacity
  rename_i id sz len
  split at h
  ·rename_i sz' L get T0 hid
   split at h
   ·rename_i hcond
    obtain ⟨hszA, hszB⟩ := hcond
    subst hszA
    subst hszB
    obtain ⟨b, o, cp, rfl, hb, hl, hmx, ho, hx, _⟩ := hs.oslR
    obtain ⟨arr, T, fr, h1, hnS, h2, h3, h4, h5, h6⟩ := own_vals hH hid hb
    obtain ⟨arr', T', fr', h1', h7⟩ := hx
    rw [h1] at h1'; cases h1'
    obtain ⟨⟨hLo, hg, hone⟩, hN⟩ := h
    rw [Nat.zero_add] at h7
    have hnew : ∀ e, e < len + m → (catRow len get src e).length = ei.size := fun e he => by
     unfold catRow; split
     ·exact h4 _ (by omega)
     ·exact hrow.size _ (by omega)
    have hmove : ∀ i b', newρ ρ H.length b i = some b' → (∃ j, ρ j = some b') ∨ w.heap.size ≤ b' := fun i b' hi' => by
     unfold newρ at hi'
     split at hi'
     ·cases hi'; exact .inl ⟨id, hb⟩
     ·exact .inl ⟨_, hi'⟩
    have hrho : ∀ i b', ρ i = some b' → newρ ρ H.length b i = some b' := fun i b' hi' => by
     have := (hH.out i b' hi').1
     unfold newρ; rw [if_neg (by omega)]; exact hi'
    by_cases hm : m = 0
    ·subst hm
     have hE : Ext ρ S w (newρ ρ H.length b) S w := ⟨hrho, fun _ h => h, fun _ _ _ => rfl, Nat.le_refl _, fun _ arr _ fr h => ⟨arr, fr, h, rfl⟩, hmove, fun _ h => .inl h, rfl, rfl, rfl⟩
     refine ⟨_, w, _, _, newρ ρ H.length b, none_run _ _ _ hl rfl, hN, ?_, ?_, hE⟩
     ·exact .osl _ _ _ _ _ b o cp (newρ_at _ _) hl hmx ho ⟨arr, _, fr, h1, by rw [Nat.zero_add]; exact h7⟩ (fun c' hc' => by cases hc')
     ·refine hrel_move hH hid rfl hb hE rfl (fun _ _ => rfl) ?_
      intro b' hb'
      rw [newρ_at] at hb'; cases hb'
      refine ⟨hnS, arr, _, fr, by rw [appT_old T0 e T]; exact h1, ?_, h3, hnew, fun e j c v he hc hv => ?_⟩
      ·have : (len + 0) * ei.size ≤ L * ei.size := Nat.mul_le_mul_right _ (by omega)
       omega
      ·have hc' : (get e)[j]? = some c := by simpa [catRow, show e < len by omega] using hc
       have := h5 e j c (by omega) hc'
       rw [Array.getD_eq_getD_getElem?, hv] at this
       exact this.mono hE
    ·obtain ⟨a, f, rfl, hcell, hval⟩ := hrow.vals (by omega)
     by_cases hfit : len + m ≤ cp
     ·have ho0 : o = 0 := by rw [ho (by omega)]; simp
      subst ho0
      have hin : len * ei.size + m * ei.size ≤ arr.size := by
       have : (len + m) * ei.size ≤ cp * ei.size := Nat.mul_le_mul_right _ (by omega)
       rw [Nat.add_mul] at this; omega
      have hr := run_append_room_cells (P := P) w t ty e info ht hi b 0 len cp a m cx (rowVals f m ei.size) (by rw [rowVals_length, hsize]) hcell (rowVals_one hrow.size hval hone) hfit
       (fun j hj => by
        rw [rowVals_length] at hj
        simp only [World.cell?, h1]
        simp [hsize]; omega)
       (fun j hj => by
        rw [rowVals_length] at hj
        exact h3 _ (by rw [hsize]; omega))
      rw [Nat.zero_add, hsize] at hr
      have hE0 : Ext ρ S w ρ S (w.setCells b (len * ei.size) (rowVals f m ei.size)) := ext_upd hH hb hnS (setCells_size _ _ _ _) (fun k hk => setCells_other b _ _ _ k hk)
       (fun a' T' f' h' => by rw [h1] at h'; cases h'; exact ⟨_, _, setCells_heap _ _ _ _ _ _ _ h1, spl_size _ _ _⟩) (setCells_rest _ _ _ _).1 (setCells_rest _ _ _ _).2.1 (setCells_rest _ _ _ _).2.2
      have hE : Ext ρ S w (newρ ρ H.length b) S (w.setCells b (len * ei.size) (rowVals f m ei.size)) :=
       ⟨hrho, hE0.st, hE0.same, hE0.size, hE0.shp, hmove, hE0.stf, hE0.os, hE0.tape, hE0.output⟩
      refine ⟨_, _, _, _, newρ ρ H.length b, hr, hN, ?_, ?_, hE⟩
      ·exact .osl _ _ _ _ _ b _ cp (newρ_at _ _) hfit hmx (fun _ => by simp) ⟨_, _, fr, setCells_heap _ _ _ _ _ _ _ h1, by rw [spl_size, Nat.zero_add]; exact h7⟩ (fun c' hc' => by cases hc')
      ·refine hrel_move hH hid rfl hb hE (setCells_size _ _ _ _) (fun k hk => setCells_other b _ _ _ k hk) ?_
       refine setRow_brel (H := H) (L := L) (get := get) (src := src) hE (fun b' hb' => by rw [newρ_at] at hb'; cases hb'; rfl) (T1 := appT T0 e) (T := tyOr T0 T) (by rw [appT_old]; exact h1) hnS h2 h3 hin _ (len + m) (by rw [Nat.add_mul]; exact hin) hnew (fun e j c he hcase hc => ?_) (fun e j c he hlt hc => ?_)
       ·have hc' : (get e)[j]? = some c := by simpa [catRow, show e < len by omega] using hc
        exact h5 e j c (by omega) hc'
       ·have hc' : (if len + e < len then get (len + e) else src (len + e - len))[j]? = some c := hc
        rw [if_neg (by omega), Nat.add_sub_cancel_left] at hc'
        exact hval e j c he hc'
     ·have hlen : (H.set id .dead).length = H.length := by simp
      refine grow_some (appT T0 e) (appT_new _ _) (H.set id .dead) (hrel_kill hH id) ⟨b, o, none⟩ len cp get (fun e j => arr.getD (e * ei.size + j) undef) (by omega) (by omega) hg (fun e he => h4 _ (by omega)) (fun e j c he hc => h5 _ j c (by omega) hc) (fun k v hk => ?_) (by rw [hlen]; exact hN)
      obtain ⟨e', j, he, hj, rfl, rfl⟩ := rowVals_of hk
      rw [addr_add, ho (by omega), Nat.zero_mul, Nat.zero_add]
      exact h6 _ j (by omega) hj
   ·exact h.elim
  ·exact h.elim
 ·exact h.elim
theorem appendA_sound (hTY : TyOk P TY) (hns : ∀ b, S b → b < w.heap.size) {H : List Blk} (hH : HRel ρ S w H) {t ty : TypeId} {s x : AV} {vs vx : Value} {N : AV → List Blk → Prop} (hs : V ρ S w s vs) (hx : V ρ S w x vx)
  (h : appendA TY t s x H N) : VOk P ρ S w (Builtin.append_ #[t, t] ty #[vs, vx]) N := by
 unfold appendA at h
 split at h
 ·exact h.elim
 ·rename_i i hi
  obtain ⟨info, d, h1, h2, _, _, _, h6, _, _⟩ := hTY.get hi
  obtain ⟨_, _, _, ks, _⟩ := kind_desc h6
  split at h
  ·rename_i e hk
   obtain rfl := ks _ hk
   split at h
   ·rename_i ei hei
    split at h
    ·rename_i z hz
     split at h
     ·rename_i hcond
      obtain ⟨sz, m, src, ao, cap, hK, rfl, _, _, hrow⟩ := rowE_real hH hx h
      split at hK
      ·rename_i hsz
       subst hsz
       exact appRow_sound hTY hns hH h2 hei hz hcond.1 hcond.2.1 hcond.2.2 hs hrow (appRowB_imp hK)
      ·exact hK.elim
     ·exact h.elim
    ·exact h.elim
   ·exact h.elim
  ·exact h.elim
end
end Go.Vc
namespace Go.Vc
open Go
section
variable {P : Program} {TY : TypeId → Option TI} {ρ : Nat → Option Nat} {S : Nat → Prop} {w : World}
def nilEq : TK → AV → AV → Option Bool
 | .ptr _, .nilp, .nilp => some true
 | .ptr _, .ptr .., .nilp => some false
 | .ptr _, .eptr .., .nilp => some false
 | .ptr _, .rptr .., .nilp => some false
 | .slice _, .nilsl, .nilsl => some true
 | .slice _, .osl .., .nilsl => some false
 | _, _, _ => none
theorem nilEq_vals {k : TK} {x y : AV} {vx vy : Value} {a : Bool} (h : nilEq k x y = some a) (hx : V ρ S w x vx) (hy : V ρ S w y vy) :
  (∃ e p, k = .ptr e ∧ vx = .pointer p ∧ vy = .pointer none ∧ a = p.isNone) ∨ (∃ e p l c, k = .slice e ∧ vx = .slice p l c ∧ vy = .slice none 0 0 ∧ a = p.isNone) := by
 unfold nilEq at h
 split at h <;> (try cases h) <;> cases hx <;> cases hy <;> first | exact .inl ⟨_, _, rfl, rfl, rfl, rfl⟩ | exact .inr ⟨_, _, _, _, rfl, rfl, rfl, rfl⟩
def binA (TY : TypeId → Option TI) (wr : Bool) (op : BinOp) (t : TypeId) (x y : AV) (N : AV → Prop) : Prop :=
 match x, y with
 | .int k a, .int k' b => (match op with
  | .shl => shiftA .shl k a b N
  | .shr => shiftA .shr k a b N
  | op => if k = k' then intA wr op k a b N else False)
 | .str a, .str b => strA op a b N
 | x, y => (match TY t with
  | none => False
  | some i => (match i.kind, x, y with
   | .bool, .bool a, .bool b => (match op with
    | .eql => N (.bool (a == b))
    | .neq => N (.bool (!(a == b)))
    | _ => False)
   | .struct _, .agg xs, .agg ys => if i.eqok = true then (match op with
    | .eql => optP (eqA TY 12 t (.agg xs) (.agg ys)) fun r => N (.bool r)
    | .neq => optP (eqA TY 12 t (.agg xs) (.agg ys)) fun r => N (.bool (!r))
    | _ => False) else False
   | k, x, y => (match op with
    | .eql => optP (nilEq k x y) fun r => N (.bool r)
    | .neq => optP (nilEq k x y) fun r => N (.bool (!r))
    | _ => False)))
theorem binA_sound (hTY : TyOk P TY) {H : List Blk} (hH : HRel ρ S w H) {wr : Bool} {op : BinOp} {t : TypeId} {x y : AV} {vx vy : Value} (xo yo : Operand) {N : AV → Prop} (hx : V ρ S w x vx) (hy : V ρ S w y vy)
  (h : binA TY wr op t x y N) : VSt P ρ S w (do eqGuard op t xo yo vx vy; binOp op t vx vy) N := by
 have fin : ∀ (c : AV) (v : Value), (eqGuard op t xo yo vx vy).run P w = .ok () w → (binOp op t vx vy).run P w = .ok v w → N c → V ρ S w c v → VSt P ρ S w (do eqGuard op t xo yo vx vy; binOp op t vx vy) N :=
  fun c v h1 h2 h3 h4 => VSt.same hH (v := v) (by simp only [Sem.run_bind, h1, Result.andThen_ok, h2]) h3 h4
 have gi : ∀ (k k' : IntKind) (a b : Int), (eqGuard op t xo yo (.int k a) (.int k' b)).run P w = .ok () w := fun k k' a b => by cases op <;> simp [eqGuard]
 have gs : ∀ (a b : ByteArray), (eqGuard op t xo yo (.string a) (.string b)).run P w = .ok () w := fun a b => by cases op <;> simp [eqGuard]
 have gb : ∀ (a b : Bool), (eqGuard op t xo yo (.bool a) (.bool b)).run P w = .ok () w := fun a b => by cases op <;> simp [eqGuard]
 have gp : ∀ (a b : Option Addr), (eqGuard op t xo yo (.pointer a) (.pointer b)).run P w = .ok () w := fun a b => by cases op <;> simp [eqGuard]
 have gsl : ∀ (a b : Option Addr) (l c l' c' : Nat), (eqGuard op t xo yo (.slice a l c) (.slice b l' c')).run P w = .ok () w := fun a b l c l' c' => by cases op <;> simp [eqGuard]
 unfold binA at h
 split at h
 ·rename_i k a k' b
  obtain ⟨rfl, ha⟩ := hx.intR
  obtain ⟨rfl, hb⟩ := hy.intR
  split at h
  ·obtain ⟨c, v, h1, h2, h3⟩ := shiftA_sound (P := P) (ρ := ρ) (S := S) (w := w) (k' := k') ha h t
   exact fin c v (gi _ _ _ _) h1 h2 h3
  ·obtain ⟨c, v, h1, h2, h3⟩ := shiftA_sound (P := P) (ρ := ρ) (S := S) (w := w) (k' := k') ha h t
   exact fin c v (gi _ _ _ _) h1 h2 h3
  ·split at h
   ·rename_i hk
    subst hk
    obtain ⟨c, v, h1, h2, h3⟩ := intA_sound (P := P) (ρ := ρ) (S := S) (w := w) ha h t
    exact fin c v (gi _ _ _ _) h1 h2 h3
   ·exact h.elim
 ·rename_i a b
  obtain ⟨s, rfl, rfl, _⟩ := hx.strR
  obtain ⟨s', rfl, rfl, _⟩ := hy.strR
  obtain ⟨c, v, h1, h2, h3⟩ := strA_sound (P := P) (ρ := ρ) (S := S) (w := w) h t
  exact fin c v (gs _ _) h1 h2 h3
 ·split at h
  ·exact h.elim
  ·rename_i i hi
   obtain ⟨info, d, h1, h2, _, _, _, h6, _, h8⟩ := hTY.get hi
   obtain ⟨kb, _, _, ks, kp, _, _, kst⟩ := kind_desc h6
   split at h
   ·rename_i a b hk _ _
    obtain rfl := hx.boolR
    obtain rfl := hy.boolR
    split at h
    ·exact fin _ _ (gb _ _) (run_eql_bool w t a b (by rw [h2, kb hk])) h (.bool _)
    ·exact fin _ _ (gb _ _) (run_neq_bool w t a b (by rw [h2, kb hk])) h (.bool _)
    ·exact h.elim
   ·rename_i fs xs ys hk _ _
    split at h
    ·rename_i hok
     obtain ⟨vs, rfl, lx, hxs⟩ := hx.aggR
     obtain ⟨us, rfl, ly, hys⟩ := hy.aggR
     have hok' := hok
     rw [← h8, Bool.and_eq_true, Bool.not_eq_true', Bool.not_eq_true'] at hok'
     split at h
     ·obtain ⟨r, hr, hN⟩ := optP_some h
      exact fin _ _ (run_eqGuard_agg w _ t xo yo vs us hok'.1) (by rw [run_eql_struct, eqA_sound hTY 12 10000 (by omega) t _ _ r _ _ w hr hx hy]; rfl) hN (.bool _)
     ·obtain ⟨r, hr, hN⟩ := optP_some h
      exact fin _ _ (run_eqGuard_agg w _ t xo yo vs us hok'.1) (by rw [run_neq_struct, eqA_sound hTY 12 10000 (by omega) t _ _ r _ _ w hr hx hy]; rfl) hN (.bool _)
     ·exact h.elim
    ·exact h.elim
   ·rename_i k' x' y' _ _
    split at h
    ·obtain ⟨r, hr, hN⟩ := optP_some h
     rcases nilEq_vals hr hx hy with ⟨e, p, hk, rfl, rfl, rfl⟩ | ⟨e, p, l, c, hk, rfl, rfl, rfl⟩
     ·have he : P.underlying t = some (.pointer e) := by rw [h2, kp e hk]
      have hp : P.underlying t = some (.pointer (P.pointee t)) := by simp [Program.pointee, he]
      exact fin _ _ (gp _ _) (run_eql_pointer_nil w t p hp) hN (.bool _)
     ·exact fin _ _ (gsl _ _ _ _ _ _) (Lib.run_eql_slice_nil w t e p l c 0 0 (by rw [h2, ks e hk])) hN (.bool _)
    ·obtain ⟨r, hr, hN⟩ := optP_some h
     rcases nilEq_vals hr hx hy with ⟨e, p, hk, rfl, rfl, rfl⟩ | ⟨e, p, l, c, hk, rfl, rfl, rfl⟩
     ·have he : P.underlying t = some (.pointer e) := by rw [h2, kp e hk]
      have hp : P.underlying t = some (.pointer (P.pointee t)) := by simp [Program.pointee, he]
      exact fin _ _ (gp _ _) (run_neq_pointer_nil w t p hp) hN (.bool _)
     ·exact fin _ _ (gsl _ _ _ _ _ _) (run_neq_slice_nil_any w t e p l c 0 0 (by rw [h2, ks e hk])) hN (.bool _)
    ·exact h.elim
def unA (wr : Bool) (op : UnOp) (x : AV) (N : AV → Prop) : Prop :=
 match op, x with
 | .neg, .int k n => fitA wr k (-n) N
 | .not, .bool b => N (.bool (!b))
 | _, _ => False
theorem unA_sound {H : List Blk} (hH : HRel ρ S w H) {wr : Bool} {op : UnOp} {x : AV} {v : Value} {N : AV → Prop} (hx : V ρ S w x v) (h : unA wr op x N) : VSt P ρ S w (Op.unary op v) N := by
 unfold unA at h
 split at h
 ·rename_i k n
  obtain ⟨rfl, _⟩ := hx.intR
  obtain ⟨c, h1, h2⟩ := fitA_sound (ρ := ρ) (S := S) (w := w) h
  exact VSt.same hH (v := .int k (k.wrap (-n))) (by simp [Op.unary, Op.intArith]) h1 h2
 ·obtain rfl := hx.boolR
  rename_i b
  exact VSt.same hH (v := .bool (!b)) (by simp [Op.unary]) h (.bool _)
 ·exact h.elim
def nilCheckA (x : AV) (N : AV → Prop) : Prop :=
 match x with
 | .ptr .. => N x
 | .eptr .. => N x
 | .rptr .. => N x
 | .fn .. => N x
 | _ => False
def extractA (x : AV) (i : Nat) (N : AV → Prop) : Prop :=
 match x with
 | .tup cs => optP cs[i]? N
 | _ => False
theorem extractA_sound {H : List Blk} (hH : HRel ρ S w H) {x : AV} {v : Value} {i : Nat} {N : AV → Prop} (hx : V ρ S w x v) (h : extractA x i N) : VSt P ρ S w (Instr.extract v i) N := by
 unfold extractA at h
 split at h
 ·rename_i cs
  cases hx with
  | tup _ vs hl hv =>
   obtain ⟨c, hc, hN⟩ := optP_some h
   have hlt : i < vs.size := by
    rw [← hl]
    rcases Nat.lt_or_ge i cs.length with h' | h'
    ·exact h'
    ·rw [List.getElem?_eq_none h'] at hc; cases hc
   exact VSt.same hH (v := vs[i]) (by simp [Instr.extract, hlt]) hN (hv i c _ hc (by simp [hlt]))
 ·exact h.elim
def lenA (TY : TypeId → Option TI) (t : TypeId) (x : AV) (N : AV → Prop) : Prop :=
 match TY t with
 | none => False
 | some i => match i.kind, x with
  | .str, .str l => ((l.length : Int) ≤ 9223372036854775807 → N (.int .i64 l.length))
  | .slice _, .sl _ _ len _ => ((len : Int) ≤ 9223372036854775807 → N (.int .i64 len))
  | .slice _, .osl _ _ _ len _ => ((len : Int) ≤ 9223372036854775807 → N (.int .i64 len))
  | .slice _, .nilsl => N (.int .i64 0)
  | .arr n _, _ => (n : Int) ≤ 9223372036854775807 ∧ N (.int .i64 n)
  | _, _ => False
theorem V.sl_len {clip : Bool} {sz len : Nat} {get : Nat → List AV} {v : Value} (h : V ρ S w (.sl clip sz len get) v) : ∃ a cp, v = .slice a len cp ∧ len ≤ cp ∧ cp ≤ maxLen := by
 cases h with
 | sln _ _ _ ao => exact ⟨ao, 0, rfl, Nat.le_refl _, Nat.zero_le _⟩
 | sl _ _ _ _ b o cap f hs hl hm => exact ⟨_, cap, rfl, hl, hm⟩
theorem lenA_sound (hTY : TyOk P TY) {H : List Blk} (hH : HRel ρ S w H) {t ty : TypeId} {x : AV} {v : Value} {N : AV → Prop} (hx : V ρ S w x v) (h : lenA TY t x N) : VSt P ρ S w (Builtin.len_ #[t] ty #[v]) N := by
 have inl : ∀ n : Nat, (n : Int) ≤ 9223372036854775807 → V ρ S w (.int .i64 n) (.int .i64 n) := fun n hn => V.int' (by simp only [inK, lo, hi]; omega)
 unfold lenA at h
 split at h
 ·exact h.elim
 ·rename_i i hi
  obtain ⟨info, d, h1, h2, _, _, _, h6, _, _⟩ := hTY.get hi
  obtain ⟨_, _, kstr, ks, _, ka, _⟩ := kind_desc h6
  split at h
  ·rename_i l hk
   obtain rfl := kstr hk
   obtain ⟨s, rfl, rfl, hm⟩ := hx.strR
   have hb : (s.data.toList.length : Int) ≤ 9223372036854775807 := by rw [maxLen_eq] at hm; omega
   refine VSt.same hH (v := goInt s.size) ?_ (h hb) (inl _ hb)
   simp [Builtin.len_, run_underlying' h2]
  ·rename_i e clip sz len get hk
   obtain rfl := ks _ hk
   obtain ⟨a, cp, rfl, hl, hm⟩ := hx.sl_len
   have hb : (len : Int) ≤ 9223372036854775807 := by rw [maxLen_eq] at hm; omega
   refine VSt.same hH (v := goInt len) ?_ (h hb) (inl _ hb)
   simp [Builtin.len_, run_underlying' h2]
  ·rename_i e id sz off len cap hk
   obtain rfl := ks _ hk
   obtain ⟨b, o, cp, rfl, _, hl, hm, _⟩ := hx.oslR
   have hb : (len : Int) ≤ 9223372036854775807 := by rw [maxLen_eq] at hm; omega
   refine VSt.same hH (v := goInt len) ?_ (h hb) (inl _ hb)
   simp [Builtin.len_, run_underlying' h2]
  ·rename_i e hk
   obtain rfl := ks _ hk
   cases hx
   refine VSt.same hH (v := goInt 0) ?_ h (inl 0 (by decide))
   simp [Builtin.len_, run_underlying' h2]
  ·rename_i n e hk
   obtain rfl := ka _ _ hk
   refine VSt.same hH (v := goInt n) ?_ h.2 (inl _ h.1)
   simp [Builtin.len_, run_underlying' h2]
  ·exact h.elim
end
end Go.Vc
namespace Go.Vc
open Go
section
variable {P : Program} {TY : TypeId → Option TI} {ρ : Nat → Option Nat} {S : Nat → Prop} {w : World}
def byteCell : List AV → Option Int
 | [.int .u8 n] => some n
 | _ => none
def runeCell : List AV → Option Int
 | [.int .i32 n] => some n
 | _ => none
def bytesOf (len : Nat) (get : Nat → List AV) : List UInt8 := (List.range len).map fun e => UInt8.ofNat ((byteCell (get e)).getD 0).toNat
def runesOf (len : Nat) (get : Nat → List AV) : List UInt8 := (List.range len).flatMap fun e => (Utf8.encode ((runeCell (get e)).getD 0)).data.toList
def convA (TY : TypeId → Option TI) (wr : Bool) (src dst : TypeId) (x : AV) (H : List Blk) (N : AV → Prop) : Prop :=
 match TY src, TY dst with
 | some i, some j => match j.kind, x with
  | .int k, .int _ n => fitA wr k n N
  | .str, .str l => N (.str l)
  | .str, .nilsl => (match i.kind with | .slice e => (match TY e with | some ei => (match ei.kind with | .int .u8 => N (.str []) | .int .i32 => N (.str []) | _ => False) | none => False) | _ => False)
  | .str, x => (match i.kind with
   | .slice e => (match TY e with
    | some ei => (match ei.kind with
     | .int .u8 => rowE H x fun sz len get => if sz = 1 then (∀ e, e < len → (byteCell (get e)).isSome = true) ∧ N (.str (bytesOf len get)) else False
     | .int .i32 => rowE H x fun sz len get => if sz = 1 then ((∀ e, e < len → (runeCell (get e)).isSome = true) ∧ (runesOf len get).length ≤ 9223372036854775807) ∧ N (.str (runesOf len get)) else False
     | _ => False)
    | none => False)
   | _ => False)
  | _, _ => False
 | _, _ => False
theorem foldl_push (ns : List Int) : ∀ (s : ByteArray), (ns.foldl (fun r n => r.push (UInt8.ofNat n.toNat)) s).data.toList = s.data.toList ++ ns.map fun n => UInt8.ofNat n.toNat := by
 induction ns with
 | nil => intro s; simp
 | cons n ns ih => intro s; rw [List.foldl_cons, ih]; simp
theorem foldl_runes (ns : List Int) : ∀ (s : ByteArray), (ns.foldl (fun r n => r ++ Utf8.encode n) s).data.toList = s.data.toList ++ ns.flatMap fun n => (Utf8.encode n).data.toList := by
 induction ns with
 | nil => intro s; simp
 | cons n ns ih => intro s; rw [List.foldl_cons, ih]; simp
theorem row_nums {k : IntKind} {len : Nat} {get : Nat → List AV} {num : List AV → Option Int} (hnum : ∀ cs n, num cs = some n → cs = [.int k n]) {a : Addr} (hrow : RowIs ρ S w 1 len get (some a)) (hall : ∀ e, e < len → (num (get e)).isSome = true) :
  (loadCells a len).run P w = .ok (((List.range len).map fun e => (num (get e)).getD 0).map (Value.int k)).toArray w := by
 obtain ⟨hsp, f, hf⟩ := hrow.at_ a rfl
 obtain ⟨b, o, sp⟩ := a
 simp only at hsp hf
 rw [run_loadCells w ⟨b, o, sp⟩ len (fun e => .int k ((num (get e)).getD 0)) (fun e he => ?_)]
 ·rw [List.map_map]; rfl
 ·obtain rfl := hsp (by omega)
  obtain ⟨n, hn⟩ := Option.isSome_iff_exists.1 (hall e he)
  have hc := hnum _ _ hn
  obtain ⟨h1, h2⟩ := hf e 0 he (by omega)
  have h3 := h2 (.int k n) (by rw [hc]; rfl)
  obtain ⟨h4, _⟩ := h3.intR
  rw [addr_add]
  simp only [Nat.mul_one, Nat.add_zero] at h1
  rw [h1, h4, hn]
  rfl
theorem byteCell_eq (cs : List AV) (n : Int) (h : byteCell cs = some n) : cs = [.int .u8 n] := by
 unfold byteCell at h
 split at h
 ·cases h; rfl
 ·cases h
theorem runeCell_eq (cs : List AV) (n : Int) (h : runeCell cs = some n) : cs = [.int .i32 n] := by
 unfold runeCell at h
 split at h
 ·cases h; rfl
 ·cases h
theorem convA_sound (hTY : TyOk P TY) {H : List Blk} (hH : HRel ρ S w H) {wr : Bool} {src dst : TypeId} {x : AV} {v : Value} {N : AV → Prop} (hx : V ρ S w x v) (h : convA TY wr src dst x H N) :
  VSt P ρ S w (convert src dst v) N := by
 unfold convA at h
 split at h
 ·rename_i i j hi hj
  obtain ⟨_, d, _, h2, _, _, _, h6, _, _⟩ := hTY.get hi
  obtain ⟨_, d', _, h2', _, _, _, h6', _, _⟩ := hTY.get hj
  obtain ⟨_, ki, kstr, ks, _⟩ := kind_desc h6
  obtain ⟨_, ki', kstr', ks', _⟩ := kind_desc h6'
  have hnilr : ∀ e (ei : TI) k, d = .slice e → d' = .string → TY e = some ei → ei.kind = .int k → (k = .u8 ∨ k = .i32) → ∀ l c, (convert src dst (.slice none l c)).run P w = .ok (.string .empty) w := by
   intro e ei k hd hd' hei hk hkk l c
   subst hd; subst hd'
   obtain ⟨_, de, _, g2, _, _, _, g6, _, _⟩ := hTY.get hei
   obtain rfl := (kind_desc g6).2.1 k hk
   unfold convert
   simp only [Sem.run_bind, run_underlying' h2, run_underlying' h2', Result.andThen_ok, run_underlying' g2]
   rcases hkk with rfl | rfl
   ·simp [Conv.bytesToString]
   ·simp [Conv.runesToString]
  split at h
  ·rename_i k k' n hk
   obtain ⟨rfl, _⟩ := hx.intR
   obtain rfl := ki' _ hk
   obtain ⟨c, h1, h3⟩ := fitA_sound (ρ := ρ) (S := S) (w := w) h
   refine VSt.same hH (v := .int k (k.wrap n)) ?_ h1 h3
   unfold convert
   simp only [Sem.run_bind, run_underlying' h2, run_underlying' h2', Result.andThen_ok]
   cases d <;> simp [Conv.intToInt]
  ·rename_i l hk
   obtain ⟨s, rfl, rfl, hm⟩ := hx.strR
   obtain rfl := kstr' hk
   refine VSt.same hH (v := .string s) ?_ h hx
   unfold convert
   simp only [Sem.run_bind, run_underlying' h2, run_underlying' h2', Result.andThen_ok]
   cases d <;> simp
  ·rename_i hk
   cases hx
   obtain rfl := kstr' hk
   split at h
   ·rename_i e hke
    split at h
    ·rename_i ei hei
     split at h
     ·rename_i hk8
      exact VSt.same hH (hnilr e ei _ (ks _ hke) rfl hei hk8 (.inl rfl) 0 0) h (.str _ _ rfl (Nat.zero_le _))
     ·rename_i hk8
      exact VSt.same hH (hnilr e ei _ (ks _ hke) rfl hei hk8 (.inr rfl) 0 0) h (.str _ _ rfl (Nat.zero_le _))
     ·exact h.elim
    ·exact h.elim
   ·exact h.elim
  ·rename_i hk _ _
   obtain rfl := kstr' hk
   split at h
   ·rename_i e hke
    obtain rfl := ks _ hke
    split at h
    ·rename_i ei hei
     obtain ⟨_, de, _, g2, _, _, _, g6, _, _⟩ := hTY.get hei
     split at h
     ·rename_i hk8
      obtain rfl := (kind_desc g6).2.1 _ hk8
      obtain ⟨sz, len, get, ao, cap, hK, rfl, hlc, hcm, hrow⟩ := rowE_real hH hx h
      split at hK
      ·rename_i hsz
       subst hsz
       obtain ⟨hall, hN⟩ := hK
       cases ao with
       | none =>
        have h0 := hrow.nil rfl
        subst h0
        exact VSt.same hH (hnilr e ei _ rfl rfl hei hk8 (.inl rfl) _ _) hN (.str _ _ rfl (Nat.zero_le _))
       | some a =>
        have hl := row_nums (P := P) byteCell_eq hrow hall
        have hr := run_bytesToString w a len cap _ hl
        refine VSt.same hH (v := .string (((List.range len).map fun e => (byteCell (get e)).getD 0).foldl (fun r n => r.push (UInt8.ofNat n.toNat)) ByteArray.empty)) ?_ hN (.str _ _ ?_ ?_)
        ·unfold convert
         simp only [Sem.run_bind, run_underlying' h2, run_underlying' h2', Result.andThen_ok, run_underlying' g2]
         exact hr
        ·rw [foldl_push, List.map_map]; rfl
        ·simp only [bytesOf, List.length_map, List.length_range]; omega
      ·exact hK.elim
     ·rename_i hk8
      obtain rfl := (kind_desc g6).2.1 _ hk8
      obtain ⟨sz, len, get, ao, cap, hK, rfl, hlc, hcm, hrow⟩ := rowE_real hH hx h
      split at hK
      ·rename_i hsz
       subst hsz
       obtain ⟨⟨hall, hlen⟩, hN⟩ := hK
       cases ao with
       | none =>
        have h0 := hrow.nil rfl
        subst h0
        exact VSt.same hH (hnilr e ei _ rfl rfl hei hk8 (.inr rfl) _ _) hN (.str _ _ rfl (Nat.zero_le _))
       | some a =>
        have hl := row_nums (P := P) runeCell_eq hrow hall
        have hr := run_runesToString w a len cap _ hl
        refine VSt.same hH (v := .string (runesBytes ((List.range len).map fun e => (runeCell (get e)).getD 0))) ?_ hN (.str _ _ ?_ ?_)
        ·unfold convert
         simp only [Sem.run_bind, run_underlying' h2, run_underlying' h2', Result.andThen_ok, run_underlying' g2]
         exact hr
        ·rw [runesBytes, foldl_runes, List.flatMap_map]; rfl
        ·rw [maxLen_eq]; exact hlen
      ·exact hK.elim
     ·exact h.elim
    ·exact h.elim
   ·exact h.elim
  ·exact h.elim
 ·exact h.elim
def rangeA (TY : TypeId → Option TI) (t : TypeId) (x : AV) (H : List Blk) (N : AV → List Blk → Prop) : Prop :=
 match TY t, x with
 | some i, .str l => match i.kind with
  | .str => N (.iter H.length) (H ++ [.iter l 0])
  | _ => False
 | _, _ => False
theorem rangeA_sound (hTY : TyOk P TY) (hns : ∀ b, S b → b < w.heap.size) {H : List Blk} (hH : HRel ρ S w H) {t : TypeId} {x : AV} {v : Value} {N : AV → List Blk → Prop} (hx : V ρ S w x v) (h : rangeA TY t x H N) :
  VOk P ρ S w (Instr.range t v) N := by
 unfold rangeA at h
 split at h
 ·rename_i i l hi
  obtain ⟨_, d, _, h2, _, _, _, h6, _, _⟩ := hTY.get hi
  split at h
  ·rename_i hk
   obtain rfl := (kind_desc h6).2.2.1 hk
   obtain ⟨s, rfl, rfl, hm⟩ := hx.strR
   refine VOk.new hH (run_range_string w t s h2) h (.iter _ _ (newρ_at _ _)) ?_
   intro b hb
   rw [newρ_at] at hb
   cases hb
   exact ⟨fun hs => Nat.lt_irrefl _ (hns _ hs), s, heap_alloc_at w _, rfl, hm⟩
  ·exact h.elim
 ·exact h.elim
noncomputable def runeAt : List UInt8 → Nat → Int := Classical.choose (⟨fun l p => ((Utf8.decode ⟨l.toArray⟩ p).1 : Int), rfl⟩ : ∃ f : List UInt8 → Nat → Int, f = fun l p => ((Utf8.decode ⟨l.toArray⟩ p).1 : Int))
theorem runeAt_eq (l : List UInt8) (p : Nat) : runeAt l p = ((Utf8.decode ⟨l.toArray⟩ p).1 : Int) := congrFun (congrFun (Classical.choose_spec (⟨fun l p => ((Utf8.decode ⟨l.toArray⟩ p).1 : Int), rfl⟩ : ∃ f : List UInt8 → Nat → Int, f = fun l p => ((Utf8.decode ⟨l.toArray⟩ p).1 : Int))) l) p
noncomputable def runeW : List UInt8 → Nat → Nat := Classical.choose (⟨fun l p => (Utf8.decode ⟨l.toArray⟩ p).2, rfl⟩ : ∃ f : List UInt8 → Nat → Nat, f = fun l p => (Utf8.decode ⟨l.toArray⟩ p).2)
theorem runeW_eq (l : List UInt8) (p : Nat) : runeW l p = (Utf8.decode ⟨l.toArray⟩ p).2 := congrFun (congrFun (Classical.choose_spec (⟨fun l p => (Utf8.decode ⟨l.toArray⟩ p).2, rfl⟩ : ∃ f : List UInt8 → Nat → Nat, f = fun l p => (Utf8.decode ⟨l.toArray⟩ p).2)) l) p
def nextA (x : AV) (isS : Bool) (H : List Blk) (N : AV → List Blk → Prop) : Prop :=
 match x, isS with
 | .iter id, true => match H[id]? with
  | some (.iter l pos) => match decide (pos < l.length) with
   | true => N (.tup [.bool true, .int .i64 pos, .int .i32 (runeAt l pos)]) (H.set id (.iter l (pos + runeW l pos)))
   | false => N (.tup [.bool false]) H
  | _ => False
 | _, _ => False
theorem iterAt_facts (w : World) (k : Nat) (s : ByteArray) (pos : Nat) (o : Obj) (hk : w.heap[k]? = some o) : (w.iterAt k s pos).heap[k]? = some (.stringIter s pos) ∧ (∀ j, j ≠ k → (w.iterAt k s pos).heap[j]? = w.heap[j]?) ∧ (w.iterAt k s pos).heap.size = w.heap.size := by
 have hlt := lt_of_some hk
 refine ⟨?_, fun j hj => ?_, ?_⟩
 ·show (w.heap.setIfInBounds k _)[k]? = _
  rw [Array.getElem?_setIfInBounds, if_pos rfl, if_pos hlt]
 ·show (w.heap.setIfInBounds k _)[j]? = _
  rw [Array.getElem?_setIfInBounds, if_neg (fun h => hj h.symm)]
 ·show (w.heap.setIfInBounds k _).size = _
  simp
theorem nextA_sound {H : List Blk} (hH : HRel ρ S w H) {x : AV} {v : Value} {isS : Bool} {ty : TypeId} {N : AV → List Blk → Prop} (hx : V ρ S w x v) (h : nextA x isS H N) :
  VOk P ρ S w (Instr.next v isS ty) N := by
 unfold nextA at h
 split at h
 ·rename_i id
  cases hx with
  | iter _ b hb =>
   split at h
   ·rename_i l pos hid
    obtain ⟨hnS, s, h1, rfl, hm⟩ := hH.blk id _ hid b hb
    have hs : (⟨s.data.toList.toArray⟩ : ByteArray) = s := by simp
    split at h
    ·rename_i hd
     have hlt : pos < s.size := by simpa using hd
     rw [runeAt_eq, runeW_eq, hs] at h
     have hf := iterAt_facts w b s (pos + (Utf8.decode s pos).2) _ h1
     have hE : Ext ρ S w ρ S (w.iterAt b s (pos + (Utf8.decode s pos).2)) := ext_upd hH hb hnS hf.2.2 hf.2.1 (fun a' T' f' h' => by rw [h1] at h'; cases h') rfl rfl rfl
     have hdl := decode_le s pos
     have hml := hm
     rw [maxLen_eq, bsize] at hml
     refine ⟨_, _, _, _, ρ, Lib.run_next_any_at w b s pos ty h1 hlt, h, ?_, ?_, hE⟩
     ·refine .tup _ _ rfl fun i c v hc hv => ?_
      match i with
      | 0 => simp at hc hv; subst hc; subst hv; exact .bool _
      | 1 => simp at hc hv; subst hc; subst hv; exact V.int' (by simp only [inK, lo, hi]; omega)
      | 2 => simp at hc hv; subst hc; subst hv; exact V.int' (by simp only [inK, lo, hi]; omega)
      | i + 3 => simp at hc
     ·refine hrel_upd hH hid rfl hb hE hf.2.2 hf.2.1 ?_
      intro b' hb'
      rw [hb] at hb'; cases hb'
      exact ⟨hnS, s, hf.1, rfl, hm⟩
    ·rename_i hd
     have hlt : ¬ pos < s.size := by simpa using hd
     refine VOk.same hH (Lib.run_next_end_at w b s pos ty h1 hlt) h ?_
     refine .tup _ _ rfl fun i c v hc hv => ?_
     match i with
     | 0 => simp at hc hv; subst hc; subst hv; exact .bool _
     | i + 1 => simp at hc
   ·exact h.elim
 ·exact h.elim
end
end Go.Vc
namespace Go.Vc
open Go
section
variable {P : Program} {TY : TypeId → Option TI} {ρ : Nat → Option Nat} {S : Nat → Prop} {w : World}
def keyEq : TK → AV → AV → Option Bool
 | .int _, .int k a, .int k' b => if k = k' then some (eqI a b) else none
 | .str, .str a, .str b => some (a == b)
 | .bool, .bool a, .bool b => some (a == b)
 | _, _, _ => none
def findE (kd : TK) (key : AV) : List (AV × AV) → Nat → (Option (Nat × AV) → Prop) → Prop
 | [], _, K => K none
 | (k', v) :: es, i, K => match keyEq kd key k' with
  | some b => (match b with
   | true => K (some (i, v))
   | false => findE kd key es (i + 1) K)
  | none => False
theorem keyEq_real {kd : TK} {d : TypeDesc} (hd : TK.of d = kd) {x y : AV} {vx vy : Value} (hx : V ρ S w x vx) (hy : V ρ S w y vy) {b : Bool} (h : keyEq kd x y = some b) : Instr.sameNow d vx vy = some b := by
 have hk := kind_desc (i := ⟨0, 0, false, kd, none, false⟩) hd
 obtain ⟨kb, ki, kstr, _⟩ := hk
 unfold keyEq at h
 split at h
 ·split at h
  ·rename_i hkk
   subst hkk
   cases h
   obtain rfl := ki _ rfl
   obtain ⟨rfl, _⟩ := hx.intR
   obtain ⟨rfl, _⟩ := hy.intR
   simp [Instr.sameNow, eqI_eq]
  ·cases h
 ·cases h
  obtain rfl := kstr rfl
  obtain ⟨s, rfl, rfl, _⟩ := hx.strR
  obtain ⟨s', rfl, rfl, _⟩ := hy.strR
  simp only [Instr.sameNow]
  rw [beq_toListBytes, ByteArray.toList_eq, ByteArray.toList_eq]
 ·cases h
  obtain rfl := kb rfl
  obtain rfl := hx.boolR
  obtain rfl := hy.boolR
  rfl
 ·cases h
def MRel (ρ : Nat → Option Nat) (S : Nat → Prop) (w : World) (es : List (AV × AV)) (es' : List MapEntry) : Prop :=
 es.length = es'.length ∧ ∀ (i : Nat) k x (e : MapEntry), es[i]? = some (k, x) → es'[i]? = some e → V ρ S w k e.key ∧ V ρ S w x e.val
theorem MRel.tail {p : AV × AV} {e : MapEntry} {es : List (AV × AV)} {es' : List MapEntry} (h : MRel ρ S w (p :: es) (e :: es')) : MRel ρ S w es es' :=
 ⟨by simpa using h.1, fun i k x e hi he => h.2 (i + 1) k x e (by simpa using hi) (by simpa using he)⟩
theorem findE_real {kd : TK} {d : TypeDesc} (hd : TK.of d = kd) {x : AV} {vx : Value} (hx : V ρ S w x vx) : ∀ (es : List (AV × AV)) (es' : List MapEntry) (i : Nat) (K : Option (Nat × AV) → Prop), MRel ρ S w es es' → findE kd x es i K →
  ∃ r r', K r ∧ Instr.findNow d vx es' i = some r' ∧ (match r, r' with | none, none => True | some (j, a), some (j', v) => j = j' ∧ V ρ S w a v ∧ (∃ e, es'[j - i]? = some e ∧ Instr.sameNow d vx e.key = some true) ∧ i ≤ j | _, _ => False)
 | [], es', i, K, hm, h => by
  cases es' with
  | nil => exact ⟨none, none, h, rfl, trivial⟩
  | cons _ _ => have := hm.1; simp at this
 | (k', v) :: es, es', i, K, hm, h => by
  cases es' with
  | nil => have := hm.1; simp at this
  | cons e es' =>
   rw [findE] at h
   obtain ⟨hk, hv⟩ := hm.2 0 k' v e rfl rfl
   split at h
   ·rename_i b hb
    have hsn := keyEq_real hd hx hk hb
    split at h
    ·refine ⟨some (i, v), some (i, e.val), h, by simp [Instr.findNow, hsn], rfl, hv, ⟨e, by simp, hsn⟩, Nat.le_refl _⟩
    ·obtain ⟨r, r', h1, h2, h3⟩ := findE_real hd hx es es' (i + 1) K hm.tail h
     refine ⟨r, r', h1, by simp [Instr.findNow, hsn, h2], ?_⟩
     cases r with
     | none => cases r' with
      | none => trivial
      | some _ => exact h3
     | some p => cases r' with
      | none => exact h3
      | some q =>
       obtain ⟨g1, g2, ⟨e0, g3, g5⟩, g4⟩ := h3
       refine ⟨g1, g2, ⟨e0, ?_, g5⟩, by omega⟩
       rw [show p.1 - i = (p.1 - (i + 1)) + 1 by omega, List.getElem?_cons_succ]
       exact g3
   ·exact h.elim
def plainKey : TK → Bool
 | .int _ | .str | .bool => true
 | _ => false
theorem run_checkKey {t : TypeId} {d : TypeDesc} {kd : TK} (hd : TK.of d = kd) (hp : plainKey kd = true) (ht : P.underlying t = some d) (b : Bool) (v : Value) : (Instr.checkKey b 10000 t v).run P w = .ok () w := by
 have hk := kind_desc (i := ⟨0, 0, false, kd, none, false⟩) hd
 obtain ⟨kb, ki, kstr, _⟩ := hk
 have : d = .bool ∨ (∃ k, d = .int k) ∨ d = .string := by
  cases kd <;> simp [plainKey] at hp
  ·exact .inl (kb rfl)
  ·exact .inr (.inl ⟨_, ki _ rfl⟩)
  ·exact .inr (.inr (kstr rfl))
 rw [Instr.checkKey.eq_def]
 rcases this with rfl | ⟨k, rfl⟩ | rfl <;> simp only [Sem.run_bind, run_underlying' ht, Result.andThen_ok] <;> cases v <;> rfl
def mapOf (H : List Blk) (x : AV) : Option (List (AV × AV)) :=
 match x with
 | .nilmap => some []
 | .map id => match H[id]? with
  | some (.map es) => some es
  | _ => none
 | _ => none
def lookupA (TY : TypeId → Option TI) (t : TypeId) (x key : AV) (ok : Bool) (H : List Blk) (N : AV → Prop) : Prop :=
 match TY t with
 | none => False
 | some i => match i.kind with
  | .map kt et => match TY kt, TY et with
   | some ki, some ei => if plainKey ki.kind = true then (match mapOf H x with
    | none => False
    | some es => findE ki.kind key es 0 fun r => match r with
     | some (_, v) => N (if ok then .tup [v, .bool true] else v)
     | none => optP ei.zero fun z => N (if ok then .tup [z, .bool false] else z)) else False
   | _, _ => False
  | _ => False
theorem mapOf_real {H : List Blk} (hH : HRel ρ S w H) {x : AV} {v : Value} (hx : V ρ S w x v) {es : List (AV × AV)} (h : mapOf H x = some es) :
  ∃ es', MRel ρ S w es es' ∧ ((v = .map none ∧ es' = []) ∨ ∃ b arr clock, v = .map (some b) ∧ w.heap[b]? = some (.map arr clock) ∧ arr.toList = es') := by
 unfold mapOf at h
 split at h
 ·cases h; cases hx
  exact ⟨[], ⟨rfl, fun i k x e hi => by simp at hi⟩, .inl ⟨rfl, rfl⟩⟩
 ·rename_i id
  split at h
  ·rename_i es0 hid
   cases h
   cases hx with
   | map _ b hb =>
    obtain ⟨_, arr, clock, h1, h2, h3⟩ := hH.blk id _ hid b hb
    exact ⟨arr.toList, ⟨by simpa using h2, fun i k x e hi he => h3 i k x e hi (by simpa using he)⟩, .inr ⟨b, arr, clock, rfl, h1, rfl⟩⟩
  ·cases h
 ·cases h
theorem lookupA_sound (hTY : TyOk P TY) {H : List Blk} (hH : HRel ρ S w H) {t : TypeId} {x key : AV} {v u : Value} {ok : Bool} {N : AV → Prop} (hx : V ρ S w x v) (hk : V ρ S w key u) (h : lookupA TY t x key ok H N) :
  VSt P ρ S w (Instr.lookup t v u ok) N := by
 unfold lookupA at h
 split at h
 ·exact h.elim
 ·rename_i i hi
  obtain ⟨_, d, _, h2, _, _, _, h6, _, _⟩ := hTY.get hi
  split at h
  ·rename_i kt et hkm
   obtain rfl := (kind_desc h6).2.2.2.2.2.2.1 _ _ hkm
   split at h
   ·rename_i ki ei hki hei
    obtain ⟨_, dk, _, g2, _, _, _, g6, _, _⟩ := hTY.get hki
    split at h
    ·rename_i hp
     split at h
     ·exact h.elim
     ·rename_i es hes
      obtain ⟨es', hm, hcase⟩ := mapOf_real hH hx hes
      obtain ⟨r, r', hK, hf, hrr⟩ := findE_real g6 hk es es' 0 _ hm h
      have hfk : (Instr.findKey kt u es').run P w = .ok r' w := by
       unfold Instr.findKey
       simp [run_underlying' g2, hf]
      have hrun : ∀ (val : Value) (fnd : Bool), (match r' with | some (_, v) => (pure (v, true) : Sem (Value × Bool)) | none => do pure (← zeroValue et, false)).run P w = .ok (val, fnd) w →
        (Instr.lookup t v u ok).run P w = .ok (if ok then .tuple #[val, .bool fnd] else val) w := by
       intro val fnd hv
       unfold Instr.lookup
       rcases hcase with ⟨rfl, rfl⟩ | ⟨b, arr, clock, rfl, hb, rfl⟩
       ·simp only [Sem.run_bind, run_underlying' h2, Result.andThen_ok, Sem.run_pure, run_checkKey g6 hp g2]
        rw [show (Instr.findKey kt u (#[] : Array MapEntry).toList) = Instr.findKey kt u [] from rfl, hfk]
        cases r' with
        | none =>
         simp only [Sem.run_bind, Sem.run_pure] at hv
         simp only [Result.andThen_ok, Sem.run_bind, Sem.run_pure]
         generalize (zeroValue et).run P w = zr at *
         cases zr <;> simp [Result.andThen] at hv ⊢
         obtain ⟨⟨rfl, rfl⟩, rfl⟩ := hv
         simp
        | some p =>
         simp only [Sem.run_pure, Result.ok.injEq, Prod.mk.injEq, and_true] at hv
         obtain ⟨rfl, rfl⟩ := hv
         simp
       ·have hget : (getObj b).run P w = .ok (.map arr clock) w := by simp [getObj, Sem.run, hb]
        simp only [Sem.run_bind, run_underlying' h2, Result.andThen_ok, Sem.run_pure, hget, run_checkKey g6 hp g2, hfk]
        cases r' with
        | none =>
         simp only [Sem.run_bind, Sem.run_pure] at hv
         simp only [Result.andThen_ok, Sem.run_bind, Sem.run_pure]
         generalize (zeroValue et).run P w = zr at *
         cases zr <;> simp [Result.andThen] at hv ⊢
         obtain ⟨⟨rfl, rfl⟩, rfl⟩ := hv
         simp
        | some p =>
         simp only [Sem.run_pure, Result.ok.injEq, Prod.mk.injEq, and_true] at hv
         obtain ⟨rfl, rfl⟩ := hv
         simp
      have htup : ∀ (c : AV) (val : Value) (fnd : Bool), V ρ S w c val → V ρ S w (if ok then .tup [c, .bool fnd] else c) (if ok then .tuple #[val, .bool fnd] else val) := by
       intro c val fnd hc
       cases ok
       ·exact hc
       ·refine .tup _ _ rfl fun i c' v' h1 h2 => ?_
        match i with
        | 0 => simp at h1 h2; subst h1; subst h2; exact hc
        | 1 => simp at h1 h2; subst h1; subst h2; exact .bool _
        | i + 2 => simp at h1
      cases r with
      | none =>
       cases r' with
       | some _ => exact hrr.elim
       | none =>
        obtain ⟨z, hz, hN⟩ := optP_some hK
        obtain ⟨zv, hzv, rfl⟩ := hTY.zero hei hz
        exact VSt.same hH (hrun zv false (by simp [hzv])) hN (htup _ _ _ (V.ofC _))
      | some p =>
       cases r' with
       | none => exact hrr.elim
       | some q =>
        obtain ⟨pj, pv⟩ := p
        obtain ⟨qj, qv⟩ := q
        obtain ⟨_, hv, _⟩ := hrr
        exact VSt.same hH (hrun qv true rfl) hK (htup _ _ _ hv)
    ·exact h.elim
   ·exact h.elim
  ·exact h.elim
def mapSetA (TY : TypeId → Option TI) (t : TypeId) (x key val : AV) (H : List Blk) (N : List Blk → Prop) : Prop :=
 match TY t, x with
 | some i, .map id => match i.kind with
  | .map kt _ => match TY kt with
   | some ki => if plainKey ki.kind = true then (match H[id]? with
    | some (.map es) => findE ki.kind key es 0 fun r => match r with
     | some (j, _) => N (H.set id (.map (es.set j (key, val))))
     | none => N (H.set id (.map (es ++ [(key, val)])))
    | _ => False) else False
   | none => False
  | _ => False
 | _, _ => False
theorem sameBits_of {d : TypeDesc} {a b : Value} (h : Instr.sameNow d a b = some true) (n : Nat) : Instr.sameBits n b a = true := by
 unfold Instr.sameNow at h
 split at h
 ·split at h
  ·rename_i hk
   subst hk
   simp at h
   subst h
   cases n <;> simp [Instr.sameBits]
  ·cases h
 ·rename_i a b
  simp only [Option.some.injEq] at h
  have h' : (b == a) = true := by
   rw [beq_toListBytes] at h ⊢
   simp only [beq_iff_eq] at h ⊢
   exact h.symm
  cases n <;> simp only [Instr.sameBits, h']
 ·simp at h
  subst h
  cases n <;> simp [Instr.sameBits]
 ·cases h
theorem setMap_facts (w : World) (k : Nat) (o o' : Obj) (hk : w.heap[k]? = some o) : ({ w with heap := w.heap.setIfInBounds k o' } : World).heap[k]? = some o' ∧ (∀ j, j ≠ k → ({ w with heap := w.heap.setIfInBounds k o' } : World).heap[j]? = w.heap[j]?) ∧
  ({ w with heap := w.heap.setIfInBounds k o' } : World).heap.size = w.heap.size := by
 have hlt := lt_of_some hk
 refine ⟨?_, fun j hj => ?_, by simp⟩
 ·show (w.heap.setIfInBounds k _)[k]? = _
  rw [Array.getElem?_setIfInBounds, if_pos rfl, if_pos hlt]
 ·show (w.heap.setIfInBounds k _)[j]? = _
  rw [Array.getElem?_setIfInBounds, if_neg (fun h => hj h.symm)]
theorem mapSetA_sound (hTY : TyOk P TY) {H : List Blk} (hH : HRel ρ S w H) {t : TypeId} {x key val : AV} {v u z : Value} {N : List Blk → Prop} (hx : V ρ S w x v) (hk : V ρ S w key u) (hz : V ρ S w val z) (h : mapSetA TY t x key val H N) :
  ∃ w' H', (Instr.mapUpdate t v u z).run P w = .ok () w' ∧ N H' ∧ HRel ρ S w' H' ∧ Ext ρ S w ρ S w' := by
 unfold mapSetA at h
 split at h
 ·rename_i i id hi
  obtain ⟨_, d, _, h2, _, _, _, h6, _, _⟩ := hTY.get hi
  cases hx with
  | map _ b hb =>
  split at h
  ·rename_i kt et hkm
   obtain rfl := (kind_desc h6).2.2.2.2.2.2.1 _ _ hkm
   split at h
   ·rename_i ki hki
    obtain ⟨_, dk, _, g2, _, _, _, g6, _, _⟩ := hTY.get hki
    split at h
    ·rename_i hp
     split at h
     ·rename_i es hid
      obtain ⟨hnS, arr, clock, h1, hl, hall⟩ := hH.blk id _ hid b hb
      have hm : MRel ρ S w es arr.toList := ⟨by simpa using hl, fun i k x e hi he => hall i k x e hi (by simpa using he)⟩
      obtain ⟨r, r', hK, hf, hrr⟩ := findE_real g6 hk es arr.toList 0 _ hm h
      have hfk : (Instr.findKey kt u arr.toList).run P w = .ok r' w := by
       unfold Instr.findKey
       simp [run_underlying' g2, hf]
      have hget : (getObj b).run P w = .ok (.map arr clock) w := by simp [getObj, Sem.run, h1]
      have hset : ∀ o, (setObj b o).run P w = .ok () { w with heap := w.heap.setIfInBounds b o } := fun o => by simp [setObj, Sem.run, h1]
      have fin : ∀ (arr' : Array MapEntry) (clock' : Nat) (es2 : List (AV × AV)), (Instr.mapUpdate t (.map (some b)) u z).run P w = .ok () { w with heap := w.heap.setIfInBounds b (.map arr' clock') } → N (H.set id (.map es2)) → MRel ρ S w es2 arr'.toList →
        ∃ w' H', (Instr.mapUpdate t (.map (some b)) u z).run P w = .ok () w' ∧ N H' ∧ HRel ρ S w' H' ∧ Ext ρ S w ρ S w' := by
       intro arr' clock' es2 hrun hN hm2
       obtain ⟨f1, f2, f3⟩ := setMap_facts w b _ (.map arr' clock') h1
       have hE : Ext ρ S w ρ S { w with heap := w.heap.setIfInBounds b (.map arr' clock') } := ext_upd hH hb hnS f3 f2 (fun a' T' f' h' => by rw [h1] at h'; cases h') rfl rfl rfl
       refine ⟨_, _, hrun, hN, hrel_upd hH hid rfl hb hE f3 f2 ?_, hE⟩
       intro b' hb'
       rw [hb] at hb'; cases hb'
       refine ⟨hnS, arr', clock', f1, by simpa using hm2.1, fun i k x e hi he => ?_⟩
       have := hm2.2 i k x e hi (by simpa using he)
       exact ⟨this.1.mono hE, this.2.mono hE⟩
      cases r with
      | none =>
       cases r' with
       | some _ => exact hrr.elim
       | none =>
        refine fin (arr.push { key := u, val := z, born := clock }) (clock + 1) _ ?_ hK ?_
        ·unfold Instr.mapUpdate
         simp only [Sem.run_bind, run_underlying' h2, Result.andThen_ok, hget, run_checkKey g6 hp g2, hfk, hset]
        ·refine ⟨by simp; omega, fun i k x e hi he => ?_⟩
         rw [Array.toList_push] at he
         by_cases hlt : i < es.length
         ·rw [List.getElem?_append_left hlt] at hi
          rw [List.getElem?_append_left (by simp; omega)] at he
          exact hm.2 i k x e hi he
         ·rw [List.getElem?_append_right (by omega)] at hi
          rw [List.getElem?_append_right (by simp; omega)] at he
          have hi0 : i - es.length = 0 := by
           rcases Nat.eq_zero_or_pos (i - es.length) with h0 | h0
           ·exact h0
           ·rw [List.getElem?_eq_none (by simp; omega)] at hi; cases hi
          rw [hi0] at hi
          have hi0' : i - arr.toList.length = 0 := by simp; omega
          rw [hi0'] at he
          simp at hi he
          obtain ⟨rfl, rfl⟩ := hi
          subst he
          exact ⟨hk, hz⟩
      | some p =>
       cases r' with
       | none => exact hrr.elim
       | some q =>
        obtain ⟨j, pv⟩ := p
        obtain ⟨j', qv⟩ := q
        obtain ⟨hjj, _, ⟨e0, he0, hsn⟩, _⟩ := hrr
        dsimp only at hjj he0 hK
        subst hjj
        rw [Nat.sub_zero] at he0
        have he0' : arr[j]? = some e0 := by simpa using he0
        refine fin (arr.modify j fun e => { e with key := u, val := z }) clock _ ?_ hK ?_
        ·unfold Instr.mapUpdate
         simp only [Sem.run_bind, run_underlying' h2, Result.andThen_ok, hget, run_checkKey g6 hp g2, hfk, he0']
         simp only [Option.map_some, Option.getD_some, Instr.keyThatStays, sameBits_of hsn 10000, if_true, Sem.run_pure, Result.andThen_ok, hset]
        ·refine ⟨by simp; omega, fun i k x e hi he => ?_⟩
         rw [Array.getElem?_toList, Array.getElem?_modify] at he
         rw [List.getElem?_set] at hi
         by_cases hji : j = i
         ·subst hji
          rw [if_pos rfl] at hi he
          split at hi
          ·simp only [Option.some.injEq, Prod.mk.injEq] at hi
           obtain ⟨rfl, rfl⟩ := hi
           rw [he0'] at he
           simp at he
           subst he
           exact ⟨hk, hz⟩
          ·cases hi
         ·rw [if_neg hji] at hi he
          exact hm.2 i k x e hi (by simpa using he)
     ·exact h.elim
    ·exact h.elim
   ·exact h.elim
  ·exact h.elim
 ·exact h.elim
end
end Go.Vc
namespace Go.Vc
open Go
section
variable {P : Program} {TY : TypeId → Option TI} {ρ : Nat → Option Nat} {S : Nat → Prop} {w : World}
def pickA (c a b : AV) (N : AV → Prop) : Prop :=
 match c, a, b with
 | .bool t, .bool x, .bool y => N (.bool (cond t x y))
 | .bool t, a, b => (match t with | true => N a | false => N b)
 | _, _, _ => False
def arrIndexA (TY : TypeId → Option TI) (t : TypeId) (x ix : AV) (N : AV → Prop) : Prop :=
 match TY t, ix, x with
 | some i, .int _ n, .agg cs => match i.kind with
  | .arr len e => match TY e with
   | some ei => (0 ≤ n ∧ n < len) ∧ optP (loadA ei cs (n.toNat * ei.size)) N
   | none => False
  | _ => False
 | _, _, _ => False
theorem arrIndexA_sound (hTY : TyOk P TY) {H : List Blk} (hH : HRel ρ S w H) {t : TypeId} {x ix : AV} {v u : Value} {N : AV → Prop} (hx : V ρ S w x v) (hix : V ρ S w ix u) (h : arrIndexA TY t x ix N) :
  VSt P ρ S w (Instr.index t v u) N := by
 unfold arrIndexA at h
 split at h
 ·rename_i i k n cs hi
  obtain ⟨rfl, _⟩ := hix.intR
  obtain ⟨vs, rfl, hl, hv⟩ := hx.aggR
  obtain ⟨_, d, _, h2, _, _, _, h6, _, _⟩ := hTY.get hi
  split at h
  ·rename_i len e hk
   obtain rfl := (kind_desc h6).2.2.2.2.2.1 _ _ hk
   split at h
   ·rename_i ei hei
    obtain ⟨hn, h⟩ := h
    obtain ⟨c, hc, hN⟩ := optP_some h
    obtain ⟨y, hy, hvy⟩ := run_part hTY hei hl hv hc
    refine VSt.same hH (v := y) ?_ hN hvy
    unfold Instr.index
    simp [asIntOf, run_underlying' h2, hn, hTY.size hei, hy]
   ·exact h.elim
  ·exact h.elim
 ·exact h.elim
def arrSliceA (TY : TypeId → Option TI) (t : TypeId) (x : AV) (lo hi : Option AV) (H : List Blk) (N : AV → List Blk → Prop) : Prop :=
 match TY t, x with
 | some i, .ptr id j => match i.kind with
  | .arr n e => match TY e with
   | some ei => match H[id]? with
    | some (.var cs T) => if j = 0 ∧ cs.length = n * ei.size ∧ n ≤ 16777216 then
      bndE lo 0 fun a => bndE hi n fun b => (a ≤ b ∧ b ≤ n) ∧ N (.osl id ei.size a (b - a) (some (n - a))) (H.set id (.row ei.size n (fun e => (cs.drop (e * ei.size)).take ei.size) T)) else False
    | some (.row sz' L _ _) => if j = 0 ∧ sz' = ei.size ∧ n ≤ L ∧ n ≤ 16777216 then
      bndE lo 0 fun a => bndE hi n fun b => (a ≤ b ∧ b ≤ n) ∧ N (.osl id ei.size a (b - a) (some (n - a))) H else False
    | _ => False
   | none => False
  | _ => False
 | _, _ => False
theorem arrSliceA_sound (hTY : TyOk P TY) {H : List Blk} (hH : HRel ρ S w H) {t : TypeId} {x : AV} {lo hi : Option AV} {v : Value} {lov hiv : Option Value} {N : AV → List Blk → Prop} (hx : V ρ S w x v) (hlo : optV ρ S w lo lov) (hhi : optV ρ S w hi hiv)
  (h : arrSliceA TY t x lo hi H N) : VOk P ρ S w (Instr.sliceAt t v lov hiv none) N := by
 unfold arrSliceA at h
 split at h
 ·rename_i i id j hi'
  obtain ⟨b, rfl, hb⟩ := hx.ptrR
  obtain ⟨_, d, _, h2, _, _, _, h6, _, _⟩ := hTY.get hi'
  split at h
  ·rename_i n e hk
   obtain rfl := (kind_desc h6).2.2.2.2.2.1 _ _ hk
   split at h
   ·rename_i ei hei
    split at h
    ·rename_i cs T0 hid
     split at h
     ·rename_i hcond
      obtain ⟨rfl, hlen, hn16⟩ := hcond
      obtain ⟨x1, h, ha⟩ := bndE_real h lov hlo
      obtain ⟨x2, ⟨⟨hab, hbn⟩, hN⟩, hb'⟩ := bndE_real h hiv hhi
      obtain ⟨hnS, arr, T, fr, g1, g2, g3, g4⟩ := hH.blk id _ hid b hb
      have hr := run_sliceBounds (P := P) (w := w) (isS := false) (len := n) (cap := n) (a := x1) (b := x2) (lo := lov) (hi := hiv) (ha.imp (fun h => ⟨h.2.1, h.2.2⟩) (fun h => h)) (hb'.imp (fun h => ⟨h.2.1, h.2.2⟩) (fun h => h)) hab hbn
      refine ⟨.slice (some ⟨b, if n = x1 then 0 else 0 + x1 * ei.size, none⟩) (x2 - x1) (n - x1), w, _, _, ρ, ?_, hN, ?_, ?_, Ext.refl _ _ _⟩
      ·unfold Instr.sliceAt
       simp [run_underlying' h2, Instr.sureAddr, hr, hTY.size hei, addr_add]
       split <;> simp
      ·refine .osl _ _ _ _ _ b _ _ hb (by omega) (by rw [maxLen_eq]; omega) (fun h0 => ?_) ⟨arr, _, fr, g1, ?_⟩ (fun c hc => by cases hc; rfl)
       ·rw [if_neg (by omega)]; omega
       ·rw [show x1 + (n - x1) = n by omega, g2, hlen]; exact Nat.le_refl _
      ·refine hrel_upd hH hid rfl hb (Ext.refl _ _ _) rfl (fun _ _ => rfl) ?_
       intro b' hb'
       rw [hb] at hb'; cases hb'
       refine ⟨hnS, arr, T, fr, g1, by omega, g3, fun e he => ?_, fun e j c v he hc hv => ?_⟩
       ·simp only [List.length_take, List.length_drop, hlen]
        have : (e + 1) * ei.size ≤ n * ei.size := Nat.mul_le_mul_right _ he
        rw [Nat.add_mul] at this; omega
       ·have hc' : ((cs.drop (e * ei.size)).take ei.size)[j]? = some c := hc
        rw [List.getElem?_take] at hc'
        split at hc'
        ·rw [List.getElem?_drop] at hc'
         exact g4 _ c v hc' hv
        ·cases hc'
     ·exact h.elim
    ·rename_i sz' L get T0 hid
     split at h
     ·rename_i hcond
      obtain ⟨rfl, rfl, hnL, hn16⟩ := hcond
      obtain ⟨x1, h, ha⟩ := bndE_real h lov hlo
      obtain ⟨x2, ⟨⟨hab, hbn⟩, hN⟩, hb'⟩ := bndE_real h hiv hhi
      obtain ⟨hnS, arr, T, fr, g1, g2, g3, g4⟩ := hH.blk id _ hid b hb
      have hr := run_sliceBounds (P := P) (w := w) (isS := false) (len := n) (cap := n) (a := x1) (b := x2) (lo := lov) (hi := hiv) (ha.imp (fun h => ⟨h.2.1, h.2.2⟩) (fun h => h)) (hb'.imp (fun h => ⟨h.2.1, h.2.2⟩) (fun h => h)) hab hbn
      refine ⟨.slice (some ⟨b, if n = x1 then 0 else 0 + x1 * ei.size, none⟩) (x2 - x1) (n - x1), w, _, _, ρ, ?_, hN, ?_, hH, Ext.refl _ _ _⟩
      ·unfold Instr.sliceAt
       simp [run_underlying' h2, Instr.sureAddr, hr, hTY.size hei, addr_add]
       split <;> simp
      ·refine .osl _ _ _ _ _ b _ _ hb (by omega) (by rw [maxLen_eq]; omega) (fun h0 => ?_) ⟨arr, _, fr, g1, ?_⟩ (fun c hc => by cases hc; rfl)
       ·rw [if_neg (by omega)]; omega
       ·rw [show x1 + (n - x1) = n by omega]; exact Nat.le_trans (Nat.mul_le_mul_right _ hnL) g2
     ·exact h.elim
    ·exact h.elim
   ·exact h.elim
  ·exact h.elim
 ·exact h.elim
def minmaxA (mx : Bool) (x y : AV) (N : AV → Prop) : Prop :=
 match x, y with
 | .int k a, .int k' b => if k = k' then N (.int k (match mx with | true => (if b > a then b else a) | false => (if b < a then b else a))) else False
 | _, _ => False
def capA (TY : TypeId → Option TI) (t : TypeId) (x : AV) (N : AV → Prop) : Prop :=
 match TY t with
 | none => False
 | some i => match i.kind, x with
  | .slice _, .osl _ _ _ _ (some c) => N (.int .i64 c)
  | .slice _, .sl true _ len _ => N (.int .i64 len)
  | .slice _, .nilsl => N (.int .i64 0)
  | _, _ => False
def builtinA (TY : TypeId → Option TI) (b : Builtin) (ts : List TypeId) (xs : List AV) (H : List Blk) (N : AV → List Blk → Prop) : Prop :=
 match b, ts, xs with
 | .len, [t], [x] => lenA TY t x fun c => N c H
 | .cap, [t], [x] => capA TY t x fun c => N c H
 | .append, [t, t'], [s, x] => if t = t' then appendA TY t s x H N else False
 | .min, _, [x, y] => minmaxA false x y fun c => N c H
 | .max, _, [x, y] => minmaxA true x y fun c => N c H
 | _, _, _ => False
def nilA (TY : TypeId → Option TI) (t : TypeId) (l : Nat) (N : Bool → Prop) : Prop :=
 match TY t with
 | some i => (match i.kind with
  | .slice _ => (match Nat.beq l 0 with | true => N true ∧ N false | false => N false)
  | _ => False)
 | none => False
def opA (TY : TypeId → Option TI) (wr : Bool) (op : Op) (ts : List AV) (H : List Blk) (N : AV → List Blk → Prop) : Prop :=
 match op with
 | .move x => N (evO ts x) H
 | .assign x => N (evO ts x) H
 | .pick c a b => pickA (evO ts c) (evO ts a) (evO ts b) fun r => N r H
 | .alloc e => allocA TY e H N
 | .box _ x => boxA (evO ts x) H N
 | .build t ps => buildF TY t (partsE ts ps) fun r => N r H
 | .buildSlice t n ps => buildSliceA TY t n (partsE ts ps) H N
 | .insert t m k x => mapSetA TY t (evO ts m) (evO ts k) (evO ts x) H fun H' => N .any H'
 | .mapUpdate t m k x => mapSetA TY t (evO ts m) (evO ts k) (evO ts x) H fun H' => N .any H'
 | .load t a => loadPA TY t (evO ts a) H fun r => N r H
 | .store t a x => storePA TY t (evO ts a) (evO ts x) H fun H' => N .any H'
 | .nilCheck x => nilCheckA (evO ts x) fun r => N r H
 | .binOp op t x y _ => (match op, evO ts x, evO ts y with
  | .eql, .sl _ _ l _, .nilsl => nilA TY t l fun b => N (.bool b) H
  | op, a, b => binA TY wr op t a b fun r => N r H)
 | .unOp op _ x => unA wr op (evO ts x) fun r => N r H
 | .convert s d x => convA TY wr s d (evO ts x) H fun r => N r H
 | .makeInterface t x => (match TY t with | some i => (match i.kind with | .iface => False | _ => N (.iface t (evO ts x)) H) | none => False)
 | .makeFunc fn first caps => (match fn, first.toList with | .func f, [] => N (.fn f (caps.toList.map (evO ts))) H | _, _ => False)
 | .makeMap _ none => N (.map H.length) (H ++ [.map []])
 | .makeSlice t l c => makeSliceA TY t (evO ts l) (evO ts c) H N
 | .slice t x l h m => (match TY t with
  | some i => (match i.kind, m with
   | .arr _ _, none => arrSliceA TY t (evO ts x) (l.map (evO ts)) (h.map (evO ts)) H N
   | .arr _ _, some _ => False
   | _, _ => sliceA TY t (evO ts x) (l.map (evO ts)) (h.map (evO ts)) (m.map (evO ts)) fun r => N r H)
  | none => False)
 | .fieldAddr t x f => fieldAddrA TY t (evO ts x) f fun r => N r H
 | .field t x f => fieldA TY t (evO ts x) f fun r => N r H
 | .indexAddr t x i => indexAddrA TY t (evO ts x) (evO ts i) fun r => N r H
 | .index t x i => (match evO ts x with
  | .agg cs => arrIndexA TY t (.agg cs) (evO ts i) fun r => N r H
  | x => indexA TY t x (evO ts i) fun r => N r H)
 | .lookup t x i ok => lookupA TY t (evO ts x) (evO ts i) ok H fun r => N r H
 | .range t x => rangeA TY t (evO ts x) H N
 | .next it isS => nextA (evO ts it) isS H N
 | .extract t i => extractA (evO ts t) i fun r => N r H
 | .call c => (match c.callee with
  | .builtin b => builtinA TY b c.argTypes.toList (c.args.toList.map (evO ts)) H N
  | _ => False)
 | _ => False
theorem pickA_sound {c a b : AV} {cv av bv : Value} {N : AV → Prop} (hc : V ρ S w c cv) (ha : V ρ S w a av) (hb : V ρ S w b bv) (h : pickA c a b N) :
  OpSt P ρ S w (do pure (.value (if ← asBool cv then av else bv))) N := by
 have fin : ∀ (t : Bool) (r : AV), cv = .bool t → N r → V ρ S w r (if t then av else bv) → OpSt P ρ S w (do pure (.value (if ← asBool cv then av else bv))) N := by
  rintro t r rfl hN hr
  exact ⟨_, r, by simp [asBool], hN, hr⟩
 unfold pickA at h
 split at h
 ·rename_i t x y
  obtain rfl := hc.boolR
  refine fin t _ rfl h ?_
  cases t
  ·exact hb
  ·exact ha
 ·rename_i t _ _ _
  obtain rfl := hc.boolR
  split at h
  ·exact fin true _ rfl h ha
  ·exact fin false _ rfl h hb
 ·exact h.elim
theorem optV_map {ts : List AV} {a : Act} (hT : TRel ρ S w ts a.tmps) (x : Option Operand) : optV ρ S w (x.map (evO ts)) (x.map a.eval) := by
 cases x with
 | none => exact trivial
 | some x => exact hT.eval x
theorem run_sliceAt_eq {t : TypeId} {d : TypeDesc} (h : P.underlying t = some d) (hna : ∀ n e, d ≠ .array n e) (x : Value) (l hh m : Option Value) : (Instr.sliceAt t x l hh m).run P w = (Instr.slice t x l hh m).run P w := by
 unfold Instr.sliceAt
 simp only [Sem.run_bind, run_underlying' h, Result.andThen_ok]
theorem V.sl_clip {sz len : Nat} {get : Nat → List AV} {v : Value} (h : V ρ S w (.sl true sz len get) v) : ∃ a, v = .slice a len len ∧ len ≤ maxLen := by
 cases h with
 | sln _ _ _ ao => exact ⟨ao, rfl, Nat.zero_le _⟩
 | sl _ _ _ _ b o cap f hs hl hm hcl =>
  obtain rfl := hcl rfl
  exact ⟨_, rfl, hm⟩
def valueB : Builtin → Bool
 | .append => false
 | _ => true
theorem builtinV_sound (hTY : TyOk P TY) {H : List Blk} (hH : HRel ρ S w H) {ts : List AV} {a : Act} (hT : TRel ρ S w ts a.tmps) {b : Builtin} {args : Array Operand} {argTypes : Array TypeId} {ty : TypeId} {cs : Array Bool}
  (hb : valueB b = true) {N : AV → List Blk → Prop} (h : builtinA TY b argTypes.toList (args.toList.map (evO ts)) H N) :
  OpSt P ρ S w (builtin b argTypes ty cs (args.map a.eval)) (fun c => N c H) := by
 obtain ⟨argTypes⟩ := argTypes
 obtain ⟨args⟩ := args
 simp only at h
 have e1 : (List.toArray args).map a.eval = (args.map a.eval).toArray := by simp
 rw [e1]
 unfold builtinA at h
 split at h
 ·rename_i t x heq
  match args, heq with
  | [o], heq =>
   simp only [List.map_cons, List.map_nil, List.cons.injEq, and_true] at heq
   subst heq
   exact (lenA_sound hTY hH (hT.eval o) h).op
 ·rename_i t x heq
  match args, heq with
  | [o], heq =>
   simp only [List.map_cons, List.map_nil, List.cons.injEq, and_true] at heq
   subst heq
   unfold capA at h
   split at h
   ·exact h.elim
   ·rename_i i hi
    obtain ⟨_, d, _, h2, _, _, _, h6, _, _⟩ := hTY.get hi
    have hv := hT.eval o
    split at h
    ·rename_i e id sz off len c hk heq
     rw [heq] at hv
     obtain rfl := (kind_desc h6).2.2.2.1 _ hk
     obtain ⟨b, o', cp, he, _, _, hm, _, _, hcap⟩ := hv.oslR
     obtain rfl := hcap c rfl
     refine (VSt.same hH (v := goInt cp) ?_ h (V.int' (by simp only [inK, Go.Vc.lo, Go.Vc.hi]; rw [maxLen_eq] at hm; omega))).op
     simp [Builtin.cap_, run_underlying' h2, he]
    ·rename_i e sz len get hk heq
     rw [heq] at hv
     obtain rfl := (kind_desc h6).2.2.2.1 _ hk
     obtain ⟨a0, he, hm⟩ := hv.sl_clip
     refine (VSt.same hH (v := goInt len) ?_ h (V.int' (by simp only [inK, Go.Vc.lo, Go.Vc.hi]; rw [maxLen_eq] at hm; omega))).op
     simp [Builtin.cap_, run_underlying' h2, he]
    ·rename_i e hk heq
     rw [heq] at hv
     obtain rfl := (kind_desc h6).2.2.2.1 _ hk
     cases hev : a.eval o <;> rw [hev] at hv <;> cases hv
     refine (VSt.same hH (v := goInt 0) ?_ h (V.int' (by simp only [inK, Go.Vc.lo, Go.Vc.hi]; omega))).op
     simp [Builtin.cap_, run_underlying' h2, hev]
    ·exact h.elim
 ·cases hb
 ·rename_i x y heq
  match args, heq with
  | [o1, o2], heq =>
   simp only [List.map_cons, List.map_nil, List.cons.injEq, and_true] at heq
   obtain ⟨h1, h2⟩ := heq
   have v1 := hT.eval o1
   have v2 := hT.eval o2
   unfold minmaxA at h
   split at h
   ·rw [h1] at v1
    rw [h2] at v2
    obtain ⟨e1, k1⟩ := v1.intR
    obtain ⟨e2, k2⟩ := v2.intR
    split at h
    ·rename_i hk
     subst hk
     refine (VSt.same hH (v := .int _ _) ?_ h (V.int' (by dsimp only; split <;> assumption))).op
     simp only [List.map_cons, List.map_nil, e1, e2]
     exact run_min_int2 w _ _ _ _ _ _
    ·exact h.elim
   ·exact h.elim
 ·rename_i x y heq
  match args, heq with
  | [o1, o2], heq =>
   simp only [List.map_cons, List.map_nil, List.cons.injEq, and_true] at heq
   obtain ⟨h1, h2⟩ := heq
   have v1 := hT.eval o1
   have v2 := hT.eval o2
   unfold minmaxA at h
   split at h
   ·rw [h1] at v1
    rw [h2] at v2
    obtain ⟨e1, k1⟩ := v1.intR
    obtain ⟨e2, k2⟩ := v2.intR
    split at h
    ·rename_i hk
     subst hk
     refine (VSt.same hH (v := .int _ _) ?_ h (V.int' (by dsimp only; split <;> assumption))).op
     simp only [List.map_cons, List.map_nil, e1, e2]
     exact run_max_int2 w _ _ _ _ _ _
    ·exact h.elim
   ·exact h.elim
 ·exact h.elim
theorem builtinA_sound (hTY : TyOk P TY) (hns : ∀ b, S b → b < w.heap.size) {H : List Blk} (hH : HRel ρ S w H) {ts : List AV} {a : Act} (hT : TRel ρ S w ts a.tmps) {b : Builtin} {args : Array Operand} {argTypes : Array TypeId} {ty : TypeId} {cs : Array Bool}
  {N : AV → List Blk → Prop} (h : builtinA TY b argTypes.toList (args.toList.map (evO ts)) H N) :
  OpOk P ρ S w (builtin b argTypes ty cs (args.map a.eval)) N := by
 by_cases hb : valueB b = true
 ·exact (builtinV_sound hTY hH hT hb h).ok hH
 ·have : b = .append := by cases b <;> first | rfl | exact absurd rfl hb
  subst this
  obtain ⟨argTypes⟩ := argTypes
  obtain ⟨args⟩ := args
  simp only at h
  have e1 : (List.toArray args).map a.eval = (args.map a.eval).toArray := by simp
  rw [e1]
  unfold builtinA at h
  split at h
  ·contradiction
  ·contradiction
  ·rename_i t t' s x hx heq
   match args, heq with
   | [o1, o2], heq =>
    simp only [List.map_cons, List.map_nil, List.cons.injEq, and_true] at heq
    obtain ⟨rfl, rfl⟩ := heq
    split at h
    ·rename_i htt
     subst htt
     exact (appendA_sound hTY hns hH (hT.eval o1) (hT.eval o2) h).op
    ·exact h.elim
  ·contradiction
  ·contradiction
  ·exact h.elim
end
end Go.Vc
