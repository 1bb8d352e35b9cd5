/- Places, parts, slices, strings. -/
import Derived.Test.YtmfamcjilhjncaaGreatV1
import Derived.Laws.Tables
import Derived.Laws.MakeOwn
import Derived.Lib.AppendStr
set_option linter.all false
namespace Go.Vc
open Go
noncomputable section
section
variable {P : Program} {TY : TypeId → Option TI} {ρ : Nat → Option Nat} {S : Nat → Prop} {w : World}
/-! ### Places -/
def fieldAddrA (TY : TypeId → Option TI) (t : TypeId) (p : AV) (f : Nat) (N : AV → Prop) : Prop :=
  match TY t with
  | none => False
  | some i => match i.kind with
    | .struct fs => match fs[f]? with
      | some (off, ft) => match TY ft with
        | some fi => if fi.size = 0 then False else match p with
          | .ptr id j => N (.ptr id (j + off))
          | .eptr id sz e j => N (.eptr id sz e (j + off))
          | .rptr cs j => N (.rptr cs (j + off))
          | _ => False
        | none => False
      | none => False
    | _ => False
theorem struct_field {i : TI} {d : TypeDesc} {fs : List (Nat × TypeId)} (h6 : TK.of d = i.kind) (hk : i.kind = .struct fs) {f off ft : Nat} (hf : fs[f]? = some (off, ft)) :
    ∃ gs g, d = .struct gs ∧ gs[f]? = some g ∧ g.offset = off ∧ g.type = ft := by
  obtain ⟨gs, hd, hl, _⟩ := (kind_desc h6).2.2.2.2.2.2.2 _ hk
  subst hl
  rw [List.getElem?_map] at hf
  cases hg : gs.toList[f]? with
  | none => rw [hg] at hf; cases hf
  | some g =>
    rw [hg] at hf
    simp at hf
    exact ⟨gs, g, hd, by simpa using hg, hf.1, hf.2⟩
theorem fieldAddrA_sound (hTY : TyOk P TY) {H : List Blk} (hH : HRel ρ S w H) {t : TypeId} {p : AV} {v : Value} {f : Nat} {N : AV → Prop} (hp : V ρ S w p v) (h : fieldAddrA TY t p f N) :
    VSt P ρ S w (Instr.fieldAt t v f) N := by
  unfold fieldAddrA at h
  split at h
  · exact h.elim
  · rename_i i hi
    obtain ⟨info, d, h1, h2, _, _, _, h6, _, _⟩ := hTY.get hi
    split at h
    · rename_i fs hk
      split at h
      · rename_i off ft hf
        split at h
        · rename_i fi hfi
          split at h
          · exact h.elim
          · rename_i hsz
            obtain ⟨gs, g, rfl, hg, rfl, rfl⟩ := struct_field h6 hk hf
            have hrun : ∀ b o, (Instr.fieldAt t (.pointer (some ⟨b, o, none⟩)) f).run P w = .ok (.pointer (some ⟨b, o + g.offset, none⟩)) w := by
              intro b o
              unfold Instr.fieldAt
              simp only [Sem.run_bind, run_underlying' h2, Result.andThen_ok, hg]
              simp [Instr.sureAddr, fieldPlace, hTY.size hfi, hsz, addr_add]
            split at h
            · obtain ⟨b, rfl, hb⟩ := hp.ptrR
              exact VSt.same hH (hrun _ _) h (.ptr _ _ _ hb)
            · obtain ⟨b, rfl, hb⟩ := hp.eptrR
              exact VSt.same hH (hrun _ _) h (by rw [Nat.add_assoc]; exact .eptr _ _ _ _ _ hb)
            · cases hp with
              | rptr cs j b o f' hs hb hc hv => exact VSt.same hH (hrun _ _) h (by rw [Nat.add_assoc]; exact .rptr _ _ _ _ _ hs hb hc hv)
            · exact h.elim
        · exact h.elim
      · exact h.elim
    · exact h.elim
def fieldA (TY : TypeId → Option TI) (t : TypeId) (x : AV) (f : Nat) (N : AV → Prop) : Prop :=
  match TY t with
  | none => False
  | some i => match i.kind with
    | .struct fs => match fs[f]? with
      | some (off, ft) => match TY ft with
        | some fi => match x with
          | .agg cs => optP (loadA fi cs off) N
          | _ => False
        | none => False
      | none => False
    | _ => False
theorem fieldA_sound (hTY : TyOk P TY) {H : List Blk} (hH : HRel ρ S w H) {t : TypeId} {p : AV} {v : Value} {f : Nat} {N : AV → Prop} (hp : V ρ S w p v) (h : fieldA TY t p f N) :
    VSt P ρ S w (Instr.field t v f) N := by
  unfold fieldA at h
  split at h
  · exact h.elim
  · rename_i i hi
    obtain ⟨info, d, h1, h2, _, _, _, h6, _, _⟩ := hTY.get hi
    split at h
    · rename_i fs hk
      split at h
      · rename_i off ft hf
        split at h
        · rename_i fi hfi
          split at h
          · rename_i cs
            obtain ⟨gs, g, rfl, hg, rfl, rfl⟩ := struct_field h6 hk hf
            obtain ⟨vs, rfl, hl, hv⟩ := hp.aggR
            obtain ⟨c, hc, hN⟩ := optP_some h
            obtain ⟨x, hx, hvx⟩ := run_part hTY hfi hl hv hc
            refine VSt.same hH (v := x) ?_ hN hvx
            unfold Instr.field
            simp [run_underlying' h2, hg, asAgg, hx]
          · exact h.elim
        · exact h.elim
      · exact h.elim
    · exact h.elim
/-! ### Slices as rows -/
/-- What a slice holds. -/
def rowE (H : List Blk) (x : AV) (K : Nat → Nat → (Nat → List AV) → Prop) : Prop :=
  match x with
  | .sl _ sz len get => K sz len get
  | .osl id sz off len _ => match H[id]? with
    | some (.row sz' L get _) => if sz = sz' then off + len ≤ L ∧ K sz len (fun e => get (off + e)) else False
    | _ => False
  | _ => False
structure RowIs (ρ : Nat → Option Nat) (S : Nat → Prop) (w : World) (sz len : Nat) (get : Nat → List AV) (ao : Option Addr) : Prop where
  size : ∀ e, e < len → (get e).length = sz
  nil : ao = none → len = 0
  at_ : ∀ a, ao = some a → (0 < len → a.spot = none) ∧ ∃ f : Nat → Nat → Value, ∀ (e j : Nat), e < len → j < sz → w.cell? ⟨a.block, a.off + e * sz + j, none⟩ = some (f e j) ∧ ∀ (c : AV), (get e)[j]? = some c → V ρ S w c (f e j)
theorem rowE_real {H : List Blk} (hH : HRel ρ S w H) {x : AV} {v : Value} (hx : V ρ S w x v) {K : Nat → Nat → (Nat → List AV) → Prop} (h : rowE H x K) :
    ∃ sz len get ao cap, K sz len get ∧ v = .slice ao len cap ∧ len ≤ cap ∧ cap ≤ maxLen ∧ RowIs ρ S w sz len get ao := by
  unfold rowE at h
  split at h
  · rename_i clip sz len get
    cases hx with
    | sln _ _ _ ao => exact ⟨sz, 0, get, ao, 0, h, rfl, Nat.le_refl _, Nat.zero_le _, fun e he => by omega, fun _ => rfl, fun a ha => ⟨fun h => by omega, fun _ _ => undef, fun e j he => by omega⟩⟩
    | sl _ _ _ _ b o cap f hs hl hm hcl hz hc hv =>
      refine ⟨sz, len, get, _, cap, h, rfl, hl, hm, hz, fun ha => (by cases ha), fun a ha => ?_⟩
      cases ha
      exact ⟨fun _ => rfl, f, fun e j he hj => ⟨hc e j he hj, fun c hc' => (hv e j c he hc').lift⟩⟩
  · rename_i id sz off len cap
    split at h
    · rename_i sz' L get T0 hcs
      split at h
      · rename_i hsz
        subst hsz
        obtain ⟨hle, hK⟩ := h
        cases hx with
        | osl _ _ _ _ _ b o cp hb hl hm ho hx hcap =>
          obtain ⟨_, arr, T, fr, h1, h2, _, h4, h5⟩ := hH.blk id _ hcs b hb
          refine ⟨sz, len, _, _, cp, hK, rfl, hl, hm, fun e he => h4 _ (by omega), fun ha => (by cases ha), fun a ha => ?_⟩
          cases ha
          refine ⟨fun _ => rfl, fun e j => arr.getD ((off + e) * sz + j) undef, fun e j he hj => ?_⟩
          have hin : (off + e) * sz + j < arr.size := by
            have : (off + e + 1) * sz ≤ L * sz := Nat.mul_le_mul_right _ (by omega)
            rw [Nat.add_mul] at this; omega
          have heq : o + e * sz + j = (off + e) * sz + j := by rw [ho (by omega), Nat.add_mul]
          refine ⟨?_, fun c hc' => h5 (off + e) j c _ (by omega) hc' (by simp [hin])⟩
          show w.cell? ⟨b, o + e * sz + j, none⟩ = _
          rw [heq]
          simp only [World.cell?, h1]
          simp [hin]
      · exact h.elim
    · exact h.elim
  · exact h.elim
/-- An element's place. -/
def indexAddrA (TY : TypeId → Option TI) (t : TypeId) (x ix : AV) (N : AV → Prop) : Prop :=
  match TY t, ix with
  | some i, .int _ n => match i.kind with
    | .slice e => match TY e with
      | some ei => match x with
        | .sl _ sz len get => if sz = ei.size then (0 ≤ n ∧ n < len) ∧ N (.rptr (get n.toNat) 0) else False
        | .osl id sz off len _ => if sz = ei.size then (0 ≤ n ∧ n < len) ∧ N (.eptr id sz (off + n.toNat) 0) else False
        | _ => False
      | none => False
    | .arr len e => match TY e with
      | some ei => (0 ≤ n ∧ n < len) ∧ (match x with
        | .ptr id j => N (.ptr id (j + n.toNat * ei.size))
        | .eptr id sz e j => N (.eptr id sz e (j + n.toNat * ei.size))
        | .rptr cs j => N (.rptr cs (j + n.toNat * ei.size))
        | _ => False)
      | none => False
    | _ => False
  | _, _ => False
theorem indexAddrA_sound (hTY : TyOk P TY) {H : List Blk} (hH : HRel ρ S w H) {t : TypeId} {x ix : AV} {v u : Value} {N : AV → Prop} (hx : V ρ S w x v) (hix : V ρ S w ix u) (h : indexAddrA TY t x ix N) :
    VSt P ρ S w (Instr.indexAt t v u) N := by
  unfold indexAddrA at h
  split at h
  · rename_i i k n hi
    obtain ⟨rfl, _⟩ := hix.intR
    obtain ⟨info, d, h1, h2, _, _, _, h6, _, _⟩ := hTY.get hi
    obtain ⟨_, _, _, ks, _, ka, _, _⟩ := kind_desc h6
    split at h
    · rename_i e hk
      obtain rfl := ks _ hk
      split at h
      · rename_i ei hei
        have hrun : ∀ (b o len cap : Nat), 0 ≤ n ∧ n < len → (Instr.indexAt t (.slice (some ⟨b, o, none⟩) len cap) (.int k n)).run P w = .ok (.pointer (some ⟨b, o + n.toNat * ei.size, none⟩)) w := by
          intro b o len cap hn
          unfold Instr.indexAt
          simp [asIntOf, run_underlying' h2, hn, hTY.size hei, addr_add]
        split at h
        · rename_i clip sz len get
          split at h
          · rename_i hsz
            subst hsz
            obtain ⟨hn, hN⟩ := h
            cases hx with
            | sln => omega
            | sl _ _ _ _ b o cap f hs hl hm hcl hz hc hv =>
              refine VSt.same hH (hrun _ _ _ _ hn) hN ?_
              have := VI.rptr (ρ := ρ) (S := S) (w := w) (get n.toNat) 0 b (o + n.toNat * ei.size) (f n.toNat) (hs (by omega)).1 (hs (by omega)).2 (fun j hj => ?_) (fun j c hc' => ?_)
              · simpa using this
              · exact hc _ _ (by omega) (by rw [hz _ (by omega)] at hj; exact hj)
              · exact hv _ _ _ (by omega) hc'
          · exact h.elim
        · rename_i id sz off len cap
          split at h
          · rename_i hsz
            subst hsz
            obtain ⟨hn, hN⟩ := h
            cases hx with
            | osl _ _ _ _ _ b o cp hb hl hm ho hx hcap =>
              refine VSt.same hH (hrun _ _ _ _ hn) hN ?_
              have := VI.eptr (ρ := ρ) (S := S) (w := w) id ei.size (off + n.toNat) 0 b hb
              rw [ho (by omega), ← Nat.add_mul]
              simpa using this
          · exact h.elim
        · exact h.elim
      · exact h.elim
    · rename_i len e hk
      obtain rfl := ka _ _ hk
      split at h
      · rename_i ei hei
        obtain ⟨hn, h⟩ := h
        have hrun : ∀ b o, (Instr.indexAt t (.pointer (some ⟨b, o, none⟩)) (.int k n)).run P w = .ok (.pointer (some ⟨b, o + n.toNat * ei.size, none⟩)) w := by
          intro b o
          unfold Instr.indexAt
          simp [asIntOf, run_underlying' h2, hn, hTY.size hei, addr_add, Instr.sureAddr]
        split at h
        · obtain ⟨b, rfl, hb⟩ := hx.ptrR
          exact VSt.same hH (hrun _ _) h (.ptr _ _ _ hb)
        · obtain ⟨b, rfl, hb⟩ := hx.eptrR
          exact VSt.same hH (hrun _ _) h (by rw [Nat.add_assoc]; exact .eptr _ _ _ _ _ hb)
        · cases hx with
          | rptr cs j b o f' hs hb hc hv => exact VSt.same hH (hrun _ _) h (by rw [Nat.add_assoc]; exact .rptr _ _ _ _ _ hs hb hc hv)
        · exact h.elim
      · exact h.elim
    · exact h.elim
  · exact h.elim
/-- A byte of a string. -/
def indexA (TY : TypeId → Option TI) (t : TypeId) (x ix : AV) (N : AV → Prop) : Prop :=
  match TY t, ix, x with
  | some i, .int _ n, .str l => match i.kind with
    | .str => (0 ≤ n ∧ n < l.length) ∧ N (.int .u8 (l.getD n.toNat 0).toNat)
    | _ => False
  | _, _, _ => False
theorem inK_byte (b : UInt8) : inK .u8 (b.toNat : Int) := by
  have := b.toNat_lt
  simp only [inK, lo, hi]; omega
theorem indexA_sound (hTY : TyOk P TY) {H : List Blk} (hH : HRel ρ S w H) {t : TypeId} {x ix : AV} {v u : Value} {N : AV → Prop} (hx : V ρ S w x v) (hix : V ρ S w ix u) (h : indexA TY t x ix N) :
    VSt P ρ S w (Instr.index t v u) N := by
  unfold indexA at h
  split at h
  · rename_i i k n l hi
    obtain ⟨rfl, _⟩ := hix.intR
    obtain ⟨s, rfl, hs, hl⟩ := hx.strR
    obtain ⟨info, d, h1, h2, _, _, _, h6, _, _⟩ := hTY.get hi
    obtain ⟨_, _, kstr, _⟩ := kind_desc h6
    split at h
    · rename_i hk
      obtain rfl := kstr hk
      obtain ⟨hn, hN⟩ := h
      subst hs
      have hlt : n.toNat < s.size := by rw [bsize] at hn; omega
      refine VSt.same hH (v := .int .u8 ((s.data.toList.getD n.toNat 0).toNat : Nat)) ?_ hN (V.int' (inK_byte _))
      unfold Instr.index
      have hg : s[n.toNat]? = some (s.data.toList.getD n.toNat 0) := by
        rw [getElem?_pos s n.toNat hlt]
        have hlt' : n.toNat < s.data.toList.length := hlt
        rw [List.getD_eq_getElem?_getD, List.getElem?_eq_getElem hlt']
        rfl
      simp [asIntOf, run_underlying' h2, hn.1, hg]
    · exact h.elim
  · exact h.elim
/-! ### Cutting slices and strings -/
def optV (ρ : Nat → Option Nat) (S : Nat → Prop) (w : World) (x : Option AV) (v : Option Value) : Prop := match x, v with | none, none => True | some a, some v => V ρ S w a v | _, _ => False
def bndE (x : Option AV) (d : Nat) (K : Nat → Prop) : Prop := match x with
  | none => K d
  | some (.int _ n) => 0 ≤ n ∧ K n.toNat
  | some _ => False
def sliceA (TY : TypeId → Option TI) (t : TypeId) (x : AV) (lo hi mx : Option AV) (N : AV → Prop) : Prop :=
  match TY t with
  | none => False
  | some i => match i.kind, x, mx with
    | .str, .str l, none => bndE lo 0 fun a => bndE hi l.length fun b => (a ≤ b ∧ b ≤ l.length) ∧ N (.str ((l.drop a).take (b - a)))
    | .slice e, .sl clip sz len get, none => match TY e with
      | some ei => if sz = ei.size then bndE lo 0 fun a => bndE hi len fun b => (a ≤ b ∧ b ≤ len) ∧ N (.sl (clip && hi.isNone) sz (b - a) (fun k => get (a + k))) else False
      | none => False
    | .slice e, .sl clip sz len get, some (.int _ n) => match TY e with
      | some ei => if sz = ei.size ∧ hi.isSome = true then bndE lo 0 fun a => bndE hi len fun b => (a ≤ b ∧ b ≤ len ∧ (b : Int) = n) ∧ N (.sl true sz (b - a) (fun k => get (a + k))) else False
      | none => False
    | .slice e, .osl id sz off len cap, none => match TY e with
      | some ei => if sz = ei.size then bndE lo 0 fun a => bndE hi len fun b => (a ≤ b ∧ b ≤ len) ∧ N (.osl id sz (off + a) (b - a) (cap.map (· - a))) else False
      | none => False
    | .slice e, .osl id sz off len _, some (.int _ n) => match TY e with
      | some ei => if sz = ei.size ∧ hi.isSome = true then bndE lo 0 fun a => bndE hi len fun b => (a ≤ b ∧ b ≤ len ∧ (b : Int) = n) ∧ N (.osl id sz (off + a) (b - a) (some (b - a))) else False
      | none => False
    | .slice e, .nilsl, none => match TY e with
      | some _ => bndE lo 0 fun a => bndE hi 0 fun b => (a ≤ b ∧ b ≤ 0) ∧ N .nilsl
      | none => False
    | .slice e, .nilsl, some (.int _ n) => match TY e with
      | some _ => if hi.isSome = true then bndE lo 0 fun a => bndE hi 0 fun b => (a ≤ b ∧ b ≤ 0 ∧ (b : Int) = n) ∧ N .nilsl else False
      | none => False
    | _, _, _ => False
theorem bndE_real {x : Option AV} {d : Nat} {K : Nat → Prop} (h : bndE x d K) (xv : Option Value) (hx : optV ρ S w x xv) :
    ∃ n, K n ∧ ((x = none ∧ xv = none ∧ n = d) ∨ ∃ k m, xv = some (.int k m) ∧ 0 ≤ m ∧ n = m.toNat) := by
  unfold bndE at h
  split at h
  · refine ⟨d, h, .inl ⟨rfl, ?_, rfl⟩⟩
    cases xv with
    | none => rfl
    | some _ => exact hx.elim
  · rename_i k n
    cases xv with
    | none => exact hx.elim
    | some v => obtain ⟨rfl, _⟩ := V.intR hx; exact ⟨_, h.2, .inr ⟨k, n, rfl, h.1, rfl⟩⟩
  · exact h.elim
theorem run_sliceBound {k : IntKind} {m : Int} {y : Nat} (code : BoundsCode) (h : 0 ≤ m ∧ m.toNat ≤ y) : (Instr.sliceBound (.int k m) y code).run P w = .ok m.toNat w := by
  unfold Instr.sliceBound
  have : m ≤ y := by omega
  simp [asIntOf, h.1, this]
/-- The bounds of a cut, where both are in order. -/
theorem run_sliceBounds {isS : Bool} {len cap a b : Nat} {lo hi : Option Value} (hlo : (lo = none ∧ a = 0) ∨ ∃ k m, lo = some (.int k m) ∧ 0 ≤ m ∧ a = m.toNat)
    (hhi : (hi = none ∧ b = len) ∨ ∃ k m, hi = some (.int k m) ∧ 0 ≤ m ∧ b = m.toNat) (hab : a ≤ b) (hb : b ≤ cap) :
    (Instr.sliceBounds isS len cap lo hi none).run P w = .ok (a, b, cap) w := by
  unfold Instr.sliceBounds
  rcases hlo with ⟨rfl, rfl⟩ | ⟨k, m, rfl, h0, rfl⟩ <;> rcases hhi with ⟨rfl, rfl⟩ | ⟨k', m', rfl, h0', rfl⟩
  · simp
  · simp [run_sliceBound (P := P) (w := w) (k := k') (m := m') (y := cap) (if isS then .sliceAcap else .sliceAlen) ⟨h0', hb⟩]
  · simp [run_sliceBound (P := P) (w := w) (k := k) (m := m) .sliceB ⟨h0, hab⟩]
  · simp [run_sliceBound (P := P) (w := w) (k := k') (m := m') (y := cap) (if isS then .sliceAcap else .sliceAlen) ⟨h0', hb⟩, run_sliceBound (P := P) (w := w) (k := k) (m := m) .sliceB ⟨h0, hab⟩]
/-- The bounds of a cut of three. -/
theorem run_sliceBounds3 {isS : Bool} {len cap a b : Nat} {lo : Option Value} {k' : IntKind} {m' : Int} {hi : Option Value} {kx : IntKind} {mx : Int} (hlo : (lo = none ∧ a = 0) ∨ ∃ k m, lo = some (.int k m) ∧ 0 ≤ m ∧ a = m.toNat)
    (hhi : hi = some (.int k' m')) (h0' : 0 ≤ m') (hbm : b = m'.toNat) (hmx : (b : Int) = mx) (hab : a ≤ b) (hb : b ≤ cap) :
    (Instr.sliceBounds isS len cap lo hi (some (.int kx mx))).run P w = .ok (a, b, b) w := by
  subst hhi
  have hmx' : mx.toNat = b := by omega
  unfold Instr.sliceBounds
  have e1 := run_sliceBound (P := P) (w := w) (k := kx) (m := mx) (y := cap) (if isS then .slice3Acap else .slice3Alen) ⟨by omega, by omega⟩
  have e2 := run_sliceBound (P := P) (w := w) (k := k') (m := m') (y := b) .slice3B ⟨h0', by omega⟩
  rw [hmx'] at e1
  rw [← hbm] at e2
  rcases hlo with ⟨rfl, rfl⟩ | ⟨k, m, rfl, h0, rfl⟩
  · simp [e1, e2]
  · simp [e1, e2, run_sliceBound (P := P) (w := w) (k := k) (m := m) .slice3C ⟨h0, hab⟩]
theorem sl_cut {clip : Bool} {sz len : Nat} {get : Nat → List AV} {b o cap : Nat} {f : Nat → Nat → Value} (hs : 0 < len → S b ∧ b < w.heap.size) (hm : cap ≤ maxLen)
    (hz : ∀ e, e < len → (get e).length = sz) (hc : ∀ e j, e < len → j < sz → w.cell? ⟨b, o + e * sz + j, none⟩ = some (f e j)) (hv : ∀ (e j : Nat) (c : AV), e < len → (get e)[j]? = some c → VI S w (fun _ => none) c (f e j))
    {x y m : Nat} (hxy : x ≤ y) (hy : y ≤ len) (hym : y ≤ m) (hmc : m ≤ cap) (hcl : clip = true → m = y) :
    V ρ S w (.sl clip sz (y - x) (fun k => get (x + k))) (.slice (some (if m = x then ⟨b, o, none⟩ else (⟨b, o, none⟩ : Addr).add (x * sz))) (y - x) (m - x)) := by
  by_cases hmx : m = x
  · rw [if_pos hmx]
    obtain rfl : y = x := by omega
    refine .sl clip sz _ _ b o _ (fun e j => f (y + e) j) (fun h => by omega) (by omega) (by omega) (fun h => by omega) (fun e he => by omega) (fun e j he => by omega) (fun e j c he => by omega)
  · rw [if_neg hmx, addr_add]
    refine .sl clip sz _ _ b (o + x * sz) _ (fun e j => f (x + e) j) (fun h => hs (by omega)) (by omega) (by omega) (fun h => by have := hcl h; omega) (fun e he => hz _ (by omega)) (fun e j he hj => ?_) (fun e j c he hc' => hv _ _ _ (by omega) hc')
    have := hc (x + e) j (by omega) hj
    rw [← this]
    congr 2
    rw [Nat.add_mul]; omega
theorem sliceA_sound (hTY : TyOk P TY) {H : List Blk} (hH : HRel ρ S w H) {t : TypeId} {x : AV} {lo hi mx : Option AV} {v : Value} {lov hiv mxv : Option Value} {N : AV → Prop} (hx : V ρ S w x v)
    (hlo : optV ρ S w lo lov) (hhi : optV ρ S w hi hiv) (hmx : optV ρ S w mx mxv) (h : sliceA TY t x lo hi mx N) :
    VSt P ρ S w (Instr.slice t v lov hiv mxv) N := by
  unfold sliceA at h
  split at h
  · exact h.elim
  · rename_i i hi'
    obtain ⟨info, d, h1, h2, _, _, _, h6, _, _⟩ := hTY.get hi'
    obtain ⟨_, _, kstr, ks, _⟩ := kind_desc h6
    split at h
    · -- a string
      rename_i l hk
      obtain rfl := kstr hk
      obtain ⟨s, rfl, rfl, hl⟩ := hx.strR
      have hmx' : mxv = none := by cases mxv with | none => rfl | some _ => exact hmx.elim
      subst hmx'
      obtain ⟨a, h, ha⟩ := bndE_real h lov hlo
      obtain ⟨b, ⟨⟨hab, hb⟩, hN⟩, hb'⟩ := bndE_real h hiv hhi
      refine VSt.same hH (v := .string (s.extract a b)) ?_ hN (.str _ _ ?_ ?_)
      · unfold Instr.slice
        have hr := run_sliceBounds (P := P) (w := w) (isS := false) (len := s.size) (cap := s.size) (a := a) (b := b) (lo := lov) (hi := hiv) (ha.imp (fun h => ⟨h.2.1, h.2.2⟩) id) (hb'.imp (fun h => ⟨h.2.1, h.2.2⟩) id) hab (by rw [bsize] at hb; exact hb)
        simp [run_underlying' h2, hr]
      · rw [ByteArray.data_extract, Array.toList_extract]
      · have := hl
        simp only [List.length_take, List.length_drop]; omega
    · rename_i e clip sz len get hk
      obtain rfl := ks _ hk
      split at h
      · rename_i ei hei
        split at h
        · rename_i hsz
          subst hsz
          have hmx' : mxv = none := by cases mxv with | none => rfl | some _ => exact hmx.elim
          subst hmx'
          obtain ⟨a, h, ha⟩ := bndE_real h lov hlo
          obtain ⟨b, ⟨⟨hab, hb⟩, hN⟩, hb'⟩ := bndE_real h hiv hhi
          have hlo' := ha.imp (fun h => (⟨h.2.1, h.2.2⟩ : lov = none ∧ a = 0)) (fun h => h)
          have hhi' := hb'.imp (fun h => (⟨h.2.1, h.2.2⟩ : hiv = none ∧ b = len)) (fun h => h)
          cases hx with
          | sln _ _ _ ao =>
            have hr := run_sliceBounds (P := P) (w := w) (isS := true) (len := 0) (cap := 0) (a := a) (b := b) hlo' hhi' hab hb
            obtain rfl : b = 0 := by omega
            obtain rfl : a = 0 := by omega
            refine VSt.same hH (v := .slice ao 0 0) ?_ hN (.sln _ _ _ _)
            unfold Instr.slice
            simp [run_underlying' h2, hr, hTY.size hei]
          | sl _ _ _ _ bb o cap f hs hl hm hcl hz hc hv =>
            have hr := run_sliceBounds (P := P) (w := w) (isS := true) (len := len) (cap := cap) (a := a) (b := b) hlo' hhi' hab (by omega)
            refine VSt.same hH (v := .slice (some (if cap = a then ⟨bb, o, none⟩ else (⟨bb, o, none⟩ : Addr).add (a * ei.size))) (b - a) (cap - a)) ?_ hN
              (sl_cut hs hm hz hc hv hab hb (by omega) (Nat.le_refl _) (fun h => ?_))
            · unfold Instr.slice
              simp [run_underlying' h2, hr, hTY.size hei]
              split <;> rfl
            · rw [Bool.and_eq_true] at h
              have := hcl h.1
              rcases hb' with ⟨_, _, rfl⟩ | ⟨k, m, rfl, _⟩
              · exact this
              · exfalso
                have hh := h.2
                rw [Option.isNone_iff_eq_none] at hh
                subst hh
                exact hhi
        · exact h.elim
      · exact h.elim
    · rename_i e clip sz len get kx nx hk
      obtain rfl := ks _ hk
      split at h
      · rename_i ei hei
        split at h
        · rename_i hsz
          obtain ⟨hsz, hsome⟩ := hsz
          subst hsz
          cases mxv with
          | none => exact hmx.elim
          | some mv =>
            obtain ⟨rfl, _⟩ := V.intR hmx
            obtain ⟨a, h, ha⟩ := bndE_real h lov hlo
            obtain ⟨b, ⟨⟨hab, hb, hbn⟩, hN⟩, hb'⟩ := bndE_real h hiv hhi
            have hlo' := ha.imp (fun h => (⟨h.2.1, h.2.2⟩ : lov = none ∧ a = 0)) (fun h => h)
            rcases hb' with ⟨rfl, rfl, rfl⟩ | ⟨k, m, rfl, hm0, rfl⟩
            · cases hsome
            · cases hx with
              | sln _ _ _ ao =>
                have hr := run_sliceBounds3 (P := P) (w := w) (isS := true) (len := 0) (cap := 0) (a := a) (b := m.toNat) (k' := k) (kx := kx) hlo' rfl hm0 rfl hbn hab hb
                have e1 : m.toNat = 0 := by omega
                have e2 : a = 0 := by omega
                rw [e1, e2] at hr
                rw [e1, e2] at hN
                refine VSt.same hH (v := .slice ao 0 0) ?_ hN (.sln _ _ _ _)
                unfold Instr.slice
                simp [run_underlying' h2, hr, hTY.size hei]
              | sl _ _ _ _ bb o cap f hs hl hm hcl hz hc hv =>
                have hr := run_sliceBounds3 (P := P) (w := w) (isS := true) (len := len) (cap := cap) (a := a) (b := m.toNat) (k' := k) (kx := kx) hlo' rfl hm0 rfl hbn hab (by omega)
                refine VSt.same hH (v := .slice (some (if m.toNat = a then ⟨bb, o, none⟩ else (⟨bb, o, none⟩ : Addr).add (a * ei.size))) (m.toNat - a) (m.toNat - a)) ?_ hN
                  (sl_cut hs hm hz hc hv hab hb (Nat.le_refl _) (by omega) (fun _ => rfl))
                unfold Instr.slice
                simp [run_underlying' h2, hr, hTY.size hei]
                split <;> rfl
        · exact h.elim
      · exact h.elim
    · rename_i e id sz off len cap hk
      obtain rfl := ks _ hk
      split at h
      · rename_i ei hei
        split at h
        · rename_i hsz
          subst hsz
          have hmx' : mxv = none := by cases mxv with | none => rfl | some _ => exact hmx.elim
          subst hmx'
          obtain ⟨a, h, ha⟩ := bndE_real h lov hlo
          obtain ⟨b, ⟨⟨hab, hb⟩, hN⟩, hb'⟩ := bndE_real h hiv hhi
          have hlo' := ha.imp (fun h => (⟨h.2.1, h.2.2⟩ : lov = none ∧ a = 0)) (fun h => h)
          have hhi' := hb'.imp (fun h => (⟨h.2.1, h.2.2⟩ : hiv = none ∧ b = len)) (fun h => h)
          cases hx with
          | osl _ _ _ _ _ bb o cp hbb hl hm ho hx hcap =>
            have hr := run_sliceBounds (P := P) (w := w) (isS := true) (len := len) (cap := cp) (a := a) (b := b) hlo' hhi' hab (by omega)
            refine VSt.same hH (v := .slice (some ⟨bb, if cp = a then o else o + a * ei.size, none⟩) (b - a) (cp - a)) ?_ hN ?_
            · unfold Instr.slice
              simp [run_underlying' h2, hr, hTY.size hei, addr_add]
              split <;> rfl
            · refine .osl _ _ _ _ _ bb _ _ hbb (by omega) (by omega) (fun h0 => ?_) ?_ (fun c hc => ?_)
              · rw [if_neg (by omega), ho (by omega), Nat.add_mul]
              · obtain ⟨arr, T, fr, g1, g2⟩ := hx
                exact ⟨arr, T, fr, g1, by rw [show off + a + (cp - a) = off + cp by omega]; exact g2⟩
              · cases cap with
                | none => cases hc
                | some c0 => simp at hc; rw [hcap c0 rfl]; exact hc
        · exact h.elim
      · exact h.elim
    · rename_i e id sz off len cap kx nx hk
      obtain rfl := ks _ hk
      split at h
      · rename_i ei hei
        split at h
        · rename_i hsz
          obtain ⟨hsz, hsome⟩ := hsz
          subst hsz
          cases mxv with
          | none => exact hmx.elim
          | some mv =>
            obtain ⟨rfl, _⟩ := V.intR hmx
            obtain ⟨a, h, ha⟩ := bndE_real h lov hlo
            obtain ⟨b, ⟨⟨hab, hb, hbn⟩, hN⟩, hb'⟩ := bndE_real h hiv hhi
            have hlo' := ha.imp (fun h => (⟨h.2.1, h.2.2⟩ : lov = none ∧ a = 0)) (fun h => h)
            rcases hb' with ⟨rfl, rfl, rfl⟩ | ⟨k, m, rfl, hm0, hm1⟩
            · cases hsome
            · cases hx with
              | osl _ _ _ _ _ bb o cp hbb hl hm ho hx hcap =>
                have hr := run_sliceBounds3 (P := P) (w := w) (isS := true) (len := len) (cap := cp) (a := a) (b := b) (k' := k) (kx := kx) hlo' rfl hm0 hm1 hbn hab (by omega)
                refine VSt.same hH (v := .slice (some ⟨bb, if b = a then o else o + a * ei.size, none⟩) (b - a) (b - a)) ?_ hN ?_
                · unfold Instr.slice
                  simp [run_underlying' h2, hr, hTY.size hei, addr_add]
                  split <;> rfl
                · refine .osl _ _ _ _ _ bb _ _ hbb (by omega) (by omega) (fun h0 => ?_) ?_ (fun c hc => by cases hc; rfl)
                  · rw [if_neg (by omega), ho (by omega), Nat.add_mul]
                  · obtain ⟨arr, T, fr, g1, g2⟩ := hx
                    exact ⟨arr, T, fr, g1, Nat.le_trans (Nat.mul_le_mul_right _ (by omega)) g2⟩
        · exact h.elim
      · exact h.elim
    · rename_i e hk
      obtain rfl := ks _ hk
      split at h
      · rename_i ei hei
        have hmx' : mxv = none := by cases mxv with | none => rfl | some _ => exact hmx.elim
        subst hmx'
        obtain ⟨a, h, ha⟩ := bndE_real h lov hlo
        obtain ⟨b, ⟨⟨hab, hb⟩, hN⟩, hb'⟩ := bndE_real h hiv hhi
        have hlo' := ha.imp (fun h => (⟨h.2.1, h.2.2⟩ : lov = none ∧ a = 0)) (fun h => h)
        have hhi' := hb'.imp (fun h => (⟨h.2.1, h.2.2⟩ : hiv = none ∧ b = 0)) (fun h => h)
        cases hx with
        | nilsl =>
          have hr := run_sliceBounds (P := P) (w := w) (isS := true) (len := 0) (cap := 0) (a := a) (b := b) hlo' hhi' hab hb
          obtain rfl : b = 0 := by omega
          obtain rfl : a = 0 := by omega
          refine VSt.same hH (v := .slice none 0 0) ?_ hN .nilsl
          unfold Instr.slice
          simp [run_underlying' h2, hr, hTY.size hei]
      · exact h.elim
    · rename_i e kx nx hk
      obtain rfl := ks _ hk
      split at h
      · rename_i ei hei
        split at h
        · rename_i hsome
          cases mxv with
          | none => exact hmx.elim
          | some mv =>
            obtain ⟨rfl, _⟩ := V.intR hmx
            obtain ⟨a, h, ha⟩ := bndE_real h lov hlo
            obtain ⟨b, ⟨⟨hab, hb, hbn⟩, hN⟩, hb'⟩ := bndE_real h hiv hhi
            have hlo' := ha.imp (fun h => (⟨h.2.1, h.2.2⟩ : lov = none ∧ a = 0)) (fun h => h)
            rcases hb' with ⟨rfl, rfl, rfl⟩ | ⟨k, m, rfl, hm0, hm1⟩
            · cases hsome
            · cases hx with
              | nilsl =>
                have hr := run_sliceBounds3 (P := P) (w := w) (isS := true) (len := 0) (cap := 0) (a := a) (b := b) (k' := k) (kx := kx) hlo' rfl hm0 hm1 hbn hab hb
                obtain rfl : b = 0 := by omega
                obtain rfl : a = 0 := by omega
                refine VSt.same hH (v := .slice none 0 0) ?_ hN .nilsl
                unfold Instr.slice
                simp [run_underlying' h2, hr, hTY.size hei]
        · exact h.elim
      · exact h.elim
    · exact h.elim
end
end
end Go.Vc

/- Making values: structs, arrays, slices. -/
namespace Go.Vc
open Go
noncomputable section
section
variable {P : Program} {TY : TypeId → Option TI} {ρ : Nat → Option Nat} {S : Nat → Prop} {w : World}
theorem foldl_spl : ∀ (vs : List Value) (k : Nat) (arr : Array Value) (off : Nat), (vs.zipIdx k).foldl (fun cs (x : Value × Nat) => cs.setIfInBounds (off + x.2) x.1) arr = spl arr (off + k) vs := by
  intro vs
  induction vs with
  | nil => intro k arr off; rfl
  | cons v r ih =>
    intro k arr off
    rw [List.zipIdx_cons, List.foldl_cons, ih, spl]
    rfl
theorem fill_cons (place : Nat → Option (Nat × Nat)) (cells : Array Value) (i : Nat) (v : Value) (rest : List (Nat × Value)) {off size : Nat} (h : place i = some (off, size))
    (h1 : v.cells.size = size) (h2 : off + v.cells.size ≤ cells.size) : Instr.fill place cells ((i, v) :: rest) = Instr.fill place (spl cells off v.cells.toList) rest := by
  have : v.cells.zipIdx.foldl (fun cs (x : Value × Nat) => cs.setIfInBounds (off + x.2) x.1) cells = spl cells off v.cells.toList := by
    rw [← Array.foldl_toList, Array.toList_zipIdx]
    exact foldl_spl v.cells.toList 0 cells off
  rw [Instr.fill]
  simp only [h]
  rw [if_neg (by simp [h1]; omega)]
  congr 1
/-- Cells that are known, one by one. -/
def CRel (ρ : Nat → Option Nat) (S : Nat → Prop) (w : World) (cs : List AV) (arr : Array Value) : Prop :=
  cs.length = arr.size ∧ ∀ (j : Nat) (c : AV) (v : Value), cs[j]? = some c → arr[j]? = some v → V ρ S w c v
theorem CRel.over {cs : List AV} {arr : Array Value} (h : CRel ρ S w cs arr) {x : AV} {v : Value} (hn : x ≠ .any) (hx : V ρ S w x v) {off : Nat} (hin : off + x.cells.length ≤ cs.length) :
    CRel ρ S w (over cs off x.cells) (spl arr off v.cells.toList) := by
  obtain ⟨hl, hc⟩ := hx.cells hn
  have hl' : v.cells.toList.length = x.cells.length := by simp [hl]
  refine ⟨by rw [over_length hin, spl_size]; exact h.1, fun j c u hj hu => ?_⟩
  rw [over_get hin] at hj
  rw [spl_get _ _ _ _ (by rw [hl', ← h.1]; exact hin)] at hu
  split at hj
  · rw [if_pos (by omega)] at hu
    exact hc _ _ _ hj (by simpa using hu)
  · rw [if_neg (by omega)] at hu
    exact h.2 _ _ _ hj hu
def AV.isAny : AV → Bool
  | .any => true
  | _ => false
theorem AV.ne_any {x : AV} (h : x.isAny = false) : x ≠ .any := by rintro rfl; cases h
/-- Parts are laid over cells. -/
def fillA (place : Nat → Option (Nat × Nat)) : List AV → List (Nat × AV) → Option (List AV)
  | cs, [] => some cs
  | cs, (i, x) :: rest =>
    match place i with
    | none => none
    | some (off, size) => if x.isAny = false ∧ x.cells.length = size ∧ off + size ≤ cs.length then fillA place (Go.Vc.over cs off x.cells) rest else none
theorem fillA_sound (place : Nat → Option (Nat × Nat)) : ∀ (parts : List (Nat × AV)) (vparts : List (Nat × Value)) (cs : List AV) (arr : Array Value) (out : List AV),
    CRel ρ S w cs arr → (parts.length = vparts.length ∧ ∀ (k i : Nat) (x : AV) (i' : Nat) (v : Value), parts[k]? = some (i, x) → vparts[k]? = some (i', v) → i = i' ∧ V ρ S w x v) → fillA place cs parts = some out →
    ∃ arr', Instr.fill place arr vparts = some arr' ∧ CRel ρ S w out arr' := by
  intro parts
  induction parts with
  | nil =>
    intro vparts cs arr out hc hp h
    cases vparts with
    | nil => simp [fillA] at h; subst h; exact ⟨arr, by simp [Instr.fill], hc⟩
    | cons _ _ => simp at hp
  | cons p parts ih =>
    intro vparts cs arr out hc hp h
    cases vparts with
    | nil => simp at hp
    | cons vp vparts =>
      obtain ⟨i, x⟩ := p
      obtain ⟨i', v⟩ := vp
      obtain ⟨rfl, hx⟩ := hp.2 0 i x i' v rfl rfl
      rw [fillA] at h
      cases hpl : place i with
      | none => simp only [hpl] at h; cases h
      | some os =>
        obtain ⟨off, size⟩ := os
        simp only [hpl] at h
        split at h
        · rename_i hcond
          have hn := AV.ne_any hcond.1
          have hl := (hx.cells hn).1
          rw [fill_cons place arr i v vparts hpl (by omega) (by rw [← hc.1]; omega)]
          exact ih vparts _ _ out (hc.over hn hx (by omega)) ⟨by simpa using hp.1, fun k a b c d h1 h2 => hp.2 (k + 1) a b c d (by simpa using h1) (by simpa using h2)⟩ h
        · cases h
theorem mapM_some_map' {α β : Type} {f : α → Option β} {g : α → β} : ∀ (l : List α), (∀ x ∈ l, f x = some (g x)) → l.mapM f = some (l.map g)
  | [], _ => rfl
  | x :: l, h => by
    rw [List.mapM_cons, h x (List.mem_cons_self ..), mapM_some_map' l fun y hy => h y (List.mem_cons_of_mem _ hy)]
    rfl
def partsE (ts : List AV) (parts : Array (Nat × Operand)) : List (Nat × AV) := parts.toList.map fun p => (p.1, evO ts p.2)
theorem partsE_rel {ts : List AV} {a : Act} (hT : TRel ρ S w ts a.tmps) (parts : Array (Nat × Operand)) :
    (partsE ts parts).length = ((parts.map fun p => (p.1, a.eval p.2)).toList).length ∧ ∀ (k i : Nat) (x : AV) (i' : Nat) (v : Value), (partsE ts parts)[k]? = some (i, x) →
      (parts.map fun p => (p.1, a.eval p.2)).toList[k]? = some (i', v) → i = i' ∧ V ρ S w x v := by
  refine ⟨by simp [partsE], fun k i x i' v h1 h2 => ?_⟩
  simp only [partsE, List.getElem?_map] at h1
  simp only [Array.toList_map, List.getElem?_map] at h2
  cases hk : parts.toList[k]? with
  | none => rw [hk] at h1; cases h1
  | some p =>
    rw [hk] at h1 h2
    simp at h1 h2
    obtain ⟨rfl, rfl⟩ := h1
    obtain ⟨rfl, rfl⟩ := h2
    exact ⟨rfl, hT.eval _⟩
theorem crel_zero {z : AV} {v : Value} (hz : z = AV.ofC v) (hn : z ≠ .any) : CRel ρ S w z.cells v.cells := by
  subst hz
  exact (V.ofC v).cells hn
/-- A struct (or an array) out of parts. -/
def buildA (TY : TypeId → Option TI) (t : TypeId) (parts : List (Nat × AV)) (N : AV → Prop) : Prop :=
  match TY t with
  | none => False
  | some i => match i.zero with
    | none => False
    | some z => if z.isAny = false then (match i.kind with
        | .struct fs => if fs.all (fun f => (TY f.2).isSome) = true then
            optP (fillA (fun k => (fs[k]?).bind fun f => (TY f.2).map fun fi => (f.1, fi.size)) z.cells parts) fun cs => N (.agg cs) else False
        | .arr _ e => match TY e with
          | some ei => optP (fillA (fun k => some (k * ei.size, ei.size)) z.cells parts) fun cs => N (.agg cs)
          | none => False
        | _ => False) else False
theorem buildA_sound (hTY : TyOk P TY) {H : List Blk} (hH : HRel ρ S w H) {ts : List AV} {a : Act} (hT : TRel ρ S w ts a.tmps) {t : TypeId} {parts : Array (Nat × Operand)} {N : AV → Prop} (h : buildA TY t (partsE ts parts) N) :
    VSt P ρ S w (Instr.build t (parts.map fun p => (p.1, a.eval p.2))) N := by
  unfold buildA at h
  split at h
  · exact h.elim
  · rename_i i hi
    obtain ⟨info, d, h1, h2, _, _, _, h6, hzz, _⟩ := hTY.get hi
    obtain ⟨_, _, _, _, _, ka, _, kstruct⟩ := kind_desc h6
    split at h
    · exact h.elim
    · rename_i z hz
      split at h
      case isFalse => exact h.elim
      rename_i hany
      have hn : z ≠ .any := AV.ne_any hany
      have h' := h
      clear h
      rw [hz] at hzz
      cases hzi : info.zero with
      | none => rw [hzi] at hzz; cases hzz
      | some zv =>
        rw [hzi] at hzz
        simp only [Option.map_some, Option.some.injEq] at hzz
        have hcz : CRel ρ S w z.cells zv.cells := crel_zero hzz.symm hn
        have fin : ∀ (place : Nat → Option (Nat × Nat)) (cs : List AV), fillA place z.cells (partsE ts parts) = some cs → N (.agg cs) →
            (∀ arr, Instr.fill place zv.cells (parts.map fun p => (p.1, a.eval p.2)).toList = some arr → P.built t (parts.map fun p => (p.1, a.eval p.2)).toList = some arr) →
            VSt P ρ S w (Instr.build t (parts.map fun p => (p.1, a.eval p.2))) N := by
          intro place cs hcs hN hb
          obtain ⟨arr, harr, hrel⟩ := fillA_sound place _ _ _ _ _ hcz (partsE_rel hT parts) hcs
          exact VSt.same hH (run_build w t _ arr (hb arr harr)) hN (.agg _ _ hrel.1 hrel.2)
        split at h'
        · rename_i fs hk
          split at h'
          · rename_i hall
            obtain ⟨cs, hcs, hN⟩ := optP_some h'
            refine fin _ cs hcs hN fun arr harr => ?_
            obtain ⟨gs, rfl, rfl, _⟩ := kstruct _ hk
            have hpl : gs.toList.mapM (fun f => (P.info? f.type).map fun i => (f.offset, i.size)) = some (gs.toList.map fun f => (f.offset, ((TY f.type).map (·.size)).getD 0)) := by
              refine mapM_some_map' (β := Nat × Nat) gs.toList fun f hf => ?_
              have hsome := List.all_eq_true.1 hall (f.offset, f.type) (List.mem_map.2 ⟨f, hf, rfl⟩)
              obtain ⟨fi, hfi⟩ := Option.isSome_iff_exists.1 hsome
              simp only at hfi
              obtain ⟨finfo, _, g1, _, g3, _⟩ := hTY.get hfi
              simp [g1, g3, hfi]
            unfold Program.built
            simp only [h1, h2, hzi, hpl]
            rw [← harr]
            congr 1
            funext k
            simp only [List.getElem?_toArray, List.getElem?_map]
            cases hg : gs.toList[k]? with
            | none => rfl
            | some g =>
              have hsome := List.all_eq_true.1 hall (g.offset, g.type) (List.mem_map.2 ⟨g, List.mem_of_getElem? hg, rfl⟩)
              obtain ⟨fi, hfi⟩ := Option.isSome_iff_exists.1 hsome
              simp only at hfi
              simp [hfi]
          · exact h'.elim
        · rename_i n e hk
          obtain rfl := ka _ _ hk
          split at h'
          · rename_i ei hei
            obtain ⟨cs, hcs, hN⟩ := optP_some h'
            refine fin _ cs hcs hN fun arr harr => ?_
            obtain ⟨einfo, _, g1, _, g3, _⟩ := hTY.get hei
            unfold Program.built
            simp only [h1, h2, hzi, g1]
            rw [← harr, g3]
          · exact h'.elim
        · exact h'.elim
/-! ### Slices that are made -/
/-- The elements of a slice literal. -/
def litRow (z : List AV) : List (Nat × AV) → Nat → List AV
  | [] => fun _ => z
  | (k, x) :: rest => fun j => if j = k ∧ rest.all (fun p => p.1 ≠ k) then x.cells else litRow z rest j
def goodPart (n sz : Nat) (p : Nat × AV) : Bool := decide (p.1 < n) && !p.2.isAny && p.2.cells.length == sz
def buildSliceA (TY : TypeId → Option TI) (t : TypeId) (n : Nat) (parts : List (Nat × AV)) (H : List Blk) (N : AV → List Blk → Prop) : Prop :=
  match TY t with
  | none => False
  | some i => match i.kind with
    | .slice e => match TY e with
      | some ei => match ei.zero with
        | some z => if z.isAny = false ∧ z.cells.length = ei.size ∧ (n * ei.size ≤ 16777216 ∧ n ≤ 16777216) ∧ parts.all (goodPart n ei.size) = true then
              N (.osl H.length ei.size 0 n (some n)) (H ++ [.row ei.size n (litRow z.cells parts)]) else False
        | none => False
      | none => False
    | _ => False
/-- A row whose elements are known. -/
def ERel (ρ : Nat → Option Nat) (S : Nat → Prop) (w : World) (sz n : Nat) (get : Nat → List AV) (arr : Array Value) : Prop :=
  (∀ e, e < n → (get e).length = sz) ∧ ∀ (e j : Nat) (c : AV) (v : Value), e < n → (get e)[j]? = some c → arr[e * sz + j]? = some v → V ρ S w c v
theorem row_in {e n sz j : Nat} (he : e < n) (hj : j < sz) : e * sz + j < n * sz := by
  have : (e + 1) * sz ≤ n * sz := Nat.mul_le_mul_right _ he
  rw [Nat.add_mul] at this; omega
theorem fill_row (n sz : Nat) : ∀ (parts : List (Nat × AV)) (vparts : List (Nat × Value)) (g : Nat → List AV) (arr : Array Value), arr.size = n * sz → ERel ρ S w sz n g arr →
    (parts.length = vparts.length ∧ ∀ (k i : Nat) (x : AV) (i' : Nat) (v : Value), parts[k]? = some (i, x) → vparts[k]? = some (i', v) → i = i' ∧ V ρ S w x v) → parts.all (goodPart n sz) = true →
    ∃ arr', Instr.fill (fun i => some (i * sz, sz)) arr vparts = some arr' ∧ arr'.size = n * sz ∧
      ERel ρ S w sz n (fun j => match (parts.reverse.find? (fun p => p.1 == j)) with | some p => p.2.cells | none => g j) arr' := by
  intro parts
  induction parts with
  | nil =>
    intro vparts g arr hs hg hp _
    cases vparts with
    | nil => exact ⟨arr, by simp [Instr.fill], hs, hg⟩
    | cons _ _ => simp at hp
  | cons p parts ih =>
    intro vparts g arr hs hg hp hall
    cases vparts with
    | nil => simp at hp
    | cons vp vparts =>
      obtain ⟨i, x⟩ := p
      obtain ⟨i', v⟩ := vp
      obtain ⟨rfl, hx⟩ := hp.2 0 i x i' v rfl rfl
      simp only [List.all_cons, Bool.and_eq_true] at hall
      obtain ⟨hgood, hall⟩ := hall
      simp only [goodPart, Bool.and_eq_true, decide_eq_true_eq, beq_iff_eq] at hgood
      obtain ⟨⟨hlt, hn0⟩, hlen⟩ := hgood
      have hn : x ≠ .any := AV.ne_any (by simpa using hn0)
      obtain ⟨hl, hc⟩ := hx.cells hn
      have hle : i * sz + sz ≤ n * sz := by
        have : (i + 1) * sz ≤ n * sz := Nat.mul_le_mul_right _ hlt
        rw [Nat.add_mul] at this; omega
      have hl' : v.cells.toList.length = sz := by simp; omega
      rw [fill_cons _ arr i v vparts rfl (by omega) (by omega)]
      have hE : ERel ρ S w sz n (fun j => if j = i then x.cells else g j) (spl arr (i * sz) v.cells.toList) := by
        refine ⟨fun e he => ?_, fun e j c u he hj hu => ?_⟩
        · show (if e = i then x.cells else g e).length = sz
          split
          · exact hlen
          · exact hg.1 e he
        · have hj' : (if e = i then x.cells else g e)[j]? = some c := hj
          rw [spl_get _ _ _ _ (by rw [hl', hs]; exact hle), hl'] at hu
          by_cases hei : e = i
          · subst hei
            rw [if_pos rfl] at hj'
            have hjl : j < sz := by
              rcases Nat.lt_or_ge j sz with h | h
              · exact h
              · rw [List.getElem?_eq_none (by omega)] at hj'; cases hj'
            rw [if_pos (by omega), show e * sz + j - e * sz = j by omega] at hu
            exact hc _ _ _ hj' (by simpa using hu)
          · rw [if_neg hei] at hj'
            have hjl : j < sz := by
              rcases Nat.lt_or_ge j sz with h | h
              · exact h
              · rw [List.getElem?_eq_none (by rw [hg.1 e he]; exact h)] at hj'; cases hj'
            rw [if_neg ?_] at hu
            · exact hg.2 e j c u he hj' hu
            · rintro ⟨g1, g2⟩
              rcases Nat.lt_or_gt_of_ne hei with hlt' | hgt
              · have := row_in hlt' hjl; omega
              · have : (i + 1) * sz ≤ e * sz := Nat.mul_le_mul_right _ hgt
                rw [Nat.add_mul] at this; omega
      obtain ⟨arr', h1, h2, h3⟩ := ih vparts (fun j => if j = i then x.cells else g j) (spl arr (i * sz) v.cells.toList) (by rw [spl_size]; exact hs) hE
        ⟨by simpa using hp.1, fun k a b c d h1 h2 => hp.2 (k + 1) a b c d (by simpa using h1) (by simpa using h2)⟩ hall
      refine ⟨arr', h1, h2, ?_⟩
      have : (fun j => match ((i, x) :: parts).reverse.find? (fun p => p.1 == j) with | some p => p.2.cells | none => g j) =
          (fun j => match parts.reverse.find? (fun p => p.1 == j) with | some p => p.2.cells | none => if j = i then x.cells else g j) := by
        funext j
        rw [List.reverse_cons, List.find?_append]
        cases parts.reverse.find? (fun p => p.1 == j) with
        | some p => rfl
        | none =>
          simp only [Option.none_or, List.find?_singleton]
          by_cases hji : j = i
          · subst hji; simp
          · have : (i == j) = false := by simpa using fun h => hji h.symm
            simp [this, hji]
      rw [this]
      exact h3
theorem litRow_eq (z : List AV) : ∀ (parts : List (Nat × AV)) (j : Nat), litRow z parts j = (match parts.reverse.find? (fun p => p.1 == j) with | some p => p.2.cells | none => z) := by
  intro parts
  induction parts with
  | nil => intro j; rfl
  | cons p parts ih =>
    intro j
    obtain ⟨k, x⟩ := p
    simp only [litRow]
    rw [List.reverse_cons, List.find?_append, ih j]
    by_cases hjk : j = k
    · subst hjk
      by_cases hr : parts.all (fun p => decide (p.1 ≠ j)) = true
      · rw [if_pos ⟨rfl, hr⟩]
        have : parts.reverse.find? (fun p => p.1 == j) = none := by
          rw [List.find?_eq_none]
          intro p hp
          have := List.all_eq_true.1 hr p (List.mem_reverse.1 hp)
          simpa using this
        rw [this]
        simp
      · rw [if_neg (fun h => hr h.2)]
        cases hf : parts.reverse.find? (fun p => p.1 == j) with
        | some p => rfl
        | none =>
          exfalso
          apply hr
          rw [List.all_eq_true]
          intro p hp
          have := List.find?_eq_none.1 hf p (List.mem_reverse.2 hp)
          simpa using this
    · rw [if_neg (fun h => hjk h.1)]
      have : (k == j) = false := by simpa using fun h => hjk h.symm
      simp [this]
theorem madeCells_get {z : Array Value} {n sz e j : Nat} (hz : z.size = sz) (he : e < n) (hj : j < sz) : (madeCells z (n * sz))[e * sz + j]? = z[j]? := by
  have hlt := row_in he hj
  unfold madeCells
  rw [Array.getElem?_map, Array.getElem?_range]
  rw [if_pos hlt]
  simp only [Option.map_some]
  have hm : (e * sz + j) % z.size = j := by
    rw [hz, Nat.add_comm, Nat.add_mul_mod_self_right, Nat.mod_eq_of_lt hj]
  rw [hm]
  rw [getElem!_pos z j (by omega), Array.getElem?_eq_getElem (by omega)]
theorem erel_zero {z : AV} {v : Value} (hz : z = AV.ofC v) (hn : z ≠ .any) {sz n : Nat} (hsz : z.cells.length = sz) : ERel ρ S w sz n (fun _ => z.cells) (madeCells v.cells (n * sz)) := by
  have hc := crel_zero (ρ := ρ) (S := S) (w := w) hz hn
  refine ⟨fun _ _ => hsz, fun e j c u he hj hu => ?_⟩
  have hjl : j < sz := by
    rcases Nat.lt_or_ge j sz with h | h
    · exact h
    · rw [List.getElem?_eq_none (by show z.cells.length ≤ j; omega)] at hj; cases hj
  rw [madeCells_get (by rw [← hc.1]; exact hsz) he hjl] at hu
  exact hc.2 j c u hj hu
theorem brel_newrow {H : List Blk} (hH : HRel ρ S w H) (hns : ∀ b, S b → b < w.heap.size) {sz n : Nat} {get : Nat → List AV} {arr : Array Value} (hs : n * sz ≤ arr.size) (h : ERel ρ S w sz n get arr) (T : TypeId) {T1 : Option Nat} (hT : tyOr T1 T = T) :
    BRel (newρ ρ H.length w.heap.size) S (w.alloc (.cells arr T)) H.length (.row sz n get T1) := by
  intro b hb
  rw [newρ_at] at hb
  cases hb
  exact ⟨fun hs => Nat.lt_irrefl _ (hns _ hs), arr, T, (0, 0), by rw [hT]; exact heap_alloc_at w _, hs, fun o _ => frozen_alloc_new w _ _ o, h.1, fun e j c v he hc hv => (h.2 e j c v he hc hv).alloc hH _⟩
theorem buildSlice_run (hTY : TyOk P TY) {H : List Blk} {ts : List AV} {a : Act} (hT : TRel ρ S w ts a.tmps) {t : TypeId} {n : Nat} {parts : Array (Nat × Operand)}
    {N : AV → List Blk → Prop} (h : buildSliceA TY t n (partsE ts parts) H N) : ∃ sz get arr e, N (.osl H.length sz 0 n (some n)) (H ++ [.row sz n get]) ∧ arr.size = n * sz ∧ n ≤ 16777216 ∧ ERel ρ S w sz n get arr ∧
      (Instr.buildSlice t n (parts.map fun p => (p.1, a.eval p.2))).run P w = .ok (.slice (some ⟨w.heap.size, 0, none⟩) n n) (w.alloc (.cells arr e)) := by
  unfold buildSliceA at h
  split at h
  · exact h.elim
  · rename_i i hi
    obtain ⟨info, d, h1, h2, _, _, _, h6, _, _⟩ := hTY.get hi
    obtain ⟨_, _, _, ks, _⟩ := kind_desc h6
    split at h
    · rename_i e hk
      obtain rfl := ks _ hk
      split at h
      · rename_i ei hei
        split at h
        · rename_i z hz
          obtain ⟨zv, hzv, hzc⟩ := hTY.zero hei hz
          split at h
          case isFalse => exact h.elim
          rename_i hcond
          obtain ⟨hany, hzl, ⟨hsmall, hn16⟩, hall⟩ := hcond
          have hn : z ≠ .any := AV.ne_any hany
          have hN := h
          have key : ∀ zz : Array Value, (n * ei.size = 0 ∨ zz = zv.cells) → ∃ arr, Instr.fill (fun i => some (i * ei.size, ei.size)) ((Array.range (n * ei.size)).map (zz[· % zz.size]!)) (parts.map fun p => (p.1, a.eval p.2)).toList = some arr ∧
              arr.size = n * ei.size ∧ ERel ρ S w ei.size n (litRow z.cells (partsE ts parts)) arr := by
            intro zz hzz
            have hbe : ERel ρ S w ei.size n (fun _ => z.cells) ((Array.range (n * ei.size)).map (zz[· % zz.size]!)) := by
              rcases hzz with h0 | rfl
              · refine ⟨fun _ _ => hzl, fun e j c u he hj hu => ?_⟩
                have hjl : j < ei.size := by
                  rcases Nat.lt_or_ge j ei.size with h | h
                  · exact h
                  · rw [List.getElem?_eq_none (by show z.cells.length ≤ j; omega)] at hj; cases hj
                have := row_in he hjl
                omega
              · exact erel_zero hzc hn hzl
            obtain ⟨arr, harr, hsz, hrel⟩ := fill_row n ei.size (partsE ts parts) _ _ _ (by simp) hbe (partsE_rel hT parts) hall
            have : litRow z.cells (partsE ts parts) = (fun j => match ((partsE ts parts).reverse.find? (fun p => p.1 == j)) with | some p => p.2.cells | none => z.cells) := funext (litRow_eq _ _)
            exact ⟨arr, harr, hsz, by rw [this]; exact hrel⟩
          have fin : ∀ arr, arr.size = n * ei.size → ERel ρ S w ei.size n (litRow z.cells (partsE ts parts)) arr →
              (Instr.buildSlice t n (parts.map fun p => (p.1, a.eval p.2))).run P w = .ok (.slice (some ⟨w.heap.size, 0, none⟩) n n) (w.alloc (.cells arr e)) →
              ∃ sz get arr e, N (.osl H.length sz 0 n (some n)) (H ++ [.row sz n get]) ∧ arr.size = n * sz ∧ n ≤ 16777216 ∧ ERel ρ S w sz n get arr ∧
      (Instr.buildSlice t n (parts.map fun p => (p.1, a.eval p.2))).run P w = .ok (.slice (some ⟨w.heap.size, 0, none⟩) n n) (w.alloc (.cells arr e)) := fun arr hsz hrel hrun =>
            ⟨_, _, arr, e, hN, hsz, hn16, hrel, hrun⟩
          by_cases h0 : n * ei.size = 0
          · obtain ⟨arr, harr, hsz, hrel⟩ := key #[] (.inl h0)
            refine fin arr hsz hrel ?_
            unfold Instr.buildSlice
            simp only [Sem.run_bind, run_underlying' h2, Result.andThen_ok, hTY.size hei]
            rw [if_neg (by simpa using hsmall)]
            rw [if_pos h0]
            simp only [Sem.run_bind, Sem.run_pure, Result.andThen_ok, harr]
            simp [newRow]
          · obtain ⟨arr, harr, hsz, hrel⟩ := key zv.cells (.inr rfl)
            refine fin arr hsz hrel ?_
            unfold Instr.buildSlice
            simp only [Sem.run_bind, run_underlying' h2, Result.andThen_ok, hTY.size hei]
            rw [if_neg (by simpa using hsmall)]
            rw [if_neg h0]
            simp only [Sem.run_bind, Sem.run_pure, Result.andThen_ok, hzv, harr]
            simp [newRow]
        · exact h.elim
      · exact h.elim
    · exact h.elim
theorem buildSliceA_sound (hTY : TyOk P TY) (hns : ∀ b, S b → b < w.heap.size) {H : List Blk} (hH : HRel ρ S w H) {ts : List AV} {a : Act} (hT : TRel ρ S w ts a.tmps) {t : TypeId} {n : Nat} {parts : Array (Nat × Operand)}
    {N : AV → List Blk → Prop} (h : buildSliceA TY t n (partsE ts parts) H N) : VOk P ρ S w (Instr.buildSlice t n (parts.map fun p => (p.1, a.eval p.2))) N := by
  obtain ⟨sz, get, arr, e, hN, hsz, hn16, hrel, hrun⟩ := buildSlice_run hTY hT h
  exact VOk.new hH (v := .slice (some ⟨w.heap.size, 0, none⟩) n n) (o := .cells arr e) hrun hN
    (.osl _ _ _ _ _ _ _ _ (newρ_at _ _) (Nat.le_refl _) (by rw [maxLen_eq]; omega) (fun _ => by simp) ⟨arr, e, (0, 0), heap_alloc_at w _, by rw [Nat.zero_add]; omega⟩ (fun c hc => by cases hc; rfl))
    (brel_newrow hH hns (by omega) hrel e rfl)
end
end
end Go.Vc

/- Evaluation that leaves nothing behind; structs out of parts, so. -/
namespace Go.Vc
open Go
noncomputable section
/-! ### States in plain form: evaluation that leaves nothing behind -/
def natF (n0 : Nat) (K : Nat → Prop) : Nat → List Nat → Prop
  | 0, t :: _ => K t
  | n + 1, _ :: ts => natF n0 K n ts
  | _, [] => K n0
def natT : List Nat := [0, 1, 2, 3, 4, 5, 6, 7, 8, 9, 10, 11, 12, 13, 14, 15, 16, 17, 18, 19, 20, 21, 22, 23, 24, 25, 26, 27, 28, 29, 30, 31, 32, 33, 34, 35, 36, 37, 38, 39, 40, 41, 42, 43, 44, 45, 46, 47, 48, 49, 50, 51, 52, 53, 54, 55, 56, 57, 58, 59, 60, 61, 62, 63]
theorem natF_range {n0 : Nat} {K : Nat → Prop} : ∀ (n i m : Nat), n0 = i + n → natF n0 K n (List.range' i m) = K n0
  | n, i, 0, _ => by cases n <;> rfl
  | 0, i, m + 1, h => by
    rw [List.range'_succ]
    show K i = K n0
    rw [h, Nat.add_zero]
  | n + 1, i, m + 1, h => by
    rw [List.range'_succ]
    exact natF_range n (i + 1) m (by omega)
theorem natF_eq (n : Nat) (K : Nat → Prop) : natF n K n natT = K n :=
  natF_range n 0 64 (by omega)
mutual
def fc : AV → (AV → Prop) → Prop
  | .agg cs, K => fcL cs fun cs' => K (.agg cs')
  | .tup cs, K => fcL cs fun cs' => K (.tup cs')
  | .fn f cs, K => fcL cs fun cs' => K (.fn f cs')
  | .iface t v, K => fc v fun v' => K (.iface t v')
  | .ptr id j, K => natF id (fun i => K (.ptr i j)) id natT
  | .eptr id sz e j, K => natF id (fun i => K (.eptr i sz e j)) id natT
  | .osl id sz off len cap, K => natF id (fun i => K (.osl i sz off len cap)) id natT
  | .map id, K => natF id (fun i => K (.map i)) id natT
  | .iter id, K => natF id (fun i => K (.iter i)) id natT
  | .yfn id, K => natF id (fun i => K (.yfn i)) id natT
  | .any, K => K .any
  | .bool b, K => K (.bool b)
  | .int k n, K => K (.int k n)
  | .str l, K => K (.str l)
  | .nilp, K => K .nilp
  | .rptr cs j, K => K (.rptr cs j)
  | .nilsl, K => K .nilsl
  | .sl c z l g, K => K (.sl c z l g)
  | .nilfn, K => K .nilfn
  | .nilmap, K => K .nilmap
  | .nilif, K => K .nilif
  | .intu k, K => K (.intu k)
def fcL : List AV → (List AV → Prop) → Prop
  | [], K => K []
  | c :: cs, K => fc c fun c' => fcL cs fun cs' => K (c' :: cs')
end
mutual
theorem fc_eq : ∀ (c : AV) (K : AV → Prop), fc c K = K c
  | .agg cs, K => by simp only [fc]; exact fcL_eq cs _
  | .tup cs, K => by simp only [fc]; exact fcL_eq cs _
  | .fn f cs, K => by simp only [fc]; exact fcL_eq cs _
  | .iface t v, K => by simp only [fc]; exact fc_eq v _
  | .ptr id j, K => by simp only [fc]; exact natF_eq id _
  | .eptr id sz e j, K => by simp only [fc]; exact natF_eq id _
  | .osl id sz off len cap, K => by simp only [fc]; exact natF_eq id _
  | .map id, K => by simp only [fc]; exact natF_eq id _
  | .iter id, K => by simp only [fc]; exact natF_eq id _
  | .yfn id, K => by simp only [fc]; exact natF_eq id _
  | .any, K => by simp only [fc]
  | .bool b, K => by simp only [fc]
  | .int k n, K => by simp only [fc]
  | .str l, K => by simp only [fc]
  | .nilp, K => by simp only [fc]
  | .rptr cs j, K => by simp only [fc]
  | .nilsl, K => by simp only [fc]
  | .sl c z l g, K => by simp only [fc]
  | .nilfn, K => by simp only [fc]
  | .nilmap, K => by simp only [fc]
  | .nilif, K => by simp only [fc]
  | .intu k, K => by simp only [fc]
theorem fcL_eq : ∀ (cs : List AV) (K : List AV → Prop), fcL cs K = K cs
  | [], K => by simp only [fcL]
  | c :: cs, K => by simp only [fcL]; rw [fc_eq, fcL_eq]
end
/-- Parts are laid over cells, each in plain form. -/
def fillF (place : Nat → Option (Nat × Nat)) (K : List AV → Prop) : List AV → List (Nat × AV) → Prop
  | cs, [] => K cs
  | cs, (i, x) :: rest =>
    match place i with
    | none => False
    | some (off, size) => fc x fun x' => if x'.isAny = false ∧ x'.cells.length = size ∧ off + size ≤ cs.length then fcL (Go.Vc.over cs off x'.cells) fun cs' => fillF place K cs' rest else False
theorem fillF_eq (place : Nat → Option (Nat × Nat)) (K : List AV → Prop) : ∀ (cs : List AV) (ps : List (Nat × AV)), fillF place K cs ps = optP (fillA place cs ps) K
  | cs, [] => rfl
  | cs, (i, x) :: rest => by
    rw [fillF, fillA]
    cases place i with
    | none => rfl
    | some os =>
      obtain ⟨off, size⟩ := os
      simp only
      rw [fc_eq]
      split
      · rw [fcL_eq, fillF_eq place K]
      · rfl
def buildF (TY : TypeId → Option TI) (t : TypeId) (parts : List (Nat × AV)) (N : AV → Prop) : Prop :=
  match TY t with
  | none => False
  | some i => match i.zero with
    | none => False
    | some z => if z.isAny = false then (match i.kind with
        | .struct fs => if fs.all (fun f => (TY f.2).isSome) = true then
            fillF (fun k => (fs[k]?).bind fun f => (TY f.2).map fun fi => (f.1, fi.size)) (fun cs => N (.agg cs)) z.cells parts else False
        | .arr _ e => match TY e with
          | some ei => fillF (fun k => some (k * ei.size, ei.size)) (fun cs => N (.agg cs)) z.cells parts
          | none => False
        | _ => False) else False
theorem buildF_eq {TY : TypeId → Option TI} {t : TypeId} {parts : List (Nat × AV)} {N : AV → Prop} : buildF TY t parts N = buildA TY t parts N := by
  unfold buildF buildA
  cases TY t with
  | none => rfl
  | some i =>
    simp only
    cases i.zero with
    | none => rfl
    | some z =>
      simp only [fillF_eq]
      all_goals (cases i.kind <;> simp only)
      all_goals (rename_i n e; cases TY e <;> rfl)
end
end Go.Vc

/- make and append. -/
namespace Go.Vc
open Go
noncomputable section
section
variable {P : Program} {TY : TypeId → Option TI} {ρ : Nat → Option Nat} {S : Nat → Prop} {w : World}
theorem ext_drew (ρ : Nat → Option Nat) (S : Nat → Prop) (w : World) : Ext ρ S w ρ S w.drew :=
  ⟨fun _ _ h => h, fun _ h => h, fun _ _ _ => rfl, Nat.le_refl _, fun _ arr _ fr h => ⟨arr, fr, h, rfl⟩, fun _ _ h => .inl ⟨_, h⟩, fun _ h => .inl h, rfl, rfl, rfl, Nat.le_succ _⟩
theorem hrel_drew {H : List Blk} (h : HRel ρ S w H) : HRel ρ S w.drew H :=
  ⟨h.inj, fun i b hi => (h.blk i b hi).keep (ext_drew ρ S w) fun b' hb' => ⟨hb', rfl, fun h => h⟩, h.out⟩
theorem VOk.drew {s : Sem Value} {N : AV → List Blk → Prop} {v : Value} {w' : World} {c : AV} {H' : List Blk} {ρ' : Nat → Option Nat} (h : s.run P w = .ok v w') (hN : N c H') (hv : V ρ' S w' c v) (hH : HRel ρ' S w' H')
    (hE : Ext ρ S w.drew ρ' S w') : VOk P ρ S w s N := ⟨v, w', c, H', ρ', h, hN, hv, hH, (ext_drew ρ S w).trans hE⟩
def makeSliceA (TY : TypeId → Option TI) (t : TypeId) (l c : AV) (H : List Blk) (N : AV → List Blk → Prop) : Prop :=
  match TY t, l, c with
  | some i, .int _ l, .int _ c => match i.kind with
    | .slice e => match TY e with
      | some ei => match ei.zero with
        | some z => if z.isAny = false ∧ z.cells.length = ei.size then
            (0 ≤ l ∧ l ≤ c ∧ (ei.bytes : Int) * c ≤ 281474976710656 ∧ c ≤ 9223372036854775807) ∧ N (.osl H.length ei.size 0 l.toNat (some c.toNat)) (H ++ [.row ei.size c.toNat (fun _ => z.cells)]) else False
        | none => False
      | none => False
    | _ => False
  | _, _, _ => False
theorem makeSliceA_sound (hTY : TyOk P TY) (hns : ∀ b, S b → b < w.heap.size) {H : List Blk} (hH : HRel ρ S w H) {t : TypeId} {x y : AV} {v u : Value} {N : AV → List Blk → Prop} (hx : V ρ S w x v) (hy : V ρ S w y u)
    (h : makeSliceA TY t x y H N) : VOk P ρ S w (Instr.makeSlice t v u) N := by
  unfold makeSliceA at h
  split at h
  · rename_i i kl l kc c hi
    obtain ⟨rfl, _⟩ := hx.intR
    obtain ⟨rfl, _⟩ := hy.intR
    obtain ⟨info, d, h1, h2, _, _, _, h6, _, _⟩ := hTY.get hi
    obtain ⟨_, _, _, ks, _⟩ := kind_desc h6
    split at h
    · rename_i e hk
      obtain rfl := ks _ hk
      split at h
      · rename_i ei hei
        split at h
        · rename_i z hz
          split at h
          · rename_i hcond
            obtain ⟨⟨h0, hlc, hby, h63⟩, hN⟩ := h
            obtain ⟨einfo, _, g1, _, g3, g4, _, _, g7, _⟩ := hTY.get hei
            rw [hz] at g7
            cases hzi : einfo.zero with
            | none => rw [hzi] at g7; cases g7
            | some zv =>
              rw [hzi] at g7
              simp only [Option.map_some, Option.some.injEq] at g7
              have hr := run_make (P := P) w t e einfo zv h2 g1 hzi kl kc l c h0 hlc (by rw [g4]; exact hby) h63
              rw [g3] at hr
              have hsz : (madeCells zv.cells (c.toNat * ei.size)).size = c.toNat * ei.size := size_madeCells _ _
              refine VOk.new hH hr hN ?_ (brel_newrow hH hns (by omega) (erel_zero g7.symm (AV.ne_any hcond.1) hcond.2) e rfl)
              exact .osl _ _ _ _ _ _ _ _ (newρ_at _ _) (by omega) (by rw [maxLen_eq]; omega) (fun _ => by simp) ⟨_, e, (0, 0), heap_alloc_at w _, by rw [Nat.zero_add]; omega⟩ (fun c' hc' => by cases hc'; rfl)
          · exact h.elim
        · exact h.elim
      · exact h.elim
    · exact h.elim
  · exact h.elim
/-! ### append -/
def catRow (n : Nat) (g s : Nat → List AV) : Nat → List AV := fun e => if e < n then g e else s (e - n)
/-- The cells of a row, in a list. -/
def rowVals (f : Nat → Nat → Value) (m sz : Nat) : List Value := (List.range (m * sz)).map fun k => f (k / sz) (k % sz)
theorem rowVals_length (f : Nat → Nat → Value) (m sz : Nat) : (rowVals f m sz).length = m * sz := by simp [rowVals]
theorem rowVals_get {f : Nat → Nat → Value} {m sz e j : Nat} (he : e < m) (hj : j < sz) : (rowVals f m sz)[e * sz + j]? = some (f e j) := by
  have hlt := row_in he hj
  have hd : (e * sz + j) / sz = e := by
    rw [Nat.mul_comm, Nat.mul_add_div (by omega), Nat.div_eq_of_lt hj]; omega
  have hm : (e * sz + j) % sz = j := by rw [Nat.add_comm, Nat.add_mul_mod_self_right, Nat.mod_eq_of_lt hj]
  simp only [rowVals, List.getElem?_map]
  rw [List.getElem?_range hlt]
  simp [hd, hm]
theorem rowVals_of {f : Nat → Nat → Value} {m sz k : Nat} {v : Value} (h : (rowVals f m sz)[k]? = some v) : ∃ e j, e < m ∧ j < sz ∧ k = e * sz + j ∧ v = f e j := by
  have hk : k < m * sz := by
    rcases Nat.lt_or_ge k (m * sz) with h' | h'
    · exact h'
    · rw [List.getElem?_eq_none (by rw [rowVals_length]; exact h')] at h; cases h
  have hsz : 0 < sz := by
    rcases Nat.eq_zero_or_pos sz with h0 | h0
    · subst h0; simp at hk
    · exact h0
  refine ⟨k / sz, k % sz, ?_, Nat.mod_lt _ hsz, ?_, ?_⟩
  · rw [Nat.div_lt_iff_lt_mul hsz]; exact hk
  · have := Nat.div_add_mod k sz; rw [Nat.mul_comm] at this; exact this.symm
  · simp only [rowVals, List.getElem?_map] at h
    rw [List.getElem?_range hk] at h
    simpa using h.symm
/-- A row that is read: its cells as a list, and what is known of them. -/
theorem RowIs.vals {sz m : Nat} {src : Nat → List AV} {ao : Option Addr} (h : RowIs ρ S w sz m src ao) (hm : 0 < m) :
    ∃ (a : Addr) (f : Nat → Nat → Value), ao = some a ∧ (∀ (j : Nat) v, (rowVals f m sz)[j]? = some v → w.cell? (a.add j) = some v) ∧ (∀ (e j : Nat) (c : AV), e < m → (src e)[j]? = some c → V ρ S w c (f e j)) := by
  cases ao with
  | none => have := h.nil rfl; omega
  | some a =>
    obtain ⟨hsp, f, hf⟩ := h.at_ a rfl
    obtain ⟨b, o, sp⟩ := a
    simp only at hsp hf
    obtain rfl := hsp hm
    refine ⟨_, f, rfl, fun k v hv => ?_, fun e j c he hc => ?_⟩
    · obtain ⟨e, j, he, hj, rfl, rfl⟩ := rowVals_of hv
      rw [addr_add, ← Nat.add_assoc]
      exact (hf e j he hj).1
    · have hj : j < sz := by
        rcases Nat.lt_or_ge j sz with h' | h'
        · exact h'
        · rw [List.getElem?_eq_none (by rw [h.size e he]; exact h')] at hc; cases hc
      exact (hf e j he hj).2 c hc
/-- Two rows behind one another, and something more. -/
theorem erel_cat {sz n m : Nat} {g s : Nat → List AV} {fg fs : Nat → Nat → Value} (hg : ∀ e, e < n → (g e).length = sz) (hs : ∀ e, e < m → (s e).length = sz)
    (vg : ∀ (e j : Nat) (c : AV), e < n → (g e)[j]? = some c → V ρ S w c (fg e j)) (vs : ∀ (e j : Nat) (c : AV), e < m → (s e)[j]? = some c → V ρ S w c (fs e j)) (z : Array Value) :
    ERel ρ S w sz (n + m) (catRow n g s) ((rowVals fg n sz).toArray ++ (rowVals fs m sz).toArray ++ z) := by
  have hl : ∀ e, e < n + m → (catRow n g s e).length = sz := fun e he => by
    unfold catRow; split
    · exact hg _ (by assumption)
    · exact hs _ (by omega)
  refine ⟨hl, fun e j c v he hc hv => ?_⟩
  have hj : j < sz := by
    rcases Nat.lt_or_ge j sz with h' | h'
    · exact h'
    · rw [List.getElem?_eq_none (by rw [hl e he]; exact h')] at hc; cases hc
  have hin := row_in he hj
  rw [Nat.add_mul] at hin
  rw [Array.getElem?_append_left (by simp [rowVals_length]; exact hin)] at hv
  unfold catRow at hc
  split at hc
  · rename_i hen
    have h1 := row_in hen hj
    rw [Array.getElem?_append_left (by simp [rowVals_length]; exact h1)] at hv
    simp only [List.getElem?_toArray, rowVals_get hen hj, Option.some.injEq] at hv
    subst hv
    exact vg _ _ _ hen hc
  · rename_i hen
    have hge : n * sz ≤ e * sz := Nat.mul_le_mul_right _ (by omega)
    rw [Array.getElem?_append_right (by simp [rowVals_length]; omega)] at hv
    have heq : e * sz + j - (rowVals fg n sz).toArray.size = (e - n) * sz + j := by
      simp only [List.size_toArray, rowVals_length, Nat.sub_mul]; omega
    rw [heq] at hv
    simp only [List.getElem?_toArray, rowVals_get (show e - n < m by omega) hj, Option.some.injEq] at hv
    subst hv
    exact vs _ _ _ (by omega) hc
def growOk (ei : TI) (n : Nat) : Prop := n * ei.bytes ≤ 140737488355328 ∧ n ≤ 9223372036854775807
/-- The type of a row that is grown, or laid anew. -/
def appT (T : Option Nat) (E : Nat) : Option Nat := match T with
  | some t => (match Nat.beq t E with | true => some t | false => none)
  | none => none
theorem appT_new (T : Option Nat) (E : Nat) : tyOr (appT T E) E = E := by
  unfold appT
  cases T with
  | none => rfl
  | some t =>
    simp only
    cases h : Nat.beq t E with
    | false => rfl
    | true => exact Nat.eq_of_beq_eq_true h
theorem appT_old (T : Option Nat) (E x : Nat) : tyOr (appT T E) (tyOr T x) = tyOr T x := by
  unfold appT
  cases T with
  | none => rfl
  | some t =>
    simp only
    cases h : Nat.beq t E <;> rfl
def appRow (E : Nat) (ei : TI) (s : AV) (m : Nat) (src : Nat → List AV) (H : List Blk) (N : AV → List Blk → Prop) : Prop :=
  match s with
  | .nilsl => if m = 0 then N .nilsl H else growOk ei m ∧ N (.osl H.length ei.size 0 m none) (H ++ [.row ei.size m src (some E)])
  | .sl true sz len get => if sz = ei.size then
      (if m = 0 then N (.sl true sz len get) H else growOk ei (len + m) ∧ N (.osl H.length ei.size 0 (len + m) none) (H ++ [.row ei.size (len + m) (catRow len get src)])) else False
  | .osl id sz off len (some c) => match H[id]? with
    | some (.row sz' L get T) => if sz = ei.size ∧ sz' = ei.size then
        (if len + m ≤ c then (off + (len + m) ≤ L ∧ ∀ e, e < m → (src e).all AV.one = true) ∧
            N (.osl id sz off (len + m) (some c)) (H.set id (.row sz L (fun e => if off + len ≤ e ∧ e < off + len + m then src (e - (off + len)) else get e) T))
         else (off + len ≤ L ∧ growOk ei (len + m)) ∧ N (.osl H.length sz 0 (len + m) none) (H ++ [.row sz (len + m) (catRow len (fun e => get (off + e)) src)])) else False
    | _ => False
  | .osl id sz 0 len none => match H[id]? with
    | some (.row sz' L get T) => if sz = ei.size ∧ sz' = ei.size then
        (len ≤ L ∧ growOk ei (len + m) ∧ ∀ e, e < m → (src e).all AV.one = true) ∧ N (.osl H.length sz 0 (len + m) none) (H.set id .dead ++ [.row sz (len + m) (catRow len get src) (appT T E)]) else False
    | _ => False
  | _ => False
def appRowB (E : Nat) (ei : TI) (s : AV) (m : Nat) (src : Nat → List AV) (H : List Blk) (N : AV → List Blk → Prop) : Prop :=
  match s with
  | .nilsl => (match Nat.beq m 0 with | true => N .nilsl H | false => growOk ei m ∧ N (.osl H.length ei.size 0 m none) (H ++ [.row ei.size m src (some E)]))
  | .sl true sz len get => if sz = ei.size then
      (match Nat.beq m 0 with | true => N (.sl true sz len get) H | false => growOk ei (len + m) ∧ N (.osl H.length ei.size 0 (len + m) none) (H ++ [.row ei.size (len + m) (catRow len get src)])) else False
  | .osl id sz off len (some c) => match H[id]? with
    | some (.row sz' L get T) => if sz = ei.size ∧ sz' = ei.size then
        (match Nat.ble (len + m) c with
         | true => (off + (len + m) ≤ L ∧ ∀ e, e < m → (src e).all AV.one = true) ∧
            N (.osl id sz off (len + m) (some c)) (H.set id (.row sz L (fun e => if off + len ≤ e ∧ e < off + len + m then src (e - (off + len)) else get e) T))
         | false => (off + len ≤ L ∧ growOk ei (len + m)) ∧ N (.osl H.length sz 0 (len + m) none) (H ++ [.row sz (len + m) (catRow len (fun e => get (off + e)) src)])) else False
    | _ => False
  | s => appRow E ei s m src H N
theorem appRowB_imp {E : Nat} {ei : TI} {s : AV} {m : Nat} {src : Nat → List AV} {H : List Blk} {N : AV → List Blk → Prop} (h : appRowB E ei s m src H N) : appRow E ei s m src H N := by
  have e0 : ∀ m : Nat, Nat.beq m 0 = true ↔ m = 0 := fun m => by rw [Nat.beq_eq]
  unfold appRowB at h
  unfold appRow
  split at h
  · split at h
    · rename_i hb; rw [e0] at hb; rw [if_pos hb]; exact h
    · rename_i hb; rw [if_neg (fun hc => by rw [(e0 m).2 hc] at hb; cases hb)]; exact h
  · split at h
    · rename_i hs
      simp only
      rw [if_pos hs]
      split at h
      · rename_i hb; rw [e0] at hb; rw [if_pos hb]; exact h
      · rename_i hb; rw [if_neg (fun hc => by rw [(e0 m).2 hc] at hb; cases hb)]; exact h
    · exact h.elim
  · split at h
    · rename_i hid
      split at h
      · rename_i hs
        simp only [hid]
        rw [if_pos hs]
        split at h
        · rename_i hb; rw [if_pos (Nat.le_of_ble_eq_true hb)]; exact h
        · rename_i hb; rw [if_neg (fun hc => by rw [Nat.ble_eq_true_of_le hc] at hb; cases hb)]; exact h
      · exact h.elim
    · exact h.elim
  · exact h
def appendA (TY : TypeId → Option TI) (t : TypeId) (s x : AV) (H : List Blk) (N : AV → List Blk → Prop) : Prop :=
  match TY t with
  | none => False
  | some i => match i.kind with
    | .slice e => match TY e with
      | some ei => match ei.zero with
        | some z => if z.isAny = false ∧ z.cells.length = ei.size ∧ ei.size ≠ 0 then
            rowE H x fun sz m src => if sz = ei.size then appRowB e ei s m src H N else False
          else False
        | none => False
      | none => False
    | _ => False
/-- A block goes over to another number. -/
theorem hrel_move {w' : World} {H : List Blk} (h : HRel ρ S w H) {id b : Nat} {old new : Blk} (hid : H[id]? = some old) (hlive : old.live = true) (hr : ρ id = some b) (hE : Ext ρ S w (newρ ρ H.length b) S w')
    (hsz : w'.heap.size = w.heap.size) (hoth : ∀ k, k ≠ b → w'.heap[k]? = w.heap[k]?) (hnew : BRel (newρ ρ H.length b) S w' H.length new) : HRel (newρ ρ H.length b) S w' (H.set id .dead ++ [new]) := {
  inj i j bi bj c hi hj li lj ri rj := by
    have key : ∀ (i : Nat) (bi : Blk) (c : Nat), (H.set id .dead ++ [new])[i]? = some bi → bi.live = true → newρ ρ H.length b i = some c → (i = H.length ∧ c = b) ∨ (H[i]? = some bi ∧ ρ i = some c ∧ c ≠ b) := by
      intro i0 b0 c0 hi0 li0 ri0
      unfold newρ at ri0
      split at ri0
      · cases ri0; exact .inl ⟨by assumption, rfl⟩
      · rename_i hne
        have hlt := (h.out i0 c0 ri0).1
        rw [List.getElem?_append_left (by simpa using hlt), List.getElem?_set] at hi0
        split at hi0
        · split at hi0
          · cases hi0; cases li0
          · cases hi0
        · rename_i hidi
          refine .inr ⟨hi0, ri0, fun hcb => hidi ?_⟩
          rw [hcb] at ri0
          exact h.inj id i0 old b0 b hid hi0 hlive li0 hr ri0
    rcases key i bi c hi li ri with ⟨rfl, rfl⟩ | ⟨h1, h2, h3⟩ <;> rcases key j bj _ hj lj rj with ⟨rfl, h4⟩ | ⟨h5, h6, h7⟩
    · rfl
    · exact absurd rfl h7
    · exact absurd h4 h3
    · exact h.inj i j bi bj c h1 h5 li lj h2 h6
  blk i bi hi := by
    by_cases hlt : i < H.length
    · rw [List.getElem?_append_left (by simpa using hlt), List.getElem?_set] at hi
      split at hi
      · split at hi
        · cases hi; trivial
        · cases hi
      · rename_i hidi
        by_cases hl : bi.live = true
        · refine (h.blk i bi hi).keep hE fun b' hb' => ?_
          unfold newρ at hb'
          rw [if_neg (by omega)] at hb'
          refine ⟨hb', hoth b' ?_, fun h => h⟩
          rintro rfl
          exact hidi (h.inj id i old bi b' hid hi hlive hl hr hb')
        · cases bi <;> simp [Blk.live] at hl
          trivial
    · rw [List.getElem?_append_right (by simpa using hlt)] at hi
      have : i = H.length := by
        rcases Nat.eq_or_lt_of_le (Nat.le_of_not_lt hlt) with h1 | h1
        · exact h1.symm
        · rw [List.getElem?_eq_none (by simp; omega)] at hi; cases hi
      subst this
      simp at hi
      subst hi
      exact hnew
  out i c hi := by
    unfold newρ at hi
    simp only [List.length_append, List.length_set, List.length_singleton]
    split at hi
    · cases hi
      have := (h.out id _ hr).2
      omega
    · have := h.out i c hi; omega }
/-- A new row in a world of one draw more. -/
theorem VOk.newDrew (hns : ∀ b, S b → b < w.heap.size) {s : Sem Value} {N : AV → List Blk → Prop} {H : List Blk} (hH : HRel ρ S w H) {sz n cp : Nat} {get : Nat → List AV} {arr : Array Value} {T : TypeId} {T1 : Option Nat} (hT : tyOr T1 T = T)
    (h : s.run P w = .ok (.slice (some ⟨w.heap.size, 0, none⟩) n cp) (w.drew.alloc (.cells arr T))) (hN : N (.osl H.length sz 0 n none) (H ++ [.row sz n get T1]))
    (hle : n ≤ cp) (hm : cp ≤ maxLen) (hs : cp * sz ≤ arr.size) (hE : ERel ρ S w sz n get arr) : VOk P ρ S w s N := by
  have hH' := hrel_drew hH
  have hE' : ERel ρ S w.drew sz n get arr := ⟨hE.1, fun e j c v he hc hv => (hE.2 e j c v he hc hv).mono (ext_drew ρ S w)⟩
  have hns' : n * sz ≤ arr.size := Nat.le_trans (Nat.mul_le_mul_right _ hle) hs
  refine VOk.drew (c := .osl H.length sz 0 n none) h hN ?_ (hrel_alloc hH' _ (brel_newrow hH' hns hns' hE' T hT)) (ext_alloc hH' _)
  exact .osl _ _ _ _ _ _ _ _ (newρ_at _ _) hle hm (fun _ => by simp) ⟨_, T, (0, 0), heap_alloc_at w.drew _, by rw [Nat.zero_add]; exact hs⟩ (fun c hc => by cases hc)
theorem size_cat {sz n m cp : Nat} {fg fs : Nat → Nat → Value} {z : Array Value} (hz : z.size = sz) (hle : n + m ≤ cp) :
    cp * sz ≤ ((rowVals fg n sz).toArray ++ (rowVals fs m sz).toArray ++ Builtin.zeroCells z (cp - (n + m))).size := by
  simp only [Array.size_append, List.size_toArray, rowVals_length, size_zeroCells, hz]
  rw [← Nat.add_mul, ← Nat.add_mul]
  exact Nat.mul_le_mul_right _ (by omega)
theorem V.oslR {id sz off len : Nat} {cap : Option Nat} {v : Value} (h : V ρ S w (.osl id sz off len cap) v) : ∃ b o cp, v = .slice (some ⟨b, o, none⟩) len cp ∧ ρ id = some b ∧ len ≤ cp ∧ cp ≤ maxLen ∧ (0 < cp → o = off * sz) ∧
    (∃ arr T fr, w.heap[b]? = some (.cells arr T fr) ∧ (off + cp) * sz ≤ arr.size) ∧ (∀ c, cap = some c → cp = c) := by
  cases h with | osl _ _ _ _ _ b o cp h1 h2 h3 h4 h5 h6 => exact ⟨b, o, cp, rfl, h1, h2, h3, h4, h5, h6⟩
theorem run_append_none {t ty e : TypeId} {i : TypeInfo} (ht : P.underlying t = some (.slice e)) (hi : P.info? e = some i) (b : Option Addr) (len cap c : Nat) (a : Option Addr) (hlc : len ≤ cap) :
    (Builtin.append_ #[t, t] ty #[.slice b len cap, .slice a 0 c]).run P w = .ok (.slice b len cap) w := by
  have hf : (Builtin.firstCells i.size 0 (.slice a 0 c)).run P w = .ok #[] w := by
    cases a <;> simp [Builtin.firstCells, loadCells, loadCellsFrom]
  cases b with
  | none => simp [Builtin.append_, run_underlying ht, sizeOf, typeInfo, hi, Builtin.lenOf, hlc, hf]
  | some b => simp [Builtin.append_, run_underlying ht, sizeOf, typeInfo, hi, Builtin.lenOf, hlc, hf, storeCells]
end
end
end Go.Vc

/- append, every way. -/
namespace Go.Vc
open Go
noncomputable section
section
variable {P : Program} {TY : TypeId → Option TI} {ρ : Nat → Option Nat} {S : Nat → Prop} {w : World}
theorem erel_one {sz m : Nat} {s : Nat → List AV} {fs : Nat → Nat → Value} (hs : ∀ e, e < m → (s e).length = sz) (vs : ∀ (e j : Nat) (c : AV), e < m → (s e)[j]? = some c → V ρ S w c (fs e j)) (z : Array Value) :
    ERel ρ S w sz m s ((rowVals fs m sz).toArray ++ z) := by
  have := erel_cat (n := 0) (g := s) (fg := fs) (fun e he => absurd he (Nat.not_lt_zero _)) hs (fun e j c he => absurd he (Nat.not_lt_zero _)) vs z
  have e1 : catRow 0 s s = s := funext fun e => by simp [catRow]
  have e2 : (rowVals fs 0 sz).toArray = #[] := by simp [rowVals]
  rw [e1, e2, Nat.zero_add, Array.empty_append] at this
  exact this
theorem rowVals_one {sz m : Nat} {s : Nat → List AV} {fs : Nat → Nat → Value} (hs : ∀ e, e < m → (s e).length = sz) (vs : ∀ (e j : Nat) (c : AV), e < m → (s e)[j]? = some c → V ρ S w c (fs e j))
    (h1 : ∀ e, e < m → (s e).all AV.one = true) : ∀ u ∈ rowVals fs m sz, u.oneCell' = true := by
  intro u hu
  obtain ⟨k, hk, rfl⟩ := List.getElem_of_mem hu
  obtain ⟨e, j, he, hj, _, heq⟩ := rowVals_of (List.getElem?_eq_getElem hk)
  rw [heq]
  have hj' : j < (s e).length := by rw [hs e he]; exact hj
  exact oneCell_of_V (vs e j _ he (List.getElem?_eq_getElem hj')) (List.all_eq_true.1 (h1 e he) _ (List.getElem_mem hj'))
/-- What an own slice holds. -/
theorem own_vals {H : List Blk} (hH : HRel ρ S w H) {id b sz L : Nat} {get : Nat → List AV} {T0 : Option Nat} (hid : H[id]? = some (.row sz L get T0)) (hb : ρ id = some b) :
    ∃ arr T fr, w.heap[b]? = some (.cells arr (tyOr T0 T) fr) ∧ ¬ S b ∧ L * sz ≤ arr.size ∧ (∀ o, o < arr.size → w.frozen? ⟨b, o, none⟩ = false) ∧ (∀ e, e < L → (get e).length = sz) ∧
      (∀ (e j : Nat) (c : AV), e < L → (get e)[j]? = some c → V ρ S w c (arr.getD (e * sz + j) undef)) ∧ (∀ e j, e < L → j < sz → w.cell? ⟨b, e * sz + j, none⟩ = some (arr.getD (e * sz + j) undef)) := by
  obtain ⟨hns, arr, T, fr, h1, h2, h3, h4, h5⟩ := hH.blk id _ hid b hb
  refine ⟨arr, T, fr, h1, hns, h2, h3, h4, fun e j c he hc => ?_, fun e j he hj => ?_⟩
  · have hj : j < sz := by
      rcases Nat.lt_or_ge j sz with h' | h'
      · exact h'
      · rw [List.getElem?_eq_none (by rw [h4 e he]; exact h')] at hc; cases hc
    have := row_in he hj
    exact h5 e j c _ he hc (by rw [Array.getD_eq_getD_getElem?, Array.getElem?_eq_getElem (show e * sz + j < arr.size by omega)]; rfl)
  · have := row_in he hj
    simp only [World.cell?, h1]
    rw [Array.getD_eq_getD_getElem?, Array.getElem?_eq_getElem (show e * sz + j < arr.size by omega)]
    rfl
theorem setRow_brel {ρ' : Nat → Option Nat} {H : List Blk} {sz L n m : Nat} {get src : Nat → List AV} {b : Nat} {arr : Array Value} {T : TypeId} {T1 : Option Nat} {fr : Nat × Nat} {f : Nat → Nat → Value} {nid : Nat}
    (hE : Ext ρ S w ρ' S (w.setCells b (n * sz) (rowVals f m sz))) (hb : ∀ b', ρ' nid = some b' → b' = b) (h1 : w.heap[b]? = some (.cells arr (tyOr T1 T) fr)) (hns : ¬ S b) (hL : L * sz ≤ arr.size) (hfr : ∀ o, o < arr.size → w.frozen? ⟨b, o, none⟩ = false)
    (hin : n * sz + m * sz ≤ arr.size)
    (get' : Nat → List AV) (L' : Nat) (hL' : L' * sz ≤ arr.size) (hz : ∀ e, e < L' → (get' e).length = sz)
    (hold : ∀ (e j : Nat) (c : AV), e < L' → (e < n ∨ n + m ≤ e) → (get' e)[j]? = some c → V ρ S w c (arr.getD (e * sz + j) undef))
    (hnew : ∀ (e j : Nat) (c : AV), e < m → n + e < L' → (get' (n + e))[j]? = some c → V ρ S w c (f e j)) :
    BRel ρ' S (w.setCells b (n * sz) (rowVals f m sz)) nid (.row sz L' get' T1) := by
  intro b' hb'
  obtain rfl := hb b' hb'
  have hvl : n * sz + (rowVals f m sz).length ≤ arr.size := by rw [rowVals_length]; exact hin
  refine ⟨hns, _, T, fr, setCells_heap _ _ _ _ _ _ _ h1, by rw [spl_size]; exact hL', fun o ho => ?_, hz, fun e j c v he hc hv => ?_⟩
  · rw [spl_size] at ho
    rw [World.frozen?_setCells]; exact hfr o ho
  · have hj : j < sz := by
      rcases Nat.lt_or_ge j sz with h' | h'
      · exact h'
      · rw [List.getElem?_eq_none (by rw [hz e he]; exact h')] at hc; cases hc
    rw [spl_get _ _ _ _ hvl, rowVals_length] at hv
    have hsz : 0 < sz := by omega
    by_cases h2 : n ≤ e ∧ e < n + m
    · have g1 : n * sz ≤ e * sz := Nat.mul_le_mul_right _ h2.1
      have g2 := row_in h2.2 hj
      rw [Nat.add_mul] at g2
      rw [if_pos (by omega)] at hv
      have heq : e * sz + j - n * sz = (e - n) * sz + j := by rw [Nat.sub_mul]; omega
      rw [heq, rowVals_get (by omega) hj] at hv
      cases hv
      have := hnew (e - n) j c (by omega) (by omega) (by rw [show n + (e - n) = e by omega]; exact hc)
      exact this.mono hE
    · have hcase : e < n ∨ n + m ≤ e := by omega
      rw [if_neg ?_] at hv
      · have := hold e j c he hcase hc
        rw [Array.getD_eq_getD_getElem?, hv] at this
        exact this.mono hE
      · rintro ⟨g1, g2⟩
        rcases hcase with h3 | h3
        · have := row_in h3 hj; omega
        · have : (n + m) * sz ≤ e * sz := Nat.mul_le_mul_right _ h3
          rw [Nat.add_mul] at this; omega
/-- A row behind a slice, whatever the row comes from: what its runs do is told. -/
theorem appRow_gen (hTY : TyOk P TY) (hns : ∀ b, S b → b < w.heap.size) {H : List Blk} (hH : HRel ρ S w H) {t u ty e : TypeId} {ei : TI} {z : AV} {s : AV} {vs X : Value} {m : Nat} {src : Nat → List AV} {f : Nat → Nat → Value} {N : AV → List Blk → Prop}
    (hei : TY e = some ei) (hz : ei.zero = some z) (hzn : z.isAny = false) (hzl : z.cells.length = ei.size) (hsz0 : ei.size ≠ 0)
    (hs : V ρ S w s vs) (hsr : ∀ e, e < m → (src e).length = ei.size) (hval : ∀ (e j : Nat) (c : AV), e < m → (src e)[j]? = some c → V ρ S w c (f e j))
    (hrun0 : m = 0 → ∀ (b : Option Addr) (len cap : Nat), len ≤ cap → (Builtin.append_ #[t, u] ty #[.slice b len cap, X]).run P w = .ok (.slice b len cap) w)
    (hrunN : 0 < m → ∀ (info : TypeInfo) (zv : Value), P.info? e = some info → info.size = ei.size → info.zero = some zv → (m : Int) ≤ 9223372036854775807 → m * info.bytes ≤ 281474976710656 →
      (Builtin.append_ #[t, u] ty #[.slice none 0 0, X]).run P w = .ok (.slice (some ⟨w.heap.size, 0, none⟩) m (grownCap w m 0 e)) (w.drew.alloc (.cells ((rowVals f m ei.size).toArray ++ Builtin.zeroCells zv.cells (grownCap w m 0 e - m)) e)))
    (hrunG : 0 < m → ∀ (info : TypeInfo) (zv : Value), P.info? e = some info → info.size = ei.size → info.zero = some zv → ∀ (b : Addr) (len cap : Nat) (olds : List Value), olds.length = len * info.size → (∀ j v, olds[j]? = some v → w.cell? (b.add j) = some v) →
      cap < len + m → ((len + m : Nat) : Int) ≤ 9223372036854775807 → Builtin.nextslicecap (len + m) cap * info.bytes ≤ 281474976710656 →
      (Builtin.append_ #[t, u] ty #[.slice (some b) len cap, X]).run P w = .ok (.slice (some ⟨w.heap.size, 0, none⟩) (len + m) (grownCap w (len + m) cap e)) (w.drew.alloc (.cells (olds.toArray ++ (rowVals f m ei.size).toArray ++ Builtin.zeroCells zv.cells (grownCap w (len + m) cap e - (len + m))) e)))
    (hrunR : 0 < m → (∀ u ∈ rowVals f m ei.size, u.oneCell' = true) → ∀ (info : TypeInfo), P.info? e = some info → info.size = ei.size → ∀ (b off len cap : Nat), len + m ≤ cap →
      (∀ j, j < (rowVals f m ei.size).length → (w.cell? ⟨b, off + len * info.size + j, none⟩).isSome = true) → (∀ j, j < (rowVals f m ei.size).length → w.frozen? ⟨b, off + len * info.size + j, none⟩ = false) →
      (Builtin.append_ #[t, u] ty #[.slice (some ⟨b, off, none⟩) len cap, X]).run P w = .ok (.slice (some ⟨b, off, none⟩) (len + m) cap) (w.setCells b (off + len * info.size) (rowVals f m ei.size)))
    (h : appRow e ei s m src H N) :
    VOk P ρ S w (Builtin.append_ #[t, u] ty #[vs, X]) N := by
  obtain ⟨info, d, hi, _, hsize, hbytes, _, _, hzz, _⟩ := hTY.get hei
  rw [hz] at hzz
  cases hzi : info.zero with
  | none => rw [hzi] at hzz; cases hzz
  | some zv =>
  rw [hzi] at hzz
  simp only [Option.map_some, Option.some.injEq] at hzz
  have hzc : zv.cells.size = ei.size := by
    have := (crel_zero (ρ := ρ) (S := S) (w := w) hzz.symm (AV.ne_any hzn)).1; omega
  have none_run := fun (b : Option Addr) (len cap : Nat) (hlc : len ≤ cap) (hm : m = 0) => hrun0 hm b len cap hlc
  -- a new row behind nothing
  have grow_nil : ∀ (T1 : Option Nat), tyOr T1 e = e → 0 < m → growOk ei m → N (.osl H.length ei.size 0 m none) (H ++ [.row ei.size m src T1]) → VOk P ρ S w (Builtin.append_ #[t, u] ty #[.slice none 0 0, X]) N := fun T1 hT1 hm hg hN => by
    have hr := hrunN hm info zv hi hsize hzi (by have := hg.2; omega) (by rw [hbytes]; have := hg.1; omega)
    have hge := grownCap_ge w m 0 e
    refine VOk.newDrew hns hH hT1 hr hN hge (grownCap_le_maxLen w m 0 e (by rw [maxLen_eq]; exact hg.2)) ?_ (erel_one hsr hval _)
    simp only [Array.size_append, List.size_toArray, rowVals_length, size_zeroCells, hzc, ← Nat.add_mul]
    exact Nat.mul_le_mul_right _ (by omega)
  -- a new row behind some
  have grow_some : ∀ (T1 : Option Nat), tyOr T1 e = e → ∀ (H2 : List Blk), HRel ρ S w H2 → ∀ (b : Addr) (len cap : Nat) (get : Nat → List AV) (fg : Nat → Nat → Value), 0 < m → cap < len + m → growOk ei (len + m) →
      (∀ e, e < len → (get e).length = ei.size) → (∀ (e j : Nat) (c : AV), e < len → (get e)[j]? = some c → V ρ S w c (fg e j)) →
      (∀ (k : Nat) v, (rowVals fg len ei.size)[k]? = some v → w.cell? (b.add k) = some v) → N (.osl H2.length ei.size 0 (len + m) none) (H2 ++ [.row ei.size (len + m) (catRow len get src) T1]) →
      VOk P ρ S w (Builtin.append_ #[t, u] ty #[.slice (some b) len cap, X]) N := fun T1 hT1 H2 hH2 b len cap get fg hm hgt hg hz1 hv1 hc1 hN => by
    have hr := hrunG hm info zv hi hsize hzi b len cap (rowVals fg len ei.size) (by rw [rowVals_length, hsize]) hc1 hgt
      (by have := hg.2; omega) (growslice_fits hgt (by rw [hbytes]; exact hg.1))
    have hge := grownCap_ge w (len + m) cap e
    exact VOk.newDrew hns hH2 hT1 hr hN hge (grownCap_le_maxLen w (len + m) cap e (by rw [maxLen_eq]; exact hg.2)) (size_cat hzc hge) (erel_cat hz1 hsr hv1 hval _)
  unfold appRow at h
  split at h
  · -- nil
    cases hs
    split at h
    · rename_i hm
      exact VOk.same hH (none_run none 0 0 (Nat.le_refl _) hm) h .nilsl
    · rename_i hm
      exact grow_nil (some e) rfl (by omega) h.1 h.2
  · -- clipped
    rename_i sz len get
    split at h
    · rename_i hsz
      subst hsz
      split at h
      · rename_i hm
        cases hs with
        | sln _ _ _ bo => exact VOk.same hH (none_run bo 0 0 (Nat.le_refl _) hm) h (.sln _ _ _ _)
        | sl _ _ _ _ b o cap f hst hl hm' hcl hz hc hv => exact VOk.same hH (none_run _ _ _ hl hm) h (.sl _ _ _ _ b o cap f hst hl hm' hcl hz hc hv)
      · rename_i hm
        cases hs with
        | sln _ _ _ bo =>
          cases bo with
          | none =>
            have e1 : catRow 0 get src = src := funext fun e => by simp [catRow]
            rw [e1, Nat.zero_add] at h
            exact grow_nil none rfl (by omega) h.1 h.2
          | some b =>
            refine grow_some none rfl H hH b 0 0 get (fun _ _ => undef) (by omega) (by omega) h.1 (fun e he => by omega) (fun e j c he => by omega) (fun k v hk => ?_) h.2
            obtain ⟨e', j, he, _⟩ := rowVals_of hk
            omega
        | sl _ _ _ _ b o cap f hst hl hm' hcl hz hc hv =>
          have hcap := hcl rfl
          refine grow_some none rfl H hH ⟨b, o, none⟩ len cap get f (by omega) (by omega) h.1 hz (fun e j c he hc => (hv e j c he hc).lift) (fun k v hk => ?_) h.2
          obtain ⟨e', j, he, hj, rfl, rfl⟩ := rowVals_of hk
          rw [addr_add, ← Nat.add_assoc]
          exact hc e' j he hj
    · exact h.elim
  · -- an own row of known capacity
    rename_i id sz off len c
    split at h
    · rename_i sz' L get T0 hid
      split at h
      · rename_i hcond
        obtain ⟨hszA, hszB⟩ := hcond
        subst hszA
        subst hszB
        obtain ⟨b, o, cp, rfl, hb, hl, hmx, ho, hx, hcap⟩ := hs.oslR
        obtain rfl := hcap c rfl
        obtain ⟨arr, T, fr, h1, hnS, h2, h3, h4, h5, h6⟩ := own_vals hH hid hb
        obtain ⟨arr', T', fr', h1', h7⟩ := hx
        rw [h1] at h1'; cases h1'
        split at h
        · rename_i hfit
          obtain ⟨⟨hLo, hone⟩, hN⟩ := h
          by_cases hm : m = 0
          · subst hm
            refine ⟨_, w, _, _, ρ, none_run _ _ _ hl rfl, hN, ?_, ?_, Ext.refl _ _ _⟩
            · exact .osl _ _ _ _ _ b o cp hb hl hmx ho ⟨arr, _, fr, h1, h7⟩ (fun c' hc' => hcap c' hc')
            · refine hrel_upd hH hid rfl hb (Ext.refl _ _ _) rfl (fun _ _ => rfl) ?_
              have : (fun e => if off + len ≤ e ∧ e < off + len + 0 then src (e - (off + len)) else get e) = get := funext fun e => by
                rw [if_neg (by omega)]
              rw [this]
              exact hH.blk id _ hid
          · have hoff : o = off * ei.size := ho (by omega)
            subst hoff
            have hin : (off + len) * ei.size + m * ei.size ≤ arr.size := by
              have : (off + len + m) * ei.size ≤ (off + cp) * ei.size := Nat.mul_le_mul_right _ (by omega)
              rw [Nat.add_mul] at this; omega
            have hstart : off * ei.size + len * info.size = (off + len) * ei.size := by rw [hsize, Nat.add_mul]
            have hr := hrunR (by omega) (rowVals_one hsr hval hone) info hi hsize b (off * ei.size) len cp hfit
              (fun j hj => by
                rw [rowVals_length] at hj
                rw [hstart]
                simp only [World.cell?, h1]
                simp; omega)
              (fun j hj => by
                rw [rowVals_length] at hj
                rw [hstart]
                exact h3 _ (by omega))
            rw [hstart] at hr
            have hE : Ext ρ S w ρ S (w.setCells b ((off + len) * ei.size) (rowVals f m ei.size)) := ext_upd hH hb hnS (setCells_size _ _ _ _) (fun k hk => setCells_other b _ _ _ k hk)
              (fun a' T' f' h' => by rw [h1] at h'; cases h'; exact ⟨_, _, setCells_heap _ _ _ _ _ _ _ h1, spl_size _ _ _⟩) (setCells_rest _ _ _ _).1 (setCells_rest _ _ _ _).2.1 (setCells_rest _ _ _ _).2.2 (setCells_drawn _ _ _ _)
            refine ⟨_, _, _, _, ρ, hr, hN, ?_, ?_, hE⟩
            · exact .osl _ _ _ _ _ b _ cp hb hfit hmx ho ⟨_, _, fr, setCells_heap _ _ _ _ _ _ _ h1, by rw [spl_size]; exact h7⟩ (fun c' hc' => hcap c' hc')
            · refine hrel_upd hH hid rfl hb hE (setCells_size _ _ _ _) (fun k hk => setCells_other b _ _ _ k hk) ?_
              refine setRow_brel (H := H) (L := L) (get := get) (src := src) hE (fun b' hb' => by rw [hb] at hb'; cases hb'; rfl) h1 hnS h2 h3 hin _ L h2 (fun e he => ?_) (fun e j c he hcase hc => ?_) (fun e j c he hlt hc => ?_)
              · show (if off + len ≤ e ∧ e < off + len + m then _ else _ : List AV).length = _
                split
                · exact hsr _ (by omega)
                · exact h4 e he
              · have hc' : (if off + len ≤ e ∧ e < off + len + m then src (e - (off + len)) else get e)[j]? = some c := hc
                rw [if_neg (by omega)] at hc'
                exact h5 e j c he hc'
              · have hc' : (if off + len ≤ off + len + e ∧ off + len + e < off + len + m then src (off + len + e - (off + len)) else get (off + len + e))[j]? = some c := hc
                rw [if_pos (by omega), show off + len + e - (off + len) = e by omega] at hc'
                exact hval e j c he hc'
        · rename_i hfit
          obtain ⟨⟨hLo, hg⟩, hN⟩ := h
          refine grow_some none rfl H hH ⟨b, o, none⟩ len cp (fun e => get (off + e)) (fun e j => arr.getD ((off + e) * ei.size + j) undef) (by omega) (by omega) hg (fun e he => h4 _ (by omega)) (fun e j c he hc => h5 _ j c (by omega) hc) (fun k v hk => ?_) hN
          obtain ⟨e', j, he, hj, rfl, rfl⟩ := rowVals_of hk
          rw [addr_add, ho (by omega), ← Nat.add_assoc, ← Nat.add_mul]
          exact h6 _ j (by omega) hj
      · exact h.elim
    · exact h.elim
  · -- an own row of unknown capacity
    rename_i id sz len
    split at h
    · rename_i sz' L get T0 hid
      split at h
      · rename_i hcond
        obtain ⟨hszA, hszB⟩ := hcond
        subst hszA
        subst hszB
        obtain ⟨b, o, cp, rfl, hb, hl, hmx, ho, hx, _⟩ := hs.oslR
        obtain ⟨arr, T, fr, h1, hnS, h2, h3, h4, h5, h6⟩ := own_vals hH hid hb
        obtain ⟨arr', T', fr', h1', h7⟩ := hx
        rw [h1] at h1'; cases h1'
        obtain ⟨⟨hLo, hg, hone⟩, hN⟩ := h
        rw [Nat.zero_add] at h7
        have hnew : ∀ e, e < len + m → (catRow len get src e).length = ei.size := fun e he => by
          unfold catRow; split
          · exact h4 _ (by omega)
          · exact hsr _ (by omega)
        have hmove : ∀ i b', newρ ρ H.length b i = some b' → (∃ j, ρ j = some b') ∨ w.heap.size ≤ b' := fun i b' hi' => by
          unfold newρ at hi'
          split at hi'
          · cases hi'; exact .inl ⟨id, hb⟩
          · exact .inl ⟨_, hi'⟩
        have hrho : ∀ i b', ρ i = some b' → newρ ρ H.length b i = some b' := fun i b' hi' => by
          have := (hH.out i b' hi').1
          unfold newρ; rw [if_neg (by omega)]; exact hi'
        by_cases hm : m = 0
        · subst hm
          have hE : Ext ρ S w (newρ ρ H.length b) S w := ⟨hrho, fun _ h => h, fun _ _ _ => rfl, Nat.le_refl _, fun _ arr _ fr h => ⟨arr, fr, h, rfl⟩, hmove, fun _ h => .inl h, rfl, rfl, rfl, Nat.le_refl _⟩
          refine ⟨_, w, _, _, newρ ρ H.length b, none_run _ _ _ hl rfl, hN, ?_, ?_, hE⟩
          · exact .osl _ _ _ _ _ b o cp (newρ_at _ _) hl hmx ho ⟨arr, _, fr, h1, by rw [Nat.zero_add]; exact h7⟩ (fun c' hc' => by cases hc')
          · refine hrel_move hH hid rfl hb hE rfl (fun _ _ => rfl) ?_
            intro b' hb'
            rw [newρ_at] at hb'; cases hb'
            refine ⟨hnS, arr, _, fr, by rw [appT_old T0 e T]; exact h1, ?_, h3, hnew, fun e j c v he hc hv => ?_⟩
            · have : (len + 0) * ei.size ≤ L * ei.size := Nat.mul_le_mul_right _ (by omega)
              omega
            · have hc' : (get e)[j]? = some c := by simpa [catRow, show e < len by omega] using hc
              have := h5 e j c (by omega) hc'
              rw [Array.getD_eq_getD_getElem?, hv] at this
              exact this.mono hE
        · by_cases hfit : len + m ≤ cp
          · have ho0 : o = 0 := by rw [ho (by omega)]; simp
            subst ho0
            have hin : len * ei.size + m * ei.size ≤ arr.size := by
              have : (len + m) * ei.size ≤ cp * ei.size := Nat.mul_le_mul_right _ (by omega)
              rw [Nat.add_mul] at this; omega
            have hr := hrunR (by omega) (rowVals_one hsr hval hone) info hi hsize b 0 len cp hfit
              (fun j hj => by
                rw [rowVals_length] at hj
                simp only [World.cell?, h1]
                simp [hsize]; omega)
              (fun j hj => by
                rw [rowVals_length] at hj
                exact h3 _ (by rw [hsize]; omega))
            rw [Nat.zero_add, hsize] at hr
            have hE0 : Ext ρ S w ρ S (w.setCells b (len * ei.size) (rowVals f m ei.size)) := ext_upd hH hb hnS (setCells_size _ _ _ _) (fun k hk => setCells_other b _ _ _ k hk)
              (fun a' T' f' h' => by rw [h1] at h'; cases h'; exact ⟨_, _, setCells_heap _ _ _ _ _ _ _ h1, spl_size _ _ _⟩) (setCells_rest _ _ _ _).1 (setCells_rest _ _ _ _).2.1 (setCells_rest _ _ _ _).2.2 (setCells_drawn _ _ _ _)
            have hE : Ext ρ S w (newρ ρ H.length b) S (w.setCells b (len * ei.size) (rowVals f m ei.size)) :=
              ⟨hrho, hE0.st, hE0.same, hE0.size, hE0.shp, hmove, hE0.stf, hE0.os, hE0.tape, hE0.output, hE0.drawn⟩
            refine ⟨_, _, _, _, newρ ρ H.length b, hr, hN, ?_, ?_, hE⟩
            · exact .osl _ _ _ _ _ b _ cp (newρ_at _ _) hfit hmx (fun _ => by simp) ⟨_, _, fr, setCells_heap _ _ _ _ _ _ _ h1, by rw [spl_size, Nat.zero_add]; exact h7⟩ (fun c' hc' => by cases hc')
            · refine hrel_move hH hid rfl hb hE (setCells_size _ _ _ _) (fun k hk => setCells_other b _ _ _ k hk) ?_
              refine setRow_brel (H := H) (L := L) (get := get) (src := src) hE (fun b' hb' => by rw [newρ_at] at hb'; cases hb'; rfl) (T1 := appT T0 e) (T := tyOr T0 T) (by rw [appT_old]; exact h1) hnS h2 h3 hin _ (len + m) (by rw [Nat.add_mul]; exact hin) hnew (fun e j c he hcase hc => ?_) (fun e j c he hlt hc => ?_)
              · have hc' : (get e)[j]? = some c := by simpa [catRow, show e < len by omega] using hc
                exact h5 e j c (by omega) hc'
              · have hc' : (if len + e < len then get (len + e) else src (len + e - len))[j]? = some c := hc
                rw [if_neg (by omega), Nat.add_sub_cancel_left] at hc'
                exact hval e j c he hc'
          · have hlen : (H.set id .dead).length = H.length := by simp
            refine grow_some (appT T0 e) (appT_new _ _) (H.set id .dead) (hrel_kill hH id) ⟨b, o, none⟩ len cp get (fun e j => arr.getD (e * ei.size + j) undef) (by omega) (by omega) hg (fun e he => h4 _ (by omega)) (fun e j c he hc => h5 _ j c (by omega) hc) (fun k v hk => ?_) (by rw [hlen]; exact hN)
            obtain ⟨e', j, he, hj, rfl, rfl⟩ := rowVals_of hk
            rw [addr_add, ho (by omega), Nat.zero_mul, Nat.zero_add]
            exact h6 _ j (by omega) hj
      · exact h.elim
    · exact h.elim
  · exact h.elim
theorem appRow_sound (hTY : TyOk P TY) (hns : ∀ b, S b → b < w.heap.size) {H : List Blk} (hH : HRel ρ S w H) {t ty e : TypeId} {ei : TI} {z : AV} {s : AV} {vs : Value} {m : Nat} {src : Nat → List AV} {ao : Option Addr} {cx : Nat} {N : AV → List Blk → Prop}
    (ht : P.underlying t = some (.slice e)) (hei : TY e = some ei) (hz : ei.zero = some z) (hzn : z.isAny = false) (hzl : z.cells.length = ei.size) (hsz0 : ei.size ≠ 0)
    (hs : V ρ S w s vs) (hrow : RowIs ρ S w ei.size m src ao) (h : appRow e ei s m src H N) :
    VOk P ρ S w (Builtin.append_ #[t, t] ty #[vs, .slice ao m cx]) N := by
  obtain ⟨info, d, hi, _⟩ := hTY.get hei
  have h0 : m = 0 → ∀ (b : Option Addr) (len cap : Nat), len ≤ cap → (Builtin.append_ #[t, t] ty #[.slice b len cap, .slice ao m cx]).run P w = .ok (.slice b len cap) w := fun hm b len cap hlc => by
    subst hm; exact run_append_none ht hi b len cap cx ao hlc
  rcases Nat.eq_zero_or_pos m with hm | hm
  · exact appRow_gen (f := fun _ _ => undef) hTY hns hH hei hz hzn hzl hsz0 hs hrow.size (fun e j c he => by omega) h0 (fun h => by omega) (fun h => by omega) (fun h => by omega) h
  · obtain ⟨a, f, rfl, hcell, hval⟩ := hrow.vals hm
    refine appRow_gen hTY hns hH hei hz hzn hzl hsz0 hs hrow.size hval h0 (fun _ info zv hi hsize hzi h63 h48 => ?_) (fun _ info zv hi hsize hzi b len cap olds hlo hold hg h63 hfit => ?_) (fun _ hone info hi hsize b off len cap hroom hc hf => ?_) h
    · exact run_append_nil (P := P) w t ty e info zv ht hi hzi a m cx (rowVals f m ei.size) (by rw [rowVals_length, hsize]) hcell hm h63 h48
    · exact run_append_grow (P := P) w t ty e info zv ht hi hzi b len cap olds hlo hold a m cx (rowVals f m ei.size) (by rw [rowVals_length, hsize]) hcell hg h63 hfit
    · exact run_append_room_cells (P := P) w t ty e info ht hi b off len cap a m cx (rowVals f m ei.size) (by rw [rowVals_length, hsize]) hcell hone hroom hc hf
/-- A text's bytes, as a row. -/
def strRow (l : List UInt8) : Nat → List AV := fun e => [.int .u8 (l.getD e 0).toNat]
theorem strRow_vals (x : ByteArray) : rowVals (fun e _ => Value.int .u8 ((x.data.toList.getD e 0).toNat : Int)) x.data.toList.length 1 = Lib.strCells x := by
  refine List.ext_getElem? fun k => ?_
  unfold rowVals Lib.strCells
  simp only [Nat.mul_one, List.getElem?_map, Nat.div_one]
  rcases Nat.lt_or_ge k x.data.toList.length with h | h
  · rw [List.getElem?_range h, List.getElem?_eq_getElem h]
    have h' : k < x.data.size := by simpa using h
    simp only [Option.map_some, List.getD_eq_getElem?_getD, Array.getElem?_toList, Array.getElem_toList, Array.getElem?_eq_getElem h', Option.getD_some]
  · rw [List.getElem?_eq_none (by simpa using h), List.getElem?_eq_none h]; rfl
theorem appStr_sound (hTY : TyOk P TY) (hns : ∀ b, S b → b < w.heap.size) {H : List Blk} (hH : HRel ρ S w H) {t u ty e : TypeId} {ei : TI} {z : AV} {s : AV} {vs : Value} {x : ByteArray} {N : AV → List Blk → Prop}
    (ht : P.underlying t = some (.slice e)) (hu : P.underlying u = some .string) (hei : TY e = some ei) (hz : ei.zero = some z) (hzn : z.isAny = false) (hzl : z.cells.length = ei.size) (hsz1 : ei.size = 1)
    (hs : V ρ S w s vs) (h : appRow e ei s x.data.toList.length (strRow x.data.toList) H N) :
    VOk P ρ S w (Builtin.append_ #[t, u] ty #[vs, .string x]) N := by
  have hxl : x.size = x.data.toList.length := by rw [Array.length_toList]; rfl
  have hrv : rowVals (fun e _ => Value.int .u8 ((x.data.toList.getD e 0).toNat : Int)) x.data.toList.length ei.size = Lib.strCells x := by rw [hsz1]; exact strRow_vals x
  refine appRow_gen (f := fun e _ => Value.int .u8 ((x.data.toList.getD e 0).toNat : Int)) hTY hns hH hei hz hzn hzl (by omega) hs (fun e he => by rw [hsz1]; rfl) (fun e j c he hc => ?_) (fun hm b len cap hlc => ?_) (fun hm info zv hi hsize hzi h63 h48 => ?_) (fun hm info zv hi hsize hzi b len cap olds hlo hold hg h63 hfit => ?_) (fun hm hone info hi hsize b off len cap hroom hc hf => ?_) h
  · cases j with
    | zero =>
      simp only [strRow, List.getElem?_cons_zero, Option.some.injEq] at hc
      subst hc
      have := (x.data.toList.getD e 0).toNat_lt
      exact .int _ _ (by show (0 : Int) ≤ _; omega) (by show _ ≤ (255 : Int); omega)
    | succ j => simp [strRow] at hc
  · obtain ⟨info, d, hi, _⟩ := hTY.get hei
    have hf : (Builtin.firstCells info.size 0 (.string x)).run P w = .ok #[] w := by simp [Builtin.firstCells]
    have h0 : x.size = 0 := by omega
    cases b <;> simp [Builtin.append_, run_underlying ht, run_underlying hu, sizeOf, typeInfo, hi, Builtin.lenOf, hlc, h0, hf, storeCells]
  · have hr := run_append_nil_string (P := P) w t u ty e info zv ht hu hi hzi x (by omega) (by rw [hxl]; exact h63) (by rw [hxl]; exact h48)
    rw [hxl] at hr
    rw [hr, hrv]
    congr 4
    unfold Lib.strCells
    apply Array.ext'
    simp
  · have hr := Lib.run_append_grow_string (P := P) w t u ty e info zv ht hu hi hzi b len cap olds hlo hold x (by rw [hxl]; exact hg) (by rw [hxl]; exact h63) (by rw [hxl]; exact hfit)
    rw [hxl] at hr
    rw [hr, hrv]
  · rw [hrv] at hc hf ⊢
    have hfc := Lib.run_firstCells_string (P := P) w info.size x
    have hst := run_storeCells_cells (P := P) b (off + len * info.size) (Lib.strCells x) 0 w (by simpa using hc) (by simpa using hf) (Lib.strCells_oneCell x)
    simp only [Nat.add_zero] at hst
    have hroom' : len + x.size ≤ cap := by omega
    rw [← hxl]
    simp [Builtin.append_, run_underlying ht, run_underlying hu, sizeOf, typeInfo, hi, Builtin.lenOf, hroom', hfc, Addr.add_lit, hst]
theorem appendA_sound (hTY : TyOk P TY) (hns : ∀ b, S b → b < w.heap.size) {H : List Blk} (hH : HRel ρ S w H) {t ty : TypeId} {s x : AV} {vs vx : Value} {N : AV → List Blk → Prop} (hs : V ρ S w s vs) (hx : V ρ S w x vx)
    (h : appendA TY t s x H N) : VOk P ρ S w (Builtin.append_ #[t, t] ty #[vs, vx]) N := by
  unfold appendA at h
  split at h
  · exact h.elim
  · rename_i i hi
    obtain ⟨info, d, h1, h2, _, _, _, h6, _, _⟩ := hTY.get hi
    obtain ⟨_, _, _, ks, _⟩ := kind_desc h6
    split at h
    · rename_i e hk
      obtain rfl := ks _ hk
      split at h
      · rename_i ei hei
        split at h
        · rename_i z hz
          split at h
          · rename_i hcond
            obtain ⟨sz, m, src, ao, cap, hK, rfl, _, _, hrow⟩ := rowE_real hH hx h
            split at hK
            · rename_i hsz
              subst hsz
              exact appRow_sound hTY hns hH h2 hei hz hcond.1 hcond.2.1 hcond.2.2 hs hrow (appRowB_imp hK)
            · exact hK.elim
          · exact h.elim
        · exact h.elim
      · exact h.elim
    · exact h.elim
/-- A text's bytes behind a slice of bytes. -/
def appendS (TY : TypeId → Option TI) (t u : TypeId) (s x : AV) (H : List Blk) (N : AV → List Blk → Prop) : Prop :=
  match TY t, TY u, x with
  | some i, some iu, .str l => (match i.kind, iu.kind with
    | .slice e, .str => (match TY e with
      | some ei => (match ei.zero with
        | some z => if z.isAny = false ∧ z.cells.length = ei.size ∧ ei.size = 1 then appRowB e ei s l.length (strRow l) H N else False
        | none => False)
      | none => False)
    | _, _ => False)
  | _, _, _ => False
theorem appendS_sound (hTY : TyOk P TY) (hns : ∀ b, S b → b < w.heap.size) {H : List Blk} (hH : HRel ρ S w H) {t u ty : TypeId} {s x : AV} {vs vx : Value} {N : AV → List Blk → Prop} (hs : V ρ S w s vs) (hx : V ρ S w x vx)
    (h : appendS TY t u s x H N) : VOk P ρ S w (Builtin.append_ #[t, u] ty #[vs, vx]) N := by
  unfold appendS at h
  split at h
  · rename_i i iu l hi hu
    obtain ⟨info, d, h1, h2, _, _, _, h6, _, _⟩ := hTY.get hi
    obtain ⟨_, _, _, ks, _⟩ := kind_desc h6
    obtain ⟨info', d', h1', h2', _, _, _, h6', _, _⟩ := hTY.get hu
    obtain ⟨_, _, kstr, _⟩ := kind_desc h6'
    split at h
    · rename_i e hk hk'
      obtain rfl := ks _ hk
      obtain rfl := kstr hk'
      split at h
      · rename_i ei hei
        split at h
        · rename_i z hz
          split at h
          · rename_i hcond
            obtain ⟨sx, rfl, hl, _⟩ := V.strR hx
            subst hl
            exact appStr_sound hTY hns hH h2 h2' hei hz hcond.1 hcond.2.1 hcond.2.2 hs (appRowB_imp h)
          · exact h.elim
        · exact h.elim
      · exact h.elim
    · exact h.elim
  · exact h.elim
end
end
end Go.Vc
