/- The other operations: comparisons, conversions, lengths, iterators. -/
import Derived.Test.YtmfamcjilhjncaaGreatV2
import Derived.WalkSpells
import Derived.Laws.BytesString
import Derived.Laws.Cover4
import Derived.Lib.OthersKept
import Derived.Maps.RangeRun
set_option linter.all false
namespace Go.Vc
open Go
noncomputable section
section
variable {P : Program} {TY : TypeId → Option TI} {ρ : Nat → Option Nat} {S : Nat → Prop} {w : World}
/-! ### Comparisons -/
/-- '==' with nil. -/
def nilEq : TK → AV → AV → Option Bool
  | .ptr _, .nilp, .nilp => some true
  | .ptr _, .ptr .., .nilp => some false
  | .ptr _, .eptr .., .nilp => some false
  | .ptr _, .rptr .., .nilp => some false
  | .slice _, .nilsl, .nilsl => some true
  | .slice _, .osl .., .nilsl => some false
  | .map _ _, .nilmap, .nilmap => some true
  | .map _ _, .map _, .nilmap => some false
  | .func, .nilfn, .nilfn => some true
  | .func, .fn .., .nilfn => some false
  | .func, .yfn _, .nilfn => some false
  | _, _, _ => none
theorem nilEq_vals {k : TK} {x y : AV} {vx vy : Value} {a : Bool} (h : nilEq k x y = some a) (hx : V ρ S w x vx) (hy : V ρ S w y vy) :
    (∃ e p, k = .ptr e ∧ vx = .pointer p ∧ vy = .pointer none ∧ a = p.isNone) ∨ (∃ e p l c, k = .slice e ∧ vx = .slice p l c ∧ vy = .slice none 0 0 ∧ a = p.isNone) ∨
    (∃ k' e p, k = .map k' e ∧ vx = .map p ∧ vy = .map none ∧ a = p.isNone) ∨ (k = .func ∧ vy = .nilFunc ∧ ((vx = .nilFunc ∧ a = true) ∨ ∃ f b c, vx = .func f b c ∧ a = false)) := by
  unfold nilEq at h
  split at h <;> (try cases h) <;> cases hx <;> cases hy <;> first
    | exact .inl ⟨_, _, rfl, rfl, rfl, rfl⟩ | exact .inr (.inl ⟨_, _, _, _, rfl, rfl, rfl, rfl⟩) | exact .inr (.inr (.inl ⟨_, _, _, rfl, rfl, rfl, rfl⟩))
    | exact .inr (.inr (.inr ⟨rfl, rfl, .inl ⟨rfl, rfl⟩⟩)) | exact .inr (.inr (.inr ⟨rfl, rfl, .inr ⟨_, _, _, rfl, rfl⟩⟩))
theorem kind_func {d : TypeDesc} {i : TI} (h : TK.of d = i.kind) (hk : i.kind = .func) : ∃ a b c, d = .func a b c := by
  rw [hk] at h
  cases d <;> simp only [TK.of] at h <;> first | exact ⟨_, _, _, rfl⟩ | (cases h; done) | (split at h <;> cases h)
theorem run_equalIn_map_nil (w : World) (n : Nat) (t k e : TypeId) (p : Option Nat) (h : P.underlying t = some (.map k e)) : (Op.equalIn (n + 1) t (.map p) (.map none)).run P w = .ok p.isNone w := by
  cases p <;> simp [Op.equalIn, run_underlying' h]
theorem run_equalIn_fn_nil (w : World) (n : Nat) (t : TypeId) {a b c} (h : P.underlying t = some (.func a b c)) (vx : Value) (r : Bool) (hv : (vx = .nilFunc ∧ r = true) ∨ ∃ f b c, vx = .func f b c ∧ r = false) : (Op.equalIn (n + 1) t vx .nilFunc).run P w = .ok r w := by
  rcases hv with ⟨rfl, rfl⟩ | ⟨f, b, c, rfl, rfl⟩ <;> simp [Op.equalIn, run_underlying' h]
def binA (TY : TypeId → Option TI) (wr : Bool) (op : BinOp) (t : TypeId) (x y : AV) (N : AV → Prop) : Prop :=
  match x, y with
  | .int k a, .int k' b => (match op with
    | .shl => shiftA .shl k a b N
    | .shr => shiftA .shr k a b N
    | op => if k = k' then intA wr op k a b N else False)
  | .str a, .str b => strA op a b N
  | x, y => (match TY t with
    | none => False
    | some i => (match i.kind, x, y with
      | .bool, .bool a, .bool b => (match op with
        | .eql => N (.bool (a == b))
        | .neq => N (.bool (!(a == b)))
        | _ => False)
      | .struct _, .agg xs, .agg ys => if i.eqok = true then (match op with
        | .eql => optP (eqA TY 12 t (.agg xs) (.agg ys)) fun r => N (.bool r)
        | .neq => optP (eqA TY 12 t (.agg xs) (.agg ys)) fun r => N (.bool (!r))
        | _ => False) else False
      | k, x, y => (match op with
        | .eql => optP (nilEq k x y) fun r => N (.bool r)
        | .neq => optP (nilEq k x y) fun r => N (.bool (!r))
        | _ => False)))
theorem binA_sound (hTY : TyOk P TY) {H : List Blk} (hH : HRel ρ S w H) {wr : Bool} {op : BinOp} {t : TypeId} {x y : AV} {vx vy : Value} (xo yo : Operand) {N : AV → Prop} (hx : V ρ S w x vx) (hy : V ρ S w y vy)
    (h : binA TY wr op t x y N) : VSt P ρ S w (do eqGuard op t xo yo vx vy; binOp op t vx vy) N := by
  have fin : ∀ (c : AV) (v : Value), (eqGuard op t xo yo vx vy).run P w = .ok () w → (binOp op t vx vy).run P w = .ok v w → N c → V ρ S w c v → VSt P ρ S w (do eqGuard op t xo yo vx vy; binOp op t vx vy) N :=
    fun c v h1 h2 h3 h4 => VSt.same hH (v := v) (by simp only [Sem.run_bind, h1, Result.andThen_ok, h2]) h3 h4
  have gi : ∀ (k k' : IntKind) (a b : Int), (eqGuard op t xo yo (.int k a) (.int k' b)).run P w = .ok () w := fun k k' a b => by cases op <;> simp [eqGuard]
  have gs : ∀ (a b : ByteArray), (eqGuard op t xo yo (.string a) (.string b)).run P w = .ok () w := fun a b => by cases op <;> simp [eqGuard]
  have gb : ∀ (a b : Bool), (eqGuard op t xo yo (.bool a) (.bool b)).run P w = .ok () w := fun a b => by cases op <;> simp [eqGuard]
  have gp : ∀ (a b : Option Addr), (eqGuard op t xo yo (.pointer a) (.pointer b)).run P w = .ok () w := fun a b => by cases op <;> simp [eqGuard]
  have gsl : ∀ (a b : Option Addr) (l c l' c' : Nat), (eqGuard op t xo yo (.slice a l c) (.slice b l' c')).run P w = .ok () w := fun a b l c l' c' => by cases op <;> simp [eqGuard]
  unfold binA at h
  split at h
  · rename_i k a k' b
    obtain ⟨rfl, ha⟩ := hx.intR
    obtain ⟨rfl, hb⟩ := hy.intR
    split at h
    · obtain ⟨c, v, h1, h2, h3⟩ := shiftA_sound (P := P) (ρ := ρ) (S := S) (w := w) (k' := k') ha h t
      exact fin c v (gi _ _ _ _) h1 h2 h3
    · obtain ⟨c, v, h1, h2, h3⟩ := shiftA_sound (P := P) (ρ := ρ) (S := S) (w := w) (k' := k') ha h t
      exact fin c v (gi _ _ _ _) h1 h2 h3
    · split at h
      · rename_i hk
        subst hk
        obtain ⟨c, v, h1, h2, h3⟩ := intA_sound (P := P) (ρ := ρ) (S := S) (w := w) ha h t
        exact fin c v (gi _ _ _ _) h1 h2 h3
      · exact h.elim
  · rename_i a b
    obtain ⟨s, rfl, rfl, _⟩ := hx.strR
    obtain ⟨s', rfl, rfl, _⟩ := hy.strR
    obtain ⟨c, v, h1, h2, h3⟩ := strA_sound (P := P) (ρ := ρ) (S := S) (w := w) h t
    exact fin c v (gs _ _) h1 h2 h3
  · split at h
    · exact h.elim
    · rename_i i hi
      obtain ⟨info, d, h1, h2, _, _, _, h6, _, h8⟩ := hTY.get hi
      obtain ⟨kb, _, _, ks, kp, _, kmap, kst⟩ := kind_desc h6
      split at h
      · rename_i a b hk _ _
        obtain rfl := hx.boolR
        obtain rfl := hy.boolR
        split at h
        · exact fin _ _ (gb _ _) (run_eql_bool w t a b (by rw [h2, kb hk])) h (.bool _)
        · exact fin _ _ (gb _ _) (run_neq_bool w t a b (by rw [h2, kb hk])) h (.bool _)
        · exact h.elim
      · rename_i fs xs ys hk _ _
        split at h
        · rename_i hok
          obtain ⟨vs, rfl, lx, hxs⟩ := hx.aggR
          obtain ⟨us, rfl, ly, hys⟩ := hy.aggR
          have hok' := hok
          rw [← h8, Bool.and_eq_true, Bool.not_eq_true', Bool.not_eq_true'] at hok'
          split at h
          · obtain ⟨r, hr, hN⟩ := optP_some h
            exact fin _ _ (run_eqGuard_agg w _ t xo yo vs us hok'.1) (by rw [run_eql_struct, eqA_sound hTY 12 10000 (by omega) t _ _ r _ _ w hr hx hy]; rfl) hN (.bool _)
          · obtain ⟨r, hr, hN⟩ := optP_some h
            exact fin _ _ (run_eqGuard_agg w _ t xo yo vs us hok'.1) (by rw [run_neq_struct, eqA_sound hTY 12 10000 (by omega) t _ _ r _ _ w hr hx hy]; rfl) hN (.bool _)
          · exact h.elim
        · exact h.elim
      · rename_i k' x' y' _ _
        split at h
        · obtain ⟨r, hr, hN⟩ := optP_some h
          rcases nilEq_vals hr hx hy with ⟨e, p, hk, rfl, rfl, rfl⟩ | ⟨e, p, l, c, hk, rfl, rfl, rfl⟩ | ⟨k1, e, p, hk, rfl, rfl, rfl⟩ | ⟨hk, rfl, hv⟩
          · have he : P.underlying t = some (.pointer e) := by rw [h2, kp e hk]
            have hp : P.underlying t = some (.pointer (P.pointee t)) := by simp [Program.pointee, he]
            exact fin _ _ (gp _ _) (run_eql_pointer_nil w t p hp) hN (.bool _)
          · exact fin _ _ (gsl _ _ _ _ _ _) (Lib.run_eql_slice_nil w t e p l c 0 0 (by rw [h2, ks e hk])) hN (.bool _)
          · refine fin _ _ (by cases p <;> simp [eqGuard]) ?_ hN (.bool _)
            simp only [binOp]
            simp [Op.equal, Op.maxDepth, run_equalIn_map_nil w 9999 t k1 e p (by rw [h2, kmap k1 e hk])]
          · obtain ⟨a1, b1, c1, hd⟩ := kind_func h6 hk
            refine fin _ _ (by rcases hv with ⟨rfl, _⟩ | ⟨f, b, c, rfl, _⟩ <;> simp [eqGuard]) ?_ hN (.bool _)
            have hh := run_equalIn_fn_nil (P := P) w 9999 t (by rw [h2, hd]) vx r hv
            rcases hv with ⟨rfl, rfl⟩ | ⟨f, b, c, rfl, rfl⟩ <;> simp only [binOp] <;> simp [Op.equal, Op.maxDepth, hh]
        · obtain ⟨r, hr, hN⟩ := optP_some h
          rcases nilEq_vals hr hx hy with ⟨e, p, hk, rfl, rfl, rfl⟩ | ⟨e, p, l, c, hk, rfl, rfl, rfl⟩ | ⟨k1, e, p, hk, rfl, rfl, rfl⟩ | ⟨hk, rfl, hv⟩
          · have he : P.underlying t = some (.pointer e) := by rw [h2, kp e hk]
            have hp : P.underlying t = some (.pointer (P.pointee t)) := by simp [Program.pointee, he]
            exact fin _ _ (gp _ _) (run_neq_pointer_nil w t p hp) hN (.bool _)
          · exact fin _ _ (gsl _ _ _ _ _ _) (run_neq_slice_nil_any w t e p l c 0 0 (by rw [h2, ks e hk])) hN (.bool _)
          · refine fin _ _ (by cases p <;> simp [eqGuard]) ?_ hN (.bool _)
            simp only [binOp]
            simp [Op.equal, Op.maxDepth, run_equalIn_map_nil w 9999 t k1 e p (by rw [h2, kmap k1 e hk])]
          · obtain ⟨a1, b1, c1, hd⟩ := kind_func h6 hk
            refine fin _ _ (by rcases hv with ⟨rfl, _⟩ | ⟨f, b, c, rfl, _⟩ <;> simp [eqGuard]) ?_ hN (.bool _)
            have hh := run_equalIn_fn_nil (P := P) w 9999 t (by rw [h2, hd]) vx r hv
            rcases hv with ⟨rfl, rfl⟩ | ⟨f, b, c, rfl, rfl⟩ <;> simp only [binOp] <;> simp [Op.equal, Op.maxDepth, hh]
        · exact h.elim
/-! ### Small operations -/
def unA (wr : Bool) (op : UnOp) (x : AV) (N : AV → Prop) : Prop :=
  match op, x with
  | .neg, .int k n => fitA wr k (-n) N
  | .not, .bool b => N (.bool (!b))
  | _, _ => False
theorem unA_sound {H : List Blk} (hH : HRel ρ S w H) {wr : Bool} {op : UnOp} {x : AV} {v : Value} {N : AV → Prop} (hx : V ρ S w x v) (h : unA wr op x N) : VSt P ρ S w (Op.unary op v) N := by
  unfold unA at h
  split at h
  · rename_i k n
    obtain ⟨rfl, _⟩ := hx.intR
    obtain ⟨c, h1, h2⟩ := fitA_sound (ρ := ρ) (S := S) (w := w) h
    exact VSt.same hH (v := .int k (k.wrap (-n))) (by simp [Op.unary, Op.intArith]) h1 h2
  · obtain rfl := hx.boolR
    rename_i b
    exact VSt.same hH (v := .bool (!b)) (by simp [Op.unary]) h (.bool _)
  · exact h.elim
def nilCheckA (x : AV) (N : AV → Prop) : Prop :=
  match x with
  | .ptr .. => N x
  | .eptr .. => N x
  | .rptr .. => N x
  | .fn .. => N x
  | _ => False
def extractA (x : AV) (i : Nat) (N : AV → Prop) : Prop :=
  match x with
  | .tup cs => optP cs[i]? N
  | _ => False
theorem extractA_sound {H : List Blk} (hH : HRel ρ S w H) {x : AV} {v : Value} {i : Nat} {N : AV → Prop} (hx : V ρ S w x v) (h : extractA x i N) : VSt P ρ S w (Instr.extract v i) N := by
  unfold extractA at h
  split at h
  · rename_i cs
    cases hx with
    | tup _ vs hl hv =>
      obtain ⟨c, hc, hN⟩ := optP_some h
      have hlt : i < vs.size := by
        rw [← hl]
        rcases Nat.lt_or_ge i cs.length with h' | h'
        · exact h'
        · rw [List.getElem?_eq_none h'] at hc; cases hc
      exact VSt.same hH (v := vs[i]) (by simp [Instr.extract, hlt]) hN (hv i c _ hc (by simp [hlt]))
  · exact h.elim
/-- The length of a string, of a slice, of an array. -/
def lenA (TY : TypeId → Option TI) (t : TypeId) (x : AV) (N : AV → Prop) : Prop :=
  match TY t with
  | none => False
  | some i => match i.kind, x with
    | .str, .str l => ((l.length : Int) ≤ 9223372036854775807 → N (.int .i64 l.length))
    | .slice _, .sl _ _ len _ => ((len : Int) ≤ 9223372036854775807 → N (.int .i64 len))
    | .slice _, .osl _ _ _ len _ => ((len : Int) ≤ 9223372036854775807 → N (.int .i64 len))
    | .slice _, .nilsl => N (.int .i64 0)
    | .arr n _, _ => (n : Int) ≤ 9223372036854775807 ∧ N (.int .i64 n)
    | _, _ => False
theorem V.sl_len {clip : Bool} {sz len : Nat} {get : Nat → List AV} {v : Value} (h : V ρ S w (.sl clip sz len get) v) : ∃ a cp, v = .slice a len cp ∧ len ≤ cp ∧ cp ≤ maxLen := by
  cases h with
  | sln _ _ _ ao => exact ⟨ao, 0, rfl, Nat.le_refl _, Nat.zero_le _⟩
  | sl _ _ _ _ b o cap f hs hl hm => exact ⟨_, cap, rfl, hl, hm⟩
theorem lenA_sound (hTY : TyOk P TY) {H : List Blk} (hH : HRel ρ S w H) {t ty : TypeId} {x : AV} {v : Value} {N : AV → Prop} (hx : V ρ S w x v) (h : lenA TY t x N) : VSt P ρ S w (Builtin.len_ #[t] ty #[v]) N := by
  have inl : ∀ n : Nat, (n : Int) ≤ 9223372036854775807 → V ρ S w (.int .i64 n) (.int .i64 n) := fun n hn => V.int' (by simp only [inK, lo, hi]; omega)
  unfold lenA at h
  split at h
  · exact h.elim
  · rename_i i hi
    obtain ⟨info, d, h1, h2, _, _, _, h6, _, _⟩ := hTY.get hi
    obtain ⟨_, _, kstr, ks, _, ka, _⟩ := kind_desc h6
    split at h
    · rename_i l hk
      obtain rfl := kstr hk
      obtain ⟨s, rfl, rfl, hm⟩ := hx.strR
      have hb : (s.data.toList.length : Int) ≤ 9223372036854775807 := by rw [maxLen_eq] at hm; omega
      refine VSt.same hH (v := goInt s.size) ?_ (h hb) (inl _ hb)
      simp [Builtin.len_, run_underlying' h2]
    · rename_i e clip sz len get hk
      obtain rfl := ks _ hk
      obtain ⟨a, cp, rfl, hl, hm⟩ := hx.sl_len
      have hb : (len : Int) ≤ 9223372036854775807 := by rw [maxLen_eq] at hm; omega
      refine VSt.same hH (v := goInt len) ?_ (h hb) (inl _ hb)
      simp [Builtin.len_, run_underlying' h2]
    · rename_i e id sz off len cap hk
      obtain rfl := ks _ hk
      obtain ⟨b, o, cp, rfl, _, hl, hm, _⟩ := hx.oslR
      have hb : (len : Int) ≤ 9223372036854775807 := by rw [maxLen_eq] at hm; omega
      refine VSt.same hH (v := goInt len) ?_ (h hb) (inl _ hb)
      simp [Builtin.len_, run_underlying' h2]
    · rename_i e hk
      obtain rfl := ks _ hk
      cases hx
      refine VSt.same hH (v := goInt 0) ?_ h (inl 0 (by decide))
      simp [Builtin.len_, run_underlying' h2]
    · rename_i n e hk
      obtain rfl := ka _ _ hk
      refine VSt.same hH (v := goInt n) ?_ h.2 (inl _ h.1)
      simp [Builtin.len_, run_underlying' h2]
    · exact h.elim
end
end
end Go.Vc

/- Conversions, iterators, maps. -/
namespace Go.Vc
open Go
noncomputable section
section
variable {P : Program} {TY : TypeId → Option TI} {ρ : Nat → Option Nat} {S : Nat → Prop} {w : World}
def byteCell : List AV → Option Int
  | [.int .u8 n] => some n
  | _ => none
def runeCell : List AV → Option Int
  | [.int .i32 n] => some n
  | _ => none
def bytesOf (len : Nat) (get : Nat → List AV) : List UInt8 := (List.range len).map fun e => UInt8.ofNat ((byteCell (get e)).getD 0).toNat
def runesOf (len : Nat) (get : Nat → List AV) : List UInt8 := (List.range len).flatMap fun e => (Utf8.encode ((runeCell (get e)).getD 0)).data.toList
def convA (TY : TypeId → Option TI) (wr : Bool) (src dst : TypeId) (x : AV) (H : List Blk) (N : AV → Prop) : Prop :=
  match TY src, TY dst with
  | some i, some j => match j.kind, x with
    | .int k, .int _ n => fitA wr k n N
    | .str, .str l => N (.str l)
    | .str, .nilsl => (match i.kind with | .slice e => (match TY e with | some ei => (match ei.kind with | .int .u8 => N (.str []) | .int .i32 => N (.str []) | _ => False) | none => False) | _ => False)
    | .str, x => (match i.kind with
      | .slice e => (match TY e with
        | some ei => (match ei.kind with
          | .int .u8 => rowE H x fun sz len get => if sz = 1 then (∀ e, e < len → (byteCell (get e)).isSome = true) ∧ N (.str (bytesOf len get)) else False
          | .int .i32 => rowE H x fun sz len get => if sz = 1 then ((∀ e, e < len → (runeCell (get e)).isSome = true) ∧ (runesOf len get).length ≤ 9223372036854775807) ∧ N (.str (runesOf len get)) else False
          | _ => False)
        | none => False)
      | _ => False)
    | _, _ => False
  | _, _ => False
theorem foldl_push (ns : List Int) : ∀ (s : ByteArray), (ns.foldl (fun r n => r.push (UInt8.ofNat n.toNat)) s).data.toList = s.data.toList ++ ns.map fun n => UInt8.ofNat n.toNat := by
  induction ns with
  | nil => intro s; simp
  | cons n ns ih => intro s; rw [List.foldl_cons, ih]; simp
theorem foldl_runes (ns : List Int) : ∀ (s : ByteArray), (ns.foldl (fun r n => r ++ Utf8.encode n) s).data.toList = s.data.toList ++ ns.flatMap fun n => (Utf8.encode n).data.toList := by
  induction ns with
  | nil => intro s; simp
  | cons n ns ih => intro s; rw [List.foldl_cons, ih]; simp
/-- The numbers of a row of one cell an element. -/
theorem row_nums {k : IntKind} {len : Nat} {get : Nat → List AV} {num : List AV → Option Int} (hnum : ∀ cs n, num cs = some n → cs = [.int k n]) {a : Addr} (hrow : RowIs ρ S w 1 len get (some a)) (hall : ∀ e, e < len → (num (get e)).isSome = true) :
    (loadCells a len).run P w = .ok (((List.range len).map fun e => (num (get e)).getD 0).map (Value.int k)).toArray w := by
  obtain ⟨hsp, f, hf⟩ := hrow.at_ a rfl
  obtain ⟨b, o, sp⟩ := a
  simp only at hsp hf
  rw [run_loadCells w ⟨b, o, sp⟩ len (fun e => .int k ((num (get e)).getD 0)) (fun e he => ?_)]
  · rw [List.map_map]; rfl
  · obtain rfl := hsp (by omega)
    obtain ⟨n, hn⟩ := Option.isSome_iff_exists.1 (hall e he)
    have hc := hnum _ _ hn
    obtain ⟨h1, h2⟩ := hf e 0 he (by omega)
    have h3 := h2 (.int k n) (by rw [hc]; rfl)
    obtain ⟨h4, _⟩ := h3.intR
    rw [addr_add]
    simp only [Nat.mul_one, Nat.add_zero] at h1
    rw [h1, h4, hn]
    rfl
theorem byteCell_eq (cs : List AV) (n : Int) (h : byteCell cs = some n) : cs = [.int .u8 n] := by
  unfold byteCell at h
  split at h
  · cases h; rfl
  · cases h
theorem runeCell_eq (cs : List AV) (n : Int) (h : runeCell cs = some n) : cs = [.int .i32 n] := by
  unfold runeCell at h
  split at h
  · cases h; rfl
  · cases h
theorem convA_sound (hTY : TyOk P TY) {H : List Blk} (hH : HRel ρ S w H) {wr : Bool} {src dst : TypeId} {x : AV} {v : Value} {N : AV → Prop} (hx : V ρ S w x v) (h : convA TY wr src dst x H N) :
    VSt P ρ S w (convert src dst v) N := by
  unfold convA at h
  split at h
  · rename_i i j hi hj
    obtain ⟨_, d, _, h2, _, _, _, h6, _, _⟩ := hTY.get hi
    obtain ⟨_, d', _, h2', _, _, _, h6', _, _⟩ := hTY.get hj
    obtain ⟨_, ki, kstr, ks, _⟩ := kind_desc h6
    obtain ⟨_, ki', kstr', ks', _⟩ := kind_desc h6'
    have hnilr : ∀ e (ei : TI) k, d = .slice e → d' = .string → TY e = some ei → ei.kind = .int k → (k = .u8 ∨ k = .i32) → ∀ l c, (convert src dst (.slice none l c)).run P w = .ok (.string .empty) w := by
      intro e ei k hd hd' hei hk hkk l c
      subst hd; subst hd'
      obtain ⟨_, de, _, g2, _, _, _, g6, _, _⟩ := hTY.get hei
      obtain rfl := (kind_desc g6).2.1 k hk
      unfold convert
      simp only [Sem.run_bind, run_underlying' h2, run_underlying' h2', Result.andThen_ok, run_underlying' g2]
      rcases hkk with rfl | rfl
      · simp [Conv.bytesToString]
      · simp [Conv.runesToString]
    split at h
    · rename_i k k' n hk
      obtain ⟨rfl, _⟩ := hx.intR
      obtain rfl := ki' _ hk
      obtain ⟨c, h1, h3⟩ := fitA_sound (ρ := ρ) (S := S) (w := w) h
      refine VSt.same hH (v := .int k (k.wrap n)) ?_ h1 h3
      unfold convert
      simp only [Sem.run_bind, run_underlying' h2, run_underlying' h2', Result.andThen_ok]
      cases d <;> simp [Conv.intToInt]
    · rename_i l hk
      obtain ⟨s, rfl, rfl, hm⟩ := hx.strR
      obtain rfl := kstr' hk
      refine VSt.same hH (v := .string s) ?_ h hx
      unfold convert
      simp only [Sem.run_bind, run_underlying' h2, run_underlying' h2', Result.andThen_ok]
      cases d <;> simp
    · rename_i hk
      cases hx
      obtain rfl := kstr' hk
      split at h
      · rename_i e hke
        split at h
        · rename_i ei hei
          split at h
          · rename_i hk8
            exact VSt.same hH (hnilr e ei _ (ks _ hke) rfl hei hk8 (.inl rfl) 0 0) h (.str _ _ rfl (Nat.zero_le _))
          · rename_i hk8
            exact VSt.same hH (hnilr e ei _ (ks _ hke) rfl hei hk8 (.inr rfl) 0 0) h (.str _ _ rfl (Nat.zero_le _))
          · exact h.elim
        · exact h.elim
      · exact h.elim
    · rename_i hk _ _
      obtain rfl := kstr' hk
      split at h
      · rename_i e hke
        obtain rfl := ks _ hke
        split at h
        · rename_i ei hei
          obtain ⟨_, de, _, g2, _, _, _, g6, _, _⟩ := hTY.get hei
          split at h
          · rename_i hk8
            obtain rfl := (kind_desc g6).2.1 _ hk8
            obtain ⟨sz, len, get, ao, cap, hK, rfl, hlc, hcm, hrow⟩ := rowE_real hH hx h
            split at hK
            · rename_i hsz
              subst hsz
              obtain ⟨hall, hN⟩ := hK
              cases ao with
              | none =>
                have h0 := hrow.nil rfl
                subst h0
                exact VSt.same hH (hnilr e ei _ rfl rfl hei hk8 (.inl rfl) _ _) hN (.str _ _ rfl (Nat.zero_le _))
              | some a =>
                have hl := row_nums (P := P) byteCell_eq hrow hall
                have hr := run_bytesToString w a len cap _ hl
                refine VSt.same hH (v := .string (((List.range len).map fun e => (byteCell (get e)).getD 0).foldl (fun r n => r.push (UInt8.ofNat n.toNat)) ByteArray.empty)) ?_ hN (.str _ _ ?_ ?_)
                · unfold convert
                  simp only [Sem.run_bind, run_underlying' h2, run_underlying' h2', Result.andThen_ok, run_underlying' g2]
                  exact hr
                · rw [foldl_push, List.map_map]; rfl
                · simp only [bytesOf, List.length_map, List.length_range]; omega
            · exact hK.elim
          · rename_i hk8
            obtain rfl := (kind_desc g6).2.1 _ hk8
            obtain ⟨sz, len, get, ao, cap, hK, rfl, hlc, hcm, hrow⟩ := rowE_real hH hx h
            split at hK
            · rename_i hsz
              subst hsz
              obtain ⟨⟨hall, hlen⟩, hN⟩ := hK
              cases ao with
              | none =>
                have h0 := hrow.nil rfl
                subst h0
                exact VSt.same hH (hnilr e ei _ rfl rfl hei hk8 (.inr rfl) _ _) hN (.str _ _ rfl (Nat.zero_le _))
              | some a =>
                have hl := row_nums (P := P) runeCell_eq hrow hall
                have hr := run_runesToString w a len cap _ hl
                refine VSt.same hH (v := .string (runesBytes ((List.range len).map fun e => (runeCell (get e)).getD 0))) ?_ hN (.str _ _ ?_ ?_)
                · unfold convert
                  simp only [Sem.run_bind, run_underlying' h2, run_underlying' h2', Result.andThen_ok, run_underlying' g2]
                  exact hr
                · rw [runesBytes, foldl_runes, List.flatMap_map]; rfl
                · rw [maxLen_eq]; exact hlen
            · exact hK.elim
          · exact h.elim
        · exact h.elim
      · exact h.elim
    · exact h.elim
  · exact h.elim
/-! ### Going over a string -/
def rangeA (TY : TypeId → Option TI) (t : TypeId) (x : AV) (H : List Blk) (N : AV → List Blk → Prop) : Prop :=
  match TY t, x with
  | some i, .str l => match i.kind with
    | .str => N (.iter H.length) (H ++ [.iter l 0])
    | _ => False
  | _, _ => False
theorem rangeA_sound (hTY : TyOk P TY) (hns : ∀ b, S b → b < w.heap.size) {H : List Blk} (hH : HRel ρ S w H) {t : TypeId} {x : AV} {v : Value} {N : AV → List Blk → Prop} (hx : V ρ S w x v) (h : rangeA TY t x H N) :
    VOk P ρ S w (Instr.range t v) N := by
  unfold rangeA at h
  split at h
  · rename_i i l hi
    obtain ⟨_, d, _, h2, _, _, _, h6, _, _⟩ := hTY.get hi
    split at h
    · rename_i hk
      obtain rfl := (kind_desc h6).2.2.1 hk
      obtain ⟨s, rfl, rfl, hm⟩ := hx.strR
      refine VOk.new hH (run_range_string w t s h2) h (.iter _ _ (newρ_at _ _)) ?_
      intro b hb
      rw [newρ_at] at hb
      cases hb
      exact ⟨fun hs => Nat.lt_irrefl _ (hns _ hs), s, heap_alloc_at w _, rfl, hm⟩
    · exact h.elim
  · exact h.elim
/-- The rune at a place, and how wide it is: sealed, so that nothing looks into them. -/
noncomputable def runeAt : List UInt8 → Nat → Int := Classical.choose (⟨fun l p => ((Utf8.decode ⟨l.toArray⟩ p).1 : Int), rfl⟩ : ∃ f : List UInt8 → Nat → Int, f = fun l p => ((Utf8.decode ⟨l.toArray⟩ p).1 : Int))
theorem runeAt_eq (l : List UInt8) (p : Nat) : runeAt l p = ((Utf8.decode ⟨l.toArray⟩ p).1 : Int) := congrFun (congrFun (Classical.choose_spec (⟨fun l p => ((Utf8.decode ⟨l.toArray⟩ p).1 : Int), rfl⟩ : ∃ f : List UInt8 → Nat → Int, f = fun l p => ((Utf8.decode ⟨l.toArray⟩ p).1 : Int))) l) p
noncomputable def runeW : List UInt8 → Nat → Nat := Classical.choose (⟨fun l p => (Utf8.decode ⟨l.toArray⟩ p).2, rfl⟩ : ∃ f : List UInt8 → Nat → Nat, f = fun l p => (Utf8.decode ⟨l.toArray⟩ p).2)
theorem runeW_eq (l : List UInt8) (p : Nat) : runeW l p = (Utf8.decode ⟨l.toArray⟩ p).2 := congrFun (congrFun (Classical.choose_spec (⟨fun l p => (Utf8.decode ⟨l.toArray⟩ p).2, rfl⟩ : ∃ f : List UInt8 → Nat → Nat, f = fun l p => (Utf8.decode ⟨l.toArray⟩ p).2)) l) p
def nextA (x : AV) (isS : Bool) (H : List Blk) (N : AV → List Blk → Prop) : Prop :=
  match x, isS with
  | .iter id, true => match H[id]? with
    | some (.iter l pos) => match decide (pos < l.length) with
      | true => N (.tup [.bool true, .int .i64 pos, .int .i32 (runeAt l pos)]) (H.set id (.iter l (pos + runeW l pos)))
      | false => N (.tup [.bool false]) H
    | _ => False
  | _, _ => False
theorem iterAt_facts (w : World) (k : Nat) (s : ByteArray) (pos : Nat) (o : Obj) (hk : w.heap[k]? = some o) : (w.iterAt k s pos).heap[k]? = some (.stringIter s pos) ∧ (∀ j, j ≠ k → (w.iterAt k s pos).heap[j]? = w.heap[j]?) ∧ (w.iterAt k s pos).heap.size = w.heap.size := by
  have hlt := lt_of_some hk
  refine ⟨?_, fun j hj => ?_, ?_⟩
  · show (w.heap.setIfInBounds k _)[k]? = _
    rw [Array.getElem?_setIfInBounds, if_pos rfl, if_pos hlt]
  · show (w.heap.setIfInBounds k _)[j]? = _
    rw [Array.getElem?_setIfInBounds, if_neg (fun h => hj h.symm)]
  · show (w.heap.setIfInBounds k _).size = _
    simp
theorem nextA_sound {H : List Blk} (hH : HRel ρ S w H) {x : AV} {v : Value} {isS : Bool} {ty : TypeId} {N : AV → List Blk → Prop} (hx : V ρ S w x v) (h : nextA x isS H N) :
    VOk P ρ S w (Instr.next v isS ty) N := by
  unfold nextA at h
  split at h
  · rename_i id
    cases hx with
    | iter _ b hb =>
      split at h
      · rename_i l pos hid
        obtain ⟨hnS, s, h1, rfl, hm⟩ := hH.blk id _ hid b hb
        have hs : (⟨s.data.toList.toArray⟩ : ByteArray) = s := by simp
        split at h
        · rename_i hd
          have hlt : pos < s.size := by simpa using hd
          rw [runeAt_eq, runeW_eq, hs] at h
          have hf := iterAt_facts w b s (pos + (Utf8.decode s pos).2) _ h1
          have hE : Ext ρ S w ρ S (w.iterAt b s (pos + (Utf8.decode s pos).2)) := ext_upd hH hb hnS hf.2.2 hf.2.1 (fun a' T' f' h' => by rw [h1] at h'; cases h') rfl rfl rfl
          have hdl := decode_le s pos
          have hml := hm
          rw [maxLen_eq, bsize] at hml
          refine ⟨_, _, _, _, ρ, Lib.run_next_any_at w b s pos ty h1 hlt, h, ?_, ?_, hE⟩
          · refine .tup _ _ rfl fun i c v hc hv => ?_
            match i with
            | 0 => simp at hc hv; subst hc; subst hv; exact .bool _
            | 1 => simp at hc hv; subst hc; subst hv; exact V.int' (by simp only [inK, lo, hi]; omega)
            | 2 => simp at hc hv; subst hc; subst hv; exact V.int' (by simp only [inK, lo, hi]; omega)
            | i + 3 => simp at hc
          · refine hrel_upd hH hid rfl hb hE hf.2.2 hf.2.1 ?_
            intro b' hb'
            rw [hb] at hb'; cases hb'
            exact ⟨hnS, s, hf.1, rfl, hm⟩
        · rename_i hd
          have hlt : ¬ pos < s.size := by simpa using hd
          refine VOk.same hH (Lib.run_next_end_at w b s pos ty h1 hlt) h ?_
          refine .tup _ _ rfl fun i c v hc hv => ?_
          match i with
          | 0 => simp at hc hv; subst hc; subst hv; exact .bool _
          | i + 1 => simp at hc
      · exact h.elim
  · exact h.elim
end
end
end Go.Vc

/- Maps; and all operations together. -/
namespace Go.Vc
open Go
noncomputable section
section
variable {P : Program} {TY : TypeId → Option TI} {ρ : Nat → Option Nat} {S : Nat → Prop} {w : World}
/-! ### Maps -/
/-- Scalars, held against one another. -/
def eqS : AV → AV → Bool
  | .int k a, .int k' b => decide (k = k') && eqI a b
  | .str a, .str b => a == b
  | .bool a, .bool b => a == b
  | _, _ => false
def eqSs : List AV → List AV → Bool
  | [], [] => true
  | a :: as, b :: bs => eqS a b && eqSs as bs
  | _, _ => false
theorem eqS_val {x y : AV} {vx vy : Value} (h : eqS x y = true) (hx : V ρ S w x vx) (hy : V ρ S w y vy) : vx = vy ∧ ∀ n, Instr.sameBits n vx vy = true := by
  unfold eqS at h
  split at h
  · rw [Bool.and_eq_true, decide_eq_true_eq, eqI_eq, beq_iff_eq] at h
    obtain ⟨rfl, rfl⟩ := h
    obtain ⟨rfl, _⟩ := hx.intR
    obtain ⟨rfl, _⟩ := hy.intR
    exact ⟨rfl, fun n => by cases n <;> simp [Instr.sameBits]⟩
  · rw [beq_iff_eq] at h
    subst h
    obtain ⟨s, rfl, h1, _⟩ := hx.strR
    obtain ⟨s', rfl, h2, _⟩ := hy.strR
    have : s = s' := by
      cases s with | mk d => cases s' with | mk d' =>
      simp only [ByteArray.mk.injEq] at *
      exact Array.toList_inj.1 (h1.trans h2.symm)
    subst this
    exact ⟨rfl, fun n => by cases n <;> simp only [Instr.sameBits] <;> (rw [beq_toListBytes]; simp)⟩
  · rw [beq_iff_eq] at h
    subst h
    obtain rfl := hx.boolR
    obtain rfl := hy.boolR
    exact ⟨rfl, fun n => by cases n <;> simp [Instr.sameBits]⟩
  · cases h
theorem eqSs_val : ∀ {xs ys : List AV} {vs us : List Value}, eqSs xs ys = true → xs.length = vs.length → ys.length = us.length →
    (∀ (i : Nat) (c : AV) (v : Value), xs[i]? = some c → vs[i]? = some v → V ρ S w c v) → (∀ (i : Nat) (c : AV) (v : Value), ys[i]? = some c → us[i]? = some v → V ρ S w c v) →
    vs = us ∧ ∀ n, ((vs.zip us).all fun (x, y) => Instr.sameBits n x y) = true
  | [], [], [], [], _, _, _, _, _ => ⟨rfl, fun _ => rfl⟩
  | [], _ :: _, _, _, h, _, _, _, _ => by simp [eqSs] at h
  | _ :: _, [], _, _, h, _, _, _, _ => by simp [eqSs] at h
  | a :: as, b :: bs, v :: vs, u :: us, h, hl, hl2, hx, hy => by
    rw [eqSs, Bool.and_eq_true] at h
    obtain ⟨h1, h2⟩ := eqS_val h.1 (hx 0 a v rfl rfl) (hy 0 b u rfl rfl)
    obtain ⟨h3, h4⟩ := eqSs_val h.2 (by simpa using hl) (by simpa using hl2) (fun i c v hc hv => hx (i + 1) c v (by simpa using hc) (by simpa using hv)) (fun i c v hc hv => hy (i + 1) c v (by simpa using hc) (by simpa using hv))
    subst h1; subst h3
    exact ⟨rfl, fun n => by simp only [List.zip_cons_cons, List.all_cons, h2 n, h4 n, Bool.and_self]⟩
  | [], [], _ :: _, _, _, hl, _, _, _ => by simp at hl
  | [], [], [], _ :: _, _, _, hl, _, _ => by simp at hl
  | _ :: _, _ :: _, [], _, _, hl, _, _, _ => by simp at hl
  | _ :: _, _ :: _, _ :: _, [], _, _, hl, _, _ => by simp at hl
def keyEq (TY : TypeId → Option TI) (kt : TypeId) : TK → AV → AV → Option Bool
  | .int _, .int k a, .int k' b => if k = k' then some (eqI a b) else none
  | .str, .str a, .str b => some (a == b)
  | .bool, .bool a, .bool b => some (a == b)
  | .struct _, .agg xs, .agg ys => (match eqA TY 12 kt (.agg xs) (.agg ys) with
    | some true => (match eqSs xs ys with | true => some true | false => none)
    | some false => some false
    | none => none)
  | _, _, _ => none
def findE (TY : TypeId → Option TI) (kt : TypeId) (kd : TK) (key : AV) : List (AV × AV) → Nat → (Option (Nat × AV) → Prop) → Prop
  | [], _, K => K none
  | (k', v) :: es, i, K => match keyEq TY kt kd key k' with
    | some b => (match b with
      | true => K (some (i, v))
      | false => findE TY kt kd key es (i + 1) K)
    | none => False
/-- What is known of two keys that were held against one another. -/
theorem keyEq_real (hTY : TyOk P TY) {kt : TypeId} {ki : TI} (hki : TY kt = some ki) {x y : AV} {vx vy : Value} (hx : V ρ S w x vx) (hy : V ρ S w y vy) {b : Bool} (h : keyEq TY kt ki.kind x y = some b) :
    (∀ w', (Op.equal kt vx vy).run P w' = .ok b w') ∧ (b = true → ∀ n, Instr.sameBits (n + 1) vy vx = true) ∧ ∀ d, P.underlying kt = some d → (Instr.sameNow d vx vy = some b ∨ (∃ xs, ki.kind = .struct xs ∧ Instr.sameNow d vx vy = none)) := by
  obtain ⟨info, d, _, h2, _, _, _, h6, _, _⟩ := hTY.get hki
  obtain ⟨kb, kint, kstr, _, _, _, _, kst⟩ := kind_desc h6
  unfold keyEq at h
  split at h
  · rename_i hk
    split at h
    · rename_i hkk
      subst hkk
      cases h
      obtain rfl := kint _ hk
      obtain ⟨rfl, _⟩ := hx.intR
      obtain ⟨rfl, _⟩ := hy.intR
      refine ⟨fun w' => ?_, fun hb n => ?_, fun d hd => ?_⟩
      · rw [eqI_eq]; exact run_equalIn_int _ _ _ _ _ _ _ h2
      · rw [eqI_eq, beq_iff_eq] at hb; subst hb; simp [Instr.sameBits]
      · rw [h2] at hd; cases hd; exact .inl (by simp [Instr.sameNow, eqI_eq])
    · cases h
  · rename_i hk
    cases h
    obtain rfl := kstr hk
    obtain ⟨s, rfl, rfl, _⟩ := hx.strR
    obtain ⟨s', rfl, rfl, _⟩ := hy.strR
    refine ⟨fun w' => ?_, fun hb n => ?_, fun d hd => ?_⟩
    · unfold Op.equal
      rw [show Op.maxDepth = 9999 + 1 from rfl, run_equalIn_string _ _ _ _ _ h2, ByteArray.toList_eq, ByteArray.toList_eq]
    · have : s' = s := by
        rw [beq_iff_eq] at hb
        cases s with | mk d => cases s' with | mk d' =>
        simp only [ByteArray.mk.injEq]
        exact Array.toList_inj.1 hb.symm
      subst this; simp only [Instr.sameBits]; rw [beq_toListBytes]; simp
    · rw [h2] at hd; cases hd; refine .inl ?_
      simp only [Instr.sameNow]
      rw [beq_toListBytes, ByteArray.toList_eq, ByteArray.toList_eq]
  · rename_i hk
    cases h
    obtain rfl := kb hk
    obtain rfl := hx.boolR
    obtain rfl := hy.boolR
    refine ⟨fun w' => ?_, fun hb n => ?_, fun d hd => ?_⟩
    · exact run_equalIn_bool _ _ _ _ _ h2
    · rw [beq_iff_eq] at hb; subst hb; simp [Instr.sameBits]
    · rw [h2] at hd; cases hd; exact .inl rfl
  · rename_i fs xs ys hk
    obtain ⟨gs, rfl, _, _⟩ := kst _ hk
    have hs : ∀ d, P.underlying kt = some d → Instr.sameNow d vx vy = none := fun d hd => by
      rw [h2] at hd; cases hd
      simp [Instr.sameNow]
    obtain ⟨vs, rfl, lx, hxs⟩ := hx.aggR
    obtain ⟨us, rfl, ly, hys⟩ := hy.aggR
    split at h
    · rename_i he
      split at h
      · rename_i hss
        cases h
        obtain ⟨h7, h8⟩ := eqSs_val (vs := vs.toList) (us := us.toList) hss (by simpa using lx) (by simpa using ly) (fun i c v hc hv => hxs i c v hc (by simpa using hv)) (fun i c v hc hv => hys i c v hc (by simpa using hv))
        have h9 : vs = us := Array.toList_inj.1 h7
        subst h9
        refine ⟨fun w' => eqA_sound hTY 12 10000 (by omega) kt _ _ true _ _ w' he hx hy, fun _ n => ?_, fun d hd => .inr ⟨_, hk, hs d hd⟩⟩
        simp only [Instr.sameBits, beq_self_eq_true, Bool.true_and]
        exact h8 n
      · cases h
    · rename_i he
      cases h
      exact ⟨fun w' => eqA_sound hTY 12 10000 (by omega) kt _ _ false _ _ w' he hx hy, fun hb => (by cases hb), fun d hd => .inr ⟨_, hk, hs d hd⟩⟩
    · cases h
  · cases h
/-- Entries that are known. -/
def MRel (ρ : Nat → Option Nat) (S : Nat → Prop) (w : World) (es : List (AV × AV)) (es' : List MapEntry) : Prop :=
  es.length = es'.length ∧ ∀ (i : Nat) k x (e : MapEntry), es[i]? = some (k, x) → es'[i]? = some e → V ρ S w k e.key ∧ V ρ S w x e.val
theorem MRel.tail {p : AV × AV} {e : MapEntry} {es : List (AV × AV)} {es' : List MapEntry} (h : MRel ρ S w (p :: es) (e :: es')) : MRel ρ S w es es' :=
  ⟨by simpa using h.1, fun i k x e hi he => h.2 (i + 1) k x e (by simpa using hi) (by simpa using he)⟩
/-- What the search comes to: by what is told at once (plain keys), and by asking. -/
theorem findE_real (hTY : TyOk P TY) {kt : TypeId} {ki : TI} (hki : TY kt = some ki) {d : TypeDesc} (hd : P.underlying kt = some d) {x : AV} {vx : Value} (hx : V ρ S w x vx) : ∀ (es : List (AV × AV)) (es' : List MapEntry) (i : Nat) (K : Option (Nat × AV) → Prop), MRel ρ S w es es' → findE TY kt ki.kind x es i K →
    ∃ r r', K r ∧ (∀ w', (Instr.findAsking kt vx es' i).run P w' = .ok r' w') ∧ (Instr.findNow d vx es' i = some r' ∨ ((∃ fs, ki.kind = .struct fs) ∧ Instr.findNow d vx es' i = none)) ∧
      (match r, r' with | none, none => True | some (j, a), some (j', v) => j = j' ∧ V ρ S w a v ∧ (∃ e, es'[j - i]? = some e ∧ ∀ n, Instr.sameBits (n + 1) e.key vx = true) ∧ i ≤ j | _, _ => False)
  | [], es', i, K, hm, h => by
    cases es' with
    | nil => exact ⟨none, none, h, fun w' => by simp [Instr.findAsking], .inl rfl, trivial⟩
    | cons _ _ => have := hm.1; simp at this
  | (k', v) :: es, es', i, K, hm, h => by
    cases es' with
    | nil => have := hm.1; simp at this
    | cons e es' =>
      rw [findE] at h
      obtain ⟨hk, hv⟩ := hm.2 0 k' v e rfl rfl
      split at h
      · rename_i b hb
        obtain ⟨e1, e2, e3⟩ := keyEq_real hTY hki hx hk hb
        have e3 := e3 d hd
        split at h
        · refine ⟨some (i, v), some (i, e.val), h, fun w' => by simp [Instr.findAsking, Sem.run_bind, e1 w'], ?_, rfl, hv, ⟨e, by simp, e2 rfl⟩, Nat.le_refl _⟩
          rcases e3 with e3 | ⟨_, hs, e3⟩
          · exact .inl (by simp [Instr.findNow, e3])
          · exact .inr ⟨⟨_, hs⟩, by simp [Instr.findNow, e3]⟩
        · obtain ⟨r, r', h1, h2, h3, h4⟩ := findE_real hTY hki hd hx es es' (i + 1) K hm.tail h
          refine ⟨r, r', h1, fun w' => by simp [Instr.findAsking, Sem.run_bind, e1 w', h2 w'], ?_, ?_⟩
          · rcases e3 with e3 | ⟨_, hs, e3⟩
            · rcases h3 with h3 | ⟨h3, h5⟩
              · exact .inl (by simp [Instr.findNow, e3, h3])
              · exact .inr ⟨h3, by simp [Instr.findNow, e3, h5]⟩
            · exact .inr ⟨⟨_, hs⟩, by simp [Instr.findNow, e3]⟩
          cases r with
          | none => cases r' with
            | none => trivial
            | some _ => exact h4
          | some p => cases r' with
            | none => exact h4
            | some q =>
              obtain ⟨g1, g2, ⟨e0, g3, g5⟩, g4⟩ := h4
              refine ⟨g1, g2, ⟨e0, ?_, g5⟩, by omega⟩
              rw [show p.1 - i = (p.1 - (i + 1)) + 1 by omega, List.getElem?_cons_succ]
              exact g3
      · exact h.elim
theorem findKey_of {kt : TypeId} {d : TypeDesc} (hd : P.underlying kt = some d) {vx : Value} {es' : List MapEntry} {r' : Option (Nat × Value)} (h2 : ∀ w', (Instr.findAsking kt vx es' 0).run P w' = .ok r' w') (h3 : Instr.findNow d vx es' 0 = some r' ∨ Instr.findNow d vx es' 0 = none) :
    (Instr.findKey kt vx es').run P w = .ok r' w := by
  unfold Instr.findKey
  rcases h3 with h3 | h3
  · simp [run_underlying' hd, h3]
  · simp [run_underlying' hd, h3, h2 w]
/-- A type whose values are plain keys. -/
def plainKey : TK → Bool
  | .int _ | .str | .bool => true
  | _ => false
/-- A key that may be one. -/
def keyOk (TY : TypeId → Option TI) (kd : TK) (key : AV) : Bool := match kd, key with
  | .int _, _ => true
  | .str, _ => true
  | .bool, _ => true
  | .struct fs, .agg cs => fs.all fun f => (match TY f.2 with | some i => plainKey i.kind && (loadA i cs f.1).isSome | none => false)
  | _, _ => false
theorem run_checkKey {t : TypeId} {d : TypeDesc} {kd : TK} (hd : TK.of d = kd) (hp : plainKey kd = true) (ht : P.underlying t = some d) (b : Bool) (n : Nat) (v : Value) : (Instr.checkKey b (n + 1) t v).run P w = .ok () w := by
  have hk := kind_desc (i := ⟨0, 0, false, kd, none, false⟩) hd
  obtain ⟨kb, ki, kstr, _⟩ := hk
  have : d = .bool ∨ (∃ k, d = .int k) ∨ d = .string := by
    cases kd <;> simp [plainKey] at hp
    · exact .inl (kb rfl)
    · exact .inr (.inl ⟨_, ki _ rfl⟩)
    · exact .inr (.inr (kstr rfl))
  rw [Instr.checkKey.eq_def]
  rcases this with rfl | ⟨k, rfl⟩ | rfl <;> simp only [Sem.run_bind, run_underlying' ht, Result.andThen_ok] <;> cases v <;> rfl
theorem run_checkKeyOk (hTY : TyOk P TY) {t : TypeId} {i : TI} (hi : TY t = some i) {key : AV} {v : Value} (hv : V ρ S w key v) (h : keyOk TY i.kind key = true) (b : Bool) : (Instr.checkKey b 10000 t v).run P w = .ok () w := by
  obtain ⟨info, d, _, h2, _, _, _, h6, _, _⟩ := hTY.get hi
  unfold keyOk at h
  split at h
  · rename_i hk; exact run_checkKey h6 (by rw [hk]; rfl) h2 b 9999 v
  · rename_i hk; exact run_checkKey h6 (by rw [hk]; rfl) h2 b 9999 v
  · rename_i hk; exact run_checkKey h6 (by rw [hk]; rfl) h2 b 9999 v
  · rename_i fs cs hk
    obtain ⟨_, _, _, _, _, _, _, kst⟩ := kind_desc h6
    obtain ⟨gs, rfl, rfl, hn⟩ := kst _ hk
    obtain ⟨vs, rfl, lx, hxs⟩ := hv.aggR
    rw [show (10000 : Nat) = 9998 + 1 + 1 from rfl, Instr.checkKey]
    simp only [Sem.run_bind, run_underlying' h2, Result.andThen_ok]
    rw [← Array.forIn_toList]
    generalize gs.toList = gl at h hn
    have key : ∀ gl : List _, (gl.map fun f : Field => (f.offset, f.type)).all (fun f => (match TY f.2 with | some i => plainKey i.kind && (loadA i cs f.1).isSome | none => false)) = true → (∀ f ∈ gl, f.name ≠ "_") →
        ∀ u, (forIn gl u fun f (_ : PUnit) => (do
          if f.name ≠ "_" then Instr.checkKey b (9998 + 1) f.type (← part f.type vs f.offset)
          pure (ForInStep.yield PUnit.unit) : Sem (ForInStep PUnit))).run P w = .ok PUnit.unit w := by
      intro gl
      induction gl with
      | nil => intro _ _ u; simp
      | cons g gl ih =>
        intro h hn u
        rw [List.map_cons, List.all_cons, Bool.and_eq_true] at h
        obtain ⟨h3, h4⟩ := h
        split at h3
        · rename_i gi hgi
          rw [Bool.and_eq_true, Option.isSome_iff_exists] at h3
          obtain ⟨h3, c, hc⟩ := h3
          obtain ⟨info', d', _, g2, _, _, _, g6, _, _⟩ := hTY.get hgi
          obtain ⟨va, ra, _⟩ := run_part hTY hgi lx hxs hc
          have := ih h4 (fun f hf => hn f (List.mem_cons_of_mem _ hf)) PUnit.unit
          simp only [List.forIn_cons, Sem.run_bind, if_pos (hn g List.mem_cons_self), ra, Result.andThen_ok, run_checkKey g6 h3 g2 b 9998 va, Sem.run_pure]
          exact this
        · cases h3
    have := key gl h hn PUnit.unit
    simpa [Sem.run_bind] using congrArg (fun r => r.andThen fun _ w => .ok () w) this
  · cases h
def mapOf (H : List Blk) (x : AV) : Option (List (AV × AV)) :=
  match x with
  | .nilmap => some []
  | .map id => match H[id]? with
    | some (.map es _) => some es
    | _ => none
  | _ => none
def lookupA (TY : TypeId → Option TI) (t : TypeId) (x key : AV) (ok : Bool) (H : List Blk) (N : AV → Prop) : Prop :=
  match TY t with
  | none => False
  | some i => match i.kind with
    | .map kt et => match TY kt, TY et with
      | some ki, some ei => if keyOk TY ki.kind key = true then (match mapOf H x with
        | none => False
        | some es => findE TY kt ki.kind key es 0 fun r => match r with
          | some (_, v) => N (if ok then .tup [v, .bool true] else v)
          | none => optP ei.zero fun z => N (if ok then .tup [z, .bool false] else z)) else False
      | _, _ => False
    | _ => False
theorem mapOf_real {H : List Blk} (hH : HRel ρ S w H) {x : AV} {v : Value} (hx : V ρ S w x v) {es : List (AV × AV)} (h : mapOf H x = some es) :
    ∃ es', MRel ρ S w es es' ∧ ((v = .map none ∧ es' = []) ∨ ∃ b arr clock, v = .map (some b) ∧ w.heap[b]? = some (.map arr clock) ∧ arr.toList = es') := by
  unfold mapOf at h
  split at h
  · cases h; cases hx
    exact ⟨[], ⟨rfl, fun i k x e hi => by simp at hi⟩, .inl ⟨rfl, rfl⟩⟩
  · rename_i id
    split at h
    · rename_i es0 hid
      cases h
      cases hx with
      | map _ b hb =>
        obtain ⟨_, arr, clock, h1, h2, _, h3⟩ := hH.blk id _ hid b hb
        exact ⟨arr.toList, ⟨by simpa using h2, fun i k x e hi he => h3 i k x e hi (by simpa using he)⟩, .inr ⟨b, arr, clock, rfl, h1, rfl⟩⟩
    · cases h
  · cases h
theorem lookupA_sound (hTY : TyOk P TY) {H : List Blk} (hH : HRel ρ S w H) {t : TypeId} {x key : AV} {v u : Value} {ok : Bool} {N : AV → Prop} (hx : V ρ S w x v) (hk : V ρ S w key u) (h : lookupA TY t x key ok H N) :
    VSt P ρ S w (Instr.lookup t v u ok) N := by
  unfold lookupA at h
  split at h
  · exact h.elim
  · rename_i i hi
    obtain ⟨_, d, _, h2, _, _, _, h6, _, _⟩ := hTY.get hi
    split at h
    · rename_i kt et hkm
      obtain rfl := (kind_desc h6).2.2.2.2.2.2.1 _ _ hkm
      split at h
      · rename_i ki ei hki hei
        obtain ⟨_, dk, _, g2, _, _, _, g6, _, _⟩ := hTY.get hki
        split at h
        · rename_i hp
          split at h
          · exact h.elim
          · rename_i es hes
            obtain ⟨es', hm, hcase⟩ := mapOf_real hH hx hes
            obtain ⟨r, r', hK, hf1, hf2, hrr⟩ := findE_real hTY hki g2 hk es es' 0 _ hm h
            have hfk : (Instr.findKey kt u es').run P w = .ok r' w := findKey_of g2 hf1 (hf2.imp (fun h => h) And.right)
            have hck := fun b => run_checkKeyOk hTY hki hk hp b
            have hrun : ∀ (val : Value) (fnd : Bool), (match r' with | some (_, v) => (pure (v, true) : Sem (Value × Bool)) | none => do pure (← zeroValue et, false)).run P w = .ok (val, fnd) w →
                (Instr.lookup t v u ok).run P w = .ok (if ok then .tuple #[val, .bool fnd] else val) w := by
              intro val fnd hv
              unfold Instr.lookup
              rcases hcase with ⟨rfl, rfl⟩ | ⟨b, arr, clock, rfl, hb, rfl⟩
              · simp only [Sem.run_bind, run_underlying' h2, Result.andThen_ok, Sem.run_pure, hck]
                rw [show (Instr.findKey kt u (#[] : Array MapEntry).toList) = Instr.findKey kt u [] from rfl, hfk]
                cases r' with
                | none =>
                  simp only [Sem.run_bind, Sem.run_pure] at hv
                  simp only [Result.andThen_ok, Sem.run_bind, Sem.run_pure]
                  generalize (zeroValue et).run P w = zr at *
                  cases zr <;> simp [Result.andThen] at hv ⊢
                  obtain ⟨⟨rfl, rfl⟩, rfl⟩ := hv
                  simp
                | some p =>
                  simp only [Sem.run_pure, Result.ok.injEq, Prod.mk.injEq, and_true] at hv
                  obtain ⟨rfl, rfl⟩ := hv
                  simp
              · have hget : (getObj b).run P w = .ok (.map arr clock) w := by simp [getObj, Sem.run, hb]
                simp only [Sem.run_bind, run_underlying' h2, Result.andThen_ok, Sem.run_pure, hget, hck, hfk]
                cases r' with
                | none =>
                  simp only [Sem.run_bind, Sem.run_pure] at hv
                  simp only [Result.andThen_ok, Sem.run_bind, Sem.run_pure]
                  generalize (zeroValue et).run P w = zr at *
                  cases zr <;> simp [Result.andThen] at hv ⊢
                  obtain ⟨⟨rfl, rfl⟩, rfl⟩ := hv
                  simp
                | some p =>
                  simp only [Sem.run_pure, Result.ok.injEq, Prod.mk.injEq, and_true] at hv
                  obtain ⟨rfl, rfl⟩ := hv
                  simp
            have htup : ∀ (c : AV) (val : Value) (fnd : Bool), V ρ S w c val → V ρ S w (if ok then .tup [c, .bool fnd] else c) (if ok then .tuple #[val, .bool fnd] else val) := by
              intro c val fnd hc
              cases ok
              · exact hc
              · refine .tup _ _ rfl fun i c' v' h1 h2 => ?_
                match i with
                | 0 => simp at h1 h2; subst h1; subst h2; exact hc
                | 1 => simp at h1 h2; subst h1; subst h2; exact .bool _
                | i + 2 => simp at h1
            cases r with
            | none =>
              cases r' with
              | some _ => exact hrr.elim
              | none =>
                obtain ⟨z, hz, hN⟩ := optP_some hK
                obtain ⟨zv, hzv, rfl⟩ := hTY.zero hei hz
                exact VSt.same hH (hrun zv false (by simp [hzv])) hN (htup _ _ _ (V.ofC _))
            | some p =>
              cases r' with
              | none => exact hrr.elim
              | some q =>
                obtain ⟨pj, pv⟩ := p
                obtain ⟨qj, qv⟩ := q
                obtain ⟨_, hv, _⟩ := hrr
                exact VSt.same hH (hrun qv true rfl) hK (htup _ _ _ hv)
        · exact h.elim
      · exact h.elim
    · exact h.elim
def mapSetA (TY : TypeId → Option TI) (t : TypeId) (x key val : AV) (H : List Blk) (N : List Blk → Prop) : Prop :=
  match TY t, x with
  | some i, .map id => match i.kind with
    | .map kt _ => match TY kt with
      | some ki => if keyOk TY ki.kind key = true then (match H[id]? with
        | some (.map es bk) => findE TY kt ki.kind key es 0 fun r => match r with
          | some (j, _) => N (H.set id (.map (es.set j (key, val)) bk))
          | none => N (H.set id (.map (es ++ [(key, val)]) (match bk with | none => none | some (bs, ck) => some (bs ++ [ck], ck + 1))))
        | _ => False) else False
      | none => False
    | _ => False
  | _, _ => False
theorem setMap_facts (w : World) (k : Nat) (o o' : Obj) (hk : w.heap[k]? = some o) : ({ w with heap := w.heap.setIfInBounds k o' } : World).heap[k]? = some o' ∧ (∀ j, j ≠ k → ({ w with heap := w.heap.setIfInBounds k o' } : World).heap[j]? = w.heap[j]?) ∧
    ({ w with heap := w.heap.setIfInBounds k o' } : World).heap.size = w.heap.size := by
  have hlt := lt_of_some hk
  refine ⟨?_, fun j hj => ?_, by simp⟩
  · show (w.heap.setIfInBounds k _)[k]? = _
    rw [Array.getElem?_setIfInBounds, if_pos rfl, if_pos hlt]
  · show (w.heap.setIfInBounds k _)[j]? = _
    rw [Array.getElem?_setIfInBounds, if_neg (fun h => hj h.symm)]
theorem mapSetA_sound (hTY : TyOk P TY) {H : List Blk} (hH : HRel ρ S w H) {t : TypeId} {x key val : AV} {v u z : Value} {N : List Blk → Prop} (hx : V ρ S w x v) (hk : V ρ S w key u) (hz : V ρ S w val z) (h : mapSetA TY t x key val H N) :
    ∃ w' H', (Instr.mapUpdate t v u z).run P w = .ok () w' ∧ N H' ∧ HRel ρ S w' H' ∧ Ext ρ S w ρ S w' := by
  unfold mapSetA at h
  split at h
  · rename_i i id hi
    obtain ⟨_, d, _, h2, _, _, _, h6, _, _⟩ := hTY.get hi
    cases hx with
    | map _ b hb =>
    split at h
    · rename_i kt et hkm
      obtain rfl := (kind_desc h6).2.2.2.2.2.2.1 _ _ hkm
      split at h
      · rename_i ki hki
        obtain ⟨_, dk, _, g2, _, _, _, g6, _, _⟩ := hTY.get hki
        split at h
        · rename_i hp
          split at h
          · rename_i es bk hid
            obtain ⟨hnS, arr, clock, h1, hl, hbk, hall⟩ := hH.blk id _ hid b hb
            have hm : MRel ρ S w es arr.toList := ⟨by simpa using hl, fun i k x e hi he => hall i k x e hi (by simpa using he)⟩
            obtain ⟨r, r', hK, hf1, hf2, hrr⟩ := findE_real hTY hki g2 hk es arr.toList 0 _ hm h
            have hfk : (Instr.findKey kt u arr.toList).run P w = .ok r' w := findKey_of g2 hf1 (hf2.imp (fun h => h) And.right)
            have hck := fun b => run_checkKeyOk hTY hki hk hp b
            have hget : (getObj b).run P w = .ok (.map arr clock) w := by simp [getObj, Sem.run, h1]
            have hset : ∀ o, (setObj b o).run P w = .ok () { w with heap := w.heap.setIfInBounds b o } := fun o => by simp [setObj, Sem.run, h1]
            have fin : ∀ (arr' : Array MapEntry) (clock' : Nat) (es2 : List (AV × AV)) (bk2 : Option (List Nat × Nat)), (Instr.mapUpdate t (.map (some b)) u z).run P w = .ok () { w with heap := w.heap.setIfInBounds b (.map arr' clock') } → N (H.set id (.map es2 bk2)) → bornOk bk2 arr' clock' → MRel ρ S w es2 arr'.toList →
                ∃ w' H', (Instr.mapUpdate t (.map (some b)) u z).run P w = .ok () w' ∧ N H' ∧ HRel ρ S w' H' ∧ Ext ρ S w ρ S w' := by
              intro arr' clock' es2 bk2 hrun hN hb2 hm2
              obtain ⟨f1, f2, f3⟩ := setMap_facts w b _ (.map arr' clock') h1
              have hE : Ext ρ S w ρ S { w with heap := w.heap.setIfInBounds b (.map arr' clock') } := ext_upd hH hb hnS f3 f2 (fun a' T' f' h' => by rw [h1] at h'; cases h') rfl rfl rfl
              refine ⟨_, _, hrun, hN, hrel_upd hH hid rfl hb hE f3 f2 ?_, hE⟩
              intro b' hb'
              rw [hb] at hb'; cases hb'
              refine ⟨hnS, arr', clock', f1, by simpa using hm2.1, hb2, fun i k x e hi he => ?_⟩
              have := hm2.2 i k x e hi (by simpa using he)
              exact ⟨this.1.mono hE, this.2.mono hE⟩
            cases r with
            | none =>
              cases r' with
              | some _ => exact hrr.elim
              | none =>
                refine fin (arr.push { key := u, val := z, born := clock }) (clock + 1) _ _ ?_ hK ?_ ?_
                · unfold Instr.mapUpdate
                  simp only [Sem.run_bind, run_underlying' h2, Result.andThen_ok, hget, hck, hfk, hset]
                · cases bk with
                  | none => trivial
                  | some p => obtain ⟨bs, ck⟩ := p; obtain ⟨e1, e2⟩ := hbk; subst e2; exact ⟨by simp [e1], rfl⟩
                · refine ⟨by simp; omega, fun i k x e hi he => ?_⟩
                  rw [Array.toList_push] at he
                  by_cases hlt : i < es.length
                  · rw [List.getElem?_append_left hlt] at hi
                    rw [List.getElem?_append_left (by simp; omega)] at he
                    exact hm.2 i k x e hi he
                  · rw [List.getElem?_append_right (by omega)] at hi
                    rw [List.getElem?_append_right (by simp; omega)] at he
                    have hi0 : i - es.length = 0 := by
                      rcases Nat.eq_zero_or_pos (i - es.length) with h0 | h0
                      · exact h0
                      · rw [List.getElem?_eq_none (by simp; omega)] at hi; cases hi
                    rw [hi0] at hi
                    have hi0' : i - arr.toList.length = 0 := by simp; omega
                    rw [hi0'] at he
                    simp at hi he
                    obtain ⟨rfl, rfl⟩ := hi
                    subst he
                    exact ⟨hk, hz⟩
            | some p =>
              cases r' with
              | none => exact hrr.elim
              | some q =>
                obtain ⟨j, pv⟩ := p
                obtain ⟨j', qv⟩ := q
                obtain ⟨hjj, _, ⟨e0, he0, hsn⟩, _⟩ := hrr
                dsimp only at hjj he0 hK
                subst hjj
                rw [Nat.sub_zero] at he0
                have he0' : arr[j]? = some e0 := by simpa using he0
                refine fin (arr.modify j fun e => { e with key := u, val := z }) clock _ _ ?_ hK ?_ ?_
                · unfold Instr.mapUpdate
                  simp only [Sem.run_bind, run_underlying' h2, Result.andThen_ok, hget, hck, hfk, he0']
                  simp only [Option.map_some, Option.getD_some, Instr.keyThatStays, hsn 9999, if_true, Sem.run_pure, Result.andThen_ok, hset]
                · cases bk with
                  | none => trivial
                  | some p =>
                    obtain ⟨bs, ck⟩ := p
                    obtain ⟨e1, e2⟩ := hbk
                    refine ⟨?_, e2⟩
                    rw [← e1]
                    apply List.ext_getElem?
                    intro i
                    simp only [List.getElem?_map, Array.getElem?_toList, Array.getElem?_modify]
                    split <;> (cases arr[i]? <;> rfl)
                · refine ⟨by simp; omega, fun i k x e hi he => ?_⟩
                  rw [Array.getElem?_toList, Array.getElem?_modify] at he
                  rw [List.getElem?_set] at hi
                  by_cases hji : j = i
                  · subst hji
                    rw [if_pos rfl] at hi he
                    split at hi
                    · simp only [Option.some.injEq, Prod.mk.injEq] at hi
                      obtain ⟨rfl, rfl⟩ := hi
                      rw [he0'] at he
                      simp at he
                      subst he
                      exact ⟨hk, hz⟩
                    · cases hi
                  · rw [if_neg hji] at hi he
                    exact hm.2 i k x e hi (by simpa using he)
          · exact h.elim
        · exact h.elim
      · exact h.elim
    · exact h.elim
  · exact h.elim
end
end
end Go.Vc

/- Maps gone over, entries struck out; assertions of types. -/
namespace Go.Vc
open Go
noncomputable section
section
variable {P : Program} {TY : TypeId → Option TI} {ρ : Nat → Option Nat} {S : Nat → Prop} {w : World}
/-! ### Assertions -/
def assertA (TY : TypeId → Option TI) (x : AV) (t : TypeId) (ok : Bool) (N : AV → Prop) : Prop :=
  match TY t, x with
  | some i, .iface u v => (match i.kind with
    | .iface => False
    | _ => (match Nat.beq u t with
      | true => N (if ok then .tup [v, .bool true] else v)
      | false => False))
  | _, _ => False
theorem kind_noiface {d : TypeDesc} {i : TI} (h : TK.of d = i.kind) (hk : i.kind ≠ .iface) : ∀ ms, d ≠ .interface ms := by
  rintro ms rfl
  exact hk (by rw [← h]; rfl)
theorem assertA_sound (hTY : TyOk P TY) {H : List Blk} (hH : HRel ρ S w H) {x : AV} {v : Value} {xT t : TypeId} {ok : Bool} {N : AV → Prop} (hx : V ρ S w x v) (h : assertA TY x t ok N) : VSt P ρ S w (Instr.typeAssert v xT t ok) N := by
  unfold assertA at h
  split at h
  · rename_i i u a hi
    obtain ⟨_, d, _, h2, _, _, _, h6, _, _⟩ := hTY.get hi
    have h' : i.kind ≠ .iface ∧ (match Nat.beq u t with | true => N (if ok then .tup [a, .bool true] else a) | false => False) := by
      split at h
      · exact h.elim
      · rename_i hk; exact ⟨fun e => hk e, h⟩
    obtain ⟨hk, h'⟩ := h'
    have hd := kind_noiface h6 hk
    clear h
    split at h'
    · rename_i hb
      obtain rfl := Nat.eq_of_beq_eq_true hb
      cases hx with
      | iface _ _ v hv =>
        have hrun : (Instr.typeAssert (.iface u v) xT u ok).run P w = .ok (if ok then .tuple #[v, .bool true] else v) w := by
          unfold Instr.typeAssert
          simp only [Sem.run_bind, run_underlying' h2, Result.andThen_ok]
          cases d <;> first | exact absurd rfl (hd _) | simp
        refine VSt.same hH hrun h' ?_
        cases ok
        · exact hv
        · refine .tup _ _ rfl fun i c' v' h1 h2 => ?_
          match i with
          | 0 => simp at h1 h2; subst h1; subst h2; exact hv
          | 1 => simp at h1 h2; subst h1; subst h2; exact .bool _
          | i + 2 => simp at h1
    · exact h'.elim
  · exact h.elim
/-! ### Going over a map -/
def rangeMA (TY : TypeId → Option TI) (t : TypeId) (x : AV) (H : List Blk) (N : AV → List Blk → Prop) : Prop :=
  match TY t with
  | some i => (match i.kind with
    | .map _ _ => (match x with
      | .nilmap => N (.iter H.length) (H ++ [.ext (.mit none 0 [] 0)])
      | .map id => (match H[id]? with
        | some (.map _ (some (_, ck))) => N (.iter H.length) (H ++ [.ext (.mit (some id) ck [] ck)])
        | _ => False)
      | _ => False)
    | _ => False)
  | none => False
theorem rangeMA_sound (hTY : TyOk P TY) (hns : ∀ b, S b → b < w.heap.size) {H : List Blk} (hH : HRel ρ S w H) {t : TypeId} {x : AV} {v : Value} {N : AV → List Blk → Prop} (hx : V ρ S w x v) (h : rangeMA TY t x H N) :
    VOk P ρ S w (Instr.range t v) N := by
  unfold rangeMA at h
  split at h
  · rename_i i hi
    obtain ⟨_, d, _, h2, _, _, _, h6, _, _⟩ := hTY.get hi
    split at h
    · rename_i kt et hk
      obtain rfl := (kind_desc h6).2.2.2.2.2.2.1 _ _ hk
      split at h
      · cases hx
        refine VOk.new hH (v := .pointer (some ⟨w.heap.size, 0, none⟩)) (o := .mapIter none 0 #[] 0) ?_ h (.iter _ _ (newρ_at _ _)) ?_
        · simp [Instr.range, run_underlying' h2, newObj, Sem.run]
        · intro b hb
          rw [newρ_at] at hb
          cases hb
          exact ⟨fun hs => Nat.lt_irrefl _ (hns _ hs), _, heap_alloc_at w _, none, rfl, rfl⟩
      · rename_i id
        split at h
        · rename_i es bs ck hid
          cases hx with
          | map _ b hb =>
            obtain ⟨_, arr, clock, h3, h4, ⟨_, hck⟩, _⟩ := hH.blk id _ hid b hb
            subst hck
            have hlt : id < H.length := (List.getElem?_eq_some_iff.1 hid).1
            refine VOk.new hH (v := .pointer (some ⟨w.heap.size, 0, none⟩)) (o := .mapIter (some b) ck #[] ck) ?_ h (.iter _ _ (newρ_at _ _)) ?_
            · have hget : (getObj b).run P w = .ok (.map arr ck) w := by simp [getObj, Sem.run, h3]
              simp only [Instr.range, Sem.run_bind, run_underlying' h2, Result.andThen_ok, hget]
              simp [newObj, Sem.run]
            · intro b' hb'
              rw [newρ_at] at hb'
              cases hb'
              refine ⟨fun hs => Nat.lt_irrefl _ (hns _ hs), _, heap_alloc_at w _, some b, rfl, b, ?_, rfl⟩
              unfold newρ
              rw [if_neg (by omega)]; exact hb
        · exact h.elim
      · exact h.elim
    · exact h.elim
  · exact h.elim
/-- The entries that were not yet met. -/
def leftM (seen : List Nat) : List (AV × AV) → List Nat → List (AV × AV × Nat)
  | (k, v) :: es, b :: bs => if seen.contains b then leftM seen es bs else (k, v, b) :: leftM seen es bs
  | _, _ => []
/-- All that the iterator may hand out next: entries that were there from the start. -/
def eachM (N : AV → AV → Nat → Prop) : List (AV × AV × Nat) → Prop
  | [] => True
  | (k, v, b) :: l => N k v b ∧ eachM N l
def nextM0 (x : AV) (H : List Blk) (N : AV → List Blk → Prop) : Prop :=
  match x with
  | .iter id => (match H[id]? with
    | some (.ext (.mit m since seen last)) => (match m with
      | none => N (.tup [.bool false]) H
      | some mid => (match H[mid]? with
        | some (.map es (some (bs, ck))) =>
          (bs.all (fun b => Nat.blt b since) = true ∧ Nat.ble since last = true) ∧ (match leftM seen es bs with
          | [] => N (.tup [.bool false]) H
          | l => eachM (fun k v b => N (.tup [.bool true, k, v]) (H.set id (.ext (.mit m since (seen ++ [b]) ck)))) l)
        | _ => False))
    | _ => False)
  | _ => False
theorem eachM_get {N : AV → AV → Nat → Prop} : ∀ {l : List (AV × AV × Nat)}, eachM N l → ∀ (i : Nat) k v b, l[i]? = some (k, v, b) → N k v b
  | [], _, i, k, v, b, h => by simp at h
  | (k0, v0, b0) :: l, he, i, k, v, b, h => by
    cases i with
    | zero => simp at h; obtain ⟨rfl, rfl, rfl⟩ := h; exact he.1
    | succ i => exact eachM_get he.2 i k v b (by simpa using h)
/-- What is left of the entries, in the model. -/
theorem leftM_rel {seen : List Nat} : ∀ {es : List (AV × AV)} {bs : List Nat} {es' : List MapEntry}, MRel ρ S w es es' → es'.map (·.born) = bs →
    (leftM seen es bs).length = (es'.filter fun e => !seen.contains e.born).length ∧ ∀ (i : Nat) k v b (e : MapEntry), (leftM seen es bs)[i]? = some (k, v, b) → (es'.filter fun e => !seen.contains e.born)[i]? = some e → V ρ S w k e.key ∧ V ρ S w v e.val ∧ e.born = b
  | [], [], [], _, _ => ⟨rfl, fun i k v b e h => by simp [leftM] at h⟩
  | [], bs, e :: es', hm, _ => by have := hm.1; simp at this
  | [], _ :: _, [], _, hb => by simp at hb
  | _ :: _, bs, [], hm, _ => by have := hm.1; simp at this
  | (k0, v0) :: es, [], e :: es', _, hb => by simp at hb
  | (k0, v0) :: es, b0 :: bs, e0 :: es', hm, hb => by
    simp only [List.map_cons, List.cons.injEq] at hb
    obtain ⟨rfl, hb⟩ := hb
    obtain ⟨h1, h2⟩ := leftM_rel (seen := seen) hm.tail hb
    rw [leftM]
    split
    · rename_i hc
      rw [List.filter_cons_of_neg (by simpa using hc)]
      exact ⟨h1, h2⟩
    · rename_i hc
      rw [List.filter_cons_of_pos (by simpa using hc)]
      refine ⟨by simp [h1], fun i k v b e hi he => ?_⟩
      cases i with
      | zero =>
        simp at hi he
        obtain ⟨rfl, rfl, rfl⟩ := hi
        subst he
        obtain ⟨h3, h4⟩ := hm.2 0 k0 v0 e0 rfl rfl
        exact ⟨h3, h4, rfl⟩
      | succ i => exact h2 i k v b e (by simpa using hi) (by simpa using he)
theorem nextM0_sound {H : List Blk} (hH : HRel ρ S w H) {x : AV} {v : Value} {ty : TypeId} {N : AV → List Blk → Prop} (hx : V ρ S w x v) (h : nextM0 x H N) :
    VOk P ρ S w (Instr.next v false ty) N := by
  have over : V ρ S w (.tup [.bool false]) (.tuple #[.bool false]) := by
    refine .tup _ _ rfl fun i c v hc hv => ?_
    match i with
    | 0 => simp at hc hv; subst hc; subst hv; exact .bool _
    | i + 1 => simp at hc
  unfold nextM0 at h
  split at h
  · rename_i id
    cases hx with
    | iter _ b hb =>
    split at h
    · rename_i m since seen last hid
      obtain ⟨hnS, o, ho, mb, rfl, hm⟩ := hH.blk id _ hid b hb
      split at h
      · simp only at hm
        subst hm
        have hget : (getObj b).run P w = .ok (.mapIter none since seen.toArray last) w := by simp [getObj, Sem.run, ho]
        refine VOk.same hH (v := .tuple #[.bool false]) ?_ h over
        simp only [Instr.next, Sem.run_bind, hget, Result.andThen_ok, Sem.run_pure]
      · rename_i mid
        obtain ⟨bm, hbm, rfl⟩ := hm
        split at h
        · rename_i es bs ck hmid
          obtain ⟨_, arr, clock, h3, h4, ⟨h5, hck⟩, h6⟩ := hH.blk mid _ hmid bm hbm
          subst hck
          obtain ⟨⟨hold, hsl⟩, h⟩ := h
          have hmr : MRel ρ S w es arr.toList := ⟨by simpa using h4, fun i k x e hi he => h6 i k x e hi (by simpa using he)⟩
          obtain ⟨hl, hrel⟩ := leftM_rel (seen := seen) hmr h5
          have hfil : (leftOf arr seen.toArray).toList = arr.toList.filter fun e => !seen.contains e.born := by simp [leftOf]
          rw [← hfil] at hl hrel
          have hold' : ∀ x ∈ arr.toList, x.born < since := fun x hx => by
            have := List.all_eq_true.1 hold x.born (by rw [← h5]; exact List.mem_map_of_mem hx)
            exact Nat.le_of_ble_eq_true this
          rcases run_next_at (P := P) w ty b bm since last seen.toArray arr ck ho h3 hold' (Nat.le_of_ble_eq_true hsl) with ⟨h0, hrun⟩ | ⟨e, he, w1, hw1, hrun⟩
          · have : leftM seen es bs = [] := List.eq_nil_of_length_eq_zero (by rw [hl]; simpa using h0)
            rw [this] at h
            exact VOk.same hH hrun h over
          · obtain ⟨i, hi⟩ := List.getElem?_of_mem he
            have hil : i < (leftM seen es bs).length := by rw [hl]; exact (List.getElem?_eq_some_iff.1 hi).1
            obtain ⟨⟨k, v, bn⟩, hkv⟩ : ∃ q, (leftM seen es bs)[i]? = some q := ⟨_, List.getElem?_eq_getElem hil⟩
            obtain ⟨g1, g2, g3⟩ := hrel i k v bn e hkv hi
            have hN : eachM (fun k v b => N (.tup [.bool true, k, v]) (H.set id (.ext (.mit (some mid) since (seen ++ [b]) ck)))) (leftM seen es bs) := by
              split at h
              · rename_i hnil; rw [hnil] at hil; simp at hil
              · exact h
            have hN := eachM_get hN i k v bn hkv
            have hH1 : HRel ρ S w1 H := by rcases hw1 with rfl | rfl; exact hH; exact hrel_drew hH
            have hE1 : Ext ρ S w ρ S w1 := by rcases hw1 with rfl | rfl; exact Ext.refl _ _ _; exact ext_drew _ _ _
            have ho1 : w1.heap[b]? = some (.mapIter (some bm) since seen.toArray last) := by rcases hw1 with rfl | rfl <;> exact ho
            obtain ⟨f1, f2, f3⟩ := setMap_facts w1 b _ (.mapIter (some bm) since (seen.toArray.push e.born) ck) ho1
            have hE : Ext ρ S w1 ρ S (ChangeMaps.setBlock w1 b (.mapIter (some bm) since (seen.toArray.push e.born) ck)) := ext_upd hH1 hb hnS f3 f2 (fun a' T' f' h' => by rw [ho1] at h'; cases h') rfl rfl rfl
            refine ⟨_, _, _, _, ρ, hrun, hN, ?_, ?_, hE1.trans hE⟩
            · refine .tup _ _ rfl fun j c v' hc hv' => ?_
              match j with
              | 0 => simp at hc hv'; subst hc; subst hv'; exact .bool _
              | 1 => simp at hc hv'; subst hc; subst hv'; exact g1.mono (hE1.trans hE)
              | 2 => simp at hc hv'; subst hc; subst hv'; exact g2.mono (hE1.trans hE)
              | j + 3 => simp at hc
            · refine hrel_upd hH1 hid rfl hb hE f3 f2 ?_
              intro b' hb'
              rw [hb] at hb'; cases hb'
              exact ⟨hnS, _, f1, some bm, by simp [g3], bm, hbm, rfl⟩
        · exact h.elim
    · exact h.elim
  · exact h.elim
/-- The entry that was born then. -/
def bornE (b : Nat) : List (AV × AV) → List Nat → Option (AV × AV)
  | p :: es, c :: bs => (match Nat.beq c b with | true => some p | false => bornE b es bs)
  | _, _ => none
def nodupN : List Nat → Bool
  | [] => true
  | x :: xs => !xs.contains x && nodupN xs
theorem nodupN_spec {l : List Nat} (h : nodupN l = true) : l.Nodup := by
  induction l with
  | nil => exact List.nodup_nil
  | cons x xs ih =>
    rw [nodupN, Bool.and_eq_true] at h
    rw [List.nodup_cons]
    exact ⟨by simpa using h.1, ih h.2⟩
theorem bornE_rel {b : Nat} {p : AV × AV} : ∀ {es : List (AV × AV)} {bs : List Nat} {es' : List MapEntry}, MRel ρ S w es es' → es'.map (·.born) = bs → bornE b es bs = some p →
    ∃ e ∈ es', e.born = b ∧ V ρ S w p.1 e.key ∧ V ρ S w p.2 e.val
  | [], bs, es', _, _, h => by cases bs <;> simp [bornE] at h
  | _ :: _, [], es', _, _, h => by simp [bornE] at h
  | _ :: _, _ :: _, [], hm, _, _ => by have := hm.1; simp at this
  | (k0, v0) :: es, b0 :: bs, e0 :: es', hm, hb, h => by
    simp only [List.map_cons, List.cons.injEq] at hb
    obtain ⟨rfl, hb⟩ := hb
    rw [bornE] at h
    split at h
    · rename_i hbb
      cases h
      obtain ⟨h3, h4⟩ := hm.2 0 k0 v0 e0 rfl rfl
      exact ⟨e0, List.mem_cons_self, Nat.eq_of_beq_eq_true hbb, h3, h4⟩
    · obtain ⟨e, h1, h2⟩ := bornE_rel hm.tail hb h
      exact ⟨e, List.mem_cons_of_mem _ h1, h2⟩
def entryA0 (x : AV) (H : List Blk) (N : AV → Prop) : Prop :=
  match x with
  | .iter id => (match H[id]? with
    | some (.ext (.mit (some mid) _ seen last)) => (match seen.getLast?, H[mid]? with
      | some b, some (.map es (some (bs, ck))) => (Nat.beq ck last = true ∧ nodupN bs = true) ∧ optP (bornE b es bs) fun p => N (.tup [p.1, p.2])
      | _, _ => False)
    | _ => False)
  | _ => False
theorem entryA0_sound {H : List Blk} (hH : HRel ρ S w H) {x : AV} {v : Value} {N : AV → Prop} (hx : V ρ S w x v) (h : entryA0 x H N) : VSt P ρ S w (Instr.entry v) N := by
  unfold entryA0 at h
  split at h
  · rename_i id
    cases hx with
    | iter _ b hb =>
    split at h
    · rename_i mid since seen last hid
      obtain ⟨_, o, ho, mb, rfl, bm, hbm, rfl⟩ := hH.blk id _ hid b hb
      split at h
      · rename_i bn es bs ck hlast hmid
        obtain ⟨_, arr, clock, h3, h4, ⟨h5, hck⟩, h6⟩ := hH.blk mid _ hmid bm hbm
        subst hck
        obtain ⟨⟨h7, h8⟩, h⟩ := h
        obtain rfl := Nat.eq_of_beq_eq_true h7
        obtain ⟨p, hp, hN⟩ := optP_some h
        have hmr : MRel ρ S w es arr.toList := ⟨by simpa using h4, fun i k x e hi he => h6 i k x e hi (by simpa using he)⟩
        obtain ⟨e, he, rfl, hk, hv⟩ := bornE_rel hmr h5 hp
        have hseen : seen.toArray = seen.dropLast.toArray.push e.born := by
          have hne : seen ≠ [] := by rintro rfl; simp at hlast
          have h9 : seen.getLast hne = e.born := by rw [List.getLast?_eq_some_getLast hne] at hlast; exact Option.some.inj hlast
          rw [← Array.toList_inj, Array.toList_push]
          simp only [List.toList_toArray]
          rw [← h9, List.dropLast_concat_getLast]
        rw [hseen] at ho
        refine VSt.same hH (run_entry_at w b bm since _ arr ck e ho h3 he (by rw [h5]; exact nodupN_spec h8)) hN ?_
        refine .tup _ _ rfl fun j c v' hc hv' => ?_
        match j with
        | 0 => simp at hc hv'; subst hc; subst hv'; exact hk
        | 1 => simp at hc hv'; subst hc; subst hv'; exact hv
        | j + 2 => simp at hc
      · exact h.elim
    · exact h.elim
  · exact h.elim
/-! ### Entries in whatever order: what all of them have in common -/
/-- A whole number of that kind, or nothing. -/
def patC : AV → AV
  | .int k _ => .intu (some k)
  | .intu k => .intu k
  | .any | .agg _ | .tup _ => .any
  | _ => .intu none
def pat : AV → AV
  | .agg cs => .agg (cs.map patC)
  | x => patC x
def covC : AV → AV → Bool
  | .any, _ => true
  | .intu (some k), .int k' _ => decide (k = k')
  | .intu (some k), .intu (some k') => decide (k = k')
  | .intu none, c => c.one
  | _, _ => false
def covL : List AV → List AV → Bool
  | [], [] => true
  | p :: ps, c :: cs => (match covC p c with | true => covL ps cs | false => false)
  | _, _ => false
def cov : AV → AV → Bool
  | .agg ps, .agg cs => covL ps cs
  | .agg _, _ => false
  | p, c => covC p c
def covE (pk pv : AV) : List (AV × AV) → Bool
  | [] => true
  | (k, v) :: es => (match cov pk k with | true => (match cov pv v with | true => covE pk pv es | false => false) | false => false)
theorem covC_V {p c : AV} {v : Value} (h : covC p c = true) (hv : V ρ S w c v) : V ρ S w p v := by
  unfold covC at h
  split at h
  · exact .any _
  · obtain rfl := of_decide_eq_true h
    cases hv with
    | int _ _ h1 h2 => exact .intu _ _ h1 h2
  · obtain rfl := of_decide_eq_true h
    exact hv
  · exact .cellu _ (oneCell_of_V hv h)
  · cases h
theorem covL_get : ∀ {ps cs : List AV}, covL ps cs = true → ps.length = cs.length ∧ ∀ (i : Nat) p c, ps[i]? = some p → cs[i]? = some c → covC p c = true
  | [], [], _ => ⟨rfl, fun i p c h => by simp at h⟩
  | [], _ :: _, h => by cases h
  | _ :: _, [], h => by cases h
  | p :: ps, c :: cs, h => by
    rw [covL] at h
    split at h
    · rename_i h1
      obtain ⟨h2, h3⟩ := covL_get h
      refine ⟨by simp [h2], fun i p' c' hp hc => ?_⟩
      cases i with
      | zero => simp at hp hc; subst hp; subst hc; exact h1
      | succ i => exact h3 i p' c' (by simpa using hp) (by simpa using hc)
    · cases h
theorem cov_V {p c : AV} {v : Value} (h : cov p c = true) (hv : V ρ S w c v) : V ρ S w p v := by
  unfold cov at h
  split at h
  · obtain ⟨h1, h2⟩ := covL_get h
    cases hv with
    | agg _ vs hl hv =>
      refine .agg _ vs (h1.trans hl) fun i p' v' hp hv' => ?_
      rename_i cs
      have hi : i < cs.length := by
        have := (List.getElem?_eq_some_iff.1 hp).1
        omega
      exact covC_V (h2 i p' _ hp (List.getElem?_eq_getElem hi)) (hv i _ v' (List.getElem?_eq_getElem hi) hv')
  · cases h
  · exact covC_V h hv
theorem covE_get {pk pv : AV} : ∀ {es : List (AV × AV)}, covE pk pv es = true → ∀ (i : Nat) p, es[i]? = some p → cov pk p.1 = true ∧ cov pv p.2 = true
  | [], _, i, p, h => by simp at h
  | (k, v) :: es, h, i, p, hp => by
    rw [covE] at h
    split at h
    · rename_i h1
      split at h
      · rename_i h2
        cases i with
        | zero => simp at hp; subst hp; exact ⟨h1, h2⟩
        | succ i => exact covE_get h i p (by simpa using hp)
      · cases h
    · cases h
def eqNs : List Nat → List Nat → Bool
  | [], [] => true
  | a :: l, b :: m => (match Nat.beq a b with | true => eqNs l m | false => false)
  | _, _ => false
theorem eqNs_spec : ∀ {l m : List Nat}, eqNs l m = true → l = m
  | [], [], _ => rfl
  | [], _ :: _, h => by cases h
  | _ :: _, [], h => by cases h
  | a :: l, b :: m, h => by
    rw [eqNs] at h
    split at h
    · rename_i h1
      rw [Nat.eq_of_beq_eq_true h1, eqNs_spec h]
    · cases h
def lenN : List Nat → Nat
  | [] => 0
  | _ :: l => Nat.succ (lenN l)
theorem lenN_eq : ∀ l : List Nat, lenN l = l.length
  | [] => rfl
  | _ :: l => by rw [lenN, lenN_eq l]; rfl
/-- The map's entries have this in common. -/
def commonE (es : List (AV × AV)) : Option (AV × AV) := match es with
  | [] => none
  | (k, v) :: _ => (match covE (pat k) (pat v) es with
    | true => some (pat k, pat v)
    | false => none)
theorem commonE_V {es : List (AV × AV)} {p : AV × AV} (h : commonE es = some p) : ∀ {es' : List MapEntry}, MRel ρ S w es es' → ∀ e ∈ es', V ρ S w p.1 e.key ∧ V ρ S w p.2 e.val := by
  unfold commonE at h
  split at h
  · cases h
  · split at h
    · rename_i hc
      cases h
      intro es' hm e he
      obtain ⟨i, hi⟩ := List.getElem?_of_mem he
      have hl := hm.1
      have hlt : i < _ := (List.getElem?_eq_some_iff.1 hi).1
      rw [← hl] at hlt
      obtain ⟨h1, h2⟩ := covE_get hc i _ (List.getElem?_eq_getElem hlt)
      obtain ⟨h3, h4⟩ := hm.2 i _ _ e (List.getElem?_eq_getElem hlt) hi
      exact ⟨cov_V h1 h3, cov_V h2 h4⟩
    · cases h
def nextK (id mid since k last : Nat) (es : List (AV × AV)) (bs : List Nat) (ck : Nat) (H : List Blk) (N : AV → List Blk → Prop) : Prop :=
  (bs.all (fun b => Nat.blt b since) = true ∧ Nat.ble since last = true ∧ nodupN bs = true) ∧ (match Nat.blt k (lenN bs) with
    | false => N (.tup [.bool false]) H
    | true => (match commonE es with
      | some p => N (.tup [.bool true, p.1, p.2]) (H.set id (.ext (.mitn mid since (k + 1) ck bs)))
      | none => False))
def nextN (x : AV) (H : List Blk) (N : AV → List Blk → Prop) : Prop :=
  match x with
  | .iter id => (match H[id]? with
    | some (.ext (.mit (some mid) since [] last)) => (match H[mid]? with
      | some (.map es (some (bs, ck))) => nextK id mid since 0 last es bs ck H N
      | _ => False)
    | some (.ext (.mitn mid since k last bs0)) => (match H[mid]? with
      | some (.map es (some (bs, ck))) => eqNs bs0 bs = true ∧ nextK id mid since k last es bs ck H N
      | _ => False)
    | _ => False)
  | _ => False
def nextMA (x : AV) (H : List Blk) (N : AV → List Blk → Prop) : Prop := nextM0 x H N ∨ nextN x H N
theorem count_left : ∀ {seen bs : List Nat}, seen.Nodup → bs.Nodup → (∀ x, x ∈ seen → x ∈ bs) → (bs.filter fun b => !seen.contains b).length + seen.length = bs.length
  | [], bs, _, _, _ => by simp
  | x :: s, bs, hs, hb, hsub => by
    rw [List.nodup_cons] at hs
    have ih := count_left hs.2 hb fun y hy => hsub y (List.mem_cons_of_mem _ hy)
    have hx : x ∈ bs.filter fun b => !s.contains b := by
      rw [List.mem_filter]
      exact ⟨hsub x List.mem_cons_self, by simpa using hs.1⟩
    have hn : (bs.filter fun b => !s.contains b).Nodup := hb.filter _
    have hf : (bs.filter fun b => !(x :: s).contains b) = (bs.filter fun b => !s.contains b).erase x := by
      rw [hn.erase_eq_filter, List.filter_filter]
      congr 1
      funext b
      simp only [List.contains_cons, Bool.not_or, bne]
    have hl := List.length_erase_of_mem hx
    have hpos : 0 < (bs.filter fun b => !s.contains b).length := List.length_pos_of_mem hx
    rw [hf, hl, List.length_cons]
    omega
theorem nextK_sound {H : List Blk} (hH : HRel ρ S w H) {id b bm mid since k last : Nat} {seen : List Nat} {es : List (AV × AV)} {bs : List Nat} {ck : Nat} {ty : TypeId} {N : AV → List Blk → Prop} {x0 : XB}
    (hid : H[id]? = some (.ext x0)) (hb : ρ id = some b) (hnS : ¬ S b) (ho : w.heap[b]? = some (.mapIter (some bm) since seen.toArray last)) (hbm : ρ mid = some bm) (hmid : H[mid]? = some (.map es (some (bs, ck))))
    (hk : seen.length = k) (hnd : seen.Nodup) (hsub : ∀ x, x ∈ seen → x ∈ bs) (h : nextK id mid since k last es bs ck H N) : VOk P ρ S w (Instr.next (.pointer (some ⟨b, 0, none⟩)) false ty) N := by
  have over : V ρ S w (.tup [.bool false]) (.tuple #[.bool false]) := by
    refine .tup _ _ rfl fun i c v hc hv => ?_
    match i with
    | 0 => simp at hc hv; subst hc; subst hv; exact .bool _
    | i + 1 => simp at hc
  obtain ⟨_, arr, clock, h3, h4, ⟨h5, hck⟩, h6⟩ := hH.blk mid _ hmid bm hbm
  subst hck
  obtain ⟨⟨hold, hsl, hbn⟩, h⟩ := h
  have hbn := nodupN_spec hbn
  have hmr : MRel ρ S w es arr.toList := ⟨by simpa using h4, fun i k x e hi he => h6 i k x e hi (by simpa using he)⟩
  have hfil : (leftOf arr seen.toArray).toList = arr.toList.filter fun e => !seen.contains e.born := by simp [leftOf]
  have hcnt := count_left hnd hbn hsub
  have hlen : (leftOf arr seen.toArray).toList.length = (bs.filter fun b => !seen.contains b).length := by
    rw [hfil, ← h5, List.filter_map, List.length_map]
    rfl
  have hold' : ∀ x ∈ arr.toList, x.born < since := fun x hx => by
    have := List.all_eq_true.1 hold x.born (by rw [← h5]; exact List.mem_map_of_mem hx)
    exact Nat.le_of_ble_eq_true this
  rw [lenN_eq] at h
  rcases run_next_at (P := P) w ty b bm since last seen.toArray arr ck ho h3 hold' (Nat.le_of_ble_eq_true hsl) with ⟨h0, hrun⟩ | ⟨e, he, w1, hw1, hrun⟩
  · have h0' : (leftOf arr seen.toArray).toList.length = 0 := by simpa using h0
    have : Nat.blt k bs.length = false := by
      rw [Bool.eq_false_iff]
      intro hc
      have := Nat.le_of_ble_eq_true hc
      omega
    rw [this] at h
    exact VOk.same hH hrun h over
  · have hpos : 0 < (leftOf arr seen.toArray).toList.length := List.length_pos_of_mem he
    have : Nat.blt k bs.length = true := Nat.ble_eq_true_of_le (by omega)
    rw [this] at h
    simp only at h
    split at h
    · rename_i p hp
      have hem : e ∈ arr.toList := by rw [hfil] at he; exact (List.mem_filter.1 he).1
      have hns : e.born ∉ seen := by rw [hfil] at he; simpa using (List.mem_filter.1 he).2
      obtain ⟨g1, g2⟩ := commonE_V hp hmr e hem
      have hH1 : HRel ρ S w1 H := by rcases hw1 with rfl | rfl; exact hH; exact hrel_drew hH
      have hE1 : Ext ρ S w ρ S w1 := by rcases hw1 with rfl | rfl; exact Ext.refl _ _ _; exact ext_drew _ _ _
      have ho1 : w1.heap[b]? = some (.mapIter (some bm) since seen.toArray last) := by rcases hw1 with rfl | rfl <;> exact ho
      obtain ⟨f1, f2, f3⟩ := setMap_facts w1 b _ (.mapIter (some bm) since (seen.toArray.push e.born) ck) ho1
      have hE : Ext ρ S w1 ρ S (ChangeMaps.setBlock w1 b (.mapIter (some bm) since (seen.toArray.push e.born) ck)) := ext_upd hH1 hb hnS f3 f2 (fun a' T' f' h' => by rw [ho1] at h'; cases h') rfl rfl rfl
      refine ⟨_, _, _, _, ρ, hrun, h, ?_, ?_, hE1.trans hE⟩
      · refine .tup _ _ rfl fun j c v' hc hv' => ?_
        match j with
        | 0 => simp at hc hv'; subst hc; subst hv'; exact .bool _
        | 1 => simp at hc hv'; subst hc; subst hv'; exact g1.mono (hE1.trans hE)
        | 2 => simp at hc hv'; subst hc; subst hv'; exact g2.mono (hE1.trans hE)
        | j + 3 => simp at hc
      · refine hrel_upd hH1 hid rfl hb hE f3 f2 ?_
        intro b' hb'
        rw [hb] at hb'; cases hb'
        refine ⟨hnS, _, f1, seen ++ [e.born], bm, by simp, hbm, by simp [hk], ?_, fun x hx => ?_⟩
        · rw [List.nodup_append]
          refine ⟨hnd, by simp, fun a ha c hc => ?_⟩
          simp at hc
          subst hc
          rintro rfl
          exact hns ha
        · rcases List.mem_append.1 hx with hx | hx
          · exact hsub x hx
          · simp at hx
            subst hx
            rw [← h5]; exact List.mem_map_of_mem hem
    · exact h.elim
theorem nextN_sound {H : List Blk} (hH : HRel ρ S w H) {x : AV} {v : Value} {ty : TypeId} {N : AV → List Blk → Prop} (hx : V ρ S w x v) (h : nextN x H N) :
    VOk P ρ S w (Instr.next v false ty) N := by
  unfold nextN at h
  split at h
  · rename_i id
    cases hx with
    | iter _ b hb =>
    split at h
    · rename_i mid since last hid
      obtain ⟨hnS, o, ho, mb, rfl, bm, hbm, rfl⟩ := hH.blk id _ hid b hb
      split at h
      · rename_i es bs ck hmid
        exact nextK_sound (seen := []) hH hid hb hnS ho hbm hmid rfl List.nodup_nil (fun x hx => by simp at hx) h
      · exact h.elim
    · rename_i mid since k last bs0 hid
      obtain ⟨hnS, o, ho, seen, bm, rfl, hbm, hk, hnd, hsub⟩ := hH.blk id _ hid b hb
      split at h
      · rename_i es bs ck hmid
        obtain ⟨heq, h⟩ := h
        obtain rfl := eqNs_spec heq
        exact nextK_sound hH hid hb hnS ho hbm hmid hk hnd hsub h
      · exact h.elim
    · exact h.elim
  · exact h.elim
theorem nextMA_sound {H : List Blk} (hH : HRel ρ S w H) {x : AV} {v : Value} {ty : TypeId} {N : AV → List Blk → Prop} (hx : V ρ S w x v) (h : nextMA x H N) :
    VOk P ρ S w (Instr.next v false ty) N := h.elim (nextM0_sound hH hx) (nextN_sound hH hx)
def entryN (x : AV) (H : List Blk) (N : AV → Prop) : Prop :=
  match x with
  | .iter id => (match H[id]? with
    | some (.ext (.mitn mid _ (_ + 1) last bs0)) => (match H[mid]? with
      | some (.map es (some (bs, ck))) => (Nat.beq ck last = true ∧ nodupN bs = true ∧ eqNs bs0 bs = true) ∧ (match commonE es with
        | some p => N (.tup [p.1, p.2])
        | none => False)
      | _ => False)
    | _ => False)
  | _ => False
def entryA (x : AV) (H : List Blk) (N : AV → Prop) : Prop := entryA0 x H N ∨ entryN x H N
theorem entryN_sound {H : List Blk} (hH : HRel ρ S w H) {x : AV} {v : Value} {N : AV → Prop} (hx : V ρ S w x v) (h : entryN x H N) : VSt P ρ S w (Instr.entry v) N := by
  unfold entryN at h
  split at h
  · rename_i id
    cases hx with
    | iter _ b hb =>
    split at h
    · rename_i mid since k last bs0 hid
      obtain ⟨hnS, o, ho, seen, bm, rfl, hbm, hk, hnd, hsub⟩ := hH.blk id _ hid b hb
      split at h
      · rename_i es bs ck hmid
        obtain ⟨_, arr, clock, h3, h4, ⟨h5, hck⟩, h6⟩ := hH.blk mid _ hmid bm hbm
        subst hck
        obtain ⟨⟨h7, h8, h9⟩, h⟩ := h
        obtain rfl := Nat.eq_of_beq_eq_true h7
        obtain rfl := eqNs_spec h9
        split at h
        · rename_i p hp
          have hmr : MRel ρ S w es arr.toList := ⟨by simpa using h4, fun i k x e hi he => h6 i k x e hi (by simpa using he)⟩
          have hne : seen ≠ [] := by rintro rfl; simp at hk
          have hin : seen.getLast hne ∈ bs0 := hsub _ (List.getLast_mem hne)
          rw [← h5, List.mem_map] at hin
          obtain ⟨e, he, hborn⟩ := hin
          obtain ⟨g1, g2⟩ := commonE_V hp hmr e he
          have hseen : seen.toArray = seen.dropLast.toArray.push e.born := by
            rw [← Array.toList_inj, Array.toList_push]
            simp only [List.toList_toArray]
            rw [hborn, List.dropLast_concat_getLast]
          rw [hseen] at ho
          refine VSt.same hH (run_entry_at w b bm since _ arr ck e ho h3 he (by rw [h5]; exact nodupN_spec h8)) h ?_
          refine .tup _ _ rfl fun j c v' hc hv' => ?_
          match j with
          | 0 => simp at hc hv'; subst hc; subst hv'; exact g1
          | 1 => simp at hc hv'; subst hc; subst hv'; exact g2
          | j + 2 => simp at hc
        · exact h.elim
      · exact h.elim
    · exact h.elim
  · exact h.elim
theorem entryA_sound {H : List Blk} (hH : HRel ρ S w H) {x : AV} {v : Value} {N : AV → Prop} (hx : V ρ S w x v) (h : entryA x H N) : VSt P ρ S w (Instr.entry v) N := h.elim (entryA0_sound hH hx) (entryN_sound hH hx)
/-! ### Entries struck out; how many there are -/
def eraseAt {α : Type} : List α → Nat → List α
  | [], _ => []
  | _ :: xs, 0 => xs
  | x :: xs, n + 1 => x :: eraseAt xs n
theorem eraseAt_eq {α : Type} : ∀ (l : List α) (n : Nat), eraseAt l n = l.eraseIdx n
  | [], _ => rfl
  | _ :: _, 0 => rfl
  | x :: xs, n + 1 => by rw [eraseAt, eraseAt_eq xs n]; rfl
def deleteA (TY : TypeId → Option TI) (t : TypeId) (x key : AV) (H : List Blk) (N : AV → List Blk → Prop) : Prop :=
  match TY t, x with
  | some i, .map id => match i.kind with
    | .map kt _ => match TY kt with
      | some ki => if keyOk TY ki.kind key = true then (match H[id]? with
        | some (.map es bk) => findE TY kt ki.kind key es 0 fun r => match r with
          | some (j, _) => N (.tup []) (H.set id (.map (eraseAt es j) (match bk with | none => none | some (bs, ck) => some (eraseAt bs j, ck))))
          | none => N (.tup []) H
        | _ => False) else False
      | none => False
    | _ => False
  | _, _ => False
theorem deleteA_sound (hTY : TyOk P TY) {H : List Blk} (hH : HRel ρ S w H) {t kt' ty : TypeId} {x key : AV} {v u : Value} {N : AV → List Blk → Prop} (hx : V ρ S w x v) (hk : V ρ S w key u) (h : deleteA TY t x key H N) :
    VOk P ρ S w (Builtin.delete_ #[t, kt'] ty #[v, u]) N := by
  have unit : V ρ S w (.tup []) (.tuple #[]) := .tup _ _ rfl fun i c v hc => by simp at hc
  unfold deleteA at h
  split at h
  · rename_i i id hi
    obtain ⟨_, d, _, h2, _, _, _, h6, _, _⟩ := hTY.get hi
    cases hx with
    | map _ b hb =>
    split at h
    · rename_i kt et hkm
      obtain rfl := (kind_desc h6).2.2.2.2.2.2.1 _ _ hkm
      split at h
      · rename_i ki hki
        obtain ⟨_, dk, _, g2, _, _, _, g6, _, _⟩ := hTY.get hki
        split at h
        · rename_i hp
          split at h
          · rename_i es bk hid
            obtain ⟨hnS, arr, clock, h1, hl, hbk, hall⟩ := hH.blk id _ hid b hb
            have hm : MRel ρ S w es arr.toList := ⟨by simpa using hl, fun i k x e hi he => hall i k x e hi (by simpa using he)⟩
            obtain ⟨r, r', hK, hf1, hf2, hrr⟩ := findE_real hTY hki g2 hk es arr.toList 0 _ hm h
            have hfk : (Instr.findKey kt u arr.toList).run P w = .ok r' w := findKey_of g2 hf1 (hf2.imp (fun h => h) And.right)
            have hck := fun b => run_checkKeyOk hTY hki hk hp b
            have hget : (getObj b).run P w = .ok (.map arr clock) w := by simp [getObj, Sem.run, h1]
            have hset : ∀ o, (setObj b o).run P w = .ok () { w with heap := w.heap.setIfInBounds b o } := fun o => by simp [setObj, Sem.run, h1]
            have fin : ∀ (arr' : Array MapEntry) (H' : List Blk) (blk : Blk), (∃ old, H[id]? = some old ∧ old.live = true) → H' = H.set id blk → (Builtin.delete_ #[t, kt'] ty #[.map (some b), u]).run P w = .ok (.tuple #[]) { w with heap := w.heap.setIfInBounds b (.map arr' clock) } → N (.tup []) H' →
                (∀ w', w'.heap[b]? = some (.map arr' clock) → Ext ρ S w ρ S w' → BRel ρ S w' id blk) → VOk P ρ S w (Builtin.delete_ #[t, kt'] ty #[.map (some b), u]) N := by
              rintro arr' H' blk ⟨old, hold, hlive⟩ rfl hrun hN hB
              obtain ⟨f1, f2, f3⟩ := setMap_facts w b _ (.map arr' clock) h1
              have hE : Ext ρ S w ρ S { w with heap := w.heap.setIfInBounds b (.map arr' clock) } := ext_upd hH hb hnS f3 f2 (fun a' T' f' h' => by rw [h1] at h'; cases h') rfl rfl rfl
              exact ⟨_, _, _, _, ρ, hrun, hN, unit.mono hE, hrel_upd hH hold hlive hb hE f3 f2 (hB _ f1 hE), hE⟩
            cases r with
            | none => cases r' with
              | some _ => exact hrr.elim
              | none =>
                refine fin arr H (.map es bk) ⟨_, hid, rfl⟩ ?_ ?_ hK ?_
                · apply List.ext_getElem?
                  intro i
                  rw [List.getElem?_set]
                  split
                  · rename_i hi; subst hi; rw [hid, if_pos (List.getElem?_eq_some_iff.1 hid).1]
                  · rfl
                · unfold Builtin.delete_
                  simp only [List.getElem?_toArray, List.getElem?_cons_zero, List.getElem?_cons_succ, Sem.run_bind, run_underlying' h2, Result.andThen_ok, hget, hck, hfk, hset, Sem.run_pure]
                · intro w' hw' hE b' hb'
                  rw [hb] at hb'; cases hb'
                  exact ⟨hnS, arr, clock, hw', hl, hbk, fun i k x e hi he => ⟨(hall i k x e hi he).1.mono hE, (hall i k x e hi he).2.mono hE⟩⟩
            | some p => cases r' with
              | none => exact hrr.elim
              | some q =>
                obtain ⟨j, pv⟩ := p
                obtain ⟨j', qv⟩ := q
                obtain ⟨hjj, _⟩ := hrr
                dsimp only at hjj hK
                subst hjj
                refine fin (arr.eraseIdxIfInBounds j) _ _ ⟨_, hid, rfl⟩ rfl ?_ hK ?_
                · unfold Builtin.delete_
                  simp only [List.getElem?_toArray, List.getElem?_cons_zero, List.getElem?_cons_succ, Sem.run_bind, run_underlying' h2, Result.andThen_ok, hget, hck, hfk, hset, Sem.run_pure]
                · intro w' hw' hE b' hb'
                  rw [hb] at hb'; cases hb'
                  have htl : (arr.eraseIdxIfInBounds j).toList = arr.toList.eraseIdx j := by simp
                  refine ⟨hnS, _, clock, hw', ?_, ?_, fun i k x e hi he => ?_⟩
                  · rw [eraseAt_eq, ← Array.length_toList, htl, List.length_eraseIdx, List.length_eraseIdx]
                    simp [hl]
                  · cases bk with
                    | none => trivial
                    | some p =>
                      obtain ⟨bs, ck⟩ := p
                      obtain ⟨e1, e2⟩ := hbk
                      refine ⟨?_, e2⟩
                      rw [htl, eraseAt_eq, ← e1, ChangeMaps.map_eraseIdx]
                  · rw [eraseAt_eq, List.getElem?_eraseIdx] at hi
                    rw [← Array.getElem?_toList, htl, List.getElem?_eraseIdx] at he
                    split at hi
                    · rename_i hlt
                      rw [if_pos hlt] at he
                      have := hall i k x e hi (by simpa using he)
                      exact ⟨this.1.mono hE, this.2.mono hE⟩
                    · rename_i hlt
                      rw [if_neg hlt] at he
                      have := hall (i + 1) k x e hi (by simpa using he)
                      exact ⟨this.1.mono hE, this.2.mono hE⟩
          · exact h.elim
        · exact h.elim
      · exact h.elim
    · exact h.elim
  · exact h.elim
/-- How many entries a map has. -/
def lenMA (TY : TypeId → Option TI) (t : TypeId) (x : AV) (H : List Blk) (N : AV → Prop) : Prop :=
  match TY t with
  | some i => (match i.kind with
    | .map _ _ => (match mapOf H x with
      | some es => es.length ≤ 9223372036854775807 ∧ N (.int .i64 es.length)
      | none => False)
    | _ => False)
  | none => False
theorem lenMA_sound (hTY : TyOk P TY) {H : List Blk} (hH : HRel ρ S w H) {t ty : TypeId} {x : AV} {v : Value} {N : AV → Prop} (hx : V ρ S w x v) (h : lenMA TY t x H N) : VSt P ρ S w (Builtin.len_ #[t] ty #[v]) N := by
  unfold lenMA at h
  split at h
  · rename_i i hi
    obtain ⟨_, d, _, h2, _, _, _, h6, _, _⟩ := hTY.get hi
    split at h
    · rename_i kt et hk
      obtain rfl := (kind_desc h6).2.2.2.2.2.2.1 _ _ hk
      split at h
      · rename_i es hes
        obtain ⟨hle, hN⟩ := h
        obtain ⟨es', hm, hcase⟩ := mapOf_real hH hx hes
        have hv : V ρ S w (.int .i64 es.length) (goInt es.length) := V.int' (by simp only [inK, Go.Vc.lo, Go.Vc.hi]; omega)
        rcases hcase with ⟨rfl, rfl⟩ | ⟨b, arr, clock, rfl, hb, rfl⟩
        · have h0 : es.length = 0 := hm.1
          rw [h0] at hN hv
          exact VSt.same hH (v := goInt 0) (by simp [Builtin.len_, run_underlying' h2]) hN hv
        · have hget : (getObj b).run P w = .ok (.map arr clock) w := by simp [getObj, Sem.run, hb]
          have h0 : es.length = arr.size := by simpa using hm.1
          rw [h0] at hN hv
          exact VSt.same hH (v := goInt arr.size) (by simp [Builtin.len_, run_underlying' h2, hget]) hN hv
      · exact h.elim
    · exact h.elim
  · exact h.elim
/-- The length of anything. -/
def lenB (TY : TypeId → Option TI) (t : TypeId) (x : AV) (H : List Blk) (N : AV → Prop) : Prop := match x with
  | .map id => lenMA TY t (.map id) H N
  | .nilmap => lenMA TY t .nilmap H N
  | x => lenA TY t x N
theorem lenB_sound (hTY : TyOk P TY) {H : List Blk} (hH : HRel ρ S w H) {t ty : TypeId} {x : AV} {v : Value} {N : AV → Prop} (hx : V ρ S w x v) (h : lenB TY t x H N) : VSt P ρ S w (Builtin.len_ #[t] ty #[v]) N := by
  unfold lenB at h
  split at h
  · exact lenMA_sound hTY hH hx h
  · exact lenMA_sound hTY hH hx h
  · exact lenA_sound hTY hH hx h
end
end
end Go.Vc

/- All operations but calls of Go functions. -/
namespace Go.Vc
open Go
noncomputable section
section
variable {P : Program} {TY : TypeId → Option TI} {ρ : Nat → Option Nat} {S : Nat → Prop} {w : World}
def pickA (c a b : AV) (N : AV → Prop) : Prop :=
  match c, a, b with
  | .bool t, .bool x, .bool y => N (.bool (cond t x y))
  | .bool t, a, b => (match t with | true => N a | false => N b)
  | _, _, _ => False
def arrIndexA (TY : TypeId → Option TI) (t : TypeId) (x ix : AV) (N : AV → Prop) : Prop :=
  match TY t, ix, x with
  | some i, .int _ n, .agg cs => match i.kind with
    | .arr len e => match TY e with
      | some ei => (0 ≤ n ∧ n < len) ∧ optP (loadA ei cs (n.toNat * ei.size)) N
      | none => False
    | _ => False
  | _, _, _ => False
theorem arrIndexA_sound (hTY : TyOk P TY) {H : List Blk} (hH : HRel ρ S w H) {t : TypeId} {x ix : AV} {v u : Value} {N : AV → Prop} (hx : V ρ S w x v) (hix : V ρ S w ix u) (h : arrIndexA TY t x ix N) :
    VSt P ρ S w (Instr.index t v u) N := by
  unfold arrIndexA at h
  split at h
  · rename_i i k n cs hi
    obtain ⟨rfl, _⟩ := hix.intR
    obtain ⟨vs, rfl, hl, hv⟩ := hx.aggR
    obtain ⟨_, d, _, h2, _, _, _, h6, _, _⟩ := hTY.get hi
    split at h
    · rename_i len e hk
      obtain rfl := (kind_desc h6).2.2.2.2.2.1 _ _ hk
      split at h
      · rename_i ei hei
        obtain ⟨hn, h⟩ := h
        obtain ⟨c, hc, hN⟩ := optP_some h
        obtain ⟨y, hy, hvy⟩ := run_part hTY hei hl hv hc
        refine VSt.same hH (v := y) ?_ hN hvy
        unfold Instr.index
        simp [asIntOf, run_underlying' h2, hn, hTY.size hei, hy]
      · exact h.elim
    · exact h.elim
  · exact h.elim
/-- An array variable becomes a row. -/
def arrSliceA (TY : TypeId → Option TI) (t : TypeId) (x : AV) (lo hi : Option AV) (H : List Blk) (N : AV → List Blk → Prop) : Prop :=
  match TY t, x with
  | some i, .ptr id j => match i.kind with
    | .arr n e => match TY e with
      | some ei => match H[id]? with
        | some (.var cs T) => if j = 0 ∧ cs.length = n * ei.size ∧ n ≤ 16777216 then
            bndE lo 0 fun a => bndE hi n fun b => (a ≤ b ∧ b ≤ n) ∧ N (.osl id ei.size a (b - a) (some (n - a))) (H.set id (.row ei.size n (fun e => (cs.drop (e * ei.size)).take ei.size) T)) else False
        | some (.row sz' L _ _) => if j = 0 ∧ sz' = ei.size ∧ n ≤ L ∧ n ≤ 16777216 then
            bndE lo 0 fun a => bndE hi n fun b => (a ≤ b ∧ b ≤ n) ∧ N (.osl id ei.size a (b - a) (some (n - a))) H else False
        | _ => False
      | none => False
    | _ => False
  | _, _ => False
theorem arrSliceA_sound (hTY : TyOk P TY) {H : List Blk} (hH : HRel ρ S w H) {t : TypeId} {x : AV} {lo hi : Option AV} {v : Value} {lov hiv : Option Value} {N : AV → List Blk → Prop} (hx : V ρ S w x v) (hlo : optV ρ S w lo lov) (hhi : optV ρ S w hi hiv)
    (h : arrSliceA TY t x lo hi H N) : VOk P ρ S w (Instr.sliceAt t v lov hiv none) N := by
  unfold arrSliceA at h
  split at h
  · rename_i i id j hi'
    obtain ⟨b, rfl, hb⟩ := hx.ptrR
    obtain ⟨_, d, _, h2, _, _, _, h6, _, _⟩ := hTY.get hi'
    split at h
    · rename_i n e hk
      obtain rfl := (kind_desc h6).2.2.2.2.2.1 _ _ hk
      split at h
      · rename_i ei hei
        split at h
        · rename_i cs T0 hid
          split at h
          · rename_i hcond
            obtain ⟨rfl, hlen, hn16⟩ := hcond
            obtain ⟨x1, h, ha⟩ := bndE_real h lov hlo
            obtain ⟨x2, ⟨⟨hab, hbn⟩, hN⟩, hb'⟩ := bndE_real h hiv hhi
            obtain ⟨hnS, arr, T, fr, g1, g2, g3, g4⟩ := hH.blk id _ hid b hb
            have hr := run_sliceBounds (P := P) (w := w) (isS := false) (len := n) (cap := n) (a := x1) (b := x2) (lo := lov) (hi := hiv) (ha.imp (fun h => ⟨h.2.1, h.2.2⟩) (fun h => h)) (hb'.imp (fun h => ⟨h.2.1, h.2.2⟩) (fun h => h)) hab hbn
            refine ⟨.slice (some ⟨b, if n = x1 then 0 else 0 + x1 * ei.size, none⟩) (x2 - x1) (n - x1), w, _, _, ρ, ?_, hN, ?_, ?_, Ext.refl _ _ _⟩
            · unfold Instr.sliceAt
              simp [run_underlying' h2, Instr.sureAddr, hr, hTY.size hei, addr_add]
              split <;> simp
            · refine .osl _ _ _ _ _ b _ _ hb (by omega) (by rw [maxLen_eq]; omega) (fun h0 => ?_) ⟨arr, _, fr, g1, ?_⟩ (fun c hc => by cases hc; rfl)
              · rw [if_neg (by omega)]; omega
              · rw [show x1 + (n - x1) = n by omega, g2, hlen]; exact Nat.le_refl _
            · refine hrel_upd hH hid rfl hb (Ext.refl _ _ _) rfl (fun _ _ => rfl) ?_
              intro b' hb'
              rw [hb] at hb'; cases hb'
              refine ⟨hnS, arr, T, fr, g1, by omega, g3, fun e he => ?_, fun e j c v he hc hv => ?_⟩
              · simp only [List.length_take, List.length_drop, hlen]
                have : (e + 1) * ei.size ≤ n * ei.size := Nat.mul_le_mul_right _ he
                rw [Nat.add_mul] at this; omega
              · have hc' : ((cs.drop (e * ei.size)).take ei.size)[j]? = some c := hc
                rw [List.getElem?_take] at hc'
                split at hc'
                · rw [List.getElem?_drop] at hc'
                  exact g4 _ c v hc' hv
                · cases hc'
          · exact h.elim
        · rename_i sz' L get T0 hid
          split at h
          · rename_i hcond
            obtain ⟨rfl, rfl, hnL, hn16⟩ := hcond
            obtain ⟨x1, h, ha⟩ := bndE_real h lov hlo
            obtain ⟨x2, ⟨⟨hab, hbn⟩, hN⟩, hb'⟩ := bndE_real h hiv hhi
            obtain ⟨hnS, arr, T, fr, g1, g2, g3, g4⟩ := hH.blk id _ hid b hb
            have hr := run_sliceBounds (P := P) (w := w) (isS := false) (len := n) (cap := n) (a := x1) (b := x2) (lo := lov) (hi := hiv) (ha.imp (fun h => ⟨h.2.1, h.2.2⟩) (fun h => h)) (hb'.imp (fun h => ⟨h.2.1, h.2.2⟩) (fun h => h)) hab hbn
            refine ⟨.slice (some ⟨b, if n = x1 then 0 else 0 + x1 * ei.size, none⟩) (x2 - x1) (n - x1), w, _, _, ρ, ?_, hN, ?_, hH, Ext.refl _ _ _⟩
            · unfold Instr.sliceAt
              simp [run_underlying' h2, Instr.sureAddr, hr, hTY.size hei, addr_add]
              split <;> simp
            · refine .osl _ _ _ _ _ b _ _ hb (by omega) (by rw [maxLen_eq]; omega) (fun h0 => ?_) ⟨arr, _, fr, g1, ?_⟩ (fun c hc => by cases hc; rfl)
              · rw [if_neg (by omega)]; omega
              · rw [show x1 + (n - x1) = n by omega]; exact Nat.le_trans (Nat.mul_le_mul_right _ hnL) g2
          · exact h.elim
        · exact h.elim
      · exact h.elim
    · exact h.elim
  · exact h.elim
def minmaxA (mx : Bool) (x y : AV) (N : AV → Prop) : Prop :=
  match x, y with
  | .int k a, .int k' b => if k = k' then N (.int k (match mx with | true => (if b > a then b else a) | false => (if b < a then b else a))) else False
  | _, _ => False
def capA (TY : TypeId → Option TI) (t : TypeId) (x : AV) (N : AV → Prop) : Prop :=
  match TY t with
  | none => False
  | some i => match i.kind, x with
    | .slice _, .osl _ _ _ _ (some c) => N (.int .i64 c)
    | .slice _, .sl true _ len _ => N (.int .i64 len)
    | .slice _, .nilsl => N (.int .i64 0)
    | _, _ => False
/-- Built-in functions. -/
def builtinA (TY : TypeId → Option TI) (b : Builtin) (ts : List TypeId) (xs : List AV) (H : List Blk) (N : AV → List Blk → Prop) : Prop :=
  match b, ts, xs with
  | .len, [t], [x] => lenB TY t x H fun c => N c H
  | .cap, [t], [x] => capA TY t x fun c => N c H
  | .append, [t, t'], [s, x] => if t = t' then appendA TY t s x H N else appendS TY t t' s x H N
  | .min, _, [x, y] => minmaxA false x y fun c => N c H
  | .max, _, [x, y] => minmaxA true x y fun c => N c H
  | .delete, [t, _], [x, k] => deleteA TY t x k H N
  | _, _, _ => False
/-- Is a slice that came in nil? Where it has elements it is not. -/
def nilA (TY : TypeId → Option TI) (t : TypeId) (l : Nat) (N : Bool → Prop) : Prop :=
  match TY t with
  | some i => (match i.kind with
    | .slice _ => (match Nat.beq l 0 with | true => N true ∧ N false | false => N false)
    | _ => False)
  | none => False
/-- An operation. 'wr': a sum that does not fit is wrapped. -/
def opA (TY : TypeId → Option TI) (wr : Bool) (op : Op) (ts : List AV) (H : List Blk) (N : AV → List Blk → Prop) : Prop :=
  match op with
  | .move x => N (evO ts x) H
  | .assign x => N (evO ts x) H
  | .pick c a b => pickA (evO ts c) (evO ts a) (evO ts b) fun r => N r H
  | .alloc e => allocA TY e H N
  | .box _ x => boxA (evO ts x) H N
  | .build t ps => buildF TY t (partsE ts ps) fun r => N r H
  | .buildSlice t n ps => buildSliceA TY t n (partsE ts ps) H N
  | .insert t m k x => mapSetA TY t (evO ts m) (evO ts k) (evO ts x) H fun H' => N .any H'
  | .mapUpdate t m k x => mapSetA TY t (evO ts m) (evO ts k) (evO ts x) H fun H' => N .any H'
  | .load t a => loadPA TY t (evO ts a) H fun r => N r H
  | .store t a x => storePA TY t (evO ts a) (evO ts x) H fun H' => N .any H'
  | .nilCheck x => nilCheckA (evO ts x) fun r => N r H
  | .binOp op t x y _ => (match op, evO ts x, evO ts y with
    | .eql, .sl _ _ l _, .nilsl => nilA TY t l fun b => N (.bool b) H
    | op, a, b => binA TY wr op t a b fun r => N r H)
  | .unOp op _ x => unA wr op (evO ts x) fun r => N r H
  | .convert s d x => convA TY wr s d (evO ts x) H fun r => N r H
  | .makeInterface t x => (match TY t with | some i => (match i.kind with | .iface => False | _ => N (.iface t (evO ts x)) H) | none => False)
  | .makeFunc fn first caps => (match fn, first.toList with | .func f, [] => N (.fn f (caps.toList.map (evO ts))) H | _, _ => False)
  | .makeMap _ none => N (.map H.length) (H ++ [.map [] (some ([], 0))])
  | .makeSlice t l c => makeSliceA TY t (evO ts l) (evO ts c) H N
  | .slice t x l h m => (match TY t with
    | some i => (match i.kind, m with
      | .arr _ _, none => arrSliceA TY t (evO ts x) (l.map (evO ts)) (h.map (evO ts)) H N
      | .arr _ _, some _ => False
      | _, _ => sliceA TY t (evO ts x) (l.map (evO ts)) (h.map (evO ts)) (m.map (evO ts)) fun r => N r H)
    | none => False)
  | .fieldAddr t x f => fieldAddrA TY t (evO ts x) f fun r => N r H
  | .field t x f => fieldA TY t (evO ts x) f fun r => N r H
  | .indexAddr t x i => indexAddrA TY t (evO ts x) (evO ts i) fun r => N r H
  | .index t x i => (match evO ts x with
    | .agg cs => arrIndexA TY t (.agg cs) (evO ts i) fun r => N r H
    | x => indexA TY t x (evO ts i) fun r => N r H)
  | .lookup t x i ok => lookupA TY t (evO ts x) (evO ts i) ok H fun r => N r H
  | .range t x => (match evO ts x with
    | .str l => rangeA TY t (.str l) H N
    | x => rangeMA TY t x H N)
  | .next it isS => (match isS with
    | true => nextA (evO ts it) true H N
    | false => nextMA (evO ts it) H N)
  | .entry it => entryA (evO ts it) H fun r => N r H
  | .typeAssert x _ t ok => assertA TY (evO ts x) t ok fun r => N r H
  | .extract t i => extractA (evO ts t) i fun r => N r H
  | .call c => (match c.callee with
    | .builtin b => builtinA TY b c.argTypes.toList (c.args.toList.map (evO ts)) H N
    | _ => False)
  | _ => False
theorem pickA_sound {c a b : AV} {cv av bv : Value} {N : AV → Prop} (hc : V ρ S w c cv) (ha : V ρ S w a av) (hb : V ρ S w b bv) (h : pickA c a b N) :
    OpSt P ρ S w (do pure (.value (if ← asBool cv then av else bv))) N := by
  have fin : ∀ (t : Bool) (r : AV), cv = .bool t → N r → V ρ S w r (if t then av else bv) → OpSt P ρ S w (do pure (.value (if ← asBool cv then av else bv))) N := by
    rintro t r rfl hN hr
    exact ⟨_, r, by simp [asBool], hN, hr⟩
  unfold pickA at h
  split at h
  · rename_i t x y
    obtain rfl := hc.boolR
    refine fin t _ rfl h ?_
    cases t
    · exact hb
    · exact ha
  · rename_i t _ _ _
    obtain rfl := hc.boolR
    split at h
    · exact fin true _ rfl h ha
    · exact fin false _ rfl h hb
  · exact h.elim
theorem optV_map {ts : List AV} {a : Act} (hT : TRel ρ S w ts a.tmps) (x : Option Operand) : optV ρ S w (x.map (evO ts)) (x.map a.eval) := by
  cases x with
  | none => exact trivial
  | some x => exact hT.eval x
theorem run_sliceAt_eq {t : TypeId} {d : TypeDesc} (h : P.underlying t = some d) (hna : ∀ n e, d ≠ .array n e) (x : Value) (l hh m : Option Value) : (Instr.sliceAt t x l hh m).run P w = (Instr.slice t x l hh m).run P w := by
  unfold Instr.sliceAt
  simp only [Sem.run_bind, run_underlying' h, Result.andThen_ok]
theorem V.sl_clip {sz len : Nat} {get : Nat → List AV} {v : Value} (h : V ρ S w (.sl true sz len get) v) : ∃ a, v = .slice a len len ∧ len ≤ maxLen := by
  cases h with
  | sln _ _ _ ao => exact ⟨ao, rfl, Nat.zero_le _⟩
  | sl _ _ _ _ b o cap f hs hl hm hcl =>
    obtain rfl := hcl rfl
    exact ⟨_, rfl, hm⟩
def valueB : Builtin → Bool
  | .append => false
  | .delete => false
  | _ => true
theorem builtinV_sound (hTY : TyOk P TY) {H : List Blk} (hH : HRel ρ S w H) {ts : List AV} {a : Act} (hT : TRel ρ S w ts a.tmps) {b : Builtin} {args : Array Operand} {argTypes : Array TypeId} {ty : TypeId} {cs : Array Bool}
    (hb : valueB b = true) {N : AV → List Blk → Prop} (h : builtinA TY b argTypes.toList (args.toList.map (evO ts)) H N) :
    OpSt P ρ S w (builtin b argTypes ty cs (args.map a.eval)) (fun c => N c H) := by
  obtain ⟨argTypes⟩ := argTypes
  obtain ⟨args⟩ := args
  simp only at h
  have e1 : (List.toArray args).map a.eval = (args.map a.eval).toArray := by simp
  rw [e1]
  unfold builtinA at h
  split at h
  · rename_i t x heq
    match args, heq with
    | [o], heq =>
      simp only [List.map_cons, List.map_nil, List.cons.injEq, and_true] at heq
      subst heq
      exact (lenB_sound hTY hH (hT.eval o) h).op
  · rename_i t x heq
    match args, heq with
    | [o], heq =>
      simp only [List.map_cons, List.map_nil, List.cons.injEq, and_true] at heq
      subst heq
      unfold capA at h
      split at h
      · exact h.elim
      · rename_i i hi
        obtain ⟨_, d, _, h2, _, _, _, h6, _, _⟩ := hTY.get hi
        have hv := hT.eval o
        split at h
        · rename_i e id sz off len c hk heq
          rw [heq] at hv
          obtain rfl := (kind_desc h6).2.2.2.1 _ hk
          obtain ⟨b, o', cp, he, _, _, hm, _, _, hcap⟩ := hv.oslR
          obtain rfl := hcap c rfl
          refine (VSt.same hH (v := goInt cp) ?_ h (V.int' (by simp only [inK, Go.Vc.lo, Go.Vc.hi]; rw [maxLen_eq] at hm; omega))).op
          simp [Builtin.cap_, run_underlying' h2, he]
        · rename_i e sz len get hk heq
          rw [heq] at hv
          obtain rfl := (kind_desc h6).2.2.2.1 _ hk
          obtain ⟨a0, he, hm⟩ := hv.sl_clip
          refine (VSt.same hH (v := goInt len) ?_ h (V.int' (by simp only [inK, Go.Vc.lo, Go.Vc.hi]; rw [maxLen_eq] at hm; omega))).op
          simp [Builtin.cap_, run_underlying' h2, he]
        · rename_i e hk heq
          rw [heq] at hv
          obtain rfl := (kind_desc h6).2.2.2.1 _ hk
          cases hev : a.eval o <;> rw [hev] at hv <;> cases hv
          refine (VSt.same hH (v := goInt 0) ?_ h (V.int' (by simp only [inK, Go.Vc.lo, Go.Vc.hi]; omega))).op
          simp [Builtin.cap_, run_underlying' h2, hev]
        · exact h.elim
  · cases hb
  · rename_i x y heq
    match args, heq with
    | [o1, o2], heq =>
      simp only [List.map_cons, List.map_nil, List.cons.injEq, and_true] at heq
      obtain ⟨h1, h2⟩ := heq
      have v1 := hT.eval o1
      have v2 := hT.eval o2
      unfold minmaxA at h
      split at h
      · rw [h1] at v1
        rw [h2] at v2
        obtain ⟨e1, k1⟩ := v1.intR
        obtain ⟨e2, k2⟩ := v2.intR
        split at h
        · rename_i hk
          subst hk
          refine (VSt.same hH (v := .int _ _) ?_ h (V.int' (by dsimp only; split <;> assumption))).op
          simp only [List.map_cons, List.map_nil, e1, e2]
          exact run_min_int2 w _ _ _ _ _ _
        · exact h.elim
      · exact h.elim
  · rename_i x y heq
    match args, heq with
    | [o1, o2], heq =>
      simp only [List.map_cons, List.map_nil, List.cons.injEq, and_true] at heq
      obtain ⟨h1, h2⟩ := heq
      have v1 := hT.eval o1
      have v2 := hT.eval o2
      unfold minmaxA at h
      split at h
      · rw [h1] at v1
        rw [h2] at v2
        obtain ⟨e1, k1⟩ := v1.intR
        obtain ⟨e2, k2⟩ := v2.intR
        split at h
        · rename_i hk
          subst hk
          refine (VSt.same hH (v := .int _ _) ?_ h (V.int' (by dsimp only; split <;> assumption))).op
          simp only [List.map_cons, List.map_nil, e1, e2]
          exact run_max_int2 w _ _ _ _ _ _
        · exact h.elim
      · exact h.elim
  · cases hb
  · exact h.elim
theorem builtinA_sound (hTY : TyOk P TY) (hns : ∀ b, S b → b < w.heap.size) {H : List Blk} (hH : HRel ρ S w H) {ts : List AV} {a : Act} (hT : TRel ρ S w ts a.tmps) {b : Builtin} {args : Array Operand} {argTypes : Array TypeId} {ty : TypeId} {cs : Array Bool}
    {N : AV → List Blk → Prop} (h : builtinA TY b argTypes.toList (args.toList.map (evO ts)) H N) :
    OpOk P ρ S w (builtin b argTypes ty cs (args.map a.eval)) N := by
  by_cases hb : valueB b = true
  · exact (builtinV_sound hTY hH hT hb h).ok hH
  · have : b = .append ∨ b = .delete := by cases b <;> first | exact .inl rfl | exact .inr rfl | exact absurd rfl hb
    rcases this with rfl | rfl
    case inr =>
      obtain ⟨argTypes⟩ := argTypes
      obtain ⟨args⟩ := args
      simp only at h
      have e1 : (List.toArray args).map a.eval = (args.map a.eval).toArray := by simp
      rw [e1]
      unfold builtinA at h
      split at h <;> first | contradiction | skip
      · rename_i t t' x k _ heq
        match args, heq with
        | [o1, o2], heq =>
          simp only [List.map_cons, List.map_nil, List.cons.injEq, and_true] at heq
          obtain ⟨rfl, rfl⟩ := heq
          exact (deleteA_sound hTY hH (hT.eval o1) (hT.eval o2) h).op
    obtain ⟨argTypes⟩ := argTypes
    obtain ⟨args⟩ := args
    simp only at h
    have e1 : (List.toArray args).map a.eval = (args.map a.eval).toArray := by simp
    rw [e1]
    unfold builtinA at h
    split at h
    · contradiction
    · contradiction
    · rename_i t t' s x hx heq
      match args, heq with
      | [o1, o2], heq =>
        simp only [List.map_cons, List.map_nil, List.cons.injEq, and_true] at heq
        obtain ⟨rfl, rfl⟩ := heq
        split at h
        · rename_i htt
          subst htt
          exact (appendA_sound hTY hns hH (hT.eval o1) (hT.eval o2) h).op
        · exact (appendS_sound hTY hns hH (hT.eval o1) (hT.eval o2) h).op
    · contradiction
    · contradiction
    · contradiction
    · exact h.elim
end
end
end Go.Vc
