/- Contracts said by a function of what is handed over. -/
import Derived.Test.YtpmpclbdnakniaaGreatDoorV4
import Derived.ChangeArms
import Derived.ChangeStays
import Derived.ChangeSame
import Derived.ChangeAgain
import Derived.RowKit3
import Derived.Lib.LaidTab
import Derived.Lib.ItoaNum
import GoSem.Core.Utf8
set_option linter.all false
set_option linter.unusedVariables false
set_option linter.unusedSimpArgs false
namespace Go.Vc
open Go
theorem ble_false {a b : Nat} : Nat.ble a b = false ↔ b < a := by
  rw [← Bool.not_eq_true, Nat.ble_eq]; omega
theorem ble_true {a b : Nat} : Nat.ble a b = true ↔ a ≤ b := by rw [Nat.ble_eq]
theorem beq_true {a b : Nat} : Nat.beq a b = true ↔ a = b := by rw [Nat.beq_eq]
theorem beq_false {a b : Nat} : Nat.beq a b = false ↔ ¬ a = b := by rw [← Bool.not_eq_true, Nat.beq_eq]
theorem bytesOf_length (n : Nat) (g : Nat → List AV) : (bytesOf n g).length = n := by simp [bytesOf]
/-- Sealed: nothing looks into what is said of a result. -/
noncomputable def sI : Int → Int := Classical.choose (⟨id, rfl⟩ : ∃ f : Int → Int, f = id)
theorem sI_eq (n : Int) : sI n = n := congrFun (Classical.choose_spec (⟨id, rfl⟩ : ∃ f : Int → Int, f = id)) n
noncomputable def sB : Bool → Bool := Classical.choose (⟨id, rfl⟩ : ∃ f : Bool → Bool, f = id)
theorem sB_eq (n : Bool) : sB n = n := congrFun (Classical.choose_spec (⟨id, rfl⟩ : ∃ f : Bool → Bool, f = id)) n
noncomputable def sS : List UInt8 → List UInt8 := Classical.choose (⟨id, rfl⟩ : ∃ f : List UInt8 → List UInt8, f = id)
theorem sS_eq (n : List UInt8) : sS n = n := congrFun (Classical.choose_spec (⟨id, rfl⟩ : ∃ f : List UInt8 → List UInt8, f = id)) n
noncomputable def sN : Nat → Nat := Classical.choose (⟨id, rfl⟩ : ∃ f : Nat → Nat, f = id)
theorem sN_eq (n : Nat) : sN n = n := congrFun (Classical.choose_spec (⟨id, rfl⟩ : ∃ f : Nat → Nat, f = id)) n
/-- What is handed over is looked at; what must hold, what is handed back. -/
def PC.fun (f : List AV → Option (Prop × AV)) : PC := {
  T cs Q := match f cs with | some (p, r) => p ∧ Q r | none => False
  det cs N h := by
    cases hf : f cs with
    | none => rw [hf] at h; exact h.elim
    | some pr => obtain ⟨p, r⟩ := pr; rw [hf] at h; exact ⟨r, h.2, h.1, rfl⟩ }
theorem goodP_fun {F : Nat → Obj → Prop} {P : Program} {TY : TypeId → Option TI} {C : FuncId → Option Ctr} {D : PT} {wr : Tmp → Bool}
    (hm : P.follows .mixedOrders = true) (hTY : TyOk P TY) (hD : PTOk F P D) (hC : CtrOk F P C) {f : FuncId} {fn : Func} (hf : P.funcs[f]? = some fn) {g : List AV → Option (Prop × AV)} (L : List AV → Nat → Option LR)
    (h : ∀ cs p r, g cs = some (p, r) → factL cs → p → fnE TY C D wr (L cs) fn cs [] (fun c H' => expE H' c (isA r))) : GoodP F P f (PC.fun g) := by
  refine goodP_of_fnE (wr := wr) hm hTY hD hC hf L fun cs Q hfl hT => ?_
  simp only [PC.fun] at hT
  cases hg : g cs with
  | none => rw [hg] at hT; exact hT.elim
  | some pr => obtain ⟨p, r⟩ := pr; rw [hg] at hT; exact ⟨r, hT.2, h cs p r hg hfl hT.1⟩
theorem goodP_ofC {F : Nat → Obj → Prop} {P : Program} {TY : TypeId → Option TI} {D : PT} {wr : Tmp → Bool} {α : Type} {C : α → FuncId → Option Ctr} {args : α → List AV} {pre : α → Prop} {res : α → AV} (hm : P.follows .mixedOrders = true) (hTY : TyOk P TY) (hD : PTOk F P D) (hC : ∀ x, CtrOk F P (C x)) {f : FuncId} {fn : Func} (hf : P.funcs[f]? = some fn) (L : α → Nat → Option LR)
    (hu : ∀ x, underL 0 (args x) = true)
    (h : ∀ x, factL (args x) → pre x → fnE TY (C x) D wr (L x) fn (args x) [] (fun c H' => expE H' c (isA (res x)))) : GoodP F P f (PC.of args pre res) := by
  intro S w cs vs Q hs hv hpre
  obtain ⟨x, h1, h2, h3⟩ := hpre
  have hl := leL_length h2
  have hv' : VL (fun _ => none) S w (args x) vs := by
    refine ⟨by rw [← hl]; exact hv.1, fun i c v hc hv' => ?_⟩
    have hi : i < cs.length := by
      rcases Nat.lt_or_ge i (args x).length with h' | h'
      · omega
      · rw [List.getElem?_eq_none h'] at hc; cases hc
    exact (hv.2 i cs[i] v (List.getElem?_eq_getElem hi) hv').le (σ := fun i => i) (n := 0) (fun i b hi => by omega) (leL_get h2 i _ _ (List.getElem?_eq_getElem hi) hc) (underL_get (hu x) i c hc)
  have hH : HRel (fun _ => none) S w [] := ⟨fun i j bi bj b hi => by simp at hi, fun i b hi => by simp at hi, fun i b hi => by cases hi⟩
  refine (fnE_calls hm hTY hD (hC x) hf hs hH hv' (h x hv'.fact h1)).mono ?_
  rintro e w' ⟨v, c, H', ρ', S', rfl, h1, h2, h3', h4, h5⟩
  obtain ⟨c', ids, h6, h7, h8⟩ := frzE_spec h3' h1 h2
  unfold isA at h6
  split at h6
  · rename_i hu
    refine ⟨v, res x, addS ρ' S' ids, rfl, h3, h7.le (σ := fun i => i) (n := 0) (fun i b hi => by omega) h6 hu, ⟨fun _ _ h => (by cases h), fun b hb => .inl (h4.st b hb), h4.same, h4.size, h4.shp, fun _ _ h => (by cases h), fun b hb => ?_, h4.os, h4.tape, h4.output⟩, addS_sok h3' h5 ids⟩
    rcases hb with hb | ⟨i, _, hb⟩
    · rcases h4.stf b hb with h9 | ⟨j, h9⟩ | h9
      · exact .inl h9
      · cases h9
      · exact .inr (.inr h9)
    · rcases h4.fresh i b hb with ⟨j, h9⟩ | h9
      · cases h9
      · exact .inr (.inr h9)
  · exact h6.elim
/-- A function that is walked where it is called, all its ways ending alike. -/
def inlC0 (TY : TypeId → Option TI) (C : FuncId → Option Ctr) (D : PT) (wr : Tmp → Bool) (L : List AV → List Blk → Nat → Option LR) (fn : Func) : Ctr := fun cs H Q => ∃ Q0 : AV → List Blk → Prop, fnE TY C D wr (L cs H) fn cs H Q0 ∧ ∀ c H', Q0 c H' → Q c H'
noncomputable def inlC : (TypeId → Option TI) → (FuncId → Option Ctr) → PT → (Tmp → Bool) → (List AV → List Blk → Nat → Option LR) → Func → Ctr := Classical.choose (⟨inlC0, rfl⟩ : ∃ f, f = inlC0)
theorem inlC_eq : inlC = inlC0 := Classical.choose_spec (⟨inlC0, rfl⟩ : ∃ f, f = inlC0)
attribute [irreducible] inlC
theorem inlC_intro {TY : TypeId → Option TI} {C : FuncId → Option Ctr} {D : PT} {wr : Tmp → Bool} {L : List AV → List Blk → Nat → Option LR} {fn : Func} {cs : List AV} {H : List Blk} {Q : AV → List Blk → Prop} (Q0 : AV → List Blk → Prop) (h1 : fnE TY C D wr (L cs H) fn cs H Q0) (h2 : ∀ c H', Q0 c H' → Q c H') : inlC TY C D wr L fn cs H Q := by
  rw [inlC_eq]; exact ⟨Q0, h1, h2⟩
def setCell (H : List Blk) (p k : Nat) (c : AV) : List Blk := match H[p]? with | some (.var cs T) => H.set p (.var (cs.set k c) T) | _ => H
theorem inlC_num {TY : TypeId → Option TI} {C : FuncId → Option Ctr} {D : PT} {wr : Tmp → Bool} {L : List AV → List Blk → Nat → Option LR} {fn : Func} {cs : List AV} {H : List Blk} {Q : AV → List Blk → Prop} (r : AV) (p k q j : Nat) (v : AV) (B : Bool) (h1 : fnE TY C D wr (L cs H) fn cs H (fun c H' => c = r ∧ ∃ b, b = B ∧ H' = setCell (setCell H p k (.bool b)) q j v)) (h2 : Q r (setCell (setCell H p k (.bool (sB B))) q j v)) : inlC TY C D wr L fn cs H Q := by
  refine inlC_intro _ h1 ?_
  rintro c H' ⟨rfl, b, rfl, rfl⟩
  rw [← sB_eq b]; exact h2
theorem good_inlC {F : Nat → Obj → Prop} {P : Program} {TY : TypeId → Option TI} {C : FuncId → Option Ctr} {D : PT} {wr : Tmp → Bool} (hm : P.follows .mixedOrders = true) (hTY : TyOk P TY) (hD : PTOk F P D) (hC : CtrOk F P C) {f : FuncId} {fn : Func} (hf : P.funcs[f]? = some fn) (L : List AV → List Blk → Nat → Option LR) :
    Good F P f (inlC TY C D wr L fn) := by
  intro ρ S w H cs vs Q hs hH hv hK
  rw [inlC_eq] at hK
  obtain ⟨Q0, h1, h2⟩ := hK
  refine (fnE_calls hm hTY hD hC hf hs hH hv h1).mono ?_
  rintro e w' ⟨v, c, H', ρ', S', he, h3, h4⟩
  exact ⟨v, c, H', ρ', S', he, h2 _ _ h3, h4⟩
end Go.Vc

/- What is said of tests, in one word: for the walks. -/
namespace Go.Vc
open Go
theorem wS : (∀ {a b : Nat}, Nat.ble a b = true ↔ a ≤ b) ∧ (∀ {a b : Nat}, Nat.ble a b = false ↔ b < a) ∧ (∀ {a b : Nat}, Nat.beq a b = true ↔ a = b) ∧ (∀ {a b : Nat}, Nat.beq a b = false ↔ ¬ a = b) ∧
    (∀ n : Int, sI n = n) ∧ (∀ n : Bool, sB n = n) ∧ (∀ n : List UInt8, sS n = n) ∧ (∀ n : Nat, sN n = n) ∧ (∀ a b : Int, ltI a b = decide (a < b)) ∧ (∀ a b : Int, leI a b = decide (a ≤ b)) ∧ (∀ a b : Int, eqI a b = (a == b)) ∧
    (∀ {p : Prop} [Decidable p], (decide p = true) = p) ∧ (∀ {p : Prop} {x : Decidable p}, decide p = false ↔ ¬ p) ∧ (∀ {α : Type} [BEq α] [LawfulBEq α] {a b : α}, (a == b) = true ↔ a = b) ∧ (∀ {α : Type} [BEq α] [LawfulBEq α] {a b : α}, (a != b) = true ↔ a ≠ b) ∧
    (∀ {α : Type} (a b : α), (a ≠ b) = ¬ a = b) ∧ (∀ {α : Type} [BEq α] [LawfulBEq α] {a b : α}, (a == b) = false ↔ a ≠ b) ∧ (∀ {α : Type} [BEq α] [LawfulBEq α] {a b : α}, (a != b) = false ↔ a = b) ∧
    (∀ b : Bool, (¬ b = true) = (b = false)) ∧ (∀ b : Bool, (¬ b = false) = (b = true)) ∧ (∀ {a b : Int}, ¬ a < b ↔ b ≤ a) ∧ (∀ {a b : Int}, ¬ a ≤ b ↔ b < a) ∧ (∀ {α : Type} [LT α] {x y : α}, x > y ↔ y < x) ∧ (∀ {α : Type} [LE α] {x y : α}, x ≥ y ↔ y ≤ x) ∧
    (∀ {a b : Nat}, ¬ a < b ↔ b ≤ a) ∧ (∀ {a b : Nat}, ¬ a ≤ b ↔ b < a) ∧ (∀ {p : Prop} [Decidable p], ¬ ¬ p ↔ p) ∧ (∀ {a b : Bool}, (!a) = b ↔ a = !b) ∧ ((!true) = false) ∧ ((!false) = true) ∧
    (∀ {α : Type} (a b : α), (bif true then a else b) = a) ∧ (∀ {α : Type} (a b : α), (bif false then a else b) = b) ∧ (∀ a b : Bool, ((a || b) = true) = (a = true ∨ b = true)) ∧ (∀ a b : Bool, ((a && b) = true) = (a = true ∧ b = true)) ∧
    (∀ {x y : Bool}, (x || y) = false ↔ x = false ∧ y = false) ∧ (∀ {x y : Bool}, (x && y) = false ↔ x = false ∨ y = false) :=
  ⟨ble_true, ble_false, beq_true, beq_false, sI_eq, sB_eq, sS_eq, sN_eq, ltI_eq, leI_eq, eqI_eq, decide_eq_true_eq, decide_eq_false_iff_not, beq_iff_eq, bne_iff_ne, ne_eq, beq_eq_false_iff_ne, bne_eq_false_iff_eq, Bool.not_eq_true, Bool.not_eq_false, Int.not_lt, Int.not_le, gt_iff_lt, ge_iff_le,
    Nat.not_lt, Nat.not_le, Decidable.not_not, Bool.not_eq_eq_eq_not, Bool.not_true, Bool.not_false, cond_true, cond_false, Bool.or_eq_true, Bool.and_eq_true, Bool.or_eq_false_iff, Bool.and_eq_false_iff⟩
theorem wQ : (∀ n : Int, sI n = n) ∧ (∀ n : Bool, sB n = n) ∧ (∀ n : List UInt8, sS n = n) ∧ (∀ n : Nat, sN n = n) := ⟨sI_eq, sB_eq, sS_eq, sN_eq⟩
mutual
theorem leA_rfl : ∀ a : AV, leA (fun i => i) a a
  | .agg cs => by simpa [leA] using leL_rfl cs
  | .tup cs => by simpa [leA] using leL_rfl cs
  | .fn f cs => by simpa [leA] using leL_rfl cs
  | .iface t v => by simpa [leA] using leA_rfl v
  | .rptr cs j => by simp [leA]
  | .sl c z l g => by simp [leA]
  | .nilsl => by simp [leA]
  | .osl id z o l cap => by simp [leA]
  | .ptr id j => by simp [leA]
  | .eptr id sz e j => by simp [leA]
  | .map id => by simp [leA]
  | .iter id => by simp [leA]
  | .int k n => by simp [leA]
  | .str l => by simp [leA]
  | .bool b => by simp [leA]
  | .any => by simp [leA]
  | .nilp => by simp [leA]
  | .nilfn => by simp [leA]
  | .nilmap => by simp [leA]
  | .nilif => by simp [leA]
theorem leL_rfl : ∀ l : List AV, leL (fun i => i) l l
  | [] => by simp [leL]
  | c :: cs => by simpa [leL] using ⟨leA_rfl c, leL_rfl cs⟩
end
end Go.Vc

/- What comes al an argument, read as data: of which abstract values its cells are. -/
namespace Go.Vc
open Go
/-- Cells, one by one. -/
def CV (W : World) (al : List AV) (cs : List Value) : Prop :=
  al.length = cs.length ∧ ∀ (i : Nat) (c : AV) (v : Value), al[i]? = some c → cs[i]? = some v → V (fun _ => none) (fun b => b < W.heap.size) W c v
theorem CV.nil {W : World} {cs : List Value} {n : Nat} (h : cs.length = n) : CV W [] (cs.drop n) := by
  refine ⟨by simp [h], fun i c v h1 => by simp at h1⟩
theorem CV.app {W : World} {a b : List AV} {x y : List Value} (h : CV W a x) (k : CV W b y) : CV W (a ++ b) (x ++ y) := by
  refine ⟨by simp [h.1, k.1], fun i c v hc hv => ?_⟩
  by_cases hi : i < a.length
  · rw [List.getElem?_append_left hi] at hc
    rw [List.getElem?_append_left (by rw [← h.1]; exact hi)] at hv
    exact h.2 i c v hc hv
  · rw [List.getElem?_append_right (by omega)] at hc
    rw [List.getElem?_append_right (by rw [← h.1]; omega)] at hv
    rw [← h.1] at hv
    exact k.2 _ c v hc hv
theorem CV.step {W : World} {a b : List AV} {cs : List Value} {o s : Nat} (h : CV W a ((cs.drop o).take s)) (k : CV W b (cs.drop (o + s))) : CV W (a ++ b) (cs.drop o) := by
  have := h.app k
  rw [← List.drop_drop, List.take_append_drop] at this
  exact this
theorem CV.one {W : World} {a : AV} {v : Value} (h : V (fun _ => none) (fun b => b < W.heap.size) W a v) : CV W [a] [v] := by
  refine ⟨rfl, fun i c v' hc hv => ?_⟩
  cases i with
  | zero => simp at hc hv; rw [← hc, ← hv]; exact h
  | succ i => simp at hc
/-- Whatever is read at a type is of something that 'ec' encodes. -/
def Dec (P : Program) (t : TypeId) {α : Type} (ec : α → List AV) : Prop :=
  ∀ {H : Type} (enc : TypeId × Value → H) (W : World) (fuel : Nat) (cs : List Value) (x : DataW H × List MemPlace), DataW.trod enc P W 0 (fun _ => true) true fuel t cs = some x → ∃ a, CV W (ec a) cs
section
variable {P : Program}
theorem und_of {t : TypeId} {i : TI} (h : tiOf P t = some i) : ∃ d, P.underlying t = some d ∧ TK.of d = i.kind ∧ P.cellsOf t = i.size := by
  unfold tiOf at h
  split at h
  · rename_i info d h1 h2
    cases h
    exact ⟨d, h2, rfl, by simp [Program.cellsOf, h1]⟩
  · cases h
theorem und_int {t : TypeId} {i : TI} {k : IntKind} (h : tiOf P t = some i) (hk : i.kind = .int k) : P.underlying t = some (.int k) := by
  obtain ⟨d, h1, h2, _⟩ := und_of h
  rw [hk] at h2
  cases d <;> simp [TK.of] at h2
  · rw [h1, h2]
  · split at h2 <;> cases h2
theorem und_bool {t : TypeId} {i : TI} (h : tiOf P t = some i) (hk : i.kind = .bool) : P.underlying t = some .bool := by
  obtain ⟨d, h1, h2, _⟩ := und_of h
  rw [hk] at h2
  cases d <;> simp [TK.of] at h2
  · exact h1
  · split at h2 <;> cases h2
theorem und_str {t : TypeId} {i : TI} (h : tiOf P t = some i) (hk : i.kind = .str) : P.underlying t = some .string := by
  obtain ⟨d, h1, h2, _⟩ := und_of h
  rw [hk] at h2
  cases d <;> simp [TK.of] at h2
  · exact h1
  · split at h2 <;> cases h2
theorem und_slice {t e : TypeId} {i : TI} (h : tiOf P t = some i) (hk : i.kind = .slice e) : P.underlying t = some (.slice e) := by
  obtain ⟨d, h1, h2, _⟩ := und_of h
  rw [hk] at h2
  cases d <;> simp [TK.of] at h2
  · rw [h1, h2]
  · split at h2 <;> cases h2
theorem und_struct {t : TypeId} {i : TI} {fs : List (Nat × TypeId)} (h : tiOf P t = some i) (hk : i.kind = .struct fs) :
    ∃ gs : Array Field, P.underlying t = some (.struct gs) ∧ (gs.toList.map fun f => (f.offset, f.type)) = fs := by
  obtain ⟨d, h1, h2, _⟩ := und_of h
  rw [hk] at h2
  cases d <;> simp only [TK.of] at h2 <;> try (cases h2; done)
  rename_i gs
  split at h2
  · cases h2
  · simp only [TK.struct.injEq] at h2
    exact ⟨gs, h1, h2⟩
theorem dec_int {t : TypeId} {i : TI} {k : IntKind} (h : tiOf P t = some i) (hk : i.kind = .int k) : Dec P t (fun n : Int => [.int k n]) := by
  intro H enc W fuel cs x hx
  obtain ⟨n, rfl, _, hw⟩ := DataW.trod_int (und_int h hk) hx
  simp only [Lit.wf, Bool.and_eq_true, decide_eq_true_eq] at hw
  exact ⟨n, CV.one (.int k n hw.1 hw.2)⟩
theorem dec_bool {t : TypeId} {i : TI} (h : tiOf P t = some i) (hk : i.kind = .bool) : Dec P t (fun b : Bool => [.bool b]) := by
  intro H enc W fuel cs x hx
  obtain ⟨b, rfl, _⟩ := DataW.trod_bool (und_bool h hk) hx
  exact ⟨b, CV.one (.bool b)⟩
theorem dec_str {t : TypeId} {i : TI} (h : tiOf P t = some i) (hk : i.kind = .str) : Dec P t (fun s : List UInt8 => [.str s]) := by
  intro H enc W fuel cs x hx
  obtain ⟨s, rfl, _, hs⟩ := DataW.trod_string (und_str h hk) hx
  exact ⟨s.data.toList, CV.one (.str _ s rfl (by simpa using hs))⟩
theorem cells_get {W : World} {a : Addr} {n : Nat} {cs : List Value} (h : W.cells? 0 a n = some cs) : cs.length = n ∧ ∀ j, j < n → W.cell? (a.add j) = cs[j]? := by
  unfold World.cells? at h
  rw [if_pos (Nat.zero_le _)] at h
  exact ⟨by simpa using mapM_some_length h, fun j hj => mapM_some_get h j j (by simp [hj])⟩
theorem spot_none {W : World} {a : Addr} {v : Value} (h : W.cell? a = some v) : a.spot = none := by
  cases hsp : a.spot with
  | none => rfl
  | some s =>
    simp only [World.cell?] at h
    split at h
    · simp [hsp] at h
    · cases h
theorem add_add {b o i j : Nat} : ((⟨b, o, none⟩ : Addr).add i).add j = ⟨b, o + i + j, none⟩ := by
  unfold Addr.add
  by_cases hi : i = 0 <;> by_cases hj : j = 0 <;> simp [hi, hj] <;> omega
theorem lt_of_get {l : List AV} {q : Nat} {c : AV} (h : l[q]? = some c) : q < l.length := by
  rcases Nat.lt_or_ge q l.length with h' | h'
  · exact h'
  · rw [List.getElem?_eq_none h'] at h; cases h
theorem dec_slice {t e : TypeId} {i j : TI} {sz : Nat} {α : Type} [Inhabited α] {ec : α → List AV} (h : tiOf P t = some i) (hk : i.kind = .slice e) (hj : tiOf P e = some j) (hsz : j.size = sz) (h0 : 0 < sz) (hd : Dec P e ec) :
    Dec P t (fun l : List α => [.sl false sz l.length (fun n => ec (l.getD n default))]) := by
  intro H enc W fuel cs x hx
  obtain ⟨_, _, _, hcells⟩ := und_of hj
  rw [hsz] at hcells
  rcases DataW.trod_slice (und_slice h hk) hx with ⟨rfl, _⟩ | ⟨a, len, cap, elems, rest, n, rfl, rfl, rfl, _, hl, hm, hel, he, hr, _⟩
  · exact ⟨[], CV.one (.sln false sz _ none)⟩
  rw [hcells] at he hr
  have hr := hr rfl
  rcases Nat.eq_zero_or_pos cap with hc0 | hc0
  · subst hc0
    obtain rfl : len = 0 := by omega
    exact ⟨[], CV.one (.sln false sz _ (some a))⟩
  have hspot : a.spot = none := by
    have : ∃ y, (W.cells? 0 (a.add (0 * sz)) sz).bind (DataW.trod enc P W 0 (fun _ => true) true n e) = some y := by
      rcases Nat.eq_zero_or_pos len with hl0 | hl0
      · subst hl0
        have h1 := hr.2 0 (by omega)
        rw [Nat.add_zero] at h1
        rw [h1]
        exact ⟨_, List.getElem?_eq_getElem (by rw [hr.1]; omega)⟩
      · rw [he 0 hl0]
        exact ⟨_, List.getElem?_eq_getElem (by rw [hel]; omega)⟩
    obtain ⟨y, hy⟩ := this
    rw [Option.bind_eq_some_iff] at hy
    obtain ⟨cs', hcs', _⟩ := hy
    obtain ⟨h1, h2⟩ := cells_get hcs'
    have h3 := h2 0 h0
    rw [List.getElem?_eq_getElem (by omega)] at h3
    have h4 := spot_none h3
    simpa [Addr.add] using h4
  obtain ⟨b, o, sp⟩ := a
  obtain rfl : sp = none := hspot
  have each : ∀ m, ∃ a : α, m < len → b < W.heap.size ∧ ∃ csm : List Value, csm.length = sz ∧ (∀ q, q < sz → W.cell? ⟨b, o + m * sz + q, none⟩ = csm[q]?) ∧ CV W (ec a) csm := by
    intro m
    by_cases hm : m < len
    · have h1 := he m hm
      rw [List.getElem?_eq_getElem (by omega)] at h1
      rw [Option.bind_eq_some_iff] at h1
      obtain ⟨csm, h2, h3⟩ := h1
      obtain ⟨h4, h5⟩ := cells_get h2
      obtain ⟨a, ha⟩ := hd enc W n csm _ h3
      have hb := World.cells?_block h2 h0
      refine ⟨a, fun _ => ⟨?_, csm, h4, fun q hq => ?_, ha⟩⟩
      · unfold Addr.add at hb
        split at hb <;> exact hb
      · rw [← h5 q hq, add_add]
    · exact ⟨default, fun h => absurd h hm⟩
  obtain ⟨f, hf⟩ := Classical.axiomOfChoice each
  refine ⟨(List.range len).map f, CV.one ?_⟩
  have hget : ∀ m, m < len → ((List.range len).map f).getD m default = f m := by
    intro m hm
    simp [List.getD, List.getElem?_map, List.getElem?_range hm]
  have hlen : ((List.range len).map f).length = len := by simp
  rw [hlen]
  refine .sl false sz len _ b o cap (fun m q => (W.cell? ⟨b, o + m * sz + q, none⟩).getD .nilIface) (fun hp => ?_) hl hm (fun h => by cases h) (fun m hm => ?_) (fun m q hm hq => ?_) (fun m q c hm hc => ?_)
  · exact ⟨(hf 0 hp).1, (hf 0 hp).1⟩
  · obtain ⟨_, csm, h1, _, h2⟩ := hf m hm
    show (ec (((List.range len).map f).getD m default)).length = sz
    rw [hget m hm, h2.1, h1]
  · obtain ⟨_, csm, h1, h2, _⟩ := hf m hm
    rw [h2 q hq, List.getElem?_eq_getElem (by omega)]
    rfl
  · obtain ⟨_, csm, h1, h2, h3⟩ := hf m hm
    have hc : (ec (f m))[q]? = some c := by rw [← hget m hm]; exact hc
    have hq : q < sz := by
      have := lt_of_get hc
      rw [h3.1, h1] at this
      exact this
    rw [h2 q hq, List.getElem?_eq_getElem (by omega)]
    exact h3.2 q c _ hc (List.getElem?_eq_getElem (by omega))
/-- The fields of a struct. -/
theorem dec_fields {t : TypeId} {i : TI} {fs : List (Nat × TypeId)} (h : tiOf P t = some i) (hk : i.kind = .struct fs) {H : Type} {enc : TypeId × Value → H} {W : World} {fuel : Nat} {cs : List Value} {x : DataW H × List MemPlace}
    (hx : DataW.trod enc P W 0 (fun _ => true) true fuel t cs = some x) :
    cs.length = i.size ∧ ∀ (n o s : Nat) (ft : TypeId) (j : TI) {α : Type} {ec : α → List AV}, fs[n]? = some (o, ft) → tiOf P ft = some j → j.size = s → Dec P ft ec → ∃ a, CV W (ec a) ((cs.drop o).take s) := by
  obtain ⟨gs, h1, h2⟩ := und_struct h hk
  obtain ⟨_, _, _, hcells⟩ := und_of h
  obtain ⟨xs, m, rfl, rfl, hl, hlen, hf⟩ := DataW.trod_struct h1 hx
  refine ⟨hl.trans hcells, fun n o s ft j α ec hn hj hs hd => ?_⟩
  obtain ⟨_, _, _, hcj⟩ := und_of hj
  subst h2
  rw [List.getElem?_map, Option.map_eq_some_iff] at hn
  obtain ⟨f, hf1, hf2⟩ := hn
  cases hf2
  rw [Array.getElem?_toList] at hf1
  have h3 := hf n f hf1
  have hn : n < gs.size := by
    rcases Nat.lt_or_ge n gs.size with h' | h'
    · exact h'
    · rw [Array.getElem?_eq_none h'] at hf1; cases hf1
  rw [List.getElem?_eq_getElem (by omega), hcj, hs] at h3
  exact hd enc W m _ _ h3
end
/-! ### Behind a law that answers true -/
/-- Nothing of what was there is another. -/
structure Kept (W W' : World) : Prop where
  same : ∀ b, b < W.heap.size → W'.heap[b]? = W.heap[b]?
  size : W.heap.size ≤ W'.heap.size
  os : W'.os = W.os
  output : W'.output = W.output
theorem Kept.but {W W' : World} (h : Kept W W') (may : MemPlace → Prop) : W.keptBut W' may := by
  refine ⟨h.os, h.output, fun i hi => ?_⟩
  rw [h.same i hi]
  exact (World.keptBut_refl W may).2.2 i hi
theorem Kept.frozen {W W' : World} (h : Kept W W') {a : Addr} (ha : a.block < W.heap.size) : W'.frozen? a = W.frozen? a := by
  simp only [World.frozen?, h.same _ ha]
theorem Kept.at_ {W W' : World} (h : Kept W W') {p : MemPlace} (hp : p.block < W.heap.size) : W.sameAt W' p := by
  cases p with
  | cell b off => exact cell_same (h.same b hp)
  | map b => exact h.same b hp
def slicesRowed (P : Program) : Bool := (List.range P.types.size).all fun t => match P.underlying t with
  | some (.slice e) => decide (0 < P.cellsOf e)
  | _ => true
theorem slices_of {P : Program} (h : slicesRowed P = true) : ∀ {t e : TypeId}, t < P.types.size → P.underlying t = some (.slice e) → 0 < P.cellsOf e := by
  intro t e ht hu
  have := List.all_eq_true.1 h t (by simpa using ht)
  rw [hu] at this
  simpa using this
section
variable {P : Program} {H : Type} {enc : TypeId × Value → H} {W W' : World}
theorem trodAll_kept (K : Kids P (· < P.types.size)) (hz : slicesRowed P = true) (hk : Kept W W') {sp : Nat → Bool} :
    ∀ {ts : List TypeId} {vs : List Value} {ds : List (DataW H)} {p : List MemPlace}, (∀ t ∈ ts, t < P.types.size) → DataW.TrodAll enc P W 0 (fun _ => true) true ts vs ds p → (∀ q ∈ p, sp q.block = true) →
      DataW.TrodAll enc P W' 0 sp true ts vs ds p
  | [], vs, ds, p, _, h, _ => by
    obtain ⟨rfl, rfl, rfl⟩ := ChangeShapes.trodAll_nil h
    exact ChangeShapes.trodAll_mk0
  | t :: ts, vs, ds, p, ht, h, hs => by
    obtain ⟨v, vs', d, ds', a, b, rfl, rfl, rfl, ⟨fuel, h1⟩, h2⟩ := ChangeShapes.trodAll_cons h
    refine ⟨a, b, ⟨fuel, ?_⟩, trodAll_kept K hz hk (fun t h => ht t (List.mem_cons_of_mem _ h)) h2 (fun q hq => hs q (List.mem_append_right _ hq)), rfl⟩
    exact DataW.trod_stays K (fun h1 h2 => slices_of hz h1 h2) (fun h => by cases h) (ht t (List.mem_cons_self ..)) h1
      (fun q hq => hk.at_ (DataW.trod_lt fuel t _ _ h1 q hq)) (fun q hq => hs q (List.mem_append_left _ hq))
/-- WHAT A ROW SAYS BEHIND A CALL THAT ANSWERED true AND CHANGED NOTHING. -/
theorem post_law {f : Func} {s : ChangeSpec} {args : Array Value} {ds gs : List (DataW H)} {before : List MemPlace} {fresh handsOn again : Bool} {t : TypeId}
    (K : Kids P (· < P.types.size)) (hz : slicesRowed P = true) (hv0 : s.vars = []) (hp : ∀ t ∈ f.params.toList, t < P.types.size) (hr : f.resultTypes = #[t]) (ht : P.underlying t = some .bool)
    (hW : DataW.Whole enc P f.params.toList s.vars false W args.toList ds gs before) (hfn : s.fn H (ds ++ gs) = { results := [.lit (.bool true)], args := ds, vars := gs })
    (hk : Kept W W') : s.post enc P f false fresh handsOn again W args (.bool true) W' := by
  obtain ⟨p, q, hA, hV, rfl, hfz, _⟩ := id hW
  rw [hv0] at hV
  obtain ⟨rfl, rfl⟩ := ChangeShapes.trodVars_none hV
  have hlt := hW.lt
  simp only [List.append_nil] at hlt hfz
  have hargs : ∀ sp : Nat → Bool, (∀ q ∈ p, sp q.block = true) → DataW.TrodAll enc P W' 0 sp true f.params.toList args.toList ds p := fun sp hs => trodAll_kept K hz hk hp hA hs
  have hres : ∀ (b : Nat) (sp : Nat → Bool) (hd : Bool), DataW.TrodAll enc P W' b sp hd f.resultTypes.toList ((Value.bool true).resultList f.resultTypes.size) [.lit (.bool true)] [] := by
    intro b sp hd
    rw [hr]
    exact ChangeShapes.trodAll_mk1 (RowKit.shut_bool ht true)
  have hvars : ∀ sp : Nat → Bool, DataW.TrodVars enc P W' sp s.vars [] [] := by
    intro sp
    rw [hv0]
    rfl
  have h0 : ∀ q ∈ p, decide (q.block < W.heap.size) = true := fun q hq => by simpa using hlt q hq
  refine ⟨ds, [], p ++ [], [], p, [], hW, ?_, ?_, ?_, ?_, fun _ => ⟨RowKit.ok_one hr rfl (RowKit.okWide_bool_mk ht true), .lit (.bool true) :: ds, [], p, ⟨p, [], ?_, hvars _, by simp, ?_, fun h => by cases h⟩, ?_⟩⟩
  · rw [hfn]; exact hres _ _ _
  · rw [hfn]; exact hargs _ h0
  · rw [hfn]; exact hvars _
  · exact World.keptBut_mono (fun _ f => f.elim) (hk.but fun _ => False)
  · exact ChangeShapes.trodAll_append (hargs _ fun _ _ => rfl) (hres _ _ _)
  · intro b off hb
    rw [hk.frozen (a := ⟨b, off, none⟩) (hlt _ hb)]
    exact hfz b off hb
  · intro q hq _
    simpa using hq
theorem law_calls {F : Nat → Obj → Prop} {f : FuncId} {α : Type} {args : α → List AV} {pre : α → Prop} {res : α → AV} (hF : ∀ b o, F b o → W.heap[b]? = some o) (hG : GoodP F P f (PC.of args pre res)) {vs : Array Value} {x : α} (hx : pre x)
    (hv : CV W (args x) vs.toList) : Calls P f vs W fun e w' => ∃ v S', e = .returned v ∧ V (fun _ => none) S' w' (res x) v ∧ Kept W w' := by
  have hs : Sok F (fun b => b < W.heap.size) W := ⟨fun b h => h, fun b o h => ⟨lt_of_some (hF b o h), hF b o h⟩⟩
  have hv' : VL (fun _ => none) (fun b => b < W.heap.size) W (args x) vs := ⟨by simpa using hv.1, fun i c v hc hi => hv.2 i c v hc (by simpa using hi)⟩
  refine (hG _ W (args x) vs (fun c => c = res x) hs hv' ⟨x, hx, leL_rfl _, rfl⟩).mono ?_
  rintro e w' ⟨v, c, S', rfl, rfl, h1, h2, _⟩
  exact ⟨v, S', rfl, h1, fun b hb => h2.same b hb (.inl hb), h2.size, h2.os, h2.output⟩
theorem arg_struct {r : Go.Reach} {b0 : Nat} {t : TypeId} {i : TI} {fs : List (Nat × TypeId)} {v : Value} {d : DataW H} {ps : List MemPlace} {α : Type} {ec : α → List AV} (h : tiOf P t = some i) (hk : i.kind = .struct fs) (hdc : Dec P t ec)
    (hval : Value.okWide P W r b0 t v) (hd : DataW.Trod enc P W 0 (fun _ => true) true t v d ps) : ∃ a : α, V (fun _ => none) (fun b => b < W.heap.size) W (.agg (ec a)) v := by
  obtain ⟨gs, h1, _⟩ := und_struct h hk
  obtain ⟨cs, rfl, _⟩ := WideShapes.okWide_struct h1 hval
  obtain ⟨fuel, hf⟩ := hd
  obtain ⟨a, ha⟩ := hdc enc W fuel _ _ hf
  exact ⟨a, .agg _ cs (by simpa [Value.cells] using ha.1) fun i c v hc hv => ha.2 i c v hc (by simpa [Value.cells] using hv)⟩
theorem CV.cons {a : AV} {al : List AV} {v : Value} {vs : List Value} (h : V (fun _ => none) (fun b => b < W.heap.size) W a v) (k : CV W al vs) : CV W (a :: al) (v :: vs) := (CV.one h).app k
theorem CV.none : CV W [] [] := ⟨rfl, fun i c v h => by simp at h⟩
end
end Go.Vc

/- Tickets and the rest, read as data. -/
namespace Go.Vc.Z
open Go Go.Vc Go.Proofs
theorem dCoupon : Dec Tryz.prog 45 Coupon.enc := by
  intro H enc W fuel cs x hx
  obtain ⟨hl, hf⟩ := dec_fields ok45 rfl hx
  obtain ⟨a0, h0⟩ := hf 0 0 1 3 ty3 rfl ok3 rfl (dec_int ok3 rfl)
  obtain ⟨a1, h1⟩ := hf 1 1 1 3 ty3 rfl ok3 rfl (dec_int ok3 rfl)
  obtain ⟨a2, h2⟩ := hf 2 2 1 2 ty2 rfl ok2 rfl (dec_int ok2 rfl)
  obtain ⟨a3, h3⟩ := hf 3 3 1 43 ty43 rfl ok43 rfl (dec_int ok43 rfl)
  obtain ⟨a4, h4⟩ := hf 4 4 1 3 ty3 rfl ok3 rfl (dec_int ok3 rfl)
  obtain ⟨a5, h5⟩ := hf 5 5 1 37 ty37 rfl ok37 rfl (dec_int ok37 rfl)
  exact ⟨⟨a0, a1, a2, a3, a4, a5⟩, h0.step (h1.step (h2.step (h3.step (h4.step (h5.step (CV.nil hl))))))⟩
theorem dTax : Dec Tryz.prog 113 Tax.enc := by
  intro H enc W fuel cs x hx
  obtain ⟨hl, hf⟩ := dec_fields ok113 rfl hx
  obtain ⟨a0, h0⟩ := hf 0 0 1 3 ty3 rfl ok3 rfl (dec_int ok3 rfl)
  obtain ⟨a1, h1⟩ := hf 1 1 1 2 ty2 rfl ok2 rfl (dec_int ok2 rfl)
  exact ⟨⟨a0, a1⟩, h0.step (h1.step (CV.nil hl))⟩
theorem dEvent : Dec Tryz.prog 105 Event.enc := by
  intro H enc W fuel cs x hx
  obtain ⟨hl, hf⟩ := dec_fields ok105 rfl hx
  obtain ⟨a0, h0⟩ := hf 0 0 1 3 ty3 rfl ok3 rfl (dec_int ok3 rfl)
  obtain ⟨a1, h1⟩ := hf 1 1 1 3 ty3 rfl ok3 rfl (dec_int ok3 rfl)
  obtain ⟨a2, h2⟩ := hf 2 2 1 43 ty43 rfl ok43 rfl (dec_int ok43 rfl)
  obtain ⟨a3, h3⟩ := hf 3 3 1 43 ty43 rfl ok43 rfl (dec_int ok43 rfl)
  exact ⟨⟨a0, a1, a2, a3⟩, h0.step (h1.step (h2.step (h3.step (CV.nil hl))))⟩
theorem dTicket : Dec Tryz.prog 42 Ticket.enc := by
  intro H enc W fuel cs x hx
  obtain ⟨hl, hf⟩ := dec_fields ok42 rfl hx
  obtain ⟨a0, h0⟩ := hf 0 0 1 37 ty37 rfl ok37 rfl (dec_int ok37 rfl)
  obtain ⟨a1, h1⟩ := hf 1 1 1 9 ty9 rfl ok9 rfl (dec_str ok9 rfl)
  obtain ⟨a2, h2⟩ := hf 2 2 1 3 ty3 rfl ok3 rfl (dec_int ok3 rfl)
  obtain ⟨a3, h3⟩ := hf 3 3 1 38 ty38 rfl ok38 rfl (dec_slice ok38 rfl ok45 rfl (by decide) dCoupon)
  obtain ⟨a4, h4⟩ := hf 4 4 1 39 ty39 rfl ok39 rfl (dec_slice ok39 rfl ok113 rfl (by decide) dTax)
  obtain ⟨a5, h5⟩ := hf 5 5 1 37 ty37 rfl ok37 rfl (dec_int ok37 rfl)
  obtain ⟨a6, h6⟩ := hf 6 6 1 37 ty37 rfl ok37 rfl (dec_int ok37 rfl)
  obtain ⟨a7, h7⟩ := hf 7 7 1 37 ty37 rfl ok37 rfl (dec_int ok37 rfl)
  obtain ⟨a8, h8⟩ := hf 8 8 1 2 ty2 rfl ok2 rfl (dec_int ok2 rfl)
  obtain ⟨a9, h9⟩ := hf 9 9 1 3 ty3 rfl ok3 rfl (dec_int ok3 rfl)
  obtain ⟨a10, h10⟩ := hf 10 10 1 40 ty40 rfl ok40 rfl (dec_slice ok40 rfl ok105 rfl (by decide) dEvent)
  exact ⟨⟨a0, a1, a2, a3, a4, a5, a6, a7, a8, a9, a10⟩, h0.step (h1.step (h2.step (h3.step (h4.step (h5.step (h6.step (h7.step (h8.step (h9.step (h10.step (CV.nil hl)))))))))))⟩
theorem dLoan : Dec Tryz.prog 47 Loan.enc := by
  intro H enc W fuel cs x hx
  obtain ⟨hl, hf⟩ := dec_fields ok47 rfl hx
  obtain ⟨a0, h0⟩ := hf 0 0 1 37 ty37 rfl ok37 rfl (dec_int ok37 rfl)
  obtain ⟨a1, h1⟩ := hf 1 1 1 3 ty3 rfl ok3 rfl (dec_int ok3 rfl)
  obtain ⟨a2, h2⟩ := hf 2 2 1 4 ty4 rfl ok4 rfl (dec_bool ok4 rfl)
  obtain ⟨a3, h3⟩ := hf 3 3 6 45 ty45 rfl ok45 rfl dCoupon
  exact ⟨⟨a0, a1, a2, a3⟩, h0.step (h1.step (h2.step (h3.step (CV.nil hl))))⟩
end Go.Vc.Z

/- The tables that the library lays. -/
namespace Go.Vc
open Go Go.Proofs
/-- Where the powers of ten lie. -/
noncomputable def gPow : Nat := (Tryz.prog.globalNamed "internal/strconv.uint64pow10").getD 0
/-- What the library has laid in the world at the start stays there. -/
def Fw (W : World) : Nat → Obj → Prop := fun b o => b = gPow ∧ W.heap[b]? = some o
def Tabs (W : World) : Prop := Lib.TabIs Tryz.prog W "internal/strconv.uint64pow10" .u64 Lib.pow10Tab
theorem globPow : Tryz.prog.globalNamed "internal/strconv.uint64pow10" = some gPow := by
  have h : (Tryz.prog.globalNamed "internal/strconv.uint64pow10").isSome = true := by kernel_rfl
  unfold gPow
  cases hg : Tryz.prog.globalNamed "internal/strconv.uint64pow10" with
  | none => rw [hg] at h; cases h
  | some g => rfl
theorem Tabs.pow {W : World} (hW : Tabs W) {S : Nat → Prop} {w : World} (hs : Sok (Fw W) S w) : Lib.TabIs Tryz.prog w "internal/strconv.uint64pow10" .u64 Lib.pow10Tab := by
  unfold Tabs Lib.TabIs World.var? at hW
  unfold Lib.TabIs World.var?
  rw [globPow] at hW ⊢
  simp only [Option.bind_some] at hW ⊢
  cases hg : W.heap[gPow]? with
  | none => rw [hg] at hW; cases hW
  | some o =>
    rw [(hs.st gPow o ⟨rfl, hg⟩).2]
    rw [hg] at hW
    exact hW
end Go.Vc

/- Plain laws of digits. -/
namespace Go.Pl
open Go Go.Lib
theorem snocInd {α : Type} {P : List α → Prop} (h0 : P []) (h1 : ∀ s c, P s → P (s ++ [c])) (s : List α) : P s := by
  have : ∀ t : List α, P t.reverse := by
    intro t
    induction t with
    | nil => exact h0
    | cons c t ih => rw [List.reverse_cons]; exact h1 _ _ ih
  have h := this s.reverse
  rwa [List.reverse_reverse] at h
/-- What digits come to. -/
def worth (s : List UInt8) : Nat := s.foldl (fun n c => 10 * n + (c.toNat - 48)) 0
def isDig (c : UInt8) : Bool := decide (48 ≤ c.toNat) && decide (c.toNat ≤ 57)
def allDig (s : List UInt8) : Bool := s.all isDig
theorem isDig_iff {c : UInt8} : isDig c = true ↔ 48 ≤ c.toNat ∧ c.toNat ≤ 57 := by simp [isDig]
theorem allDig_iff {s : List UInt8} : allDig s = true ↔ ∀ c ∈ s, 48 ≤ c.toNat ∧ c.toNat ≤ 57 := by simp [allDig, isDig]
theorem worth_nil : worth [] = 0 := rfl
theorem worth_snoc (s : List UInt8) (c : UInt8) : worth (s ++ [c]) = 10 * worth s + (c.toNat - 48) := by simp [worth]
theorem worth_from (s : List UInt8) : ∀ n, s.foldl (fun n c => 10 * n + (c.toNat - 48)) n = n * 10 ^ s.length + worth s := by
  induction s using snocInd with
  | h0 => intro n; simp [worth]
  | h1 s c ih =>
    intro n
    rw [List.foldl_append, ih, worth_snoc]
    simp only [List.foldl_cons, List.foldl_nil, List.length_append, List.length_singleton, Nat.pow_succ]
    rw [Nat.mul_add, Nat.mul_comm 10 (n * 10 ^ s.length), Nat.mul_assoc]
    omega
theorem worth_append (s t : List UInt8) : worth (s ++ t) = worth s * 10 ^ t.length + worth t := by
  rw [← worth_from t (worth s)]
  simp [worth]
theorem worth_cons (c : UInt8) (t : List UInt8) : worth (c :: t) = (c.toNat - 48) * 10 ^ t.length + worth t := by
  have := worth_append [c] t
  simpa [worth] using this
theorem worth_lt {s : List UInt8} (h : allDig s = true) : worth s < 10 ^ s.length := by
  induction s using snocInd with
  | h0 => simp [worth]
  | h1 s c ih =>
    simp only [allDig, List.all_append, Bool.and_eq_true] at h
    have h1 := ih h.1
    have h2 := isDig_iff.1 (by simpa using h.2)
    rw [worth_snoc, List.length_append, List.length_singleton, Nat.pow_succ]
    omega
theorem dig_toNat (u : Nat) : (UInt8.ofNat (48 + u % 10)).toNat = 48 + u % 10 := by
  rw [UInt8.toNat_ofNat']
  have : u % 10 < 10 := Nat.mod_lt _ (by omega)
  omega
theorem dec_small {u : Nat} (h : u < 10) : decDigits u = [UInt8.ofNat (48 + u % 10)] := by
  rw [decDigits, dif_pos h, Nat.mod_eq_of_lt h]
theorem dec_big {u : Nat} (h : 10 ≤ u) : decDigits u = decDigits (u / 10) ++ [UInt8.ofNat (48 + u % 10)] := by
  rw [decDigits, dif_neg (by omega)]
theorem worth_dec (u : Nat) : worth (decDigits u) = u := by
  induction u using Nat.strongRecOn with
  | _ u ih =>
    by_cases h : u < 10
    · rw [dec_small h]
      have := worth_snoc [] (UInt8.ofNat (48 + u % 10))
      rw [List.nil_append] at this
      rw [this, dig_toNat, worth_nil]; omega
    · rw [dec_big (by omega), worth_snoc, ih (u / 10) (by omega), dig_toNat]; omega
theorem allDig_snoc (s : List UInt8) (u : Nat) : allDig (s ++ [UInt8.ofNat (48 + u % 10)]) = allDig s := by
  simp only [allDig, List.all_append, List.all_cons, List.all_nil, Bool.and_true]
  have : isDig (UInt8.ofNat (48 + u % 10)) = true := isDig_iff.2 (by rw [dig_toNat]; omega)
  rw [this, Bool.and_true]
theorem allDig_dec (u : Nat) : allDig (decDigits u) = true := by
  induction u using Nat.strongRecOn with
  | _ u ih =>
    by_cases h : u < 10
    · rw [dec_small h]; exact allDig_snoc [] u
    · rw [dec_big (by omega), allDig_snoc]; exact ih _ (by omega)
theorem dec_len_iff (u k : Nat) (hk : 0 < k) : (decDigits u).length = k + 1 ↔ 10 ^ k ≤ u ∧ u < 10 ^ (k + 1) := by
  constructor
  · intro h
    have h1 := worth_lt (allDig_dec u)
    rw [worth_dec, h] at h1
    refine ⟨?_, h1⟩
    rcases Nat.lt_or_ge u (10 ^ k) with h2 | h2
    · exfalso
      rw [decDigits_length] at h
      have h3 : ∀ (j v : Nat), v < 10 ^ (j + 1) → nDigits v ≤ j + 1 := by
        intro j
        induction j with
        | zero => intro v hv; rw [nDigits_small (by simpa using hv)]; omega
        | succ j ih =>
          intro v hv
          by_cases hv1 : v < 10
          · rw [nDigits_small hv1]; omega
          · rw [nDigits_big hv1]
            have := ih (v / 10) (by rw [Nat.pow_succ] at hv; omega)
            omega
      have := h3 (k - 1) u (by rw [show k - 1 + 1 = k by omega]; exact h2)
      omega
    · exact h2
  · rintro ⟨h1, h2⟩
    rw [decDigits_length, nDigits_unique k u h1 h2]
theorem nDigits_le : ∀ (k u : Nat), u < 10 ^ (k + 1) → nDigits u ≤ k + 1
  | 0, u, h => by rw [nDigits_small (by simpa using h)]; omega
  | k + 1, u, h => by
    by_cases h1 : u < 10
    · rw [nDigits_small h1]; omega
    · rw [nDigits_big h1]
      have := nDigits_le k (u / 10) (by rw [Nat.pow_succ] at h; omega)
      omega
theorem dec_len_le (u : Nat) (h : u < 18446744073709551616) : (decDigits u).length ≤ 20 := by
  rw [decDigits_length]; exact nDigits_le 19 u (by omega)
end Go.Pl

/- Numbers: the program's. -/
namespace Go.Vc.Z
open Go Go.Vc Go.Proofs Go.RowKit Go.Pl Go.Lib
noncomputable section
set_option maxRecDepth 100000
set_option linter.unusedSimpArgs false
set_option linter.unusedVariables false
attribute [local irreducible] inK Utf8.decode Utf8.encode Lib.itoa Pl.worth Pl.allDig
/-- A ticket's number, what is wrong with it. -/
@[irreducible] def checkN (n : Int) : Int := if n < 1000000000000 ∨ 9999999999999 < n then 2 else if n / 10 % 7 = n % 10 then 0 else 11
theorem checkN_zero {n : Int} (h : checkN n = 0) : 1000000000000 ≤ n ∧ n ≤ 9999999999999 := by
  unfold checkN at h
  split at h
  · cases h
  · omega
def pcCheck : PC := PC.fun fun | [.int .u64 n] => some (True, .int .i64 (sI (checkN n))) | _ => none
def D_number_Check : PT := tabD []
def C_number_Check : FuncId → Option Ctr := tabC D_number_Check []
theorem g_number_Check {W : World} (hW : Tabs W) : GoodP (Fw W) Tryz.prog 127 pcCheck := by
  have hD : PTOk (Fw W) Tryz.prog D_number_Check := tabD_nil
  have hC0 : CtrOk (Fw W) Tryz.prog C_number_Check := (tabC_nil hD)
  refine goodP_fun (D := D_number_Check) (C := C_number_Check) (wr := (fun _ => false)) rfl tyOk hD hC0 Tryz.func127 (fun _ _ => none) ?_
  clear hC0 hD hW
  intro cs p r h hf hp
  split at h
  case h_2 => cases h
  rename_i n
  cases h
  try simp only [factL, factA, inK_def, Go.Vc.lo, Go.Vc.hi, and_true] at hf
  (conv => whnf)
  (repeat' ((first
    | ((with_reducible refine And.intro ?_ ?_); focus (first | with_reducible rfl | (simp only [inK_def, Go.Vc.lo, Go.Vc.hi]; omega)))
    | (split <;> rename_i hh <;> (try simp only [wS] at hh) <;> (try simp (disch := omega) only [Int.tdiv_eq_ediv_of_nonneg, Int.tmod_eq_emod_of_nonneg] at hh))
    | fail) <;> (conv => whnf)))
  all_goals (try (show _ = _; simp only [wQ]))
  all_goals (unfold checkN; repeat' split) <;> omega
@[irreducible] def carrierN (n : Int) : Int := if checkN n = 0 then n / 10 / 1000000000 else 0
@[irreducible] def serialN (n : Int) : Int := if checkN n = 0 then n / 10 % 1000000000 else 0
def pcParts : PC := PC.fun fun | [.int .u64 n] => some (True, .tup [.int .i64 (sI (carrierN n)), .int .i64 (sI (serialN n))]) | _ => none
def D_number_parts : PT := tabD [(127, pcCheck)]
def C_number_parts : FuncId → Option Ctr := tabC D_number_parts []
theorem g_number_parts {W : World} (hW : Tabs W) : GoodP (Fw W) Tryz.prog 300 pcParts := by
  have hD : PTOk (Fw W) Tryz.prog D_number_parts := (tabD_cons Tryz.call127 (g_number_Check hW) tabD_nil)
  have hC0 : CtrOk (Fw W) Tryz.prog C_number_parts := (tabC_nil hD)
  refine goodP_fun (D := D_number_parts) (C := C_number_parts) (wr := (fun _ => false)) rfl tyOk hD hC0 Tryz.func300 (fun _ _ => none) ?_
  clear hC0 hD hW
  intro cs p r h hf hp
  split at h
  case h_2 => cases h
  rename_i n
  cases h
  try simp only [factL, factA, inK_def, Go.Vc.lo, Go.Vc.hi, and_true] at hf
  (conv => whnf)
  (repeat' ((first
    | with_reducible exact True.intro
    | ((with_reducible refine And.intro ?_ ?_); focus (first | with_reducible exact True.intro | with_reducible rfl | (simp only [inK_def, Go.Vc.lo, Go.Vc.hi]; omega)))
    | (split <;> rename_i hh <;> (try simp only [wS] at hh) <;> (try simp (disch := omega) only [Int.tdiv_eq_ediv_of_nonneg, Int.tmod_eq_emod_of_nonneg] at hh))
    | with_reducible refine And.intro (?_ : leA _ _ _) ?_
    | fail) <;> (conv => whnf)))
  all_goals (try (show _ = _; simp only [wQ]))
  all_goals (try simp (disch := omega) only [Int.tdiv_eq_ediv_of_nonneg, Int.tmod_eq_emod_of_nonneg]); all_goals (first | (simp_all [sI_eq, sB_eq, sS_eq, ltI_eq, leI_eq, eqI_eq, carrierN, serialN]; done))
def pcCarrier : PC := PC.fun fun | [.int .u64 n] => some (True, .int .i64 (sI (carrierN n))) | _ => none
def D_number_Carrier : PT := tabD [(300, pcParts)]
def C_number_Carrier : FuncId → Option Ctr := tabC D_number_Carrier []
theorem g_number_Carrier {W : World} (hW : Tabs W) : GoodP (Fw W) Tryz.prog 264 pcCarrier := by
  have hD : PTOk (Fw W) Tryz.prog D_number_Carrier := (tabD_cons Tryz.call300 (g_number_parts hW) tabD_nil)
  have hC0 : CtrOk (Fw W) Tryz.prog C_number_Carrier := (tabC_nil hD)
  refine goodP_fun (D := D_number_Carrier) (C := C_number_Carrier) (wr := (fun _ => false)) rfl tyOk hD hC0 Tryz.func264 (fun _ _ => none) ?_
  clear hC0 hD hW
  intro cs p r h hf hp
  split at h
  case h_2 => cases h
  rename_i n
  cases h
  try simp only [factL, factA, inK_def, Go.Vc.lo, Go.Vc.hi, and_true] at hf
  (conv => whnf)
  (repeat' ((first
    | ((with_reducible refine And.intro ?_ ?_); focus (first | with_reducible exact True.intro | with_reducible rfl))
    | fail) <;> (conv => whnf)))
  all_goals (try (show _ = _; simp only [wQ]))
@[irreducible] def mayCar (c : Int) : Bool := decide (100 ≤ c) && decide (c ≤ 999)
@[irreducible] def maySer (c : Int) : Bool := decide (0 ≤ c) && decide (c ≤ 999999999)
def pcMayCarrier : PC := PC.fun fun | [.int .i64 n] => some (True, .bool (sB (mayCar n))) | _ => none
def D_number_mayCarrier : PT := tabD []
def C_number_mayCarrier : FuncId → Option Ctr := tabC D_number_mayCarrier []
theorem g_number_mayCarrier {W : World} (hW : Tabs W) : GoodP (Fw W) Tryz.prog 292 pcMayCarrier := by
  have hD : PTOk (Fw W) Tryz.prog D_number_mayCarrier := tabD_nil
  have hC0 : CtrOk (Fw W) Tryz.prog C_number_mayCarrier := (tabC_nil hD)
  refine goodP_fun (D := D_number_mayCarrier) (C := C_number_mayCarrier) (wr := (fun _ => false)) rfl tyOk hD hC0 Tryz.func292 (fun _ _ => none) ?_
  clear hC0 hD hW
  intro cs p r h hf hp
  split at h
  case h_2 => cases h
  rename_i n
  cases h
  try simp only [factL, factA, inK_def, Go.Vc.lo, Go.Vc.hi, and_true] at hf
  (conv => whnf)
  (repeat' ((first
    | (split <;> rename_i hh <;> (try simp only [wS] at hh) <;> (try simp (disch := omega) only [Int.tdiv_eq_ediv_of_nonneg, Int.tmod_eq_emod_of_nonneg] at hh))
    | fail) <;> (conv => whnf)))
  all_goals (try (show _ = _; simp only [wQ]))
  all_goals (try simp (disch := omega) only [Int.tdiv_eq_ediv_of_nonneg, Int.tmod_eq_emod_of_nonneg]); all_goals (first | (simp_all [sI_eq, sB_eq, sS_eq, ltI_eq, leI_eq, eqI_eq, mayCar]; done) | (simp_all [sI_eq, sB_eq, sS_eq, ltI_eq, leI_eq, eqI_eq, mayCar]; omega))
def pcMaySerial : PC := PC.fun fun | [.int .i64 n] => some (True, .bool (sB (maySer n))) | _ => none
def D_number_maySerial : PT := tabD []
def C_number_maySerial : FuncId → Option Ctr := tabC D_number_maySerial []
theorem g_number_maySerial {W : World} (hW : Tabs W) : GoodP (Fw W) Tryz.prog 293 pcMaySerial := by
  have hD : PTOk (Fw W) Tryz.prog D_number_maySerial := tabD_nil
  have hC0 : CtrOk (Fw W) Tryz.prog C_number_maySerial := (tabC_nil hD)
  refine goodP_fun (D := D_number_maySerial) (C := C_number_maySerial) (wr := (fun _ => false)) rfl tyOk hD hC0 Tryz.func293 (fun _ _ => none) ?_
  clear hC0 hD hW
  intro cs p r h hf hp
  split at h
  case h_2 => cases h
  rename_i n
  cases h
  try simp only [factL, factA, inK_def, Go.Vc.lo, Go.Vc.hi, and_true] at hf
  (conv => whnf)
  (repeat' ((first
    | (split <;> rename_i hh <;> (try simp only [wS] at hh) <;> (try simp (disch := omega) only [Int.tdiv_eq_ediv_of_nonneg, Int.tmod_eq_emod_of_nonneg] at hh))
    | fail) <;> (conv => whnf)))
  all_goals (try (show _ = _; simp only [wQ]))
  all_goals (try simp (disch := omega) only [Int.tdiv_eq_ediv_of_nonneg, Int.tmod_eq_emod_of_nonneg]); all_goals (first | (simp_all [sI_eq, sB_eq, sS_eq, ltI_eq, leI_eq, eqI_eq, maySer]; done) | (simp_all [sI_eq, sB_eq, sS_eq, ltI_eq, leI_eq, eqI_eq, maySer]; omega))
/-- A rune of ASCII is its byte. -/
@[irreducible] def numText (n : Int) : List UInt8 := if checkN n = 0 then decDigits n.toNat else []
def pcNText : PC := PC.fun fun | [.int .u64 n] => some (True, .str (sS (numText n))) | _ => none
def LText (n : Int) : LoopSpec := {
  α := Nat
  keep := [0, 3, 10, 11]
  vals i := [.int .u64 (n / 10 ^ i), .osl 0 1 0 13 (some 13), .int .i64 13, .int .i64 i]
  heap i := [.row 1 13 (fun e => [.int .i32 (if 13 ≤ e + i then 48 + n / 10 ^ (12 - e) % 10 else 0)])]
  ok i := i ≤ 13
  μ i := 13 - i }
theorem pow_pos10 (i : Nat) : (0 : Int) < 10 ^ i := Int.pow_pos (by decide)
theorem ediv_pow (n : Int) (i : Nat) : n / 10 ^ i / 10 = n / 10 ^ (i + 1) := by
  rw [Int.pow_succ, Int.ediv_ediv, if_neg (fun h => by have := pow_pos10 i; omega), Int.sub_zero]
theorem encode_ascii {n : Int} (h0 : 0 ≤ n) (h1 : n < 128) : (Utf8.encode n).data.toList = [UInt8.ofNat n.toNat] := by
  obtain ⟨k, rfl⟩ : ∃ k : Nat, n = k := ⟨n.toNat, by omega⟩
  have v : Utf8.valid (k : Int) = true := by simp [Utf8.valid]; omega
  have c1 : k < 128 := by omega
  simp [Utf8.encode, v, c1]
theorem numText_runes {n : Int} (h : checkN n = 0) : ((List.range 13).flatMap fun e => (Utf8.encode (48 + n / 10 ^ (12 - e) % 10)).data.toList) = numText n := by
  obtain ⟨h0, h1⟩ := checkN_zero h
  obtain ⟨u, rfl⟩ : ∃ u : Nat, n = u := ⟨n.toNat, by omega⟩
  have hd : nDigits u = 13 := nDigits_unique 12 u (by omega) (by omega)
  rw [numText, if_pos h, Int.toNat_natCast, decDigits_eq, hd]
  have e : ∀ l : List Nat, (l.flatMap fun e => (Utf8.encode (48 + (u : Int) / 10 ^ (12 - e) % 10)).data.toList) = l.map fun t => dg u (13 - 1 - t) := by
    intro l
    induction l with
    | nil => rfl
    | cons e l ih =>
      rw [List.flatMap_cons, List.map_cons, ih]
      have h2 : (48 + (u : Int) / 10 ^ (12 - e) % 10) = ((48 + u / 10 ^ (12 - e) % 10 : Nat) : Int) := by simp
      rw [h2, encode_ascii (by omega) (by have := Nat.mod_lt (u / 10 ^ (12 - e)) (show 10 > 0 by omega); omega)]
      rfl
  exact e _
def D_number_Text : PT := tabD [(127, pcCheck)]
def C_number_Text : FuncId → Option Ctr := tabC D_number_Text []
def L_number_Text : List AV → Nat → Option LR := fun cs i => match cs with | [.int _ n] => cond (Nat.beq i 5) (some (.inv (LText n))) (none) | _ => none
theorem g_number_Text {W : World} (hW : Tabs W) : GoodP (Fw W) Tryz.prog 54 pcNText := by
  have hD : PTOk (Fw W) Tryz.prog D_number_Text := (tabD_cons Tryz.call127 (g_number_Check hW) tabD_nil)
  have hC0 : CtrOk (Fw W) Tryz.prog C_number_Text := (tabC_nil hD)
  refine goodP_fun (D := D_number_Text) (C := C_number_Text) (wr := (fun _ => false)) rfl tyOk hD hC0 Tryz.func54 (L_number_Text) ?_
  clear hC0 hD hW
  intro cs p r h hf hp
  split at h
  case h_2 => cases h
  rename_i n
  cases h
  try simp only [factL, factA, inK_def, Go.Vc.lo, Go.Vc.hi, and_true] at hf
  (conv => whnf)
  (repeat' ((first
    | ((with_reducible refine And.intro ?_ ?_); focus (first | with_reducible exact True.intro | (simp only [growOk, ty2, ty3, ty4, ty5, ty9, ty21, ty37, ty42, ty43, ty45, ty47, ty67, ty95, ty105, ty113, ty150, ty161, ty198, ty242, ty275]; first | omega | (refine ⟨?_, ?_⟩ <;> omega))))
    | (split <;> rename_i hh <;> (try simp only [wS] at hh) <;> (try simp (disch := omega) only [Int.tdiv_eq_ediv_of_nonneg, Int.tmod_eq_emod_of_nonneg] at hh))
    | with_reducible refine (fun (hln : (_ : Int) ≤ 9223372036854775807) => ?_)
    | fail) <;> (conv => whnf)))
  all_goals (try (show _ = _; simp only [wQ]))
  · simp [numText, hh]
  · refine ⟨?_, fun (i : Nat) (hi : i ≤ 13) => ?_⟩
    · (conv => whnf)
      refine ⟨(0 : Nat), [], ?_, ⟨⟨rfl, Nat.le_of_ble_eq_true rfl, rfl⟩, ?_, ?_⟩⟩
      · exact Nat.zero_le _
      · (conv => whnf)
        (repeat' ((first | with_reducible exact True.intro | ((with_reducible refine Or.inr ?_); rfl) | ((with_reducible refine And.intro ?_ ?_); focus (first | with_reducible rfl | omega | exact Nat.le_of_ble_eq_true rfl | rfl)) | with_reducible refine And.intro (?_ : leA _ _ _) ?_ | fail) <;> (conv => whnf)))
        all_goals (try simp only [wQ])
        all_goals (try first | omega)
      · (conv => whnf)
        (repeat' ((first | with_reducible exact True.intro | ((with_reducible refine And.intro ?_ ?_); focus (first | with_reducible rfl | omega | exact Nat.le_of_ble_eq_true rfl | rfl)) | with_reducible refine And.intro (?_ : leBlk _ _ _ _) ?_ | fail) <;> (conv => whnf)))
        all_goals (try simp only [wQ])
        intro e he
        refine ⟨?_, rfl⟩
        simp only [AV.cells]
        rw [if_neg (by omega)]
    · have h10 : 0 ≤ n / 10 ^ i := Int.ediv_nonneg hf.1 (Int.le_of_lt (pow_pos10 i))
      have h11 : n / 10 ^ i ≤ 18446744073709551615 := Int.le_trans (Int.ediv_le_self _ hf.1) hf.2
      have hm := Int.emod_nonneg (n / 10 ^ i) (show (10 : Int) ≠ 0 by decide)
      have hm2 := Int.emod_lt_of_pos (n / 10 ^ i) (show (0 : Int) < 10 by decide)
      (conv => whnf)
      (repeat' ((first
        | ((with_reducible refine And.intro ?_ ?_); focus (first | omega | (simp only [inK_def, Go.Vc.lo, Go.Vc.hi]; omega)))
        | (split <;> rename_i hh <;> (try simp only [wS] at hh) <;> (try simp (disch := omega) only [Int.tdiv_eq_ediv_of_nonneg, Int.tmod_eq_emod_of_nonneg] at hh))
        | fail) <;> (conv => whnf)))
      all_goals (try (show _ = _; simp only [wQ]))
      · (conv => whnf)
        refine ⟨(i + 1 : Nat), [], ?_, ⟨⟨rfl, Nat.le_of_ble_eq_true rfl, rfl⟩, ?_, ?_⟩⟩
        · exact ⟨show i + 1 ≤ 13 by omega, show 13 - (i + 1) < 13 - i by omega⟩
        · (conv => whnf)
          (repeat' ((first | with_reducible exact True.intro | ((with_reducible refine Or.inr ?_); rfl) | ((with_reducible refine And.intro ?_ ?_); focus (first | with_reducible rfl | omega | exact Nat.le_of_ble_eq_true rfl | rfl)) | with_reducible refine And.intro (?_ : leA _ _ _) ?_ | fail) <;> (conv => whnf)))
          all_goals (try simp only [wQ])
          all_goals (try first | omega)
          · rw [ediv_pow]
        · (conv => whnf)
          (repeat' ((first | with_reducible exact True.intro | ((with_reducible refine And.intro ?_ ?_); focus (first | with_reducible rfl | omega | exact Nat.le_of_ble_eq_true rfl | rfl)) | with_reducible refine And.intro (?_ : leBlk _ _ _ _) ?_ | fail) <;> (conv => whnf)))
          all_goals (try simp only [wQ])
          intro e he
          refine ⟨?_, rfl⟩
          by_cases h1 : e = 12 - i
          · rw [if_pos (by omega)]
            show [AV.int IntKind.i32 (48 + (n / 10 ^ i) % 10)] = [AV.int IntKind.i32 _]
            rw [if_pos (by omega), h1, show 12 - (12 - i) = i by omega]
          · rw [if_neg (by omega)]
            by_cases h2 : 13 ≤ e + i
            · rw [if_pos h2, if_pos (by omega)]
            · rw [if_neg h2, if_neg (by omega)]
      · have h13 : i = 13 := by omega
        subst h13
        have hr := numText_runes (n := n) (by assumption)
        have hrr : (runesOf 13 fun e => (fun e => [AV.int IntKind.i32 (if 13 ≤ e + 13 then 48 + n / 10 ^ (12 - e) % 10 else 0)]) (0 + e)) = numText n := by
          rw [← hr]
          unfold runesOf
          congr 1
          funext e
          simp [runeCell]
        refine ⟨⟨fun e _ => rfl, ?_⟩, ?_⟩
        · refine Nat.le_trans (Nat.le_of_eq (congrArg List.length hrr)) ?_
          unfold numText; rw [if_pos (by assumption)]; have := dec_len_le n.toNat (by omega); omega
        · (conv => whnf)
          all_goals (try (show _ = _; simp only [wQ]))
          exact hrr
end
end Go.Vc.Z

/- Plain laws: bytes and runes; texts that are gone through from the left. -/
namespace Go.Pl
open Go Go.Lib
theorem get!_list (l : List UInt8) (i : Nat) (h : i < l.length) : (ByteArray.get! ⟨l.toArray⟩ i) = l.getD i 0 := by
  show (l.toArray)[i]! = _
  simp [h, List.getD_eq_getElem?_getD]
theorem decode_lo {l : List UInt8} {p : Nat} (h : p < l.length) (hb : (l.getD p 0).toNat < 128) : Utf8.decode ⟨l.toArray⟩ p = ((l.getD p 0).toNat, 1) := by
  unfold Utf8.decode
  simp only [Nat.add_zero, get!_list l p h]
  rw [if_pos hb]
theorem decode_hi {l : List UInt8} {p : Nat} (h : p < l.length) (hb : ¬ (l.getD p 0).toNat < 128) : 128 ≤ (Utf8.decode ⟨l.toArray⟩ p).1 := by
  unfold Utf8.decode
  simp only [Nat.add_zero, get!_list l p h]
  rw [if_neg hb]
  have hr : Utf8.runeError = 65533 := rfl
  split
  · split <;> (simp only [] at *; omega)
  · split
    · split
      · rename_i hc; simp only [Bool.and_eq_true, decide_eq_true_eq] at hc; simp only []; omega
      · simp only []; omega
    · split
      · split
        · rename_i hc; simp only [Bool.and_eq_true, decide_eq_true_eq] at hc; simp only []; omega
        · simp only []; omega
      · simp only []; omega
/-- A rune below 128 is a byte. -/
theorem decode_cases {l : List UInt8} {p : Nat} (h : p < l.length) : (Utf8.decode ⟨l.toArray⟩ p = ((l.getD p 0).toNat, 1) ∧ (l.getD p 0).toNat < 128) ∨ (128 ≤ (Utf8.decode ⟨l.toArray⟩ p).1 ∧ 128 ≤ (l.getD p 0).toNat) := by
  by_cases hb : (l.getD p 0).toNat < 128
  · exact .inl ⟨decode_lo h hb, hb⟩
  · exact .inr ⟨decode_hi h hb, by omega⟩
theorem take_succ_getD {l : List UInt8} {i : Nat} (h : i < l.length) : l.take (i + 1) = l.take i ++ [l.getD i 0] := by
  rw [List.take_add_one, List.getD_eq_getElem?_getD, List.getElem?_eq_getElem h]; rfl
theorem all_take_succ {p : UInt8 → Bool} {l : List UInt8} {i : Nat} (h : i < l.length) : (l.take (i + 1)).all p = ((l.take i).all p && p (l.getD i 0)) := by
  rw [take_succ_getD h, List.all_append]; simp
theorem not_all_of {p : UInt8 → Bool} {l : List UInt8} {i : Nat} (h : i < l.length) (hp : p (l.getD i 0) = false) : l.all p = false := by
  rw [List.all_eq_false]
  refine ⟨l.getD i 0, ?_, by rw [hp]; decide⟩
  rw [List.getD_eq_getElem?_getD, List.getElem?_eq_getElem h]; exact List.getElem_mem h
theorem worth_take_succ {l : List UInt8} {i : Nat} (h : i < l.length) : worth (l.take (i + 1)) = 10 * worth (l.take i) + ((l.getD i 0).toNat - 48) := by
  rw [take_succ_getD h, worth_snoc]
theorem dig_at {l : List UInt8} {i : Nat} (h : i < l.length) (hd : allDig l = true) : 48 ≤ (l.getD i 0).toNat ∧ (l.getD i 0).toNat ≤ 57 := by
  refine allDig_iff.1 hd _ ?_
  rw [List.getD_eq_getElem?_getD, List.getElem?_eq_getElem h]; exact List.getElem_mem h
theorem allDig_take {l : List UInt8} (h : allDig l = true) (i : Nat) : allDig (l.take i) = true :=
  allDig_iff.2 fun c hc => allDig_iff.1 h c (List.mem_of_mem_take hc)
theorem allDig_drop {l : List UInt8} (h : allDig l = true) (i : Nat) : allDig (l.drop i) = true :=
  allDig_iff.2 fun c hc => allDig_iff.1 h c (List.mem_of_mem_drop hc)
theorem worth_take_lt {l : List UInt8} (h : allDig l = true) (i : Nat) : worth (l.take i) < 10 ^ i := by
  refine Nat.lt_of_lt_of_le (worth_lt (allDig_take h i)) (Nat.pow_le_pow_right (by omega) ?_)
  rw [List.length_take]; omega
theorem worth_take_le {l : List UInt8} (h : allDig l = true) {i n : Nat} (hi : i ≤ n) : worth (l.take i) < 10 ^ n :=
  Nat.lt_of_lt_of_le (worth_take_lt h i) (Nat.pow_le_pow_right (by omega) hi)
theorem allDig_take_succ {l : List UInt8} {i : Nat} (h : i < l.length) (hd : allDig (l.take i) = true) (h1 : 48 ≤ (l.getD i 0).toNat) (h2 : (l.getD i 0).toNat ≤ 57) : allDig (l.take (i + 1)) = true := by
  unfold allDig at hd ⊢
  rw [all_take_succ h, hd, Bool.true_and, isDig_iff]; exact ⟨h1, h2⟩
end Go.Pl

/- Runes that are gone over, in bytes. -/
namespace Go.Vc.Z
open Go Go.Vc Go.Proofs Go.Pl
/-- A rune is a byte below 128, or stands for one above. -/
theorem rune_cases {l : List UInt8} {p : Nat} (h : p < l.length) : (runeAt l p = ((l.getD p 0).toNat : Int) ∧ runeW l p = 1 ∧ (l.getD p 0).toNat < 128) ∨ (128 ≤ runeAt l p ∧ 128 ≤ (l.getD p 0).toNat) := by
  rcases decode_cases h with ⟨h1, h2⟩ | ⟨h1, h2⟩
  · exact .inl ⟨by rw [runeAt_eq, h1], by rw [runeW_eq, h1], h2⟩
  · exact .inr ⟨by rw [runeAt_eq]; omega, h2⟩
end Go.Vc.Z

/- Numbers: texts; the document's. -/
namespace Go.Vc.Z
open Go Go.Vc Go.Proofs Go.RowKit Go.Pl Go.Lib
noncomputable section
set_option maxRecDepth 100000
set_option linter.unusedSimpArgs false
set_option linter.unusedVariables false
attribute [local irreducible] inK Utf8.decode Utf8.encode Lib.itoa Pl.worth Pl.allDig
/-- The number of a text, and what is wrong. -/
@[irreducible] def numOf (s : List UInt8) : Int × Int :=
  if s.length = 13 ∧ allDig s = true then (if checkN (worth s) = 0 then ((worth s : Int), 0) else (0, checkN (worth s))) else (0, 4)
/-! ### The document's -/
def pcDigits : PC := PC.fun fun | [.int .u64 n] => some (True, .str (sS (decDigits n.toNat))) | _ => none
def LDigits (n0 : Int) : LoopSpec := {
  α := Nat × List UInt8
  keep := [0, 3]
  vals x := [.int .u64 x.1, .str x.2]
  heap _ := []
  ok x := x.1 ≤ n0.toNat ∧ (if x.1 = 0 ∧ x.2 ≠ [] then x.2 else decDigits x.1 ++ x.2) = decDigits n0.toNat
  μ x := 2 * x.1 + if x.2 = [] then 1 else 0 }
theorem digits_step {n : Nat} {s : List UInt8} (h : 0 < n ∨ s = []) : (if n / 10 = 0 ∧ UInt8.ofNat (48 + n % 10) :: s ≠ [] then UInt8.ofNat (48 + n % 10) :: s else decDigits (n / 10) ++ (UInt8.ofNat (48 + n % 10) :: s)) = if n = 0 ∧ s ≠ [] then s else decDigits n ++ s := by
  by_cases hn : n < 10
  · rw [if_pos ⟨by omega, by simp⟩, if_neg, dec_small hn]
    · rfl
    · rintro ⟨h1, h2⟩
      rcases h with h | h
      · omega
      · exact h2 h
  · rw [if_neg (fun h => by omega), if_neg (fun h => by omega), dec_big (u := n) (by omega), List.append_assoc]; rfl
def D_couponref10_Digits : PT := tabD []
def C_couponref10_Digits : FuncId → Option Ctr := tabC D_couponref10_Digits []
def L_couponref10_Digits : List AV → Nat → Option LR := fun cs i => match cs with | [.int .u64 n] => cond (Nat.beq i 2) (some (.inv (LDigits n))) (none) | _ => none
theorem g_couponref10_Digits {W : World} (hW : Tabs W) : GoodP (Fw W) Tryz.prog 81 pcDigits := by
  have hD : PTOk (Fw W) Tryz.prog D_couponref10_Digits := tabD_nil
  have hC0 : CtrOk (Fw W) Tryz.prog C_couponref10_Digits := (tabC_nil hD)
  refine goodP_fun (D := D_couponref10_Digits) (C := C_couponref10_Digits) (wr := (fun _ => false)) rfl tyOk hD hC0 Tryz.func81 (L_couponref10_Digits) ?_
  clear hC0 hD hW
  intro cs p r h hf hp
  split at h
  case h_2 => cases h
  rename_i n
  cases h
  try simp only [factL, factA, inK_def, Go.Vc.lo, Go.Vc.hi, and_true] at hf
  (conv => whnf)
  all_goals (try (show _ = _; simp only [wQ]))
  refine ⟨?_, fun (x : Nat × List UInt8) (hx : x.1 ≤ n.toNat ∧ (if x.1 = 0 ∧ x.2 ≠ [] then x.2 else decDigits x.1 ++ x.2) = decDigits n.toNat) => ?_⟩
  · (conv => whnf)
    refine ⟨((n.toNat, []) : Nat × List UInt8), [], ?_, ⟨⟨rfl, Nat.le_of_ble_eq_true rfl, rfl⟩, ?_, ?_⟩⟩
    · exact ⟨Nat.le_refl _, by simp⟩
    · (conv => whnf)
      (repeat' ((first | with_reducible exact True.intro | ((with_reducible refine And.intro ?_ ?_); focus (first | with_reducible rfl | omega | exact Nat.le_of_ble_eq_true rfl | rfl)) | with_reducible refine And.intro (?_ : leA _ _ _) ?_ | fail) <;> (conv => whnf)))
      all_goals (try simp only [wQ])
      all_goals (try first | omega)
    · (conv => whnf)
      (repeat' ((first | with_reducible exact True.intro | fail) <;> (conv => whnf)))
      all_goals (try simp only [wQ])
  · obtain ⟨h1, h2⟩ := hx
    have hl : x.2.length ≤ 30 := by
      have := congrArg List.length h2
      have h20 : (decDigits n.toNat).length ≤ 30 := by rw [decDigits_length]; exact Nat.le_trans (nDigits_le 29 _ (by omega)) (by omega)
      split at this <;> (try simp at this) <;> omega
    (conv => whnf)
    (repeat' ((first
      | ((with_reducible refine And.intro ?_ ?_); focus (first | omega | (intro e he; rcases (by omega : e = 0 ∨ e = 1 ∨ e = 2) with rfl | rfl | rfl <;> first | rfl | (exfalso; omega)) | (simp only [inK_def, Go.Vc.lo, Go.Vc.hi]; omega) | (simp only [List.length_append, bytesOf_length, List.toList_toArray, List.length_cons, List.length_nil, List.length_take, List.length_drop, sS_eq]; omega)))
      | (split <;> rename_i hh <;> (try simp only [wS] at hh) <;> (try simp (disch := omega) only [Int.tdiv_eq_ediv_of_nonneg, Int.tmod_eq_emod_of_nonneg] at hh))
      | fail) <;> (conv => whnf)))
    all_goals (try (show _ = _; simp only [wQ]))
    · (conv => whnf)
      refine ⟨((x.1 / 10, UInt8.ofNat (48 + x.1 % 10) :: x.2) : Nat × List UInt8), [], ?_, ⟨⟨rfl, Nat.le_of_ble_eq_true rfl, rfl⟩, ?_, ?_⟩⟩
      · refine ⟨⟨show x.1 / 10 ≤ n.toNat by omega, (digits_step (n := x.1) (s := x.2) (.inl (by omega))).trans h2⟩, ?_⟩
        show 2 * (x.1 / 10) + (if UInt8.ofNat (48 + x.1 % 10) :: x.2 = [] then 1 else 0) < 2 * x.1 + (if x.2 = [] then 1 else 0)
        rw [if_neg (by simp)]; omega
      · exact leL_rfl _
      · (conv => whnf)
        (repeat' ((first | with_reducible exact True.intro | fail) <;> (conv => whnf)))
        all_goals (try simp only [wQ])
    · (conv => whnf)
      refine ⟨((x.1 / 10, UInt8.ofNat (48 + x.1 % 10) :: x.2) : Nat × List UInt8), [], ?_, ⟨⟨rfl, Nat.le_of_ble_eq_true rfl, rfl⟩, ?_, ?_⟩⟩
      · refine ⟨⟨show x.1 / 10 ≤ n.toNat by omega, (digits_step (n := x.1) (s := x.2) (.inr (by assumption))).trans h2⟩, ?_⟩
        show 2 * (x.1 / 10) + (if UInt8.ofNat (48 + x.1 % 10) :: x.2 = [] then 1 else 0) < 2 * x.1 + (if x.2 = [] then 1 else 0)
        rw [if_neg (by simp), if_pos (by assumption)]; omega
      · exact leL_rfl _
      · (conv => whnf)
        (repeat' ((first | with_reducible exact True.intro | fail) <;> (conv => whnf)))
        all_goals (try simp only [wQ])
    · have h0 : x.1 = 0 := by omega
      rw [← h2, if_pos ⟨h0, by assumption⟩]
end
end Go.Vc.Z

/- Numbers: the document's, and locators. -/
namespace Go.Vc.Z
open Go Go.Vc Go.Proofs Go.RowKit Go.Pl Go.Lib
noncomputable section
set_option maxRecDepth 100000
set_option linter.unusedSimpArgs false
set_option linter.unusedVariables false
attribute [local irreducible] inK Utf8.decode Utf8.encode Lib.itoa Pl.worth Pl.allDig
def pcWorth : PC := PC.fun fun | [.str s] => some (allDig s = true ∧ s.length ≤ 19, .int .u64 (sI (worth s))) | _ => none
def LWorth (s : List UInt8) : LoopSpec := {
  α := Nat
  keep := [0, 3, 4]
  vals i := [.str s, .int .u64 (sI (worth (s.take i))), .int .i64 i]
  heap _ := []
  ok i := i ≤ s.length
  μ i := s.length - i }
def D_couponref10_worth : PT := tabD []
def C_couponref10_worth : FuncId → Option Ctr := tabC D_couponref10_worth []
def L_couponref10_worth : List AV → Nat → Option LR := fun cs i => match cs with | [.str s] => cond (Nat.beq i 3) (some (.inv (LWorth s))) (none) | _ => none
theorem g_couponref10_worth {W : World} (hW : Tabs W) : GoodP (Fw W) Tryz.prog 174 pcWorth := by
  have hD : PTOk (Fw W) Tryz.prog D_couponref10_worth := tabD_nil
  have hC0 : CtrOk (Fw W) Tryz.prog C_couponref10_worth := (tabC_nil hD)
  refine goodP_fun (D := D_couponref10_worth) (C := C_couponref10_worth) (wr := (fun _ => false)) rfl tyOk hD hC0 Tryz.func174 (L_couponref10_worth) ?_
  clear hC0 hD hW
  intro cs p r h hf hp
  split at h
  case h_2 => cases h
  rename_i s
  cases h
  try simp only [factL, factA, inK_def, Go.Vc.lo, Go.Vc.hi, and_true] at hf
  obtain ⟨hd, hl⟩ := hp
  (conv => whnf)
  all_goals (try (show _ = _; simp only [wQ]))
  refine ⟨?_, fun (i : Nat) (hi : i ≤ s.length) => ?_⟩
  · (conv => whnf)
    refine ⟨(0 : Nat), [], ?_, ⟨⟨rfl, Nat.le_of_ble_eq_true rfl, rfl⟩, ?_, ?_⟩⟩
    · exact Nat.zero_le _
    · (conv => whnf)
      (repeat' ((first | with_reducible exact True.intro | ((with_reducible refine And.intro ?_ ?_); focus (first | with_reducible rfl | omega | exact Nat.le_of_ble_eq_true rfl | rfl)) | with_reducible refine And.intro (?_ : leA _ _ _) ?_ | fail) <;> (conv => whnf)))
      all_goals (try simp only [wQ])
      all_goals (try first | omega)
      simp [worth]
    · (conv => whnf)
      (repeat' ((first | with_reducible exact True.intro | fail) <;> (conv => whnf)))
      all_goals (try simp only [wQ])
  · have hw := worth_take_le hd hi
    have hw2 : 10 ^ s.length ≤ 10 ^ 19 := Nat.pow_le_pow_right (by omega) hl
    have hdig : i < s.length → 48 ≤ (s.getD (Int.toNat (i : Int)) 0).toNat ∧ (s.getD (Int.toNat (i : Int)) 0).toNat ≤ 57 := fun h => dig_at h hd
    have hw3 : i < s.length → worth (s.take (i + 1)) = 10 * worth (s.take i) + ((s.getD (Int.toNat (i : Int)) 0).toNat - 48) := fun h => worth_take_succ h
    have hw5 : i < s.length → worth (s.take (i + 1)) < 10 ^ s.length := fun h => worth_take_le hd (by omega)
    have hsi := sI_eq (worth (s.take i))
    (conv => whnf)
    (repeat' ((first
      | ((with_reducible refine And.intro ?_ ?_); focus (first | with_reducible rfl | omega | (simp only [inK_def, Go.Vc.lo, Go.Vc.hi]; omega)))
      | (split <;> rename_i hh <;> (try simp only [wS] at hh) <;> (try simp (disch := omega) only [Int.tdiv_eq_ediv_of_nonneg, Int.tmod_eq_emod_of_nonneg] at hh))
      | with_reducible refine (fun (hln : (_ : Int) ≤ 9223372036854775807) => ?_)
      | fail) <;> (conv => whnf)))
    all_goals (try (show _ = _; simp only [wQ]))
    · (conv => whnf)
      refine ⟨(i + 1 : Nat), [], ?_, ⟨⟨rfl, Nat.le_of_ble_eq_true rfl, rfl⟩, ?_, ?_⟩⟩
      · exact ⟨show i + 1 ≤ s.length by omega, show s.length - (i + 1) < s.length - i by omega⟩
      · (conv => whnf)
        (repeat' ((first | with_reducible exact True.intro | ((with_reducible refine And.intro ?_ ?_); focus (first | with_reducible rfl | omega | exact Nat.le_of_ble_eq_true rfl | rfl)) | with_reducible refine And.intro (?_ : leA _ _ _) ?_ | fail) <;> (conv => whnf)))
        all_goals (try simp only [wQ])
        all_goals (try first | omega)
      · (conv => whnf)
        (repeat' ((first | with_reducible exact True.intro | fail) <;> (conv => whnf)))
        all_goals (try simp only [wQ])
    · rw [List.take_of_length_le (by omega)]
def pcDigit : PC := PC.fun fun | [.str s] => some (allDig s = true, .int .u8 (sI ((48 + worth s % 7 : Nat) : Int))) | _ => none
def LDigit (s : List UInt8) : LoopSpec := {
  α := Nat
  keep := [0, 3, 4]
  vals i := [.str s, .int .i64 (sI ((worth (s.take i) % 7 : Nat) : Int)), .int .i64 i]
  heap _ := []
  ok i := i ≤ s.length
  μ i := s.length - i }
def D_couponref10_digit : PT := tabD []
def C_couponref10_digit : FuncId → Option Ctr := tabC D_couponref10_digit []
def L_couponref10_digit : List AV → Nat → Option LR := fun cs i => match cs with | [.str s] => cond (Nat.beq i 3) (some (.inv (LDigit s))) (none) | _ => none
theorem g_couponref10_digit {W : World} (hW : Tabs W) : GoodP (Fw W) Tryz.prog 173 pcDigit := by
  have hD : PTOk (Fw W) Tryz.prog D_couponref10_digit := tabD_nil
  have hC0 : CtrOk (Fw W) Tryz.prog C_couponref10_digit := (tabC_nil hD)
  refine goodP_fun (D := D_couponref10_digit) (C := C_couponref10_digit) (wr := (fun _ => false)) rfl tyOk hD hC0 Tryz.func173 (L_couponref10_digit) ?_
  clear hC0 hD hW
  intro cs p r h hf hp
  split at h
  case h_2 => cases h
  rename_i s
  cases h
  try simp only [factL, factA, inK_def, Go.Vc.lo, Go.Vc.hi, and_true] at hf
  (conv => whnf)
  all_goals (try (show _ = _; simp only [wQ]))
  refine ⟨?_, fun (i : Nat) (hi : i ≤ s.length) => ?_⟩
  · (conv => whnf)
    refine ⟨(0 : Nat), [], ?_, ⟨⟨rfl, Nat.le_of_ble_eq_true rfl, rfl⟩, ?_, ?_⟩⟩
    · exact Nat.zero_le _
    · (conv => whnf)
      (repeat' ((first | with_reducible exact True.intro | ((with_reducible refine And.intro ?_ ?_); focus (first | with_reducible rfl | omega | exact Nat.le_of_ble_eq_true rfl | rfl)) | with_reducible refine And.intro (?_ : leA _ _ _) ?_ | fail) <;> (conv => whnf)))
      all_goals (try simp only [wQ])
      all_goals (try first | omega)
      simp [worth]
    · (conv => whnf)
      (repeat' ((first | with_reducible exact True.intro | fail) <;> (conv => whnf)))
      all_goals (try simp only [wQ])
  · have hdig : i < s.length → 48 ≤ (s.getD (Int.toNat (i : Int)) 0).toNat ∧ (s.getD (Int.toNat (i : Int)) 0).toNat ≤ 57 := fun h => dig_at h hp
    have hw3 : i < s.length → worth (s.take (i + 1)) = 10 * worth (s.take i) + ((s.getD (Int.toNat (i : Int)) 0).toNat - 48) := fun h => worth_take_succ h
    have hsi := sI_eq ((worth (s.take i) % 7 : Nat) : Int)
    (conv => whnf)
    (repeat' ((first
      | ((with_reducible refine And.intro ?_ ?_); focus (first | with_reducible rfl | omega | (simp only [inK_def, Go.Vc.lo, Go.Vc.hi]; omega)))
      | (split <;> rename_i hh <;> (try simp only [wS] at hh) <;> (try simp (disch := omega) only [Int.tdiv_eq_ediv_of_nonneg, Int.tmod_eq_emod_of_nonneg] at hh))
      | with_reducible refine (fun (hln : (_ : Int) ≤ 9223372036854775807) => ?_)
      | fail) <;> (conv => whnf)))
    all_goals (try (show _ = _; simp only [wQ]))
    · (conv => whnf)
      refine ⟨(i + 1 : Nat), [], ?_, ⟨⟨rfl, Nat.le_of_ble_eq_true rfl, rfl⟩, ?_, ?_⟩⟩
      · exact ⟨show i + 1 ≤ s.length by omega, show s.length - (i + 1) < s.length - i by omega⟩
      · (conv => whnf)
        (repeat' ((first | with_reducible exact True.intro | ((with_reducible refine And.intro ?_ ?_); focus (first | with_reducible rfl | omega | exact Nat.le_of_ble_eq_true rfl | rfl)) | with_reducible refine And.intro (?_ : leA _ _ _) ?_ | fail) <;> (conv => whnf)))
        all_goals (try simp only [wQ])
        all_goals (try first | omega)
        rw [hw3 (by omega)]
        rw [Int.tmod_eq_emod_of_nonneg (by omega)]
        omega
      · (conv => whnf)
        (repeat' ((first | with_reducible exact True.intro | fail) <;> (conv => whnf)))
        all_goals (try simp only [wQ])
    · rw [List.take_of_length_le (by omega)]; omega
theorem worth_split13 {s : List UInt8} (h : s.length = 13) : worth s = 10 * worth (s.take 12) + ((s.getD 12 0).toNat - 48) := by
  rw [← worth_take_succ (by omega), List.take_of_length_le (by omega)]
theorem checkN_ne2 {n : Int} (h0 : 1000000000000 ≤ n) (h1 : n ≤ 9999999999999) : checkN n = if n / 10 % 7 = n % 10 then 0 else 11 := by
  unfold checkN; rw [if_neg (by omega)]
theorem checkN_lo {n : Int} (h0 : n < 1000000000000) : checkN n = 2 := by
  unfold checkN; rw [if_pos (.inl h0)]
theorem worth_head {s : List UInt8} (h : s.length = 13) (hd : allDig s = true) : worth s = ((s.getD 0 0).toNat - 48) * 1000000000000 + worth (s.drop 1) ∧ worth (s.drop 1) < 1000000000000 := by
  match s, h with
  | c :: t, h =>
    have ht : t.length = 12 := by simpa using h
    have h1 := worth_lt (allDig_drop hd 1)
    have h2 := worth_cons c t
    simp only [List.drop_succ_cons, List.drop_zero, ht] at h1 ⊢
    rw [ht] at h2
    exact ⟨h2, h1⟩
def LROf (s : List UInt8) : LoopSpec := {
  α := Nat
  keep := [0, 4]
  vals i := [.str s, .int .i64 i]
  heap _ := []
  ok i := i ≤ 13 ∧ allDig (s.take i) = true
  μ i := 13 - i }
def pcROf : PC := PC.fun fun | [.str s] => some (True, .tup [.int .u64 (sI (numOf s).1), .int .i64 (sI (numOf s).2)]) | _ => none
def D_couponref10_Of : PT := tabD [(173, pcDigit), (174, pcWorth)]
def C_couponref10_Of : FuncId → Option Ctr := tabC D_couponref10_Of []
def L_couponref10_Of : List AV → Nat → Option LR := fun cs i => match cs with | [.str s] => cond (Nat.beq i 4) (some (.inv (LROf s))) (none) | _ => none
theorem g_couponref10_Of {W : World} (hW : Tabs W) : GoodP (Fw W) Tryz.prog 88 pcROf := by
  have hD : PTOk (Fw W) Tryz.prog D_couponref10_Of := (tabD_cons Tryz.call173 (g_couponref10_digit hW) (tabD_cons Tryz.call174 (g_couponref10_worth hW) tabD_nil))
  have hC0 : CtrOk (Fw W) Tryz.prog C_couponref10_Of := (tabC_nil hD)
  refine goodP_fun (D := D_couponref10_Of) (C := C_couponref10_Of) (wr := (fun _ => false)) rfl tyOk hD hC0 Tryz.func88 (L_couponref10_Of) ?_
  clear hC0 hD hW
  intro cs p r h hf hp
  split at h
  case h_2 => cases h
  rename_i s
  cases h
  try simp only [factL, factA, inK_def, Go.Vc.lo, Go.Vc.hi, and_true] at hf
  (conv => whnf)
  (repeat' ((first
    | with_reducible exact True.intro
    | ((with_reducible refine And.intro ?_ ?_); focus (with_reducible rfl))
    | (split <;> rename_i hh <;> (try simp only [wS] at hh) <;> (try simp (disch := omega) only [Int.tdiv_eq_ediv_of_nonneg, Int.tmod_eq_emod_of_nonneg] at hh))
    | with_reducible refine (fun (hln : (_ : Int) ≤ 9223372036854775807) => ?_)
    | with_reducible refine And.intro (?_ : leA _ _ _) ?_
    | fail) <;> (conv => whnf)))
  all_goals (try (show _ = _; simp only [wQ]))
  · have hx : numOf s = (0, 4) := by
      unfold numOf; rw [if_neg]; rintro ⟨h1, _⟩; omega
    rw [hx]
  · have hx : numOf s = (0, 4) := by
      unfold numOf; rw [if_neg]; rintro ⟨h1, _⟩; omega
    rw [hx]
  · have hl : s.length = 13 := by omega
    refine ⟨?_, fun (i : Nat) (hi : i ≤ 13 ∧ allDig (s.take i) = true) => ?_⟩
    · (conv => whnf)
      refine ⟨(0 : Nat), [], ?_, ⟨⟨rfl, Nat.le_of_ble_eq_true rfl, rfl⟩, ?_, ?_⟩⟩
      · exact ⟨Nat.zero_le _, by simp [allDig]⟩
      · exact leL_rfl _
      · (conv => whnf)
        (repeat' ((first | with_reducible exact True.intro | fail) <;> (conv => whnf)))
        all_goals (try simp only [wQ])
    · obtain ⟨h1, h2⟩ := hi
      have ei : (s.getD (Int.toNat (i : Int)) 0).toNat = (s.getD i 0).toNat := rfl
      have hbad : i < 13 → ¬ (48 ≤ (s.getD (Int.toNat (i : Int)) 0).toNat ∧ (s.getD (Int.toNat (i : Int)) 0).toNat ≤ 57) → numOf s = (0, 4) := fun h hc => by
        unfold numOf; rw [if_neg]; rintro ⟨_, h3⟩
        exact hc (dig_at (by omega) h3)
      have hdg : 13 ≤ i → allDig s = true := fun h => by rwa [List.take_of_length_le (by omega)] at h2
      have hdd : 13 ≤ i → allDig ((s.drop 0).take (Int.toNat 12 - 0)) = true := fun h => allDig_take (hdg h) 12
      have hh0 : 13 ≤ i → ((s.getD (Int.toNat 0) 0).toNat : Int) = 48 → numOf s = (0, 2) := fun h h3 => by
        obtain ⟨h4, h5⟩ := worth_head hl (hdg h)
        have h3 : (s.getD 0 0).toNat = 48 := Int.ofNat.inj h3
        have h6 : checkN (worth s) = 2 := checkN_lo (by rw [h3] at h4; omega)
        unfold numOf; rw [if_pos ⟨hl, hdg h⟩, h6]; rfl
      have hfin : 13 ≤ i → ¬ ((s.getD (Int.toNat 0) 0).toNat : Int) = 48 → numOf s = if (48 + (worth ((s.drop 0).take (Int.toNat 12 - 0)) : Int) % 7) = ((s.getD (Int.toNat 12) 0).toNat : Int) then ((worth s : Int), 0) else (0, 11) := fun h h3 => by
        obtain ⟨h4, h5⟩ := worth_head hl (hdg h)
        have h3 : ¬ (s.getD 0 0).toNat = 48 := fun h => h3 (congrArg Int.ofNat h)
        have h7 := dig_at (l := s) (i := 0) (by omega) (hdg h)
        have h8 := worth_split13 hl
        have h9 := dig_at (l := s) (i := 12) (by omega) (hdg h)
        have h10 := worth_lt (hdg h)
        rw [hl] at h10
        have e : (s.drop 0).take (Int.toNat 12 - 0) = s.take 12 := rfl
        have e2 : s.getD (Int.toNat 12) 0 = s.getD 12 0 := rfl
        rw [e, e2]
        have a1 : (worth s : Int) / 10 = worth (s.take 12) := by omega
        have a2 : (worth s : Int) % 10 = (s.getD 12 0).toNat - 48 := by omega
        unfold numOf; rw [if_pos ⟨hl, hdg h⟩, checkN_ne2 (by omega) (by omega), a1, a2]
        by_cases hc : (48 + (worth (s.take 12) : Int) % 7) = ((s.getD 12 0).toNat : Int)
        · rw [if_pos (by omega), if_pos hc]
        · rw [if_neg (by omega), if_neg hc, if_neg (by omega)]
      (conv => whnf)
      (repeat' ((first
        | with_reducible exact True.intro
        | ((with_reducible refine And.intro ?_ ?_); focus (first | with_reducible rfl | omega | (simp only [inK_def, Go.Vc.lo, Go.Vc.hi]; omega)))
        | (split <;> rename_i hh <;> (try simp only [wS] at hh) <;> (try simp (disch := omega) only [Int.tdiv_eq_ediv_of_nonneg, Int.tmod_eq_emod_of_nonneg] at hh))
        | with_reducible refine And.intro (?_ : leA _ _ _) ?_
        | fail) <;> (conv => whnf)))
      all_goals (try (show _ = _; simp only [wQ]))
      all_goals try (rw [hbad (by omega) (by omega)]; done)
      all_goals try (rw [hh0 (by omega) (by assumption)]; done)
      · (conv => whnf)
        refine ⟨(i + 1 : Nat), [], ?_, ⟨⟨rfl, Nat.le_of_ble_eq_true rfl, rfl⟩, ?_, ?_⟩⟩
        · exact ⟨⟨show i + 1 ≤ 13 by omega, allDig_take_succ (by omega) h2 (by omega) (by omega)⟩, show 13 - (i + 1) < 13 - i by omega⟩
        · exact leL_rfl _
        · (conv => whnf)
          (repeat' ((first | with_reducible exact True.intro | fail) <;> (conv => whnf)))
          all_goals (try simp only [wQ])
      refine ⟨hdd (by omega), ?_⟩
      have hda := hdg (by omega)
      (conv => whnf)
      (repeat' ((first
        | with_reducible exact True.intro
        | ((with_reducible refine And.intro ?_ ?_); focus (first | ((with_reducible show okB _ _ _ = true); rfl) | with_reducible rfl | omega | ((with_reducible refine ⟨?_, ?_⟩) <;> first | with_reducible assumption | omega)))
        | (split <;> rename_i hh <;> (try simp only [wS] at hh) <;> (try simp (disch := omega) only [Int.tdiv_eq_ediv_of_nonneg, Int.tmod_eq_emod_of_nonneg] at hh))
        | with_reducible refine And.intro (?_ : leA _ _ _) ?_
        | fail) <;> (conv => whnf)))
      all_goals (try (show _ = _; simp only [wQ]))
      all_goals have hfi := hfin (by omega) (by assumption)
      all_goals first | (rw [hfi, if_neg (by omega)]; done) | (rw [hfi, if_pos (by omega)]; done) | trace_state
end
end Go.Vc.Z

/- Numbers: parts, locators, made ones. -/
namespace Go.Vc.Z
open Go Go.Vc Go.Proofs Go.RowKit Go.Pl Go.Lib
noncomputable section
set_option maxRecDepth 100000
set_option linter.unusedSimpArgs false
set_option linter.unusedVariables false
attribute [local irreducible] inK Utf8.decode Utf8.encode Lib.itoa Pl.worth Pl.allDig
theorem numOf_dec {n : Int} (h0 : 0 ≤ n) (h1 : n ≤ 18446744073709551615) : numOf (decDigits n.toNat) = if 1000000000000 ≤ n ∧ n ≤ 9999999999999 then (if checkN n = 0 then (n, 0) else (0, checkN n)) else (0, 4) := by
  unfold numOf
  have hw := worth_dec n.toNat
  have hl := dec_len_iff n.toNat 12 (by omega)
  by_cases h : 1000000000000 ≤ n ∧ n ≤ 9999999999999
  · rw [if_pos ⟨hl.2 (by omega), allDig_dec _⟩, if_pos h, hw, show ((n.toNat : Nat) : Int) = n by omega]
  · rw [if_neg (fun hh => h (by have := hl.1 hh.1; omega)), if_neg h]
def D_couponref10_Check : PT := tabD [(81, pcDigits), (88, pcROf)]
def C_couponref10_Check : FuncId → Option Ctr := tabC D_couponref10_Check []
theorem g_couponref10_Check {W : World} (hW : Tabs W) : GoodP (Fw W) Tryz.prog 135 pcCheck := by
  have hD : PTOk (Fw W) Tryz.prog D_couponref10_Check := (tabD_cons Tryz.call81 (g_couponref10_Digits hW) (tabD_cons Tryz.call88 (g_couponref10_Of hW) tabD_nil))
  have hC0 : CtrOk (Fw W) Tryz.prog C_couponref10_Check := (tabC_nil hD)
  refine goodP_fun (D := D_couponref10_Check) (C := C_couponref10_Check) (wr := (fun _ => false)) rfl tyOk hD hC0 Tryz.func135 (fun _ _ => none) ?_
  clear hC0 hD hW
  intro cs p r h hf hp
  split at h
  case h_2 => cases h
  rename_i n
  cases h
  try simp only [factL, factA, inK_def, Go.Vc.lo, Go.Vc.hi, and_true] at hf
  have hx := numOf_dec hf.1 hf.2
  have h2 : ¬ (1000000000000 ≤ n ∧ n ≤ 9999999999999) → checkN n = 2 := fun h => by unfold checkN; rw [if_pos (by omega)]
  have h3 : (1000000000000 ≤ n ∧ n ≤ 9999999999999) → checkN n ≠ 4 := fun h => by rw [checkN_ne2 h.1 h.2]; split <;> omega
  have h4 : (numOf (decDigits n.toNat)).2 = 4 → checkN n = 2 := fun h => by
    rw [hx] at h
    by_cases hc : 1000000000000 ≤ n ∧ n ≤ 9999999999999
    · rw [if_pos hc] at h; split at h
      · cases h
      · exact absurd h (h3 hc)
    · exact h2 hc
  have h5 : ¬ (numOf (decDigits n.toNat)).2 = 4 → (numOf (decDigits n.toNat)).2 = checkN n := fun h => by
    rw [hx] at h ⊢
    by_cases hc : 1000000000000 ≤ n ∧ n ≤ 9999999999999
    · rw [if_pos hc]; split
      · rename_i h6; exact h6.symm
      · rfl
    · rw [if_neg hc] at h; exact absurd rfl h
  (conv => whnf)
  (repeat' ((first
    | ((with_reducible refine And.intro ?_ ?_); focus (first | with_reducible exact True.intro | with_reducible rfl))
    | (split <;> rename_i hh <;> (try simp only [wS] at hh) <;> (try simp (disch := omega) only [Int.tdiv_eq_ediv_of_nonneg, Int.tmod_eq_emod_of_nonneg] at hh))
    | fail) <;> (conv => whnf)))
  all_goals (try (show _ = _; simp only [wQ]))
  · exact h5 (by assumption)
  · rw [h4 (by assumption)]
theorem parts_dec {n : Int} (h : checkN n = 0) : carrierN n = worth ((decDigits n.toNat).take 3) ∧ serialN n = worth (((decDigits n.toNat).drop 3).take 9) ∧ (decDigits n.toNat).length = 13 := by
  obtain ⟨h0, h1⟩ := checkN_zero h
  have hl := (dec_len_iff n.toNat 12 (by omega)).2 (by omega)
  have hw := worth_dec n.toNat
  have hd := allDig_dec n.toNat
  generalize decDigits n.toNat = s at hl hw hd
  have e1 := worth_append (s.take 3) (s.drop 3)
  have e2 := worth_append ((s.drop 3).take 9) ((s.drop 3).drop 9)
  rw [List.take_append_drop] at e1 e2
  have l1 : (s.drop 3).length = 10 := by simp [hl]
  have l2 : ((s.drop 3).drop 9).length = 1 := by simp [hl]
  rw [l1] at e1
  rw [l2] at e2
  have b1 := worth_lt (allDig_drop hd 3)
  have b2 := worth_lt (allDig_drop (allDig_drop hd 3) 9)
  have b3 := worth_lt (allDig_take (allDig_drop hd 3) 9)
  have l3 : ((s.drop 3).take 9).length = 9 := by simp [hl]
  rw [l1] at b1
  rw [l2] at b2
  rw [l3] at b3
  unfold carrierN serialN
  rw [if_pos h, if_pos h]
  refine ⟨?_, ?_, by omega⟩ <;> omega
def D_couponref10_Parts : PT := tabD [(135, pcCheck), (81, pcDigits), (174, pcWorth)]
def C_couponref10_Parts : FuncId → Option Ctr := tabC D_couponref10_Parts []
theorem g_couponref10_Parts {W : World} (hW : Tabs W) : GoodP (Fw W) Tryz.prog 210 pcParts := by
  have hD : PTOk (Fw W) Tryz.prog D_couponref10_Parts := (tabD_cons Tryz.call135 (g_couponref10_Check hW) (tabD_cons Tryz.call81 (g_couponref10_Digits hW) (tabD_cons Tryz.call174 (g_couponref10_worth hW) tabD_nil)))
  have hC0 : CtrOk (Fw W) Tryz.prog C_couponref10_Parts := (tabC_nil hD)
  refine goodP_fun (D := D_couponref10_Parts) (C := C_couponref10_Parts) (wr := (fun _ => false)) rfl tyOk hD hC0 Tryz.func210 (fun _ _ => none) ?_
  clear hC0 hD hW
  intro cs p r h hf hp
  split at h
  case h_2 => cases h
  rename_i n
  cases h
  try simp only [factL, factA, inK_def, Go.Vc.lo, Go.Vc.hi, and_true] at hf
  have hp : checkN n = 0 → _ := parts_dec (n := n)
  have h1 : ¬ checkN n = 0 → carrierN n = 0 ∧ serialN n = 0 := fun h => by unfold carrierN serialN; rw [if_neg h, if_neg h]; exact ⟨rfl, rfl⟩
  have hl : checkN n = 0 → (sS (decDigits n.toNat)).length = 13 := fun h => by rw [sS_eq]; exact (parts_dec h).2.2
  have hd : allDig (sS (decDigits n.toNat)) = true := by rw [sS_eq]; exact allDig_dec _
  have w1 : worth (((sS (decDigits n.toNat)).drop 0).take (Int.toNat 3 - 0)) < 10 ^ 3 := worth_take_le (by simpa using hd) (by decide)
  have w2 : worth (((sS (decDigits n.toNat)).drop (Int.toNat 3)).take (Int.toNat 12 - Int.toNat 3)) < 10 ^ 9 := worth_take_le (allDig_drop hd _) (by decide)
  have s1 := sI_eq (worth (((sS (decDigits n.toNat)).drop 0).take (Int.toNat 3 - 0)))
  have s2 := sI_eq (worth (((sS (decDigits n.toNat)).drop (Int.toNat 3)).take (Int.toNat 12 - Int.toNat 3)))
  (conv => whnf)
  (repeat' ((first
    | with_reducible exact True.intro
    | ((with_reducible refine And.intro ?_ ?_); focus (first | with_reducible exact True.intro | with_reducible rfl | omega))
    | (split <;> rename_i hh <;> (try simp only [wS] at hh) <;> (try simp (disch := omega) only [Int.tdiv_eq_ediv_of_nonneg, Int.tmod_eq_emod_of_nonneg] at hh))
    | with_reducible refine And.intro (?_ : leA _ _ _) ?_
    | fail) <;> (conv => whnf)))
  all_goals (try (show _ = _; simp only [wQ]))
  · rw [(h1 (by assumption)).1]
  · rw [(h1 (by assumption)).2]
  · have hl := hl (by assumption)
    have l1 : (((sS (decDigits n.toNat)).drop 0).take (Int.toNat 3 - 0)).length ≤ 19 := by rw [List.length_take]; simp; omega
    have l2 : (((sS (decDigits n.toNat)).drop (Int.toNat 3)).take (Int.toNat 12 - Int.toNat 3)).length ≤ 19 := by rw [List.length_take, List.length_drop, hl]; decide
    have d1 : allDig (((sS (decDigits n.toNat)).drop 0).take (Int.toNat 3 - 0)) = true := allDig_take (by simpa using hd) _
    have d2 : allDig (((sS (decDigits n.toNat)).drop (Int.toNat 3)).take (Int.toNat 12 - Int.toNat 3)) = true := allDig_take (allDig_drop hd _) _
    (conv => whnf)
    (repeat' ((first
      | with_reducible exact True.intro
      | ((with_reducible refine And.intro ?_ ?_); focus (first | ((with_reducible show okB _ _ _ = true); rfl) | with_reducible rfl | omega | ((with_reducible refine ⟨?_, ?_⟩) <;> first | with_reducible assumption | omega) | (simp only [inK_def, Go.Vc.lo, Go.Vc.hi]; omega)))
      | with_reducible refine And.intro (?_ : leA _ _ _) ?_
      | fail) <;> (conv => whnf)))
    all_goals (try (show _ = _; simp only [wQ]))
    · exact (hp (by assumption)).1.symm
    · exact (hp (by assumption)).2.1.symm
def isLoc (c : UInt8) : Bool := (decide (65 ≤ c.toNat) && decide (c.toNat ≤ 90)) || (decide (50 ≤ c.toNat) && decide (c.toNat ≤ 57))
@[irreducible] def locOk (s : List UInt8) : Bool := s.all isLoc && decide (s.length = 6)
def pcLocator : PC := PC.fun fun | [.str s] => some (True, .bool (sB (locOk s))) | _ => none
def LLoc (s : List UInt8) : LoopSpec := {
  α := Nat
  keep := [0, 6]
  vals i := [.str s, .iter 0]
  heap i := [.iter s i]
  ok i := i ≤ s.length ∧ (s.take i).all isLoc = true
  μ i := s.length - i }
def D_number_Locator : PT := tabD []
def C_number_Locator : FuncId → Option Ctr := tabC D_number_Locator []
def L_number_Locator : List AV → Nat → Option LR := fun cs i => match cs with | [.str s] => cond (Nat.beq i 2) (some (.inv (LLoc s))) (none) | _ => none
theorem g_number_Locator {W : World} (hW : Tabs W) : GoodP (Fw W) Tryz.prog 195 pcLocator := by
  have hD : PTOk (Fw W) Tryz.prog D_number_Locator := tabD_nil
  have hC0 : CtrOk (Fw W) Tryz.prog C_number_Locator := (tabC_nil hD)
  refine goodP_fun (D := D_number_Locator) (C := C_number_Locator) (wr := (fun _ => false)) rfl tyOk hD hC0 Tryz.func195 (L_number_Locator) ?_
  clear hC0 hD hW
  intro cs p r h hf hp
  split at h
  case h_2 => cases h
  rename_i s
  cases h
  try simp only [factL, factA, inK_def, Go.Vc.lo, Go.Vc.hi, and_true] at hf
  (conv => whnf)
  all_goals (try (show _ = _; simp only [wQ]))
  refine ⟨?_, fun (i : Nat) (hi : i ≤ s.length ∧ (s.take i).all isLoc = true) => ?_⟩
  · (conv => whnf)
    refine ⟨(0 : Nat), [], ?_, ⟨⟨rfl, Nat.le_of_ble_eq_true rfl, rfl⟩, ?_, ?_⟩⟩
    · exact ⟨Nat.zero_le _, rfl⟩
    · (conv => whnf)
      (repeat' ((first | with_reducible exact True.intro | ((with_reducible refine And.intro ?_ ?_); focus (first | with_reducible rfl | omega | exact Nat.le_of_ble_eq_true rfl | rfl)) | fail) <;> (conv => whnf)))
      all_goals (try simp only [wQ])
    · (conv => whnf)
      (repeat' ((first | with_reducible exact True.intro | ((with_reducible refine And.intro ?_ ?_); focus (first | with_reducible rfl | omega | exact Nat.le_of_ble_eq_true rfl | rfl)) | with_reducible refine And.intro (?_ : leBlk _ _ _ _) ?_ | fail) <;> (conv => whnf)))
      all_goals (try simp only [wQ])
  · obtain ⟨h1, h2⟩ := hi
    have hbad : i < s.length → ¬ (65 ≤ runeAt s i ∧ runeAt s i ≤ 90 ∨ 50 ≤ runeAt s i ∧ runeAt s i ≤ 57) → locOk s = false := fun h hc => by
      have : isLoc (s.getD i 0) = false := by
        simp only [isLoc, Bool.or_eq_false_iff, Bool.and_eq_false_iff, decide_eq_false_iff_not]
        rcases rune_cases h with h6 | h6 <;> omega
      unfold locOk; rw [not_all_of h this]; rfl
    have hgood : i < s.length → (65 ≤ runeAt s i ∧ runeAt s i ≤ 90 ∨ 50 ≤ runeAt s i ∧ runeAt s i ≤ 57) → (s.take (i + 1)).all isLoc = true ∧ runeW s i = 1 := fun h hc => by
      rcases rune_cases h with h6 | h6
      · refine ⟨?_, h6.2.1⟩
        rw [all_take_succ h, h2, Bool.true_and]
        simp only [isLoc, Bool.or_eq_true, Bool.and_eq_true, decide_eq_true_eq]; omega
      · omega
    have hfin : s.length ≤ i → locOk s = decide (s.length = 6) := fun h => by
      rw [List.take_of_length_le h] at h2
      unfold locOk; rw [h2]; rfl
    (conv => whnf)
    (repeat' ((first
      | (split <;> rename_i hh <;> (try simp only [wS] at hh) <;> (try simp (disch := omega) only [Int.tdiv_eq_ediv_of_nonneg, Int.tmod_eq_emod_of_nonneg] at hh))
      | with_reducible refine (fun (hln : (_ : Int) ≤ 9223372036854775807) => ?_)
      | fail) <;> (conv => whnf)))
    all_goals (try (show _ = _; simp only [wQ]))
    all_goals try (rw [hbad (by omega) (by omega)]; done)
    all_goals try (
      obtain ⟨g1, g2⟩ := hgood (by omega) (by omega)
      (conv => whnf)
      refine ⟨(i + 1 : Nat), [], ?_, ⟨⟨rfl, Nat.le_of_ble_eq_true rfl, rfl⟩, ?_, ?_⟩⟩
      · exact ⟨⟨show i + 1 ≤ s.length by omega, g1⟩, show s.length - (i + 1) < s.length - i by omega⟩
      · (conv => whnf)
        (repeat' ((first | with_reducible exact True.intro | ((with_reducible refine And.intro ?_ ?_); focus (first | with_reducible rfl | omega | exact Nat.le_of_ble_eq_true rfl | rfl)) | fail) <;> (conv => whnf)))
        all_goals (try simp only [wQ])
      · (conv => whnf)
        (repeat' ((first | with_reducible exact True.intro | ((with_reducible refine And.intro ?_ ?_); focus (first | with_reducible rfl | omega | exact Nat.le_of_ble_eq_true rfl | rfl)) | with_reducible refine And.intro (?_ : leBlk _ _ _ _) ?_ | fail) <;> (conv => whnf)))
        all_goals (try simp only [wQ])
        all_goals (try first | omega)
      )
    · rw [hfin (by omega), eqI_eq, Bool.eq_iff_iff, beq_iff_eq, decide_eq_true_eq]; omega
def LRLoc (s : List UInt8) : LoopSpec := {
  α := Nat
  keep := [0, 3]
  vals i := [.str s, .int .i64 i]
  heap _ := []
  ok i := i ≤ s.length ∧ (s.take i).all isLoc = true
  μ i := s.length - i }
def D_couponref10_Locator : PT := tabD []
def C_couponref10_Locator : FuncId → Option Ctr := tabC D_couponref10_Locator []
def L_couponref10_Locator : List AV → Nat → Option LR := fun cs i => match cs with | [.str s] => cond (Nat.beq i 2) (some (.inv (LRLoc s))) (none) | _ => none
theorem g_couponref10_Locator {W : World} (hW : Tabs W) : GoodP (Fw W) Tryz.prog 64 pcLocator := by
  have hD : PTOk (Fw W) Tryz.prog D_couponref10_Locator := tabD_nil
  have hC0 : CtrOk (Fw W) Tryz.prog C_couponref10_Locator := (tabC_nil hD)
  refine goodP_fun (D := D_couponref10_Locator) (C := C_couponref10_Locator) (wr := (fun _ => false)) rfl tyOk hD hC0 Tryz.func64 (L_couponref10_Locator) ?_
  clear hC0 hD hW
  intro cs p r h hf hp
  split at h
  case h_2 => cases h
  rename_i s
  cases h
  try simp only [factL, factA, inK_def, Go.Vc.lo, Go.Vc.hi, and_true] at hf
  (conv => whnf)
  all_goals (try (show _ = _; simp only [wQ]))
  refine ⟨?_, fun (i : Nat) (hi : i ≤ s.length ∧ (s.take i).all isLoc = true) => ?_⟩
  · (conv => whnf)
    refine ⟨(0 : Nat), [], ?_, ⟨⟨rfl, Nat.le_of_ble_eq_true rfl, rfl⟩, ?_, ?_⟩⟩
    · exact ⟨Nat.zero_le _, rfl⟩
    · exact leL_rfl _
    · (conv => whnf)
      (repeat' ((first | with_reducible exact True.intro | fail) <;> (conv => whnf)))
      all_goals (try simp only [wQ])
  · obtain ⟨h1, h2⟩ := hi
    have ei : (s.getD (Int.toNat (i : Int)) 0).toNat = (s.getD i 0).toNat := rfl
    have hbad : i < s.length → ¬ (65 ≤ (s.getD i 0).toNat ∧ (s.getD i 0).toNat ≤ 90 ∨ 50 ≤ (s.getD i 0).toNat ∧ (s.getD i 0).toNat ≤ 57) → locOk s = false := fun h hc => by
      have : isLoc (s.getD i 0) = false := by
        simp only [isLoc, Bool.or_eq_false_iff, Bool.and_eq_false_iff, decide_eq_false_iff_not]; omega
      unfold locOk; rw [not_all_of h this]; rfl
    have hgood : i < s.length → (65 ≤ (s.getD i 0).toNat ∧ (s.getD i 0).toNat ≤ 90 ∨ 50 ≤ (s.getD i 0).toNat ∧ (s.getD i 0).toNat ≤ 57) → (s.take (i + 1)).all isLoc = true := fun h hc => by
      rw [all_take_succ h, h2, Bool.true_and]
      simp only [isLoc, Bool.or_eq_true, Bool.and_eq_true, decide_eq_true_eq]; omega
    have hfin : s.length ≤ i → locOk s = decide (s.length = 6) := fun h => by
      rw [List.take_of_length_le h] at h2
      unfold locOk; rw [h2]; rfl
    (conv => whnf)
    (repeat' ((first
      | ((with_reducible refine And.intro ?_ ?_); focus (first | omega | (simp only [inK_def, Go.Vc.lo, Go.Vc.hi]; omega)))
      | (split <;> rename_i hh <;> (try simp only [wS] at hh) <;> (try simp (disch := omega) only [Int.tdiv_eq_ediv_of_nonneg, Int.tmod_eq_emod_of_nonneg] at hh))
      | with_reducible refine (fun (hln : (_ : Int) ≤ 9223372036854775807) => ?_)
      | fail) <;> (conv => whnf)))
    all_goals (try (show _ = _; simp only [wQ]))
    all_goals try (rw [hbad (by omega) (by omega)]; done)
    all_goals try (
      have g1 := hgood (by omega) (by omega)
      (conv => whnf)
      refine ⟨(i + 1 : Nat), [], ?_, ⟨⟨rfl, Nat.le_of_ble_eq_true rfl, rfl⟩, ?_, ?_⟩⟩
      · exact ⟨⟨show i + 1 ≤ s.length by omega, g1⟩, show s.length - (i + 1) < s.length - i by omega⟩
      · exact leL_rfl _
      · (conv => whnf)
        (repeat' ((first | with_reducible exact True.intro | fail) <;> (conv => whnf)))
        all_goals (try simp only [wQ])
      )
    · rw [hfin (by omega), eqI_eq, Bool.eq_iff_iff, beq_iff_eq, decide_eq_true_eq]; omega
/-- The number of a carrier and a serial, and what is wrong. -/
@[irreducible] def makeN (c s : Int) : Int × Int := if mayCar c = true ∧ maySer s = true then (10 * (c * 1000000000 + s) + (c * 1000000000 + s) % 7, 0) else (0, 2)
def pcMake : PC := PC.fun fun | [.int .i64 c, .int .i64 s] => some (True, .tup [.int .u64 (sI (makeN c s).1), .int .i64 (sI (makeN c s).2)]) | _ => none
def D_number_Make : PT := tabD [(292, pcMayCarrier), (293, pcMaySerial)]
def C_number_Make : FuncId → Option Ctr := tabC D_number_Make []
theorem g_number_Make {W : World} (hW : Tabs W) : GoodP (Fw W) Tryz.prog 263 pcMake := by
  have hD : PTOk (Fw W) Tryz.prog D_number_Make := (tabD_cons Tryz.call292 (g_number_mayCarrier hW) (tabD_cons Tryz.call293 (g_number_maySerial hW) tabD_nil))
  have hC0 : CtrOk (Fw W) Tryz.prog C_number_Make := (tabC_nil hD)
  refine goodP_fun (D := D_number_Make) (C := C_number_Make) (wr := (fun _ => false)) rfl tyOk hD hC0 Tryz.func263 (fun _ _ => none) ?_
  clear hC0 hD hW
  intro cs p r h hf hp
  split at h
  case h_2 => cases h
  rename_i c s
  cases h
  try simp only [factL, factA, inK_def, Go.Vc.lo, Go.Vc.hi, and_true] at hf
  have hm : mayCar c = true → 100 ≤ c ∧ c ≤ 999 := fun h => by simpa [mayCar] using h
  have hs : maySer s = true → 0 ≤ s ∧ s ≤ 999999999 := fun h => by simpa [maySer] using h
  by_cases h1 : mayCar c = true
  · by_cases h2 : maySer s = true
    · have h3 := hm h1
      have h4 := hs h2
      have e : makeN c s = (10 * (c * 1000000000 + s) + (c * 1000000000 + s) % 7, 0) := by unfold makeN; rw [if_pos ⟨h1, h2⟩]
      (conv => whnf)
      (repeat' ((first
        | with_reducible exact True.intro
        | ((with_reducible refine And.intro ?_ ?_); focus (first | with_reducible exact True.intro | with_reducible rfl | (simp only [inK_def, Go.Vc.lo, Go.Vc.hi]; omega)))
        | (split <;> rename_i hh <;> (try simp only [wS] at hh) <;> (try simp (disch := omega) only [Int.tdiv_eq_ediv_of_nonneg, Int.tmod_eq_emod_of_nonneg] at hh))
        | with_reducible refine And.intro (?_ : leA _ _ _) ?_
        | fail) <;> (conv => whnf)))
      all_goals (try (show _ = _; simp only [wQ]))
      all_goals first | (rw [e]; done) | (simp_all; done) | skip
    · have e : makeN c s = (0, 2) := by unfold makeN; rw [if_neg (fun h => h2 h.2)]
      (conv => whnf)
      (repeat' ((first
        | with_reducible exact True.intro
        | ((with_reducible refine And.intro ?_ ?_); focus (first | with_reducible exact True.intro | with_reducible rfl))
        | (split <;> rename_i hh <;> (try simp only [wS] at hh) <;> (try simp (disch := omega) only [Int.tdiv_eq_ediv_of_nonneg, Int.tmod_eq_emod_of_nonneg] at hh))
        | with_reducible refine And.intro (?_ : leA _ _ _) ?_
        | fail) <;> (conv => whnf)))
      all_goals (try (show _ = _; simp only [wQ]))
      all_goals first | (rw [e]; done) | (simp_all; done) | skip
  · have e : makeN c s = (0, 2) := by unfold makeN; rw [if_neg (fun h => h1 h.1)]
    (conv => whnf)
    (repeat' ((first
      | with_reducible exact True.intro
      | ((with_reducible refine And.intro ?_ ?_); focus (first | with_reducible exact True.intro | with_reducible rfl))
      | (split <;> rename_i hh <;> (try simp only [wS] at hh) <;> (try simp (disch := omega) only [Int.tdiv_eq_ediv_of_nonneg, Int.tmod_eq_emod_of_nonneg] at hh))
      | with_reducible refine And.intro (?_ : leA _ _ _) ?_
      | fail) <;> (conv => whnf)))
    all_goals (try (show _ = _; simp only [wQ]))
    all_goals first | (rw [e]; done) | (simp_all; done) | skip
end
end Go.Vc.Z

/- Statuses: the program's and the document's. -/
namespace Go.Vc.Z
open Go Go.Vc Go.Proofs Go.RowKit Go.Pl Go.Lib
noncomputable section
set_option maxRecDepth 100000
set_option linter.unusedSimpArgs false
set_option linter.unusedVariables false
attribute [local irreducible] inK Utf8.decode Utf8.encode Lib.itoa Pl.worth Pl.allDig
@[irreducible] def mayS (s : Int) : Bool := decide (1 ≤ s) && decide (s ≤ 9)
theorem mayS_iff {s : Int} : mayS s = true ↔ 1 ≤ s ∧ s ≤ 9 := by unfold mayS; simp
theorem mayS_cases {s : Int} (h : mayS s = true) : s = 1 ∨ s = 2 ∨ s = 3 ∨ s = 4 ∨ s = 5 ∨ s = 6 ∨ s = 7 ∨ s = 8 ∨ s = 9 := by have := mayS_iff.1 h; omega
def pcMayS : PC := PC.fun fun | [.int .i64 s] => some (True, .bool (sB (mayS s))) | _ => none
def D_status_May : PT := tabD []
def C_status_May : FuncId → Option Ctr := tabC D_status_May []
theorem g_status_May {W : World} (hW : Tabs W) : GoodP (Fw W) Tryz.prog 133 pcMayS := by
  have hD : PTOk (Fw W) Tryz.prog D_status_May := tabD_nil
  have hC0 : CtrOk (Fw W) Tryz.prog C_status_May := (tabC_nil hD)
  refine goodP_fun (D := D_status_May) (C := C_status_May) (wr := (fun _ => false)) rfl tyOk hD hC0 Tryz.func133 (fun _ _ => none) ?_
  clear hC0 hD hW
  intro cs p r h hf hp
  split at h
  case h_2 => cases h
  rename_i s
  cases h
  try simp only [factL, factA, inK_def, Go.Vc.lo, Go.Vc.hi, and_true] at hf
  (conv => whnf)
  (repeat' ((first
    | (split <;> rename_i hh <;> (try simp only [wS] at hh) <;> (try simp (disch := omega) only [Int.tdiv_eq_ediv_of_nonneg, Int.tmod_eq_emod_of_nonneg] at hh))
    | fail) <;> (conv => whnf)))
  all_goals (try (show _ = _; simp only [wQ]))
  all_goals (try simp (disch := omega) only [Int.tdiv_eq_ediv_of_nonneg, Int.tmod_eq_emod_of_nonneg]); all_goals (first | (simp_all [sI_eq, sB_eq, sS_eq, ltI_eq, leI_eq, eqI_eq, mayS]; done) | (simp_all [sI_eq, sB_eq, sS_eq, ltI_eq, leI_eq, eqI_eq, mayS]; omega))
def D_couponref12_May : PT := tabD []
def C_couponref12_May : FuncId → Option Ctr := tabC D_couponref12_May []
theorem g_couponref12_May {W : World} (hW : Tabs W) : GoodP (Fw W) Tryz.prog 69 pcMayS := by
  have hD : PTOk (Fw W) Tryz.prog D_couponref12_May := tabD_nil
  have hC0 : CtrOk (Fw W) Tryz.prog C_couponref12_May := (tabC_nil hD)
  refine goodP_fun (D := D_couponref12_May) (C := C_couponref12_May) (wr := (fun _ => false)) rfl tyOk hD hC0 Tryz.func69 (fun _ _ => none) ?_
  clear hC0 hD hW
  intro cs p r h hf hp
  split at h
  case h_2 => cases h
  rename_i s
  cases h
  try simp only [factL, factA, inK_def, Go.Vc.lo, Go.Vc.hi, and_true] at hf
  (conv => whnf)
  (repeat' ((first
    | (split <;> rename_i hh <;> (try simp only [wS] at hh) <;> (try simp (disch := omega) only [Int.tdiv_eq_ediv_of_nonneg, Int.tmod_eq_emod_of_nonneg] at hh))
    | fail) <;> (conv => whnf)))
  all_goals (try (show _ = _; simp only [wQ]))
  all_goals (try simp (disch := omega) only [Int.tdiv_eq_ediv_of_nonneg, Int.tmod_eq_emod_of_nonneg]); all_goals (first | (simp_all [sI_eq, sB_eq, sS_eq, ltI_eq, leI_eq, eqI_eq, mayS]; done) | (simp_all [sI_eq, sB_eq, sS_eq, ltI_eq, leI_eq, eqI_eq, mayS]; omega))
@[irreducible] def bitsN (s : Int) : Int := if s = 1 then 996 else if s = 2 then 10 else if s = 3 then 20 else if s = 8 then 66 else if s = 9 then 18 else 0
def pcBits : PC := PC.fun fun | [.int .i64 s] => some (True, .int .i64 (sI (bitsN s))) | _ => none
def D_status_bits : PT := tabD []
def C_status_bits : FuncId → Option Ctr := tabC D_status_bits []
theorem g_status_bits {W : World} (hW : Tabs W) : GoodP (Fw W) Tryz.prog 265 pcBits := by
  have hD : PTOk (Fw W) Tryz.prog D_status_bits := tabD_nil
  have hC0 : CtrOk (Fw W) Tryz.prog C_status_bits := (tabC_nil hD)
  refine goodP_fun (D := D_status_bits) (C := C_status_bits) (wr := (fun _ => false)) rfl tyOk hD hC0 Tryz.func265 (fun _ _ => none) ?_
  clear hC0 hD hW
  intro cs p r h hf hp
  split at h
  case h_2 => cases h
  rename_i s
  cases h
  try simp only [factL, factA, inK_def, Go.Vc.lo, Go.Vc.hi, and_true] at hf
  (conv => whnf)
  (repeat' ((first
    | ((with_reducible refine And.intro ?_ ?_); focus (with_reducible rfl))
    | (split <;> rename_i hh <;> (try simp only [wS] at hh) <;> (try simp (disch := omega) only [Int.tdiv_eq_ediv_of_nonneg, Int.tmod_eq_emod_of_nonneg] at hh))
    | fail) <;> (conv => whnf)))
  all_goals (try (show _ = _; simp only [wQ]))
  all_goals (try simp (disch := omega) only [Int.tdiv_eq_ediv_of_nonneg, Int.tmod_eq_emod_of_nonneg]); all_goals (first | (simp_all [sI_eq, sB_eq, sS_eq, ltI_eq, leI_eq, eqI_eq, bitsN]; done))
def stL : List UInt8 := [79, 67, 76, 70, 69, 82, 86, 83, 65]
@[irreducible] def letterS (s : Int) : List UInt8 := if mayS s = true then (stL.drop (s - 1).toNat).take 1 else []
def pcLetter : PC := PC.fun fun | [.int .i64 s] => some (True, .str (sS (letterS s))) | _ => none
def D_status_Letter : PT := tabD [(133, pcMayS)]
def C_status_Letter : FuncId → Option Ctr := tabC D_status_Letter []
theorem g_status_Letter {W : World} (hW : Tabs W) : GoodP (Fw W) Tryz.prog 61 pcLetter := by
  have hD : PTOk (Fw W) Tryz.prog D_status_Letter := (tabD_cons Tryz.call133 (g_status_May hW) tabD_nil)
  have hC0 : CtrOk (Fw W) Tryz.prog C_status_Letter := (tabC_nil hD)
  refine goodP_fun (D := D_status_Letter) (C := C_status_Letter) (wr := (fun _ => false)) rfl tyOk hD hC0 Tryz.func61 (fun _ _ => none) ?_
  clear hC0 hD hW
  intro cs p r h hf hp
  split at h
  case h_2 => cases h
  rename_i s
  cases h
  try simp only [factL, factA, inK_def, Go.Vc.lo, Go.Vc.hi, and_true] at hf
  have hi := mayS_iff (s := s)
  (conv => whnf)
  (repeat' ((first
    | ((with_reducible refine And.intro ?_ ?_); focus (with_reducible exact True.intro))
    | (split <;> rename_i hh <;> (try simp only [wS] at hh) <;> (try simp (disch := omega) only [Int.tdiv_eq_ediv_of_nonneg, Int.tmod_eq_emod_of_nonneg] at hh))
    | fail) <;> (conv => whnf)))
  all_goals (try (show _ = _; simp only [wQ]))
  · unfold letterS; rw [if_neg (by simp_all)]
  · have := hi.1 (by assumption)
    (conv => whnf)
    (repeat' ((first
      | ((with_reducible refine And.intro ?_ ?_); focus (first | omega | (simp only [inK_def, Go.Vc.lo, Go.Vc.hi]; omega) | (simp only [List.length_append, bytesOf_length, List.toList_toArray, List.length_cons, List.length_nil, List.length_take, List.length_drop, sS_eq]; omega)))
      | fail) <;> (conv => whnf)))
    all_goals (try (show _ = _; simp only [wQ]))
    unfold letterS
    rw [if_pos (by assumption)]
    show (stL.drop (s - 1).toNat).take (s.toNat - (s - 1).toNat) = _
    congr 1; omega
def rowsL : List (List UInt8) := [[79, 67, 69, 82, 86, 83, 65], [67, 79, 76], [76, 67, 70], [70], [69], [82], [86], [83, 79, 82], [65, 79, 70]]
def pcRows : PC := PC.fun fun | [] => some (True, .sl false 1 9 (fun e => [.str (rowsL.getD e [])])) | _ => none
def D_couponref12_Rows : PT := tabD []
def C_couponref12_Rows : FuncId → Option Ctr := tabC D_couponref12_Rows []
theorem g_couponref12_Rows {W : World} (hW : Tabs W) : GoodP (Fw W) Tryz.prog 169 pcRows := by
  have hD : PTOk (Fw W) Tryz.prog D_couponref12_Rows := tabD_nil
  have hC0 : CtrOk (Fw W) Tryz.prog C_couponref12_Rows := (tabC_nil hD)
  refine goodP_fun (D := D_couponref12_Rows) (C := C_couponref12_Rows) (wr := (fun _ => false)) rfl tyOk hD hC0 Tryz.func169 (fun _ _ => none) ?_
  clear hC0 hD hW
  intro cs p r h hf hp
  split at h
  case h_2 => cases h
  skip
  cases h
  try simp only [factL, factA, inK_def, Go.Vc.lo, Go.Vc.hi, and_true] at hf
  (conv => whnf)
  (repeat' ((first
    | ((with_reducible refine And.intro ?_ ?_); focus (first | with_reducible rfl | decide))
    | fail) <;> (conv => whnf)))
  all_goals (try (show _ = _; simp only [wQ]))
  intro e he
  match e, he with
  | 0, _ => first | rfl | exact ⟨rfl, rfl⟩
  | 1, _ => first | rfl | exact ⟨rfl, rfl⟩
  | 2, _ => first | rfl | exact ⟨rfl, rfl⟩
  | 3, _ => first | rfl | exact ⟨rfl, rfl⟩
  | 4, _ => first | rfl | exact ⟨rfl, rfl⟩
  | 5, _ => first | rfl | exact ⟨rfl, rfl⟩
  | 6, _ => first | rfl | exact ⟨rfl, rfl⟩
  | 7, _ => first | rfl | exact ⟨rfl, rfl⟩
  | 8, _ => first | rfl | exact ⟨rfl, rfl⟩
  | e + 9, he => exact absurd he (by omega)
theorem letter_rows {s : Int} (h : mayS s = true) : (rowsL.getD (s - 1).toNat []).take 1 = letterS s ∧ 1 ≤ (rowsL.getD (s - 1).toNat []).length := by
  unfold letterS; rw [if_pos h]
  rcases mayS_cases h with rfl | rfl | rfl | rfl | rfl | rfl | rfl | rfl | rfl <;> exact ⟨rfl, by decide⟩
def D_couponref12_Letter : PT := tabD [(69, pcMayS), (169, pcRows)]
def C_couponref12_Letter : FuncId → Option Ctr := tabC D_couponref12_Letter []
theorem g_couponref12_Letter {W : World} (hW : Tabs W) : GoodP (Fw W) Tryz.prog 82 pcLetter := by
  have hD : PTOk (Fw W) Tryz.prog D_couponref12_Letter := (tabD_cons Tryz.call69 (g_couponref12_May hW) (tabD_cons Tryz.call169 (g_couponref12_Rows hW) tabD_nil))
  have hC0 : CtrOk (Fw W) Tryz.prog C_couponref12_Letter := (tabC_nil hD)
  refine goodP_fun (D := D_couponref12_Letter) (C := C_couponref12_Letter) (wr := (fun _ => false)) rfl tyOk hD hC0 Tryz.func82 (fun _ _ => none) ?_
  clear hC0 hD hW
  intro cs p r h hf hp
  split at h
  case h_2 => cases h
  rename_i s
  cases h
  try simp only [factL, factA, inK_def, Go.Vc.lo, Go.Vc.hi, and_true] at hf
  have hi := mayS_iff (s := s)
  have hr := letter_rows (s := s)
  (conv => whnf)
  (repeat' ((first
    | ((with_reducible refine And.intro ?_ ?_); focus (with_reducible exact True.intro))
    | (split <;> rename_i hh <;> (try simp only [wS] at hh) <;> (try simp (disch := omega) only [Int.tdiv_eq_ediv_of_nonneg, Int.tmod_eq_emod_of_nonneg] at hh))
    | fail) <;> (conv => whnf)))
  all_goals (try (show _ = _; simp only [wQ]))
  · unfold letterS; rw [if_neg (by simp_all)]
  · have h1 := hi.1 (by assumption)
    have h2 := hr (by assumption)
    have h3 : Int.toNat 1 ≤ (rowsL.getD (s - 1).toNat []).length := h2.2
    (conv => whnf)
    (repeat' ((first
      | ((with_reducible refine And.intro ?_ ?_); focus (first | omega | (simp only [inK_def, Go.Vc.lo, Go.Vc.hi]; omega)))
      | fail) <;> (conv => whnf)))
    all_goals (try (show _ = _; simp only [wQ]))
    exact h2.1
def leadsL (f : Int) : List Int := if f = 1 then [2, 5, 6, 7, 8, 9] else if f = 2 then [1, 3] else if f = 3 then [2, 4] else if f = 8 then [1, 6] else if f = 9 then [1, 4] else []
@[irreducible] def leadsN (f t : Int) : Bool := (leadsL f).contains t
def pcLeads : PC := PC.fun fun | [.int .i64 f, .int .i64 t] => some (True, .bool (sB (leadsN f t))) | _ => none
theorem leads_may {f t : Int} (h : leadsN f t = true) : mayS f = true ∧ mayS t = true := by
  unfold leadsN leadsL at h
  rw [mayS_iff, mayS_iff]
  repeat' split at h
  all_goals simp at h
  all_goals omega
theorem leads_bits (f t : Int) (h : mayS t = true) : eqI (bitsA .and .i64 ((sI (bitsN f)).fdiv (2 ^ (min t.toNat 64))) 1) 1 = leadsN f t := by
  rw [sI_eq]
  unfold bitsN leadsN leadsL
  by_cases h1 : f = 1
  · subst h1; rcases mayS_cases h with rfl | rfl | rfl | rfl | rfl | rfl | rfl | rfl | rfl <;> decide
  by_cases h2 : f = 2
  · subst h2; rcases mayS_cases h with rfl | rfl | rfl | rfl | rfl | rfl | rfl | rfl | rfl <;> decide
  by_cases h3 : f = 3
  · subst h3; rcases mayS_cases h with rfl | rfl | rfl | rfl | rfl | rfl | rfl | rfl | rfl <;> decide
  by_cases h8 : f = 8
  · subst h8; rcases mayS_cases h with rfl | rfl | rfl | rfl | rfl | rfl | rfl | rfl | rfl <;> decide
  by_cases h9 : f = 9
  · subst h9; rcases mayS_cases h with rfl | rfl | rfl | rfl | rfl | rfl | rfl | rfl | rfl <;> decide
  · simp only [h1, h2, h3, h8, h9, if_false]
    rcases mayS_cases h with rfl | rfl | rfl | rfl | rfl | rfl | rfl | rfl | rfl <;> decide
def D_status_Leads : PT := tabD [(133, pcMayS), (265, pcBits)]
def C_status_Leads : FuncId → Option Ctr := tabC D_status_Leads []
theorem g_status_Leads {W : World} (hW : Tabs W) : GoodP (Fw W) Tryz.prog 202 pcLeads := by
  have hD : PTOk (Fw W) Tryz.prog D_status_Leads := (tabD_cons Tryz.call133 (g_status_May hW) (tabD_cons Tryz.call265 (g_status_bits hW) tabD_nil))
  have hC0 : CtrOk (Fw W) Tryz.prog C_status_Leads := (tabC_nil hD)
  refine goodP_fun (D := D_status_Leads) (C := C_status_Leads) (wr := (fun _ => false)) rfl tyOk hD hC0 Tryz.func202 (fun _ _ => none) ?_
  clear hC0 hD hW
  intro cs p r h hf hp
  split at h
  case h_2 => cases h
  rename_i f t
  cases h
  try simp only [factL, factA, inK_def, Go.Vc.lo, Go.Vc.hi, and_true] at hf
  have hi : mayS t = true → 0 ≤ t := fun h => by have := mayS_iff.1 h; omega
  have hb := leads_bits f t
  have hl := leads_may (f := f) (t := t)
  by_cases hm : mayS t = true
  · have h0 := hi hm
    (conv => whnf)
    (repeat' ((first
      | ((with_reducible refine And.intro ?_ ?_); focus (first | with_reducible exact True.intro | with_reducible assumption))
      | (split <;> rename_i hh <;> (try simp only [wS] at hh) <;> (try simp (disch := omega) only [Int.tdiv_eq_ediv_of_nonneg, Int.tmod_eq_emod_of_nonneg] at hh))
      | fail) <;> (conv => whnf)))
    all_goals (try (show _ = _; simp only [wQ]))
    · have := hb hm; rw [sI_eq] at this; exact this
    · simp_all
  · (conv => whnf)
    (repeat' ((first
      | ((with_reducible refine And.intro ?_ ?_); focus (with_reducible exact True.intro))
      | (split <;> rename_i hh <;> (try simp only [wS] at hh) <;> (try simp (disch := omega) only [Int.tdiv_eq_ediv_of_nonneg, Int.tmod_eq_emod_of_nonneg] at hh))
      | fail) <;> (conv => whnf)))
    all_goals (try (show _ = _; simp only [wQ]))
    all_goals (cases hc : leadsN f t with
      | false => first | rfl | simp_all
      | true => exact absurd (hl hc).2 hm)
theorem letter_one {s : Int} (h : mayS s = true) : ∃ c, letterS s = [c] ∧ stL[(s - 1).toNat]? = some c := by
  unfold letterS; rw [if_pos h]
  rcases mayS_cases h with rfl | rfl | rfl | rfl | rfl | rfl | rfl | rfl | rfl <;> exact ⟨_, rfl, rfl⟩
def LRLeads (f t : Int) (k : Nat) : LoopSpec := {
  α := Nat
  keep := [1, 5, 6]
  vals i := [.int .i64 t, .str (rowsL.getD (f - 1).toNat []), .int .i64 i]
  heap _ := []
  ok i := 1 ≤ i ∧ ((rowsL.getD (f - 1).toNat []).drop i).contains ((letterS t).getD 0 0) = leadsN f t
  μ i := 10 - i }
theorem leads_rows {f t : Int} (hf : mayS f = true) (ht : mayS t = true) : ((rowsL.getD (f - 1).toNat []).drop 1).contains ((letterS t).getD 0 0) = leadsN f t := by
  unfold letterS leadsN; rw [if_pos ht]
  rcases mayS_cases hf with rfl | rfl | rfl | rfl | rfl | rfl | rfl | rfl | rfl <;> rcases mayS_cases ht with rfl | rfl | rfl | rfl | rfl | rfl | rfl | rfl | rfl <;> decide
def D_couponref12_Leads : PT := tabD [(69, pcMayS), (169, pcRows), (82, pcLetter)]
def C_couponref12_Leads : FuncId → Option Ctr := tabC D_couponref12_Leads []
def L_couponref12_Leads : List AV → Nat → Option LR := fun cs i => match cs with | [.int _ f, .int _ t] => cond (Nat.beq i 5) (some (.inv (LRLeads f t 0))) (none) | _ => none
theorem g_couponref12_Leads {W : World} (hW : Tabs W) : GoodP (Fw W) Tryz.prog 137 pcLeads := by
  have hD : PTOk (Fw W) Tryz.prog D_couponref12_Leads := (tabD_cons Tryz.call69 (g_couponref12_May hW) (tabD_cons Tryz.call169 (g_couponref12_Rows hW) (tabD_cons Tryz.call82 (g_couponref12_Letter hW) tabD_nil)))
  have hC0 : CtrOk (Fw W) Tryz.prog C_couponref12_Leads := (tabC_nil hD)
  refine goodP_fun (D := D_couponref12_Leads) (C := C_couponref12_Leads) (wr := (fun _ => false)) rfl tyOk hD hC0 Tryz.func137 (L_couponref12_Leads) ?_
  clear hC0 hD hW
  intro cs p r h hf hp
  split at h
  case h_2 => cases h
  rename_i f t
  cases h
  try simp only [factL, factA, inK_def, Go.Vc.lo, Go.Vc.hi, and_true] at hf
  have hif := mayS_iff (s := f)
  have hit := mayS_iff (s := t)
  have hm := leads_may (f := f) (t := t)
  have hn : ¬ (mayS f = true ∧ mayS t = true) → leadsN f t = false := fun h => by
    cases hc : leadsN f t with
    | false => rfl
    | true => exact absurd (hm hc) h
  by_cases h1 : mayS f = true
  · by_cases h2 : mayS t = true
    · have h3 := hif.1 h1
      have hr := (letter_rows h1).2
      have hlen : (rowsL.getD (f - 1).toNat []).length ≤ 7 := by
        rcases mayS_cases h1 with rfl | rfl | rfl | rfl | rfl | rfl | rfl | rfl | rfl <;> decide
      obtain ⟨c, hc, _⟩ := letter_one h2
      obtain ⟨row, hrow⟩ : ∃ row, row = rowsL.getD (f - 1).toNat [] := ⟨_, rfl⟩
      (conv => whnf)
      (repeat' ((first
        | ((with_reducible refine And.intro ?_ ?_); focus (first | with_reducible exact True.intro | omega | (simp only [inK_def, Go.Vc.lo, Go.Vc.hi]; omega)))
        | (split <;> rename_i hh <;> (try simp only [wS] at hh) <;> (try simp (disch := omega) only [Int.tdiv_eq_ediv_of_nonneg, Int.tmod_eq_emod_of_nonneg] at hh))
        | fail) <;> (conv => whnf)))
      all_goals (try (show _ = _; simp only [wQ]))
      · simp_all
      · simp_all
      · refine ⟨?_, fun (i : Nat) (hi : 1 ≤ i ∧ ((rowsL.getD (f - 1).toNat []).drop i).contains ((letterS t).getD 0 0) = leadsN f t) => ?_⟩
        · (conv => whnf)
          refine ⟨(1 : Nat), [], ?_, ⟨⟨rfl, Nat.le_of_ble_eq_true rfl, rfl⟩, ?_, ?_⟩⟩
          · exact ⟨Nat.le_refl _, leads_rows h1 h2⟩
          · exact leL_rfl _
          · (conv => whnf)
            (repeat' ((first | with_reducible exact True.intro | fail) <;> (conv => whnf)))
            all_goals (try simp only [wQ])
        · obtain ⟨hi1, hi2⟩ := hi
          rw [← hrow, hc] at hi2
          have e1 : i < row.length → (row.drop i) = row.getD i 0 :: row.drop (i + 1) := fun h => by
            rw [List.drop_eq_getElem_cons h, List.getD_eq_getElem?_getD, List.getElem?_eq_getElem h]; rfl
          have e2 : i < row.length → (row.drop (Int.toNat (i : Int))).take (Int.toNat ((i : Int) + 1) - Int.toNat (i : Int)) = [row.getD i 0] := fun h => by
            rw [show Int.toNat (i : Int) = i from rfl, e1 h, show Int.toNat ((i : Int) + 1) - i = 1 by omega]; rfl
          (conv => whnf)
          (repeat' ((first
            | ((with_reducible refine And.intro ?_ ?_); focus (first | with_reducible exact True.intro | ((with_reducible show okB _ _ _ = true); rfl) | omega | (simp only [inK_def, Go.Vc.lo, Go.Vc.hi]; omega)))
            | (split <;> rename_i hh <;> (try simp only [wS] at hh) <;> (try simp (disch := omega) only [Int.tdiv_eq_ediv_of_nonneg, Int.tmod_eq_emod_of_nonneg] at hh))
            | with_reducible refine (fun (hln : (_ : Int) ≤ 9223372036854775807) => ?_)
            | fail) <;> (conv => whnf)))
          all_goals (try (show _ = _; simp only [wQ]))
          · rename_i hlt hh
            rw [← hrow] at hlt hh
            rw [e2 (by omega), hc] at hh
            rw [e1 (by omega), List.contains_cons] at hi2
            rw [← hi2]
            cases hh; simp
          · rename_i hlt hh
            rw [← hrow] at hlt hh
            rw [e2 (by omega), hc] at hh
            rw [e1 (by omega), List.contains_cons] at hi2
            rw [← hrow] at hlen
            (conv => whnf)
            refine ⟨(i + 1 : Nat), [], ?_, ⟨⟨rfl, Nat.le_of_ble_eq_true rfl, rfl⟩, ?_, ?_⟩⟩
            · refine ⟨⟨show 1 ≤ i + 1 by omega, ?_⟩, show 10 - (i + 1) < 10 - i by omega⟩
              rw [← hi2, hc, ← hrow]
              have : ((c : UInt8) == row.getD i 0) = false := by
                rw [beq_eq_false_iff_ne]; rintro rfl; exact hh rfl
              show _ = (_ || _)
              rw [show ([c] : List UInt8).getD 0 0 = c from rfl, this, Bool.false_or]
            · exact leL_rfl _
            · (conv => whnf)
              (repeat' ((first | with_reducible exact True.intro | fail) <;> (conv => whnf)))
              all_goals (try simp only [wQ])
          · have hlt : row.length ≤ i := by rw [hrow]; omega
            rw [← hi2, List.drop_eq_nil_of_le (by omega)]
            rfl
    · have hn := hn (fun h => h2 h.2)
      (conv => whnf)
      (repeat' ((first
        | ((with_reducible refine And.intro ?_ ?_); focus (with_reducible exact True.intro))
        | (split <;> rename_i hh <;> (try simp only [wS] at hh) <;> (try simp (disch := omega) only [Int.tdiv_eq_ediv_of_nonneg, Int.tmod_eq_emod_of_nonneg] at hh))
        | fail) <;> (conv => whnf)))
      all_goals (try (show _ = _; simp only [wQ]))
      all_goals simp_all
  · have hn := hn (fun h => h1 h.1)
    (conv => whnf)
    (repeat' ((first
      | ((with_reducible refine And.intro ?_ ?_); focus (with_reducible exact True.intro))
      | (split <;> rename_i hh <;> (try simp only [wS] at hh) <;> (try simp (disch := omega) only [Int.tdiv_eq_ediv_of_nonneg, Int.tmod_eq_emod_of_nonneg] at hh))
      | fail) <;> (conv => whnf)))
    all_goals (try (show _ = _; simp only [wQ]))
    all_goals simp_all
end
end Go.Vc.Z
