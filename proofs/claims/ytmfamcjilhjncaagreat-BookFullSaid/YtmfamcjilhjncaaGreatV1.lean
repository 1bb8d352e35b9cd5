/- Abstract values, and what they say of the model's values in a world: the ground of a verification-condition generator. -/
import Derived.Calls
import Derived.Below
import Derived.Deep.LoopGhost
import Derived.Orders
import Derived.KernelRfl
import Derived.WalkKit
import Derived.Laws.IdiomCopy
import Derived.Laws.StructEq
import Derived.ArgAppend
set_option linter.all false
namespace Go.Vc
open Go
noncomputable section
/-- Abstract values. Blocks of the call's own bear numbers ('id'); slices that came in, or that nobody writes any more, are plain values. -/
inductive AV : Type where
  | any
  | bool (b : Bool)
  | int (k : IntKind) (n : Int)
  | str (s : List UInt8)
  | nilp
  | ptr (id j : Nat)
  | eptr (id sz e j : Nat)
  | rptr (cs : List AV) (j : Nat)
  | nilsl
  | sl (clip : Bool) (sz len : Nat) (get : Nat → List AV)
  | osl (id sz off len : Nat) (cap : Option Nat)
  | agg (cs : List AV)
  | tup (cs : List AV)
  | fn (f : Nat) (caps : List AV)
  | nilfn
  | nilmap
  | map (id : Nat)
  | nilif
  | iface (t : Nat) (v : AV)
  | iter (id : Nat)
  | yfn (id : Nat)
  | intu (k : Option IntKind)
/-- Blocks that hold no cells: a loop over a function; its deferred calls; an iterator over a map. -/
inductive XB : Type where
  | loop (st : LoopState) (pend : Option Code) (ts : List AV) (ps : Array Tmp) (asg body : Code) (df : Nat)
  | dfr
  | mit (m : Option Nat) (since : Nat) (seen : List Nat) (stepped : Nat)
  | mitn (m since n stepped : Nat) (bs : List Nat)
/-- What a block of one's own is known to hold. -/
inductive Blk : Type where
  | dead
  | var (cs : List AV) (T : Option Nat := none)
  | row (sz len : Nat) (get : Nat → List AV) (T : Option Nat := none)
  | iter (s : List UInt8) (pos : Nat)
  | map (es : List (AV × AV)) (bk : Option (List Nat × Nat))
  | ext (x : XB)
def AV.cells : AV → List AV
  | .agg cs => cs
  | v => [v]
/-- 'ρ': where own blocks lie; 'S': blocks that nobody writes any more. -/
inductive VI (S : Nat → Prop) (w : World) : (Nat → Option Nat) → AV → Value → Prop where
  | any {ρ : Nat → Option Nat} (v : Value) : VI S w ρ .any v
  | bool {ρ : Nat → Option Nat} (b : Bool) : VI S w ρ (.bool b) (.bool b)
  | int {ρ : Nat → Option Nat} (k : IntKind) (n : Int) (h1 : k.min ≤ n) (h2 : n ≤ k.max) : VI S w ρ (.int k n) (.int k n)
  | str {ρ : Nat → Option Nat} (l : List UInt8) (s : ByteArray) (h : s.data.toList = l) (h2 : l.length ≤ maxLen) : VI S w ρ (.str l) (.string s)
  | nilp {ρ : Nat → Option Nat} : VI S w ρ .nilp (.pointer none)
  | ptr {ρ : Nat → Option Nat} (id j b : Nat) (h : ρ id = some b) : VI S w ρ (.ptr id j) (.pointer (some ⟨b, j, none⟩))
  | eptr {ρ : Nat → Option Nat} (id sz e j b : Nat) (h : ρ id = some b) : VI S w ρ (.eptr id sz e j) (.pointer (some ⟨b, e * sz + j, none⟩))
  | rptr {ρ : Nat → Option Nat} (cs : List AV) (j b o : Nat) (f : Nat → Value) (hs : S b) (hb : b < w.heap.size) (hc : ∀ i, i < cs.length → w.cell? ⟨b, o + i, none⟩ = some (f i))
      (hv : ∀ (i : Nat) (c : AV), cs[i]? = some c → VI S w (fun _ => none) c (f i)) : VI S w ρ (.rptr cs j) (.pointer (some ⟨b, o + j, none⟩))
  | nilsl {ρ : Nat → Option Nat} : VI S w ρ .nilsl (.slice none 0 0)
  | sln {ρ : Nat → Option Nat} (clip : Bool) (sz : Nat) (get : Nat → List AV) (ao : Option Addr) : VI S w ρ (.sl clip sz 0 get) (.slice ao 0 0)
  | sl {ρ : Nat → Option Nat} (clip : Bool) (sz len : Nat) (get : Nat → List AV) (b o cap : Nat) (f : Nat → Nat → Value) (hs : 0 < len → S b ∧ b < w.heap.size) (hl : len ≤ cap) (hm : cap ≤ maxLen) (hcl : clip = true → cap = len)
      (hz : ∀ e, e < len → (get e).length = sz)
      (hc : ∀ e j, e < len → j < sz → w.cell? ⟨b, o + e * sz + j, none⟩ = some (f e j))
      (hv : ∀ (e j : Nat) (c : AV), e < len → (get e)[j]? = some c → VI S w (fun _ => none) c (f e j)) : VI S w ρ (.sl clip sz len get) (.slice (some ⟨b, o, none⟩) len cap)
  | osl {ρ : Nat → Option Nat} (id sz off len : Nat) (cap : Option Nat) (b o cp : Nat) (h : ρ id = some b) (hl : len ≤ cp) (hm : cp ≤ maxLen) (ho : 0 < cp → o = off * sz)
      (hx : ∃ arr T fr, w.heap[b]? = some (.cells arr T fr) ∧ (off + cp) * sz ≤ arr.size)
      (hcap : ∀ c, cap = some c → cp = c) : VI S w ρ (.osl id sz off len cap) (.slice (some ⟨b, o, none⟩) len cp)
  | agg {ρ : Nat → Option Nat} (cs : List AV) (vs : Array Value) (hl : cs.length = vs.size) (hv : ∀ (i : Nat) (c : AV) (v : Value), cs[i]? = some c → vs[i]? = some v → VI S w ρ c v) : VI S w ρ (.agg cs) (.agg vs)
  | tup {ρ : Nat → Option Nat} (cs : List AV) (vs : Array Value) (hl : cs.length = vs.size) (hv : ∀ (i : Nat) (c : AV) (v : Value), cs[i]? = some c → vs[i]? = some v → VI S w ρ c v) : VI S w ρ (.tup cs) (.tuple vs)
  | fn {ρ : Nat → Option Nat} (f : Nat) (cs : List AV) (vs : Array Value) (hl : cs.length = vs.size) (hv : ∀ (i : Nat) (c : AV) (v : Value), cs[i]? = some c → vs[i]? = some v → VI S w ρ c v) :
      VI S w ρ (.fn f cs) (.func (.func f) #[] vs)
  | nilfn {ρ : Nat → Option Nat} : VI S w ρ .nilfn .nilFunc
  | nilmap {ρ : Nat → Option Nat} : VI S w ρ .nilmap (.map none)
  | map {ρ : Nat → Option Nat} (id b : Nat) (h : ρ id = some b) : VI S w ρ (.map id) (.map (some b))
  | nilif {ρ : Nat → Option Nat} : VI S w ρ .nilif .nilIface
  | iface {ρ : Nat → Option Nat} (t : Nat) (a : AV) (v : Value) (hv : VI S w ρ a v) : VI S w ρ (.iface t a) (.iface t v)
  | iter {ρ : Nat → Option Nat} (id b : Nat) (h : ρ id = some b) : VI S w ρ (.iter id) (.pointer (some ⟨b, 0, none⟩))
  | yfn {ρ : Nat → Option Nat} (id b : Nat) (h : ρ id = some b) : VI S w ρ (.yfn id) (.func (.yield b) #[] #[])
  | intu {ρ : Nat → Option Nat} (k : IntKind) (n : Int) (h1 : k.min ≤ n) (h2 : n ≤ k.max) : VI S w ρ (.intu (some k)) (.int k n)
  | cellu {ρ : Nat → Option Nat} (v : Value) (h : v.oneCell' = true) : VI S w ρ (.intu none) v
abbrev V (ρ : Nat → Option Nat) (S : Nat → Prop) (w : World) (c : AV) (v : Value) : Prop := VI S w ρ c v
/-- How ghost and world may go on: what is not one's own, and what is stable, stays as it is. -/
structure Ext (ρ : Nat → Option Nat) (S : Nat → Prop) (w : World) (ρ' : Nat → Option Nat) (S' : Nat → Prop) (w' : World) : Prop where
  rho : ∀ i b, ρ i = some b → ρ' i = some b
  st : ∀ b, S b → S' b
  same : ∀ b, b < w.heap.size → (S b ∨ ∀ i, ρ i ≠ some b) → w'.heap[b]? = w.heap[b]?
  size : w.heap.size ≤ w'.heap.size
  shp : ∀ (b : Nat) arr T fr, w.heap[b]? = some (.cells arr T fr) → ∃ arr' fr', w'.heap[b]? = some (.cells arr' T fr') ∧ arr'.size = arr.size
  fresh : ∀ i b, ρ' i = some b → (∃ j, ρ j = some b) ∨ w.heap.size ≤ b
  stf : ∀ b, S' b → S b ∨ (∃ i, ρ i = some b) ∨ w.heap.size ≤ b
  os : w'.os = w.os
  tape : w'.tape = w.tape
  output : w'.output = w.output
  drawn : w.drawn ≤ w'.drawn
theorem Ext.refl (ρ : Nat → Option Nat) (S : Nat → Prop) (w : World) : Ext ρ S w ρ S w :=
  ⟨fun _ _ h => h, fun _ h => h, fun _ _ _ => rfl, Nat.le_refl _, fun _ arr _ fr h => ⟨arr, fr, h, rfl⟩, fun _ _ h => .inl ⟨_, h⟩, fun _ h => .inl h, rfl, rfl, rfl, Nat.le_refl _⟩
theorem lt_of_some {w : World} {b : Nat} {o : Obj} (h : w.heap[b]? = some o) : b < w.heap.size := by
  rcases Nat.lt_or_ge b w.heap.size with h' | h'
  · exact h'
  · rw [Array.getElem?_eq_none h'] at h; cases h
theorem Ext.trans {ρ : Nat → Option Nat} {S : Nat → Prop} {w : World} {ρ1 : Nat → Option Nat} {S1 : Nat → Prop} {w1 : World} {ρ2 : Nat → Option Nat} {S2 : Nat → Prop} {w2 : World}
    (h : Ext ρ S w ρ1 S1 w1) (k : Ext ρ1 S1 w1 ρ2 S2 w2) : Ext ρ S w ρ2 S2 w2 := {
  rho i b hi := k.rho _ _ (h.rho _ _ hi)
  st b hb := k.st _ (h.st _ hb)
  same b hb hs := by
    refine (k.same b (Nat.lt_of_lt_of_le hb h.size) ?_).trans (h.same b hb hs)
    rcases hs with hs | hs
    · exact .inl (h.st _ hs)
    · refine .inr fun i hi => ?_
      rcases h.fresh i b hi with ⟨j, h1⟩ | h1
      · exact hs j h1
      · omega
  size := Nat.le_trans h.size k.size
  shp b arr T fr hb := by
    obtain ⟨arr1, fr1, h1, e1⟩ := h.shp b arr T fr hb
    obtain ⟨arr2, fr2, h2, e2⟩ := k.shp b arr1 T fr1 h1
    exact ⟨arr2, fr2, h2, e2.trans e1⟩
  fresh i b hi := by
    rcases k.fresh i b hi with ⟨j, h1⟩ | h1
    · exact h.fresh j b h1
    · exact .inr (Nat.le_trans h.size h1)
  stf b hb := by
    rcases k.stf b hb with h1 | ⟨i, h1⟩ | h1
    · exact h.stf b h1
    · rcases h.fresh i b h1 with h2 | h2
      · exact .inr (.inl h2)
      · exact .inr (.inr h2)
    · exact .inr (.inr (Nat.le_trans h.size h1))
  os := k.os.trans h.os
  tape := k.tape.trans h.tape
  output := k.output.trans h.output
  drawn := Nat.le_trans h.drawn k.drawn }
theorem cell_same {w w' : World} {b o : Nat} (h : w'.heap[b]? = w.heap[b]?) : w'.cell? ⟨b, o, none⟩ = w.cell? ⟨b, o, none⟩ := by
  simp only [World.cell?, h]
/-- What values want of it. -/
structure Ext0 (ρ : Nat → Option Nat) (S : Nat → Prop) (w : World) (ρ' : Nat → Option Nat) (S' : Nat → Prop) (w' : World) : Prop where
  rho : ∀ i b, ρ i = some b → ρ' i = some b
  st : ∀ b, S b → S' b
  same : ∀ b, b < w.heap.size → S b → w'.heap[b]? = w.heap[b]?
  size : w.heap.size ≤ w'.heap.size
  shp : ∀ (b : Nat) arr T fr, w.heap[b]? = some (.cells arr T fr) → ∃ arr' fr', w'.heap[b]? = some (.cells arr' T fr') ∧ arr'.size = arr.size
theorem Ext.zero {ρ : Nat → Option Nat} {S : Nat → Prop} {w : World} {ρ' : Nat → Option Nat} {S' : Nat → Prop} {w' : World} (h : Ext ρ S w ρ' S' w') : Ext0 ρ S w ρ' S' w' :=
  ⟨h.rho, h.st, fun b hb hs => h.same b hb (.inl hs), h.size, h.shp⟩
theorem Ext0.pure {ρ : Nat → Option Nat} {S : Nat → Prop} {w : World} {ρ' : Nat → Option Nat} {S' : Nat → Prop} {w' : World} (h : Ext0 ρ S w ρ' S' w') : Ext0 (fun _ => none) S w (fun _ => none) S' w' :=
  ⟨fun _ _ h => (by cases h), h.st, h.same, h.size, h.shp⟩
/-- What is known of a value stays known. -/
theorem V.mono0 {S : Nat → Prop} {w : World} {S' : Nat → Prop} {w' : World} {ρ : Nat → Option Nat} {a : AV} {v : Value}
    (hv : V ρ S w a v) : ∀ {ρ' : Nat → Option Nat}, Ext0 ρ S w ρ' S' w' → V ρ' S' w' a v := by
  induction hv with
  | any v => exact fun _ => .any v
  | bool b => exact fun _ => .bool b
  | int k n h1 h2 => exact fun _ => .int k n h1 h2
  | str l s h1 h2 => exact fun _ => .str l s h1 h2
  | nilp => exact fun _ => .nilp
  | ptr id j b hb => exact fun h => .ptr id j b (h.rho _ _ hb)
  | eptr id sz e j b hb => exact fun h => .eptr id sz e j b (h.rho _ _ hb)
  | rptr cs j b o f hs hb hc _ ih =>
    exact fun h => .rptr cs j b o f (h.st _ hs) (Nat.lt_of_lt_of_le hb h.size) (fun i hi => (cell_same (h.same b hb hs)).trans (hc i hi)) (fun i c hic => ih i c hic h.pure)
  | nilsl => exact fun _ => .nilsl
  | sln clip sz get ao => exact fun _ => .sln clip sz get ao
  | sl clip sz len get b o cap f hs hl hm hcl hz hc _ ih =>
    exact fun h => .sl clip sz len get b o cap f (fun h0 => ⟨h.st _ (hs h0).1, Nat.lt_of_lt_of_le (hs h0).2 h.size⟩) hl hm hcl hz
      (fun e j he hj => (cell_same (h.same b (hs (by omega)).2 (hs (by omega)).1)).trans (hc e j he hj)) (fun e j c he hc => ih e j c he hc h.pure)
  | osl id sz off len cap b o cp hb hl hm ho hx hcap =>
    intro ρ' h
    obtain ⟨arr, T, fr, h1, h2⟩ := hx
    obtain ⟨arr', fr', h3, h4⟩ := h.shp b arr T fr h1
    exact .osl id sz off len cap b o cp (h.rho _ _ hb) hl hm ho ⟨arr', T, fr', h3, by omega⟩ hcap
  | agg cs vs hl _ ih => exact fun h => .agg cs vs hl fun i c v hc hv => ih i c v hc hv h
  | tup cs vs hl _ ih => exact fun h => .tup cs vs hl fun i c v hc hv => ih i c v hc hv h
  | fn f cs vs hl _ ih => exact fun h => .fn f cs vs hl fun i c v hc hv => ih i c v hc hv h
  | nilfn => exact fun _ => .nilfn
  | nilmap => exact fun _ => .nilmap
  | map id b hb => exact fun h => .map id b (h.rho _ _ hb)
  | nilif => exact fun _ => .nilif
  | iface t a v _ ih => exact fun h => .iface t a v (ih h)
  | iter id b hb => exact fun h => .iter id b (h.rho _ _ hb)
  | yfn id b hb => exact fun h => .yfn id b (h.rho _ _ hb)
  | intu k n h1 h2 => exact fun _ => .intu k n h1 h2
  | cellu v h => exact fun _ => .cellu v h
theorem V.mono {ρ : Nat → Option Nat} {S : Nat → Prop} {w : World} {ρ' : Nat → Option Nat} {S' : Nat → Prop} {w' : World} (h : Ext ρ S w ρ' S' w') {a : AV} {v : Value}
    (hv : V ρ S w a v) : V ρ' S' w' a v := hv.mono0 h.zero
theorem VI.mono {ρ : Nat → Option Nat} {S : Nat → Prop} {w : World} {ρ' : Nat → Option Nat} {S' : Nat → Prop} {w' : World} (h : Ext ρ S w ρ' S' w') {a : AV} {v : Value}
    (hv : VI S w ρ a v) : V ρ' S' w' a v := V.mono h hv
/-- What holds nothing of one's own is known whatever one owns. -/
theorem V.lift {ρ : Nat → Option Nat} {S : Nat → Prop} {w : World} {a : AV} {v : Value} (h : V (fun _ => none) S w a v) : V ρ S w a v :=
  h.mono0 ⟨fun _ _ h => (by cases h), fun _ h => h, fun _ _ _ => rfl, Nat.le_refl _, fun _ arr _ fr h => ⟨arr, fr, h, rfl⟩⟩
theorem VI.lift {ρ : Nat → Option Nat} {S : Nat → Prop} {w : World} {a : AV} {v : Value} (h : VI S w (fun _ => none) a v) : V ρ S w a v := V.lift h
/-- A type that is known, or any. -/
def tyOr : Option Nat → Nat → Nat
  | some t, _ => t
  | none, x => x
/-- Temporaries, one by one. -/
def TRel (ρ : Nat → Option Nat) (S : Nat → Prop) (w : World) (ts : List AV) (a : Array Value) : Prop :=
  ts.length = a.size ∧ ∀ (i : Nat) (c : AV) (v : Value), ts[i]? = some c → a[i]? = some v → V ρ S w c v
theorem TRel.mono {ρ : Nat → Option Nat} {S : Nat → Prop} {w : World} {ρ' : Nat → Option Nat} {S' : Nat → Prop} {w' : World} (h : Ext ρ S w ρ' S' w') {ts : List AV} {a : Array Value}
    (hv : TRel ρ S w ts a) : TRel ρ' S' w' ts a := ⟨hv.1, fun i c v hc hi => (hv.2 i c v hc hi).mono h⟩
def XRel (ρ : Nat → Option Nat) (S : Nat → Prop) (w : World) : XB → Obj → Prop
  | .loop st pend ts ps asg body df, o => ∃ fn tm d, o = .loop { state := st, pending := pend, fn := fn, tmps := tm, params := ps, assign := asg, body := body, defers := d } ∧ TRel ρ S w ts tm ∧ ρ df = some d
  | .dfr, o => o = .deferred (some [])
  | .mit m since seen stepped, o => ∃ mb, o = .mapIter mb since seen.toArray stepped ∧ (match m with | none => mb = none | some id => ∃ b, ρ id = some b ∧ mb = some b)
  | .mitn m since n stepped bs, o => ∃ (seen : List Nat) (b : Nat), o = .mapIter (some b) since seen.toArray stepped ∧ ρ m = some b ∧ seen.length = n ∧ seen.Nodup ∧ ∀ x, x ∈ seen → x ∈ bs
theorem XRel.mono {ρ : Nat → Option Nat} {S : Nat → Prop} {w : World} {ρ' : Nat → Option Nat} {S' : Nat → Prop} {w' : World} (h : Ext ρ S w ρ' S' w') {x : XB} {o : Obj} (hx : XRel ρ S w x o) : XRel ρ' S' w' x o := by
  cases x with
  | loop st pend ts ps asg body df =>
    obtain ⟨fn, tm, d, h1, h2, h3⟩ := hx
    exact ⟨fn, tm, d, h1, h2.mono h, h.rho _ _ h3⟩
  | dfr => exact hx
  | mit m since seen stepped =>
    obtain ⟨mb, h1, h2⟩ := hx
    refine ⟨mb, h1, ?_⟩
    cases m with
    | none => exact h2
    | some id => obtain ⟨b, h3, h4⟩ := h2; exact ⟨b, h.rho _ _ h3, h4⟩
  | mitn m since n stepped bs =>
    obtain ⟨seen, b, h1, h2, h3⟩ := hx
    exact ⟨seen, b, h1, h.rho _ _ h2, h3⟩
/-- Births of a map's entries, and its clock. -/
def bornOk (bk : Option (List Nat × Nat)) (es' : Array MapEntry) (clock : Nat) : Prop := match bk with
  | none => True
  | some (bs, ck) => es'.toList.map (·.born) = bs ∧ ck = clock
/-- An own block, and what is known of it. -/
def BRel (ρ : Nat → Option Nat) (S : Nat → Prop) (w : World) (id : Nat) : Blk → Prop
  | .dead => True
  | .var cs T0 => ∀ b, ρ id = some b → ¬ S b ∧ ∃ arr T fr, w.heap[b]? = some (.cells arr (tyOr T0 T) fr) ∧ arr.size = cs.length ∧ (∀ o, o < arr.size → w.frozen? ⟨b, o, none⟩ = false) ∧
      ∀ (j : Nat) (c : AV) (v : Value), cs[j]? = some c → arr[j]? = some v → V ρ S w c v
  | .row sz len get T0 => ∀ b, ρ id = some b → ¬ S b ∧ ∃ arr T fr, w.heap[b]? = some (.cells arr (tyOr T0 T) fr) ∧ len * sz ≤ arr.size ∧ (∀ o, o < arr.size → w.frozen? ⟨b, o, none⟩ = false) ∧
      (∀ e, e < len → (get e).length = sz) ∧ ∀ (e j : Nat) (c : AV) (v : Value), e < len → (get e)[j]? = some c → arr[e * sz + j]? = some v → V ρ S w c v
  | .iter s pos => ∀ b, ρ id = some b → ¬ S b ∧ ∃ bs, w.heap[b]? = some (.stringIter bs pos) ∧ bs.data.toList = s ∧ s.length ≤ maxLen
  | .map es bk => ∀ b, ρ id = some b → ¬ S b ∧ ∃ es' clock, w.heap[b]? = some (.map es' clock) ∧ es.length = es'.size ∧ bornOk bk es' clock ∧
      ∀ (i : Nat) k x (e : MapEntry), es[i]? = some (k, x) → es'[i]? = some e → V ρ S w k e.key ∧ V ρ S w x e.val
  | .ext x => ∀ b, ρ id = some b → ¬ S b ∧ ∃ o, w.heap[b]? = some o ∧ XRel ρ S w x o
def Blk.live : Blk → Bool
  | .dead => false
  | _ => true
/-- The own blocks lie apart, and hold what is known of them. -/
structure HRel (ρ : Nat → Option Nat) (S : Nat → Prop) (w : World) (H : List Blk) : Prop where
  inj : ∀ i j bi bj b, H[i]? = some bi → H[j]? = some bj → bi.live = true → bj.live = true → ρ i = some b → ρ j = some b → i = j
  blk : ∀ i b, H[i]? = some b → BRel ρ S w i b
  out : ∀ i b, ρ i = some b → i < H.length ∧ b < w.heap.size
structure St where
  tmps : List AV
  heap : List Blk
structure Rel (ds : List Deferred) (ρ : Nat → Option Nat) (S : Nat → Prop) (st : St) (a : Act) (w : World) : Prop where
  defers : a.defers = ds
  tmps : TRel ρ S w st.tmps a.tmps
  heap : HRel ρ S w st.heap
theorem TRel.set {ρ : Nat → Option Nat} {S : Nat → Prop} {w : World} {ts : List AV} {a : Array Value} (h : TRel ρ S w ts a) {c : AV} {v : Value} (hv : V ρ S w c v) (d : Nat) :
    TRel ρ S w (ts.set d c) (a.setIfInBounds d v) := by
  refine ⟨by simp [h.1], fun i c' v' hc hi => ?_⟩
  rw [List.getElem?_set] at hc
  rw [Array.getElem?_setIfInBounds] at hi
  by_cases hd : d = i
  · subst hd
    simp only [if_true] at hc hi
    split at hc
    · rename_i h1
      rw [if_pos (by rw [← h.1]; exact h1)] at hi
      cases hc; cases hi; exact hv
    · cases hc
  · simp only [hd, if_false] at hc hi
    exact h.2 i c' v' hc hi
end
end Go.Vc

/- What types are; constants; how own memory grows and turns. -/
namespace Go.Vc
open Go
noncomputable section
def lo : IntKind → Int
  | .i8 => -128 | .i16 => -32768 | .i32 => -2147483648 | .i64 => -9223372036854775808 | .u8 => 0 | .u16 => 0 | .u32 => 0 | .u64 => 0
def hi : IntKind → Int
  | .i8 => 127 | .i16 => 32767 | .i32 => 2147483647 | .i64 => 9223372036854775807 | .u8 => 255 | .u16 => 65535 | .u32 => 4294967295 | .u64 => 18446744073709551615
theorem lo_eq (k : IntKind) : lo k = k.min := by cases k <;> decide
theorem hi_eq (k : IntKind) : hi k = k.max := by cases k <;> decide
def inK (k : IntKind) (n : Int) : Prop := lo k ≤ n ∧ n ≤ hi k
instance (k : IntKind) (n : Int) : Decidable (inK k n) := inferInstanceAs (Decidable (_ ∧ _))
theorem wrap_of_inK {k : IntKind} {n : Int} (h : inK k n) : k.wrap n = n := by
  obtain ⟨h1, h2⟩ := h
  cases k <;> simp only [lo, hi] at h1 h2 <;> simp only [IntKind.wrap, IntKind.bits, IntKind.signed] <;> simp <;> omega
theorem inK_wrap (k : IntKind) (n : Int) : inK k (k.wrap n) := by
  cases k <;> simp only [inK, lo, hi, IntKind.wrap, IntKind.bits, IntKind.signed] <;> simp <;> (try split) <;> omega
/-- The plain cell of a constant. -/
def AV.ofC1 : Value → AV
  | .bool b => .bool b
  | .int k n => if inK k n then .int k n else .any
  | .string s => if s.size ≤ maxLen then .str s.data.toList else .any
  | .pointer none => .nilp
  | .slice none 0 0 => .nilsl
  | .map none => .nilmap
  | .nilFunc => .nilfn
  | .nilIface => .nilif
  | _ => .any
/-- A constant. -/
def AV.ofC : Value → AV
  | .agg vs => .agg (vs.toList.map AV.ofC1)
  | v => AV.ofC1 v
section
variable {ρ : Nat → Option Nat} {S : Nat → Prop} {w : World}
theorem V.ofC1 (v : Value) : V ρ S w (AV.ofC1 v) v := by
  unfold AV.ofC1
  split
  · exact .bool _
  · split
    · rename_i h; exact .int _ _ (lo_eq _ ▸ h.1) (hi_eq _ ▸ h.2)
    · exact .any _
  · split
    · rename_i h; exact .str _ _ rfl (by simpa using h)
    · exact .any _
  · exact .nilp
  · exact .nilsl
  · exact .nilmap
  · exact .nilfn
  · exact .nilif
  · exact .any _
theorem V.ofC (v : Value) : V ρ S w (AV.ofC v) v := by
  unfold AV.ofC
  split
  · rename_i vs
    refine .agg _ _ (by simp) fun i c v hc hv => ?_
    simp only [List.getElem?_map] at hc
    rw [Array.getElem?_toList] at hc
    rw [hv] at hc
    cases hc
    exact V.ofC1 v
  · exact V.ofC1 _
theorem V.int' {k : IntKind} {n : Int} (h : inK k n) : V ρ S w (.int k n) (.int k n) := .int _ _ (lo_eq _ ▸ h.1) (hi_eq _ ▸ h.2)
theorem V.intR {k : IntKind} {n : Int} {v : Value} (h : V ρ S w (.int k n) v) : v = .int k n ∧ inK k n := by
  cases h with | int _ _ h1 h2 => exact ⟨rfl, lo_eq _ ▸ h1, hi_eq _ ▸ h2⟩
theorem V.boolR {b : Bool} {v : Value} (h : V ρ S w (.bool b) v) : v = .bool b := by cases h; rfl
/-- The cells of a value, one by one. -/
theorem V.cells {c : AV} {v : Value} (hn : c ≠ .any) (h : V ρ S w c v) : c.cells.length = v.cells.size ∧ ∀ (i : Nat) (x : AV) (y : Value), c.cells[i]? = some x → v.cells[i]? = some y → V ρ S w x y := by
  have h0 := h
  have one : ∀ (c : AV) (v : Value), V ρ S w c v → c.cells = [c] → v.cells = #[v] → c.cells.length = v.cells.size ∧ ∀ (i : Nat) (x : AV) (y : Value), c.cells[i]? = some x → v.cells[i]? = some y → V ρ S w x y := by
    intro c v h e1 e2
    rw [e1, e2]
    refine ⟨rfl, fun i x y hx hy => ?_⟩
    cases i with
    | zero => simp at hx hy; rw [← hx, ← hy]; exact h
    | succ i => simp at hx
  cases h
  case any => exact absurd rfl hn
  case agg cs vs hl hv => exact ⟨hl, hv⟩
  case cellu h1 => exact one _ _ h0 rfl (by cases v <;> first | rfl | cases h1)
  all_goals exact one _ _ h0 rfl rfl
end
inductive TK : Type where
  | bool | int (k : IntKind) | str | slice (e : TypeId) | arr (n : Nat) (e : TypeId) | struct (fs : List (Nat × TypeId)) | ptr (e : TypeId) | map (k e : TypeId) | iface | func | other
def TK.of : TypeDesc → TK
  | .bool => .bool | .int k => .int k | .string => .str | .slice e => .slice e | .array n e => .arr n e
  | .struct fs => if fs.any (·.name == "_") then .other else .struct (fs.toList.map fun f => (f.offset, f.type))
  | .pointer e => .ptr e | .map k e => .map k e | .interface _ => .iface | .func .. => .func | _ => .other
structure TI : Type where
  size : Nat
  bytes : Nat
  agg : Bool
  kind : TK
  zero : Option AV
  eqok : Bool
def isAggD : TypeDesc → Bool
  | .struct _ | .array _ _ => true
  | _ => false
def tiOf (P : Program) (t : TypeId) : Option TI :=
  match P.info? t, P.underlying t with
  | some i, some d => some ⟨i.size, i.bytes, isAggD d, TK.of d, i.zero.map AV.ofC, !P.eqGuardType P.depth t && !P.stoodInHeld t⟩
  | _, _ => none
/-- A table of types tells what the program's tells. -/
def TyOk (P : Program) (TY : TypeId → Option TI) : Prop := ∀ t i, TY t = some i → tiOf P t = some i
section
variable {P : Program} {TY : TypeId → Option TI} {w : World}
theorem TyOk.get (h : TyOk P TY) {t : TypeId} {i : TI} (hi : TY t = some i) : ∃ info d, P.info? t = some info ∧ P.underlying t = some d ∧ info.size = i.size ∧ info.bytes = i.bytes ∧ isAggD d = i.agg ∧ TK.of d = i.kind ∧ info.zero.map AV.ofC = i.zero ∧ (!P.eqGuardType P.depth t && !P.stoodInHeld t) = i.eqok := by
  have := h t i hi
  unfold tiOf at this
  split at this
  · rename_i info d h1 h2; cases this; exact ⟨info, d, h1, h2, rfl, rfl, rfl, rfl, rfl, rfl⟩
  · cases this
theorem run_typeInfo' {t : TypeId} {info : TypeInfo} (h : P.info? t = some info) : (typeInfo t).run P w = .ok info w := by
  unfold typeInfo
  simp [h]
theorem run_underlying' {t : TypeId} {d : TypeDesc} (h : P.underlying t = some d) : (underlying t).run P w = .ok d w := by
  unfold underlying
  simp [h]
theorem TyOk.size (h : TyOk P TY) {t : TypeId} {i : TI} (hi : TY t = some i) : (sizeOf t).run P w = .ok i.size w := by
  obtain ⟨info, d, h1, _, h3, _⟩ := h.get hi
  unfold sizeOf
  simp [run_typeInfo' h1, h3]
theorem TyOk.agg (h : TyOk P TY) {t : TypeId} {i : TI} (hi : TY t = some i) : (isAgg t).run P w = .ok i.agg w := by
  obtain ⟨info, d, _, h2, _, _, h5, _, _, _⟩ := h.get hi
  unfold isAgg
  simp only [Sem.run_bind, run_underlying' h2, Result.andThen_ok]
  rw [← h5]
  cases d <;> rfl
theorem TyOk.zero (h : TyOk P TY) {t : TypeId} {i : TI} {z : AV} (hi : TY t = some i) (hz : i.zero = some z) : ∃ v, (∀ w, (zeroValue t).run P w = .ok v w) ∧ z = AV.ofC v := by
  obtain ⟨info, d, h1, _, _, _, _, _, h7, _⟩ := h.get hi
  rw [hz] at h7
  cases hv : info.zero with
  | none => rw [hv] at h7; cases h7
  | some v =>
    rw [hv] at h7; cases h7
    refine ⟨v, fun w => ?_, rfl⟩
    unfold zeroValue
    simp [run_typeInfo' h1, hv]
end
end
end Go.Vc

/- Own memory: how it grows, how it turns; reading and writing cells. -/
namespace Go.Vc
open Go
noncomputable section
section
variable {ρ : Nat → Option Nat} {S : Nat → Prop} {w : World} {ρ' : Nat → Option Nat} {S' : Nat → Prop} {w' : World}
theorem addr_add (b o k : Nat) : (⟨b, o, none⟩ : Addr).add k = ⟨b, o + k, none⟩ := by unfold Addr.add; split <;> simp_all
theorem frozen_same {w w' : World} {b o : Nat} (h : w'.heap[b]? = w.heap[b]?) : w'.frozen? ⟨b, o, none⟩ = w.frozen? ⟨b, o, none⟩ := by
  simp only [World.frozen?, h]
/-- What is known of a block stays known, where the block is the same. -/
theorem BRel.keep {id : Nat} {blk : Blk} (h : BRel ρ S w id blk) (hE : Ext ρ S w ρ' S' w') (hid : ∀ b, ρ' id = some b → ρ id = some b ∧ w'.heap[b]? = w.heap[b]? ∧ (S' b → S b)) :
    BRel ρ' S' w' id blk := by
  cases blk with
  | dead => trivial
  | var cs T0 =>
    intro b hb
    obtain ⟨h1, h2, h3⟩ := hid b hb
    obtain ⟨h4, arr, T, fr, h5, h6, h7, h8⟩ := h b h1
    exact ⟨fun h => h4 (h3 h), arr, T, fr, h2.trans h5, h6, fun o ho => (frozen_same h2).trans (h7 o ho), fun j c v hc hv => (h8 j c v hc hv).mono hE⟩
  | row sz len get T0 =>
    intro b hb
    obtain ⟨h1, h2, h3⟩ := hid b hb
    obtain ⟨h4, arr, T, fr, h5, h6, h7, h8, h9⟩ := h b h1
    exact ⟨fun h => h4 (h3 h), arr, T, fr, h2.trans h5, h6, fun o ho => (frozen_same h2).trans (h7 o ho), h8, fun e j c v he hc hv => (h9 e j c v he hc hv).mono hE⟩
  | iter s pos =>
    intro b hb
    obtain ⟨h1, h2, h3⟩ := hid b hb
    obtain ⟨h4, bs, h5, h6⟩ := h b h1
    exact ⟨fun h => h4 (h3 h), bs, h2.trans h5, h6⟩
  | map es bk =>
    intro b hb
    obtain ⟨h1, h2, h3⟩ := hid b hb
    obtain ⟨h4, es', clock, h5, h6, h8, h7⟩ := h b h1
    exact ⟨fun h => h4 (h3 h), es', clock, h2.trans h5, h6, h8, fun i k x e hi he => ⟨((h7 i k x e hi he).1).mono hE, ((h7 i k x e hi he).2).mono hE⟩⟩
  | ext x =>
    intro b hb
    obtain ⟨h1, h2, h3⟩ := hid b hb
    obtain ⟨h4, o, h5, h6⟩ := h b h1
    exact ⟨fun h => h4 (h3 h), o, h2.trans h5, h6.mono hE⟩
/-- A new block. -/
def newρ (ρ : Nat → Option Nat) (n b : Nat) : Nat → Option Nat := fun i => if i = n then some b else ρ i
theorem heap_alloc_lt (w : World) (o : Obj) {k : Nat} (h : k < w.heap.size) : (w.alloc o).heap[k]? = w.heap[k]? := by
  show (w.heap.push o)[k]? = _
  rw [Array.getElem?_push, if_neg (by omega)]
theorem heap_alloc_at (w : World) (o : Obj) : (w.alloc o).heap[w.heap.size]? = some o := by
  show (w.heap.push o)[w.heap.size]? = _
  rw [Array.getElem?_push, if_pos rfl]
theorem ext_alloc {H : List Blk} (h : HRel ρ S w H) (o : Obj) : Ext ρ S w (newρ ρ H.length w.heap.size) S (w.alloc o) := {
  rho i b hi := by
    unfold newρ
    have := (h.out i b hi).1
    rw [if_neg (by omega)]; exact hi
  st _ hb := hb
  same b hb _ := heap_alloc_lt w o hb
  size := by simp
  shp b arr T fr hb := ⟨arr, fr, (heap_alloc_lt w o (lt_of_some hb)).trans hb, rfl⟩
  fresh i b hi := by
    unfold newρ at hi
    split at hi
    · cases hi; exact .inr (Nat.le_refl _)
    · exact .inl ⟨_, hi⟩
  stf _ hb := .inl hb
  os := rfl
  tape := rfl
  output := rfl
  drawn := Nat.le_refl _ }
theorem hrel_alloc {H : List Blk} (h : HRel ρ S w H) (o : Obj) {blk : Blk} (hb : BRel (newρ ρ H.length w.heap.size) S (w.alloc o) H.length blk) :
    HRel (newρ ρ H.length w.heap.size) S (w.alloc o) (H ++ [blk]) := {
  inj i j bi bj b hi hj li lj ri rj := by
    unfold newρ at ri rj
    split at ri <;> split at rj
    · omega
    · cases ri
      have := (h.out j _ rj).2
      omega
    · cases rj
      have := (h.out i _ ri).2
      omega
    · have i1 := (h.out i _ ri).1
      have j1 := (h.out j _ rj).1
      rw [List.getElem?_append_left (by omega)] at hi hj
      exact h.inj i j bi bj b hi hj li lj ri rj
  blk i b hi := by
    by_cases hlt : i < H.length
    · rw [List.getElem?_append_left hlt] at hi
      refine (h.blk i b hi).keep (ext_alloc h o) fun b' hb' => ?_
      unfold newρ at hb'
      rw [if_neg (by omega)] at hb'
      exact ⟨hb', heap_alloc_lt w o (h.out i b' hb').2, fun h => h⟩
    · rw [List.getElem?_append_right (by omega)] at hi
      have : i = H.length := by
        rcases Nat.eq_or_lt_of_le (Nat.le_of_not_lt hlt) with h1 | h1
        · exact h1.symm
        · rw [List.getElem?_eq_none (by simp; omega)] at hi; cases hi
      subst this
      simp at hi
      subst hi
      exact hb
  out i b hi := by
    unfold newρ at hi
    simp only [List.length_append, List.length_singleton, World.size_alloc]
    split at hi
    · cases hi; omega
    · have := h.out i b hi; omega }
/-- One own block turns. -/
theorem ext_upd {H : List Blk} (h : HRel ρ S w H) {id b : Nat} (hr : ρ id = some b) (hns : ¬ S b) (hsz : w'.heap.size = w.heap.size) (hoth : ∀ k, k ≠ b → w'.heap[k]? = w.heap[k]?)
    (hshp : ∀ arr T fr, w.heap[b]? = some (.cells arr T fr) → ∃ arr' fr', w'.heap[b]? = some (.cells arr' T fr') ∧ arr'.size = arr.size)
    (hos : w'.os = w.os) (htp : w'.tape = w.tape) (hout : w'.output = w.output) (hdr : w'.drawn = w.drawn := by rfl) : Ext ρ S w ρ S w' := {
  rho _ _ h := h
  st _ h := h
  same k hk hs := hoth k (by
    rintro rfl
    rcases hs with hs | hs
    · exact hns hs
    · exact hs id hr)
  size := by omega
  shp k arr T fr hk := by
    by_cases hkb : k = b
    · subst hkb; exact hshp arr T fr hk
    · exact ⟨arr, fr, (hoth k hkb).trans hk, rfl⟩
  fresh _ _ h := .inl ⟨_, h⟩
  stf _ h := .inl h
  os := hos
  tape := htp
  output := hout
  drawn := Nat.le_of_eq hdr.symm }
theorem hrel_upd {H : List Blk} (h : HRel ρ S w H) {id b : Nat} {old new : Blk} (hid : H[id]? = some old) (hlive : old.live = true) (hr : ρ id = some b) (hE : Ext ρ S w ρ S w')
    (hsz : w'.heap.size = w.heap.size) (hoth : ∀ k, k ≠ b → w'.heap[k]? = w.heap[k]?) (hnew : BRel ρ S w' id new) : HRel ρ S w' (H.set id new) := {
  inj i j bi bj c hi hj li lj ri rj := by
    have hlt : id < H.length := (h.out id b hr).1
    have key : ∀ (i : Nat) (bi : Blk), (H.set id new)[i]? = some bi → bi.live = true → ∃ bi', H[i]? = some bi' ∧ bi'.live = true := by
      intro i bi hi li
      rw [List.getElem?_set] at hi
      by_cases h1 : id = i
      · subst h1; exact ⟨old, hid, hlive⟩
      · rw [if_neg h1] at hi; exact ⟨bi, hi, li⟩
    obtain ⟨bi', hi', li'⟩ := key i bi hi li
    obtain ⟨bj', hj', lj'⟩ := key j bj hj lj
    exact h.inj i j bi' bj' c hi' hj' li' lj' ri rj
  blk i bi hi := by
    rw [List.getElem?_set] at hi
    by_cases h1 : id = i
    · subst h1
      rw [if_pos rfl] at hi
      split at hi
      · cases hi; exact hnew
      · cases hi
    · rw [if_neg h1] at hi
      by_cases hl : bi.live = true
      · refine (h.blk i bi hi).keep hE fun b' hb' => ⟨hb', hoth b' ?_, fun h => h⟩
        rintro rfl
        exact h1 (h.inj id i old bi b' hid hi hlive hl hr hb')
      · cases bi <;> simp [Blk.live] at hl
        trivial
  out i c hi := by
    have := h.out i c hi
    simp only [List.length_set]
    omega }
/-- A block is forgotten. -/
theorem hrel_kill {H : List Blk} (h : HRel ρ S w H) (id : Nat) : HRel ρ S w (H.set id .dead) := {
  inj i j bi bj c hi hj li lj ri rj := by
    have key : ∀ (i : Nat) (bi : Blk), (H.set id .dead)[i]? = some bi → bi.live = true → H[i]? = some bi := by
      intro i bi hi li
      rw [List.getElem?_set] at hi
      split at hi
      · split at hi
        · cases hi; cases li
        · cases hi
      · exact hi
    exact h.inj i j bi bj c (key i bi hi li) (key j bj hj lj) li lj ri rj
  blk i bi hi := by
    rw [List.getElem?_set] at hi
    split at hi
    · split at hi
      · cases hi; trivial
      · cases hi
    · exact h.blk i bi hi
  out i c hi := by have := h.out i c hi; simp only [List.length_set]; exact this }
end
/-! ### Writing a row of cells -/
def spl (arr : Array Value) : Nat → List Value → Array Value
  | _, [] => arr
  | o, v :: r => spl (arr.setIfInBounds o v) (o + 1) r
theorem spl_size (arr : Array Value) : ∀ (vs : List Value) (o : Nat), (spl arr o vs).size = arr.size := by
  intro vs
  induction vs generalizing arr with
  | nil => intro o; rfl
  | cons v r ih => intro o; simp only [spl, ih, Array.size_setIfInBounds]
theorem spl_get (vs : List Value) : ∀ (arr : Array Value) (o i : Nat), o + vs.length ≤ arr.size → (spl arr o vs)[i]? = if o ≤ i ∧ i < o + vs.length then vs[i - o]? else arr[i]? := by
  induction vs with
  | nil => intro arr o i _; simp [spl]; intro h1 h2; omega
  | cons v r ih =>
    intro arr o i hb
    simp only [List.length_cons] at hb
    rw [spl, ih _ _ _ (by simp; omega)]
    by_cases h1 : o = i
    · subst h1
      rw [if_neg (by omega), if_pos (by simp)]
      rw [Array.getElem?_setIfInBounds, if_pos rfl, if_pos (by omega)]
      simp
    · by_cases h2 : o + 1 ≤ i ∧ i < o + 1 + r.length
      · rw [if_pos h2, if_pos (by simp; omega)]
        rw [show i - o = (i - (o + 1)) + 1 by omega, List.getElem?_cons_succ]
      · rw [if_neg h2, if_neg (by simp; omega)]
        rw [Array.getElem?_setIfInBounds, if_neg h1]
theorem setCells_heap (b : Nat) : ∀ (vs : List Value) (o : Nat) (w : World) arr T fr, w.heap[b]? = some (.cells arr T fr) → (w.setCells b o vs).heap[b]? = some (.cells (spl arr o vs) T fr)
  | [], _, _, _, _, _, h => h
  | v :: r, o, w, arr, T, fr, h => by
    rw [World.setCells, spl]
    refine setCells_heap b r (o + 1) _ _ _ _ ?_
    simp only [World.setCell, Array.getElem?_modify, h]
    simp
theorem setCells_other (b : Nat) : ∀ (vs : List Value) (o : Nat) (w : World) (k : Nat), k ≠ b → (w.setCells b o vs).heap[k]? = w.heap[k]?
  | [], _, _, _, _ => rfl
  | v :: r, o, w, k, h => by
    rw [World.setCells, setCells_other b r _ _ k h]
    simp only [World.setCell, Array.getElem?_modify]
    rw [if_neg (by simpa using fun e => h e.symm)]
theorem setCells_size (b : Nat) : ∀ (vs : List Value) (o : Nat) (w : World), (w.setCells b o vs).heap.size = w.heap.size
  | [], _, _ => rfl
  | v :: r, o, w => by rw [World.setCells, setCells_size b r]; simp
theorem setCells_rest (b : Nat) : ∀ (vs : List Value) (o : Nat) (w : World), (w.setCells b o vs).os = w.os ∧ (w.setCells b o vs).tape = w.tape ∧ (w.setCells b o vs).output = w.output
  | [], _, _ => ⟨rfl, rfl, rfl⟩
  | v :: r, o, w => by rw [World.setCells]; exact setCells_rest b r (o + 1) (w.setCell ⟨b, o, none⟩ v)
theorem setCells_drawn (b : Nat) : ∀ (vs : List Value) (o : Nat) (w : World), (w.setCells b o vs).drawn = w.drawn
  | [], _, _ => rfl
  | v :: r, o, w => by rw [World.setCells]; exact setCells_drawn b r (o + 1) (w.setCell ⟨b, o, none⟩ v)
/-! ### Reading and writing at a type -/
def AV.one : AV → Bool
  | .any | .agg _ | .tup _ => false
  | _ => true
/-- What is read at a type, from cell j of known cells on. -/
def loadA (i : TI) (cs : List AV) (j : Nat) : Option AV :=
  if i.agg then (if ((cs.drop j).take i.size).length = i.size then some (.agg ((cs.drop j).take i.size)) else none) else cs[j]?
/-- Cells with others written over them from cell j on. -/
def over (cs : List AV) (j : Nat) (ns : List AV) : List AV := cs.take j ++ ns ++ cs.drop (j + ns.length)
/-- The one or the other, told apart inside where that can be. -/
def selI (b : Bool) (x y : Int) : Int := if b then x else y
def mergeA (b : Bool) (x y : AV) : AV := match x, y with
  | .int k m, .int k' n => if k = k' then .int k (selI b m n) else (match b with | true => .int k m | false => .int k' n)
  | .bool m, .bool n => .bool (bif b then m else n)
  | .str m, .str n => .str (bif b then m else n)
  | x, y => match b with | true => x | false => y
theorem mergeA_eq (b : Bool) (x y : AV) : mergeA b x y = if b = true then x else y := by
  unfold mergeA selI
  split
  · split
    · rename_i h; subst h; cases b <;> rfl
    · cases b <;> rfl
  · cases b <;> rfl
  · cases b <;> rfl
  · cases b <;> rfl
def mergeL (b : Bool) : List AV → List AV → List AV
  | x :: xs, y :: ys => mergeA b x y :: mergeL b xs ys
  | xs, ys => match b with | true => xs | false => ys
theorem mergeL_eq (b : Bool) : ∀ (xs ys : List AV), mergeL b xs ys = if b = true then xs else ys
  | x :: xs, y :: ys => by rw [mergeL, mergeA_eq, mergeL_eq b xs ys]; cases b <;> rfl
  | [], ys => by cases b <;> rfl
  | x :: xs, [] => by cases b <;> rfl
theorem merge_row (e : Nat) (c : List AV) (get : Nat → List AV) : (fun k => mergeL (decide (k = e)) c (get k)) = fun k => if k = e then c else get k := by
  funext k; rw [mergeL_eq]; simp only [decide_eq_true_eq]
theorem over_length {cs : List AV} {j : Nat} {ns : List AV} (h : j + ns.length ≤ cs.length) : (over cs j ns).length = cs.length := by
  simp [over]; omega
theorem over_get {cs : List AV} {j : Nat} {ns : List AV} (h : j + ns.length ≤ cs.length) (i : Nat) : (over cs j ns)[i]? = if j ≤ i ∧ i < j + ns.length then ns[i - j]? else cs[i]? := by
  unfold over
  by_cases h1 : i < j
  · rw [if_neg (by omega), List.append_assoc, List.getElem?_append_left (by simp; omega), List.getElem?_take, if_pos h1]
  · by_cases h2 : i < j + ns.length
    · rw [if_pos (by omega), List.append_assoc, List.getElem?_append_right (by simp; omega), List.getElem?_append_left (by simp; omega)]
      simp only [List.length_take]; congr 1; omega
    · rw [if_neg (by omega), List.getElem?_append_right (by simp; omega), List.getElem?_drop]
      simp only [List.length_append, List.length_take]; congr 1; omega
section
variable {P : Program} {TY : TypeId → Option TI} {ρ : Nat → Option Nat} {S : Nat → Prop} {w : World}
theorem run_loadVar (hTY : TyOk P TY) {t : TypeId} {i : TI} (hi : TY t = some i) {cs : List AV} {b o j : Nat} {f : Nat → Value} {c : AV}
    (hc : ∀ k, k < cs.length → w.cell? ⟨b, o + k, none⟩ = some (f k)) (hv : ∀ (k : Nat) (c : AV), cs[k]? = some c → V ρ S w c (f k)) (hl : loadA i cs j = some c) :
    ∃ v, (loadVar t ⟨b, o + j, none⟩).run P w = .ok v w ∧ V ρ S w c v := by
  unfold loadA at hl
  unfold loadVar
  simp only [Sem.run_bind, hTY.agg hi, Result.andThen_ok]
  by_cases ha : i.agg = true
  · simp only [ha, if_true] at hl ⊢
    split at hl
    · rename_i hlen
      cases hl
      have hsz : i.size = 0 ∨ j + i.size ≤ cs.length := by simp at hlen; omega
      refine ⟨.agg ((List.range i.size).map fun k => f (j + k)).toArray, ?_, ?_⟩
      · simp only [Sem.run_bind, hTY.size hi, Result.andThen_ok]
        rw [run_loadCells w _ _ (fun k => f (j + k)) (fun k hk => ?_)]
        · rfl
        · rw [addr_add, Nat.add_assoc]
          exact hc _ (by omega)
      · refine .agg _ _ (by simpa using hlen) fun k c v hk hv' => ?_
        simp only [List.getElem?_take, List.getElem?_drop] at hk
        split at hk
        · rename_i hlt
          simp [hlt] at hv'
          subst hv'
          exact hv _ _ hk
        · cases hk
    · cases hl
  · simp only [ha, if_false, Bool.false_eq_true] at hl ⊢
    have hlt : j < cs.length := by
      rcases Nat.lt_or_ge j cs.length with h | h
      · exact h
      · rw [List.getElem?_eq_none h] at hl; cases hl
    refine ⟨f j, ?_, hv _ _ hl⟩
    rw [run_load, hc j hlt]
theorem oneCell_of_V {c : AV} {v : Value} (h : V ρ S w c v) (h1 : c.one = true) : v.oneCell' = true := by
  cases h <;> simp [AV.one] at h1 <;> first | rfl | assumption
/-- Cells are written into one's own block. -/
theorem run_storeVar (hTY : TyOk P TY) {t : TypeId} {i : TI} (hi : TY t = some i) {b o : Nat} {arr : Array Value} {T : TypeId} {fr : Nat × Nat} {c : AV} {v : Value}
    (hb : w.heap[b]? = some (.cells arr T fr)) (hfr : ∀ k, k < arr.size → w.frozen? ⟨b, k, none⟩ = false) (hv : V ρ S w c v) (hn : c ≠ .any) (hsz : c.cells.length = i.size)
    (hone : c.cells.all AV.one = true) (hin : o + c.cells.length ≤ arr.size) :
    (storeVar t ⟨b, o, none⟩ v).run P w = .ok () (w.setCells b o v.cells.toList) := by
  obtain ⟨hlen, hcs⟩ := hv.cells hn
  unfold storeVar
  simp only [Sem.run_bind, hTY.size hi, Result.andThen_ok]
  rw [if_neg (by omega)]
  have := run_storeCells_cells (P := P) b o v.cells.toList 0 w (fun j hj => ?_) (fun j hj => ?_) (fun x hx => ?_)
  · simpa using this
  · simp at hj
    simp only [World.cell?, hb]
    simp; omega
  · simp at hj
    exact hfr _ (by omega)
  · obtain ⟨k, hk, rfl⟩ := List.getElem_of_mem hx
    simp at hk
    have hk' : k < c.cells.length := by omega
    refine oneCell_of_V (hcs k (c.cells[k]) _ (List.getElem?_eq_getElem hk') (by simp [hk])) ?_
    exact List.all_eq_true.1 hone _ (List.getElem_mem hk')
end
end
end Go.Vc

/- Operations without memory: what they come to on abstract values. -/
namespace Go.Vc
open Go
noncomputable section
section
variable {P : Program} {TY : TypeId → Option TI} {ρ : Nat → Option Nat} {S : Nat → Prop} {w : World}
section
variable {α : Type}
noncomputable def to1 (l : List α) : List α := (@List.rec α (fun _ => List α) [] (fun _ t _ => t) l)
noncomputable def to2 (l : List α) : List α := (@List.rec α (fun _ => List α) [] (fun _ t _ => t) (@List.rec α (fun _ => List α) [] (fun _ t _ => t) l))
noncomputable def to4 (l : List α) : List α := (@List.rec α (fun _ => List α) [] (fun _ t _ => t) (@List.rec α (fun _ => List α) [] (fun _ t _ => t) (@List.rec α (fun _ => List α) [] (fun _ t _ => t) (@List.rec α (fun _ => List α) [] (fun _ t _ => t) l))))
noncomputable def to8 (l : List α) : List α := (@List.rec α (fun _ => List α) [] (fun _ t _ => t) (@List.rec α (fun _ => List α) [] (fun _ t _ => t) (@List.rec α (fun _ => List α) [] (fun _ t _ => t) (@List.rec α (fun _ => List α) [] (fun _ t _ => t) (@List.rec α (fun _ => List α) [] (fun _ t _ => t) (@List.rec α (fun _ => List α) [] (fun _ t _ => t) (@List.rec α (fun _ => List α) [] (fun _ t _ => t) (@List.rec α (fun _ => List α) [] (fun _ t _ => t) l))))))))
noncomputable def to16 (l : List α) : List α := (@List.rec α (fun _ => List α) [] (fun _ t _ => t) (@List.rec α (fun _ => List α) [] (fun _ t _ => t) (@List.rec α (fun _ => List α) [] (fun _ t _ => t) (@List.rec α (fun _ => List α) [] (fun _ t _ => t) (@List.rec α (fun _ => List α) [] (fun _ t _ => t) (@List.rec α (fun _ => List α) [] (fun _ t _ => t) (@List.rec α (fun _ => List α) [] (fun _ t _ => t) (@List.rec α (fun _ => List α) [] (fun _ t _ => t) (@List.rec α (fun _ => List α) [] (fun _ t _ => t) (@List.rec α (fun _ => List α) [] (fun _ t _ => t) (@List.rec α (fun _ => List α) [] (fun _ t _ => t) (@List.rec α (fun _ => List α) [] (fun _ t _ => t) (@List.rec α (fun _ => List α) [] (fun _ t _ => t) (@List.rec α (fun _ => List α) [] (fun _ t _ => t) (@List.rec α (fun _ => List α) [] (fun _ t _ => t) (@List.rec α (fun _ => List α) [] (fun _ t _ => t) l))))))))))))))))
noncomputable def to32 (l : List α) : List α := (@List.rec α (fun _ => List α) [] (fun _ t _ => t) (@List.rec α (fun _ => List α) [] (fun _ t _ => t) (@List.rec α (fun _ => List α) [] (fun _ t _ => t) (@List.rec α (fun _ => List α) [] (fun _ t _ => t) (@List.rec α (fun _ => List α) [] (fun _ t _ => t) (@List.rec α (fun _ => List α) [] (fun _ t _ => t) (@List.rec α (fun _ => List α) [] (fun _ t _ => t) (@List.rec α (fun _ => List α) [] (fun _ t _ => t) (@List.rec α (fun _ => List α) [] (fun _ t _ => t) (@List.rec α (fun _ => List α) [] (fun _ t _ => t) (@List.rec α (fun _ => List α) [] (fun _ t _ => t) (@List.rec α (fun _ => List α) [] (fun _ t _ => t) (@List.rec α (fun _ => List α) [] (fun _ t _ => t) (@List.rec α (fun _ => List α) [] (fun _ t _ => t) (@List.rec α (fun _ => List α) [] (fun _ t _ => t) (@List.rec α (fun _ => List α) [] (fun _ t _ => t) (@List.rec α (fun _ => List α) [] (fun _ t _ => t) (@List.rec α (fun _ => List α) [] (fun _ t _ => t) (@List.rec α (fun _ => List α) [] (fun _ t _ => t) (@List.rec α (fun _ => List α) [] (fun _ t _ => t) (@List.rec α (fun _ => List α) [] (fun _ t _ => t) (@List.rec α (fun _ => List α) [] (fun _ t _ => t) (@List.rec α (fun _ => List α) [] (fun _ t _ => t) (@List.rec α (fun _ => List α) [] (fun _ t _ => t) (@List.rec α (fun _ => List α) [] (fun _ t _ => t) (@List.rec α (fun _ => List α) [] (fun _ t _ => t) (@List.rec α (fun _ => List α) [] (fun _ t _ => t) (@List.rec α (fun _ => List α) [] (fun _ t _ => t) (@List.rec α (fun _ => List α) [] (fun _ t _ => t) (@List.rec α (fun _ => List α) [] (fun _ t _ => t) (@List.rec α (fun _ => List α) [] (fun _ t _ => t) (@List.rec α (fun _ => List α) [] (fun _ t _ => t) l))))))))))))))))))))))))))))))))
noncomputable def to64 (l : List α) : List α := (@List.rec α (fun _ => List α) [] (fun _ t _ => t) (@List.rec α (fun _ => List α) [] (fun _ t _ => t) (@List.rec α (fun _ => List α) [] (fun _ t _ => t) (@List.rec α (fun _ => List α) [] (fun _ t _ => t) (@List.rec α (fun _ => List α) [] (fun _ t _ => t) (@List.rec α (fun _ => List α) [] (fun _ t _ => t) (@List.rec α (fun _ => List α) [] (fun _ t _ => t) (@List.rec α (fun _ => List α) [] (fun _ t _ => t) (@List.rec α (fun _ => List α) [] (fun _ t _ => t) (@List.rec α (fun _ => List α) [] (fun _ t _ => t) (@List.rec α (fun _ => List α) [] (fun _ t _ => t) (@List.rec α (fun _ => List α) [] (fun _ t _ => t) (@List.rec α (fun _ => List α) [] (fun _ t _ => t) (@List.rec α (fun _ => List α) [] (fun _ t _ => t) (@List.rec α (fun _ => List α) [] (fun _ t _ => t) (@List.rec α (fun _ => List α) [] (fun _ t _ => t) (@List.rec α (fun _ => List α) [] (fun _ t _ => t) (@List.rec α (fun _ => List α) [] (fun _ t _ => t) (@List.rec α (fun _ => List α) [] (fun _ t _ => t) (@List.rec α (fun _ => List α) [] (fun _ t _ => t) (@List.rec α (fun _ => List α) [] (fun _ t _ => t) (@List.rec α (fun _ => List α) [] (fun _ t _ => t) (@List.rec α (fun _ => List α) [] (fun _ t _ => t) (@List.rec α (fun _ => List α) [] (fun _ t _ => t) (@List.rec α (fun _ => List α) [] (fun _ t _ => t) (@List.rec α (fun _ => List α) [] (fun _ t _ => t) (@List.rec α (fun _ => List α) [] (fun _ t _ => t) (@List.rec α (fun _ => List α) [] (fun _ t _ => t) (@List.rec α (fun _ => List α) [] (fun _ t _ => t) (@List.rec α (fun _ => List α) [] (fun _ t _ => t) (@List.rec α (fun _ => List α) [] (fun _ t _ => t) (@List.rec α (fun _ => List α) [] (fun _ t _ => t) (@List.rec α (fun _ => List α) [] (fun _ t _ => t) (@List.rec α (fun _ => List α) [] (fun _ t _ => t) (@List.rec α (fun _ => List α) [] (fun _ t _ => t) (@List.rec α (fun _ => List α) [] (fun _ t _ => t) (@List.rec α (fun _ => List α) [] (fun _ t _ => t) (@List.rec α (fun _ => List α) [] (fun _ t _ => t) (@List.rec α (fun _ => List α) [] (fun _ t _ => t) (@List.rec α (fun _ => List α) [] (fun _ t _ => t) (@List.rec α (fun _ => List α) [] (fun _ t _ => t) (@List.rec α (fun _ => List α) [] (fun _ t _ => t) (@List.rec α (fun _ => List α) [] (fun _ t _ => t) (@List.rec α (fun _ => List α) [] (fun _ t _ => t) (@List.rec α (fun _ => List α) [] (fun _ t _ => t) (@List.rec α (fun _ => List α) [] (fun _ t _ => t) (@List.rec α (fun _ => List α) [] (fun _ t _ => t) (@List.rec α (fun _ => List α) [] (fun _ t _ => t) (@List.rec α (fun _ => List α) [] (fun _ t _ => t) (@List.rec α (fun _ => List α) [] (fun _ t _ => t) (@List.rec α (fun _ => List α) [] (fun _ t _ => t) (@List.rec α (fun _ => List α) [] (fun _ t _ => t) (@List.rec α (fun _ => List α) [] (fun _ t _ => t) (@List.rec α (fun _ => List α) [] (fun _ t _ => t) (@List.rec α (fun _ => List α) [] (fun _ t _ => t) (@List.rec α (fun _ => List α) [] (fun _ t _ => t) (@List.rec α (fun _ => List α) [] (fun _ t _ => t) (@List.rec α (fun _ => List α) [] (fun _ t _ => t) (@List.rec α (fun _ => List α) [] (fun _ t _ => t) (@List.rec α (fun _ => List α) [] (fun _ t _ => t) (@List.rec α (fun _ => List α) [] (fun _ t _ => t) (@List.rec α (fun _ => List α) [] (fun _ t _ => t) (@List.rec α (fun _ => List α) [] (fun _ t _ => t) (@List.rec α (fun _ => List α) [] (fun _ t _ => t) l))))))))))))))))))))))))))))))))))))))))))))))))))))))))))))))))
theorem to_drop (l : List α) : @List.rec α (fun _ => List α) [] (fun _ t _ => t) l = l.drop 1 := by cases l <;> rfl
theorem to1_eq (l : List α) : to1 l = l.drop 1 := by simp only [to1, to_drop, List.drop_drop, Nat.reduceAdd]
theorem to2_eq (l : List α) : to2 l = l.drop 2 := by simp only [to2, to_drop, List.drop_drop, Nat.reduceAdd]
theorem to4_eq (l : List α) : to4 l = l.drop 4 := by simp only [to4, to_drop, List.drop_drop, Nat.reduceAdd]
theorem to8_eq (l : List α) : to8 l = l.drop 8 := by simp only [to8, to_drop, List.drop_drop, Nat.reduceAdd]
theorem to16_eq (l : List α) : to16 l = l.drop 16 := by simp only [to16, to_drop, List.drop_drop, Nat.reduceAdd]
theorem to32_eq (l : List α) : to32 l = l.drop 32 := by simp only [to32, to_drop, List.drop_drop, Nat.reduceAdd]
theorem to64_eq (l : List α) : to64 l = l.drop 64 := by simp only [to64, to_drop, List.drop_drop, Nat.reduceAdd]
noncomputable def o0 (l : List α) (_ : Nat) : Option α := @List.rec α (fun _ => Option α) none (fun x _ _ => some x) l
noncomputable def o1 (l : List α) (n : Nat) : Option α := @Bool.rec (fun _ => Option α) (o0 l n) (o0 (to1 l) (Nat.sub n 1)) (Nat.ble 1 n)
noncomputable def o2 (l : List α) (n : Nat) : Option α := @Bool.rec (fun _ => Option α) (o1 l n) (o1 (to2 l) (Nat.sub n 2)) (Nat.ble 2 n)
noncomputable def o4 (l : List α) (n : Nat) : Option α := @Bool.rec (fun _ => Option α) (o2 l n) (o2 (to4 l) (Nat.sub n 4)) (Nat.ble 4 n)
noncomputable def o8 (l : List α) (n : Nat) : Option α := @Bool.rec (fun _ => Option α) (o4 l n) (o4 (to8 l) (Nat.sub n 8)) (Nat.ble 8 n)
noncomputable def o16 (l : List α) (n : Nat) : Option α := @Bool.rec (fun _ => Option α) (o8 l n) (o8 (to16 l) (Nat.sub n 16)) (Nat.ble 16 n)
noncomputable def o32 (l : List α) (n : Nat) : Option α := @Bool.rec (fun _ => Option α) (o16 l n) (o16 (to32 l) (Nat.sub n 32)) (Nat.ble 32 n)
noncomputable def o64 (l : List α) (n : Nat) : Option α := @Bool.rec (fun _ => Option α) (o32 l n) (o32 (to64 l) (Nat.sub n 64)) (Nat.ble 64 n)
/-- Longer lists: 128 at a time. -/
noncomputable def oQ (q : Nat) : List α → List α := @Nat.rec (fun _ => List α → List α) (fun l => l) (fun _ ih l => ih (to64 (to64 l))) q
noncomputable def getO (l : List α) (n : Nat) : Option α := @Bool.rec (fun _ => Option α) (o64 l n) (o64 (oQ (Nat.div n 128) l) (Nat.mod n 128)) (Nat.ble 128 n)
theorem o0_eq (l : List α) (n : Nat) (h : n < 1) : o0 l n = l[n]? := by
  obtain rfl : n = 0 := by omega
  cases l <;> rfl
theorem oS_eq {k : Nat} {f : List α → Nat → Option α} (hf : ∀ l n, n < k → f l n = l[n]?) (l : List α) (n : Nat) (h : n < k + k) :
    @Bool.rec (fun _ => Option α) (f l n) (f (l.drop k) (Nat.sub n k)) (Nat.ble k n) = l[n]? := by
  cases hb : Nat.ble k n with
  | false =>
    have : ¬ k ≤ n := fun hle => by rw [Nat.ble_eq_true_of_le hle] at hb; cases hb
    exact hf l n (by omega)
  | true =>
    have hle := Nat.le_of_ble_eq_true hb
    have h2 : Nat.sub n k < k := by show n - k < k; omega
    rw [show (@Bool.rec (fun _ => Option α) (f l n) (f (l.drop k) (Nat.sub n k)) true) = f (l.drop k) (Nat.sub n k) from rfl, hf _ _ h2]
    show (l.drop k)[n - k]? = _
    rw [List.getElem?_drop, Nat.add_sub_cancel' hle]
theorem o1_eq (l : List α) (n : Nat) (h : n < 2) : o1 l n = l[n]? := by
  unfold o1
  rw [to1_eq]
  exact oS_eq (k := 1) o0_eq l n h
theorem o2_eq (l : List α) (n : Nat) (h : n < 4) : o2 l n = l[n]? := by
  unfold o2
  rw [to2_eq]
  exact oS_eq (k := 2) o1_eq l n h
theorem o4_eq (l : List α) (n : Nat) (h : n < 8) : o4 l n = l[n]? := by
  unfold o4
  rw [to4_eq]
  exact oS_eq (k := 4) o2_eq l n h
theorem o8_eq (l : List α) (n : Nat) (h : n < 16) : o8 l n = l[n]? := by
  unfold o8
  rw [to8_eq]
  exact oS_eq (k := 8) o4_eq l n h
theorem o16_eq (l : List α) (n : Nat) (h : n < 32) : o16 l n = l[n]? := by
  unfold o16
  rw [to16_eq]
  exact oS_eq (k := 16) o8_eq l n h
theorem o32_eq (l : List α) (n : Nat) (h : n < 64) : o32 l n = l[n]? := by
  unfold o32
  rw [to32_eq]
  exact oS_eq (k := 32) o16_eq l n h
theorem o64_eq (l : List α) (n : Nat) (h : n < 128) : o64 l n = l[n]? := by
  unfold o64
  rw [to64_eq]
  exact oS_eq (k := 64) o32_eq l n h
theorem oQ_eq : ∀ (q : Nat) (l : List α), oQ q l = l.drop (128 * q)
  | 0, l => rfl
  | q + 1, l => by
    show oQ q (to64 (to64 l)) = _
    rw [oQ_eq q, to64_eq, to64_eq, List.drop_drop, List.drop_drop]
    congr 1
    omega
theorem getO_eq (l : List α) (n : Nat) : getO l n = l[n]? := by
  unfold getO
  cases hb : Nat.ble 128 n with
  | false =>
    have : ¬ 128 ≤ n := fun hle => by rw [Nat.ble_eq_true_of_le hle] at hb; cases hb
    exact o64_eq l n (by omega)
  | true =>
    show o64 (oQ (n / 128) l) (n % 128) = _
    rw [o64_eq _ _ (Nat.mod_lt _ (by decide)), oQ_eq, List.getElem?_drop, Nat.div_add_mod]
/-- A list's length. -/
noncomputable def lenU (l : List α) : Nat := @List.rec α (fun _ => Nat) 0 (fun _ _ ih => Nat.add ih 1) l
theorem lenU_eq (l : List α) : lenU l = l.length := by
  induction l with
  | nil => rfl
  | cons x xs ih => show lenU xs + 1 = _; rw [ih]; rfl
theorem getO_arr (a : Array α) (n : Nat) : getO a.toList n = a[n]? := by rw [getO_eq, Array.getElem?_toList]
end
/-! ### A look into a list, made cheap for the kernel -/
noncomputable def tl1 (l : List AV) : List AV := (@List.rec AV (fun _ => List AV) [] (fun _ t _ => t) l)
noncomputable def tl2 (l : List AV) : List AV := (@List.rec AV (fun _ => List AV) [] (fun _ t _ => t) (@List.rec AV (fun _ => List AV) [] (fun _ t _ => t) l))
noncomputable def tl4 (l : List AV) : List AV := (@List.rec AV (fun _ => List AV) [] (fun _ t _ => t) (@List.rec AV (fun _ => List AV) [] (fun _ t _ => t) (@List.rec AV (fun _ => List AV) [] (fun _ t _ => t) (@List.rec AV (fun _ => List AV) [] (fun _ t _ => t) l))))
noncomputable def tl8 (l : List AV) : List AV := (@List.rec AV (fun _ => List AV) [] (fun _ t _ => t) (@List.rec AV (fun _ => List AV) [] (fun _ t _ => t) (@List.rec AV (fun _ => List AV) [] (fun _ t _ => t) (@List.rec AV (fun _ => List AV) [] (fun _ t _ => t) (@List.rec AV (fun _ => List AV) [] (fun _ t _ => t) (@List.rec AV (fun _ => List AV) [] (fun _ t _ => t) (@List.rec AV (fun _ => List AV) [] (fun _ t _ => t) (@List.rec AV (fun _ => List AV) [] (fun _ t _ => t) l))))))))
noncomputable def tl16 (l : List AV) : List AV := (@List.rec AV (fun _ => List AV) [] (fun _ t _ => t) (@List.rec AV (fun _ => List AV) [] (fun _ t _ => t) (@List.rec AV (fun _ => List AV) [] (fun _ t _ => t) (@List.rec AV (fun _ => List AV) [] (fun _ t _ => t) (@List.rec AV (fun _ => List AV) [] (fun _ t _ => t) (@List.rec AV (fun _ => List AV) [] (fun _ t _ => t) (@List.rec AV (fun _ => List AV) [] (fun _ t _ => t) (@List.rec AV (fun _ => List AV) [] (fun _ t _ => t) (@List.rec AV (fun _ => List AV) [] (fun _ t _ => t) (@List.rec AV (fun _ => List AV) [] (fun _ t _ => t) (@List.rec AV (fun _ => List AV) [] (fun _ t _ => t) (@List.rec AV (fun _ => List AV) [] (fun _ t _ => t) (@List.rec AV (fun _ => List AV) [] (fun _ t _ => t) (@List.rec AV (fun _ => List AV) [] (fun _ t _ => t) (@List.rec AV (fun _ => List AV) [] (fun _ t _ => t) (@List.rec AV (fun _ => List AV) [] (fun _ t _ => t) l))))))))))))))))
noncomputable def tl32 (l : List AV) : List AV := (@List.rec AV (fun _ => List AV) [] (fun _ t _ => t) (@List.rec AV (fun _ => List AV) [] (fun _ t _ => t) (@List.rec AV (fun _ => List AV) [] (fun _ t _ => t) (@List.rec AV (fun _ => List AV) [] (fun _ t _ => t) (@List.rec AV (fun _ => List AV) [] (fun _ t _ => t) (@List.rec AV (fun _ => List AV) [] (fun _ t _ => t) (@List.rec AV (fun _ => List AV) [] (fun _ t _ => t) (@List.rec AV (fun _ => List AV) [] (fun _ t _ => t) (@List.rec AV (fun _ => List AV) [] (fun _ t _ => t) (@List.rec AV (fun _ => List AV) [] (fun _ t _ => t) (@List.rec AV (fun _ => List AV) [] (fun _ t _ => t) (@List.rec AV (fun _ => List AV) [] (fun _ t _ => t) (@List.rec AV (fun _ => List AV) [] (fun _ t _ => t) (@List.rec AV (fun _ => List AV) [] (fun _ t _ => t) (@List.rec AV (fun _ => List AV) [] (fun _ t _ => t) (@List.rec AV (fun _ => List AV) [] (fun _ t _ => t) (@List.rec AV (fun _ => List AV) [] (fun _ t _ => t) (@List.rec AV (fun _ => List AV) [] (fun _ t _ => t) (@List.rec AV (fun _ => List AV) [] (fun _ t _ => t) (@List.rec AV (fun _ => List AV) [] (fun _ t _ => t) (@List.rec AV (fun _ => List AV) [] (fun _ t _ => t) (@List.rec AV (fun _ => List AV) [] (fun _ t _ => t) (@List.rec AV (fun _ => List AV) [] (fun _ t _ => t) (@List.rec AV (fun _ => List AV) [] (fun _ t _ => t) (@List.rec AV (fun _ => List AV) [] (fun _ t _ => t) (@List.rec AV (fun _ => List AV) [] (fun _ t _ => t) (@List.rec AV (fun _ => List AV) [] (fun _ t _ => t) (@List.rec AV (fun _ => List AV) [] (fun _ t _ => t) (@List.rec AV (fun _ => List AV) [] (fun _ t _ => t) (@List.rec AV (fun _ => List AV) [] (fun _ t _ => t) (@List.rec AV (fun _ => List AV) [] (fun _ t _ => t) (@List.rec AV (fun _ => List AV) [] (fun _ t _ => t) l))))))))))))))))))))))))))))))))
noncomputable def tl64 (l : List AV) : List AV := (@List.rec AV (fun _ => List AV) [] (fun _ t _ => t) (@List.rec AV (fun _ => List AV) [] (fun _ t _ => t) (@List.rec AV (fun _ => List AV) [] (fun _ t _ => t) (@List.rec AV (fun _ => List AV) [] (fun _ t _ => t) (@List.rec AV (fun _ => List AV) [] (fun _ t _ => t) (@List.rec AV (fun _ => List AV) [] (fun _ t _ => t) (@List.rec AV (fun _ => List AV) [] (fun _ t _ => t) (@List.rec AV (fun _ => List AV) [] (fun _ t _ => t) (@List.rec AV (fun _ => List AV) [] (fun _ t _ => t) (@List.rec AV (fun _ => List AV) [] (fun _ t _ => t) (@List.rec AV (fun _ => List AV) [] (fun _ t _ => t) (@List.rec AV (fun _ => List AV) [] (fun _ t _ => t) (@List.rec AV (fun _ => List AV) [] (fun _ t _ => t) (@List.rec AV (fun _ => List AV) [] (fun _ t _ => t) (@List.rec AV (fun _ => List AV) [] (fun _ t _ => t) (@List.rec AV (fun _ => List AV) [] (fun _ t _ => t) (@List.rec AV (fun _ => List AV) [] (fun _ t _ => t) (@List.rec AV (fun _ => List AV) [] (fun _ t _ => t) (@List.rec AV (fun _ => List AV) [] (fun _ t _ => t) (@List.rec AV (fun _ => List AV) [] (fun _ t _ => t) (@List.rec AV (fun _ => List AV) [] (fun _ t _ => t) (@List.rec AV (fun _ => List AV) [] (fun _ t _ => t) (@List.rec AV (fun _ => List AV) [] (fun _ t _ => t) (@List.rec AV (fun _ => List AV) [] (fun _ t _ => t) (@List.rec AV (fun _ => List AV) [] (fun _ t _ => t) (@List.rec AV (fun _ => List AV) [] (fun _ t _ => t) (@List.rec AV (fun _ => List AV) [] (fun _ t _ => t) (@List.rec AV (fun _ => List AV) [] (fun _ t _ => t) (@List.rec AV (fun _ => List AV) [] (fun _ t _ => t) (@List.rec AV (fun _ => List AV) [] (fun _ t _ => t) (@List.rec AV (fun _ => List AV) [] (fun _ t _ => t) (@List.rec AV (fun _ => List AV) [] (fun _ t _ => t) (@List.rec AV (fun _ => List AV) [] (fun _ t _ => t) (@List.rec AV (fun _ => List AV) [] (fun _ t _ => t) (@List.rec AV (fun _ => List AV) [] (fun _ t _ => t) (@List.rec AV (fun _ => List AV) [] (fun _ t _ => t) (@List.rec AV (fun _ => List AV) [] (fun _ t _ => t) (@List.rec AV (fun _ => List AV) [] (fun _ t _ => t) (@List.rec AV (fun _ => List AV) [] (fun _ t _ => t) (@List.rec AV (fun _ => List AV) [] (fun _ t _ => t) (@List.rec AV (fun _ => List AV) [] (fun _ t _ => t) (@List.rec AV (fun _ => List AV) [] (fun _ t _ => t) (@List.rec AV (fun _ => List AV) [] (fun _ t _ => t) (@List.rec AV (fun _ => List AV) [] (fun _ t _ => t) (@List.rec AV (fun _ => List AV) [] (fun _ t _ => t) (@List.rec AV (fun _ => List AV) [] (fun _ t _ => t) (@List.rec AV (fun _ => List AV) [] (fun _ t _ => t) (@List.rec AV (fun _ => List AV) [] (fun _ t _ => t) (@List.rec AV (fun _ => List AV) [] (fun _ t _ => t) (@List.rec AV (fun _ => List AV) [] (fun _ t _ => t) (@List.rec AV (fun _ => List AV) [] (fun _ t _ => t) (@List.rec AV (fun _ => List AV) [] (fun _ t _ => t) (@List.rec AV (fun _ => List AV) [] (fun _ t _ => t) (@List.rec AV (fun _ => List AV) [] (fun _ t _ => t) (@List.rec AV (fun _ => List AV) [] (fun _ t _ => t) (@List.rec AV (fun _ => List AV) [] (fun _ t _ => t) (@List.rec AV (fun _ => List AV) [] (fun _ t _ => t) (@List.rec AV (fun _ => List AV) [] (fun _ t _ => t) (@List.rec AV (fun _ => List AV) [] (fun _ t _ => t) (@List.rec AV (fun _ => List AV) [] (fun _ t _ => t) (@List.rec AV (fun _ => List AV) [] (fun _ t _ => t) (@List.rec AV (fun _ => List AV) [] (fun _ t _ => t) (@List.rec AV (fun _ => List AV) [] (fun _ t _ => t) (@List.rec AV (fun _ => List AV) [] (fun _ t _ => t) l))))))))))))))))))))))))))))))))))))))))))))))))))))))))))))))))
theorem tl_drop (l : List AV) : @List.rec AV (fun _ => List AV) [] (fun _ t _ => t) l = l.drop 1 := by cases l <;> rfl
theorem tl1_eq (l : List AV) : tl1 l = l.drop 1 := by simp only [tl1, tl_drop, List.drop_drop, Nat.reduceAdd]
theorem tl2_eq (l : List AV) : tl2 l = l.drop 2 := by simp only [tl2, tl_drop, List.drop_drop, Nat.reduceAdd]
theorem tl4_eq (l : List AV) : tl4 l = l.drop 4 := by simp only [tl4, tl_drop, List.drop_drop, Nat.reduceAdd]
theorem tl8_eq (l : List AV) : tl8 l = l.drop 8 := by simp only [tl8, tl_drop, List.drop_drop, Nat.reduceAdd]
theorem tl16_eq (l : List AV) : tl16 l = l.drop 16 := by simp only [tl16, tl_drop, List.drop_drop, Nat.reduceAdd]
theorem tl32_eq (l : List AV) : tl32 l = l.drop 32 := by simp only [tl32, tl_drop, List.drop_drop, Nat.reduceAdd]
theorem tl64_eq (l : List AV) : tl64 l = l.drop 64 := by simp only [tl64, tl_drop, List.drop_drop, Nat.reduceAdd]
noncomputable def g0 (l : List AV) (_ : Nat) : AV := @List.rec AV (fun _ => AV) .any (fun x _ _ => x) l
noncomputable def g1 (l : List AV) (n : Nat) : AV := @Bool.rec (fun _ => AV) (g0 l n) (g0 (tl1 l) (Nat.sub n 1)) (Nat.ble 1 n)
noncomputable def g2 (l : List AV) (n : Nat) : AV := @Bool.rec (fun _ => AV) (g1 l n) (g1 (tl2 l) (Nat.sub n 2)) (Nat.ble 2 n)
noncomputable def g4 (l : List AV) (n : Nat) : AV := @Bool.rec (fun _ => AV) (g2 l n) (g2 (tl4 l) (Nat.sub n 4)) (Nat.ble 4 n)
noncomputable def g8 (l : List AV) (n : Nat) : AV := @Bool.rec (fun _ => AV) (g4 l n) (g4 (tl8 l) (Nat.sub n 8)) (Nat.ble 8 n)
noncomputable def g16 (l : List AV) (n : Nat) : AV := @Bool.rec (fun _ => AV) (g8 l n) (g8 (tl16 l) (Nat.sub n 16)) (Nat.ble 16 n)
noncomputable def g32 (l : List AV) (n : Nat) : AV := @Bool.rec (fun _ => AV) (g16 l n) (g16 (tl32 l) (Nat.sub n 32)) (Nat.ble 32 n)
noncomputable def g64 (l : List AV) (n : Nat) : AV := @Bool.rec (fun _ => AV) (g32 l n) (g32 (tl64 l) (Nat.sub n 64)) (Nat.ble 64 n)
noncomputable def getU (l : List AV) (n : Nat) : AV := @Bool.rec (fun _ => AV) (g64 l n) (l.getD n .any) (Nat.ble 128 n)
theorem g0_eq (l : List AV) (n : Nat) (h : n < 1) : g0 l n = l.getD n .any := by
  obtain rfl : n = 0 := by omega
  cases l <;> rfl
theorem gS_eq {k : Nat} {f : List AV → Nat → AV} (hf : ∀ l n, n < k → f l n = l.getD n .any) (l : List AV) (n : Nat) (h : n < k + k) :
    @Bool.rec (fun _ => AV) (f l n) (f (l.drop k) (Nat.sub n k)) (Nat.ble k n) = l.getD n .any := by
  cases hb : Nat.ble k n with
  | false =>
    have : ¬ k ≤ n := fun hle => by rw [Nat.ble_eq_true_of_le hle] at hb; cases hb
    exact hf l n (by omega)
  | true =>
    have hle := Nat.le_of_ble_eq_true hb
    have h2 : Nat.sub n k < k := by show n - k < k; omega
    rw [show (@Bool.rec (fun _ => AV) (f l n) (f (l.drop k) (Nat.sub n k)) true) = f (l.drop k) (Nat.sub n k) from rfl, hf _ _ h2]
    show (l.drop k).getD (n - k) .any = _
    rw [List.getD_eq_getElem?_getD, List.getD_eq_getElem?_getD, List.getElem?_drop, Nat.add_sub_cancel' hle]
theorem g1_eq (l : List AV) (n : Nat) (h : n < 2) : g1 l n = l.getD n .any := by
  unfold g1
  rw [tl1_eq]
  exact gS_eq (k := 1) g0_eq l n h
theorem g2_eq (l : List AV) (n : Nat) (h : n < 4) : g2 l n = l.getD n .any := by
  unfold g2
  rw [tl2_eq]
  exact gS_eq (k := 2) g1_eq l n h
theorem g4_eq (l : List AV) (n : Nat) (h : n < 8) : g4 l n = l.getD n .any := by
  unfold g4
  rw [tl4_eq]
  exact gS_eq (k := 4) g2_eq l n h
theorem g8_eq (l : List AV) (n : Nat) (h : n < 16) : g8 l n = l.getD n .any := by
  unfold g8
  rw [tl8_eq]
  exact gS_eq (k := 8) g4_eq l n h
theorem g16_eq (l : List AV) (n : Nat) (h : n < 32) : g16 l n = l.getD n .any := by
  unfold g16
  rw [tl16_eq]
  exact gS_eq (k := 16) g8_eq l n h
theorem g32_eq (l : List AV) (n : Nat) (h : n < 64) : g32 l n = l.getD n .any := by
  unfold g32
  rw [tl32_eq]
  exact gS_eq (k := 32) g16_eq l n h
theorem g64_eq (l : List AV) (n : Nat) (h : n < 128) : g64 l n = l.getD n .any := by
  unfold g64
  rw [tl64_eq]
  exact gS_eq (k := 64) g32_eq l n h
theorem getU_eq (l : List AV) (n : Nat) : getU l n = l.getD n .any := by
  unfold getU
  cases hb : Nat.ble 128 n with
  | false =>
    have : ¬ 128 ≤ n := fun hle => by rw [Nat.ble_eq_true_of_le hle] at hb; cases hb
    exact g64_eq l n (by omega)
  | true => rfl
/-- What an operand is known to be. -/
def evO (ts : List AV) : Operand → AV
  | .tmp t => getU ts t
  | .const v => AV.ofC v
  | .global _ => .any
  | .func f => .fn f []
theorem evO_tmp (ts : List AV) (t : Tmp) : evO ts (.tmp t) = ts.getD t .any := getU_eq ts t
theorem TRel.eval {ts : List AV} {a : Act} (h : TRel ρ S w ts a.tmps) (x : Operand) : V ρ S w (evO ts x) (a.eval x) := by
  cases x with
  | tmp t =>
    show V ρ S w (getU ts t) (a.tmps.getD t undef)
    rw [getU_eq]
    by_cases ht : t < ts.length
    · have ht' : t < a.tmps.size := by rw [← h.1]; exact ht
      refine h.2 t _ _ ?_ ?_
      · rw [List.getD_eq_getElem?_getD, List.getElem?_eq_getElem ht]; rfl
      · rw [Array.getD_eq_getD_getElem?, Array.getElem?_eq_getElem ht']; rfl
    · rw [List.getD_eq_getElem?_getD, List.getElem?_eq_none (Nat.le_of_not_lt ht)]
      exact .any _
  | const v => exact V.ofC v
  | global g => exact .any _
  | func f => exact .fn f [] #[] rfl fun i c v hc _ => by simp at hc
/-! ### Numbers -/
def bitsA (op : BinOp) (k : IntKind) (a b : Int) : Int :=
  match op with
  | .and => k.wrap (BitVec.ofInt k.bits a &&& BitVec.ofInt k.bits b).toNat
  | .or => k.wrap (BitVec.ofInt k.bits a ||| BitVec.ofInt k.bits b).toNat
  | .xor => k.wrap (BitVec.ofInt k.bits a ^^^ BitVec.ofInt k.bits b).toNat
  | _ => k.wrap (BitVec.ofInt k.bits a &&& ~~~BitVec.ofInt k.bits b).toNat
/-- Wrapped: sealed. -/
noncomputable def wrapS : IntKind → Int → Int := Classical.choose (⟨fun k n => k.wrap n, rfl⟩ : ∃ f : IntKind → Int → Int, f = fun k n => k.wrap n)
theorem wrapS_eq (k : IntKind) (n : Int) : wrapS k n = k.wrap n := congrFun (congrFun (Classical.choose_spec (⟨fun k n => k.wrap n, rfl⟩ : ∃ f : IntKind → Int → Int, f = fun k n => k.wrap n)) k) n
/-- A result that fits its kind (or is wrapped, where 'wr' says so). -/
def fitA (wr : Bool) (k : IntKind) (n : Int) (N : AV → Prop) : Prop := match wr with
  | true => N (.int k (wrapS k n))
  | false => inK k n ∧ N (.int k n)
theorem fitA_sound {wr : Bool} {k : IntKind} {n : Int} {N : AV → Prop} (h : fitA wr k n N) : ∃ c, N c ∧ V ρ S w c (.int k (k.wrap n)) := by
  cases wr with
  | true => exact ⟨_, h, by rw [wrapS_eq]; exact V.int' (inK_wrap k n)⟩
  | false => exact ⟨_, h.2, by rw [wrap_of_inK h.1]; exact V.int' h.1⟩
/-- Numbers held against one another: in a form that stands still at once where a number is not known. -/
def leI : Int → Int → Bool
  | .ofNat a, .ofNat b => Nat.ble a b
  | .negSucc _, .ofNat _ => true
  | .ofNat _, .negSucc _ => false
  | .negSucc a, .negSucc b => Nat.ble b a
def eqI : Int → Int → Bool
  | .ofNat a, .ofNat b => Nat.beq a b
  | .negSucc a, .negSucc b => Nat.beq a b
  | _, _ => false
def ltI (a b : Int) : Bool := !(leI b a)
theorem leI_eq (a b : Int) : leI a b = decide (a ≤ b) := by
  cases a with
  | ofNat a => cases b with
    | ofNat b =>
      simp only [leI]
      rw [Bool.eq_iff_iff, Nat.ble_eq, decide_eq_true_eq]; simp
    | negSucc b => simp only [leI]; symm; simp; omega
  | negSucc a => cases b with
    | ofNat b => simp only [leI]; symm; simp; omega
    | negSucc b =>
      simp only [leI]
      rw [Bool.eq_iff_iff, Nat.ble_eq, decide_eq_true_eq]; omega
theorem ltI_eq (a b : Int) : ltI a b = decide (a < b) := by
  unfold ltI
  rw [leI_eq, Bool.eq_iff_iff]
  simp
theorem eqI_eq (a b : Int) : eqI a b = (a == b) := by
  cases a with
  | ofNat a => cases b with
    | ofNat b => simp only [eqI]; rw [Bool.eq_iff_iff, Nat.beq_eq, beq_iff_eq]; simp; omega
    | negSucc b => simp only [eqI]; symm; simp
  | negSucc a => cases b with
    | ofNat b => simp only [eqI]; symm; simp
    | negSucc b => simp only [eqI]; rw [Bool.eq_iff_iff, Nat.beq_eq, beq_iff_eq]; simp
def uns : IntKind → Bool
  | .u8 | .u16 | .u32 | .u64 => true
  | _ => false
theorem uns_nonneg {k : IntKind} {a : Int} (h : uns k = true) (ha : inK k a) : 0 ≤ a := by
  cases k <;> simp [uns] at h <;> simp only [inK, lo] at ha <;> exact ha.1
def intA (wr : Bool) (op : BinOp) (k : IntKind) (a b : Int) (N : AV → Prop) : Prop :=
  match op with
  | .add => fitA wr k (a + b) N
  | .sub => fitA wr k (a - b) N
  | .mul => fitA wr k (a * b) N
  | .quo => match eqI b 0 with
    | true => False
    | false => match uns k with
      | true => fitA wr k (a / b) N
      | false => fitA wr k (a.tdiv b) N
  | .rem => match eqI b 0 with
    | true => False
    | false => match uns k with
      | true => N (.int k (a % b))
      | false => N (.int k (a.tmod b))
  | .and | .or | .xor | .andNot => N (.int k (bitsA op k a b))
  | .eql => N (.bool (eqI a b))
  | .neq => N (.bool (!(eqI a b)))
  | .lss => N (.bool (ltI a b))
  | .leq => N (.bool (leI a b))
  | .gtr => N (.bool (ltI b a))
  | .geq => N (.bool (leI b a))
  | _ => False
theorem inK_tmod {k : IntKind} {a b : Int} (h : inK k a) : inK k (a.tmod b) := by
  have h1 : (a.tmod b).natAbs ≤ a.natAbs := by rw [Int.natAbs_tmod]; exact Nat.mod_le _ _
  have h2 : 0 ≤ a → 0 ≤ a.tmod b := fun h => Int.tmod_nonneg _ h
  have h3 : a ≤ 0 → a.tmod b ≤ 0 := fun h => by
    have := Int.tmod_nonneg b (show 0 ≤ -a by omega)
    rw [Int.neg_tmod] at this
    omega
  obtain ⟨l, u⟩ := h
  cases k <;> simp only [inK, lo, hi] at * <;> omega
theorem intA_sound {wr : Bool} {op : BinOp} {k : IntKind} {a b : Int} {N : AV → Prop} (ha : inK k a) (h : intA wr op k a b N) (xT : TypeId) :
    ∃ c v, (binOp op xT (.int k a) (.int k b)).run P w = .ok v w ∧ N c ∧ V ρ S w c v := by
  cases op <;> simp only [intA] at h
  case add => obtain ⟨c, h1, h2⟩ := fitA_sound (ρ := ρ) (S := S) (w := w) h; exact ⟨c, _, by simp [binOp, Op.intArith], h1, h2⟩
  case sub => obtain ⟨c, h1, h2⟩ := fitA_sound (ρ := ρ) (S := S) (w := w) h; exact ⟨c, _, by simp [binOp, Op.intArith], h1, h2⟩
  case mul => obtain ⟨c, h1, h2⟩ := fitA_sound (ρ := ρ) (S := S) (w := w) h; exact ⟨c, _, by simp [binOp, Op.intArith], h1, h2⟩
  case quo =>
    split at h
    · exact h.elim
    · rename_i hb
      have hb : b ≠ 0 := by rw [eqI_eq] at hb; simpa using hb
      split at h
      · rename_i hu
        rw [← Int.tdiv_eq_ediv_of_nonneg (uns_nonneg hu ha)] at h
        obtain ⟨c, h1, h2⟩ := fitA_sound (ρ := ρ) (S := S) (w := w) h; exact ⟨c, _, by simp [binOp, Op.intDiv, hb], h1, h2⟩
      · obtain ⟨c, h1, h2⟩ := fitA_sound (ρ := ρ) (S := S) (w := w) h; exact ⟨c, _, by simp [binOp, Op.intDiv, hb], h1, h2⟩
  case rem =>
    split at h
    · exact h.elim
    · rename_i hb
      have hb : b ≠ 0 := by rw [eqI_eq] at hb; simpa using hb
      split at h
      · rename_i hu
        rw [← Int.tmod_eq_emod_of_nonneg (uns_nonneg hu ha)] at h
        exact ⟨_, _, by simp [binOp, Op.intDiv, hb], h, V.int' (inK_tmod ha)⟩
      · exact ⟨_, _, by simp [binOp, Op.intDiv, hb], h, V.int' (inK_tmod ha)⟩
  case and => exact ⟨_, _, by simp only [binOp, ne_eq, not_true_eq_false, if_false, Op.intBits]; rfl, h, V.int' (inK_wrap _ _)⟩
  case or => exact ⟨_, _, by simp only [binOp, ne_eq, not_true_eq_false, if_false, Op.intBits]; rfl, h, V.int' (inK_wrap _ _)⟩
  case xor => exact ⟨_, _, by simp only [binOp, ne_eq, not_true_eq_false, if_false, Op.intBits]; rfl, h, V.int' (inK_wrap _ _)⟩
  case andNot => exact ⟨_, _, by simp only [binOp, ne_eq, not_true_eq_false, if_false, Op.intBits]; rfl, h, V.int' (inK_wrap _ _)⟩
  case eql => rw [eqI_eq] at h; exact ⟨_, _, by simp only [binOp]; simp only [ne_eq, not_true_eq_false, if_false, Op.intCmp]; rfl, h, .bool _⟩
  case neq => rw [eqI_eq] at h; exact ⟨_, _, by simp only [binOp]; simp only [ne_eq, not_true_eq_false, if_false, Op.intCmp]; rfl, h, .bool _⟩
  case lss => rw [ltI_eq] at h; exact ⟨_, _, by simp only [binOp]; simp only [ne_eq, not_true_eq_false, if_false, Op.intCmp]; rfl, h, .bool _⟩
  case leq => rw [leI_eq] at h; exact ⟨_, _, by simp only [binOp]; simp only [ne_eq, not_true_eq_false, if_false, Op.intCmp]; rfl, h, .bool _⟩
  case gtr => rw [ltI_eq] at h; exact ⟨_, _, by simp only [binOp]; simp only [ne_eq, not_true_eq_false, if_false, Op.intCmp]; rfl, h, .bool _⟩
  case geq => rw [leI_eq] at h; exact ⟨_, _, by simp only [binOp]; simp only [ne_eq, not_true_eq_false, if_false, Op.intCmp]; rfl, h, .bool _⟩
/-- Shifts: to the left wrapped always. -/
def shiftA (op : BinOp) (k : IntKind) (a b : Int) (N : AV → Prop) : Prop :=
  0 ≤ b ∧ match op with
  | .shl => N (.int k (k.wrap (a * 2 ^ (min b.toNat k.bits))))
  | .shr => N (.int k (a.fdiv (2 ^ (min b.toNat k.bits))))
  | _ => False
theorem inK_fdiv {k : IntKind} {a : Int} (n : Nat) (h : inK k a) : inK k (a.fdiv (2 ^ n)) := by
  have hp : (0 : Int) < 2 ^ n := Int.pow_pos (by decide)
  rw [Int.fdiv_eq_ediv_of_nonneg _ (Int.le_of_lt hp)]
  obtain ⟨l, u⟩ := h
  have h1 : 0 ≤ a → 0 ≤ a / 2 ^ n ∧ a / 2 ^ n ≤ a := fun h => ⟨Int.ediv_nonneg h (Int.le_of_lt hp), Int.ediv_le_self _ h⟩
  have h2 : a < 0 → a ≤ a / 2 ^ n ∧ a / 2 ^ n < 0 := fun h => by
    refine ⟨?_, Int.ediv_neg_of_neg_of_pos h hp⟩
    rw [Int.le_ediv_iff_mul_le hp]
    have h5 : a * 2 ^ n ≤ a * 1 := Int.mul_le_mul_of_nonpos_left (Int.le_of_lt h) (by omega)
    rw [Int.mul_one] at h5
    exact h5
  rcases Int.lt_or_le a 0 with h3 | h3
  · have := h2 h3; cases k <;> simp only [inK, lo, hi] at * <;> omega
  · have := h1 h3; cases k <;> simp only [inK, lo, hi] at * <;> omega
theorem shiftA_sound {op : BinOp} {k k' : IntKind} {a b : Int} {N : AV → Prop} (ha : inK k a) (h : shiftA op k a b N) (xT : TypeId) :
    ∃ c v, (binOp op xT (.int k a) (.int k' b)).run P w = .ok v w ∧ N c ∧ V ρ S w c v := by
  unfold shiftA at h
  obtain ⟨hb, h⟩ := h
  have hb : ¬ b < 0 := by omega
  cases op <;> simp only at h <;> try exact h.elim
  · exact ⟨_, _, by simp [binOp, Op.shift, hb], h, V.int' (inK_wrap _ _)⟩
  · exact ⟨_, _, by simp [binOp, Op.shift, hb], h, V.int' (inK_fdiv _ ha)⟩
/-! ### Strings -/
def strA (op : BinOp) (x y : List UInt8) (N : AV → Prop) : Prop :=
  match op with
  | .add => (x ++ y).length ≤ 9223372036854775807 ∧ N (.str (x ++ y))
  | .eql => N (.bool (x == y))
  | .neq => N (.bool (!(x == y)))
  | .lss => N (.bool (Op.bytesLess x y))
  | .leq => N (.bool (Op.bytesLess x y || x == y))
  | .gtr => N (.bool (!(Op.bytesLess x y || x == y)))
  | .geq => N (.bool (!Op.bytesLess x y))
  | _ => False
theorem maxLen_eq : maxLen = 9223372036854775807 := by decide
theorem bsize (s : ByteArray) : s.data.toList.length = s.size := rfl
theorem strA_sound {op : BinOp} {s t : ByteArray} {N : AV → Prop} (h : strA op s.data.toList t.data.toList N) (xT : TypeId) :
    ∃ c v, (binOp op xT (.string s) (.string t)).run P w = .ok v w ∧ N c ∧ V ρ S w c v := by
  have e1 := ByteArray.toList_eq s
  have e2 := ByteArray.toList_eq t
  cases op <;> simp only [strA] at h
  case add =>
    refine ⟨_, _, by simp only [binOp]; rw [run_string_add_sum w s t (by have := h.1; rw [List.length_append, bsize, bsize] at this; exact this)], h.2, .str _ _ (by simp) (by rw [maxLen_eq]; exact h.1)⟩
  case eql => exact ⟨_, _, by simp only [binOp, Op.stringOp]; rw [e1, e2]; rfl, h, .bool _⟩
  case neq => exact ⟨_, _, by simp only [binOp, Op.stringOp]; rw [e1, e2]; rfl, h, .bool _⟩
  case lss => exact ⟨_, _, by simp only [binOp, Op.stringOp]; rw [e1, e2]; rfl, h, .bool _⟩
  case leq => exact ⟨_, _, by simp only [binOp, Op.stringOp]; rw [e1, e2]; rfl, h, .bool _⟩
  case gtr => exact ⟨_, _, by simp only [binOp, Op.stringOp]; rw [e1, e2]; rfl, h, .bool _⟩
  case geq => exact ⟨_, _, by simp only [binOp, Op.stringOp]; rw [e1, e2]; rfl, h, .bool _⟩
/-! ### Parts of aggregates, and equality -/
theorem run_part (hTY : TyOk P TY) {t : TypeId} {i : TI} (hi : TY t = some i) {cs : List AV} {vs : Array Value} (hlen : cs.length = vs.size)
    (hv : ∀ (k : Nat) (c : AV) (v : Value), cs[k]? = some c → vs[k]? = some v → V ρ S w c v) {j : Nat} {c : AV} (hl : loadA i cs j = some c) :
    ∃ v, (∀ w', (part t vs j).run P w' = .ok v w') ∧ V ρ S w c v := by
  unfold loadA at hl
  by_cases ha : i.agg = true
  · simp only [ha, if_true] at hl
    split at hl
    · rename_i hs
      cases hl
      have hsz : i.size = 0 ∨ j + i.size ≤ cs.length := by simp at hs; omega
      refine ⟨.agg (vs.extract j (j + i.size)), fun w' => ?_, ?_⟩
      · unfold part
        simp [hTY.agg hi, hTY.size hi, ha]
      · refine .agg _ _ ?_ fun k c v hk hv' => ?_
        · rw [hs]; simp; omega
        · simp only [List.getElem?_take, List.getElem?_drop] at hk
          split at hk
          · rename_i hlt
            rw [Array.getElem?_extract] at hv'
            split at hv'
            · exact hv _ _ _ hk hv'
            · cases hv'
          · cases hk
    · cases hl
  · simp only [ha, if_false, Bool.false_eq_true] at hl
    have hlt : j < vs.size := by
      rw [← hlen]
      rcases Nat.lt_or_ge j cs.length with h | h
      · exact h
      · rw [List.getElem?_eq_none h] at hl; cases hl
    refine ⟨vs[j], fun w' => ?_, hv j c _ hl (by simp [hlt])⟩
    unfold part
    simp [hTY.agg hi, ha, hlt]
/-- '==' of the fields, by what tells it at a field. -/
def eqFs (TY : TypeId → Option TI) (E : TypeId → AV → AV → Option Bool) : List (Nat × TypeId) → List AV → List AV → Option Bool
  | [], _, _ => some true
  | (off, ft) :: fs, xs, ys =>
    match TY ft with
    | none => none
    | some i =>
      match loadA i xs off, loadA i ys off with
      | some a, some b =>
        match E ft a b, eqFs TY E fs xs ys with
        | some r, some r' => some (r && r')
        | _, _ => none
      | _, _ => none
/-- '==' at a type, where it can be told off the cells. -/
def eqA (TY : TypeId → Option TI) : Nat → TypeId → AV → AV → Option Bool
  | 0, _, _, _ => none
  | d + 1, t, x, y =>
    match TY t with
    | none => none
    | some i =>
      match i.kind, x, y with
      | .bool, .bool a, .bool b => some (a == b)
      | .int _, .int k a, .int k' b => if k = k' then some (eqI a b) else none
      | .str, .str a, .str b => some (a == b)
      | .struct fs, .agg xs, .agg ys => if i.eqok then eqFs TY (eqA TY d) fs xs ys else none
      | _, _, _ => none
theorem kind_desc {d : TypeDesc} {i : TI} (h : TK.of d = i.kind) : (i.kind = .bool → d = .bool) ∧ (∀ k, i.kind = .int k → d = .int k) ∧ (i.kind = .str → d = .string) ∧ (∀ e, i.kind = .slice e → d = .slice e) ∧
    (∀ e, i.kind = .ptr e → d = .pointer e) ∧ (∀ n e, i.kind = .arr n e → d = .array n e) ∧ (∀ k e, i.kind = .map k e → d = .map k e) ∧
    (∀ l, i.kind = .struct l → ∃ fs, d = .struct fs ∧ l = fs.toList.map (fun f => (f.offset, f.type)) ∧ ∀ f ∈ fs.toList, f.name ≠ "_") := by
  rw [← h]
  cases d with
  | struct fs =>
    simp only [TK.of]
    split
    · simp
    · rename_i hn
      refine ⟨by simp, by simp, by simp, by simp, by simp, by simp, by simp, fun l hl => ⟨fs, rfl, ?_, ?_⟩⟩
      · cases hl; rfl
      · intro f hf he
        apply hn
        rw [Array.any_eq_true']
        exact ⟨f, by simpa using hf, by simp [he]⟩
  | _ => simp [TK.of]
theorem V.strR {l : List UInt8} {v : Value} (h : V ρ S w (.str l) v) : ∃ s, v = .string s ∧ s.data.toList = l ∧ l.length ≤ maxLen := by
  cases h with | str _ s h1 h2 => exact ⟨s, rfl, h1, h2⟩
theorem V.aggR {cs : List AV} {v : Value} (h : V ρ S w (.agg cs) v) : ∃ vs, v = .agg vs ∧ cs.length = vs.size ∧ ∀ (i : Nat) (c : AV) (v : Value), cs[i]? = some c → vs[i]? = some v → V ρ S w c v := by
  cases h with | agg _ vs h1 h2 => exact ⟨vs, rfl, h1, h2⟩
theorem eqA_sound (hTY : TyOk P TY) : ∀ (d : Nat) (D : Nat), d ≤ D → ∀ (t : TypeId) (x y : AV) (r : Bool) (vx vy : Value) (w' : World), eqA TY d t x y = some r → V ρ S w x vx → V ρ S w y vy →
    (Op.equalIn D t vx vy).run P w' = .ok r w' := by
  intro d
  induction d with
  | zero => intro D _ t x y r vx vy w' h; simp [eqA] at h
  | succ d ih =>
    intro D hD t x y r vx vy w' h hx hy
    obtain ⟨D, rfl⟩ : ∃ D', D = D' + 1 := ⟨D - 1, by omega⟩
    rw [eqA] at h
    split at h
    · cases h
    · rename_i i hi
      obtain ⟨info, desc, h1, h2, _, _, _, h6, _, h8⟩ := hTY.get hi
      obtain ⟨k1, k2, k3, _, _, _, _, k4⟩ := kind_desc h6
      split at h
      · rename_i hk
        cases h
        obtain rfl := hx.boolR; obtain rfl := hy.boolR
        exact run_equalIn_bool _ _ _ _ _ (by rw [h2, k1 hk])
      · rename_i kk k a k' b hk
        split at h
        · rename_i hkk
          subst hkk
          cases h
          obtain ⟨rfl, _⟩ := hx.intR; obtain ⟨rfl, _⟩ := hy.intR
          rw [eqI_eq]
          exact run_equalIn_int _ _ _ _ _ _ _ (by rw [h2, k2 _ hk])
        · cases h
      · rename_i a b hk
        cases h
        obtain ⟨s, rfl, rfl, _⟩ := hx.strR; obtain ⟨s', rfl, rfl, _⟩ := hy.strR
        rw [run_equalIn_string _ _ _ _ _ (by rw [h2, k3 hk]), ByteArray.toList_eq, ByteArray.toList_eq]
      · rename_i fs xs ys hk
        split at h
        · rename_i heq
          obtain ⟨vs, rfl, lx, hxs⟩ := hx.aggR; obtain ⟨us, rfl, ly, hys⟩ := hy.aggR
          obtain ⟨gs, hd, hl, hn⟩ := k4 _ hk
          subst hd
          have hf : P.fieldsOf t = gs := by simp [Program.fieldsOf, h2]
          rw [← h8, Bool.and_eq_true, Bool.not_eq_true', Bool.not_eq_true'] at heq
          rw [run_equalIn_struct _ _ _ _ _ (by rw [hf]; exact h2) heq.2, hf]
          subst hl
          generalize hgl : gs.toList = gl at h hn
          clear h2 hf hgl hk k1 k2 k3 k4 h6
          induction gl generalizing r w' with
          | nil => simp [eqFs] at h; subst h; simp [Op.eqFields]
          | cons g gl ihg =>
            rw [List.map_cons, eqFs] at h
            split at h
            · cases h
            · rename_i gi hgi
              split at h
              · rename_i a b ha hb
                split at h
                · rename_i r1 r2 hr1 hr2
                  cases h
                  obtain ⟨va, ra, hva⟩ := run_part hTY hgi lx hxs ha
                  obtain ⟨vb, rb, hvb⟩ := run_part hTY hgi ly hys hb
                  have e1 := ih D (by omega) _ _ _ _ _ _ w' hr1 hva hvb
                  have e2 := ihg r2 w' hr2 (fun f hf => hn f (List.mem_cons_of_mem _ hf))
                  rw [Op.eqFields, if_pos (hn g (List.mem_cons_self ..))]
                  simp only [Sem.run_bind, ra, rb, e1, Result.andThen_ok, Sem.run_ite]
                  cases r1 <;> simp [e2]
                · cases h
              · cases h
        · cases h
      · cases h
end
end
end Go.Vc

/- Operations that look into memory or make it. -/
namespace Go.Vc
open Go
noncomputable section
section
variable {P : Program} {TY : TypeId → Option TI} {ρ : Nat → Option Nat} {S : Nat → Prop} {w : World}
/-- What an operation must come to. -/
def OpOk (P : Program) (ρ : Nat → Option Nat) (S : Nat → Prop) (w : World) (s : Sem Next) (N : AV → List Blk → Prop) : Prop :=
  ∃ v w' c H' ρ', (s.run P w = .ok (.value v) w' ∨ (s.run P w = .ok .skip w' ∧ v = undef)) ∧ N c H' ∧ V ρ' S w' c v ∧ HRel ρ' S w' H' ∧ Ext ρ S w ρ' S w'
/-- The same of an operation that hands back a value. -/
def VOk (P : Program) (ρ : Nat → Option Nat) (S : Nat → Prop) (w : World) (s : Sem Value) (N : AV → List Blk → Prop) : Prop :=
  ∃ v w' c H' ρ', s.run P w = .ok v w' ∧ N c H' ∧ V ρ' S w' c v ∧ HRel ρ' S w' H' ∧ Ext ρ S w ρ' S w'
/-- Value alone, in the very world. -/
def VSt (P : Program) (ρ : Nat → Option Nat) (S : Nat → Prop) (w : World) (s : Sem Value) (N : AV → Prop) : Prop :=
  ∃ v c, s.run P w = .ok v w ∧ N c ∧ V ρ S w c v
theorem VSt.same {s : Sem Value} {N : AV → Prop} {H : List Blk} (hH0 : HRel ρ S w H) {c : AV} {v : Value} (h : s.run P w = .ok v w) (hN : N c) (hv : V ρ S w c v) : VSt P ρ S w s N :=
  ⟨v, c, h, hN, hv⟩
theorem VSt.ok {s : Sem Value} {N : AV → List Blk → Prop} {H : List Blk} (h : VSt P ρ S w s (fun c => N c H)) (hH : HRel ρ S w H) : VOk P ρ S w s N := by
  obtain ⟨v, c, h1, h2, h3⟩ := h
  exact ⟨v, w, c, H, ρ, h1, h2, h3, hH, Ext.refl _ _ _⟩
/-- The same of an operation. -/
def OpSt (P : Program) (ρ : Nat → Option Nat) (S : Nat → Prop) (w : World) (s : Sem Next) (N : AV → Prop) : Prop :=
  ∃ v c, s.run P w = .ok (.value v) w ∧ N c ∧ V ρ S w c v
theorem VSt.op {s : Sem Value} {N : AV → Prop} (h : VSt P ρ S w s N) : OpSt P ρ S w (do pure (.value (← s))) N := by
  obtain ⟨v, c, h1, h2, h3⟩ := h
  exact ⟨v, c, by simp [h1], h2, h3⟩
theorem OpSt.ok {s : Sem Next} {N : AV → List Blk → Prop} {H : List Blk} (h : OpSt P ρ S w s (fun c => N c H)) (hH : HRel ρ S w H) : OpOk P ρ S w s N := by
  obtain ⟨v, c, h1, h2, h3⟩ := h
  exact ⟨v, w, c, H, ρ, .inl h1, h2, h3, hH, Ext.refl _ _ _⟩
theorem VOk.op {s : Sem Value} {N : AV → List Blk → Prop} (h : VOk P ρ S w s N) : OpOk P ρ S w (do pure (.value (← s))) N := by
  obtain ⟨v, w', c, H', ρ', h1, h2⟩ := h
  exact ⟨v, w', c, H', ρ', .inl (by simp [h1]), h2⟩
theorem VOk.same {s : Sem Value} {N : AV → List Blk → Prop} {H : List Blk} (hH : HRel ρ S w H) {c : AV} {v : Value} (h : s.run P w = .ok v w) (hN : N c H) (hv : V ρ S w c v) : VOk P ρ S w s N :=
  ⟨v, w, c, H, ρ, h, hN, hv, hH, Ext.refl _ _ _⟩
/-- A new block. -/
theorem VOk.new {s : Sem Value} {N : AV → List Blk → Prop} {H : List Blk} (hH : HRel ρ S w H) {c : AV} {v : Value} {o : Obj} {blk : Blk} (h : s.run P w = .ok v (w.alloc o)) (hN : N c (H ++ [blk]))
    (hv : V (newρ ρ H.length w.heap.size) S (w.alloc o) c v) (hb : BRel (newρ ρ H.length w.heap.size) S (w.alloc o) H.length blk) : VOk P ρ S w s N :=
  ⟨v, w.alloc o, c, _, _, h, hN, hv, hrel_alloc hH o hb, ext_alloc hH o⟩
theorem newρ_at (n b : Nat) : newρ ρ n b n = some b := by simp [newρ]
theorem frozen_alloc_new (w : World) (c : Array Value) (t : TypeId) (o : Nat) : (w.alloc (.cells c t)).frozen? ⟨w.heap.size, o, none⟩ = false := by
  simp only [World.frozen?, heap_alloc_at]
  simp
theorem V.alloc {H : List Blk} (hH : HRel ρ S w H) (o : Obj) {c : AV} {v : Value} (h : V ρ S w c v) : V (newρ ρ H.length w.heap.size) S (w.alloc o) c v := h.mono (ext_alloc hH o)
/-! ### Variables -/
def allocA (TY : TypeId → Option TI) (e : TypeId) (H : List Blk) (N : AV → List Blk → Prop) : Prop :=
  match TY e with
  | none => False
  | some i => match i.zero with
    | none => False
    | some z => match z with
      | .any => False
      | z => N (.ptr H.length 0) (H ++ [.var z.cells (some e)])
def boxA (x : AV) (H : List Blk) (N : AV → List Blk → Prop) : Prop :=
  match x with
  | .any => False
  | x => N (.ptr H.length 0) (H ++ [.var x.cells])
theorem brel_newvar {H : List Blk} (hH : HRel ρ S w H) (hns : ∀ b, S b → b < w.heap.size) {c : AV} {v : Value} (hn : c ≠ .any) (h : V ρ S w c v) (T : TypeId) {T1 : Option Nat} (hT : tyOr T1 T = T) :
    BRel (newρ ρ H.length w.heap.size) S (w.alloc (.cells v.cells T)) H.length (.var c.cells T1) := by
  intro b hb
  rw [newρ_at] at hb
  cases hb
  obtain ⟨h1, h2⟩ := h.cells hn
  exact ⟨fun hs => Nat.lt_irrefl _ (hns _ hs), v.cells, T, (0, 0), by rw [hT]; exact heap_alloc_at w _, h1.symm, fun o _ => frozen_alloc_new w _ _ o, fun j c v hc hv => (h2 j c v hc hv).alloc hH _⟩
theorem boxA_sound (hns : ∀ b, S b → b < w.heap.size) {H : List Blk} (hH : HRel ρ S w H) {x : AV} {v : Value} {N : AV → List Blk → Prop} (hx : V ρ S w x v) (h : boxA x H N) (T : TypeId) :
    VOk P ρ S w (Instr.box T v) N := by
  have hn : x ≠ .any := by rintro rfl; exact h
  have h' : N (.ptr H.length 0) (H ++ [.var x.cells]) := by cases x <;> first | exact h | exact absurd rfl hn
  exact VOk.new hH (v := .pointer (some ⟨w.heap.size, 0, none⟩)) (o := .cells v.cells T) (by simp [Instr.box, newVar, newRow]) h' (.ptr _ _ _ (newρ_at _ _)) (brel_newvar hH hns hn hx T rfl)
theorem allocA_sound (hTY : TyOk P TY) (hns : ∀ b, S b → b < w.heap.size) {H : List Blk} (hH : HRel ρ S w H) {e : TypeId} {N : AV → List Blk → Prop} (h : allocA TY e H N) :
    VOk P ρ S w (Instr.alloc e true (.tuple #[])) N := by
  unfold allocA at h
  split at h
  · exact h.elim
  · rename_i i hi
    split at h
    · exact h.elim
    · rename_i z hz
      obtain ⟨v, hv, rfl⟩ := hTY.zero hi hz
      have hn : AV.ofC v ≠ .any := by intro he; rw [he] at h; exact h
      have h' : N (.ptr H.length 0) (H ++ [.var (AV.ofC v).cells (some e)]) := by
        generalize AV.ofC v = z at h hn
        cases z <;> first | exact h | exact absurd rfl hn
      exact VOk.new hH (v := .pointer (some ⟨w.heap.size, 0, none⟩)) (o := .cells v.cells e) (by simp [Instr.alloc, hv, newVar, newRow]) h' (.ptr _ _ _ (newρ_at _ _)) (brel_newvar hH hns hn (V.ofC v) e rfl)
/-! ### Loads and stores -/
def optP {α : Type} (o : Option α) (N : α → Prop) : Prop := match o with
  | some x => N x
  | none => False
theorem optP_some {α : Type} {o : Option α} {N : α → Prop} (h : optP o N) : ∃ x, o = some x ∧ N x := by
  cases o with
  | none => exact h.elim
  | some x => exact ⟨x, rfl, h⟩
def loadPA (TY : TypeId → Option TI) (t : TypeId) (p : AV) (H : List Blk) (N : AV → Prop) : Prop :=
  match TY t with
  | none => False
  | some i => match p with
    | .ptr id j => match H[id]? with
      | some (.var cs _) => optP (loadA i cs j) N
      | _ => False
    | .eptr id sz e j => match H[id]? with
      | some (.row sz' len get _) => if sz = sz' then e < len ∧ optP (loadA i (get e) j) N else False
      | _ => False
    | .rptr cs j => optP (loadA i cs j) N
    | _ => False
theorem V.ptrR {id j : Nat} {v : Value} (h : V ρ S w (.ptr id j) v) : ∃ b, v = .pointer (some ⟨b, j, none⟩) ∧ ρ id = some b := by
  cases h with | ptr _ _ b h => exact ⟨b, rfl, h⟩
theorem V.eptrR {id sz e j : Nat} {v : Value} (h : V ρ S w (.eptr id sz e j) v) : ∃ b, v = .pointer (some ⟨b, e * sz + j, none⟩) ∧ ρ id = some b := by
  cases h with | eptr _ _ _ _ b h => exact ⟨b, rfl, h⟩
theorem loadPA_sound (hTY : TyOk P TY) {H : List Blk} (hH : HRel ρ S w H) {t : TypeId} {p : AV} {v : Value} {N : AV → Prop} (hp : V ρ S w p v) (h : loadPA TY t p H N) :
    VSt P ρ S w (Instr.loadAt t v) N := by
  unfold loadPA at h
  split at h
  · exact h.elim
  · rename_i i hi
    split at h
    · -- a variable
      rename_i id j
      obtain ⟨b, rfl, hb⟩ := hp.ptrR
      split at h
      · rename_i cs T0 hcs
        obtain ⟨c, hc, hN⟩ := optP_some h
        obtain ⟨_, arr, T, fr, h1, h2, h3, h4⟩ := hH.blk id _ hcs b hb
        have hA : ∀ k, k < cs.length → w.cell? ⟨b, 0 + k, none⟩ = some (arr.getD k undef) := fun k hk => by
          simp only [World.cell?, h1]
          simp [h2 ▸ hk]
        have hB : ∀ (k : Nat) (c : AV), cs[k]? = some c → V ρ S w c (arr.getD k undef) := fun k c' hc' => by
          have hk : k < cs.length := by
            rcases Nat.lt_or_ge k cs.length with h | h
            · exact h
            · rw [List.getElem?_eq_none h] at hc'; cases hc'
          refine h4 k c' _ hc' ?_
          simp [h2 ▸ hk]
        obtain ⟨x, hx, hvx⟩ := run_loadVar hTY hi hA hB hc
        refine VSt.same hH (c := c) (v := x) ?_ hN hvx
        simpa [Instr.loadAt, Instr.sureAddr] using hx
      · exact h.elim
    · rename_i id sz e j
      obtain ⟨b, rfl, hb⟩ := hp.eptrR
      split at h
      · rename_i sz' len get T0 hcs
        split at h
        · rename_i hsz
          subst hsz
          obtain ⟨he, h⟩ := h
          obtain ⟨c, hc, hN⟩ := optP_some h
          obtain ⟨_, arr, T, fr, h1, h2, h3, h4, h5⟩ := hH.blk id _ hcs b hb
          have hl := h4 e he
          have hle : e * sz + sz ≤ arr.size := by
            have : (e + 1) * sz ≤ len * sz := Nat.mul_le_mul_right _ he
            rw [Nat.add_mul] at this; omega
          have hA : ∀ k, k < (get e).length → w.cell? ⟨b, e * sz + k, none⟩ = some (arr.getD (e * sz + k) undef) := fun k hk => by
            have hk' : e * sz + k < arr.size := by omega
            simp only [World.cell?, h1]
            simp [hk']
          have hB : ∀ (k : Nat) (c : AV), (get e)[k]? = some c → V ρ S w c (arr.getD (e * sz + k) undef) := fun k c' hc' => by
            have hk : k < (get e).length := by
              rcases Nat.lt_or_ge k (get e).length with h | h
              · exact h
              · rw [List.getElem?_eq_none h] at hc'; cases hc'
            have hk' : e * sz + k < arr.size := by omega
            refine h5 e k c' _ he hc' ?_
            simp [hk']
          obtain ⟨x, hx, hvx⟩ := run_loadVar hTY hi hA hB hc
          refine VSt.same hH (c := c) (v := x) ?_ hN hvx
          simpa [Instr.loadAt, Instr.sureAddr] using hx
        · exact h.elim
      · exact h.elim
    · rename_i cs j
      cases hp with
      | rptr _ _ b o f hs hb hc hv =>
        obtain ⟨c, hlc, hN⟩ := optP_some h
        obtain ⟨x, hx, hvx⟩ := run_loadVar (ρ := ρ) (S := S) (w := w) hTY hi hc (fun k c hk => (hv k c hk).lift) hlc
        refine VSt.same hH (c := c) (v := x) ?_ hN hvx
        simpa [Instr.loadAt, Instr.sureAddr] using hx
    · exact h.elim
/-- What is stored at a type: its cells, each of one cell, as many as the type has. -/
def storable (i : TI) (x : AV) : Bool := (match x with | .any => false | _ => true) && x.cells.length == i.size && x.cells.all AV.one
def storePA (TY : TypeId → Option TI) (t : TypeId) (p x : AV) (H : List Blk) (N : List Blk → Prop) : Prop :=
  match TY t with
  | none => False
  | some i => if storable i x then match p with
    | .ptr id j => match H[id]? with
      | some (.var cs T) => if j + i.size ≤ cs.length then N (H.set id (.var (over cs j x.cells) T)) else False
      | _ => False
    | .eptr id sz e j => match H[id]? with
      | some (.row sz' len get T) => if sz = sz' then if j + i.size ≤ sz then e < len ∧ N (H.set id (.row sz len (fun k => mergeL (decide (k = e)) (over (get e) j x.cells) (get k)) T)) else False else False
      | _ => False
    | _ => False
    else False
theorem storePA_sound (hTY : TyOk P TY) {H : List Blk} (hH : HRel ρ S w H) {t : TypeId} {p x : AV} {v u : Value} {N : List Blk → Prop} (hp : V ρ S w p v) (hx : V ρ S w x u) (h : storePA TY t p x H N) :
    ∃ w' H', (Instr.storeAt t v u).run P w = .ok () w' ∧ N H' ∧ HRel ρ S w' H' ∧ Ext ρ S w ρ S w' := by
  unfold storePA at h
  split at h
  · exact h.elim
  · rename_i i hi
    split at h
    · rename_i hst
      simp only [storable, Bool.and_eq_true, beq_iff_eq] at hst
      obtain ⟨⟨hn0, hsz⟩, hone⟩ := hst
      have hn : x ≠ .any := by rintro rfl; simp at hn0
      obtain ⟨hlen, hcs⟩ := hx.cells hn
      split at h
      · rename_i id j
        obtain ⟨b, rfl, hb⟩ := hp.ptrR
        split at h
        · rename_i cs T0 hcs'
          split at h
          · rename_i hin
            obtain ⟨hns, arr, T, fr, h1, h2, h3, h4⟩ := hH.blk id _ hcs' b hb
            have hrun := run_storeVar (P := P) (o := j) hTY hi h1 h3 hx hn hsz hone (by omega)
            have hheap := setCells_heap b u.cells.toList j w arr _ fr h1
            have hvl : j + u.cells.toList.length ≤ arr.size := by simp; omega
            have hE : Ext ρ S w ρ S (w.setCells b j u.cells.toList) := ext_upd hH hb hns (setCells_size _ _ _ _) (fun k hk => setCells_other b _ _ _ k hk)
              (fun a' T' f' h' => by rw [h1] at h'; cases h'; exact ⟨_, _, hheap, spl_size _ _ _⟩) (setCells_rest _ _ _ _).1 (setCells_rest _ _ _ _).2.1 (setCells_rest _ _ _ _).2.2 (setCells_drawn _ _ _ _)
            refine ⟨_, _, ?_, h, hrel_upd hH hcs' rfl hb hE (setCells_size _ _ _ _) (fun k hk => setCells_other b _ _ _ k hk) ?_, hE⟩
            · simpa [Instr.storeAt, Instr.sureAddr] using hrun
            · intro b' hb'
              rw [hb] at hb'; cases hb'
              refine ⟨hns, _, T, fr, hheap, ?_, fun o ho => ?_, fun k c v hk hv => ?_⟩
              · rw [spl_size, over_length (by omega)]; exact h2
              · rw [spl_size] at ho
                rw [World.frozen?_setCells]; exact h3 o ho
              · rw [over_get (by omega)] at hk
                rw [spl_get _ _ _ _ hvl] at hv
                have hl' : u.cells.toList.length = x.cells.length := by simp [hlen]
                split at hk
                · rename_i hr
                  rw [if_pos (by omega)] at hv
                  exact (hcs _ _ _ hk (by simpa using hv)).mono hE
                · rename_i hr
                  rw [if_neg (by omega)] at hv
                  exact (h4 k c v hk hv).mono hE
          · exact h.elim
        · exact h.elim
      · rename_i id sz e j
        obtain ⟨b, rfl, hb⟩ := hp.eptrR
        split at h
        · rename_i sz' len get T0 hcs'
          split at h
          · rename_i hszz
            subst hszz
            split at h
            · rename_i hin
              obtain ⟨he, h⟩ := h
              rw [merge_row] at h
              obtain ⟨hns, arr, T, fr, h1, h2, h3, h4, h5⟩ := hH.blk id _ hcs' b hb
              have hle : e * sz + sz ≤ arr.size := by
                have : (e + 1) * sz ≤ len * sz := Nat.mul_le_mul_right _ he
                rw [Nat.add_mul] at this; omega
              have hrun := run_storeVar (P := P) (o := e * sz + j) hTY hi h1 h3 hx hn hsz hone (by omega)
              have hheap := setCells_heap b u.cells.toList (e * sz + j) w arr _ fr h1
              have hvl : e * sz + j + u.cells.toList.length ≤ arr.size := by simp; omega
              have hE : Ext ρ S w ρ S (w.setCells b (e * sz + j) u.cells.toList) := ext_upd hH hb hns (setCells_size _ _ _ _) (fun k hk => setCells_other b _ _ _ k hk)
                (fun a' T' f' h' => by rw [h1] at h'; cases h'; exact ⟨_, _, hheap, spl_size _ _ _⟩) (setCells_rest _ _ _ _).1 (setCells_rest _ _ _ _).2.1 (setCells_rest _ _ _ _).2.2 (setCells_drawn _ _ _ _)
              refine ⟨_, _, ?_, h, hrel_upd hH hcs' rfl hb hE (setCells_size _ _ _ _) (fun k hk => setCells_other b _ _ _ k hk) ?_, hE⟩
              · simpa [Instr.storeAt, Instr.sureAddr] using hrun
              · intro b' hb'
                rw [hb] at hb'; cases hb'
                refine ⟨hns, _, T, fr, hheap, ?_, fun o ho => ?_, fun e' he' => ?_, fun e' k c v he' hk hv => ?_⟩
                · rw [spl_size]; exact h2
                · rw [spl_size] at ho
                  rw [World.frozen?_setCells]; exact h3 o ho
                · show (if e' = e then _ else _ : List AV).length = sz
                  split
                  · rw [over_length (by have := h4 e he; omega)]; exact h4 e he
                  · exact h4 e' he'
                · have hk' : (if e' = e then over (get e) j x.cells else get e')[k]? = some c := hk
                  rw [spl_get _ _ _ _ hvl] at hv
                  have hl' : u.cells.toList.length = x.cells.length := by simp [hlen]
                  by_cases hee : e' = e
                  · subst hee
                    rw [if_pos rfl, over_get (by have := h4 e' he; omega)] at hk'
                    split at hk'
                    · rename_i hr
                      rw [if_pos (by omega)] at hv
                      refine (hcs _ _ _ hk' ?_).mono hE
                      rw [← hv]
                      simp only [Array.getElem?_toList]
                      congr 1; omega
                    · rename_i hr
                      rw [if_neg (by omega)] at hv
                      exact (h5 e' k c v he hk' hv).mono hE
                  · rw [if_neg hee] at hk'
                    have hkl : k < sz := by
                      rcases Nat.lt_or_ge k sz with h | h
                      · exact h
                      · rw [List.getElem?_eq_none (by rw [h4 e' he']; exact h)] at hk'; cases hk'
                    rw [if_neg ?_] at hv
                    · exact (h5 e' k c v he' hk' hv).mono hE
                    · rintro ⟨g1, g2⟩
                      rcases Nat.lt_or_gt_of_ne hee with hlt | hgt
                      · have : (e' + 1) * sz ≤ e * sz := Nat.mul_le_mul_right _ hlt
                        rw [Nat.add_mul] at this; omega
                      · have : (e + 1) * sz ≤ e' * sz := Nat.mul_le_mul_right _ hgt
                        rw [Nat.add_mul] at this; omega
            · exact h.elim
          · exact h.elim
        · exact h.elim
      · exact h.elim
    · exact h.elim
end
end
end Go.Vc
