/- Operations, contracts, regions in the order of the text, code. -/
import Derived.Test.YtmfamcjilhjncaaGreatV3
import Derived.TacticsIn
import Derived.OrdersIn
import Derived.RangeFuncIn
set_option linter.all false
namespace Go.Vc
open Go
noncomputable section
section
variable {P : Program} {TY : TypeId → Option TI} {ρ : Nat → Option Nat} {S : Nat → Prop} {w : World}
theorem OpOk.of_unit {s : Sem Unit} {N : AV → List Blk → Prop} {w' : World} {H' : List Blk} (h : s.run P w = .ok () w') (hN : N .any H') (hH : HRel ρ S w' H') (hE : Ext ρ S w ρ S w') : OpOk P ρ S w (do s; pure .skip) N :=
  ⟨undef, w', .any, H', ρ, .inr ⟨by simp [h], rfl⟩, hN, .any _, hH, hE⟩
theorem OpSt.val {s : Sem Next} {N : AV → Prop} {v : Value} {c : AV} (h : s.run P w = .ok (.value v) w) (hN : N c) (hv : V ρ S w c v) : OpSt P ρ S w s N :=
  ⟨v, c, h, hN, hv⟩
/-- Operations that yield a value and touch nothing. -/
def opV (TY : TypeId → Option TI) (wr : Bool) (op : Op) (ts : List AV) (H : List Blk) (N : AV → Prop) : Prop :=
  match op with
  | .move x => N (evO ts x)
  | .assign x => N (evO ts x)
  | .pick c a b => pickA (evO ts c) (evO ts a) (evO ts b) N
  | .build t ps => buildF TY t (partsE ts ps) N
  | .load t a => loadPA TY t (evO ts a) H N
  | .nilCheck x => nilCheckA (evO ts x) N
  | .binOp op t x y _ => binA TY wr op t (evO ts x) (evO ts y) N
  | .unOp op _ x => unA wr op (evO ts x) N
  | .convert s d x => convA TY wr s d (evO ts x) H N
  | .makeInterface t x => (match TY t with | some i => (match i.kind with | .iface => False | _ => N (.iface t (evO ts x))) | none => False)
  | .makeFunc fn first caps => (match fn, first.toList with | .func f, [] => N (.fn f (caps.toList.map (evO ts))) | _, _ => False)
  | .slice t x l h m => (match TY t with
    | some i => (match i.kind with
      | .arr _ _ => False
      | _ => sliceA TY t (evO ts x) (l.map (evO ts)) (h.map (evO ts)) (m.map (evO ts)) N)
    | none => False)
  | .fieldAddr t x f => fieldAddrA TY t (evO ts x) f N
  | .field t x f => fieldA TY t (evO ts x) f N
  | .indexAddr t x i => indexAddrA TY t (evO ts x) (evO ts i) N
  | .index t x i => (match evO ts x with
    | .agg cs => arrIndexA TY t (.agg cs) (evO ts i) N
    | x => indexA TY t x (evO ts i) N)
  | .lookup t x i ok => lookupA TY t (evO ts x) (evO ts i) ok H N
  | .extract t i => extractA (evO ts t) i N
  | .call c => (match c.callee with
    | .builtin b => (match valueB b with
      | true => builtinA TY b c.argTypes.toList (c.args.toList.map (evO ts)) H (fun r _ => N r)
      | false => False)
    | _ => False)
  | _ => False
theorem opV_sound (hTY : TyOk P TY) {H : List Blk} (hH : HRel ρ S w H) {ts : List AV} {a : Act} (hT : TRel ρ S w ts a.tmps) {wr : Bool} (o : Oper) {N : AV → Prop}
    (h : opV TY wr o.op ts H N) : OpSt P ρ S w (execOp a.eval o) N := by
  obtain ⟨dst, op, type, pos, after, guard⟩ := o
  simp only at h
  cases op <;> simp only [opV] at h <;> (try exact h.elim)
  case move x => exact OpSt.val rfl h (hT.eval x)
  case assign x => exact OpSt.val rfl h (hT.eval x)
  case pick c x y => exact pickA_sound (hT.eval c) (hT.eval x) (hT.eval y) h
  case build t ps => exact (buildA_sound hTY hH hT (buildF_eq ▸ h)).op
  case load t x => exact (loadPA_sound hTY hH (hT.eval x) h).op
  case nilCheck x =>
    have hx := hT.eval x
    have fin : ∀ v, a.eval x = v → (match v with
        | .pointer none | .nilIface | .nilFunc => False
        | .func (.method _) _ _ => False
        | _ => True) → (execOp a.eval ⟨dst, .nilCheck x, type, pos, after, guard⟩).run P w = .ok (.value v) w := by
      intro v hv hm
      simp only [execOp]
      rw [hv]
      split at hm <;> first | exact hm.elim | skip
      split <;> first | rfl | (simp_all; done)
    unfold nilCheckA at h
    split at h
    · rename_i id j heq
      rw [heq] at hx
      obtain ⟨b, he, hb⟩ := hx.ptrR
      exact OpSt.val (fin _ he trivial) h (by rw [← he]; exact hT.eval x)
    · rename_i id sz e j heq
      rw [heq] at hx
      obtain ⟨b, he, hb⟩ := hx.eptrR
      exact OpSt.val (fin _ he trivial) h (by rw [← he]; exact hT.eval x)
    · rename_i cs j heq
      rw [heq] at hx
      cases hev : a.eval x <;> rw [hev] at hx <;> cases hx
      exact OpSt.val (fin _ hev trivial) h (by rw [← hev]; exact hT.eval x)
    · rename_i f cs heq
      rw [heq] at hx
      cases hev : a.eval x <;> rw [hev] at hx <;> cases hx
      exact OpSt.val (fin _ hev trivial) h (by rw [← hev]; exact hT.eval x)
    · exact h.elim
  case binOp op t x y yt => exact (binA_sound hTY hH x y (hT.eval x) (hT.eval y) h).op
  case unOp op t x => exact (unA_sound hH (hT.eval x) h).op
  case convert s d x => exact (convA_sound hTY hH (hT.eval x) h).op
  case makeInterface t x =>
    split at h
    · rename_i i hi
      obtain ⟨_, d, _, h2, _, _, _, h6, _, _⟩ := hTY.get hi
      have h' : (∀ ms, d ≠ .interface ms) ∧ N (.iface t (evO ts x)) := by
        split at h
        · exact h.elim
        · rename_i hk
          refine ⟨?_, h⟩
          rintro ms rfl
          exact hk (by rw [← h6]; rfl)
      refine (VSt.same hH (v := .iface t (a.eval x)) ?_ h'.2 (.iface _ _ _ (hT.eval x))).op
      unfold Instr.makeInterface
      simp only [Sem.run_bind, run_underlying' h2, Result.andThen_ok]
      cases d <;> first | rfl | exact absurd rfl (h'.1 _)
    · exact h.elim
  case makeFunc fn first caps =>
    split at h
    · rename_i f hf
      obtain ⟨first⟩ := first
      simp only at hf
      subst hf
      refine (VSt.same hH (v := .func (.func f) #[] (caps.map a.eval)) ?_ h ?_).op
      · simp [Instr.makeFunc]
      · refine .fn _ _ _ (by simp) fun i c v hc hv => ?_
        simp only [List.getElem?_map] at hc
        simp only [Array.getElem?_map] at hv
        cases hi : caps[i]? with
        | none => rw [hi] at hv; cases hv
        | some o =>
          have hi' : caps.toList[i]? = some o := by simpa using hi
          rw [hi'] at hc
          rw [hi] at hv
          cases hc; cases hv
          exact hT.eval o
    · exact h.elim
  case slice t x l hh m =>
    split at h
    · rename_i i hi
      obtain ⟨_, d, _, h2, _, _, _, h6, _, _⟩ := hTY.get hi
      split at h
      · exact h.elim
      · rename_i hna0
        have hna : ∀ n e, d ≠ .array n e := by
          rintro n e rfl
          exact hna0 n e (by rw [← h6]; rfl)
        obtain ⟨v, c, g1, g2⟩ := sliceA_sound hTY hH (hT.eval x) (optV_map hT l) (optV_map hT hh) (optV_map hT m) h
        refine VSt.op ⟨v, c, ?_, g2⟩
        rw [run_sliceAt_eq h2 hna]
        exact g1
    · exact h.elim
  case fieldAddr t x f => exact (fieldAddrA_sound hTY hH (hT.eval x) h).op
  case field t x f => exact (fieldA_sound hTY hH (hT.eval x) h).op
  case indexAddr t x i => exact (indexAddrA_sound hTY hH (hT.eval x) (hT.eval i) h).op
  case index t x i =>
    split at h
    · rename_i cs heq
      have hx := hT.eval x
      rw [heq] at hx
      exact (arrIndexA_sound hTY hH hx (hT.eval i) h).op
    · exact (indexA_sound hTY hH (hT.eval x) (hT.eval i) h).op
  case lookup t x i ok => exact (lookupA_sound hTY hH (hT.eval x) (hT.eval i) h).op
  case extract t i => exact (extractA_sound hH (hT.eval t) h).op
  case call c =>
    obtain ⟨callee, args, argTypes⟩ := c
    simp only at h
    split at h
    · rename_i b
      split at h
      · rename_i hb
        obtain ⟨v, c, g1, g2⟩ := builtinV_sound (ty := type) (cs := args.map fun | .const _ => true | _ => false) (N := fun r _ => N r) hTY hH hT hb h
        exact ⟨v, c, g1, g2⟩
      · exact h.elim
    · exact h.elim
theorem nilA_sound (hTY : TyOk P TY) {t : TypeId} {c : Bool} {z l : Nat} {g : Nat → List AV} {vx vy : Value} (xo yo : Operand) {N : Bool → Prop} {M : AV → Prop} (hx : V ρ S w (.sl c z l g) vx) (hy : V ρ S w .nilsl vy) (h : nilA TY t l N) (hM : ∀ b, N b → M (.bool b)) :
    VSt P ρ S w (do eqGuard .eql t xo yo vx vy; binOp .eql t vx vy) M := by
  unfold nilA at h
  split at h
  · rename_i i hi
    obtain ⟨info, d, h1, h2, _, _, _, h6, _, h8⟩ := hTY.get hi
    obtain ⟨_, _, _, ks, _⟩ := kind_desc h6
    split at h
    · rename_i e hk
      have he : P.underlying t = some (.slice e) := by rw [h2, ks e hk]
      cases hy
      have gsl : ∀ (a b : Option Addr) (l c l' c' : Nat), (eqGuard .eql t xo yo (.slice a l c) (.slice b l' c')).run P w = .ok () w := fun a b l c l' c' => by simp [eqGuard]
      have fin : ∀ (p : Option Addr) (l c : Nat), M (.bool p.isNone) → VSt P ρ S w (do eqGuard .eql t xo yo (.slice p l c) (.slice none 0 0); binOp .eql t (.slice p l c) (.slice none 0 0)) M := fun p l c hm =>
        ⟨.bool p.isNone, .bool p.isNone, by simp only [Sem.run_bind, gsl, Result.andThen_ok]; exact Lib.run_eql_slice_nil w t e p l c 0 0 he, hm, .bool _⟩
      cases hx with
      | sln _ _ _ ao => cases ao with
        | none => exact fin none 0 0 (hM true h.1)
        | some a => exact fin (some a) 0 0 (hM false h.2)
      | sl _ _ _ _ b o cap f hs hl hm hcl hz hc hv =>
        refine fin (some _) l cap (hM false ?_)
        split at h
        · exact h.2
        · exact h
    · exact h.elim
  · exact h.elim
theorem opA_sound (hTY : TyOk P TY) (hns : ∀ b, S b → b < w.heap.size) {H : List Blk} (hH : HRel ρ S w H) {ts : List AV} {a : Act} (hT : TRel ρ S w ts a.tmps) {wr : Bool} (o : Oper) {N : AV → List Blk → Prop}
    (h : opA TY wr o.op ts H N) : OpOk P ρ S w (execOp a.eval o) N := by
  have val : opV TY wr o.op ts H (fun r => N r H) → OpOk P ρ S w (execOp a.eval o) N := fun hv => (opV_sound hTY hH hT o hv).ok hH
  obtain ⟨dst, op, type, pos, after, guard⟩ := o
  simp only at h
  simp only at val
  cases op <;> simp only [opA] at h <;> simp only [opV] at val <;> (try exact h.elim)
  case move x => exact val h
  case assign x => exact val h
  case pick c x y => exact val h
  case build t ps => exact val h
  case load t x => exact val h
  case nilCheck x => exact val h
  case binOp op t x y yt =>
    split at h
    · rename_i c z l g hx hy
      have h1 := hT.eval x
      have h2 := hT.eval y
      rw [hx] at h1
      rw [hy] at h2
      exact (nilA_sound (M := fun r => N r H) hTY x y h1 h2 h fun b hb => hb).op.ok hH
    · exact val h
  case unOp op t x => exact val h
  case convert s d x => exact val h
  case makeInterface t x => exact val h
  case makeFunc fn first caps => exact val h
  case fieldAddr t x f => exact val h
  case field t x f => exact val h
  case indexAddr t x i => exact val h
  case index t x i => exact val h
  case lookup t x i ok => exact val h
  case extract t i => exact val h
  case alloc e => exact (allocA_sound hTY hns hH h).op
  case box e x => exact (boxA_sound hns hH (hT.eval x) h e).op
  case buildSlice t n ps => exact (buildSliceA_sound hTY hns hH hT h).op
  case insert t m k x =>
    obtain ⟨w', H', h1, h2, h3, h4⟩ := mapSetA_sound hTY hH (hT.eval m) (hT.eval k) (hT.eval x) h
    exact OpOk.of_unit h1 h2 h3 h4
  case store t p x =>
    obtain ⟨w', H', h1, h2, h3, h4⟩ := storePA_sound hTY hH (hT.eval p) (hT.eval x) h
    exact OpOk.of_unit h1 h2 h3 h4
  case makeMap t r =>
    cases r with
    | some _ => exact h.elim
    | none =>
      refine (VOk.new hH (v := .map (some w.heap.size)) (o := .map #[] 0) ?_ h (.map _ _ (newρ_at _ _)) ?_).op
      · simp [Instr.makeMap, newObj, Sem.run]
      · intro b hb
        rw [newρ_at] at hb
        cases hb
        exact ⟨fun hs => Nat.lt_irrefl _ (hns _ hs), #[], 0, heap_alloc_at w _, rfl, ⟨rfl, rfl⟩, fun i k x e hi => by simp at hi⟩
  case makeSlice t l c => exact (makeSliceA_sound hTY hns hH (hT.eval l) (hT.eval c) h).op
  case slice t x l hh m =>
    split at h
    · rename_i i hi
      split at h
      · exact (arrSliceA_sound hTY hH (hT.eval x) (optV_map hT l) (optV_map hT hh) h).op
      · exact h.elim
      · rename_i m x0 m0 hna1 hna2
        refine val ?_
        simp only [hi]
        split
        · rename_i n e hk
          cases m with
          | none => first | exact (hna1 n e hk rfl).elim | exact (hna2 n e hk rfl).elim
          | some v => first | exact (hna1 n e v hk rfl).elim | exact (hna2 n e v hk rfl).elim
        · exact h
    · exact h.elim
  case mapUpdate t m k x =>
    obtain ⟨w', H', h1, h2, h3, h4⟩ := mapSetA_sound hTY hH (hT.eval m) (hT.eval k) (hT.eval x) h
    exact OpOk.of_unit h1 h2 h3 h4
  case range t x =>
    split at h
    · rename_i l hx
      have hv := hT.eval x
      rw [hx] at hv
      exact (rangeA_sound hTY hns hH hv h).op
    · exact (rangeMA_sound hTY hns hH (hT.eval x) h).op
  case next it isS =>
    split at h
    · exact (nextA_sound hH (hT.eval it) h).op
    · exact (nextMA_sound hH (hT.eval it) h).op
  case entry it => exact (entryA_sound hH (hT.eval it) h).op.ok hH
  case typeAssert x xT t ok => exact (assertA_sound hTY hH (hT.eval x) h).op.ok hH
  case call c =>
    obtain ⟨callee, args, argTypes⟩ := c
    simp only at h
    split at h
    · rename_i b
      have := builtinA_sound (ty := type) (cs := args.map fun | .const _ => true | _ => false) hTY hns hH hT h
      obtain ⟨v, w', c, H', ρ', g1, g2⟩ := this
      refine ⟨v, w', c, H', ρ', ?_, g2⟩
      rcases g1 with g1 | g1
      · exact .inl g1
      · exact .inr g1
    · exact h.elim
end
/-! ### Fences that let all in -/
/-- A fence that lets all in, in a round or not. -/
structure Open (Fe : Fence) : Prop where
  fn : ∀ f, Fe.fn f
  dep : Fe.depth = none
  al : Fe.alive = false
theorem open_wide : Open Fence.wide := ⟨fun _ => trivial, rfl, rfl⟩
theorem open_round (l : Nat) : Open (Fence.wide.inRound l) := ⟨fun _ => trivial, rfl, rfl⟩
theorem Open.round {Fe : Fence} (h : Open Fe) (l : Nat) : Open (Fe.inRound l) := ⟨h.fn, h.dep, h.al⟩
theorem Open.fenced {Fe : Fence} (h : Open Fe) (P : Program) (m : Machine) : m.fenced P Fe := by
  intro g _
  refine ⟨fun ha => ?_, .inl (h.fn _), fun _ _ => h.fn _, fun d hd => ?_⟩
  · rw [h.al] at ha; cases ha
  · rw [h.dep] at hd; cases hd
theorem Open.room {Fe : Fence} (h : Open Fe) (n : Nat) : Fe.room n := fun d hd => by rw [h.dep] at hd; cases hd
theorem Open.deep {Fe : Fence} (h : Open Fe) {n : Nat} : Fe.depth.isSome = true → 1 ≤ n := fun hd => by rw [h.dep] at hd; cases hd
theorem Open.comes {Fe : Fence} (h : Open Fe) {P : Program} {m m' : Machine} {e : Ending} (hc : Comes P m m' e) : ComesIn (Machine.fenced P Fe) P m m' e := by
  have go : Steps P m m' → StepsIn (Machine.fenced P Fe) P m m' := fun hs => (StepsIn.of_steps hs).mono fun m _ => h.fenced P m
  cases e with
  | returned v => exact go hc
  | panicked ch => exact go hc
  | outgrown => exact hc
theorem Open.calls {Fe : Fence} (h : Open Fe) {n : Nat} {P : Program} {f : FuncId} {args : Array Value} {w : World} {R : Ending → World → Prop} (hc : Calls P f args w R) : CallsIn Fe n P f args w R :=
  ⟨h.fn _, fun cs _ => let ⟨e, w', fr, r, s, x⟩ := hc cs; ⟨e, w', fr, r, h.comes s, x⟩⟩
theorem Open.callsOut {Fe : Fence} (h : Open Fe) {n : Nat} {P : Program} {f : FuncId} {args : Array Value} {w : World} {R : Ending → World → Prop} (hc : CallsIn Fe n P f args w R) : Calls P f args w R :=
  fun cs => let ⟨e, w', fr, r, s, x⟩ := hc.2 cs (h.room _); ⟨e, w', fr, r, s.comes, x⟩
theorem Open.roundOf {Fe Ge : Fence} (h : Open Fe) (_ : Open Ge) {n m : Nat} {P : Program} {l : Nat} {f : FuncId} {tmps : Array Value} {asg body : Code} {w : World} {R : Ending → World → Prop} (hc : RoundIn Ge m P l f tmps asg body w R) (hg : Open Ge) : RoundIn Fe n P l f tmps asg body w R :=
  ⟨h.fn _, fun c cs _ => by
    obtain ⟨e, w', r, s⟩ := hc.2 c cs (hg.room _)
    refine ⟨e, w', r, ?_⟩
    have := s.comes
    exact h.comes this⟩
theorem wpo_of {Fe : Fence} (hO : Open Fe) {dn : Nat} {P : Program} {o : Oper} {a : Act} {w : World} {next : Act → World → Prop} {Q : Exit → Act → World → Prop} (hnd : ∀ c, o.op ≠ .defer c)
    (h : o.uponIn Fe dn P a next Q ((execOp a.eval o).run P w)) : o.wpIn Fe dn P a w next Q :=
  ⟨fun _ _ => hO.fn _, by rw [Oper.semAt_eq _ _ _ hnd]; exact h⟩
theorem nodefer {P : Program} {o : Oper} {ρ : Operand → Value} {w w' : World} {x : Next} (h : (execOp ρ o).run P w = .ok x w') (hx : ∀ d, x ≠ .defer d) : ∀ c, o.op ≠ .defer c := by
  intro c hc
  unfold execOp at h
  rw [hc] at h
  simp only [Sem.run_bind] at h
  cases hr : (resolve ρ c o.type).run P w with
  | ok d w1 => rw [hr] at h; simp only [Result.andThen_ok, Sem.run_pure, Result.ok.injEq] at h; exact hx _ h.1.symm
  | halt k w1 => rw [hr] at h; simp [Result.andThen] at h
/-! ### Contracts -/
/-- What a call comes to: of what it was handed, and own memory; what holds of the result, and own memory behind it. -/
abbrev Ctr := List AV → List Blk → (AV → List Blk → Prop) → Prop
def VL (ρ : Nat → Option Nat) (S : Nat → Prop) (w : World) (cs : List AV) (vs : Array Value) : Prop := cs.length = vs.size ∧ ∀ (i : Nat) (c : AV) (v : Value), cs[i]? = some c → vs[i]? = some v → V ρ S w c v
/-- Stable blocks are blocks; among them are those of F, and they hold what F says. -/
structure Sok (F : Nat → Obj → Prop) (S : Nat → Prop) (w : World) : Prop where
  lt : ∀ b, S b → b < w.heap.size
  st : ∀ b o, F b o → S b ∧ w.heap[b]? = some o
theorem Sok.ext {F : Nat → Obj → Prop} {ρ : Nat → Option Nat} {S : Nat → Prop} {w : World} {ρ' : Nat → Option Nat} {S' : Nat → Prop} {w' : World} (h : Sok F S w) (hE : Ext ρ S w ρ' S' w') (hs : ∀ b, S' b → b < w'.heap.size) : Sok F S' w' :=
  ⟨hs, fun b o hf => ⟨hE.st b (h.st b o hf).1, (hE.same b (h.lt b (h.st b o hf).1) (.inl (h.st b o hf).1)).trans (h.st b o hf).2⟩⟩
theorem Sok.still {F : Nat → Obj → Prop} {ρ : Nat → Option Nat} {S : Nat → Prop} {w : World} {ρ' : Nat → Option Nat} {w' : World} (h : Sok F S w) (hE : Ext ρ S w ρ' S w') : Sok F S w' :=
  h.ext hE fun b hb => Nat.lt_of_lt_of_le (h.lt b hb) hE.size
/-- A function keeps its contract. -/
def Good (F : Nat → Obj → Prop) (P : Program) (f : FuncId) (K : Ctr) : Prop :=
  ∀ ρ S (w : World) H cs vs Q, Sok F S w → HRel ρ S w H → VL ρ S w cs vs → K cs H Q →
    Calls P f vs w fun e w' => ∃ v c H' ρ' S', e = .returned v ∧ Q c H' ∧ V ρ' S' w' c v ∧ HRel ρ' S' w' H' ∧ Ext ρ S w ρ' S' w' ∧ Sok F S' w'
/-- A function that has a body is entered. -/
def Ent (P : Program) (f : FuncId) : Prop := ∀ args w, (callFunc f args).run P w = .ok (.enter f args) w
/-- Under this number stands what a round comes to. -/
def YF : Nat := 4294967295
/-- What a round comes to: its value, own memory. -/
def GoodY (F : Nat → Obj → Prop) (P : Program) (K : Ctr) : Prop :=
  ∀ ρ S (w : World) H id l cs vs Q, Sok F S w → HRel ρ S w H → ρ id = some l → VL ρ S w cs vs → K (.yfn id :: cs) H Q →
    ∃ f tmps asg body, (Instr.yield l vs).run P w = .ok (.round l f tmps asg body) w ∧ RoundIn Fence.wide 0 P l f tmps asg body w fun e w' => ∃ v c H' ρ' S', e = .returned v ∧ Q c H' ∧ V ρ' S' w' c v ∧ HRel ρ' S' w' H' ∧ Ext ρ S w ρ' S' w' ∧ Sok F S' w'
/-- A function that the model stands in for keeps its contract. -/
def GoodI (F : Nat → Obj → Prop) (P : Program) (f : FuncId) (K : Ctr) : Prop :=
  ∀ ρ S (w : World) H cs vs Q, Sok F S w → HRel ρ S w H → VL ρ S w cs vs → K cs H Q →
    ∃ v w' c H' ρ' S', (callFunc f vs).run P w = .ok (.value v) w' ∧ Q c H' ∧ V ρ' S' w' c v ∧ HRel ρ' S' w' H' ∧ Ext ρ S w ρ' S' w' ∧ Sok F S' w'
def CtrOk (F : Nat → Obj → Prop) (P : Program) (C : FuncId → Option Ctr) : Prop := ∀ f K, C f = some K → (Nat.beq f YF = false → (Ent P f ∧ Good F P f K) ∨ GoodI F P f K) ∧ (Nat.beq f YF = true → GoodY F P K)
def put (ts : List AV) (dst : Option Tmp) (c : AV) : List AV := match dst with
  | some d => ts.set d c
  | none => ts
def setF (K : List AV → Prop) (v : AV) : List AV → Nat → Prop
  | [], _ => K []
  | _ :: xs, 0 => K (v :: xs)
  | x :: xs, n + 1 => setF (fun ys => K (x :: ys)) v xs n
theorem setF_eq (v : AV) : ∀ (l : List AV) (n : Nat) (K : List AV → Prop), setF K v l n = K (l.set n v)
  | [], _, _ => rfl
  | _ :: xs, 0, _ => rfl
  | x :: xs, n + 1, K => by rw [setF, setF_eq v xs n]; rfl
def fcB : Blk → (Blk → Prop) → Prop
  | .dead, K => K .dead
  | .var cs T, K => fcL cs fun cs' => K (.var cs' T)
  | .row sz len get T, K => K (.row sz len get T)
  | .iter s p, K => K (.iter s p)
  | .map es bk, K => K (.map es bk)
  | .ext x, K => K (.ext x)
theorem fcB_eq (b : Blk) (K : Blk → Prop) : fcB b K = K b := by
  cases b <;> simp only [fcB]
  exact fcL_eq _ _
def fcH : List Blk → (List Blk → Prop) → Prop
  | [], K => K []
  | b :: bs, K => fcB b fun b' => fcH bs fun bs' => K (b' :: bs')
theorem fcH_eq : ∀ (H : List Blk) (K : List Blk → Prop), fcH H K = K H
  | [], _ => rfl
  | b :: bs, K => by rw [fcH, fcB_eq, fcH_eq bs]
/-- What follows an operation. -/
def fcSt (ts : List AV) (dst : Option Tmp) (r : AV) (H : List Blk) (N : St → Prop) : Prop := fcH H fun H' => match dst with
  | none => N ⟨ts, H'⟩
  | some d => fc r fun r' => setF (fun ts' => N ⟨ts', H'⟩) r' ts d
theorem fcSt_eq (ts : List AV) (dst : Option Tmp) (r : AV) (H : List Blk) (N : St → Prop) : fcSt ts dst r H N = N ⟨put ts dst r, H⟩ := by
  unfold fcSt
  rw [fcH_eq]
  cases dst with
  | none => rfl
  | some d => simp only; rw [fc_eq, setF_eq]; rfl
/-- Relation, and what goes with it. -/
structure RelX (F : Nat → Obj → Prop) (ds : List Deferred) (ρ : Nat → Option Nat) (S : Nat → Prop) (st : St) (a : Act) (w : World) : Prop extends Rel ds ρ S st a w where
  sok : Sok F S w
/-- Some state that is reached. -/
def Reach (F : Nat → Obj → Prop) (ds : List Deferred) (ρ : Nat → Option Nat) (S : Nat → Prop) (w : World) (N : St → Prop) (a' : Act) (w' : World) : Prop := ∃ st' ρ' S', N st' ∧ RelX F ds ρ' S' st' a' w' ∧ Ext ρ S w ρ' S' w'
section
variable {F : Nat → Obj → Prop} {P : Program} {TY : TypeId → Option TI} {C : FuncId → Option Ctr} {wr : Tmp → Bool} {ρ : Nat → Option Nat} {S : Nat → Prop} {w : World} {ds : List Deferred} {Fe : Fence} {dn : Nat}
theorem Rel.put {st : St} {a : Act} {H' : List Blk} {ρ' : Nat → Option Nat} {S' : Nat → Prop} {w' : World} (h : RelX F ds ρ S st a w) (hE : Ext ρ S w ρ' S' w') (hs : Sok F S' w') (hH : HRel ρ' S' w' H') {c : AV} {v : Value} (hv : V ρ' S' w' c v) (dst : Option Tmp) :
    RelX F ds ρ' S' ⟨Vc.put st.tmps dst c, H'⟩ (a.put dst v) w' := by
  cases dst with
  | none => exact ⟨⟨h.defers, h.tmps.mono hE, hH⟩, hs⟩
  | some d => exact ⟨⟨h.defers, (h.tmps.mono hE).set hv d, hH⟩, hs⟩
/-! ### Regions in the order of the text -/
/-- The temporary of operation j. -/
def tmpOf (ops : Array Oper) (j : Nat) : Option Tmp := (ops[j]?).bind (·.dst)
theorem set_same {α : Type} {l : List α} {t : Nat} {x : α} (h : l[t]? = some x) : l.set t x = l := by
  apply List.ext_getElem?
  intro i
  rw [List.getElem?_set]
  split
  · rename_i hti
    subst hti
    split
    · exact h.symm
    · rename_i hn
      rw [List.getElem?_eq_none (by omega)] at h; cases h
  · rfl
theorem Reach.trans {N : St → Prop} {ρ1 : Nat → Option Nat} {S1 : Nat → Prop} {w1 : World} (hE : Ext ρ S w ρ1 S1 w1) {a' : Act} {w' : World} (h : Reach F ds ρ1 S1 w1 N a' w') : Reach F ds ρ S w N a' w' := by
  obtain ⟨st', ρ', S', h1, h2, h3⟩ := h
  exact ⟨st', ρ', S', h1, h2, hE.trans h3⟩
theorem yielded_tmp {ops : Array Oper} {j t : Nat} {b : Bool} {ts : List AV} {tm : Array Value} (ht : tmpOf ops j = some t) (h : TRel ρ S w ts tm) (hb : ts[t]? = some (.bool b)) : yielded ops tm j = some b := by
  have hlt : t < tm.size := by
    rw [← h.1]
    rcases Nat.lt_or_ge t ts.length with h' | h'
    · exact h'
    · rw [List.getElem?_eq_none h'] at hb; cases hb
  have hv := h.2 t _ tm[t] hb (by simp [hlt])
  have := hv.boolR
  unfold yielded
  unfold tmpOf at ht
  rw [ht]
  simp [hlt, this]
theorem undef_tup {v : Value} (h : V ρ S w (.tup []) v) : v = undef := by
  cases h with
  | tup _ vs hl _ =>
    have : vs.size = 0 := by simpa using hl.symm
    rw [Array.eq_empty_of_size_eq_zero this]; rfl
theorem yielded_none {ops : Array Oper} {j t : Nat} {ts : List AV} {tm : Array Value} (ht : tmpOf ops j = some t) (h : TRel ρ S w ts tm) (hb : ts[t]? = some (.tup [])) : yielded ops tm j = none := by
  have hlt : t < tm.size := by
    rw [← h.1]
    rcases Nat.lt_or_ge t ts.length with h' | h'
    · exact h'
    · rw [List.getElem?_eq_none h'] at hb; cases hb
  have := undef_tup (h.2 t _ tm[t] hb (by simp [hlt]))
  unfold yielded
  unfold tmpOf at ht
  rw [ht]
  simp [hlt, this, undef]
end
end
end Go.Vc

/- Own numbers in values: none above a bound; other numbers; values that let go of own memory. -/
namespace Go.Vc
open Go
noncomputable section
mutual
/-- All own numbers lie below n. -/
def AV.under (n : Nat) : AV → Bool
  | .ptr id _ => decide (id < n)
  | .eptr id _ _ _ => decide (id < n)
  | .osl id _ _ _ _ => decide (id < n)
  | .map id => decide (id < n)
  | .iter id => decide (id < n)
  | .yfn id => decide (id < n)
  | .agg cs => underL n cs
  | .tup cs => underL n cs
  | .fn _ cs => underL n cs
  | .iface _ v => v.under n
  | _ => true
def underL (n : Nat) : List AV → Bool
  | [] => true
  | c :: cs => c.under n && underL n cs
end
theorem underL_get {n : Nat} : ∀ {cs : List AV}, underL n cs = true → ∀ (i : Nat) (c : AV), cs[i]? = some c → c.under n = true
  | [], _, i, c, h => by simp at h
  | x :: xs, hb, i, c, h => by
    rw [underL, Bool.and_eq_true] at hb
    cases i with
    | zero => simp at h; subst h; exact hb.1
    | succ i => simp at h; exact underL_get hb.2 i c h
section
variable {ρ : Nat → Option Nat} {S : Nat → Prop} {w : World}
theorem V.other {a : AV} {v : Value} (h : V ρ S w a v) : ∀ {n : Nat} {ρ' : Nat → Option Nat}, a.under n = true → (∀ i b, i < n → ρ i = some b → ρ' i = some b) → V ρ' S w a v := by
  induction h with
  | any v => exact fun _ _ => .any v
  | bool b => exact fun _ _ => .bool b
  | int k n h1 h2 => exact fun _ _ => .int k n h1 h2
  | str l s h1 h2 => exact fun _ _ => .str l s h1 h2
  | nilp => exact fun _ _ => .nilp
  | ptr id j b hb => exact fun hn h => .ptr id j b (h _ _ (by simpa [AV.under] using hn) hb)
  | eptr id sz e j b hb => exact fun hn h => .eptr id sz e j b (h _ _ (by simpa [AV.under] using hn) hb)
  | rptr cs j b o f hs hb hc hv _ => exact fun _ _ => .rptr cs j b o f hs hb hc hv
  | nilsl => exact fun _ _ => .nilsl
  | sln clip sz get ao => exact fun _ _ => .sln clip sz get ao
  | sl clip sz len get b o cap f hs hl hm hcl hz hc hv _ => exact fun _ _ => .sl clip sz len get b o cap f hs hl hm hcl hz hc hv
  | osl id sz off len cap b o cp hb hl hm ho hx hcap => exact fun hn h => .osl id sz off len cap b o cp (h _ _ (by simpa [AV.under] using hn) hb) hl hm ho hx hcap
  | agg cs vs hl _ ih => exact fun hn h => .agg cs vs hl fun i c v hc hv => ih i c v hc hv (underL_get (by simpa [AV.under] using hn) i c hc) h
  | tup cs vs hl _ ih => exact fun hn h => .tup cs vs hl fun i c v hc hv => ih i c v hc hv (underL_get (by simpa [AV.under] using hn) i c hc) h
  | fn f cs vs hl _ ih => exact fun hn h => .fn f cs vs hl fun i c v hc hv => ih i c v hc hv (underL_get (by simpa [AV.under] using hn) i c hc) h
  | nilfn => exact fun _ _ => .nilfn
  | nilmap => exact fun _ _ => .nilmap
  | map id b hb => exact fun hn h => .map id b (h _ _ (by simpa [AV.under] using hn) hb)
  | nilif => exact fun _ _ => .nilif
  | iface t v a _ ih => exact fun hn h => .iface t v a (ih (by simpa [AV.under] using hn) h)
  | iter id b hb => exact fun hn h => .iter id b (h _ _ (by simpa [AV.under] using hn) hb)
  | yfn id b hb => exact fun hn h => .yfn id b (h _ _ (by simpa [AV.under] using hn) hb)
  | intu k n h1 h2 => exact fun _ _ => .intu k n h1 h2
  | cellu v h => exact fun _ _ => .cellu v h
theorem V.pure {a : AV} {v : Value} (h : V ρ S w a v) (hb : a.under 0 = true) : V (fun _ => none) S w a v := h.other hb fun i b hi => (by omega)
end
/-! ### What is known may be let go, and own blocks may bear other numbers -/
section
variable {ρ : Nat → Option Nat} {S : Nat → Prop} {w : World}
end
end
end Go.Vc

/- States at a loop's head; values handed over; contracts of functions that change nothing of what was there. -/
namespace Go.Vc
open Go
noncomputable section
/-! ### Heads -/
/-- Numbers below n0 stay; the others are looked up. -/
def sig (n0 : Nat) (l : List Nat) (i : Nat) : Nat := match decide (i < n0) with
  | true => i
  | false => l.getD (i - n0) i
section
variable {F : Nat → Obj → Prop} {P : Program} {TY : TypeId → Option TI} {ρ : Nat → Option Nat} {S : Nat → Prop} {w : World} {ds : List Deferred}
/-- Own blocks under other numbers. -/
def subρ (ρ : Nat → Option Nat) (σ : Nat → Nat) (n : Nat) : Nat → Option Nat := fun i => if i < n then ρ (σ i) else none
end
end
end Go.Vc

/- Values that let go of own memory; contracts of functions that change nothing of what was there. -/
namespace Go.Vc
open Go
noncomputable section
section
variable {P : Program} {TY : TypeId → Option TI} {ρ : Nat → Option Nat} {S : Nat → Prop} {w : World}
theorem Ext0.stable {S' : Nat → Prop} (h : ∀ b, S b → S' b) : Ext0 ρ S w ρ S' w :=
  ⟨fun _ _ h => h, h, fun _ _ _ => rfl, Nat.le_refl _, fun _ arr _ fr h => ⟨arr, fr, h, rfl⟩⟩
theorem V.stable {S' : Nat → Prop} (h : ∀ b, S b → S' b) {c : AV} {v : Value} (hv : V ρ S w c v) : V ρ S' w c v := hv.mono0 (Ext0.stable h)
end
end
end Go.Vc

/- Contracts of functions that change nothing of what was there; own memory handed over to them. -/
namespace Go.Vc
open Go
noncomputable section
/-- One outcome. -/
def Det (F : (AV → Prop) → Prop) : Prop := ∀ N, F N → ∃ r, N r ∧ F (fun c => c = r)
/-- What a call comes to, of what it was handed: one outcome. -/
structure PC where
  T : List AV → (AV → Prop) → Prop
  det : ∀ cs, Det (T cs)
section
variable {F : Nat → Obj → Prop} {P : Program} {ρ : Nat → Option Nat} {S : Nat → Prop} {w : World}
end
end
end Go.Vc

/- Regions that draw their order, one: rows of writings, some of which have come about. -/
namespace Go.Vc
open Go
noncomputable section
section
variable {α : Type}
def setAll (l : List α) (w : List (Nat × α)) : List α := w.foldl (fun l p => l.set p.1 p.2) l
def ov (D : Nat → Bool) : Nat → List (List (Nat × α)) → List α → List α
  | _, [], b => b
  | i, w :: ws, b => ov D (i + 1) ws (match D i with | true => setAll b w | false => b)
def keyIn (k : Nat) (w : List (Nat × α)) : Bool := w.any fun p => p.1 == k
theorem setAll_cons (l : List α) (p : Nat × α) (w : List (Nat × α)) : setAll l (p :: w) = setAll (l.set p.1 p.2) w := rfl
theorem setAll_length : ∀ (w : List (Nat × α)) (l : List α), (setAll l w).length = l.length
  | [], _ => rfl
  | p :: w, l => by rw [setAll_cons, setAll_length w]; simp
theorem setAll_out {k : Nat} : ∀ (w : List (Nat × α)) (l : List α), keyIn k w = false → (setAll l w)[k]? = l[k]?
  | [], _, _ => rfl
  | p :: w, l, h => by
    simp only [keyIn, List.any_cons, Bool.or_eq_false_iff, beq_eq_false_iff_ne] at h
    rw [setAll_cons, setAll_out w _ h.2, List.getElem?_set_ne h.1]
theorem setAll_in {k : Nat} : ∀ (w : List (Nat × α)) (l l' : List α), l.length = l'.length → (keyIn k w = true ∨ l[k]? = l'[k]?) → (setAll l w)[k]? = (setAll l' w)[k]?
  | [], l, l', _, h => by
    rcases h with h | h
    · cases h
    · exact h
  | p :: w, l, l', hl, h => by
    rw [setAll_cons, setAll_cons]
    refine setAll_in w _ _ (by simpa using hl) ?_
    by_cases hp : p.1 = k
    · refine .inr ?_
      rw [List.getElem?_set, List.getElem?_set, if_pos hp, if_pos hp, hl]
    · rcases h with h | h
      · simp only [keyIn, List.any_cons, Bool.or_eq_true, beq_iff_eq] at h
        rcases h with h | h
        · exact absurd h hp
        · exact .inl h
      · exact .inr (by rw [List.getElem?_set_ne hp, List.getElem?_set_ne hp]; exact h)
theorem ov_congr {D D' : Nat → Bool} {k : Nat} : ∀ (ws : List (List (Nat × α))) (i : Nat) (b b' : List α), b.length = b'.length → b[k]? = b'[k]? →
    (∀ (m : Nat) w, ws[m]? = some w → keyIn k w = true → D (i + m) = D' (i + m)) → (ov D i ws b)[k]? = (ov D' i ws b')[k]?
  | [], _, _, _, _, h, _ => h
  | w :: ws, i, b, b', hl, h, hD => by
    rw [ov, ov]
    refine ov_congr ws (i + 1) _ _ ?_ ?_ (fun m w hm hk => by have := hD (m + 1) w (by simpa using hm) hk; rwa [show i + (m + 1) = i + 1 + m by omega] at this)
    · cases D i <;> cases D' i <;> simp [setAll_length, hl]
    · by_cases hk : keyIn k w = true
      · have := hD 0 w rfl hk
        rw [Nat.add_zero] at this
        rw [this]
        cases D' i
        · exact h
        · exact setAll_in w _ _ hl (.inl hk)
      · have hk : keyIn k w = false := by simpa using hk
        have e : ∀ (c : Bool) (b : List α), (match c with | true => setAll b w | false => b)[k]? = b[k]? := by
          intro c b
          cases c
          · rfl
          · exact setAll_out w b hk
        rw [e, e]; exact h
theorem ov_shift {D : Nat → Bool} : ∀ (ws : List (List (Nat × α))) (i : Nat) (b : List α), ov D (i + 1) ws b = ov (fun m => D (m + 1)) i ws b
  | [], _, _ => rfl
  | w :: ws, i, b => by rw [ov, ov, ov_shift ws (i + 1)]
theorem ov_same {D D' : Nat → Bool} : ∀ (ws : List (List (Nat × α))) (i : Nat) (b : List α), (∀ m : Nat, m < ws.length → D (i + m) = D' (i + m)) → ov D i ws b = ov D' i ws b
  | [], _, _, _ => rfl
  | w :: ws, i, b, h => by
    rw [ov, ov]
    have h0 := h 0 (by simp)
    rw [Nat.add_zero] at h0
    rw [h0]
    exact ov_same ws (i + 1) _ fun m hm => by have := h (m + 1) (by simpa using hm); rwa [show i + (m + 1) = i + 1 + m by omega] at this
theorem setAll_comm {w w' : List (Nat × α)} (h : ∀ k, keyIn k w = true → keyIn k w' = false) (b : List α) : setAll (setAll b w) w' = setAll (setAll b w') w := by
  apply List.ext_getElem?
  intro k
  by_cases hk : keyIn k w = true
  · rw [setAll_out w' _ (h k hk)]
    exact setAll_in w _ _ (by rw [setAll_length]) (.inl hk)
  · have hk : keyIn k w = false := by simpa using hk
    rw [setAll_out w _ hk]
    exact setAll_in w' _ _ (by rw [setAll_length]) (.inr (setAll_out w b hk))
theorem ov_set {D : Nat → Bool} {w : List (Nat × α)} : ∀ (ws : List (List (Nat × α))) (i : Nat) (b : List α), (∀ (m : Nat) w', ws[m]? = some w' → D (i + m) = true → ∀ k, keyIn k w = true → keyIn k w' = false) →
    ov D i ws (setAll b w) = setAll (ov D i ws b) w
  | [], _, _, _ => rfl
  | w' :: ws, i, b, h => by
    rw [ov, ov]
    have tl : ∀ (m : Nat) w'', ws[m]? = some w'' → D (i + 1 + m) = true → ∀ k, keyIn k w = true → keyIn k w'' = false := fun m w'' hm hd => h (m + 1) w'' (by simpa using hm) (by rwa [show i + (m + 1) = i + 1 + m by omega])
    cases hd : D i with
    | false => exact ov_set ws (i + 1) b tl
    | true =>
      show ov D (i + 1) ws (setAll (setAll b w) w') = setAll (ov D (i + 1) ws (setAll b w')) w
      rw [setAll_comm (h 0 w' rfl (by rwa [Nat.add_zero]))]
      exact ov_set ws (i + 1) _ tl
theorem ov_add {D : Nat → Bool} {j : Nat} {wj : List (Nat × α)} : ∀ (ws : List (List (Nat × α))) (i : Nat) (b : List α), ws[j]? = some wj → D (i + j) = false →
    (∀ (m : Nat) w, ws[m]? = some w → j < m → D (i + m) = true → ∀ k, keyIn k wj = true → keyIn k w = false) → ov (fun m => m == i + j || D m) i ws b = setAll (ov D i ws b) wj := by
  intro ws
  induction ws generalizing j with
  | nil => intro i b h; simp at h
  | cons w ws ih =>
    intro i b hj hD hc
    cases j with
    | zero =>
      simp at hj
      subst hj
      rw [Nat.add_zero] at hD
      rw [ov, ov, hD]
      simp only [Nat.add_zero, beq_self_eq_true, Bool.true_or]
      rw [ov_same (D' := D) ws (i + 1) _ fun m _ => by
        have : (i + 1 + m == i) = false := by simpa using (by omega)
        rw [this]; rfl]
      exact ov_set ws (i + 1) b fun m w' hm hd => hc (m + 1) w' (by simpa using hm) (by omega) (by rwa [show i + (m + 1) = i + 1 + m by omega])
    | succ j =>
      rw [ov, ov]
      have : (i == i + (j + 1)) = false := by simp
      simp only [this, Bool.false_or]
      have := ih (j := j) (i + 1) (match D i with | true => setAll b w | false => b) (by simpa using hj) (by rwa [show i + 1 + j = i + (j + 1) by omega])
        (fun m w' hm hlt hd => hc (m + 1) w' (by simpa using hm) (by omega) (by rwa [show i + (m + 1) = i + 1 + m by omega]))
      rw [show i + 1 + j = i + (j + 1) by omega] at this
      exact this
end
/-! ### What an operation must wait for -/
/-- What it waits for itself. -/
def direct (o : Oper) : List Nat := (o.after.toList.filter fun e => Region.binds .any e).map (·.on)
inductive Anc (ops : Array Oper) : Nat → Nat → Prop where
  | one {i j : Nat} {o : Oper} (h : ops[j]? = some o) (hi : i ∈ direct o) : Anc ops i j
  | step {i m j : Nat} {o : Oper} (h : Anc ops i m) (hj : ops[j]? = some o) (hm : m ∈ direct o) : Anc ops i j
/-- All that each waits for. -/
def maskOf (acc : List Nat) : List Nat → Nat
  | [] => 0
  | i :: l => Nat.lor (Nat.lor (2 ^ i) (acc.getD i 0)) (maskOf acc l)
def clo1 (o : Oper) (acc : List Nat) : Nat := maskOf acc (direct o)
def clos : List Nat → List Oper → List Nat
  | acc, [] => acc
  | acc, o :: os => clos (acc ++ [clo1 o acc]) os
theorem maskOf_bit {acc : List Nat} {i : Nat} : ∀ {l : List Nat}, (maskOf acc l).testBit i = true → i ∈ l ∨ ∃ m ∈ l, (acc.getD m 0).testBit i = true
  | [], h => by simp [maskOf] at h
  | x :: l, h => by
    rw [maskOf] at h
    have h : (2 ^ x ||| acc.getD x 0 ||| maskOf acc l).testBit i = true := h
    rw [Nat.testBit_or, Nat.testBit_or, Bool.or_eq_true, Bool.or_eq_true, Nat.testBit_two_pow] at h
    rcases h with (h | h) | h
    · left; simp at h; subst h; simp
    · exact .inr ⟨x, by simp, h⟩
    · rcases maskOf_bit h with h | ⟨m, h1, h2⟩
      · exact .inl (List.mem_cons_of_mem _ h)
      · exact .inr ⟨m, List.mem_cons_of_mem _ h1, h2⟩
theorem clos_spec (ops : Array Oper) : ∀ (os : List Oper) (acc : List Nat), (∀ m : Nat, m < os.length → ops[acc.length + m]? = os[m]?) →
    (∀ (j : Nat) l, acc[j]? = some l → ∀ i, l.testBit i = true → Anc ops i j) → ∀ (j : Nat) l, (clos acc os)[j]? = some l → ∀ i, l.testBit i = true → Anc ops i j
  | [], acc, _, h => h
  | o :: os, acc, ho, h => by
    have h0 : ops[acc.length]? = some o := by have := ho 0 (by simp); simpa using this
    refine clos_spec ops os (acc ++ [clo1 o acc]) (fun m hm => ?_) (fun j l hl i hi => ?_)
    · have := ho (m + 1) (by simpa using hm)
      simp only [List.length_append, List.length_singleton]
      rw [show acc.length + 1 + m = acc.length + (m + 1) by omega, this]
      simp
    · by_cases hj : j < acc.length
      · rw [List.getElem?_append_left hj] at hl
        exact h j l hl i hi
      · rw [List.getElem?_append_right (by omega)] at hl
        have hj' : j = acc.length := by
          rcases Nat.eq_or_lt_of_le (Nat.le_of_not_lt hj) with h1 | h1
          · exact h1.symm
          · rw [List.getElem?_eq_none (by simp; omega)] at hl; cases hl
        subst hj'
        simp at hl
        subst hl
        rcases maskOf_bit hi with hi | ⟨m, hm, hi⟩
        · exact .one h0 hi
        · refine .step (m := m) ?_ h0 hm
          rw [List.getD_eq_getElem?_getD] at hi
          cases hm' : acc[m]? with
          | none => rw [hm'] at hi; simp at hi
          | some l => rw [hm'] at hi; exact h m l hm' i hi
/-- What has come about, with all that it waits for. -/
def Down (ops : Array Oper) (D : Nat → Bool) : Prop := ∀ (j : Nat) o, ops[j]? = some o → D j = true → ∀ i ∈ direct o, D i = true
theorem Down.anc {ops : Array Oper} {D : Nat → Bool} (h : Down ops D) {i j : Nat} (ha : Anc ops i j) : (∀ o, ops[j]? = some o → ∀ m ∈ direct o, D m = true) → D i = true := by
  induction ha with
  | one hj hi => exact fun hd => hd _ hj _ hi
  | step _ hj hm ih =>
    intro hd
    exact ih fun o ho k hk => h _ o ho (hd _ hj _ hm) k hk
/-! ### How many are still to come -/
def toCome (n : Nat) (listed : Array Bool) : Nat := (List.range n).countP fun i => !listed.getD i true
theorem countP_one {p q : Nat → Bool} {j : Nat} (hp : p j = true) (hq : q j = false) (h : ∀ i, i ≠ j → p i = q i) : ∀ n, (List.range n).countP p = (List.range n).countP q + if j < n then 1 else 0 := by
  intro n
  induction n with
  | zero => simp
  | succ n ih =>
    rw [List.range_succ, List.countP_append, List.countP_append, ih]
    by_cases hj : j = n
    · subst hj
      simp [hp, hq]
    · simp only [List.countP_singleton, h n (fun e => hj e.symm)]
      by_cases hlt : j < n
      · have h2 : j < n + 1 := by omega
        simp only [hlt, h2, if_true]; omega
      · have h2 : ¬ j < n + 1 := by omega
        simp only [hlt, h2, if_false]; omega
theorem toCome_set {n j : Nat} {listed : Array Bool} (hs : listed.size = n) (hj : j < n) (hl : listed.getD j true = false) : toCome n listed = toCome n (listed.setIfInBounds j true) + 1 := by
  unfold toCome
  have := countP_one (p := fun i => !listed.getD i true) (q := fun i => !(listed.setIfInBounds j true).getD i true) (j := j) (by simp only [hl]; rfl) ?_ (fun i hi => ?_) n
  · rw [this, if_pos hj]
  · simp [hs, hj]
  · show (!listed.getD i true) = !(listed.setIfInBounds j true).getD i true
    rw [getD_set_ne true (Ne.symm hi)]
theorem toCome_zero {n : Nat} {listed : Array Bool} (h : toCome n listed = 0) : ∀ i, i < n → listed.getD i true = true := by
  intro i hi
  unfold toCome at h
  rw [List.countP_eq_zero] at h
  have := h i (List.mem_range.2 hi)
  simpa using this
end
end Go.Vc

/- Regions that draw their order, two: operations that yield one value come to one value, and look only where they look. -/
namespace Go.Vc
open Go
noncomputable section
section
variable {TY : TypeId → Option TI}
theorem det_pick (c a b : AV) : Det (pickA c a b) := by
  intro N h; unfold pickA at h ⊢
  split at h
  · exact ⟨_, h, rfl⟩
  · split at h
    · rename_i a b hh _
      exact ⟨_, h, rfl⟩
    · exact ⟨_, h, rfl⟩
  · exact h.elim
theorem det_optP {o : Option AV} : Det (optP o) := by
  intro N h; obtain ⟨x, rfl, hN⟩ := optP_some h; exact ⟨x, hN, rfl⟩
theorem det_build {t : TypeId} {ps : List (Nat × AV)} : Det (buildF TY t ps) := by
  rw [show buildF TY t ps = buildA TY t ps from funext fun N => buildF_eq]
  intro N h; unfold buildA at h ⊢
  repeat' split at h
  all_goals first
    | exact h.elim
    | (obtain ⟨x, hx, hN⟩ := optP_some h; exact ⟨_, hN, by simp [*, optP]⟩)
theorem det_loadP {t : TypeId} {p : AV} {H : List Blk} : Det (loadPA TY t p H) := by
  intro N h; unfold loadPA at h ⊢
  repeat' split at h
  all_goals first
    | exact h.elim
    | (obtain ⟨x, hx, hN⟩ := optP_some h; exact ⟨_, hN, by simp [*, optP]⟩)
    | (obtain ⟨x, hx, hN⟩ := optP_some h.2; exact ⟨_, hN, by simp [*, optP, h.1]⟩)
theorem det_nilCheck {x : AV} : Det (nilCheckA x) := by
  intro N h; unfold nilCheckA at h ⊢
  split at h
  all_goals first | exact h.elim | exact ⟨_, h, rfl⟩
theorem det_fit {wr : Bool} {k : IntKind} {n : Int} : Det (fitA wr k n) := by
  intro N h; cases wr
  · exact ⟨_, h.2, h.1, rfl⟩
  · exact ⟨_, h, rfl⟩
theorem det_int {wr : Bool} {op : BinOp} {k : IntKind} {a b : Int} : Det (intA wr op k a b) := by
  intro N h; unfold intA at h ⊢
  split at h
  case h_1 => exact det_fit N h
  case h_2 => exact det_fit N h
  case h_3 => exact det_fit N h
  case h_4 =>
    cases hb : eqI b 0 with
    | true => rw [hb] at h; exact h.elim
    | false =>
      rw [hb] at h
      cases hu : uns k with
      | true => rw [hu] at h; exact det_fit N h
      | false => rw [hu] at h; exact det_fit N h
  case h_5 =>
    cases hb : eqI b 0 with
    | true => rw [hb] at h; exact h.elim
    | false =>
      rw [hb] at h
      cases hu : uns k with
      | true => rw [hu] at h; exact ⟨_, h, rfl⟩
      | false => rw [hu] at h; exact ⟨_, h, rfl⟩
  all_goals first | exact ⟨_, h, rfl⟩ | exact h.elim
theorem det_shift {op : BinOp} {k : IntKind} {a b : Int} : Det (shiftA op k a b) := by
  intro N h; unfold shiftA at h ⊢
  obtain ⟨hb, h⟩ := h
  split at h
  all_goals first | exact ⟨_, h, hb, rfl⟩ | exact h.elim
theorem det_str {op : BinOp} {x y : List UInt8} : Det (strA op x y) := by
  intro N h; unfold strA at h ⊢
  split at h
  all_goals first | exact ⟨_, h, rfl⟩ | exact ⟨_, h.2, h.1, rfl⟩ | exact h.elim
theorem det_bin {wr : Bool} {op : BinOp} {t : TypeId} {x y : AV} : Det (binA TY wr op t x y) := by
  intro N h; unfold binA at h ⊢
  split at h
  · split at h
    · exact det_shift N h
    · exact det_shift N h
    · split at h
      · rename_i hk; subst hk; simp only [if_true]
        obtain ⟨r, h1, h2⟩ := det_int N h
        exact ⟨r, h1, h2⟩
      · exact h.elim
  · exact det_str N h
  · rename_i hx1 hx2
    split at h
    · exact h.elim
    · rename_i i hi
      split at h
      · split at h
        · exact ⟨_, h, by simp [*]⟩
        · exact ⟨_, h, by simp [*]⟩
        · exact h.elim
      · split at h
        · split at h
          · obtain ⟨x, hx, hN⟩ := optP_some h; exact ⟨_, hN, by simp [*, optP]⟩
          · obtain ⟨x, hx, hN⟩ := optP_some h; exact ⟨_, hN, by simp [*, optP]⟩
          · exact h.elim
        · exact h.elim
      · split at h
        · obtain ⟨x, hx, hN⟩ := optP_some h
          exact ⟨_, hN, by simp [optP, hx]⟩
        · obtain ⟨x, hx, hN⟩ := optP_some h
          exact ⟨_, hN, by simp [optP, hx]⟩
        · exact h.elim
theorem det_un {wr : Bool} {op : UnOp} {x : AV} : Det (unA wr op x) := by
  intro N h; unfold unA at h ⊢
  split at h
  · exact det_fit N h
  · exact ⟨_, h, rfl⟩
  · exact h.elim
theorem rowE_some {H : List Blk} {x : AV} {K : Nat → Nat → (Nat → List AV) → Prop} (h : rowE H x K) : ∃ sz len get, K sz len get ∧ ∀ K' : Nat → Nat → (Nat → List AV) → Prop, K' sz len get → rowE H x K' := by
  unfold rowE at h
  split at h
  · exact ⟨_, _, _, h, fun K' h' => h'⟩
  · split at h
    · rename_i hcs
      split at h
      · rename_i hsz
        exact ⟨_, _, _, h.2, fun K' h' => by unfold rowE; simp only [hcs]; rw [if_pos hsz]; exact ⟨h.1, h'⟩⟩
      · exact h.elim
    · exact h.elim
  · exact h.elim
theorem det_conv {wr : Bool} {s d : TypeId} {x : AV} {H : List Blk} : Det (convA TY wr s d x H) := by
  intro N h; unfold convA at h ⊢
  split at h
  · split at h
    · obtain ⟨r, h1, h2⟩ := det_fit N h; exact ⟨r, h1, by simp [*]⟩
    · exact ⟨_, h, by simp [*]⟩
    · split at h
      · split at h
        · split at h
          all_goals first | exact ⟨_, h, by simp [*]⟩ | exact h.elim
        · exact h.elim
      · exact h.elim
    · rename_i hn1 hn2
      split at h
      · split at h
        · split at h
          · obtain ⟨sz, len, get, h1, h2⟩ := rowE_some h
            split at h1
            · rename_i hsz
              refine ⟨_, h1.2, h2 _ ?_⟩
              rw [if_pos hsz]
              exact ⟨h1.1, rfl⟩
            · exact h1.elim
          · obtain ⟨sz, len, get, h1, h2⟩ := rowE_some h
            split at h1
            · rename_i hsz
              refine ⟨_, h1.2, h2 _ ?_⟩
              rw [if_pos hsz]
              exact ⟨h1.1, rfl⟩
            · exact h1.elim
          · exact h.elim
        · exact h.elim
      · exact h.elim
    · exact h.elim
  · exact h.elim
theorem det_fieldAddr {t : TypeId} {p : AV} {f : Nat} : Det (fieldAddrA TY t p f) := by
  intro N h; unfold fieldAddrA at h ⊢
  repeat' split at h
  all_goals first | exact h.elim | exact ⟨_, h, by simp [*]⟩
theorem det_field {t : TypeId} {p : AV} {f : Nat} : Det (fieldA TY t p f) := by
  intro N h; unfold fieldA at h ⊢
  repeat' split at h
  all_goals first | exact h.elim | (obtain ⟨x, hx, hN⟩ := optP_some h; exact ⟨_, hN, by simp [*, optP]⟩)
theorem det_indexAddr {t : TypeId} {x i : AV} : Det (indexAddrA TY t x i) := by
  intro N h; unfold indexAddrA at h ⊢
  split at h
  · split at h
    · split at h
      · repeat' split at h
        all_goals first | exact h.elim | exact ⟨_, h.2, by simp [*, h.1.1, h.1.2]⟩
      · exact h.elim
    · split at h
      · obtain ⟨h1, h⟩ := h
        split at h
        all_goals first | exact h.elim | exact ⟨_, h, by simp [*, h1.1, h1.2]⟩
      · exact h.elim
    · exact h.elim
  · exact h.elim
theorem det_index {t : TypeId} {x i : AV} : Det (indexA TY t x i) := by
  intro N h; unfold indexA at h ⊢
  repeat' split at h
  all_goals first | exact h.elim | exact ⟨_, h.2, by simp [*, h.1.1, h.1.2]⟩
theorem det_arrIndex {t : TypeId} {x i : AV} : Det (arrIndexA TY t x i) := by
  intro N h; unfold arrIndexA at h ⊢
  repeat' split at h
  all_goals first | exact h.elim | (obtain ⟨y, hx, hN⟩ := optP_some h.2; exact ⟨_, hN, by simp [*, h.1.1, h.1.2, optP]⟩)
theorem bndE_some {x : Option AV} {d : Nat} {K : Nat → Prop} (h : bndE x d K) : ∃ a, K a ∧ ∀ K' : Nat → Prop, K' a → bndE x d K' := by
  unfold bndE at h
  split at h
  · exact ⟨_, h, fun K' h' => h'⟩
  · exact ⟨_, h.2, fun K' h' => ⟨h.1, h'⟩⟩
  · exact h.elim
theorem det_slice {t : TypeId} {x : AV} {l h m : Option AV} : Det (sliceA TY t x l h m) := by
  intro N h; unfold sliceA at h ⊢
  split at h
  · exact h.elim
  · split at h
    · obtain ⟨a, h, ha⟩ := bndE_some h
      obtain ⟨b, h, hb⟩ := bndE_some h
      refine ⟨_, h.2, ?_⟩
      simp only [*]
      exact ha _ (hb _ ⟨h.1, rfl⟩)
    · split at h
      · split at h
        · rename_i hsz
          obtain ⟨a, h, ha⟩ := bndE_some h
          obtain ⟨b, h, hb⟩ := bndE_some h
          refine ⟨_, h.2, ?_⟩
          simp only [*, if_true]
          exact ha _ (hb _ ⟨h.1, rfl⟩)
        · exact h.elim
      · exact h.elim
    · split at h
      · split at h
        · rename_i hsz
          obtain ⟨a, h, ha⟩ := bndE_some h
          obtain ⟨b, h, hb⟩ := bndE_some h
          refine ⟨_, h.2, ?_⟩
          simp only [*, if_true, and_self]
          try exact ha _ (hb _ ⟨h.1, rfl⟩)
        · exact h.elim
      · exact h.elim
    · split at h
      · split at h
        · rename_i hsz
          obtain ⟨a, h, ha⟩ := bndE_some h
          obtain ⟨b, h, hb⟩ := bndE_some h
          refine ⟨_, h.2, ?_⟩
          simp only [*, if_true]
          exact ha _ (hb _ ⟨h.1, rfl⟩)
        · exact h.elim
      · exact h.elim
    · split at h
      · split at h
        · rename_i hsz
          obtain ⟨a, h, ha⟩ := bndE_some h
          obtain ⟨b, h, hb⟩ := bndE_some h
          refine ⟨_, h.2, ?_⟩
          simp only [*, if_true, and_self]
          try exact ha _ (hb _ ⟨h.1, rfl⟩)
        · exact h.elim
      · exact h.elim
    · split at h
      · obtain ⟨a, h, ha⟩ := bndE_some h
        obtain ⟨b, h, hb⟩ := bndE_some h
        refine ⟨_, h.2, ?_⟩
        simp only [*]
        exact ha _ (hb _ ⟨h.1, trivial⟩)
      · exact h.elim
    · split at h
      · split at h
        · rename_i hsz
          obtain ⟨a, h, ha⟩ := bndE_some h
          obtain ⟨b, h, hb⟩ := bndE_some h
          refine ⟨_, h.2, ?_⟩
          simp only [*, if_true, and_self]
          first | done | exact ha _ (hb _ ⟨h.1, rfl⟩) | exact ha _ (hb _ ⟨h.1, trivial⟩)
        · exact h.elim
      · exact h.elim
    · exact h.elim
theorem findE_some {TY : TypeId → Option TI} {kt : TypeId} {kd : TK} {key : AV} : ∀ {es : List (AV × AV)} {i : Nat} {K : Option (Nat × AV) → Prop}, findE TY kt kd key es i K → ∃ r, K r ∧ ∀ K' : Option (Nat × AV) → Prop, K' r → findE TY kt kd key es i K'
  | [], i, K, h => ⟨none, h, fun K' h' => h'⟩
  | (k', v) :: es, i, K, h => by
    rw [findE] at h
    split at h
    · rename_i b hb
      split at h
      · exact ⟨_, h, fun K' h' => by rw [findE, hb]; exact h'⟩
      · obtain ⟨r, h1, h2⟩ := findE_some h
        exact ⟨r, h1, fun K' h' => by rw [findE, hb]; exact h2 K' h'⟩
    · exact h.elim
theorem det_lookup {t : TypeId} {x i : AV} {ok : Bool} {H : List Blk} : Det (lookupA TY t x i ok H) := by
  intro N h; unfold lookupA at h ⊢
  split at h
  · exact h.elim
  · split at h
    · split at h
      · split at h
        · split at h
          · exact h.elim
          · obtain ⟨r, h1, h2⟩ := findE_some h
            split at h1
            · refine ⟨_, h1, ?_⟩
              simp only [*, if_true]
              try exact h2 _ rfl
            · obtain ⟨z, hz, hN⟩ := optP_some h1
              refine ⟨_, hN, ?_⟩
              simp only [*, if_true]
              refine h2 _ ?_
              simp [optP]
        · exact h.elim
      · exact h.elim
    · exact h.elim
theorem det_extract {x : AV} {i : Nat} : Det (extractA x i) := by
  intro N h; unfold extractA at h ⊢
  split at h
  · exact det_optP N h
  · exact h.elim
end
end
end Go.Vc

/- Regions that draw their order, three: one operation. -/
namespace Go.Vc
open Go
noncomputable section
abbrev PT := FuncId → Option PC
def ownId : AV → List Nat
  | .ptr id _ => [id]
  | .eptr id _ _ _ => [id]
  | .osl id _ _ _ _ => [id]
  | .map id => [id]
  | _ => []
/-- The own blocks that are looked into. -/
def readsOf (ts : List AV) : Op → List Nat
  | .load _ a => ownId (evO ts a)
  | .convert _ _ x => ownId (evO ts x)
  | .lookup _ x _ _ => ownId (evO ts x)
  | _ => []
section
variable {P : Program} {TY : TypeId → Option TI} {D : PT}
def lenD (TY : TypeId → Option TI) (t : TypeId) (x : AV) (N : AV → Prop) : Prop :=
  match TY t with
  | none => False
  | some i => match i.kind, x with
    | .str, .str l => N (.int .i64 l.length)
    | .slice _, .sl _ _ len _ => N (.int .i64 len)
    | .slice _, .osl _ _ _ len _ => N (.int .i64 len)
    | .slice _, .nilsl => N (.int .i64 0)
    | _, _ => False
theorem lenD_lenA {t : TypeId} {x : AV} {N : AV → Prop} (h : lenD TY t x N) : lenA TY t x N := by
  unfold lenD at h; unfold lenA
  split at h
  · exact h.elim
  · rename_i i hi
    simp only [hi]
    split at h <;> simp only [*] <;> first | exact fun _ => h | exact h | exact fun _ => trivial | exact trivial | exact h.elim
theorem lenD_len {t : TypeId} {x : AV} {H : List Blk} {N : AV → Prop} (h : lenD TY t x N) : lenB TY t x H N := by
  unfold lenB
  split
  · exfalso; unfold lenD at h; split at h <;> first | exact h | (split at h <;> first | exact h | (simp_all; done))
  · exfalso; unfold lenD at h; split at h <;> first | exact h | (split at h <;> first | exact h | (simp_all; done))
  · exact lenD_lenA h
theorem det_lenD {t : TypeId} {x : AV} : Det (lenD TY t x) := by
  intro N h; unfold lenD at h ⊢
  repeat' split at h
  all_goals first | exact h.elim | exact ⟨_, h, by simp [*]⟩
theorem det_opV {wr : Bool} {op : Op} {ts : List AV} {H : List Blk} (hc : ∀ c, op ≠ .call c) : Det (opV TY wr op ts H) := by
  intro N h
  cases op <;> simp only [opV] at h ⊢ <;> (try exact h.elim)
  case move => exact ⟨_, h, rfl⟩
  case assign => exact ⟨_, h, rfl⟩
  case pick => exact det_pick _ _ _ N h
  case build => exact det_build N h
  case load => exact det_loadP N h
  case nilCheck => exact det_nilCheck N h
  case binOp => exact det_bin N h
  case unOp => exact det_un N h
  case convert => exact det_conv N h
  case makeInterface =>
    split at h
    · split at h
      · exact h.elim
      · exact ⟨_, h, rfl⟩
    · exact h.elim
  case makeFunc =>
    split at h
    · exact ⟨_, h, by simp [*]⟩
    · exact h.elim
  case slice =>
    split at h
    · split at h
      · exact h.elim
      · obtain ⟨r, h1, h2⟩ := det_slice N h
        exact ⟨r, h1, by simp [*]⟩
    · exact h.elim
  case fieldAddr => exact det_fieldAddr N h
  case field => exact det_field N h
  case indexAddr => exact det_indexAddr N h
  case index =>
    split at h
    · obtain ⟨r, h1, h2⟩ := det_arrIndex N h
      exact ⟨r, h1, by simp [*]⟩
    · obtain ⟨r, h1, h2⟩ := det_index N h
      exact ⟨r, h1, h2⟩
  case lookup => exact det_lookup N h
  case extract => exact det_extract N h
  case call c => exact absurd rfl (hc c)
theorem loadPA_congr {t : TypeId} {p : AV} {H H' : List Blk} {N : AV → Prop} (hH : ∀ id ∈ ownId p, H'[id]? = H[id]?) : loadPA TY t p H' N = loadPA TY t p H N := by
  unfold loadPA
  cases p <;> first | rfl | simp only [hH _ (show _ ∈ ownId _ from List.mem_singleton.2 rfl)]
theorem rowE_congr {x : AV} {H H' : List Blk} {K : Nat → Nat → (Nat → List AV) → Prop} (hH : ∀ id ∈ ownId x, H'[id]? = H[id]?) : rowE H' x K = rowE H x K := by
  unfold rowE
  cases x <;> first | rfl | simp only [hH _ (show _ ∈ ownId _ from List.mem_singleton.2 rfl)]
theorem convA_congr {wr : Bool} {s d : TypeId} {x : AV} {H H' : List Blk} {N : AV → Prop} (hH : ∀ id ∈ ownId x, H'[id]? = H[id]?) : convA TY wr s d x H' N = convA TY wr s d x H N := by
  have e : rowE H' x = rowE H x := funext fun K => rowE_congr hH
  unfold convA
  cases hs : TY s with
  | none => rfl
  | some i =>
    cases hd : TY d with
    | none => rfl
    | some j =>
      simp only
      cases hk : j.kind
      case str => cases x <;> simp only [e]
      case int => cases x <;> rfl
      all_goals rfl
theorem lookupA_congr {t : TypeId} {x k : AV} {ok : Bool} {H H' : List Blk} {N : AV → Prop} (hH : ∀ id ∈ ownId x, H'[id]? = H[id]?) : lookupA TY t x k ok H' N = lookupA TY t x k ok H N := by
  have e : mapOf H' x = mapOf H x := by
    unfold mapOf
    cases x <;> first | rfl | simp only [hH _ (show _ ∈ ownId _ from List.mem_singleton.2 rfl)]
  unfold lookupA
  rw [e]
theorem partsE_congr {ts ts' : List AV} {ps : Array (Nat × Operand)} (hx : ∀ x ∈ ps.map (·.2), evO ts' x = evO ts x) : partsE ts' ps = partsE ts ps := by
  unfold partsE
  refine List.map_congr_left fun p hp => ?_
  rw [hx p.2 (Array.mem_map.2 ⟨p, by simpa using hp, rfl⟩)]
theorem map_congr' {ts ts' : List AV} {xs : Array Operand} (hx : ∀ x ∈ xs, evO ts' x = evO ts x) : xs.toList.map (evO ts') = xs.toList.map (evO ts) :=
  List.map_congr_left fun x h => hx x (by simpa using h)
theorem opV_congr {wr : Bool} {op : Op} {ts ts' : List AV} {H H' : List Blk} {N : AV → Prop} (hc : ∀ c, op ≠ .call c) (hx : ∀ x ∈ op.operands, evO ts' x = evO ts x) (hH : ∀ id ∈ readsOf ts op, H'[id]? = H[id]?) :
    opV TY wr op ts' H' N = opV TY wr op ts H N := by
  cases op <;> simp only [Op.operands] at hx <;> simp only [opV]
  case move x => rw [hx x (by simp)]
  case assign x => rw [hx x (by simp)]
  case pick c x y => rw [hx c (by simp), hx x (by simp), hx y (by simp)]
  case build t ps => rw [partsE_congr fun x h => hx x (by simpa using h)]
  case load t x => rw [hx x (by simp)]; exact loadPA_congr hH
  case nilCheck x => rw [hx x (by simp)]
  case binOp op t x y yt => rw [hx x (by simp), hx y (by simp)]
  case unOp op t x => rw [hx x (by simp)]
  case convert s d x => rw [hx x (by simp)]; exact convA_congr hH
  case makeInterface t x => rw [hx x (by simp)]
  case makeFunc fn first caps => rw [map_congr' (xs := caps) fun x h => hx x (by simp [h])]
  case slice t x l h m =>
    rw [hx x (by simp)]
    have e : ∀ o : Option Operand, (∀ y, o = some y → evO ts' y = evO ts y) → o.map (evO ts') = o.map (evO ts) := fun o ho => by
      cases o with
      | none => rfl
      | some y => rw [Option.map_some, Option.map_some, ho y rfl]
    rw [e l fun y hy => hx y (by subst hy; simp), e h fun y hy => hx y (by subst hy; simp), e m fun y hy => hx y (by subst hy; simp)]
  case fieldAddr t x f => rw [hx x (by simp)]
  case field t x f => rw [hx x (by simp)]
  case indexAddr t x i => rw [hx x (by simp), hx i (by simp)]
  case index t x i => rw [hx x (by simp), hx i (by simp)]
  case lookup t x i ok => rw [hx x (by simp), hx i (by simp)]; exact lookupA_congr hH
  case extract t i => rw [hx t (by simp)]
  case call c => exact absurd rfl (hc c)
end
end
end Go.Vc

/- Regions that draw their order, four: one operation in a state; the region. -/
namespace Go.Vc
open Go
noncomputable section
section
variable {F : Nat → Obj → Prop} {P : Program} {TY : TypeId → Option TI} {D : PT} {ρ : Nat → Option Nat} {S : Nat → Prop} {w : World} {ds : List Deferred} {Fe : Fence} {dn : Nat}
end
end
end Go.Vc

/- Regions that draw their order, five: whatever order is drawn. -/
namespace Go.Vc
open Go
noncomputable section
/-- What an operation came to. -/
structure TE where
  dst : Option Nat
  r : AV
  W : List (Nat × Blk)
  R : List Nat
def TE.T (t : TE) : List (Nat × AV) := match t.dst with | some d => [(d, t.r)] | none => []
theorem put_eq (ts : List AV) (t : TE) : put ts t.dst t.r = setAll ts t.T := by
  unfold put TE.T; cases t.dst <;> rfl
def wrOf (wr : Tmp → Bool) (o : Oper) : Bool := match o.dst with | some d => wr d | none => false
section
variable {F : Nat → Obj → Prop} {P : Program} {TY : TypeId → Option TI} {C : FuncId → Option Ctr} {D : PT} {wr : Tmp → Bool} {ops : Array Oper} {h0 : Nat} {ds : List Deferred} {Fe : Fence} {dn : Nat}
theorem ov_none {α : Type} {Dn : Nat → Bool} : ∀ (ws : List (List (Nat × α))) (i : Nat) (b : List α), (∀ m, Dn m = false) → ov Dn i ws b = b
  | [], _, _, _ => rfl
  | w :: ws, i, b, h => by rw [ov, h i]; exact ov_none ws (i + 1) b h
/-! ### What must hold of the region -/
def hasAnc (cl : List Nat) (j i : Nat) : Bool := (cl.getD j 0).testBit i
def okBack (ops : Array Oper) : Bool := (List.range ops.size).all fun j => match ops[j]? with | some o => (direct o).all fun i => decide (i < j) | none => true
theorem hasAnc_anc {i j : Nat} (h : hasAnc (clos [] ops.toList) j i = true) : Anc ops i j := by
  unfold hasAnc at h
  rw [List.getD_eq_getElem?_getD] at h
  cases hl : (clos [] ops.toList)[j]? with
  | none => rw [hl] at h; simp at h
  | some l =>
    rw [hl] at h
    exact clos_spec ops ops.toList [] (fun m _ => by simp) (fun j l h => by simp at h) j l hl i h
end
end
end Go.Vc

/- Regions that draw their order, six: the region. -/
namespace Go.Vc
open Go
noncomputable section
section
variable {F : Nat → Obj → Prop} {P : Program} {TY : TypeId → Option TI} {C : FuncId → Option Ctr} {D : PT} {wr : Tmp → Bool} {ops : Array Oper} {ρ : Nat → Option Nat} {S : Nat → Prop} {w0 : World} {ds : List Deferred} {Fe : Fence} {dn : Nat}
theorem looks_operand {o : Oper} {t : Tmp} (h : (.tmp t : Operand) ∈ o.op.operands) : (o.looksAt ops).contains t = true := by
  rw [List.contains_iff_mem]
  exact List.mem_append_left _ (List.mem_filterMap.2 ⟨.tmp t, by simpa using h, rfl⟩)
theorem looks_guard {o : Oper} {g : Nat} {want : Bool} {t : Tmp} (h : o.guard = some (g, want)) (ht : tmpOf ops g = some t) : (o.looksAt ops).contains t = true := by
  rw [List.contains_iff_mem]
  refine List.mem_append_right _ ?_
  rw [h]
  unfold tmpOf at ht
  simp only [ht]
  simp
theorem keyIn_T {t : TE} {k : Nat} (h : keyIn k t.T = true) : t.dst = some k := by
  unfold TE.T at h
  split at h
  · rename_i d hd
    simp [keyIn] at h
    rw [hd, h]
  · simp [keyIn] at h
theorem getD_listed {listed : Array Bool} {i : Nat} (hi : i < listed.size) : (fun m => (listed.setIfInBounds i true).getD m false) = fun m => m == 0 + i || listed.getD m false := by
  funext m
  by_cases hm : m = i
  · subst hm; simp [hi]
  · have : (m == 0 + i) = false := by simpa using hm
    rw [this, getD_set_ne false (Ne.symm hm)]; simp
end
end
end Go.Vc

/- Floats: what lays a new block may come sooner than it is listed; till then its block lies outside. -/
namespace Go.Vc
open Go
noncomputable section
/-- What lays a new block, and looks at nothing. -/
def fltOp : Op → Bool
  | .alloc _ => true
  | .box .. => true
  | .buildSlice .. => true
  | _ => false
section
variable {F : Nat → Obj → Prop} {P : Program} {TY : TypeId → Option TI} {ρ : Nat → Option Nat} {S : Nat → Prop} {w w1 : World} {ds : List Deferred} {ρ1 ρ2 : Nat → Option Nat} {S1 : Nat → Prop}
def Over (ρ ρ2 : Nat → Option Nat) : Prop := ∀ i b, ρ i = some b → ρ2 i = some b
/-- A block outside, and what is known of it. -/
structure Flt (ρ : Nat → Option Nat) (S : Nat → Prop) (w : World) (b : Nat) (B : Blk) (val : Nat → AV) (v : Value) : Prop where
  lt : b < w.heap.size
  ns : ¬ S b
  nr : ∀ i, ρ i ≠ some b
  rel : ∀ ρ2, Over ρ ρ2 → ∀ id, ρ2 id = some b → BRel ρ2 S w id B ∧ V ρ2 S w (val id) v
theorem Ext.over (h : Ext ρ S w ρ1 S1 w1) (ho : Over ρ1 ρ2) : Ext ρ2 S w ρ2 S1 w1 := {
  rho _ _ h := h
  st := h.st
  same b hb hs := h.same b hb (by
    rcases hs with hs | hs
    · exact .inl hs
    · exact .inr fun i hi => hs i (ho _ _ (h.rho _ _ hi)))
  size := h.size
  shp := h.shp
  fresh i b hi := .inl ⟨i, hi⟩
  stf b hb := by
    rcases h.stf b hb with h1 | ⟨i, h1⟩ | h1
    · exact .inl h1
    · exact .inr (.inl ⟨i, ho _ _ (h.rho _ _ h1)⟩)
    · exact .inr (.inr h1)
  os := h.os
  tape := h.tape
  output := h.output
  drawn := h.drawn }
theorem Flt.keep {b : Nat} {B : Blk} {val : Nat → AV} {v : Value} (h : Flt ρ S w b B val v) (hE : Ext ρ S w ρ1 S1 w1) : Flt ρ1 S1 w1 b B val v := by
  have hns : ¬ S1 b := fun hs => by
    rcases hE.stf b hs with h1 | ⟨i, h1⟩ | h1
    · exact h.ns h1
    · exact h.nr i h1
    · have := h.lt; omega
  refine ⟨Nat.lt_of_lt_of_le h.lt hE.size, hns, fun i hi => ?_, fun ρ2 ho id hid => ?_⟩
  · rcases hE.fresh i b hi with ⟨j, h1⟩ | h1
    · exact h.nr j h1
    · have := h.lt; omega
  · obtain ⟨h1, h2⟩ := h.rel ρ2 (fun i b hi => ho _ _ (hE.rho _ _ hi)) id hid
    refine ⟨h1.keep (hE.over ho) fun b' hb' => ?_, h2.mono (hE.over ho)⟩
    rw [hid] at hb'; cases hb'
    exact ⟨hid, hE.same b h.lt (.inr h.nr), fun hs => absurd hs hns⟩
/-- Another block is laid, outside too. -/
theorem ext_side (o : Obj) : Ext ρ S w ρ S (w.alloc o) := {
  rho _ _ h := h
  st _ h := h
  same b hb _ := heap_alloc_lt w o hb
  size := by simp
  shp b arr T fr hb := ⟨arr, fr, (heap_alloc_lt w o (lt_of_some hb)).trans hb, rfl⟩
  fresh i b hi := .inl ⟨_, hi⟩
  stf _ hb := .inl hb
  os := rfl
  tape := rfl
  output := rfl
  drawn := Nat.le_refl _ }
theorem HRel.side {H : List Blk} (h : HRel ρ S w H) (o : Obj) : HRel ρ S (w.alloc o) H := {
  inj := h.inj
  blk i b hi := (h.blk i b hi).keep (ext_side o) fun b' hb' => ⟨hb', heap_alloc_lt w o (h.out i b' hb').2, fun h => h⟩
  out i b hi := by
    have := h.out i b hi
    exact ⟨this.1, Nat.lt_of_lt_of_le this.2 (by simp)⟩ }
theorem over_new {H : List Blk} (h : HRel ρ S w H) (b : Nat) : Over ρ (newρ ρ H.length b) := fun i c hi => by
  have := (h.out i c hi).1
  unfold newρ
  rw [if_neg (by omega)]; exact hi
theorem ext0_over (ho : Over ρ ρ2) : Ext0 ρ S w ρ2 S w := ⟨ho, fun _ h => h, fun _ _ _ => rfl, Nat.le_refl _, fun _ arr _ fr h => ⟨arr, fr, h, rfl⟩⟩
theorem XRel.over (ho : Over ρ ρ2) {x : XB} {o : Obj} (hx : XRel ρ S w x o) : XRel ρ2 S w x o := by
  cases x with
  | loop st pend ts ps asg body df =>
    obtain ⟨fn, tm, d, h1, h2, h3⟩ := hx
    exact ⟨fn, tm, d, h1, ⟨h2.1, fun i c v hc hi => (h2.2 i c v hc hi).mono0 (ext0_over ho)⟩, ho _ _ h3⟩
  | dfr => exact hx
  | mit m since seen stepped =>
    obtain ⟨mb, h1, h2⟩ := hx
    refine ⟨mb, h1, ?_⟩
    cases m with
    | none => exact h2
    | some id => obtain ⟨b, h3, h4⟩ := h2; exact ⟨b, ho _ _ h3, h4⟩
  | mitn m since n stepped bs =>
    obtain ⟨seen, b, h1, h2, h3⟩ := hx
    exact ⟨seen, b, h1, ho _ _ h2, h3⟩
theorem BRel.over {id : Nat} {blk : Blk} (h : BRel ρ S w id blk) (ho : Over ρ ρ2) (hid : ∀ b, ρ2 id = some b → ρ id = some b) : BRel ρ2 S w id blk := by
  cases blk with
  | dead => trivial
  | var cs T0 =>
    intro b hb
    obtain ⟨h4, arr, T, fr, h5, h6, h7, h8⟩ := h b (hid b hb)
    exact ⟨h4, arr, T, fr, h5, h6, h7, fun j c v hc hv => (h8 j c v hc hv).mono0 (ext0_over ho)⟩
  | row sz len get T0 =>
    intro b hb
    obtain ⟨h4, arr, T, fr, h5, h6, h7, h8, h9⟩ := h b (hid b hb)
    exact ⟨h4, arr, T, fr, h5, h6, h7, h8, fun e j c v he hc hv => (h9 e j c v he hc hv).mono0 (ext0_over ho)⟩
  | iter s pos => exact fun b hb => h b (hid b hb)
  | map es bk =>
    intro b hb
    obtain ⟨h4, es', clock, h5, h6, h8, h7⟩ := h b (hid b hb)
    exact ⟨h4, es', clock, h5, h6, h8, fun i k x e hi he => ⟨((h7 i k x e hi he).1).mono0 (ext0_over ho), ((h7 i k x e hi he).2).mono0 (ext0_over ho)⟩⟩
  | ext x =>
    intro b hb
    obtain ⟨h4, o, h5, h6⟩ := h b (hid b hb)
    exact ⟨h4, o, h5, h6.over ho⟩
/-- The block is taken in. -/
theorem Flt.ext {H : List Blk} {b : Nat} {B : Blk} {val : Nat → AV} {v : Value} (h : Flt ρ S w b B val v) (hH : HRel ρ S w H) {ρ0 : Nat → Option Nat} {S0 : Nat → Prop} {w0 : World}
    (hE : Ext ρ0 S0 w0 ρ S w) (hb : w0.heap.size ≤ b) : Ext ρ0 S0 w0 (newρ ρ H.length b) S w := {
  rho i c hi := over_new hH b i c (hE.rho _ _ hi)
  st := hE.st
  same := hE.same
  size := hE.size
  shp := hE.shp
  fresh i c hi := by
    unfold newρ at hi
    split at hi
    · cases hi; exact .inr hb
    · exact hE.fresh i c hi
  stf := hE.stf
  os := hE.os
  tape := hE.tape
  output := hE.output
  drawn := hE.drawn }
theorem Flt.mat {H : List Blk} {ts : List AV} {a : Act} {b : Nat} {B : Blk} {val : Nat → AV} {v : Value} {d : Nat} (h : Flt ρ S w b B val v) (hR : RelX F ds ρ S ⟨ts, H⟩ a w) (hd : ∀ v', a.tmps[d]? = some v' → v' = v) :
    RelX F ds (newρ ρ H.length b) S ⟨ts.set d (val H.length), H ++ [B]⟩ a w := by
  have hov := over_new hR.heap b
  obtain ⟨h1, h2⟩ := h.rel _ hov H.length (newρ_at _ _)
  have m0 : ∀ {c : AV} {v : Value}, V ρ S w c v → V (newρ ρ H.length b) S w c v := fun hv =>
    hv.mono0 ⟨hov, fun _ h => h, fun _ _ _ => rfl, Nat.le_refl _, fun _ arr _ fr h => ⟨arr, fr, h, rfl⟩⟩
  have hE : Ext (newρ ρ H.length b) S w (newρ ρ H.length b) S w := Ext.refl _ _ _
  refine ⟨⟨hR.defers, ⟨by simp [hR.tmps.1], fun i c v' hc hv => ?_⟩, ?_⟩, hR.sok⟩
  · simp only at hc
    rw [List.getElem?_set] at hc
    by_cases hi : d = i
    · subst hi
      simp only [if_true] at hc
      split at hc
      · cases hc
        rw [hd v' hv]; exact h2
      · cases hc
    · simp only [hi, if_false] at hc
      exact m0 (hR.tmps.2 i c v' hc hv)
  · refine ⟨fun i j bi bj c hi hj li lj ri rj => ?_, fun i c hi => ?_, fun i c hi => ?_⟩
    · unfold newρ at ri rj
      split at ri <;> split at rj
      · omega
      · cases ri; exact absurd rj (h.nr j)
      · cases rj; exact absurd ri (h.nr i)
      · have i1 := (hR.heap.out i _ ri).1
        have j1 := (hR.heap.out j _ rj).1
        simp only at i1 j1 hi hj
        rw [List.getElem?_append_left (by omega)] at hi hj
        exact hR.heap.inj i j bi bj c hi hj li lj ri rj
    · simp only at hi
      by_cases hlt : i < H.length
      · rw [List.getElem?_append_left hlt] at hi
        have hb := hR.heap.blk i c hi
        exact hb.over hov (fun b' hb' => by unfold newρ at hb'; rw [if_neg (by omega)] at hb'; exact hb')
      · rw [List.getElem?_append_right (by omega)] at hi
        have : i = H.length := by
          rcases Nat.eq_or_lt_of_le (Nat.le_of_not_lt hlt) with h1 | h1
          · exact h1.symm
          · rw [List.getElem?_eq_none (by simp; omega)] at hi; cases hi
        subst this
        simp at hi
        subst hi
        exact h1
    · unfold newρ at hi
      simp only [List.length_append, List.length_singleton]
      split at hi
      · cases hi
        exact ⟨by omega, h.lt⟩
      · have := hR.heap.out i c hi
        exact ⟨Nat.lt_succ_of_lt this.1, this.2⟩
theorem ext0_side (ho : Over ρ ρ2) (o : Obj) : Ext0 ρ S w ρ2 S (w.alloc o) :=
  ⟨ho, fun _ h => h, fun b hb _ => heap_alloc_lt w o hb, by simp, fun b arr T fr hb => ⟨arr, fr, (heap_alloc_lt w o (lt_of_some hb)).trans hb, rfl⟩⟩
theorem flt_var (hns : ∀ b, S b → b < w.heap.size) {id : Nat} {c : AV} {v : Value} (hn : c ≠ .any) (h : V ρ S w c v) (T : TypeId) {T1 : Option Nat} (hT : tyOr T1 T = T) (ho : Over ρ ρ2) (hid : ρ2 id = some w.heap.size) :
    BRel ρ2 S (w.alloc (.cells v.cells T)) id (.var c.cells T1) := by
  intro b hb
  rw [hid] at hb
  cases hb
  obtain ⟨h1, h2⟩ := h.cells hn
  exact ⟨fun hs => Nat.lt_irrefl _ (hns _ hs), v.cells, T, (0, 0), by rw [hT]; exact heap_alloc_at w _, h1.symm, fun o _ => frozen_alloc_new w _ _ o, fun j c v hc hv => (h2 j c v hc hv).mono0 (ext0_side ho _)⟩
theorem flt_row (hns : ∀ b, S b → b < w.heap.size) {id : Nat} {sz n : Nat} {get : Nat → List AV} {arr : Array Value} (hs : n * sz ≤ arr.size) (h : ERel ρ S w sz n get arr) (T : TypeId) {T1 : Option Nat} (hT : tyOr T1 T = T)
    (ho : Over ρ ρ2) (hid : ρ2 id = some w.heap.size) : BRel ρ2 S (w.alloc (.cells arr T)) id (.row sz n get T1) := by
  intro b hb
  rw [hid] at hb
  cases hb
  exact ⟨fun hs => Nat.lt_irrefl _ (hns _ hs), arr, T, (0, 0), by rw [hT]; exact heap_alloc_at w _, hs, fun o _ => frozen_alloc_new w _ _ o, h.1, fun e j c v he hc hv => (h.2 e j c v he hc hv).mono0 (ext0_side ho _)⟩
theorem flt_mk (hns : ∀ b, S b → b < w.heap.size) {H : List Blk} (hH : HRel ρ S w H) {o : Obj} {B : Blk} {val : Nat → AV} {v : Value}
    (h : ∀ ρ2, Over ρ ρ2 → ∀ id, ρ2 id = some w.heap.size → BRel ρ2 S (w.alloc o) id B ∧ V ρ2 S (w.alloc o) (val id) v) : Flt ρ S (w.alloc o) w.heap.size B val v :=
  ⟨by simp, fun hs => Nat.lt_irrefl _ (hns _ hs), fun i hi => Nat.lt_irrefl _ (hH.out i _ hi).2, h⟩
theorem bsl_det {t : TypeId} {n : Nat} {parts : List (Nat × AV)} (h : buildSliceA TY t n parts [] (fun _ _ => True)) : ∃ sz get, ∀ (H' : List Blk) (N' : AV → List Blk → Prop),
    buildSliceA TY t n parts H' N' ↔ N' (.osl H'.length sz 0 n (some n)) (H' ++ [.row sz n get]) := by
  unfold buildSliceA at h
  split at h
  · exact h.elim
  · rename_i i hi
    split at h
    · rename_i e hk
      split at h
      · rename_i ei hei
        split at h
        · rename_i z hz
          split at h
          · rename_i hc
            refine ⟨ei.size, litRow z.cells parts, fun H' N' => ?_⟩
            unfold buildSliceA
            simp only [hi, hk, hei, hz, if_pos hc]
          · exact h.elim
        · exact h.elim
      · exact h.elim
    · exact h.elim
/-- Such an operation, carried out: its block and its value, and that they are what it is listed with. -/
theorem flt_run (hTY : TyOk P TY) (hns : ∀ b, S b → b < w.heap.size) {H : List Blk} (hH : HRel ρ S w H) {ts : List AV} {a : Act} (hT : TRel ρ S w ts a.tmps) {wr : Bool} (o : Oper) (hf : fltOp o.op = true)
    (h : opA TY wr o.op ts [] (fun _ _ => True)) : ∃ val B obj v, (execOp a.eval o).run P w = .ok (.value v) (w.alloc obj) ∧ Flt ρ S (w.alloc obj) w.heap.size B val v ∧
      ∀ (wr' : Bool) (ts' : List AV) (H' : List Blk) (N' : AV → List Blk → Prop), (∀ x ∈ o.op.operands, evO ts' x = evO ts x) → opA TY wr' o.op ts' H' N' → N' (val H'.length) (H' ++ [B]) := by
  obtain ⟨dst, op, type, pos, after, guard⟩ := o
  simp only at h hf ⊢
  cases op <;> simp only [fltOp] at hf <;> (try cases hf) <;> simp only [opA] at h ⊢
  case alloc e =>
    unfold allocA at h
    split at h
    · exact h.elim
    · rename_i i hi
      split at h
      · exact h.elim
      · rename_i z hz
        obtain ⟨v, hv, rfl⟩ := hTY.zero hi hz
        have hn : AV.ofC v ≠ .any := by intro he; rw [he] at h; exact h
        refine ⟨fun k => .ptr k 0, .var (AV.ofC v).cells (some e), .cells v.cells e, .pointer (some ⟨w.heap.size, 0, none⟩), ?_, flt_mk hns hH fun ρ2 ho id hid => ⟨flt_var hns hn (V.ofC v) e rfl ho hid, .ptr _ _ _ hid⟩, fun wr' ts' H' N' hx h' => ?_⟩
        · simp [execOp, Instr.alloc, hv, newVar, newRow]
        · unfold allocA at h'
          rw [hi] at h'
          simp only [hz] at h'
          generalize AV.ofC v = z at h' hn
          cases z <;> first | exact h' | exact absurd rfl hn
  case box e x =>
    have hn : evO ts x ≠ .any := by intro he; rw [he] at h; exact h
    have hx := hT.eval x
    refine ⟨fun k => .ptr k 0, .var (evO ts x).cells none, .cells (a.eval x).cells e, .pointer (some ⟨w.heap.size, 0, none⟩), ?_, flt_mk hns hH fun ρ2 ho id hid => ⟨flt_var hns hn hx e rfl ho hid, .ptr _ _ _ hid⟩, fun wr' ts' H' N' hx' h' => ?_⟩
    · simp [execOp, Instr.box, newVar, newRow]
    · rw [hx' x (by simp [Op.operands])] at h'
      unfold boxA at h'
      generalize evO ts x = z at h' hn
      cases z <;> first | exact h' | exact absurd rfl hn
  case buildSlice t n ps =>
    obtain ⟨sz0, get0, hdet⟩ := bsl_det h
    obtain ⟨sz, get, arr, e, ⟨e1, e2⟩, hsz, hn16, hrel, hrun⟩ := buildSlice_run (N := fun r H' => r = .osl 0 sz0 0 n (some n) ∧ H' = [.row sz0 n get0 none]) (H := []) hTY hT (t := t) (n := n) (parts := ps) ((hdet [] _).2 ⟨rfl, rfl⟩)
    refine ⟨fun k => .osl k sz 0 n (some n), .row sz n get none, .cells arr e, .slice (some ⟨w.heap.size, 0, none⟩) n n, ?_, flt_mk hns hH fun ρ2 ho id hid => ⟨flt_row hns (by omega) hrel e rfl ho hid,
      .osl _ _ _ _ _ _ _ _ hid (Nat.le_refl _) (by rw [maxLen_eq]; omega) (fun _ => by simp) ⟨arr, e, (0, 0), heap_alloc_at w _, by rw [Nat.zero_add]; omega⟩ (fun c hc => by cases hc; rfl)⟩, fun wr' ts' H' N' hx' h' => ?_⟩
    · simp only [execOp, Sem.run_bind, hrun, Result.andThen_ok, Sem.run_pure]
    · rw [partsE_congr fun x h => hx' x (by simpa [Op.operands] using h)] at h'
      have := (hdet H' N').1 h'
      simp at e2
      obtain ⟨rfl, rfl⟩ := e2
      exact this
end
end
end Go.Vc

/- Regions that draw their order, seven: what turns memory is called in one order; what is only looked at may be looked at sooner or later. -/
namespace Go.Vc
open Go
noncomputable section
/-- What yields a value alone. -/
def pureOp : Op → Bool
  | .move _ => true
  | .assign _ => true
  | .pick .. => true
  | .build .. => true
  | .load .. => true
  | .nilCheck _ => true
  | .binOp .. => true
  | .unOp .. => true
  | .convert .. => true
  | .makeInterface .. => true
  | .makeFunc .. => true
  | .slice .. => true
  | .fieldAddr .. => true
  | .field .. => true
  | .indexAddr .. => true
  | .index .. => true
  | .lookup .. => true
  | .extract .. => true
  | .call c => (match c.callee with | .builtin b => (match b with | .len => true | _ => false) | _ => false)
  | _ => false
def opQ (TY : TypeId → Option TI) (wr : Bool) (op : Op) (ts : List AV) (H : List Blk) (N : AV → Prop) : Prop :=
  match op with
  | .call c => (match c.callee with
    | .builtin b => (match b with
      | .len => (match c.argTypes.toList, c.args.toList.map (evO ts) with | [t], [x] => lenD TY t x N | _, _ => False)
      | _ => False)
    | _ => False)
  | op => opV TY wr op ts H N
def effQ (TY : TypeId → Option TI) (C : FuncId → Option Ctr) (wr : Tmp → Bool) (o : Oper) (ts : List AV) (H : List Blk) (M : AV → List Blk → Prop) : Prop :=
  match o.op with
  | .call c => (match c.callee with
    | .value f => (match evO ts f with
      | .fn g caps => (match Nat.beq g YF with
        | true => False
        | false => (match C g with
          | some K => K (c.args.toList.map (evO ts) ++ caps) H M
          | none => False))
      | .yfn id => (match C YF with
        | some K => K (.yfn id :: c.args.toList.map (evO ts)) H M
        | none => False)
      | _ => False)
    | .builtin b => builtinA TY b c.argTypes.toList (c.args.toList.map (evO ts)) H M
    | _ => False)
  | op => opA TY (match o.dst with | some d => wr d | none => false) op ts H M
structure PE where
  i : Nat
  ts : List AV
  r : AV
def pendOk (TY : TypeId → Option TI) (wr : Tmp → Bool) (ops : Array Oper) (cl : List Nat) (j : Nat) (H : List Blk) (l : List PE) : Prop → Prop :=
  List.rec (motive := fun _ => Prop → Prop) (fun X => X)
    (fun pe _ ih X => match pe with
      | ⟨pi, pts, pr⟩ => (match hasAnc cl j pi with
        | true => ih X
        | false => (match ops[pi]? with
          | some o => opQ TY (wrOf wr o) o.op pts H (fun r => r = pr) ∧ ih X
          | none => False))) l
/-- What may come sooner than it is listed can be done, where all that it waits for is listed. -/
def fltsOk (TY : TypeId → Option TI) (ops : Array Oper) (cl : List Nat) (fl all : List Nat) (ts : List AV) (l : List Nat) : Prop → Prop :=
  List.rec (motive := fun _ => Prop → Prop) (fun X => X)
    (fun f _ ih X => match fl.contains f && !(all.any (hasAnc cl f)) with
      | true => (match ops[f]? with
        | some o => opA TY false o.op ts [] (fun _ _ => True) ∧ ih X
        | none => False)
      | false => ih X) l
/-- One operation, whether it looks only or turns memory. -/
def bodyQ (TY : TypeId → Option TI) (C : FuncId → Option Ctr) (wr : Tmp → Bool) (ops : Array Oper) (cl fl : List Nat) (j : Nat) (rest : List Nat) (ih : List PE → St → (St → Prop) → Prop) (pend : List PE) (st : St) (Q : St → Prop) : Prop :=
      match ops[j]? with
      | none => False
      | some o => (match pureOp o.op with
        | true => (match o.guard with
          | none => opQ TY (wrOf wr o) o.op st.tmps st.heap fun r => fcSt st.tmps o.dst r st.heap fun st1 => ih (⟨j, st.tmps, r⟩ :: pend) st1 Q
          | some (g, want) => (match tmpOf ops g with
            | none => False
            | some t => (match st.tmps[t]? with
              | some (.bool b) => (match b with
                | true => (match want with
                  | true => setF (fun ts => opQ TY (wrOf wr o) o.op ts st.heap fun r => fcSt ts o.dst r st.heap fun st1 => ih (⟨j, ts, r⟩ :: pend) st1 Q) (.bool true) st.tmps t
                  | false => fcSt (st.tmps.set t (.bool true)) o.dst (.tup []) st.heap fun st1 => ih pend st1 Q)
                | false => (match want with
                  | false => setF (fun ts => opQ TY (wrOf wr o) o.op ts st.heap fun r => fcSt ts o.dst r st.heap fun st1 => ih (⟨j, ts, r⟩ :: pend) st1 Q) (.bool false) st.tmps t
                  | true => fcSt (st.tmps.set t (.bool false)) o.dst (.tup []) st.heap fun st1 => ih pend st1 Q))
              | some (.tup cs) => (match cs with
                | [] => fcSt (st.tmps.set t (.tup [])) o.dst (.tup []) st.heap fun st1 => ih pend st1 Q
                | _ => False)
              | _ => False)))
        | false => fltsOk TY ops cl fl (j :: rest) st.tmps (j :: rest) (match o.guard with
          | none => effQ TY C wr o st.tmps st.heap fun r H' => fcSt st.tmps o.dst r H' fun st1 => pendOk TY wr ops cl j st1.heap pend (ih pend st1 Q)
          | some (g, want) => (match tmpOf ops g with
            | none => False
            | some t => (match st.tmps[t]? with
              | some (.bool b) => (match b with
                | true => (match want with
                  | true => setF (fun ts => effQ TY C wr o ts st.heap fun r H' => fcSt ts o.dst r H' fun st1 => pendOk TY wr ops cl j st1.heap pend (ih pend st1 Q)) (.bool true) st.tmps t
                  | false => fcSt (st.tmps.set t (.bool true)) o.dst (.tup []) st.heap fun st1 => ih pend st1 Q)
                | false => (match want with
                  | false => setF (fun ts => effQ TY C wr o ts st.heap fun r H' => fcSt ts o.dst r H' fun st1 => pendOk TY wr ops cl j st1.heap pend (ih pend st1 Q)) (.bool false) st.tmps t
                  | true => fcSt (st.tmps.set t (.bool false)) o.dst (.tup []) st.heap fun st1 => ih pend st1 Q))
              | some (.tup cs) => (match cs with
                | [] => fcSt (st.tmps.set t (.tup [])) o.dst (.tup []) st.heap fun st1 => ih pend st1 Q
                | _ => False)
              | _ => False))))
/-- One after another, in an order that is given. -/
def runQ (TY : TypeId → Option TI) (C : FuncId → Option Ctr) (wr : Tmp → Bool) (ops : Array Oper) (cl fl : List Nat) (l : List Nat) : List PE → St → (St → Prop) → Prop :=
  List.rec (motive := fun _ => List PE → St → (St → Prop) → Prop) (fun _ st Q => Q st)
    (fun j rest ih => bodyQ TY C wr ops cl fl j rest ih) l
def conflT (ops : Array Oper) (oi oj : Oper) : Bool :=
  (match oi.dst with | some d => (oj.looksAt ops).contains d || oj.dst == some d | none => false) ||
  (match oj.dst with | some d => (oi.looksAt ops).contains d | none => false)
def effAt (ops : Array Oper) (j : Nat) : Bool := match ops[j]? with | some o => !pureOp o.op | none => false
def pairOk (ops : Array Oper) (cl fl : List Nat) (i j : Nat) : Bool :=
  !hasAnc cl i j && (hasAnc cl j i || ((!effAt ops i || fl.contains j) && (match ops[i]?, ops[j]? with | some oi, some oj => !conflT ops oi oj | _, _ => false)))
def okPairs (ops : Array Oper) (cl fl : List Nat) : List Nat → Bool
  | [] => true
  | i :: l => l.all (fun j => pairOk ops cl fl i j) && (!l.contains i && okPairs ops cl fl l)
/-- What may come sooner: it stands by itself. -/
def okF1 (ops : Array Oper) (j : Nat) : Bool := match ops[j]? with
  | some o => fltOp o.op && (o.guard.isNone && (match o.dst with
    | some d => (List.range ops.size).all (fun x => x == j || (match ops[x]? with | some ox => !(ox.dst == some d) | none => true))
    | none => false))
  | none => false
/-- It stands right before what waits for it. -/
def okG (ops : Array Oper) (cl fl : List Nat) : List Nat → List Nat → Bool
  | [], _ => true
  | j :: l, fs => (match fl.contains j with
    | true => okG ops cl fl l (j :: fs)
    | false => (match fs with
      | [] => okG ops cl fl l []
      | _ => effAt ops j && (fs.all (hasAnc cl j) && okG ops cl fl l [])))
def okFF (ops : Array Oper) (cl fl : List Nat) : Bool :=
  fl.all fun j => fl.all fun f => !hasAnc cl j f || (List.range ops.size).any (fun e => effAt ops e && (!fl.contains e && (hasAnc cl e f && hasAnc cl j e)))
def okFl (ops : Array Oper) (cl fl l : List Nat) : Bool := fl.all (okF1 ops) && (okG ops cl fl l [] && okFF ops cl fl)
def okQ (ops : Array Oper) (l fl : List Nat) : Bool :=
  okBack ops && ((List.range ops.size).all (fun j => l.contains j) && (l.all (fun j => decide (j < ops.size)) && (okPairs ops (clos [] ops.toList) fl l && okFl ops (clos [] ops.toList) fl l)))
def hideT (ops : Array Oper) : List Nat → List AV → List AV
  | [], ts => ts
  | f :: fl, ts => hideT ops fl (match ops[f]? with | some o => put ts o.dst .any | none => ts)
def drawQ (TY : TypeId → Option TI) (C : FuncId → Option Ctr) (wr : Tmp → Bool) (ops : Array Oper) (l fl : List Nat) (st : St) (N : St → Prop) : Prop :=
  okQ ops l fl = true ∧ runQ TY C wr ops (clos [] ops.toList) fl l [] ⟨hideT ops fl st.tmps, st.heap⟩ N
section
variable {F : Nat → Obj → Prop} {P : Program} {TY : TypeId → Option TI} {C : FuncId → Option Ctr} {D : PT} {wr : Tmp → Bool} {ops : Array Oper} {cl fl : List Nat} {ρ : Nat → Option Nat} {S : Nat → Prop} {w0 w : World} {ds : List Deferred} {Fe : Fence} {dn : Nat}
theorem opQ_opV {wr : Bool} {op : Op} {ts : List AV} {H : List Blk} {N : AV → Prop} (h : opQ TY wr op ts H N) : opV TY wr op ts H N := by
  unfold opQ at h
  split at h
  · rename_i c
    unfold opV
    split at h
    · rename_i b hb
      split at h
      · split at h
        · rename_i t x h1 h2
          simp only [hb, h1, h2, valueB, builtinA]
          exact lenD_len h
        · exact h.elim
      · exact h.elim
    · exact h.elim
  · exact h
theorem det_opQ {wr : Bool} {op : Op} {ts : List AV} {H : List Blk} : Det (opQ TY wr op ts H) := by
  intro N h
  unfold opQ at h ⊢
  split at h
  · split at h
    · split at h
      · split at h
        · exact det_lenD N h
        · exact h.elim
      · exact h.elim
    · exact h.elim
  · rename_i hc
    obtain ⟨r, h1, h2⟩ := det_opV hc N h
    exact ⟨r, h1, h2⟩
theorem opQ_congr {wr : Bool} {op : Op} {ts ts' : List AV} {H : List Blk} {N : AV → Prop} (hx : ∀ x ∈ op.operands, evO ts' x = evO ts x) (h : opQ TY wr op ts H N) : opQ TY wr op ts' H N := by
  unfold opQ at h ⊢
  split at h
  · rename_i c
    rw [map_congr' (xs := c.args) (ts := ts) (ts' := ts') fun x hx' => hx x (by simp [Op.operands, Call.operands, hx'])]
    exact h
  · rename_i hc
    rw [opV_congr (H' := H) hc hx (fun id _ => rfl)]; exact h
theorem optmap_congr {ts ts' : List AV} (o : Option Operand) (ho : ∀ y, o = some y → evO ts' y = evO ts y) : o.map (evO ts') = o.map (evO ts) := by
  cases o with
  | none => rfl
  | some y => rw [Option.map_some, Option.map_some, ho y rfl]
theorem opA_congr {wr : Bool} {op : Op} {ts ts' : List AV} {H : List Blk} {N : AV → List Blk → Prop} (hc : ∀ c, op ≠ .call c) (hx : ∀ x ∈ op.operands, evO ts' x = evO ts x) : opA TY wr op ts' H N = opA TY wr op ts H N := by
  cases op <;> simp only [Op.operands] at hx <;> simp only [opA]
  case move x => rw [hx x (by simp)]
  case assign x => rw [hx x (by simp)]
  case pick c x y => rw [hx c (by simp), hx x (by simp), hx y (by simp)]
  case box e x => rw [hx x (by simp)]
  case build t ps => rw [partsE_congr fun x h => hx x (by simpa using h)]
  case buildSlice t n ps => rw [partsE_congr fun x h => hx x (by simpa using h)]
  case insert t m k x => rw [hx m (by simp), hx k (by simp), hx x (by simp)]
  case mapUpdate t m k x => rw [hx m (by simp), hx k (by simp), hx x (by simp)]
  case load t x => rw [hx x (by simp)]
  case store t a x => rw [hx a (by simp), hx x (by simp)]
  case nilCheck x => rw [hx x (by simp)]
  case binOp op t x y yt => rw [hx x (by simp), hx y (by simp)]
  case unOp op t x => rw [hx x (by simp)]
  case convert s d x => rw [hx x (by simp)]
  case makeInterface t x => rw [hx x (by simp)]
  case makeFunc fn first caps => rw [map_congr' (xs := caps) fun x h => hx x (by simp [h])]
  case makeMap t r => cases r <;> rfl
  case makeSlice t l c => rw [hx l (by simp), hx c (by simp)]
  case slice t x l h m =>
    rw [hx x (by simp)]
    rw [optmap_congr l fun y hy => hx y (by subst hy; simp), optmap_congr h fun y hy => hx y (by subst hy; simp), optmap_congr m fun y hy => hx y (by subst hy; simp)]
  case fieldAddr t x f => rw [hx x (by simp)]
  case field t x f => rw [hx x (by simp)]
  case indexAddr t x i => rw [hx x (by simp), hx i (by simp)]
  case index t x i => rw [hx x (by simp), hx i (by simp)]
  case lookup t x i ok => rw [hx x (by simp), hx i (by simp)]
  case range t x => rw [hx x (by simp)]
  case entry x => rw [hx x (by simp)]
  case typeAssert x xT t ok => rw [hx x (by simp)]
  case next x b => rw [hx x (by simp)]
  case extract t i => rw [hx t (by simp)]
  case call c => exact absurd rfl (hc _)
theorem effQ_congr {o : Oper} {ts ts' : List AV} {H : List Blk} {M : AV → List Blk → Prop} (hx : ∀ x ∈ o.op.operands, evO ts' x = evO ts x) (h : effQ TY C wr o ts H M) : effQ TY C wr o ts' H M := by
  unfold effQ at h ⊢
  split at h
  · rename_i c hop
    rw [hop] at hx
    rw [map_congr' (xs := c.args) (ts := ts) (ts' := ts') fun x hx' => hx x (by simp [Op.operands, Call.operands, hx'])]
    split at h
    · rename_i f hf
      rw [hx f (by simp [Op.operands, Call.operands, hf])]
      exact h
    · exact h
    · exact h.elim
  · rename_i hc
    rw [opA_congr (fun c e => hc c e) hx]; exact h
theorem effQ_sound (hO : Open Fe) (hTY : TyOk P TY) (hC : CtrOk F P C) (o : Oper) {ts : List AV} {H : List Blk} {a : Act} (hR : RelX F ds ρ S ⟨ts, H⟩ a w) {M : AV → List Blk → Prop} {Q : Exit → Act → World → Prop} (h : effQ TY C wr o ts H M) :
    o.wpIn Fe dn P a w (fun a' w' => ∃ r H' ρ' S', M r H' ∧ RelX F ds ρ' S' ⟨put ts o.dst r, H'⟩ a' w' ∧ Ext ρ S w ρ' S' w' ∧ ∃ v, a' = a.put o.dst v) Q := by
  have plain : OpOk P ρ S w (execOp a.eval o) M → o.wpIn Fe dn P a w (fun a' w' => ∃ r H' ρ' S', M r H' ∧ RelX F ds ρ' S' ⟨put ts o.dst r, H'⟩ a' w' ∧ Ext ρ S w ρ' S' w' ∧ ∃ v, a' = a.put o.dst v) Q := by
    intro hok
    obtain ⟨v, w', c, H', ρ', h1, h2, h3, h4, h5⟩ := hok
    have hs' : Sok F S w' := hR.sok.still h5
    rcases h1 with h1 | ⟨h1, rfl⟩
    · refine wpo_of hO (nodefer h1 (fun d => by simp)) ?_
      rw [h1]
      exact ⟨c, H', ρ', S, h2, Rel.put hR h5 hs' h4 h3 _, h5, _, rfl⟩
    · refine wpo_of hO (nodefer h1 (fun d => by simp)) ?_
      rw [h1]
      exact ⟨c, H', ρ', S, h2, Rel.put hR h5 hs' h4 h3 _, h5, _, rfl⟩
  unfold effQ at h
  split at h
  · rename_i c hop
    split at h
    · rename_i f hf
      split at h
      · rename_i g caps hg
        split at h
        · exact h.elim
        rename_i hgy
        split at h
        · rename_i K hK
          have hfv := hR.tmps.eval f
          rw [hg] at hfv
          cases hev : a.eval f <;> rw [hev] at hfv <;> cases hfv
          rename_i vs hl hv
          have hargs : VL ρ S w (c.args.toList.map (evO ts) ++ caps) (c.args.map a.eval ++ vs) := by
            refine ⟨by simp [hl], fun i c' v' hc' hv' => ?_⟩
            by_cases hlt : i < c.args.size
            · rw [List.getElem?_append_left (by simpa using hlt), List.getElem?_map] at hc'
              rw [Array.getElem?_append_left (by simpa using hlt), Array.getElem?_map] at hv'
              rw [show c.args.toList[i]? = c.args[i]? by simp] at hc'
              cases hi : c.args[i]? with
              | none => rw [hi] at hc'; cases hc'
              | some x =>
                rw [hi] at hc' hv'
                cases hc'; cases hv'
                exact hR.tmps.eval x
            · rw [List.getElem?_append_right (by simp; omega)] at hc'
              rw [Array.getElem?_append_right (by simp; omega)] at hv'
              simp only [List.length_map, Array.length_toList] at hc'
              simp only [Array.size_map] at hv'
              exact hv _ _ _ hc' hv'
          rcases (hC g K hK).1 hgy with ⟨hent, hgood⟩ | hins
          · have hrun : (execOp a.eval o).run P w = .ok (.enter g (c.args.map a.eval ++ vs)) w := by
              unfold execOp
              rw [hop]
              simp only [resolve, hf, hev, Deferred.ofValue, Sem.run_bind, Sem.run_pure, Result.andThen_ok, invoke, Array.empty_append]
              exact hent _ w
            refine wpo_of hO (by rw [hop]; intro c0 h0; cases h0) ?_
            rw [hrun, Oper.uponIn_enter]
            refine ⟨hO.deep, hO.calls ((hgood ρ S w H _ _ _ hR.sok hR.heap hargs h).mono ?_)⟩
            rintro e w' ⟨v, c', H', ρ', S', rfl, hN, hv', hH', hE, hs'⟩
            exact ⟨c', H', ρ', S', hN, Rel.put hR hE hs' hH' hv' _, hE, _, rfl⟩
          · obtain ⟨v, w', c', H', ρ', S', hrun0, hN, hv', hH', hE, hs'⟩ := hins ρ S w H _ _ _ hR.sok hR.heap hargs h
            have hrun : (execOp a.eval o).run P w = .ok (.value v) w' := by
              unfold execOp
              rw [hop]
              simp only [resolve, hf, hev, Deferred.ofValue, Sem.run_bind, Sem.run_pure, Result.andThen_ok, invoke, Array.empty_append]
              exact hrun0
            refine wpo_of hO (by rw [hop]; intro c0 h0; cases h0) ?_
            rw [hrun]
            exact ⟨c', H', ρ', S', hN, Rel.put hR hE hs' hH' hv' _, hE, _, rfl⟩
        · exact h.elim
      · rename_i id hg
        split at h
        · rename_i K hK
          have hfv := hR.tmps.eval f
          rw [hg] at hfv
          cases hev : a.eval f <;> rw [hev] at hfv <;> cases hfv
          rename_i l hl
          have hargs : VL ρ S w (c.args.toList.map (evO ts)) (c.args.map a.eval) := by
            refine ⟨by simp, fun i c' v' hc' hv' => ?_⟩
            rw [List.getElem?_map, show c.args.toList[i]? = c.args[i]? by simp] at hc'
            rw [Array.getElem?_map] at hv'
            cases hi : c.args[i]? with
            | none => rw [hi] at hc'; cases hc'
            | some x =>
              rw [hi] at hc' hv'
              cases hc'; cases hv'
              exact hR.tmps.eval x
          obtain ⟨f', tm, asg, body, hy, hr⟩ := (hC YF K hK).2 rfl ρ S w H id l _ _ _ hR.sok hR.heap hl hargs h
          have hrun : (execOp a.eval o).run P w = .ok (.round l f' tm asg body) w := by
            unfold execOp
            rw [hop]
            simp only [resolve, hf, hev, Deferred.ofValue, Sem.run_bind, Sem.run_pure, Result.andThen_ok, invoke, Array.empty_append]
            exact hy
          refine wpo_of hO (nodefer hrun (fun d => by simp)) ?_
          rw [hrun, Oper.uponIn_round]
          refine ⟨hO.deep, (hO.roundOf open_wide hr open_wide).mono ?_⟩
          rintro e w' ⟨v, c', H', ρ', S', rfl, hN, hv', hH', hE, hs'⟩
          exact ⟨c', H', ρ', S', hN, Rel.put hR hE hs' hH' hv' _, hE, _, rfl⟩
        · exact h.elim
      · exact h.elim
    · rename_i b hb
      refine plain (opA_sound hTY hR.sok.lt hR.heap hR.tmps (wr := false) o (N := M) ?_)
      rw [hop]
      simp only [opA, hb]
      exact h
    · exact h.elim
  · exact plain (opA_sound hTY hR.sok.lt hR.heap hR.tmps o (N := M) h)
/-! ### The trace -/
def RunsQ (TY : TypeId → Option TI) (wr : Tmp → Bool) (o : Oper) (r : AV) (ts : List AV) (H : List Blk) : Prop :=
  ∀ ts' : List AV, (∀ x ∈ o.op.operands, evO ts' x = evO ts x) → opQ TY (wrOf wr o) o.op ts' H (fun c => c = r)
def GuardQ (TY : TypeId → Option TI) (wr : Tmp → Bool) (ops : Array Oper) (pend : List PE) (o : Oper) (j : Nat) (te : TE) (ts : List AV) (H : List Blk) : Prop :=
  match o.guard with
  | none => RunsQ TY wr o te.r ts H ∧ ⟨j, ts, te.r⟩ ∈ pend
  | some (g, want) => ∃ t c, tmpOf ops g = some t ∧ ts[t]? = some c ∧ ((c = .bool want ∧ RunsQ TY wr o te.r ts H ∧ ⟨j, ts, te.r⟩ ∈ pend) ∨ ((c = .bool (!want) ∨ c = .tup []) ∧ te.r = .tup []))
def StepQ (TY : TypeId → Option TI) (wr : Tmp → Bool) (ops : Array Oper) (pend : List PE) (o : Oper) (j : Nat) (te : TE) (ts : List AV) (H : List Blk) : Prop :=
  te.dst = o.dst ∧ GuardQ TY wr ops pend o j te ts H
theorem GuardQ.mono {pend pend' : List PE} {o : Oper} {j : Nat} {te : TE} {ts : List AV} {H : List Blk} (hp : ∀ pe ∈ pend, pe ∈ pend') (h : GuardQ TY wr ops pend o j te ts H) : GuardQ TY wr ops pend' o j te ts H := by
  unfold GuardQ at h ⊢
  split at h
  · exact ⟨h.1, hp _ h.2⟩
  · obtain ⟨t, c, h1, h2, h3⟩ := h
    refine ⟨t, c, h1, h2, ?_⟩
    rcases h3 with ⟨h4, h5, h6⟩ | h4
    · exact .inl ⟨h4, h5, hp _ h6⟩
    · exact .inr h4
theorem runs_of {o : Oper} {ts : List AV} {H : List Blk} {N : AV → Prop} (h : opQ TY (wrOf wr o) o.op ts H N) : ∃ r, N r ∧ RunsQ TY wr o r ts H := by
  obtain ⟨r, h1, h2⟩ := det_opQ N h
  exact ⟨r, h1, fun ts' hx => opQ_congr hx h2⟩
theorem ov_app {α : Type} {Dn : Nat → Bool} : ∀ (ws ws' : List (List (Nat × α))) (i : Nat) (b : List α), ov Dn i (ws ++ ws') b = ov Dn (i + ws.length) ws' (ov Dn i ws b)
  | [], ws', i, b => by simp [ov]
  | w :: ws, ws', i, b => by
    rw [List.cons_append, ov, ov, ov_app ws ws' (i + 1), List.length_cons, show i + 1 + ws.length = i + (ws.length + 1) by omega]
theorem ov_from {α : Type} {Dn : Nat → Bool} : ∀ (k : Nat) (ws : List (List (Nat × α))) (b : List α), ov Dn k ws b = ov (fun m => Dn (k + m)) 0 ws b
  | 0, ws, b => by simp
  | k + 1, ws, b => by
    rw [ov_shift, ov_from k]
    congr 1
    funext m
    rw [show k + m + 1 = k + 1 + m by omega]
theorem ov_off {α : Type} {Dn : Nat → Bool} : ∀ (ws : List (List (Nat × α))) (i : Nat) (b : List α), (∀ m, i ≤ m → Dn m = false) → ov Dn i ws b = b
  | [], _, _, _ => rfl
  | w :: ws, i, b, h => by rw [ov, h i (Nat.le_refl _)]; exact ov_off ws (i + 1) b fun m hm => h m (by omega)
theorem fltsOk_spec {all : List Nat} {ts : List AV} : ∀ {l : List Nat} {X : Prop}, fltsOk TY ops cl fl all ts l X →
    (∀ f ∈ l, fl.contains f = true → (∀ x ∈ all, hasAnc cl f x = false) → ∃ o, ops[f]? = some o ∧ opA TY false o.op ts [] (fun _ _ => True)) ∧ X
  | [], X, h => ⟨fun _ h => (by cases h), h⟩
  | f :: l, X, h => by
    change (match fl.contains f && !(all.any (hasAnc cl f)) with
      | true => (match ops[f]? with
        | some o => opA TY false o.op ts [] (fun _ _ => True) ∧ fltsOk TY ops cl fl all ts l X
        | none => False)
      | false => fltsOk TY ops cl fl all ts l X) at h
    cases hc : fl.contains f && !(all.any (hasAnc cl f)) with
    | true =>
      rw [hc] at h
      simp only at h
      cases ho : ops[f]? with
      | none => rw [ho] at h; exact h.elim
      | some o =>
        rw [ho] at h
        obtain ⟨h0, h⟩ := h
        obtain ⟨h1, h2⟩ := fltsOk_spec h
        refine ⟨fun g hg hf hx => ?_, h2⟩
        rcases List.mem_cons.1 hg with rfl | hg
        · exact ⟨o, ho, h0⟩
        · exact h1 g hg hf hx
    | false =>
      rw [hc] at h
      simp only at h
      obtain ⟨h1, h2⟩ := fltsOk_spec h
      refine ⟨fun g hg hf hx => ?_, h2⟩
      rcases List.mem_cons.1 hg with rfl | hg
      · exfalso
        rw [hf, Bool.true_and, Bool.not_eq_false'] at hc
        obtain ⟨x, h3, h4⟩ := List.any_eq_true.1 hc
        rw [hx x h3] at h4; cases h4
      · exact h1 g hg hf hx
theorem runQ_cons {j : Nat} {rest : List Nat} {pend : List PE} {st : St} {Q : St → Prop} (h : runQ TY C wr ops cl fl (j :: rest) pend st Q) : ∃ o, ops[j]? = some o ∧
    ((pureOp o.op = true ∧ ∃ te pend', te.dst = o.dst ∧ (∀ pe ∈ pend, pe ∈ pend') ∧ GuardQ TY wr ops pend' o j te st.tmps st.heap ∧ runQ TY C wr ops cl fl rest pend' ⟨put st.tmps o.dst te.r, st.heap⟩ Q) ∨
     (pureOp o.op = false ∧ (∀ f ∈ j :: rest, fl.contains f = true → (∀ x ∈ j :: rest, hasAnc cl f x = false) → ∃ o, ops[f]? = some o ∧ opA TY false o.op st.tmps [] (fun _ _ => True)) ∧
      ((∃ t c g want, o.guard = some (g, want) ∧ tmpOf ops g = some t ∧ st.tmps[t]? = some c ∧ (c = .bool (!want) ∨ c = .tup []) ∧ runQ TY C wr ops cl fl rest pend ⟨put st.tmps o.dst (.tup []), st.heap⟩ Q) ∨
       ((o.guard = none ∨ ∃ t g want, o.guard = some (g, want) ∧ tmpOf ops g = some t ∧ st.tmps[t]? = some (.bool want)) ∧
        effQ TY C wr o st.tmps st.heap fun r H' => pendOk TY wr ops cl j H' pend (runQ TY C wr ops cl fl rest pend ⟨put st.tmps o.dst r, H'⟩ Q))))) := by
  change bodyQ TY C wr ops cl fl j rest (runQ TY C wr ops cl fl rest) pend st Q at h
  unfold bodyQ at h
  simp only [fcSt_eq, setF_eq] at h
  cases ho : ops[j]? with
  | none => rw [ho] at h; exact h.elim
  | some o =>
    rw [ho] at h
    simp only at h
    refine ⟨o, rfl, ?_⟩
    cases hp : pureOp o.op with
    | true =>
      rw [hp] at h
      simp only at h
      refine .inl ⟨rfl, ?_⟩
      have run : ∀ ts, ts = st.tmps → (opQ TY (wrOf wr o) o.op ts st.heap fun r => runQ TY C wr ops cl fl rest (⟨j, ts, r⟩ :: pend) ⟨put ts o.dst r, st.heap⟩ Q) →
          ∃ r, RunsQ TY wr o r st.tmps st.heap ∧ runQ TY C wr ops cl fl rest (⟨j, st.tmps, r⟩ :: pend) ⟨put st.tmps o.dst r, st.heap⟩ Q := by
        rintro ts rfl h
        obtain ⟨r, h1, h2⟩ := runs_of h
        exact ⟨r, h2, h1⟩
      split at h
      · rename_i hg
        obtain ⟨r, h1, h2⟩ := run _ rfl h
        exact ⟨⟨o.dst, r, [], []⟩, _, rfl, fun pe hpe => List.mem_cons_of_mem _ hpe, by unfold GuardQ; rw [hg]; exact ⟨h1, List.mem_cons_self⟩, h2⟩
      · rename_i g want hg
        split at h
        · exact h.elim
        · rename_i t ht
          split at h
          · rename_i b hb
            split at h
            · rw [set_same hb] at h
              split at h
              · obtain ⟨r, h1, h2⟩ := run _ rfl h
                exact ⟨⟨o.dst, r, [], []⟩, _, rfl, fun pe hpe => List.mem_cons_of_mem _ hpe, by unfold GuardQ; rw [hg]; exact ⟨t, _, ht, hb, .inl ⟨rfl, h1, List.mem_cons_self⟩⟩, h2⟩
              · exact ⟨⟨o.dst, .tup [], [], []⟩, pend, rfl, fun _ h => h, by unfold GuardQ; rw [hg]; exact ⟨t, _, ht, hb, .inr ⟨.inl rfl, rfl⟩⟩, h⟩
            · rw [set_same hb] at h
              split at h
              · obtain ⟨r, h1, h2⟩ := run _ rfl h
                exact ⟨⟨o.dst, r, [], []⟩, _, rfl, fun pe hpe => List.mem_cons_of_mem _ hpe, by unfold GuardQ; rw [hg]; exact ⟨t, _, ht, hb, .inl ⟨rfl, h1, List.mem_cons_self⟩⟩, h2⟩
              · exact ⟨⟨o.dst, .tup [], [], []⟩, pend, rfl, fun _ h => h, by unfold GuardQ; rw [hg]; exact ⟨t, _, ht, hb, .inr ⟨.inl rfl, rfl⟩⟩, h⟩
          · rename_i cs hb
            split at h
            · rw [set_same hb] at h
              exact ⟨⟨o.dst, .tup [], [], []⟩, pend, rfl, fun _ h => h, by unfold GuardQ; rw [hg]; exact ⟨t, _, ht, hb, .inr ⟨.inr rfl, rfl⟩⟩, h⟩
            · exact h.elim
          · exact h.elim
    | false =>
      rw [hp] at h
      simp only at h
      obtain ⟨hfl, h⟩ := fltsOk_spec h
      refine .inr ⟨rfl, hfl, ?_⟩
      split at h
      · rename_i hg
        exact .inr ⟨.inl hg, h⟩
      · rename_i g want hg
        split at h
        · exact h.elim
        · rename_i t ht
          split at h
          · rename_i b hb
            split at h
            · rw [set_same hb] at h
              split at h
              · exact .inr ⟨.inr ⟨t, g, _, hg, ht, hb⟩, h⟩
              · exact .inl ⟨t, _, g, _, hg, ht, hb, .inl rfl, h⟩
            · rw [set_same hb] at h
              split at h
              · exact .inr ⟨.inr ⟨t, g, _, hg, ht, hb⟩, h⟩
              · exact .inl ⟨t, _, g, _, hg, ht, hb, .inl rfl, h⟩
          · rename_i cs hb
            split at h
            · rw [set_same hb] at h
              exact .inl ⟨t, _, g, _, hg, ht, hb, .inr rfl, h⟩
            · exact h.elim
          · exact h.elim
theorem runQ_pures : ∀ (rest : List Nat) (pend : List PE) (ts : List AV) (H : List Blk) (Q : St → Prop), runQ TY C wr ops cl fl rest pend ⟨ts, H⟩ Q →
    ∃ (ps rest2 : List Nat) (tr2 : List TE) (pend2 : List PE), rest = ps ++ rest2 ∧ (∀ j ∈ ps, effAt ops j = false) ∧ (∀ j rr, rest2 = j :: rr → effAt ops j = true) ∧ tr2.length = ps.length ∧
      runQ TY C wr ops cl fl rest2 pend2 ⟨ov (fun _ => true) 0 (tr2.map TE.T) ts, H⟩ Q ∧ (∀ pe ∈ pend, pe ∈ pend2) ∧
      ∀ (p j : Nat) o te, ps[p]? = some j → ops[j]? = some o → tr2[p]? = some te → StepQ TY wr ops pend2 o j te (ov (fun m => decide (m < p)) 0 (tr2.map TE.T) ts) H
  | [], pend, ts, H, Q, h => ⟨[], [], [], pend, rfl, fun _ h => (by cases h), fun _ _ h => (by cases h), rfl, h, fun _ h => h, fun p j o te hp => by simp at hp⟩
  | j :: rest, pend, ts, H, Q, h => by
    obtain ⟨o, ho, hcase⟩ := runQ_cons h
    rcases hcase with ⟨hp, te, pend', hd, hsub, hg, hr⟩ | ⟨hp, _⟩
    · obtain ⟨ps, rest2, tr2, pend2, h1, h2, h3, h4, h5, h6, h7⟩ := runQ_pures rest pend' _ _ Q hr
      have hput : put ts o.dst te.r = setAll ts te.T := by rw [← hd]; exact put_eq _ _
      simp only at hput h5 h7
      rw [hput] at h5 h7
      refine ⟨j :: ps, rest2, te :: tr2, pend2, by rw [h1]; rfl, fun i hi => ?_, h3, by simp [h4], ?_, fun pe hpe => h6 _ (hsub _ hpe), fun p i o' te' hpi hoi hti => ?_⟩
      · rcases List.mem_cons.1 hi with rfl | hi
        · unfold effAt; rw [ho]; simp [hp]
        · exact h2 i hi
      · simp only [List.map_cons, ov]
        rw [ov_shift]; exact h5
      · cases p with
        | zero =>
          simp at hpi hti
          subst hpi; subst hti
          rw [ho] at hoi; cases hoi
          rw [ov_none _ _ _ (fun m => by simp)]
          exact ⟨hd, hg.mono h6⟩
        | succ p =>
          have := h7 p i o' te' (by simpa using hpi) hoi (by simpa using hti)
          simp only [List.map_cons, ov, Nat.zero_lt_succ, decide_true]
          rw [ov_shift]
          have e : (fun i => decide (i + 1 < p + 1)) = fun i => decide (i < p) := by funext i; simp
          rw [e]
          exact this
    · exact ⟨[], j :: rest, [], pend, rfl, fun _ h => (by cases h), fun i rr h => by cases h; unfold effAt; rw [ho]; simp [hp], rfl, h, fun _ h => h, fun p j o te hp => by simp at hp⟩
theorem pendOk_spec {j : Nat} {H : List Blk} : ∀ {l : List PE} {X : Prop}, pendOk TY wr ops cl j H l X → X ∧ ∀ pe ∈ l, hasAnc cl j pe.i = true ∨ ∃ o, ops[pe.i]? = some o ∧ opQ TY (wrOf wr o) o.op pe.ts H (fun r => r = pe.r)
  | [], X, h => ⟨h, fun _ h => (by cases h)⟩
  | pe :: l, X, h => by
    change (match hasAnc cl j pe.i with
      | true => pendOk TY wr ops cl j H l X
      | false => (match ops[pe.i]? with
        | some o => opQ TY (wrOf wr o) o.op pe.ts H (fun r => r = pe.r) ∧ pendOk TY wr ops cl j H l X
        | none => False)) at h
    cases ha : hasAnc cl j pe.i with
    | true =>
      rw [ha] at h
      obtain ⟨h1, h2⟩ := pendOk_spec h
      refine ⟨h1, fun q hq => ?_⟩
      rcases List.mem_cons.1 hq with rfl | hq
      · exact .inl ha
      · exact h2 q hq
    | false =>
      rw [ha] at h
      simp only at h
      cases ho : ops[pe.i]? with
      | none => rw [ho] at h; exact h.elim
      | some o =>
        rw [ho] at h
        obtain ⟨h0, h⟩ := h
        obtain ⟨h1, h2⟩ := pendOk_spec h
        refine ⟨h1, fun q hq => ?_⟩
        rcases List.mem_cons.1 hq with rfl | hq
        · exact .inr ⟨o, ho, h0⟩
        · exact h2 q hq
end
end
end Go.Vc
