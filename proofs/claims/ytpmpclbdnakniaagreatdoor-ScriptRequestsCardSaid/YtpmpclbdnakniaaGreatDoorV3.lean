/- Operations, contracts, regions in the order of the text, code. -/
import Derived.Test.YtpmpclbdnakniaaGreatDoorV2
set_option linter.all false
set_option linter.unusedVariables false
set_option linter.unusedSimpArgs false
namespace Go.Vc
open Go
section
variable {P : Program} {TY : TypeId → Option TI} {ρ : Nat → Option Nat} {S : Nat → Prop} {w : World}
theorem OpOk.of_unit {s : Sem Unit} {N : AV → List Blk → Prop} {w' : World} {H' : List Blk} (h : s.run P w = .ok () w') (hN : N .any H') (hH : HRel ρ S w' H') (hE : Ext ρ S w ρ S w') : OpOk P ρ S w (do s; pure .skip) N :=
 ⟨undef, w', .any, H', ρ, .inr ⟨by simp [h], rfl⟩, hN, .any _, hH, hE⟩
theorem OpSt.val {s : Sem Next} {N : AV → Prop} {v : Value} {c : AV} (h : s.run P w = .ok (.value v) w) (hN : N c) (hv : V ρ S w c v) : OpSt P ρ S w s N :=
 ⟨v, c, h, hN, hv⟩
def opV (TY : TypeId → Option TI) (wr : Bool) (op : Op) (ts : List AV) (H : List Blk) (N : AV → Prop) : Prop :=
 match op with
 | .move x => N (evO ts x)
 | .assign x => N (evO ts x)
 | .pick c a b => pickA (evO ts c) (evO ts a) (evO ts b) N
 | .build t ps => buildF TY t (partsE ts ps) N
 | .load t a => loadPA TY t (evO ts a) H N
 | .nilCheck x => nilCheckA (evO ts x) N
 | .binOp op t x y _ => binA TY wr op t (evO ts x) (evO ts y) N
 | .unOp op _ x => unA wr op (evO ts x) N
 | .convert s d x => convA TY wr s d (evO ts x) H N
 | .makeInterface t x => (match TY t with | some i => (match i.kind with | .iface => False | _ => N (.iface t (evO ts x))) | none => False)
 | .makeFunc fn first caps => (match fn, first.toList with | .func f, [] => N (.fn f (caps.toList.map (evO ts))) | _, _ => False)
 | .slice t x l h m => (match TY t with
  | some i => (match i.kind with
   | .arr _ _ => False
   | _ => sliceA TY t (evO ts x) (l.map (evO ts)) (h.map (evO ts)) (m.map (evO ts)) N)
  | none => False)
 | .fieldAddr t x f => fieldAddrA TY t (evO ts x) f N
 | .field t x f => fieldA TY t (evO ts x) f N
 | .indexAddr t x i => indexAddrA TY t (evO ts x) (evO ts i) N
 | .index t x i => (match evO ts x with
  | .agg cs => arrIndexA TY t (.agg cs) (evO ts i) N
  | x => indexA TY t x (evO ts i) N)
 | .lookup t x i ok => lookupA TY t (evO ts x) (evO ts i) ok H N
 | .extract t i => extractA (evO ts t) i N
 | .call c => (match c.callee with
  | .builtin b => (match valueB b with
   | true => builtinA TY b c.argTypes.toList (c.args.toList.map (evO ts)) H (fun r _ => N r)
   | false => False)
  | _ => False)
 | _ => False
theorem opV_sound (hTY : TyOk P TY) {H : List Blk} (hH : HRel ρ S w H) {ts : List AV} {a : Act} (hT : TRel ρ S w ts a.tmps) {wr : Bool} (o : Oper) {N : AV → Prop}
  (h : opV TY wr o.op ts H N) : OpSt P ρ S w (execOp a.eval o) N := by
 obtain ⟨dst, op, type, pos, after, guard⟩ := o
 simp only at h
 cases op <;> simp only [opV] at h <;> (try exact h.elim)
 case move x => exact OpSt.val rfl h (hT.eval x)
 case assign x => exact OpSt.val rfl h (hT.eval x)
 case pick c x y => exact pickA_sound (hT.eval c) (hT.eval x) (hT.eval y) h
 case build t ps => exact (buildA_sound hTY hH hT (buildF_eq ▸ h)).op
 case load t x => exact (loadPA_sound hTY hH (hT.eval x) h).op
 case nilCheck x =>
  have hx := hT.eval x
  have fin : ∀ v, a.eval x = v → (match v with
    | .pointer none | .nilIface | .nilFunc => False
    | .func (.method _) _ _ => False
    | _ => True) → (execOp a.eval ⟨dst, .nilCheck x, type, pos, after, guard⟩).run P w = .ok (.value v) w := by
   intro v hv hm
   simp only [execOp]
   rw [hv]
   split at hm <;> first | exact hm.elim | skip
   split <;> first | rfl | (simp_all; done)
  unfold nilCheckA at h
  split at h
  ·rename_i id j heq
   rw [heq] at hx
   obtain ⟨b, he, hb⟩ := hx.ptrR
   exact OpSt.val (fin _ he trivial) h (by rw [← he]; exact hT.eval x)
  ·rename_i id sz e j heq
   rw [heq] at hx
   obtain ⟨b, he, hb⟩ := hx.eptrR
   exact OpSt.val (fin _ he trivial) h (by rw [← he]; exact hT.eval x)
  ·rename_i cs j heq
   rw [heq] at hx
   cases hev : a.eval x <;> rw [hev] at hx <;> cases hx
   exact OpSt.val (fin _ hev trivial) h (by rw [← hev]; exact hT.eval x)
  ·rename_i f cs heq
   rw [heq] at hx
   cases hev : a.eval x <;> rw [hev] at hx <;> cases hx
   exact OpSt.val (fin _ hev trivial) h (by rw [← hev]; exact hT.eval x)
  ·exact h.elim
 case binOp op t x y yt => exact (binA_sound hTY hH x y (hT.eval x) (hT.eval y) h).op
 case unOp op t x => exact (unA_sound hH (hT.eval x) h).op
 case convert s d x => exact (convA_sound hTY hH (hT.eval x) h).op
 case makeInterface t x =>
  split at h
  ·rename_i i hi
   obtain ⟨_, d, _, h2, _, _, _, h6, _, _⟩ := hTY.get hi
   have h' : (∀ ms, d ≠ .interface ms) ∧ N (.iface t (evO ts x)) := by
    split at h
    ·exact h.elim
    ·rename_i hk
     refine ⟨?_, h⟩
     rintro ms rfl
     exact hk (by rw [← h6]; rfl)
   refine (VSt.same hH (v := .iface t (a.eval x)) ?_ h'.2 (.iface _ _ _ (hT.eval x))).op
   unfold Instr.makeInterface
   simp only [Sem.run_bind, run_underlying' h2, Result.andThen_ok]
   cases d <;> first | rfl | exact absurd rfl (h'.1 _)
  ·exact h.elim
 case makeFunc fn first caps =>
  split at h
  ·rename_i f hf
   obtain ⟨first⟩ := first
   simp only at hf
   subst hf
   refine (VSt.same hH (v := .func (.func f) #[] (caps.map a.eval)) ?_ h ?_).op
   ·simp [Instr.makeFunc]
   ·refine .fn _ _ _ (by simp) fun i c v hc hv => ?_
    simp only [List.getElem?_map] at hc
    simp only [Array.getElem?_map] at hv
    cases hi : caps[i]? with
    | none => rw [hi] at hv; cases hv
    | some o =>
     have hi' : caps.toList[i]? = some o := by simpa using hi
     rw [hi'] at hc
     rw [hi] at hv
     cases hc; cases hv
     exact hT.eval o
  ·exact h.elim
 case slice t x l hh m =>
  split at h
  ·rename_i i hi
   obtain ⟨_, d, _, h2, _, _, _, h6, _, _⟩ := hTY.get hi
   split at h
   ·exact h.elim
   ·rename_i hna0
    have hna : ∀ n e, d ≠ .array n e := by
     rintro n e rfl
     exact hna0 n e (by rw [← h6]; rfl)
    obtain ⟨v, c, g1, g2⟩ := sliceA_sound hTY hH (hT.eval x) (optV_map hT l) (optV_map hT hh) (optV_map hT m) h
    refine VSt.op ⟨v, c, ?_, g2⟩
    rw [run_sliceAt_eq h2 hna]
    exact g1
  ·exact h.elim
 case fieldAddr t x f => exact (fieldAddrA_sound hTY hH (hT.eval x) h).op
 case field t x f => exact (fieldA_sound hTY hH (hT.eval x) h).op
 case indexAddr t x i => exact (indexAddrA_sound hTY hH (hT.eval x) (hT.eval i) h).op
 case index t x i =>
  split at h
  ·rename_i cs heq
   have hx := hT.eval x
   rw [heq] at hx
   exact (arrIndexA_sound hTY hH hx (hT.eval i) h).op
  ·exact (indexA_sound hTY hH (hT.eval x) (hT.eval i) h).op
 case lookup t x i ok => exact (lookupA_sound hTY hH (hT.eval x) (hT.eval i) h).op
 case extract t i => exact (extractA_sound hH (hT.eval t) h).op
 case call c =>
  obtain ⟨callee, args, argTypes⟩ := c
  simp only at h
  split at h
  ·rename_i b
   split at h
   ·rename_i hb
    obtain ⟨v, c, g1, g2⟩ := builtinV_sound (ty := type) (cs := args.map fun | .const _ => true | _ => false) (N := fun r _ => N r) hTY hH hT hb h
    exact ⟨v, c, g1, g2⟩
   ·exact h.elim
  ·exact h.elim
theorem nilA_sound (hTY : TyOk P TY) {t : TypeId} {c : Bool} {z l : Nat} {g : Nat → List AV} {vx vy : Value} (xo yo : Operand) {N : Bool → Prop} {M : AV → Prop} (hx : V ρ S w (.sl c z l g) vx) (hy : V ρ S w .nilsl vy) (h : nilA TY t l N) (hM : ∀ b, N b → M (.bool b)) :
  VSt P ρ S w (do eqGuard .eql t xo yo vx vy; binOp .eql t vx vy) M := by
 unfold nilA at h
 split at h
 ·rename_i i hi
  obtain ⟨info, d, h1, h2, _, _, _, h6, _, h8⟩ := hTY.get hi
  obtain ⟨_, _, _, ks, _⟩ := kind_desc h6
  split at h
  ·rename_i e hk
   have he : P.underlying t = some (.slice e) := by rw [h2, ks e hk]
   cases hy
   have gsl : ∀ (a b : Option Addr) (l c l' c' : Nat), (eqGuard .eql t xo yo (.slice a l c) (.slice b l' c')).run P w = .ok () w := fun a b l c l' c' => by simp [eqGuard]
   have fin : ∀ (p : Option Addr) (l c : Nat), M (.bool p.isNone) → VSt P ρ S w (do eqGuard .eql t xo yo (.slice p l c) (.slice none 0 0); binOp .eql t (.slice p l c) (.slice none 0 0)) M := fun p l c hm =>
    ⟨.bool p.isNone, .bool p.isNone, by simp only [Sem.run_bind, gsl, Result.andThen_ok]; exact Lib.run_eql_slice_nil w t e p l c 0 0 he, hm, .bool _⟩
   cases hx with
   | sln _ _ _ ao => cases ao with
    | none => exact fin none 0 0 (hM true h.1)
    | some a => exact fin (some a) 0 0 (hM false h.2)
   | sl _ _ _ _ b o cap f hs hl hm hcl hz hc hv =>
    refine fin (some _) l cap (hM false ?_)
    split at h
    ·exact h.2
    ·exact h
  ·exact h.elim
 ·exact h.elim
theorem opA_sound (hTY : TyOk P TY) (hns : ∀ b, S b → b < w.heap.size) {H : List Blk} (hH : HRel ρ S w H) {ts : List AV} {a : Act} (hT : TRel ρ S w ts a.tmps) {wr : Bool} (o : Oper) {N : AV → List Blk → Prop}
  (h : opA TY wr o.op ts H N) : OpOk P ρ S w (execOp a.eval o) N := by
 have val : opV TY wr o.op ts H (fun r => N r H) → OpOk P ρ S w (execOp a.eval o) N := fun hv => (opV_sound hTY hH hT o hv).ok hH
 obtain ⟨dst, op, type, pos, after, guard⟩ := o
 simp only at h
 simp only at val
 cases op <;> simp only [opA] at h <;> simp only [opV] at val <;> (try exact h.elim)
 case move x => exact val h
 case assign x => exact val h
 case pick c x y => exact val h
 case build t ps => exact val h
 case load t x => exact val h
 case nilCheck x => exact val h
 case binOp op t x y yt =>
  split at h
  ·rename_i c z l g hx hy
   have h1 := hT.eval x
   have h2 := hT.eval y
   rw [hx] at h1
   rw [hy] at h2
   exact (nilA_sound (M := fun r => N r H) hTY x y h1 h2 h fun b hb => hb).op.ok hH
  ·exact val h
 case unOp op t x => exact val h
 case convert s d x => exact val h
 case makeInterface t x => exact val h
 case makeFunc fn first caps => exact val h
 case fieldAddr t x f => exact val h
 case field t x f => exact val h
 case indexAddr t x i => exact val h
 case index t x i => exact val h
 case lookup t x i ok => exact val h
 case extract t i => exact val h
 case alloc e => exact (allocA_sound hTY hns hH h).op
 case box e x => exact (boxA_sound hns hH (hT.eval x) h e).op
 case buildSlice t n ps => exact (buildSliceA_sound hTY hns hH hT h).op
 case insert t m k x =>
  obtain ⟨w', H', h1, h2, h3, h4⟩ := mapSetA_sound hTY hH (hT.eval m) (hT.eval k) (hT.eval x) h
  exact OpOk.of_unit h1 h2 h3 h4
 case store t p x =>
  obtain ⟨w', H', h1, h2, h3, h4⟩ := storePA_sound hTY hH (hT.eval p) (hT.eval x) h
  exact OpOk.of_unit h1 h2 h3 h4
 case makeMap t r =>
  cases r with
  | some _ => exact h.elim
  | none =>
   refine (VOk.new hH (v := .map (some w.heap.size)) (o := .map #[] 0) ?_ h (.map _ _ (newρ_at _ _)) ?_).op
   ·simp [Instr.makeMap, newObj, Sem.run]
   ·intro b hb
    rw [newρ_at] at hb
    cases hb
    exact ⟨fun hs => Nat.lt_irrefl _ (hns _ hs), #[], 0, heap_alloc_at w _, rfl, fun i k x e hi => by simp at hi⟩
 case makeSlice t l c => exact (makeSliceA_sound hTY hns hH (hT.eval l) (hT.eval c) h).op
 case slice t x l hh m =>
  split at h
  ·rename_i i hi
   split at h
   ·exact (arrSliceA_sound hTY hH (hT.eval x) (optV_map hT l) (optV_map hT hh) h).op
   ·exact h.elim
   ·rename_i m x0 m0 hna1 hna2
    refine val ?_
    simp only [hi]
    split
    ·rename_i n e hk
     cases m with
     | none => first | exact (hna1 n e hk rfl).elim | exact (hna2 n e hk rfl).elim
     | some v => first | exact (hna1 n e v hk rfl).elim | exact (hna2 n e v hk rfl).elim
    ·exact h
  ·exact h.elim
 case mapUpdate t m k x =>
  obtain ⟨w', H', h1, h2, h3, h4⟩ := mapSetA_sound hTY hH (hT.eval m) (hT.eval k) (hT.eval x) h
  exact OpOk.of_unit h1 h2 h3 h4
 case range t x => exact (rangeA_sound hTY hns hH (hT.eval x) h).op
 case next it isS => exact (nextA_sound hH (hT.eval it) h).op
 case call c =>
  obtain ⟨callee, args, argTypes⟩ := c
  simp only at h
  split at h
  ·rename_i b
   have := builtinA_sound (ty := type) (cs := args.map fun | .const _ => true | _ => false) hTY hns hH hT h
   obtain ⟨v, w', c, H', ρ', g1, g2⟩ := this
   refine ⟨v, w', c, H', ρ', ?_, g2⟩
   rcases g1 with g1 | g1
   ·exact .inl g1
   ·exact .inr g1
  ·exact h.elim
end
abbrev Ctr := List AV → List Blk → (AV → List Blk → Prop) → Prop
def VL (ρ : Nat → Option Nat) (S : Nat → Prop) (w : World) (cs : List AV) (vs : Array Value) : Prop := cs.length = vs.size ∧ ∀ (i : Nat) (c : AV) (v : Value), cs[i]? = some c → vs[i]? = some v → V ρ S w c v
structure Sok (F : Nat → Obj → Prop) (S : Nat → Prop) (w : World) : Prop where
 lt : ∀ b, S b → b < w.heap.size
 st : ∀ b o, F b o → S b ∧ w.heap[b]? = some o
theorem Sok.ext {F : Nat → Obj → Prop} {ρ : Nat → Option Nat} {S : Nat → Prop} {w : World} {ρ' : Nat → Option Nat} {S' : Nat → Prop} {w' : World} (h : Sok F S w) (hE : Ext ρ S w ρ' S' w') (hs : ∀ b, S' b → b < w'.heap.size) : Sok F S' w' :=
 ⟨hs, fun b o hf => ⟨hE.st b (h.st b o hf).1, (hE.same b (h.lt b (h.st b o hf).1) (.inl (h.st b o hf).1)).trans (h.st b o hf).2⟩⟩
theorem Sok.still {F : Nat → Obj → Prop} {ρ : Nat → Option Nat} {S : Nat → Prop} {w : World} {ρ' : Nat → Option Nat} {w' : World} (h : Sok F S w) (hE : Ext ρ S w ρ' S w') : Sok F S w' :=
 h.ext hE fun b hb => Nat.lt_of_lt_of_le (h.lt b hb) hE.size
def Good (F : Nat → Obj → Prop) (P : Program) (f : FuncId) (K : Ctr) : Prop :=
 ∀ ρ S (w : World) H cs vs Q, Sok F S w → HRel ρ S w H → VL ρ S w cs vs → K cs H Q →
  Calls P f vs w fun e w' => ∃ v c H' ρ' S', e = .returned v ∧ Q c H' ∧ V ρ' S' w' c v ∧ HRel ρ' S' w' H' ∧ Ext ρ S w ρ' S' w' ∧ Sok F S' w'
def Ent (P : Program) (f : FuncId) : Prop := ∀ args w, (callFunc f args).run P w = .ok (.enter f args) w
def CtrOk (F : Nat → Obj → Prop) (P : Program) (C : FuncId → Option Ctr) : Prop := ∀ f K, C f = some K → Ent P f ∧ Good F P f K
def put (ts : List AV) (dst : Option Tmp) (c : AV) : List AV := match dst with
 | some d => ts.set d c
 | none => ts
def setF (K : List AV → Prop) (v : AV) : List AV → Nat → Prop
 | [], _ => K []
 | _ :: xs, 0 => K (v :: xs)
 | x :: xs, n + 1 => setF (fun ys => K (x :: ys)) v xs n
theorem setF_eq (v : AV) : ∀ (l : List AV) (n : Nat) (K : List AV → Prop), setF K v l n = K (l.set n v)
 | [], _, _ => rfl
 | _ :: xs, 0, _ => rfl
 | x :: xs, n + 1, K => by rw [setF, setF_eq v xs n]; rfl
def fcB : Blk → (Blk → Prop) → Prop
 | .dead, K => K .dead
 | .var cs T, K => fcL cs fun cs' => K (.var cs' T)
 | .row sz len get T, K => K (.row sz len get T)
 | .iter s p, K => K (.iter s p)
 | .map es, K => K (.map es)
def fcP : List (Nat × AV) → (List (Nat × AV) → Prop) → Prop
 | [], K => K []
 | (k, x) :: ps, K => natF k (fun k' => fc x fun v => fcP ps fun ps' => K ((k', v) :: ps')) k natT
theorem fcP_eq : ∀ (l : List (Nat × AV)) (K : List (Nat × AV) → Prop), fcP l K = K l
 | [], _ => rfl
 | (k, x) :: ps, K => by rw [fcP, natF_eq, fc_eq, fcP_eq ps]
theorem fcB_eq (b : Blk) (K : Blk → Prop) : fcB b K = K b := by
 cases b <;> simp only [fcB]
 exact fcL_eq _ _
def fcH : List Blk → (List Blk → Prop) → Prop
 | [], K => K []
 | b :: bs, K => fcB b fun b' => fcH bs fun bs' => K (b' :: bs')
theorem fcH_eq : ∀ (H : List Blk) (K : List Blk → Prop), fcH H K = K H
 | [], _ => rfl
 | b :: bs, K => by rw [fcH, fcB_eq, fcH_eq bs]
def fcSt (ts : List AV) (dst : Option Tmp) (r : AV) (H : List Blk) (N : St → Prop) : Prop := fcH H fun H' => match dst with
 | none => N ⟨ts, H'⟩
 | some d => fc r fun r' => setF (fun ts' => N ⟨ts', H'⟩) r' ts d
theorem fcSt_eq (ts : List AV) (dst : Option Tmp) (r : AV) (H : List Blk) (N : St → Prop) : fcSt ts dst r H N = N ⟨put ts dst r, H⟩ := by
 unfold fcSt
 rw [fcH_eq]
 cases dst with
 | none => rfl
 | some d => simp only; rw [fc_eq, setF_eq]; rfl
def fcAll (st : St) (N : St → Prop) : Prop := fcL st.tmps fun ts => fcH st.heap fun H => N ⟨ts, H⟩
theorem fcAll_eq (st : St) (N : St → Prop) : fcAll st N = N st := by
 unfold fcAll
 rw [fcL_eq, fcH_eq]
def stepE (TY : TypeId → Option TI) (C : FuncId → Option Ctr) (wr : Tmp → Bool) (o : Oper) (st : St) (N : St → Prop) : Prop :=
 match o.op with
 | .call c => (match c.callee with
  | .value f => (match evO st.tmps f with
   | .fn g caps => (match C g with
    | some K => K (c.args.toList.map (evO st.tmps) ++ caps) st.heap fun r H' => fcSt st.tmps o.dst r H' N
    | none => False)
   | _ => False)
  | .builtin b => builtinA TY b c.argTypes.toList (c.args.toList.map (evO st.tmps)) st.heap fun r H' => fcSt st.tmps o.dst r H' N
  | _ => False)
 | .buildSlice t n ps => fcP (partsE st.tmps ps) fun parts => buildSliceA TY t n parts st.heap fun r H' => fcSt st.tmps o.dst r H' N
 | .insert t m k x => fc (evO st.tmps k) fun k' => fc (evO st.tmps x) fun x' => mapSetA TY t (evO st.tmps m) k' x' st.heap fun H' => fcSt st.tmps o.dst .any H' N
 | op => opA TY (match o.dst with | some d => wr d | none => false) op st.tmps st.heap fun r H' => fcSt st.tmps o.dst r H' N
structure RelX (F : Nat → Obj → Prop) (ρ : Nat → Option Nat) (S : Nat → Prop) (st : St) (a : Act) (w : World) : Prop extends Rel ρ S st a w where
 sok : Sok F S w
def Reach (F : Nat → Obj → Prop) (ρ : Nat → Option Nat) (S : Nat → Prop) (w : World) (N : St → Prop) (a' : Act) (w' : World) : Prop := ∃ st' ρ' S', N st' ∧ RelX F ρ' S' st' a' w' ∧ Ext ρ S w ρ' S' w'
section
variable {F : Nat → Obj → Prop} {P : Program} {TY : TypeId → Option TI} {C : FuncId → Option Ctr} {wr : Tmp → Bool} {ρ : Nat → Option Nat} {S : Nat → Prop} {w : World}
theorem Rel.put {st : St} {a : Act} {H' : List Blk} {ρ' : Nat → Option Nat} {S' : Nat → Prop} {w' : World} (h : RelX F ρ S st a w) (hE : Ext ρ S w ρ' S' w') (hs : Sok F S' w') (hH : HRel ρ' S' w' H') {c : AV} {v : Value} (hv : V ρ' S' w' c v) (dst : Option Tmp) :
  RelX F ρ' S' ⟨Vc.put st.tmps dst c, H'⟩ (a.put dst v) w' := by
 cases dst with
 | none => exact ⟨⟨h.defers, h.tmps.mono hE, hH⟩, hs⟩
 | some d => exact ⟨⟨h.defers, (h.tmps.mono hE).set hv d, hH⟩, hs⟩
theorem stepE_sound (hTY : TyOk P TY) (hC : CtrOk F P C) (o : Oper) {st : St} {a : Act} (hR : RelX F ρ S st a w) {N : St → Prop} {Q : Exit → Act → World → Prop} (h : stepE TY C wr o st N) :
  o.wp P a w (Reach F ρ S w N) Q := by
 have plain : ∀ (M : AV → List Blk → Prop), (∀ r H', M r H' → N ⟨Vc.put st.tmps o.dst r, H'⟩) → OpOk P ρ S w (execOp a.eval o) M → o.wp P a w (Reach F ρ S w N) Q := by
  intro M hM hok
  obtain ⟨v, w', c, H', ρ', h1, h2, h3, h4, h5⟩ := hok
  have hs' : Sok F S w' := hR.sok.still h5
  unfold Oper.wp
  rcases h1 with h1 | ⟨h1, rfl⟩
  ·rw [h1]
   exact ⟨_, ρ', S, hM _ _ h2, Rel.put hR h5 hs' h4 h3 _, h5⟩
  ·rw [h1]
   exact ⟨_, ρ', S, hM _ _ h2, Rel.put hR h5 hs' h4 h3 _, h5⟩
 unfold stepE at h
 simp only [fcSt_eq, fcP_eq, fc_eq] at h
 split at h
 ·rename_i c hop
  split at h
  ·rename_i f hf
   split at h
   ·rename_i g caps hg
    split at h
    ·rename_i K hK
     obtain ⟨hent, hgood⟩ := hC g K hK
     have hfv := hR.tmps.eval f
     rw [hg] at hfv
     cases hev : a.eval f <;> rw [hev] at hfv <;> cases hfv
     rename_i vs hl hv
     have hrun : (execOp a.eval o).run P w = .ok (.enter g (c.args.map a.eval ++ vs)) w := by
      unfold execOp
      rw [hop]
      simp only [resolve, hf, hev, Deferred.ofValue, Sem.run_bind, Sem.run_pure, Result.andThen_ok, invoke, Array.empty_append]
      exact hent _ w
     unfold Oper.wp
     rw [hrun, Oper.upon_enter]
     refine (hgood ρ S w st.heap _ _ _ hR.sok hR.heap ⟨by simp [hl], fun i c' v' hc' hv' => ?_⟩ h).mono ?_
     ·by_cases hlt : i < c.args.size
      ·rw [List.getElem?_append_left (by simpa using hlt), List.getElem?_map] at hc'
       rw [Array.getElem?_append_left (by simpa using hlt), Array.getElem?_map] at hv'
       rw [show c.args.toList[i]? = c.args[i]? by simp] at hc'
       cases hi : c.args[i]? with
       | none => rw [hi] at hc'; cases hc'
       | some x =>
        rw [hi] at hc' hv'
        cases hc'; cases hv'
        exact hR.tmps.eval x
      ·rw [List.getElem?_append_right (by simp; omega)] at hc'
       rw [Array.getElem?_append_right (by simp; omega)] at hv'
       simp only [List.length_map, Array.length_toList] at hc'
       simp only [Array.size_map] at hv'
       exact hv _ _ _ hc' hv'
     ·rintro e w' ⟨v, c', H', ρ', S', rfl, hN, hv', hH', hE, hs'⟩
      exact ⟨_, ρ', S', hN, Rel.put hR hE hs' hH' hv' _, hE⟩
    ·exact h.elim
   ·exact h.elim
  ·rename_i b hb
   refine plain _ (fun r H' hh => hh) (opA_sound hTY hR.sok.lt hR.heap hR.tmps (wr := false) o (N := fun r H' => N ⟨Vc.put st.tmps o.dst r, H'⟩) ?_)
   rw [hop]
   simp only [opA, hb]
   exact h
  ·exact h.elim
 ·rename_i hop
  exact plain _ (fun r H' hh => hh) (opA_sound hTY hR.sok.lt hR.heap hR.tmps (wr := false) o (N := fun r H' => N ⟨Vc.put st.tmps o.dst r, H'⟩) (by rw [hop]; simp only [opA]; exact h))
 ·rename_i hop
  exact plain _ (fun r H' hh => hh) (opA_sound hTY hR.sok.lt hR.heap hR.tmps (wr := false) o (N := fun r H' => N ⟨Vc.put st.tmps o.dst r, H'⟩) (by rw [hop]; simp only [opA]; exact h))
 ·exact plain _ (fun r H' hh => hh) (opA_sound hTY hR.sok.lt hR.heap hR.tmps o (N := fun r H' => N ⟨Vc.put st.tmps o.dst r, H'⟩) h)
def tmpOf (ops : Array Oper) (j : Nat) : Option Tmp := (ops[j]?).bind (·.dst)
def regE (TY : TypeId → Option TI) (C : FuncId → Option Ctr) (wr : Tmp → Bool) (ops : Array Oper) : List Oper → St → (St → Prop) → Prop
 | [], st, Q => Q st
 | o :: rest, st, Q =>
  match o.guard with
  | none => stepE TY C wr o st fun st' => regE TY C wr ops rest st' Q
  | some (j, want) => match tmpOf ops j with
   | none => False
   | some t => match st.tmps[t]? with
    | some (.bool b) => (match b with
     | true => (match want with
      | true => setF (fun ts => stepE TY C wr o ⟨ts, st.heap⟩ fun st' => regE TY C wr ops rest st' Q) (.bool true) st.tmps t
      | false => fcSt (st.tmps.set t (.bool true)) o.dst (.tup []) st.heap fun st' => regE TY C wr ops rest st' Q)
     | false => (match want with
      | false => setF (fun ts => stepE TY C wr o ⟨ts, st.heap⟩ fun st' => regE TY C wr ops rest st' Q) (.bool false) st.tmps t
      | true => fcSt (st.tmps.set t (.bool false)) o.dst (.tup []) st.heap fun st' => regE TY C wr ops rest st' Q))
    | some (.tup cs) => (match cs with
     | [] => fcSt (st.tmps.set t (.tup [])) o.dst (.tup []) st.heap fun st' => regE TY C wr ops rest st' Q
     | _ => False)
    | _ => False
theorem set_same {α : Type} {l : List α} {t : Nat} {x : α} (h : l[t]? = some x) : l.set t x = l := by
 apply List.ext_getElem?
 intro i
 rw [List.getElem?_set]
 split
 ·rename_i hti
  subst hti
  split
  ·exact h.symm
  ·rename_i hn
   rw [List.getElem?_eq_none (by omega)] at h; cases h
 ·rfl
theorem Reach.trans {N : St → Prop} {ρ1 : Nat → Option Nat} {S1 : Nat → Prop} {w1 : World} (hE : Ext ρ S w ρ1 S1 w1) {a' : Act} {w' : World} (h : Reach F ρ1 S1 w1 N a' w') : Reach F ρ S w N a' w' := by
 obtain ⟨st', ρ', S', h1, h2, h3⟩ := h
 exact ⟨st', ρ', S', h1, h2, hE.trans h3⟩
theorem yielded_tmp {ops : Array Oper} {j t : Nat} {b : Bool} {ts : List AV} {tm : Array Value} (ht : tmpOf ops j = some t) (h : TRel ρ S w ts tm) (hb : ts[t]? = some (.bool b)) : yielded ops tm j = some b := by
 have hlt : t < tm.size := by
  rw [← h.1]
  rcases Nat.lt_or_ge t ts.length with h' | h'
  ·exact h'
  ·rw [List.getElem?_eq_none h'] at hb; cases hb
 have hv := h.2 t _ tm[t] hb (by simp [hlt])
 have := hv.boolR
 unfold yielded
 unfold tmpOf at ht
 rw [ht]
 simp [hlt, this]
theorem undef_tup {v : Value} (h : V ρ S w (.tup []) v) : v = undef := by
 cases h with
 | tup _ vs hl _ =>
  have : vs.size = 0 := by simpa using hl.symm
  rw [Array.eq_empty_of_size_eq_zero this]; rfl
theorem yielded_none {ops : Array Oper} {j t : Nat} {ts : List AV} {tm : Array Value} (ht : tmpOf ops j = some t) (h : TRel ρ S w ts tm) (hb : ts[t]? = some (.tup [])) : yielded ops tm j = none := by
 have hlt : t < tm.size := by
  rw [← h.1]
  rcases Nat.lt_or_ge t ts.length with h' | h'
  ·exact h'
  ·rw [List.getElem?_eq_none h'] at hb; cases hb
 have := undef_tup (h.2 t _ tm[t] hb (by simp [hlt]))
 unfold yielded
 unfold tmpOf at ht
 rw [ht]
 simp [hlt, this, undef]
theorem regE_sound (hTY : TyOk P TY) (hC : CtrOk F P C) (ops : Array Oper) {N : St → Prop} {Q : Exit → Act → World → Prop} : ∀ (l : List Oper) {ρ : Nat → Option Nat} {S : Nat → Prop} {w : World} {st : St} {a : Act}, RelX F ρ S st a w →
  (∀ a' w', Reach F ρ S w N a' w' → Q .normal a' w') → regE TY C wr ops l st N → wpList P ops Q l a w
 | [], ρ, S, w, st, a, hR, hQ, h => wpList_nil (hQ a w ⟨st, ρ, S, h, hR, Ext.refl _ _ _⟩)
 | o :: rest, ρ, S, w, st, a, hR, hQ, h => by
  have go : ∀ (st1 : St), RelX F ρ S st1 a w → stepE TY C wr o st1 (fun st' => regE TY C wr ops rest st' N) → o.wp P a w (wpList P ops Q rest) Q := by
   intro st1 hR1 hs
   refine Oper.wp_mono (fun a' w' hr => ?_) (stepE_sound (Q := Q) hTY hC o hR1 hs)
   obtain ⟨st', ρ', S', h1, h2, h3⟩ := hr
   exact regE_sound hTY hC ops rest h2 (fun a2 w2 h4 => hQ a2 w2 (h4.trans h3)) h1
  have skip : ∀ (st1 : St), RelX F ρ S st1 a w → regE TY C wr ops rest ⟨Vc.put st1.tmps o.dst (.tup []), st1.heap⟩ N → wpList P ops Q rest (a.put o.dst undef) w := by
   intro st1 hR1 hs
   exact regE_sound hTY hC ops rest (Rel.put hR1 (Ext.refl _ _ _) hR1.sok hR1.heap (.tup _ _ rfl (fun i c v hc => by simp at hc)) _) hQ hs
  rw [regE] at h
  simp only [fcSt_eq, setF_eq] at h
  unfold wpList
  cases hg : o.guard with
  | none =>
   rw [hg] at h
   rw [if_pos (by simp [Region.wanted, hg])]
   exact .inl (go st hR h)
  | some jw =>
   obtain ⟨j, want⟩ := jw
   rw [hg] at h
   simp only at h
   split at h
   ·exact h.elim
   ·rename_i t ht
    split at h
    ·rename_i b hb
     have hy := yielded_tmp ht hR.tmps hb
     split at h
     ·rw [set_same hb] at h
      split at h
      ·rw [if_pos (by simp [Region.wanted, hg, hy])]
       exact .inl (go st hR h)
      ·rw [if_neg (by simp [Region.wanted, hg, hy])]
       exact skip st hR h
     ·rw [set_same hb] at h
      split at h
      ·rw [if_pos (by simp [Region.wanted, hg, hy])]
       exact .inl (go st hR h)
      ·rw [if_neg (by simp [Region.wanted, hg, hy])]
       exact skip st hR h
    ·rename_i cs hb
     split at h
     ·rw [set_same hb] at h
      have hy := yielded_none ht hR.tmps hb
      rw [if_neg (by simp [Region.wanted, hg, hy])]
      exact skip st hR h
     ·exact h.elim
    ·exact h.elim
end
end Go.Vc
namespace Go.Vc
open Go
mutual
def AV.under (n : Nat) : AV → Bool
 | .ptr id _ => decide (id < n)
 | .eptr id _ _ _ => decide (id < n)
 | .osl id _ _ _ _ => decide (id < n)
 | .map id => decide (id < n)
 | .iter id => decide (id < n)
 | .agg cs => underL n cs
 | .tup cs => underL n cs
 | .fn _ cs => underL n cs
 | .iface _ v => v.under n
 | _ => true
def underL (n : Nat) : List AV → Bool
 | [] => true
 | c :: cs => c.under n && underL n cs
end
mutual
def AV.flat : AV → Bool
 | .ptr .. => false
 | .eptr .. => false
 | .rptr .. => false
 | .sl .. => false
 | .osl .. => false
 | .map _ => false
 | .iter _ => false
 | .agg cs => flatL cs
 | .tup cs => flatL cs
 | .fn _ cs => flatL cs
 | .iface _ v => v.flat
 | _ => true
def flatL : List AV → Bool
 | [] => true
 | c :: cs => c.flat && flatL cs
end
theorem underL_get {n : Nat} : ∀ {cs : List AV}, underL n cs = true → ∀ (i : Nat) (c : AV), cs[i]? = some c → c.under n = true
 | [], _, i, c, h => by simp at h
 | x :: xs, hb, i, c, h => by
  rw [underL, Bool.and_eq_true] at hb
  cases i with
  | zero => simp at h; subst h; exact hb.1
  | succ i => simp at h; exact underL_get hb.2 i c h
theorem flatL_get : ∀ {cs : List AV}, flatL cs = true → ∀ (i : Nat) (c : AV), cs[i]? = some c → c.flat = true
 | [], _, i, c, h => by simp at h
 | x :: xs, hb, i, c, h => by
  rw [flatL, Bool.and_eq_true] at hb
  cases i with
  | zero => simp at h; subst h; exact hb.1
  | succ i => simp at h; exact flatL_get hb.2 i c h
section
variable {ρ : Nat → Option Nat} {S : Nat → Prop} {w : World}
theorem V.other {a : AV} {v : Value} (h : V ρ S w a v) : ∀ {n : Nat} {ρ' : Nat → Option Nat}, a.under n = true → (∀ i b, i < n → ρ i = some b → ρ' i = some b) → V ρ' S w a v := by
 induction h with
 | any v => exact fun _ _ => .any v
 | bool b => exact fun _ _ => .bool b
 | int k n h1 h2 => exact fun _ _ => .int k n h1 h2
 | str l s h1 h2 => exact fun _ _ => .str l s h1 h2
 | nilp => exact fun _ _ => .nilp
 | ptr id j b hb => exact fun hn h => .ptr id j b (h _ _ (by simpa [AV.under] using hn) hb)
 | eptr id sz e j b hb => exact fun hn h => .eptr id sz e j b (h _ _ (by simpa [AV.under] using hn) hb)
 | rptr cs j b o f hs hb hc hv _ => exact fun _ _ => .rptr cs j b o f hs hb hc hv
 | nilsl => exact fun _ _ => .nilsl
 | sln clip sz get ao => exact fun _ _ => .sln clip sz get ao
 | sl clip sz len get b o cap f hs hl hm hcl hz hc hv _ => exact fun _ _ => .sl clip sz len get b o cap f hs hl hm hcl hz hc hv
 | osl id sz off len cap b o cp hb hl hm ho hx hcap => exact fun hn h => .osl id sz off len cap b o cp (h _ _ (by simpa [AV.under] using hn) hb) hl hm ho hx hcap
 | agg cs vs hl _ ih => exact fun hn h => .agg cs vs hl fun i c v hc hv => ih i c v hc hv (underL_get (by simpa [AV.under] using hn) i c hc) h
 | tup cs vs hl _ ih => exact fun hn h => .tup cs vs hl fun i c v hc hv => ih i c v hc hv (underL_get (by simpa [AV.under] using hn) i c hc) h
 | fn f cs vs hl _ ih => exact fun hn h => .fn f cs vs hl fun i c v hc hv => ih i c v hc hv (underL_get (by simpa [AV.under] using hn) i c hc) h
 | nilfn => exact fun _ _ => .nilfn
 | nilmap => exact fun _ _ => .nilmap
 | map id b hb => exact fun hn h => .map id b (h _ _ (by simpa [AV.under] using hn) hb)
 | nilif => exact fun _ _ => .nilif
 | iface t v a _ ih => exact fun hn h => .iface t v a (ih (by simpa [AV.under] using hn) h)
 | iter id b hb => exact fun hn h => .iter id b (h _ _ (by simpa [AV.under] using hn) hb)
theorem V.pure {a : AV} {v : Value} (h : V ρ S w a v) (hb : a.under 0 = true) : V (fun _ => none) S w a v := h.other hb fun i b hi => (by omega)
theorem V.flatR {a : AV} {v : Value} (h : V ρ S w a v) : ∀ {ρ' : Nat → Option Nat} {S' : Nat → Prop} {w' : World}, a.flat = true → V ρ' S' w' a v := by
 induction h with
 | any v => exact fun _ => .any v
 | bool b => exact fun _ => .bool b
 | int k n h1 h2 => exact fun _ => .int k n h1 h2
 | str l s h1 h2 => exact fun _ => .str l s h1 h2
 | nilp => exact fun _ => .nilp
 | ptr id j b hb => exact fun hn => (by simp [AV.flat] at hn)
 | eptr id sz e j b hb => exact fun hn => (by simp [AV.flat] at hn)
 | rptr cs j b o f hs hb hc hv _ => exact fun hn => (by simp [AV.flat] at hn)
 | nilsl => exact fun _ => .nilsl
 | sln clip sz get ao => exact fun hn => (by simp [AV.flat] at hn)
 | sl clip sz len get b o cap f hs hl hm hcl hz hc hv _ => exact fun hn => (by simp [AV.flat] at hn)
 | osl id sz off len cap b o cp hb hl hm ho hx hcap => exact fun hn => (by simp [AV.flat] at hn)
 | agg cs vs hl _ ih => exact fun hn => .agg cs vs hl fun i c v hc hv => ih i c v hc hv (flatL_get (by simpa [AV.flat] using hn) i c hc)
 | tup cs vs hl _ ih => exact fun hn => .tup cs vs hl fun i c v hc hv => ih i c v hc hv (flatL_get (by simpa [AV.flat] using hn) i c hc)
 | fn f cs vs hl _ ih => exact fun hn => .fn f cs vs hl fun i c v hc hv => ih i c v hc hv (flatL_get (by simpa [AV.flat] using hn) i c hc)
 | nilfn => exact fun _ => .nilfn
 | nilmap => exact fun _ => .nilmap
 | map id b hb => exact fun hn => (by simp [AV.flat] at hn)
 | nilif => exact fun _ => .nilif
 | iface t v a _ ih => exact fun hn => .iface t v a (ih (by simpa [AV.flat] using hn))
 | iter id b hb => exact fun hn => (by simp [AV.flat] at hn)
end
mutual
def leA (σ : Nat → Nat) : AV → AV → Prop
 | .agg cs, y => (match y with | .any => True | .agg ds => leL σ cs ds | _ => False)
 | .tup cs, y => (match y with | .any => True | .tup ds => leL σ cs ds | _ => False)
 | .fn f cs, y => (match y with | .any => True | .fn g ds => f = g ∧ leL σ cs ds | _ => False)
 | .iface t v, y => (match y with | .any => True | .iface t' v' => t = t' ∧ leA σ v v' | _ => False)
 | .rptr cs j, y => (match y with | .any => True | .rptr ds k => cs = ds ∧ j = k | _ => False)
 | .sl c z l g, y => (match y with | .any => True | .sl c' z' l' g' => z = z' ∧ l = l' ∧ (c' = true → c = true) ∧ ∀ e, e < l → g e = g' e | _ => False)
 | .nilsl, y => (match y with | .any => True | .nilsl => True | .sl _ _ l _ => l = 0 | _ => False)
 | .osl id z o l cap, y => (match y with | .any => True | .osl id' z' o' l' cap' => id = σ id' ∧ z = z' ∧ o = o' ∧ l = l' ∧ (cap' = none ∨ cap = cap') | _ => False)
 | .ptr id j, y => (match y with | .any => True | .ptr id' j' => id = σ id' ∧ j = j' | _ => False)
 | .eptr id sz e j, y => (match y with | .any => True | .eptr id' sz' e' j' => id = σ id' ∧ sz = sz' ∧ e = e' ∧ j = j' | _ => False)
 | .map id, y => (match y with | .any => True | .map id' => id = σ id' | _ => False)
 | .iter id, y => (match y with | .any => True | .iter id' => id = σ id' | _ => False)
 | .int k n, y => (match y with | .any => True | .int k' n' => k = k' ∧ n = n' | _ => False)
 | .str l, y => (match y with | .any => True | .str l' => l = l' | _ => False)
 | .bool b, y => (match y with | .any => True | .bool b' => b = b' | _ => False)
 | .any, y => (match y with | .any => True | _ => False)
 | .nilp, y => (match y with | .any => True | .nilp => True | _ => False)
 | .nilfn, y => (match y with | .any => True | .nilfn => True | _ => False)
 | .nilmap, y => (match y with | .any => True | .nilmap => True | _ => False)
 | .nilif, y => (match y with | .any => True | .nilif => True | _ => False)
def leL (σ : Nat → Nat) : List AV → List AV → Prop
 | [], ds => (match ds with | [] => True | _ => False)
 | c :: cs, ds => (match ds with | d :: ds => leA σ c d ∧ leL σ cs ds | [] => False)
end
theorem leL_length {σ : Nat → Nat} : ∀ {cs ds : List AV}, leL σ cs ds → cs.length = ds.length
 | [], [], _ => rfl
 | [], _ :: _, h => by simp [leL] at h
 | _ :: _, [], h => by simp [leL] at h
 | c :: cs, d :: ds, h => by
  simp only [leL] at h
  simp [leL_length h.2]
theorem leL_get {σ : Nat → Nat} : ∀ {cs ds : List AV}, leL σ cs ds → ∀ (i : Nat) (c d : AV), cs[i]? = some c → ds[i]? = some d → leA σ c d
 | [], _, _, i, c, d, h, _ => by simp at h
 | _ :: _, [], h, _, _, _, _, _ => by simp [leL] at h
 | x :: xs, y :: ys, h, i, c, d, hc, hd => by
  simp only [leL] at h
  cases i with
  | zero => simp at hc hd; subst hc; subst hd; exact h.1
  | succ i => simp at hc hd; exact leL_get h.2 i c d hc hd
section
variable {ρ : Nat → Option Nat} {S : Nat → Prop} {w : World}
theorem V.le {σ : Nat → Nat} {n : Nat} {ρ' : Nat → Option Nat} (hσ : ∀ i b, i < n → ρ (σ i) = some b → ρ' i = some b) {x : AV} {v : Value} (h : V ρ S w x v) :
  ∀ {y : AV}, leA σ x y → y.under n = true → V ρ' S w y v := by
 have lst : ∀ (cs : List AV) (vs : Array Value), cs.length = vs.size → (∀ (i : Nat) (c : AV) (v : Value), cs[i]? = some c → vs[i]? = some v → ∀ {y : AV}, leA σ c y → y.under n = true → V ρ' S w y v) →
   ∀ ds, leL σ cs ds → underL n ds = true → ds.length = vs.size ∧ ∀ (i : Nat) (d : AV) (v : Value), ds[i]? = some d → vs[i]? = some v → V ρ' S w d v := by
  intro cs vs hl ih ds hle hb
  have h1 := leL_length hle
  refine ⟨by omega, fun i d v hd hv => ?_⟩
  have hi : i < cs.length := by
   rcases Nat.lt_or_ge i ds.length with h' | h'
   ·omega
   ·rw [List.getElem?_eq_none h'] at hd; cases hd
  exact ih i cs[i] v (List.getElem?_eq_getElem hi) hv (leL_get hle i _ _ (List.getElem?_eq_getElem hi) hd) (underL_get hb i d hd)
 induction h <;> intro y hle hb <;> (cases y <;> simp only [leA] at hle <;> first | exact hle.elim | exact .any _ | skip)
 case bool.bool => subst hle; exact .bool _
 case int.int h1 h2 k n => obtain ⟨rfl, rfl⟩ := hle; exact .int _ _ h1 h2
 case str.str h1 h2 l => subst hle; exact .str _ _ h1 h2
 case nilp.nilp => exact .nilp
 case ptr.ptr hb' id' j' => obtain ⟨rfl, rfl⟩ := hle; exact .ptr _ _ _ (hσ _ _ (by simpa [AV.under] using hb) hb')
 case eptr.eptr hb' id' sz' e' j' => obtain ⟨rfl, rfl, rfl, rfl⟩ := hle; exact .eptr _ _ _ _ _ (hσ _ _ (by simpa [AV.under] using hb) hb')
 case rptr.rptr hs hb' hc hv _ ds k => obtain ⟨rfl, rfl⟩ := hle; exact .rptr _ _ _ _ _ hs hb' hc hv
 case nilsl.nilsl => exact .nilsl
 case nilsl.sl c z l g => subst hle; exact .sln _ _ _ _
 case sln.sl clip sz get c' z' l' g' => obtain ⟨_, rfl, _⟩ := hle; exact .sln _ _ _ _
 case sl.sl hs hl hm hcl hz hc hv _ c' z' l' g' =>
  obtain ⟨rfl, rfl, h1, h2⟩ := hle
  refine .sl _ _ _ _ _ _ _ _ hs hl hm (fun h => hcl (h1 h)) (fun e he => by rw [← h2 e he]; exact hz e he) hc (fun e j c he hc' => hv e j c he (by rw [h2 e he]; exact hc'))
 case osl.osl hb' hl hm ho hx hcap id' z' o' l' cap' =>
  obtain ⟨rfl, rfl, rfl, rfl, h5⟩ := hle
  refine .osl _ _ _ _ _ _ _ _ (hσ _ _ (by simpa [AV.under] using hb) hb') hl hm ho hx (fun c hc => ?_)
  rcases h5 with rfl | rfl
  ·cases hc
  ·exact hcap c hc
 case agg.agg cs vs hl hv ih ds =>
  obtain ⟨h1, h2⟩ := lst cs vs hl (fun i c v hc hv => ih i c v hc hv hσ) ds hle (by simpa [AV.under] using hb)
  exact .agg _ _ h1 h2
 case tup.tup cs vs hl hv ih ds =>
  obtain ⟨h1, h2⟩ := lst cs vs hl (fun i c v hc hv => ih i c v hc hv hσ) ds hle (by simpa [AV.under] using hb)
  exact .tup _ _ h1 h2
 case fn.fn f cs vs hl hv ih g ds =>
  obtain ⟨rfl, hle⟩ := hle
  obtain ⟨h1, h2⟩ := lst cs vs hl (fun i c v hc hv => ih i c v hc hv hσ) ds hle (by simpa [AV.under] using hb)
  exact .fn _ _ _ h1 h2
 case nilfn.nilfn => exact .nilfn
 case nilmap.nilmap => exact .nilmap
 case map.map hb' id' => subst hle; exact .map _ _ (hσ _ _ (by simpa [AV.under] using hb) hb')
 case nilif.nilif => exact .nilif
 case iface.iface ih t' v' => obtain ⟨rfl, hle⟩ := hle; exact .iface _ _ _ (ih hσ hle (by simpa [AV.under] using hb))
 case iter.iter hb' id' => subst hle; exact .iter _ _ (hσ _ _ (by simpa [AV.under] using hb) hb')
end
end Go.Vc
namespace Go.Vc
open Go
def sig (n0 : Nat) (l : List Nat) (i : Nat) : Nat := match decide (i < n0) with
 | true => i
 | false => l.getD (i - n0) i
def leES (σ : Nat → Nat) (n : Nat) : List (AV × AV) → List (AV × AV) → Prop
 | [], [] => True
 | p :: es, q :: fs => leA σ p.1 q.1 ∧ (q.1.under n = true ∧ (leA σ p.2 q.2 ∧ (q.2.under n = true ∧ leES σ n es fs)))
 | _, _ => False
theorem leES_get {σ : Nat → Nat} {n : Nat} : ∀ {es fs : List (AV × AV)}, leES σ n es fs → es.length = fs.length ∧ ∀ (i : Nat) (p q : AV × AV), es[i]? = some p → fs[i]? = some q → (leA σ p.1 q.1 ∧ q.1.under n = true) ∧ (leA σ p.2 q.2 ∧ q.2.under n = true)
 | [], [], _ => ⟨rfl, fun i p q h => by simp at h⟩
 | p :: es, q :: fs, h => by
  obtain ⟨a1, a2, a3, a4, a5⟩ := h
  obtain ⟨h1, h2⟩ := leES_get a5
  refine ⟨by simp [h1], fun i p' q' hp hq => ?_⟩
  cases i with
  | zero => simp at hp hq; subst hp; subst hq; exact ⟨⟨a1, a2⟩, a3, a4⟩
  | succ i => exact h2 i p' q' (by simpa using hp) (by simpa using hq)
 | [], _ :: _, h => h.elim
 | _ :: _, [], h => h.elim
def leBlk (σ : Nat → Nat) (n : Nat) : Blk → Blk → Prop
 | .var cs T, y => (match y with | .dead => True | .var ds T' => (match T' with | none => leL σ cs ds ∧ underL n ds = true | some t => leL σ cs ds ∧ (underL n ds = true ∧ T = some t)) | _ => False)
 | .row sz len get T, y => (match y with | .dead => True | .row sz' len' get' T' => (match T' with | none => sz = sz' ∧ len' ≤ len ∧ ∀ e, e < len' → get e = get' e ∧ underL 0 (get' e) = true | some t => (sz = sz' ∧ len' ≤ len ∧ ∀ e, e < len' → get e = get' e ∧ underL 0 (get' e) = true) ∧ T = some t) | _ => False)
 | .iter s p, y => (match y with | .dead => True | .iter s' p' => s = s' ∧ p = p' | _ => False)
 | .map es, y => (match y with | .dead => True | .map es' => leES σ n es es' | _ => False)
 | .dead, y => (match y with | .dead => True | _ => False)
def leH (σ : Nat → Nat) (n : Nat) (H : List Blk) : Nat → List Blk → Prop
 | _, [] => True
 | i, b :: bs => (match b with
  | .dead => leH σ n H (i + 1) bs
  | b => (match H[σ i]? with | some x => leBlk σ n x b ∧ leH σ n H (i + 1) bs | none => False))
def imgs (σ : Nat → Nat) : Nat → List Blk → List Nat
 | _, [] => []
 | i, b :: bs => (match b with | .dead => imgs σ (i + 1) bs | _ => σ i :: imgs σ (i + 1) bs)
def nodupB : List Nat → Bool
 | [] => true
 | x :: xs => !xs.contains x && nodupB xs
def headT (n : Nat) (keep : List Nat) (vs : List AV) : List AV := (keep.zip vs).foldl (fun ts p => ts.set p.1 p.2) (List.replicate n .any)
def leHead (n0 : Nat) (l : List Nat) (st : St) (keep : List Nat) (vs : List AV) (hp : List Blk) : Prop :=
 (nodupB (imgs (sig n0 l) 0 hp) = true ∧ n0 ≤ hp.length ∧ underL hp.length vs = true) ∧ leL (sig n0 l) (keep.map fun t => st.tmps.getD t .any) vs ∧ leH (sig n0 l) hp.length st.heap 0 hp
theorem nodupB_spec {l : List Nat} (h : nodupB l = true) : l.Nodup := by
 induction l with
 | nil => exact List.nodup_nil
 | cons x xs ih =>
  rw [nodupB, Bool.and_eq_true] at h
  rw [List.nodup_cons]
  exact ⟨by simpa using h.1, ih h.2⟩
theorem leH_get {σ : Nat → Nat} {n : Nat} {H : List Blk} : ∀ {i : Nat} {bs : List Blk}, leH σ n H i bs → ∀ (k : Nat) (b : Blk), bs[k]? = some b → b.live = true → ∃ x, H[σ (i + k)]? = some x ∧ leBlk σ n x b
 | _, [], _, k, b, h, _ => by simp at h
 | i, b0 :: bs, hle, k, b, h, hl => by
  cases k with
  | zero =>
   simp at h; subst h
   cases b0 <;> simp only [leH] at hle <;> first | (cases hl; done) | (split at hle <;> first | exact ⟨_, by assumption, hle.1⟩ | exact hle.elim)
  | succ k =>
   have : leH σ n H (i + 1) bs := by
    cases b0 <;> simp only [leH] at hle <;> first | exact hle | (split at hle <;> first | exact hle.2 | exact hle.elim)
   have := leH_get this k b (by simpa using h) hl
   rw [show i + (k + 1) = i + 1 + k by omega]
   exact this
theorem imgs_mem {σ : Nat → Nat} : ∀ {i : Nat} {bs : List Blk} (k : Nat) (b : Blk), bs[k]? = some b → b.live = true → σ (i + k) ∈ imgs σ i bs
 | _, [], k, b, h, _ => by simp at h
 | i, b0 :: bs, k, b, h, hl => by
  cases k with
  | zero =>
   simp at h; subst h
   cases b0 <;> first | (cases hl; done) | simp [imgs]
  | succ k =>
   have := imgs_mem (σ := σ) (i := i + 1) k b (by simpa using h) hl
   rw [show i + (k + 1) = i + 1 + k by omega]
   cases b0 <;> simp only [imgs] <;> first | exact this | exact List.mem_cons_of_mem _ this
theorem imgs_inj {σ : Nat → Nat} : ∀ {i : Nat} {bs : List Blk}, (imgs σ i bs).Nodup → ∀ (k k' : Nat) (b b' : Blk), bs[k]? = some b → bs[k']? = some b' → b.live = true → b'.live = true → σ (i + k) = σ (i + k') → k = k'
 | _, [], _, k, _, b, _, h, _, _, _, _ => by simp at h
 | i, b0 :: bs, hn, k, k', b, b', h, h', hl, hl', he => by
  have rest : (imgs σ (i + 1) bs).Nodup := by
   cases b0 <;> simp only [imgs] at hn <;> first | exact hn | exact (List.nodup_cons.1 hn).2
  have zero : ∀ (k : Nat) (b b' : Blk), b0 = b → bs[k]? = some b' → b.live = true → b'.live = true → σ i = σ (i + (k + 1)) → False := by
   intro k b b' e h' hl hl' he
   subst e
   have hm := imgs_mem (σ := σ) (i := i + 1) k b' h' hl'
   rw [show i + 1 + k = i + (k + 1) by omega, ← he] at hm
   cases b0 <;> simp only [imgs] at hn <;> first | (cases hl; done) | exact (List.nodup_cons.1 hn).1 hm
  cases k with
  | zero => cases k' with
   | zero => rfl
   | succ k' => exact (zero k' b b' (by simpa using h) (by simpa using h') hl hl' he).elim
  | succ k => cases k' with
   | zero => exact (zero k b' b (by simpa using h') (by simpa using h) hl' hl he.symm).elim
   | succ k' =>
    have := imgs_inj rest k k' b b' (by simpa using h) (by simpa using h') hl hl' (by rw [show i + 1 + k = i + (k + 1) by omega, show i + 1 + k' = i + (k' + 1) by omega]; exact he)
    omega
theorem headT_length (n : Nat) (keep : List Nat) (vs : List AV) : (headT n keep vs).length = n := by
 unfold headT
 have : ∀ (l : List (Nat × AV)) (ts : List AV), (l.foldl (fun ts p => ts.set p.1 p.2) ts).length = ts.length := by
  intro l
  induction l with
  | nil => intro ts; rfl
  | cons p l ih => intro ts; rw [List.foldl_cons, ih, List.length_set]
 rw [this]; simp
theorem headT_get {n : Nat} {keep : List Nat} {vs : List AV} {i : Nat} {c : AV} (h : (headT n keep vs)[i]? = some c) : c = .any ∨ ∃ k : Nat, keep[k]? = some i ∧ vs[k]? = some c := by
 unfold headT at h
 have : ∀ (l : List (Nat × AV)) (ts : List AV), (l.foldl (fun ts p => ts.set p.1 p.2) ts)[i]? = some c → ts[i]? = some c ∨ (i, c) ∈ l := by
  intro l
  induction l with
  | nil => intro ts h; exact .inl h
  | cons p l ih =>
   intro ts h
   rw [List.foldl_cons] at h
   rcases ih _ h with h1 | h1
   ·rw [List.getElem?_set] at h1
    split at h1
    ·rename_i hp
     split at h1
     ·cases h1; exact .inr (by rw [← hp]; exact List.mem_cons_self)
     ·cases h1
    ·exact .inl h1
   ·exact .inr (List.mem_cons_of_mem _ h1)
 rcases this _ _ h with h1 | h1
 ·rw [List.getElem?_replicate] at h1
  split at h1
  ·cases h1; exact .inl rfl
  ·cases h1
 ·obtain ⟨k, hk⟩ := List.getElem?_of_mem h1
  rw [List.getElem?_zip_eq_some] at hk
  exact .inr ⟨k, hk.1, hk.2⟩
section
variable {F : Nat → Obj → Prop} {P : Program} {TY : TypeId → Option TI} {ρ : Nat → Option Nat} {S : Nat → Prop} {w : World}
def subρ (ρ : Nat → Option Nat) (σ : Nat → Nat) (n : Nat) : Nat → Option Nat := fun i => if i < n then ρ (σ i) else none
theorem BRel.le {σ : Nat → Nat} {n i : Nat} {x y : Blk} (hi : i < n) (h : BRel ρ S w (σ i) x) (hle : leBlk σ n x y) : BRel (subρ ρ σ n) S w i y := by
 have hσ : ∀ i b, i < n → ρ (σ i) = some b → subρ ρ σ n i = some b := fun i b hi h => by unfold subρ; rw [if_pos hi]; exact h
 have back : ∀ b, subρ ρ σ n i = some b → ρ (σ i) = some b := fun b h => by unfold subρ at h; rw [if_pos hi] at h; exact h
 cases x <;> cases y <;> simp only [leBlk] at hle <;> first | exact hle.elim | exact trivial | skip
 case var.var cs T ds T' =>
  have hT : ∀ x, ∃ x', tyOr T' x' = tyOr T x := fun x => by
   cases T' with
   | none => exact ⟨_, rfl⟩
   | some t => rw [hle.2.2]; exact ⟨0, rfl⟩
  have hle : leL σ cs ds ∧ underL n ds = true := by
   cases T' with
   | none => exact hle
   | some t => exact ⟨hle.1, hle.2.1⟩
  intro b hb
  obtain ⟨h1, arr, T1, fr, h2, h3, h4, h5⟩ := h b (back b hb)
  have hl := leL_length hle.1
  obtain ⟨x', hx'⟩ := hT T1
  refine ⟨h1, arr, x', fr, by rw [hx']; exact h2, by omega, h4, fun j c v hc hv => ?_⟩
  have hj : j < cs.length := by
   rcases Nat.lt_or_ge j ds.length with h' | h'
   ·omega
   ·rw [List.getElem?_eq_none h'] at hc; cases hc
  exact (h5 j cs[j] v (List.getElem?_eq_getElem hj) hv).le hσ (leL_get hle.1 j _ _ (List.getElem?_eq_getElem hj) hc) (underL_get hle.2 j c hc)
 case row.row sz len get T sz' len' get' T' =>
  have hT : ∀ x, ∃ x', tyOr T' x' = tyOr T x := fun x => by
   cases T' with
   | none => exact ⟨_, rfl⟩
   | some t => rw [hle.2]; exact ⟨0, rfl⟩
  have hle : sz = sz' ∧ len' ≤ len ∧ ∀ e, e < len' → get e = get' e ∧ underL 0 (get' e) = true := by
   cases T' with
   | none => exact hle
   | some t => exact hle.1
  obtain ⟨rfl, hll, hg⟩ := hle
  intro b hb
  obtain ⟨h1, arr, T1, fr, h2, h3, h4, h5, h6⟩ := h b (back b hb)
  obtain ⟨x', hx'⟩ := hT T1
  refine ⟨h1, arr, x', fr, by rw [hx']; exact h2, Nat.le_trans (Nat.mul_le_mul_right _ hll) h3, h4, fun e he => by rw [← (hg e he).1]; exact h5 e (by omega), fun e j c v he hc hv => ?_⟩
  have h7 := h6 e j c v (by omega) (by rw [(hg e he).1]; exact hc) hv
  exact h7.other (underL_get (hg e he).2 j c hc) (fun i b hi => (by omega))
 case iter.iter s p s' p' =>
  obtain ⟨rfl, rfl⟩ := hle
  exact fun b hb => h b (back b hb)
 case map.map es fs =>
  obtain ⟨hlen, hp⟩ := leES_get hle
  intro b hb
  obtain ⟨h1, es', clock, h2, h3, h4⟩ := h b (back b hb)
  refine ⟨h1, es', clock, h2, by omega, fun i k x e hi he => ?_⟩
  have hlt : i < es.length := by
   have : i < fs.length := by
    rcases Nat.lt_or_ge i fs.length with h' | h'
    ·exact h'
    ·rw [List.getElem?_eq_none h'] at hi; cases hi
   omega
  obtain ⟨⟨g1, g2⟩, g3, g4⟩ := hp i es[i] (k, x) (List.getElem?_eq_getElem hlt) hi
  obtain ⟨h5, h6⟩ := h4 i es[i].1 es[i].2 e (List.getElem?_eq_getElem hlt) he
  exact ⟨h5.le hσ g1 g2, h6.le hσ g3 g4⟩
theorem rel_head {ρe : Nat → Option Nat} {Se : Nat → Prop} {we : World} {n0 : Nat} (hn : ∀ i b, ρe i = some b → i < n0) {st : St} {a : Act} (hE : Ext ρe Se we ρ S w) (hR : RelX F ρ S st a w)
  {l : List Nat} {keep : List Nat} {vs : List AV} {hp : List Blk} (h : leHead n0 l st keep vs hp) : ∃ ρ', RelX F ρ' S ⟨headT st.tmps.length keep vs, hp⟩ a w ∧ Ext ρe Se we ρ' S w := by
 obtain ⟨⟨h1, h2, h3⟩, h4, h5⟩ := h
 have hnd := nodupB_spec h1
 have hσ : ∀ i b, i < hp.length → ρ (sig n0 l i) = some b → subρ ρ (sig n0 l) hp.length i = some b := fun i b hi h => by unfold subρ; rw [if_pos hi]; exact h
 have back : ∀ i b, subρ ρ (sig n0 l) hp.length i = some b → i < hp.length ∧ ρ (sig n0 l i) = some b := fun i b h => by
  unfold subρ at h
  split at h
  ·exact ⟨by assumption, h⟩
  ·cases h
 refine ⟨subρ ρ (sig n0 l) hp.length, ⟨⟨hR.defers, ⟨by rw [headT_length]; exact hR.tmps.1, fun i c v hc hv => ?_⟩, ⟨fun i j bi bj b hi hj li lj ri rj => ?_, fun i b hi => ?_, fun i b hi => ?_⟩⟩, hR.sok⟩, ?_⟩
 ·rcases headT_get hc with rfl | ⟨k, hk1, hk2⟩
  ·exact .any _
  ·have hkv : k < vs.length := by
    rcases Nat.lt_or_ge k vs.length with h' | h'
    ·exact h'
    ·rw [List.getElem?_eq_none h'] at hk2; cases hk2
   have hx : (keep.map fun t => st.tmps.getD t .any)[k]? = some (st.tmps.getD i .any) := by rw [List.getElem?_map, hk1]; rfl
   refine V.le (x := st.tmps.getD i .any) hσ ?_ (leL_get h4 k _ _ hx hk2) (underL_get h3 k c hk2)
   have := hR.tmps.eval (.tmp i)
   have hev : a.eval (.tmp i) = v := by show a.tmps.getD i undef = v; rw [Array.getD_eq_getD_getElem?, hv]; rfl
   rw [hev] at this
   exact this
 ·obtain ⟨hlt, ri⟩ := back i b ri
  obtain ⟨hlt', rj⟩ := back j b rj
  obtain ⟨x, hx, hlx⟩ := leH_get h5 i bi hi li
  obtain ⟨y, hy, hly⟩ := leH_get h5 j bj hj lj
  rw [Nat.zero_add] at hx hy
  have hlv : ∀ (x y : Blk), leBlk (sig n0 l) hp.length x y → y.live = true → x.live = true := by
   intro x y hle hl
   cases x <;> cases y <;> first | rfl | (cases hl; done) | (simp only [leBlk] at hle; done) | exact hle.elim
  have := hR.heap.inj _ _ x y b hx hy (hlv _ _ hlx li) (hlv _ _ hly lj) ri rj
  exact imgs_inj hnd i j bi bj hi hj li lj (by rw [Nat.zero_add, Nat.zero_add]; exact this)
 ·have hlt : i < hp.length := by
   rcases Nat.lt_or_ge i hp.length with h' | h'
   ·exact h'
   ·rw [List.getElem?_eq_none h'] at hi; cases hi
  by_cases hl : b.live = true
  ·obtain ⟨x, hx, hlx⟩ := leH_get h5 i b hi hl
   rw [Nat.zero_add] at hx
   exact (hR.heap.blk _ _ hx).le hlt hlx
  ·cases b <;> first | exact trivial | exact absurd rfl hl
 ·obtain ⟨hlt, ri⟩ := back i b hi
  exact ⟨hlt, (hR.heap.out _ _ ri).2⟩
 ·refine ⟨fun i b hi => ?_, hE.st, hE.same, hE.size, hE.shp, fun i b hi => hE.fresh _ b (back i b hi).2, hE.stf, hE.os, hE.tape, hE.output⟩
  have := hn i b hi
  refine hσ i b (by omega) ?_
  have hs : sig n0 l i = i := by unfold sig; rw [decide_eq_true this]
  rw [hs]
  exact hE.rho i b hi
end
end Go.Vc
namespace Go.Vc
open Go
mutual
def frzE (H : List Blk) : AV → (AV → List Nat → Prop) → Prop
 | .osl id sz off len cap, K => (match H[id]? with
  | some (.row sz' L get _) => if sz = sz' then (off + len ≤ L ∧ ∀ e, e < len → underL 0 (get (off + e)) = true) ∧ K (.sl false sz len fun e => get (off + e)) [id] else False
  | _ => False)
 | .ptr id j, K => (match H[id]? with
  | some (.var cs _) => (match underL 0 cs with | true => K (.rptr cs j) [id] | false => False)
  | _ => False)
 | .eptr id sz e j, K => (match H[id]? with
  | some (.row sz' L get _) => if sz = sz' then (e < L ∧ underL 0 (get e) = true) ∧ K (.rptr (get e) j) [id] else False
  | _ => False)
 | .agg cs, K => frzL H cs fun cs' ids => K (.agg cs') ids
 | .tup cs, K => frzL H cs fun cs' ids => K (.tup cs') ids
 | .fn f cs, K => frzL H cs fun cs' ids => K (.fn f cs') ids
 | .iface t v, K => frzE H v fun v' ids => K (.iface t v') ids
 | .map _, _ => False
 | .iter _, _ => False
 | c, K => K c []
def frzL (H : List Blk) : List AV → (List AV → List Nat → Prop) → Prop
 | [], K => K [] []
 | c :: cs, K => frzE H c fun c' ids => frzL H cs fun cs' ids' => K (c' :: cs') (ids ++ ids')
end
def addS (ρ : Nat → Option Nat) (S : Nat → Prop) (ids : List Nat) : Nat → Prop := fun b => S b ∨ ∃ id, id ∈ ids ∧ ρ id = some b
def killL (H : List Blk) : List Nat → List Blk
 | [] => H
 | id :: ids => killL (H.set id .dead) ids
def liveIn (H : List Blk) (ids : List Nat) : Prop := ∀ id ∈ ids, ∃ b, H[id]? = some b ∧ b.live = true
section
variable {P : Program} {TY : TypeId → Option TI} {ρ : Nat → Option Nat} {S : Nat → Prop} {w : World}
theorem Ext0.stable {S' : Nat → Prop} (h : ∀ b, S b → S' b) : Ext0 ρ S w ρ S' w :=
 ⟨fun _ _ h => h, h, fun _ _ _ => rfl, Nat.le_refl _, fun _ arr _ fr h => ⟨arr, fr, h, rfl⟩⟩
theorem V.stable {S' : Nat → Prop} (h : ∀ b, S b → S' b) {c : AV} {v : Value} (hv : V ρ S w c v) : V ρ S' w c v := hv.mono0 (Ext0.stable h)
theorem addS_sub {ids : List Nat} : ∀ b, S b → addS ρ S ids b := fun _ h => .inl h
theorem addS_mono {ids ids' : List Nat} (h : ∀ i, i ∈ ids → i ∈ ids') : ∀ b, addS ρ S ids b → addS ρ S ids' b
 | _, .inl h1 => .inl h1
 | _, .inr ⟨i, h1, h2⟩ => .inr ⟨i, h i h1, h2⟩
theorem cell_getD {b : Nat} {arr : Array Value} {T : TypeId} {fr : Nat × Nat} (h : w.heap[b]? = some (.cells arr T fr)) {i : Nat} (hi : i < arr.size) : w.cell? ⟨b, i, none⟩ = some (arr.getD i undef) := by
 simp only [World.cell?, h]
 simp [hi]
theorem arr_getD {arr : Array Value} {i : Nat} (hi : i < arr.size) : arr[i]? = some (arr.getD i undef) := by simp [hi]
theorem frzL_of {H : List Blk} : ∀ (cs : List AV) (vs : Array Value), cs.length = vs.size →
   (∀ (i : Nat) (c : AV) (v : Value), cs[i]? = some c → vs[i]? = some v → ∀ {K : AV → List Nat → Prop}, frzE H c K → ∃ c' ids, K c' ids ∧ V (fun _ => none) (addS ρ S ids) w c' v ∧ liveIn H ids) →
   ∀ {K : List AV → List Nat → Prop}, frzL H cs K → ∃ cs' ids, K cs' ids ∧ cs'.length = vs.size ∧ (∀ (i : Nat) (c : AV) (v : Value), cs'[i]? = some c → vs[i]? = some v → V (fun _ => none) (addS ρ S ids) w c v) ∧ liveIn H ids := by
 intro cs vs hl ih
 obtain ⟨vs⟩ := vs
 simp only [List.size_toArray, List.getElem?_toArray] at *
 induction cs generalizing vs with
 | nil =>
  intro K h
  exact ⟨[], [], h, hl, fun i c v hc => (by simp at hc), fun _ h => (by cases h)⟩
 | cons c cs ih2 =>
  intro K h
  cases vs with
  | nil => simp at hl
  | cons v vs =>
   rw [frzL] at h
   obtain ⟨c', ids, h1, h2, h3⟩ := ih 0 c v rfl rfl h
   obtain ⟨cs', ids', k1, k2, k3, k4⟩ := ih2 vs (by simpa using hl) (fun i c v hc hv => ih (i + 1) c v (by simpa using hc) (by simpa using hv)) h1
   refine ⟨c' :: cs', ids ++ ids', k1, by simpa using k2, fun i x y hx hy => ?_, fun i hi => ?_⟩
   ·cases i with
    | zero => simp at hx hy; subst hx; subst hy; exact h2.stable (addS_mono fun i hi => List.mem_append_left _ hi)
    | succ i => simp at hx hy; exact (k3 i x y hx hy).stable (addS_mono fun i hi => List.mem_append_right _ hi)
   ·rcases List.mem_append.1 hi with h | h
    ·exact h3 i h
    ·exact k4 i h
theorem frzE_spec {H : List Blk} (hH : HRel ρ S w H) : ∀ {c : AV} {K : AV → List Nat → Prop} {v : Value}, frzE H c K → V ρ S w c v → ∃ c' ids, K c' ids ∧ V (fun _ => none) (addS ρ S ids) w c' v ∧ liveIn H ids := by
 have flatCase : ∀ {c : AV} {K : AV → List Nat → Prop} {v : Value}, c.under 0 = true → K c [] → V ρ S w c v → ∃ c' ids, K c' ids ∧ V (fun _ => none) (addS ρ S ids) w c' v ∧ liveIn H ids :=
  fun hu hK hv => ⟨_, [], hK, (hv.pure hu).stable addS_sub, fun _ h => (by cases h)⟩
 intro c K v h hv
 induction hv generalizing K
 case any => exact flatCase rfl h (.any _)
 case bool => exact flatCase rfl h (.bool _)
 case int h1 h2 => exact flatCase rfl h (.int _ _ h1 h2)
 case str h1 h2 => exact flatCase rfl h (.str _ _ h1 h2)
 case nilp => exact flatCase rfl h .nilp
 case ptr id j b hb =>
  simp only [frzE] at h
  split at h
  ·rename_i cs T0 hcs
   split at h
   ·rename_i hu
    obtain ⟨h1, arr, T, fr, h2, h3, h4, h5⟩ := hH.blk _ _ hcs b hb
    refine ⟨_, [id], h, ?_, fun i hi => ?_⟩
    ·have hr := VI.rptr (ρ := fun _ => none) (S := addS _ S [id]) (w := w) cs j b 0 (fun k => arr.getD k undef) (.inr ⟨id, by simp, hb⟩) (hH.out _ _ hb).2 (fun i hi => ?_) (fun i c hc => ?_)
     ·simpa using hr
     ·rw [Nat.zero_add]; exact cell_getD h2 (by omega)
     ·have hi : i < arr.size := by
       rcases Nat.lt_or_ge i cs.length with h' | h'
       ·omega
       ·rw [List.getElem?_eq_none h'] at hc; cases hc
      exact ((h5 i c _ hc (arr_getD hi)).pure (underL_get hu i c hc)).stable addS_sub
    ·simp at hi; subst hi; exact ⟨_, hcs, rfl⟩
   ·exact h.elim
  ·exact h.elim
 case eptr id sz e j b hb =>
  simp only [frzE] at h
  split at h
  ·rename_i sz' L get T0 hcs
   split at h
   ·rename_i hsz
    subst hsz
    obtain ⟨⟨he, hu⟩, hK⟩ := h
    obtain ⟨h1, arr, T, fr, h2, h3, h4, h5, h6⟩ := hH.blk _ _ hcs b hb
    refine ⟨_, [id], hK, ?_, fun i hi => ?_⟩
    ·refine .rptr (get e) j b (e * sz) (fun k => arr.getD (e * sz + k) undef) (.inr ⟨id, by simp, hb⟩) (hH.out _ _ hb).2 (fun i hi => ?_) (fun i c hc => ?_)
     ·rw [h5 e he] at hi
      have := row_in he hi
      exact cell_getD h2 (by omega)
     ·have hi : i < sz := by
       rcases Nat.lt_or_ge i sz with h' | h'
       ·exact h'
       ·rw [List.getElem?_eq_none (by rw [h5 e he]; exact h')] at hc; cases hc
      have hin := row_in he hi
      exact ((h6 e i c _ he hc (arr_getD (by omega))).pure (underL_get hu i c hc)).stable addS_sub
    ·simp at hi; subst hi; exact ⟨_, hcs, rfl⟩
   ·exact h.elim
  ·exact h.elim
 case rptr cs j b o f hs hb hc hv _ => exact flatCase rfl h (.rptr cs j b o f hs hb hc hv)
 case nilsl => exact flatCase rfl h .nilsl
 case sln => exact flatCase rfl h (.sln _ _ _ _)
 case sl hs hl hm hcl hz hc hv _ => exact flatCase rfl h (.sl _ _ _ _ _ _ _ _ hs hl hm hcl hz hc hv)
 case osl id sz off len cap b o cp hb hl hm ho hx hcap =>
  simp only [frzE] at h
  split at h
  ·rename_i sz' L get T0 hcs
   split at h
   ·rename_i hsz
    subst hsz
    obtain ⟨⟨hL, hu⟩, hK⟩ := h
    obtain ⟨h1, arr, T, fr, h2, h3, h4, h5, h6⟩ := hH.blk _ _ hcs b hb
    refine ⟨_, [id], hK, ?_, fun i hi => ?_⟩
    ·refine .sl false sz len _ b o cp (fun e k => arr.getD ((off + e) * sz + k) undef) (fun _ => ⟨.inr ⟨id, by simp, hb⟩, (hH.out _ _ hb).2⟩) hl hm (fun h => by cases h) (fun e he => h5 _ (by omega)) (fun e k he hk => ?_) (fun e k c he hc => ?_)
     ·have hin := row_in (show off + e < L by omega) hk
      rw [ho (by omega), show off * sz + e * sz + k = (off + e) * sz + k by rw [Nat.add_mul]]
      exact cell_getD h2 (by omega)
     ·have hk : k < sz := by
       rcases Nat.lt_or_ge k sz with h' | h'
       ·exact h'
       ·rw [List.getElem?_eq_none (by rw [h5 (off + e) (by omega)]; exact h')] at hc; cases hc
      have hin := row_in (show off + e < L by omega) hk
      exact ((h6 (off + e) k c _ (by omega) hc (arr_getD (by omega))).pure (underL_get (hu e he) k c hc)).stable addS_sub
    ·simp at hi; subst hi; exact ⟨_, hcs, rfl⟩
   ·exact h.elim
  ·exact h.elim
 case agg cs vs hl _ ih =>
  simp only [frzE] at h
  obtain ⟨cs', ids, h1, h2, h3, h4⟩ := frzL_of cs vs hl (fun i c v hc hv {K} h => ih i c v hc hv hH flatCase h) h
  exact ⟨_, ids, h1, .agg _ _ h2 h3, h4⟩
 case tup cs vs hl _ ih =>
  simp only [frzE] at h
  obtain ⟨cs', ids, h1, h2, h3, h4⟩ := frzL_of cs vs hl (fun i c v hc hv {K} h => ih i c v hc hv hH flatCase h) h
  exact ⟨_, ids, h1, .tup _ _ h2 h3, h4⟩
 case fn f cs vs hl _ ih =>
  simp only [frzE] at h
  obtain ⟨cs', ids, h1, h2, h3, h4⟩ := frzL_of cs vs hl (fun i c v hc hv {K} h => ih i c v hc hv hH flatCase h) h
  exact ⟨_, ids, h1, .fn _ _ _ h2 h3, h4⟩
 case nilfn => exact flatCase rfl h .nilfn
 case nilmap => exact flatCase rfl h .nilmap
 case map => exact (by simp [frzE] at h)
 case nilif => exact flatCase rfl h .nilif
 case iface t a v _ ih =>
  simp only [frzE] at h
  obtain ⟨c', ids, h1, h2, h3⟩ := ih hH flatCase h
  exact ⟨_, ids, h1, .iface _ _ _ h2, h3⟩
 case iter => exact (by simp [frzE] at h)
theorem frzL_spec {H : List Blk} (hH : HRel ρ S w H) : ∀ {cs : List AV} {K : List AV → List Nat → Prop} {vs : Array Value}, frzL H cs K → VL ρ S w cs vs → ∃ cs' ids, K cs' ids ∧ VL (fun _ => none) (addS ρ S ids) w cs' vs ∧ liveIn H ids := by
 intro cs K vs h hv
 obtain ⟨cs', ids, h1, h2, h3, h4⟩ := frzL_of (ρ := ρ) (S := S) (w := w) cs vs hv.1 (fun i c v hc hv' {K} h => frzE_spec hH h (hv.2 i c v hc hv')) h
 exact ⟨cs', ids, h1, ⟨h2, h3⟩, h4⟩
end
end Go.Vc
namespace Go.Vc
open Go
def Det (F : (AV → Prop) → Prop) : Prop := ∀ N, F N → ∃ r, N r ∧ F (fun c => c = r)
structure PC where
 T : List AV → (AV → Prop) → Prop
 det : ∀ cs, Det (T cs)
def GoodP (F : Nat → Obj → Prop) (P : Program) (f : FuncId) (pc : PC) : Prop :=
 ∀ S (w : World) cs vs Q, Sok F S w → VL (fun _ => none) S w cs vs → pc.T cs Q →
  Calls P f vs w fun e w' => ∃ v c S', e = .returned v ∧ Q c ∧ V (fun _ => none) S' w' c v ∧ Ext (fun _ => none) S w (fun _ => none) S' w' ∧ Sok F S' w'
def pureK (pc : PC) : Ctr := fun cs H Q => frzL H cs fun cs' ids => pc.T cs' fun r => (match r.flat with
 | true => Q r H
 | false => Q r (killL H ids))
theorem killL_get : ∀ (ids : List Nat) (H : List Blk) (i : Nat) (b : Blk), (killL H ids)[i]? = some b → b.live = true → H[i]? = some b ∧ i ∉ ids
 | [], H, i, b, h, _ => ⟨h, by simp⟩
 | id :: ids, H, i, b, h, hl => by
  obtain ⟨h1, h2⟩ := killL_get ids _ i b h hl
  rw [List.getElem?_set] at h1
  split at h1
  ·split at h1
   ·cases h1; cases hl
   ·cases h1
  ·rename_i hne
   exact ⟨h1, by simp; exact ⟨fun h => hne h.symm, h2⟩⟩
theorem killL_length : ∀ (ids : List Nat) (H : List Blk), (killL H ids).length = H.length
 | [], _ => rfl
 | id :: ids, H => by rw [killL, killL_length]; simp
section
variable {F : Nat → Obj → Prop} {P : Program} {ρ : Nat → Option Nat} {S : Nat → Prop} {w : World}
theorem hrel_behind {H : List Blk} (h : HRel ρ S w H) {ids : List Nat} (hl : liveIn H ids) {S' : Nat → Prop} {w' : World}
  (hE : Ext (fun _ => none) (addS ρ S ids) w (fun _ => none) S' w') : HRel ρ S' w' (killL H ids) ∧ Ext ρ S w ρ S' w' := by
 have same : ∀ b, b < w.heap.size → w'.heap[b]? = w.heap[b]? := fun b hb => hE.same b hb (.inr fun i hi => by cases hi)
 have back : ∀ b, S' b → addS ρ S ids b ∨ w.heap.size ≤ b := fun b hb => by
  rcases hE.stf b hb with h | ⟨i, h⟩ | h
  ·exact .inl h
  ·cases h
  ·exact .inr h
 have ext : Ext ρ S w ρ S' w' := by
  refine ⟨fun _ _ h => h, fun b hb => hE.st b (.inl hb), fun b hb _ => same b hb, hE.size, hE.shp, fun _ _ h => .inl ⟨_, h⟩, fun b hb => ?_, hE.os, hE.tape, hE.output⟩
  rcases back b hb with (h1 | ⟨i, _, h1⟩) | h1
  ·exact .inl h1
  ·exact .inr (.inl ⟨i, h1⟩)
  ·exact .inr (.inr h1)
 refine ⟨⟨fun i j bi bj b hi hj li lj => h.inj i j bi bj b (killL_get ids H i bi hi li).1 (killL_get ids H j bj hj lj).1 li lj, fun i bi hi => ?_, fun i b hi => ?_⟩, ext⟩
 ·by_cases li : bi.live = true
  ·obtain ⟨h1, h2⟩ := killL_get ids H i bi hi li
   refine (h.blk i bi h1).keep ext fun b hb => ⟨hb, same b (h.out _ _ hb).2, fun hs => ?_⟩
   have hns : ∀ (bi : Blk), bi.live = true → BRel ρ S w i bi → ¬ S b := by
    intro bi li hr
    cases bi <;> first | (cases li; done) | exact (hr b hb).1
   rcases back b hs with (h3 | ⟨j, hj, h3⟩) | h3
   ·exact h3
   ·obtain ⟨bj, hbj, lj⟩ := hl j hj
    have := h.inj i j bi bj b h1 hbj li lj hb h3
    subst this
    exact (h2 hj).elim
   ·exact absurd (h.out _ _ hb).2 (Nat.not_lt.2 h3)
  ·cases bi <;> first | exact trivial | exact absurd rfl li
 ·rw [killL_length]; have := h.out i b hi; exact ⟨this.1, Nat.lt_of_lt_of_le this.2 hE.size⟩
theorem hrel_behind_flat {H : List Blk} (h : HRel ρ S w H) {S1 : Nat → Prop} {S' : Nat → Prop} {w' : World} (hE : Ext (fun _ => none) S1 w (fun _ => none) S' w') : HRel ρ S w' H ∧ Ext ρ S w ρ S w' := by
 have same : ∀ b, b < w.heap.size → w'.heap[b]? = w.heap[b]? := fun b hb => hE.same b hb (.inr fun i hi => by cases hi)
 have ext : Ext ρ S w ρ S w' := ⟨fun _ _ h => h, fun b hb => hb, fun b hb _ => same b hb, hE.size, hE.shp, fun _ _ h => .inl ⟨_, h⟩, fun b hb => .inl hb, hE.os, hE.tape, hE.output⟩
 exact ⟨⟨h.inj, fun i bi hi => (h.blk i bi hi).keep ext fun b hb => ⟨hb, same b (h.out _ _ hb).2, fun h => h⟩, fun i b hi => ⟨(h.out i b hi).1, Nat.lt_of_lt_of_le (h.out i b hi).2 hE.size⟩⟩, ext⟩
theorem addS_ok {H : List Blk} (hH : HRel ρ S w H) (hs : ∀ b, S b → b < w.heap.size) (ids : List Nat) : ∀ b, addS ρ S ids b → b < w.heap.size
 | b, .inl h => hs b h
 | b, .inr ⟨i, _, h⟩ => (hH.out i b h).2
theorem addS_sok {H : List Blk} (hH : HRel ρ S w H) (hs : Sok F S w) (ids : List Nat) : Sok F (addS ρ S ids) w :=
 ⟨addS_ok hH hs.lt ids, fun b o hf => ⟨.inl (hs.st b o hf).1, (hs.st b o hf).2⟩⟩
theorem good_of_goodP {f : FuncId} {pc : PC} (h : GoodP F P f pc) : Good F P f (pureK pc) := by
 intro ρ S w H cs vs Q hs hH hv hK
 obtain ⟨cs', ids, hT, hv', hl⟩ := frzL_spec hH hK hv
 refine (h (addS ρ S ids) w cs' vs _ (addS_sok hH hs ids) hv' hT).mono ?_
 rintro e w' ⟨v, c, S', rfl, hQ, h1, h2, h3⟩
 split at hQ
 ·rename_i hf
  obtain ⟨k1, k2⟩ := hrel_behind_flat hH h2
  exact ⟨v, _, H, ρ, S, rfl, hQ, h1.flatR hf, k1, k2, hs.still k2⟩
 ·obtain ⟨k1, k2⟩ := hrel_behind hH hl h2
  exact ⟨v, _, _, ρ, S', rfl, hQ, h1.lift, k1, k2, h3⟩
end
end Go.Vc
namespace Go.Vc
open Go
section
variable {α : Type}
def setAll (l : List α) (w : List (Nat × α)) : List α := w.foldl (fun l p => l.set p.1 p.2) l
def ov (D : Nat → Bool) : Nat → List (List (Nat × α)) → List α → List α
 | _, [], b => b
 | i, w :: ws, b => ov D (i + 1) ws (match D i with | true => setAll b w | false => b)
def keyIn (k : Nat) (w : List (Nat × α)) : Bool := w.any fun p => p.1 == k
theorem setAll_nil (l : List α) : setAll l [] = l := rfl
theorem setAll_cons (l : List α) (p : Nat × α) (w : List (Nat × α)) : setAll l (p :: w) = setAll (l.set p.1 p.2) w := rfl
theorem setAll_length : ∀ (w : List (Nat × α)) (l : List α), (setAll l w).length = l.length
 | [], _ => rfl
 | p :: w, l => by rw [setAll_cons, setAll_length w]; simp
theorem setAll_out {k : Nat} : ∀ (w : List (Nat × α)) (l : List α), keyIn k w = false → (setAll l w)[k]? = l[k]?
 | [], _, _ => rfl
 | p :: w, l, h => by
  simp only [keyIn, List.any_cons, Bool.or_eq_false_iff, beq_eq_false_iff_ne] at h
  rw [setAll_cons, setAll_out w _ h.2, List.getElem?_set_ne h.1]
theorem setAll_in {k : Nat} : ∀ (w : List (Nat × α)) (l l' : List α), l.length = l'.length → (keyIn k w = true ∨ l[k]? = l'[k]?) → (setAll l w)[k]? = (setAll l' w)[k]?
 | [], l, l', _, h => by
  rcases h with h | h
  ·cases h
  ·exact h
 | p :: w, l, l', hl, h => by
  rw [setAll_cons, setAll_cons]
  refine setAll_in w _ _ (by simpa using hl) ?_
  by_cases hp : p.1 = k
  ·refine .inr ?_
   rw [List.getElem?_set, List.getElem?_set, if_pos hp, if_pos hp, hl]
  ·rcases h with h | h
   ·simp only [keyIn, List.any_cons, Bool.or_eq_true, beq_iff_eq] at h
    rcases h with h | h
    ·exact absurd h hp
    ·exact .inl h
   ·exact .inr (by rw [List.getElem?_set_ne hp, List.getElem?_set_ne hp]; exact h)
theorem ov_length (D : Nat → Bool) : ∀ (ws : List (List (Nat × α))) (i : Nat) (b : List α), (ov D i ws b).length = b.length
 | [], _, _ => rfl
 | w :: ws, i, b => by
  rw [ov, ov_length D ws]
  cases D i
  ·rfl
  ·exact setAll_length _ _
theorem ov_congr {D D' : Nat → Bool} {k : Nat} : ∀ (ws : List (List (Nat × α))) (i : Nat) (b b' : List α), b.length = b'.length → b[k]? = b'[k]? →
  (∀ (m : Nat) w, ws[m]? = some w → keyIn k w = true → D (i + m) = D' (i + m)) → (ov D i ws b)[k]? = (ov D' i ws b')[k]?
 | [], _, _, _, _, h, _ => h
 | w :: ws, i, b, b', hl, h, hD => by
  rw [ov, ov]
  refine ov_congr ws (i + 1) _ _ ?_ ?_ (fun m w hm hk => by have := hD (m + 1) w (by simpa using hm) hk; rwa [show i + (m + 1) = i + 1 + m by omega] at this)
  ·cases D i <;> cases D' i <;> simp [setAll_length, hl]
  ·by_cases hk : keyIn k w = true
   ·have := hD 0 w rfl hk
    rw [Nat.add_zero] at this
    rw [this]
    cases D' i
    ·exact h
    ·exact setAll_in w _ _ hl (.inl hk)
   ·have hk : keyIn k w = false := by simpa using hk
    have e : ∀ (c : Bool) (b : List α), (match c with | true => setAll b w | false => b)[k]? = b[k]? := by
     intro c b
     cases c
     ·rfl
     ·exact setAll_out w b hk
    rw [e, e]; exact h
theorem ov_shift {D : Nat → Bool} : ∀ (ws : List (List (Nat × α))) (i : Nat) (b : List α), ov D (i + 1) ws b = ov (fun m => D (m + 1)) i ws b
 | [], _, _ => rfl
 | w :: ws, i, b => by rw [ov, ov, ov_shift ws (i + 1)]
theorem ov_same {D D' : Nat → Bool} : ∀ (ws : List (List (Nat × α))) (i : Nat) (b : List α), (∀ m : Nat, m < ws.length → D (i + m) = D' (i + m)) → ov D i ws b = ov D' i ws b
 | [], _, _, _ => rfl
 | w :: ws, i, b, h => by
  rw [ov, ov]
  have h0 := h 0 (by simp)
  rw [Nat.add_zero] at h0
  rw [h0]
  exact ov_same ws (i + 1) _ fun m hm => by have := h (m + 1) (by simpa using hm); rwa [show i + (m + 1) = i + 1 + m by omega] at this
theorem setAll_comm {w w' : List (Nat × α)} (h : ∀ k, keyIn k w = true → keyIn k w' = false) (b : List α) : setAll (setAll b w) w' = setAll (setAll b w') w := by
 apply List.ext_getElem?
 intro k
 by_cases hk : keyIn k w = true
 ·rw [setAll_out w' _ (h k hk)]
  exact setAll_in w _ _ (by rw [setAll_length]) (.inl hk)
 ·have hk : keyIn k w = false := by simpa using hk
  rw [setAll_out w _ hk]
  exact setAll_in w' _ _ (by rw [setAll_length]) (.inr (setAll_out w b hk))
theorem ov_set {D : Nat → Bool} {w : List (Nat × α)} : ∀ (ws : List (List (Nat × α))) (i : Nat) (b : List α), (∀ (m : Nat) w', ws[m]? = some w' → D (i + m) = true → ∀ k, keyIn k w = true → keyIn k w' = false) →
  ov D i ws (setAll b w) = setAll (ov D i ws b) w
 | [], _, _, _ => rfl
 | w' :: ws, i, b, h => by
  rw [ov, ov]
  have tl : ∀ (m : Nat) w'', ws[m]? = some w'' → D (i + 1 + m) = true → ∀ k, keyIn k w = true → keyIn k w'' = false := fun m w'' hm hd => h (m + 1) w'' (by simpa using hm) (by rwa [show i + (m + 1) = i + 1 + m by omega])
  cases hd : D i with
  | false => exact ov_set ws (i + 1) b tl
  | true =>
   show ov D (i + 1) ws (setAll (setAll b w) w') = setAll (ov D (i + 1) ws (setAll b w')) w
   rw [setAll_comm (h 0 w' rfl (by rwa [Nat.add_zero]))]
   exact ov_set ws (i + 1) _ tl
theorem ov_add {D : Nat → Bool} {j : Nat} {wj : List (Nat × α)} : ∀ (ws : List (List (Nat × α))) (i : Nat) (b : List α), ws[j]? = some wj → D (i + j) = false →
  (∀ (m : Nat) w, ws[m]? = some w → j < m → D (i + m) = true → ∀ k, keyIn k wj = true → keyIn k w = false) → ov (fun m => m == i + j || D m) i ws b = setAll (ov D i ws b) wj := by
 intro ws
 induction ws generalizing j with
 | nil => intro i b h; simp at h
 | cons w ws ih =>
  intro i b hj hD hc
  cases j with
  | zero =>
   simp at hj
   subst hj
   rw [Nat.add_zero] at hD
   rw [ov, ov, hD]
   simp only [Nat.add_zero, beq_self_eq_true, Bool.true_or]
   rw [ov_same (D' := D) ws (i + 1) _ fun m _ => by
    have : (i + 1 + m == i) = false := by simpa using (by omega)
    rw [this]; rfl]
   exact ov_set ws (i + 1) b fun m w' hm hd => hc (m + 1) w' (by simpa using hm) (by omega) (by rwa [show i + (m + 1) = i + 1 + m by omega])
  | succ j =>
   rw [ov, ov]
   have : (i == i + (j + 1)) = false := by simp
   simp only [this, Bool.false_or]
   have := ih (j := j) (i + 1) (match D i with | true => setAll b w | false => b) (by simpa using hj) (by rwa [show i + 1 + j = i + (j + 1) by omega])
    (fun m w' hm hlt hd => hc (m + 1) w' (by simpa using hm) (by omega) (by rwa [show i + (m + 1) = i + 1 + m by omega]))
   rw [show i + 1 + j = i + (j + 1) by omega] at this
   exact this
end
def direct (o : Oper) : List Nat := (o.after.toList.filter fun e => Region.binds .any e).map (·.on)
inductive Anc (ops : Array Oper) : Nat → Nat → Prop where
 | one {i j : Nat} {o : Oper} (h : ops[j]? = some o) (hi : i ∈ direct o) : Anc ops i j
 | step {i m j : Nat} {o : Oper} (h : Anc ops i m) (hj : ops[j]? = some o) (hm : m ∈ direct o) : Anc ops i j
def maskOf (acc : List Nat) : List Nat → Nat
 | [] => 0
 | i :: l => Nat.lor (Nat.lor (2 ^ i) (acc.getD i 0)) (maskOf acc l)
def clo1 (o : Oper) (acc : List Nat) : Nat := maskOf acc (direct o)
def clos : List Nat → List Oper → List Nat
 | acc, [] => acc
 | acc, o :: os => clos (acc ++ [clo1 o acc]) os
theorem maskOf_bit {acc : List Nat} {i : Nat} : ∀ {l : List Nat}, (maskOf acc l).testBit i = true → i ∈ l ∨ ∃ m ∈ l, (acc.getD m 0).testBit i = true
 | [], h => by simp [maskOf] at h
 | x :: l, h => by
  rw [maskOf] at h
  have h : (2 ^ x ||| acc.getD x 0 ||| maskOf acc l).testBit i = true := h
  rw [Nat.testBit_or, Nat.testBit_or, Bool.or_eq_true, Bool.or_eq_true, Nat.testBit_two_pow] at h
  rcases h with (h | h) | h
  ·left; simp at h; subst h; simp
  ·exact .inr ⟨x, by simp, h⟩
  ·rcases maskOf_bit h with h | ⟨m, h1, h2⟩
   ·exact .inl (List.mem_cons_of_mem _ h)
   ·exact .inr ⟨m, List.mem_cons_of_mem _ h1, h2⟩
theorem clos_spec (ops : Array Oper) : ∀ (os : List Oper) (acc : List Nat), (∀ m : Nat, m < os.length → ops[acc.length + m]? = os[m]?) →
  (∀ (j : Nat) l, acc[j]? = some l → ∀ i, l.testBit i = true → Anc ops i j) → ∀ (j : Nat) l, (clos acc os)[j]? = some l → ∀ i, l.testBit i = true → Anc ops i j
 | [], acc, _, h => h
 | o :: os, acc, ho, h => by
  have h0 : ops[acc.length]? = some o := by have := ho 0 (by simp); simpa using this
  refine clos_spec ops os (acc ++ [clo1 o acc]) (fun m hm => ?_) (fun j l hl i hi => ?_)
  ·have := ho (m + 1) (by simpa using hm)
   simp only [List.length_append, List.length_singleton]
   rw [show acc.length + 1 + m = acc.length + (m + 1) by omega, this]
   simp
  ·by_cases hj : j < acc.length
   ·rw [List.getElem?_append_left hj] at hl
    exact h j l hl i hi
   ·rw [List.getElem?_append_right (by omega)] at hl
    have hj' : j = acc.length := by
     rcases Nat.eq_or_lt_of_le (Nat.le_of_not_lt hj) with h1 | h1
     ·exact h1.symm
     ·rw [List.getElem?_eq_none (by simp; omega)] at hl; cases hl
    subst hj'
    simp at hl
    subst hl
    rcases maskOf_bit hi with hi | ⟨m, hm, hi⟩
    ·exact .one h0 hi
    ·refine .step (m := m) ?_ h0 hm
     rw [List.getD_eq_getElem?_getD] at hi
     cases hm' : acc[m]? with
     | none => rw [hm'] at hi; simp at hi
     | some l => rw [hm'] at hi; exact h m l hm' i hi
def Down (ops : Array Oper) (D : Nat → Bool) : Prop := ∀ (j : Nat) o, ops[j]? = some o → D j = true → ∀ i ∈ direct o, D i = true
theorem Down.anc {ops : Array Oper} {D : Nat → Bool} (h : Down ops D) {i j : Nat} (ha : Anc ops i j) : (∀ o, ops[j]? = some o → ∀ m ∈ direct o, D m = true) → D i = true := by
 induction ha with
 | one hj hi => exact fun hd => hd _ hj _ hi
 | step _ hj hm ih =>
  intro hd
  exact ih fun o ho k hk => h _ o ho (hd _ hj _ hm) k hk
def toCome (n : Nat) (listed : Array Bool) : Nat := (List.range n).countP fun i => !listed.getD i true
theorem countP_one {p q : Nat → Bool} {j : Nat} (hp : p j = true) (hq : q j = false) (h : ∀ i, i ≠ j → p i = q i) : ∀ n, (List.range n).countP p = (List.range n).countP q + if j < n then 1 else 0 := by
 intro n
 induction n with
 | zero => simp
 | succ n ih =>
  rw [List.range_succ, List.countP_append, List.countP_append, ih]
  by_cases hj : j = n
  ·subst hj
   simp [hp, hq]
  ·simp only [List.countP_singleton, h n (fun e => hj e.symm)]
   by_cases hlt : j < n
   ·have h2 : j < n + 1 := by omega
    simp only [hlt, h2, if_true]; omega
   ·have h2 : ¬ j < n + 1 := by omega
    simp only [hlt, h2, if_false]; omega
theorem toCome_set {n j : Nat} {listed : Array Bool} (hs : listed.size = n) (hj : j < n) (hl : listed.getD j true = false) : toCome n listed = toCome n (listed.setIfInBounds j true) + 1 := by
 unfold toCome
 have := countP_one (p := fun i => !listed.getD i true) (q := fun i => !(listed.setIfInBounds j true).getD i true) (j := j) (by simp only [hl]; rfl) ?_ (fun i hi => ?_) n
 ·rw [this, if_pos hj]
 ·simp [hs, hj]
 ·show (!listed.getD i true) = !(listed.setIfInBounds j true).getD i true
  rw [getD_set_ne true (Ne.symm hi)]
theorem toCome_zero {n : Nat} {listed : Array Bool} (h : toCome n listed = 0) : ∀ i, i < n → listed.getD i true = true := by
 intro i hi
 unfold toCome at h
 rw [List.countP_eq_zero] at h
 have := h i (List.mem_range.2 hi)
 simpa using this
end Go.Vc
namespace Go.Vc
open Go
section
variable {TY : TypeId → Option TI}
theorem det_pick (c a b : AV) : Det (pickA c a b) := by
 intro N h; unfold pickA at h ⊢
 split at h
 ·exact ⟨_, h, rfl⟩
 ·split at h
  ·rename_i a b hh _
   exact ⟨_, h, rfl⟩
  ·exact ⟨_, h, rfl⟩
 ·exact h.elim
theorem det_optP {o : Option AV} : Det (optP o) := by
 intro N h; obtain ⟨x, rfl, hN⟩ := optP_some h; exact ⟨x, hN, rfl⟩
theorem det_build {t : TypeId} {ps : List (Nat × AV)} : Det (buildF TY t ps) := by
 rw [show buildF TY t ps = buildA TY t ps from funext fun N => buildF_eq]
 intro N h; unfold buildA at h ⊢
 repeat' split at h
 all_goals first
  | exact h.elim
  | (obtain ⟨x, hx, hN⟩ := optP_some h; exact ⟨_, hN, by simp [*, optP]⟩)
theorem det_loadP {t : TypeId} {p : AV} {H : List Blk} : Det (loadPA TY t p H) := by
 intro N h; unfold loadPA at h ⊢
 repeat' split at h
 all_goals first
  | exact h.elim
  | (obtain ⟨x, hx, hN⟩ := optP_some h; exact ⟨_, hN, by simp [*, optP]⟩)
  | (obtain ⟨x, hx, hN⟩ := optP_some h.2; exact ⟨_, hN, by simp [*, optP, h.1]⟩)
theorem det_nilCheck {x : AV} : Det (nilCheckA x) := by
 intro N h; unfold nilCheckA at h ⊢
 split at h
 all_goals first | exact h.elim | exact ⟨_, h, rfl⟩
theorem det_fit {wr : Bool} {k : IntKind} {n : Int} : Det (fitA wr k n) := by
 intro N h; cases wr
 ·exact ⟨_, h.2, h.1, rfl⟩
 ·exact ⟨_, h, rfl⟩
theorem det_int {wr : Bool} {op : BinOp} {k : IntKind} {a b : Int} : Det (intA wr op k a b) := by
 intro N h; unfold intA at h ⊢
 split at h
 case h_1 => exact det_fit N h
 case h_2 => exact det_fit N h
 case h_3 => exact det_fit N h
 case h_4 =>
  cases hb : eqI b 0 with
  | true => rw [hb] at h; exact h.elim
  | false =>
   rw [hb] at h
   cases hu : uns k with
   | true => rw [hu] at h; exact det_fit N h
   | false => rw [hu] at h; exact det_fit N h
 case h_5 =>
  cases hb : eqI b 0 with
  | true => rw [hb] at h; exact h.elim
  | false =>
   rw [hb] at h
   cases hu : uns k with
   | true => rw [hu] at h; exact ⟨_, h, rfl⟩
   | false => rw [hu] at h; exact ⟨_, h, rfl⟩
 all_goals first | exact ⟨_, h, rfl⟩ | exact h.elim
theorem det_shift {op : BinOp} {k : IntKind} {a b : Int} : Det (shiftA op k a b) := by
 intro N h; unfold shiftA at h ⊢
 obtain ⟨hb, h⟩ := h
 split at h
 all_goals first | exact ⟨_, h, hb, rfl⟩ | exact h.elim
theorem det_str {op : BinOp} {x y : List UInt8} : Det (strA op x y) := by
 intro N h; unfold strA at h ⊢
 split at h
 all_goals first | exact ⟨_, h, rfl⟩ | exact ⟨_, h.2, h.1, rfl⟩ | exact h.elim
theorem det_bin {wr : Bool} {op : BinOp} {t : TypeId} {x y : AV} : Det (binA TY wr op t x y) := by
 intro N h; unfold binA at h ⊢
 split at h
 ·split at h
  ·exact det_shift N h
  ·exact det_shift N h
  ·split at h
   ·rename_i hk; subst hk; simp only [if_true]
    obtain ⟨r, h1, h2⟩ := det_int N h
    exact ⟨r, h1, h2⟩
   ·exact h.elim
 ·exact det_str N h
 ·rename_i hx1 hx2
  split at h
  ·exact h.elim
  ·rename_i i hi
   split at h
   ·split at h
    ·exact ⟨_, h, by simp [*]⟩
    ·exact ⟨_, h, by simp [*]⟩
    ·exact h.elim
   ·split at h
    ·split at h
     ·obtain ⟨x, hx, hN⟩ := optP_some h; exact ⟨_, hN, by simp [*, optP]⟩
     ·obtain ⟨x, hx, hN⟩ := optP_some h; exact ⟨_, hN, by simp [*, optP]⟩
     ·exact h.elim
    ·exact h.elim
   ·split at h
    ·obtain ⟨x, hx, hN⟩ := optP_some h
     exact ⟨_, hN, by simp [optP, hx]⟩
    ·obtain ⟨x, hx, hN⟩ := optP_some h
     exact ⟨_, hN, by simp [optP, hx]⟩
    ·exact h.elim
theorem det_un {wr : Bool} {op : UnOp} {x : AV} : Det (unA wr op x) := by
 intro N h; unfold unA at h ⊢
 split at h
 ·exact det_fit N h
 ·exact ⟨_, h, rfl⟩
 ·exact h.elim
theorem rowE_some {H : List Blk} {x : AV} {K : Nat → Nat → (Nat → List AV) → Prop} (h : rowE H x K) : ∃ sz len get, K sz len get ∧ ∀ K' : Nat → Nat → (Nat → List AV) → Prop, K' sz len get → rowE H x K' := by
 unfold rowE at h
 split at h
 ·exact ⟨_, _, _, h, fun K' h' => h'⟩
 ·split at h
  ·rename_i hcs
   split at h
   ·rename_i hsz
    exact ⟨_, _, _, h.2, fun K' h' => by unfold rowE; simp only [hcs]; rw [if_pos hsz]; exact ⟨h.1, h'⟩⟩
   ·exact h.elim
  ·exact h.elim
 ·exact h.elim
theorem det_conv {wr : Bool} {s d : TypeId} {x : AV} {H : List Blk} : Det (convA TY wr s d x H) := by
 intro N h; unfold convA at h ⊢
 split at h
 ·split at h
  ·obtain ⟨r, h1, h2⟩ := det_fit N h; exact ⟨r, h1, by simp [*]⟩
  ·exact ⟨_, h, by simp [*]⟩
  ·split at h
   ·split at h
    ·split at h
     all_goals first | exact ⟨_, h, by simp [*]⟩ | exact h.elim
    ·exact h.elim
   ·exact h.elim
  ·rename_i hn1 hn2
   split at h
   ·split at h
    ·split at h
     ·obtain ⟨sz, len, get, h1, h2⟩ := rowE_some h
      split at h1
      ·rename_i hsz
       refine ⟨_, h1.2, h2 _ ?_⟩
       rw [if_pos hsz]
       exact ⟨h1.1, rfl⟩
      ·exact h1.elim
     ·obtain ⟨sz, len, get, h1, h2⟩ := rowE_some h
      split at h1
      ·rename_i hsz
       refine ⟨_, h1.2, h2 _ ?_⟩
       rw [if_pos hsz]
       exact ⟨h1.1, rfl⟩
      ·exact h1.elim
     ·exact h.elim
    ·exact h.elim
   ·exact h.elim
  ·exact h.elim
 ·exact h.elim
theorem det_fieldAddr {t : TypeId} {p : AV} {f : Nat} : Det (fieldAddrA TY t p f) := by
 intro N h; unfold fieldAddrA at h ⊢
 repeat' split at h
 all_goals first | exact h.elim | exact ⟨_, h, by simp [*]⟩
theorem det_field {t : TypeId} {p : AV} {f : Nat} : Det (fieldA TY t p f) := by
 intro N h; unfold fieldA at h ⊢
 repeat' split at h
 all_goals first | exact h.elim | (obtain ⟨x, hx, hN⟩ := optP_some h; exact ⟨_, hN, by simp [*, optP]⟩)
theorem det_indexAddr {t : TypeId} {x i : AV} : Det (indexAddrA TY t x i) := by
 intro N h; unfold indexAddrA at h ⊢
 split at h
 ·split at h
  ·split at h
   ·repeat' split at h
    all_goals first | exact h.elim | exact ⟨_, h.2, by simp [*, h.1.1, h.1.2]⟩
   ·exact h.elim
  ·split at h
   ·obtain ⟨h1, h⟩ := h
    split at h
    all_goals first | exact h.elim | exact ⟨_, h, by simp [*, h1.1, h1.2]⟩
   ·exact h.elim
  ·exact h.elim
 ·exact h.elim
theorem det_index {t : TypeId} {x i : AV} : Det (indexA TY t x i) := by
 intro N h; unfold indexA at h ⊢
 repeat' split at h
 all_goals first | exact h.elim | exact ⟨_, h.2, by simp [*, h.1.1, h.1.2]⟩
theorem det_arrIndex {t : TypeId} {x i : AV} : Det (arrIndexA TY t x i) := by
 intro N h; unfold arrIndexA at h ⊢
 repeat' split at h
 all_goals first | exact h.elim | (obtain ⟨y, hx, hN⟩ := optP_some h.2; exact ⟨_, hN, by simp [*, h.1.1, h.1.2, optP]⟩)
theorem bndE_some {x : Option AV} {d : Nat} {K : Nat → Prop} (h : bndE x d K) : ∃ a, K a ∧ ∀ K' : Nat → Prop, K' a → bndE x d K' := by
 unfold bndE at h
 split at h
 ·exact ⟨_, h, fun K' h' => h'⟩
 ·exact ⟨_, h.2, fun K' h' => ⟨h.1, h'⟩⟩
 ·exact h.elim
theorem det_slice {t : TypeId} {x : AV} {l h m : Option AV} : Det (sliceA TY t x l h m) := by
 intro N h; unfold sliceA at h ⊢
 split at h
 ·exact h.elim
 ·split at h
  ·obtain ⟨a, h, ha⟩ := bndE_some h
   obtain ⟨b, h, hb⟩ := bndE_some h
   refine ⟨_, h.2, ?_⟩
   simp only [*]
   exact ha _ (hb _ ⟨h.1, rfl⟩)
  ·split at h
   ·split at h
    ·rename_i hsz
     obtain ⟨a, h, ha⟩ := bndE_some h
     obtain ⟨b, h, hb⟩ := bndE_some h
     refine ⟨_, h.2, ?_⟩
     simp only [*, if_true]
     exact ha _ (hb _ ⟨h.1, rfl⟩)
    ·exact h.elim
   ·exact h.elim
  ·split at h
   ·split at h
    ·rename_i hsz
     obtain ⟨a, h, ha⟩ := bndE_some h
     obtain ⟨b, h, hb⟩ := bndE_some h
     refine ⟨_, h.2, ?_⟩
     simp only [*, if_true, and_self]
     try exact ha _ (hb _ ⟨h.1, rfl⟩)
    ·exact h.elim
   ·exact h.elim
  ·split at h
   ·split at h
    ·rename_i hsz
     obtain ⟨a, h, ha⟩ := bndE_some h
     obtain ⟨b, h, hb⟩ := bndE_some h
     refine ⟨_, h.2, ?_⟩
     simp only [*, if_true]
     exact ha _ (hb _ ⟨h.1, rfl⟩)
    ·exact h.elim
   ·exact h.elim
  ·exact h.elim
theorem findE_some {kd : TK} {key : AV} : ∀ {es : List (AV × AV)} {i : Nat} {K : Option (Nat × AV) → Prop}, findE kd key es i K → ∃ r, K r ∧ ∀ K' : Option (Nat × AV) → Prop, K' r → findE kd key es i K'
 | [], i, K, h => ⟨none, h, fun K' h' => h'⟩
 | (k', v) :: es, i, K, h => by
  rw [findE] at h
  split at h
  ·rename_i b hb
   split at h
   ·exact ⟨_, h, fun K' h' => by rw [findE, hb]; exact h'⟩
   ·obtain ⟨r, h1, h2⟩ := findE_some h
    exact ⟨r, h1, fun K' h' => by rw [findE, hb]; exact h2 K' h'⟩
  ·exact h.elim
theorem det_lookup {t : TypeId} {x i : AV} {ok : Bool} {H : List Blk} : Det (lookupA TY t x i ok H) := by
 intro N h; unfold lookupA at h ⊢
 split at h
 ·exact h.elim
 ·split at h
  ·split at h
   ·split at h
    ·split at h
     ·exact h.elim
     ·obtain ⟨r, h1, h2⟩ := findE_some h
      split at h1
      ·refine ⟨_, h1, ?_⟩
       simp only [*, if_true]
       try exact h2 _ rfl
      ·obtain ⟨z, hz, hN⟩ := optP_some h1
       refine ⟨_, hN, ?_⟩
       simp only [*, if_true]
       refine h2 _ ?_
       simp [optP]
    ·exact h.elim
   ·exact h.elim
  ·exact h.elim
theorem det_extract {x : AV} {i : Nat} : Det (extractA x i) := by
 intro N h; unfold extractA at h ⊢
 split at h
 ·exact det_optP N h
 ·exact h.elim
theorem det_cap {t : TypeId} {x : AV} : Det (capA TY t x) := by
 intro N h; unfold capA at h ⊢
 repeat' split at h
 all_goals first | exact h.elim | exact ⟨_, h, by simp [*]⟩
end
end Go.Vc
namespace Go.Vc
open Go
abbrev PT := FuncId → Option PC
def PTOk (F : Nat → Obj → Prop) (P : Program) (D : PT) : Prop := ∀ f pc, D f = some pc → Ent P f ∧ GoodP F P f pc
def ownId : AV → List Nat
 | .ptr id _ => [id]
 | .eptr id _ _ _ => [id]
 | .osl id _ _ _ _ => [id]
 | .map id => [id]
 | _ => []
def readsOf (ts : List AV) : Op → List Nat
 | .load _ a => ownId (evO ts a)
 | .convert _ _ x => ownId (evO ts x)
 | .lookup _ x _ _ => ownId (evO ts x)
 | _ => []
section
variable {P : Program} {TY : TypeId → Option TI} {D : PT}
def lenD (TY : TypeId → Option TI) (t : TypeId) (x : AV) (N : AV → Prop) : Prop :=
 match TY t with
 | none => False
 | some i => match i.kind, x with
  | .str, .str l => N (.int .i64 l.length)
  | .slice _, .sl _ _ len _ => N (.int .i64 len)
  | .slice _, .osl _ _ _ len _ => N (.int .i64 len)
  | .slice _, .nilsl => N (.int .i64 0)
  | _, _ => False
theorem lenD_lenA {t : TypeId} {x : AV} {N : AV → Prop} (h : lenD TY t x N) : lenA TY t x N := by
 unfold lenD at h; unfold lenA
 split at h
 ·exact h.elim
 ·rename_i i hi
  simp only [hi]
  split at h <;> simp only [*] <;> first | exact fun _ => h | exact h | exact fun _ => trivial | exact trivial | exact h.elim
theorem det_lenD {t : TypeId} {x : AV} : Det (lenD TY t x) := by
 intro N h; unfold lenD at h ⊢
 repeat' split at h
 all_goals first | exact h.elim | exact ⟨_, h, by simp [*]⟩
def storeB (TY : TypeId → Option TI) (t : TypeId) (p x : AV) (H : List Blk) (N : Nat → Blk → Prop) : Prop :=
 match TY t with
 | none => False
 | some i => if storable i x then match p with
  | .ptr id j => match H[id]? with
   | some (.var cs T) => if j + i.size ≤ cs.length then N id (.var (over cs j x.cells) T) else False
   | _ => False
  | .eptr id sz e j => match H[id]? with
   | some (.row sz' len get T) => if sz = sz' then if j + i.size ≤ sz then e < len ∧ N id (.row sz len (fun k => mergeL (decide (k = e)) (over (get e) j x.cells) (get k)) T) else False else False
   | _ => False
  | _ => False
  else False
theorem storeB_storePA {t : TypeId} {p x : AV} {H : List Blk} {N : Nat → Blk → Prop} {M : List Blk → Prop} (h : storeB TY t p x H N) (hM : ∀ id b, N id b → M (H.set id b)) : storePA TY t p x H M := by
 unfold storeB at h; unfold storePA
 cases hi : TY t with
 | none => rw [hi] at h; exact h.elim
 | some i =>
  rw [hi] at h
  simp only at h ⊢
  by_cases hst : storable i x = true
  ·rw [if_pos hst] at h ⊢
   cases p <;> simp only at h ⊢ <;> first | exact h.elim | skip
   case ptr id j =>
    split at h
    ·rename_i cs T0 hcs
     simp only [hcs]
     split at h
     ·rename_i hin; rw [if_pos hin]; exact hM _ _ h
     ·exact h.elim
    ·exact h.elim
   case eptr id sz e j =>
    split at h
    ·rename_i sz' len get T0 hcs
     simp only [hcs]
     split at h
     ·rename_i hsz
      split at h
      ·rename_i hin; rw [if_pos hsz, if_pos hin]; exact ⟨h.1, hM _ _ h.2⟩
      ·exact h.elim
     ·exact h.elim
    ·exact h.elim
  ·rw [if_neg hst] at h; exact h.elim
theorem det_storeB {t : TypeId} {p x : AV} {H : List Blk} {N : Nat → Blk → Prop} (h : storeB TY t p x H N) : ∃ id b, N id b ∧ ∀ H' : List Blk, H'[id]? = H[id]? → storeB TY t p x H' (fun id' b' => id' = id ∧ b' = b) := by
 unfold storeB at h
 unfold storeB
 cases hi : TY t with
 | none => rw [hi] at h; exact h.elim
 | some i =>
  rw [hi] at h
  simp only at h ⊢
  by_cases hst : storable i x = true
  ·rw [if_pos hst] at h
   simp only [if_pos hst]
   cases p <;> simp only at h ⊢ <;> first | exact h.elim | skip
   case ptr id j =>
    split at h
    ·rename_i cs T0 hcs
     split at h
     ·rename_i hin
      refine ⟨_, _, h, fun H' hH' => ?_⟩
      simp only [hH', hcs]
      rw [if_pos hin]
      first | exact ⟨rfl, rfl⟩ | exact ⟨trivial, trivial⟩
     ·exact h.elim
    ·exact h.elim
   case eptr id sz e j =>
    split at h
    ·rename_i sz' len get T0 hcs
     split at h
     ·rename_i hsz
      split at h
      ·rename_i hin
       refine ⟨_, _, h.2, fun H' hH' => ?_⟩
       simp only [hH', hcs]
       rw [if_pos hsz, if_pos hin]
       first | exact ⟨h.1, rfl, rfl⟩ | exact ⟨h.1, trivial, trivial⟩
      ·exact h.elim
     ·exact h.elim
    ·exact h.elim
  ·rw [if_neg hst] at h; exact h.elim
def opD (TY : TypeId → Option TI) (D : PT) (wr : Bool) (slot : Nat) (op : Op) (ts : List AV) (H : List Blk) (K : AV → List (Nat × Blk) → List Nat → Prop) : Prop :=
 match op with
 | .alloc e => allocA TY e [] fun c H' => (match c, H' with | .ptr _ j, [b] => K (.ptr slot j) [(slot, b)] [] | _, _ => False)
 | .box _ x => boxA (evO ts x) [] fun c H' => (match c, H' with | .ptr _ j, [b] => K (.ptr slot j) [(slot, b)] [] | _, _ => False)
 | .buildSlice t n ps => buildSliceA TY t n (partsE ts ps) [] fun c H' => (match c, H' with | .osl _ sz o l cap, [b] => K (.osl slot sz o l cap) [(slot, b)] [] | _, _ => False)
 | .store t a x => storeB TY t (evO ts a) (evO ts x) H fun id b => K .any [(id, b)] [id]
 | .call c => (match c.callee with
  | .value f => (match evO ts f with
   | .fn g caps => (match D g with
    | some pc => frzL H (c.args.toList.map (evO ts) ++ caps) fun cs' ids => pc.T cs' fun r => (match r.flat || ids.isEmpty with | true => K r [] ids | false => False)
    | none => False)
   | _ => False)
  | .builtin .len => (match c.argTypes.toList, c.args.toList with
   | [t], [x] => lenD TY t (evO ts x) fun r => K r [] []
   | _, _ => False)
  | .builtin .cap => (match c.argTypes.toList, c.args.toList with
   | [t], [x] => capA TY t (evO ts x) fun r => K r [] []
   | _, _ => False)
  | _ => False)
 | op => opV TY wr op ts H fun r => K r [] (readsOf ts op)
theorem det_opV {wr : Bool} {op : Op} {ts : List AV} {H : List Blk} (hc : ∀ c, op ≠ .call c) : Det (opV TY wr op ts H) := by
 intro N h
 cases op <;> simp only [opV] at h ⊢ <;> (try exact h.elim)
 case move => exact ⟨_, h, rfl⟩
 case assign => exact ⟨_, h, rfl⟩
 case pick => exact det_pick _ _ _ N h
 case build => exact det_build N h
 case load => exact det_loadP N h
 case nilCheck => exact det_nilCheck N h
 case binOp => exact det_bin N h
 case unOp => exact det_un N h
 case convert => exact det_conv N h
 case makeInterface =>
  split at h
  ·split at h
   ·exact h.elim
   ·exact ⟨_, h, rfl⟩
  ·exact h.elim
 case makeFunc =>
  split at h
  ·exact ⟨_, h, by simp [*]⟩
  ·exact h.elim
 case slice =>
  split at h
  ·split at h
   ·exact h.elim
   ·obtain ⟨r, h1, h2⟩ := det_slice N h
    exact ⟨r, h1, by simp [*]⟩
  ·exact h.elim
 case fieldAddr => exact det_fieldAddr N h
 case field => exact det_field N h
 case indexAddr => exact det_indexAddr N h
 case index =>
  split at h
  ·obtain ⟨r, h1, h2⟩ := det_arrIndex N h
   exact ⟨r, h1, by simp [*]⟩
  ·obtain ⟨r, h1, h2⟩ := det_index N h
   exact ⟨r, h1, h2⟩
 case lookup => exact det_lookup N h
 case extract => exact det_extract N h
 case call c => exact absurd rfl (hc c)
theorem loadPA_congr {t : TypeId} {p : AV} {H H' : List Blk} {N : AV → Prop} (hH : ∀ id ∈ ownId p, H'[id]? = H[id]?) : loadPA TY t p H' N = loadPA TY t p H N := by
 unfold loadPA
 cases p <;> first | rfl | simp only [hH _ (show _ ∈ ownId _ from List.mem_singleton.2 rfl)]
theorem rowE_congr {x : AV} {H H' : List Blk} {K : Nat → Nat → (Nat → List AV) → Prop} (hH : ∀ id ∈ ownId x, H'[id]? = H[id]?) : rowE H' x K = rowE H x K := by
 unfold rowE
 cases x <;> first | rfl | simp only [hH _ (show _ ∈ ownId _ from List.mem_singleton.2 rfl)]
theorem convA_congr {wr : Bool} {s d : TypeId} {x : AV} {H H' : List Blk} {N : AV → Prop} (hH : ∀ id ∈ ownId x, H'[id]? = H[id]?) : convA TY wr s d x H' N = convA TY wr s d x H N := by
 have e : rowE H' x = rowE H x := funext fun K => rowE_congr hH
 unfold convA
 cases hs : TY s with
 | none => rfl
 | some i =>
  cases hd : TY d with
  | none => rfl
  | some j =>
   simp only
   cases hk : j.kind
   case str => cases x <;> simp only [e]
   case int => cases x <;> rfl
   all_goals rfl
theorem lookupA_congr {t : TypeId} {x k : AV} {ok : Bool} {H H' : List Blk} {N : AV → Prop} (hH : ∀ id ∈ ownId x, H'[id]? = H[id]?) : lookupA TY t x k ok H' N = lookupA TY t x k ok H N := by
 have e : mapOf H' x = mapOf H x := by
  unfold mapOf
  cases x <;> first | rfl | simp only [hH _ (show _ ∈ ownId _ from List.mem_singleton.2 rfl)]
 unfold lookupA
 rw [e]
theorem partsE_congr {ts ts' : List AV} {ps : Array (Nat × Operand)} (hx : ∀ x ∈ ps.map (·.2), evO ts' x = evO ts x) : partsE ts' ps = partsE ts ps := by
 unfold partsE
 refine List.map_congr_left fun p hp => ?_
 rw [hx p.2 (Array.mem_map.2 ⟨p, by simpa using hp, rfl⟩)]
theorem map_congr' {ts ts' : List AV} {xs : Array Operand} (hx : ∀ x ∈ xs, evO ts' x = evO ts x) : xs.toList.map (evO ts') = xs.toList.map (evO ts) :=
 List.map_congr_left fun x h => hx x (by simpa using h)
theorem opV_congr {wr : Bool} {op : Op} {ts ts' : List AV} {H H' : List Blk} {N : AV → Prop} (hc : ∀ c, op ≠ .call c) (hx : ∀ x ∈ op.operands, evO ts' x = evO ts x) (hH : ∀ id ∈ readsOf ts op, H'[id]? = H[id]?) :
  opV TY wr op ts' H' N = opV TY wr op ts H N := by
 cases op <;> simp only [Op.operands] at hx <;> simp only [opV]
 case move x => rw [hx x (by simp)]
 case assign x => rw [hx x (by simp)]
 case pick c x y => rw [hx c (by simp), hx x (by simp), hx y (by simp)]
 case build t ps => rw [partsE_congr fun x h => hx x (by simpa using h)]
 case load t x => rw [hx x (by simp)]; exact loadPA_congr hH
 case nilCheck x => rw [hx x (by simp)]
 case binOp op t x y yt => rw [hx x (by simp), hx y (by simp)]
 case unOp op t x => rw [hx x (by simp)]
 case convert s d x => rw [hx x (by simp)]; exact convA_congr hH
 case makeInterface t x => rw [hx x (by simp)]
 case makeFunc fn first caps => rw [map_congr' (xs := caps) fun x h => hx x (by simp [h])]
 case slice t x l h m =>
  rw [hx x (by simp)]
  have e : ∀ o : Option Operand, (∀ y, o = some y → evO ts' y = evO ts y) → o.map (evO ts') = o.map (evO ts) := fun o ho => by
   cases o with
   | none => rfl
   | some y => rw [Option.map_some, Option.map_some, ho y rfl]
  rw [e l fun y hy => hx y (by subst hy; simp), e h fun y hy => hx y (by subst hy; simp), e m fun y hy => hx y (by subst hy; simp)]
 case fieldAddr t x f => rw [hx x (by simp)]
 case field t x f => rw [hx x (by simp)]
 case indexAddr t x i => rw [hx x (by simp), hx i (by simp)]
 case index t x i => rw [hx x (by simp), hx i (by simp)]
 case lookup t x i ok => rw [hx x (by simp), hx i (by simp)]; exact lookupA_congr hH
 case extract t i => rw [hx t (by simp)]
 case call c => exact absurd rfl (hc c)
mutual
theorem frzE_some {H : List Blk} : ∀ {c : AV} {K : AV → List Nat → Prop}, frzE H c K → ∃ c' ids, K c' ids ∧ ∀ (H' : List Blk) (K' : AV → List Nat → Prop), (∀ id ∈ ids, H'[id]? = H[id]?) → K' c' ids → frzE H' c K'
 | .osl id sz off len cap, K, h => by
  simp only [frzE] at h
  split at h
  ·rename_i sz' L get T0 hcs
   split at h
   ·rename_i hsz
    refine ⟨_, _, h.2, fun H' K' hH hK => ?_⟩
    simp only [frzE, hH id (by simp), hcs]
    rw [if_pos hsz]
    exact ⟨h.1, hK⟩
   ·exact h.elim
  ·exact h.elim
 | .ptr id j, K, h => by
  simp only [frzE] at h
  split at h
  ·rename_i cs T0 hcs
   split at h
   ·rename_i hu
    refine ⟨_, _, h, fun H' K' hH hK => ?_⟩
    simp only [frzE, hH id (by simp), hcs, hu]
    exact hK
   ·exact h.elim
  ·exact h.elim
 | .eptr id sz e j, K, h => by
  simp only [frzE] at h
  split at h
  ·rename_i sz' L get T0 hcs
   split at h
   ·rename_i hsz
    refine ⟨_, _, h.2, fun H' K' hH hK => ?_⟩
    simp only [frzE, hH id (by simp), hcs]
    rw [if_pos hsz]
    exact ⟨h.1, hK⟩
   ·exact h.elim
  ·exact h.elim
 | .agg cs, K, h => by
  simp only [frzE] at h
  obtain ⟨cs', ids, h1, h2⟩ := frzL_some h
  exact ⟨_, ids, h1, fun H' K' hH hK => by simp only [frzE]; exact h2 H' _ hH hK⟩
 | .tup cs, K, h => by
  simp only [frzE] at h
  obtain ⟨cs', ids, h1, h2⟩ := frzL_some h
  exact ⟨_, ids, h1, fun H' K' hH hK => by simp only [frzE]; exact h2 H' _ hH hK⟩
 | .fn f cs, K, h => by
  simp only [frzE] at h
  obtain ⟨cs', ids, h1, h2⟩ := frzL_some h
  exact ⟨_, ids, h1, fun H' K' hH hK => by simp only [frzE]; exact h2 H' _ hH hK⟩
 | .iface t v, K, h => by
  simp only [frzE] at h
  obtain ⟨c', ids, h1, h2⟩ := frzE_some h
  exact ⟨_, ids, h1, fun H' K' hH hK => by simp only [frzE]; exact h2 H' _ hH hK⟩
 | .map _, K, h => by simp [frzE] at h
 | .iter _, K, h => by simp [frzE] at h
 | .any, K, h => ⟨_, [], (by simpa only [frzE] using h), fun H' K' hH hK => by simp only [frzE]; exact hK⟩
 | .bool _, K, h => ⟨_, [], (by simpa only [frzE] using h), fun H' K' hH hK => by simp only [frzE]; exact hK⟩
 | .int .., K, h => ⟨_, [], (by simpa only [frzE] using h), fun H' K' hH hK => by simp only [frzE]; exact hK⟩
 | .str _, K, h => ⟨_, [], (by simpa only [frzE] using h), fun H' K' hH hK => by simp only [frzE]; exact hK⟩
 | .nilp, K, h => ⟨_, [], (by simpa only [frzE] using h), fun H' K' hH hK => by simp only [frzE]; exact hK⟩
 | .rptr .., K, h => ⟨_, [], (by simpa only [frzE] using h), fun H' K' hH hK => by simp only [frzE]; exact hK⟩
 | .nilsl, K, h => ⟨_, [], (by simpa only [frzE] using h), fun H' K' hH hK => by simp only [frzE]; exact hK⟩
 | .sl .., K, h => ⟨_, [], (by simpa only [frzE] using h), fun H' K' hH hK => by simp only [frzE]; exact hK⟩
 | .nilfn, K, h => ⟨_, [], (by simpa only [frzE] using h), fun H' K' hH hK => by simp only [frzE]; exact hK⟩
 | .nilmap, K, h => ⟨_, [], (by simpa only [frzE] using h), fun H' K' hH hK => by simp only [frzE]; exact hK⟩
 | .nilif, K, h => ⟨_, [], (by simpa only [frzE] using h), fun H' K' hH hK => by simp only [frzE]; exact hK⟩
theorem frzL_some {H : List Blk} : ∀ {cs : List AV} {K : List AV → List Nat → Prop}, frzL H cs K → ∃ cs' ids, K cs' ids ∧ ∀ (H' : List Blk) (K' : List AV → List Nat → Prop), (∀ id ∈ ids, H'[id]? = H[id]?) → K' cs' ids → frzL H' cs K'
 | [], K, h => ⟨_, _, h, fun H' K' _ hK => hK⟩
 | c :: cs, K, h => by
  rw [frzL] at h
  obtain ⟨c', ids, h1, h2⟩ := frzE_some h
  obtain ⟨cs', ids', h3, h4⟩ := frzL_some h1
  refine ⟨_, _, h3, fun H' K' hH hK => ?_⟩
  rw [frzL]
  exact h2 H' _ (fun id hi => hH id (List.mem_append_left _ hi)) (h4 H' _ (fun id hi => hH id (List.mem_append_right _ hi)) hK)
end
theorem det_opD {wr : Bool} {slot : Nat} {op : Op} {ts : List AV} {H : List Blk} {K : AV → List (Nat × Blk) → List Nat → Prop} (h : opD TY D wr slot op ts H K) :
  ∃ r W R, K r W R ∧ ∀ (ts' : List AV) (H' : List Blk), (∀ x ∈ op.operands, evO ts' x = evO ts x) → (∀ id ∈ R, H'[id]? = H[id]?) →
   opD TY D wr slot op ts' H' (fun r' W' R' => r' = r ∧ W' = W ∧ R' = R) := by
 have val : (∀ c, op ≠ .call c) → (∀ ts H K, opD TY D wr slot op ts H K = opV TY wr op ts H fun r => K r [] (readsOf ts op)) → ∃ r W R, K r W R ∧ ∀ (ts' : List AV) (H' : List Blk), (∀ x ∈ op.operands, evO ts' x = evO ts x) → (∀ id ∈ R, H'[id]? = H[id]?) →
   opD TY D wr slot op ts' H' (fun r' W' R' => r' = r ∧ W' = W ∧ R' = R) := by
  intro hc e
  rw [e] at h
  obtain ⟨r, h1, h2⟩ := det_opV hc _ h
  refine ⟨r, _, _, h1, fun ts' H' hx hH => ?_⟩
  rw [e, opV_congr (ts := ts) (H := H) hc hx hH]
  have hr : readsOf ts' op = readsOf ts op := by
   cases op <;> first | rfl | (simp only [readsOf]; rw [hx _ (by simp [Op.operands])])
  have e2 : (fun r' : AV => r' = r ∧ ([] : List (Nat × Blk)) = [] ∧ readsOf ts' op = readsOf ts op) = (fun c => c = r) := by funext c; simp [hr]
  rw [e2]
  exact h2
 cases op
 case alloc e =>
  simp only [opD] at h ⊢
  unfold allocA at h ⊢
  split at h
  ·exact h.elim
  ·rename_i i hi
   simp only [hi]
   split at h
   ·exact h.elim
   ·rename_i z hz
    try simp only [hz]
    cases z <;> first | exact h.elim | exact ⟨_, _, _, h, fun ts' H' _ _ => ⟨rfl, rfl, rfl⟩⟩
 case box e x =>
  simp only [opD] at h ⊢
  have hx : ∀ ts', (∀ y ∈ (Op.box e x).operands, evO ts' y = evO ts y) → evO ts' x = evO ts x := fun ts' hx => hx x (by simp [Op.operands])
  unfold boxA at h
  split at h
  ·exact h.elim
  ·rename_i hne
   refine ⟨_, _, _, h, fun ts' H' hxs _ => ?_⟩
   rw [hx ts' hxs]
   unfold boxA
   split
   ·rename_i he; exact (hne he).elim
   ·simp
 case buildSlice t n ps =>
  simp only [opD] at h ⊢
  have hp : ∀ ts', (∀ y ∈ (Op.buildSlice t n ps).operands, evO ts' y = evO ts y) → partsE ts' ps = partsE ts ps := fun ts' hx => partsE_congr fun x hx' => hx x (by simpa [Op.operands] using hx')
  unfold buildSliceA at h
  split at h
  ·exact h.elim
  ·rename_i i hi
   split at h
   ·rename_i e hk
    split at h
    ·rename_i ei hei
     split at h
     ·rename_i z hz
      split at h
      ·rename_i hcond
       refine ⟨_, _, _, h, fun ts' H' hx _ => ?_⟩
       rw [hp ts' hx]
       unfold buildSliceA
       simp only [hi, hk, hei, hz]
       rw [if_pos hcond]
       simp
      ·exact h.elim
     ·exact h.elim
    ·exact h.elim
   ·exact h.elim
 case store t a x =>
  simp only [opD] at h ⊢
  obtain ⟨id, b, h1, h2⟩ := det_storeB h
  refine ⟨_, _, _, h1, fun ts' H' hx hH => ?_⟩
  rw [hx a (by simp [Op.operands]), hx x (by simp [Op.operands])]
  have := h2 H' (hH id (by simp))
  have e2 : (fun (id' : Nat) (b' : Blk) => AV.any = AV.any ∧ [(id', b')] = [(id, b)] ∧ [id'] = [id]) = (fun id' b' => id' = id ∧ b' = b) := by
   funext id' b'
   simp
   intro h1 _; exact h1
  rw [e2]
  exact this
 case call c =>
  obtain ⟨callee, args, argTypes⟩ := c
  have ha : ∀ ts', (∀ y ∈ (Op.call ⟨callee, args, argTypes⟩).operands, evO ts' y = evO ts y) → args.toList.map (evO ts') = args.toList.map (evO ts) := fun ts' hx => map_congr' fun x hx' => hx x (by simp [Op.operands, Call.operands, hx'])
  have one : ∀ (F : List AV → (AV → Prop) → Prop), (∀ l, Det (F l)) → (∀ ts H K, opD TY D wr slot (.call ⟨callee, args, argTypes⟩) ts H K = F (args.toList.map (evO ts)) fun r => K r [] []) →
    ∃ r W R, K r W R ∧ ∀ (ts' : List AV) (H' : List Blk), (∀ x ∈ (Op.call ⟨callee, args, argTypes⟩).operands, evO ts' x = evO ts x) → (∀ id ∈ R, H'[id]? = H[id]?) →
     opD TY D wr slot (.call ⟨callee, args, argTypes⟩) ts' H' (fun r' W' R' => r' = r ∧ W' = W ∧ R' = R) := by
   intro F hF e
   rw [e] at h
   obtain ⟨r, h1, h2⟩ := hF _ _ h
   refine ⟨r, _, _, h1, fun ts' H' hx hH => ?_⟩
   rw [e, ha ts' hx]
   have e2 : (fun r' : AV => r' = r ∧ ([] : List (Nat × Blk)) = [] ∧ ([] : List Nat) = []) = (fun c => c = r) := by funext c; simp
   rw [e2]
   exact h2
  cases callee
  case value f =>
   simp only [opD] at h ⊢
   have hf : ∀ ts', (∀ y ∈ (Op.call ⟨.value f, args, argTypes⟩).operands, evO ts' y = evO ts y) → evO ts' f = evO ts f := fun ts' hx => hx f (by simp [Op.operands, Call.operands])
   split at h
   ·rename_i g caps hg
    split at h
    ·rename_i pc hpc
     obtain ⟨cs', ids, h1, h2⟩ := frzL_some h
     obtain ⟨r, h1, h3⟩ := pc.det _ _ h1
     split at h1
     ·rename_i hfl
      refine ⟨_, _, _, h1, fun ts' H' hx hH => ?_⟩
      rw [hf ts' hx, ha ts' hx, hg]
      simp only [hpc]
      refine h2 H' _ hH ?_
      refine (congrArg (pc.T cs') (funext fun c => propext ?_)).mp h3
      constructor
      ·rintro rfl
       rw [hfl]
       simp
      ·intro h
       split at h
       ·exact h.1
       ·exact h.elim
     ·exact h1.elim
    ·exact h.elim
   ·exact h.elim
  case invoke => exact (by simp [opD] at h)
  case builtin b =>
   cases b <;> first | (simp [opD] at h; done) | skip
   case len =>
    refine one (fun l N => match argTypes.toList, l with | [t], [x] => lenD TY t x N | _, _ => False) (fun l => ?_) (fun ts H K => ?_)
    ·intro N h
     split at h
     ·exact det_lenD N h
     ·exact h.elim
    ·simp only [opD]
     cases hl : argTypes.toList with
     | nil => rfl
     | cons t l => cases l <;> cases ha : args.toList with
      | nil => rfl
      | cons x l => cases l <;> rfl
   case cap =>
    refine one (fun l N => match argTypes.toList, l with | [t], [x] => capA TY t x N | _, _ => False) (fun l => ?_) (fun ts H K => ?_)
    ·intro N h
     split at h
     ·exact det_cap N h
     ·exact h.elim
    ·simp only [opD]
     cases hl : argTypes.toList with
     | nil => rfl
     | cons t l => cases l <;> cases ha : args.toList with
      | nil => rfl
      | cons x l => cases l <;> rfl
 all_goals exact val (fun c hc => by cases hc) (fun _ _ _ => rfl)
end
end Go.Vc
namespace Go.Vc
open Go
section
variable {F : Nat → Obj → Prop} {P : Program} {TY : TypeId → Option TI} {D : PT} {ρ : Nat → Option Nat} {S : Nat → Prop} {w : World}
theorem ext_allocAt {n : Nat} (hn : ρ n = none) (o : Obj) : Ext ρ S w (newρ ρ n w.heap.size) S (w.alloc o) := {
 rho i b hi := by
  unfold newρ
  rw [if_neg (by rintro rfl; rw [hn] at hi; cases hi)]; exact hi
 st _ hb := hb
 same b hb _ := heap_alloc_lt w o hb
 size := by simp
 shp b arr T fr hb := ⟨arr, fr, (heap_alloc_lt w o (lt_of_some hb)).trans hb, rfl⟩
 fresh i b hi := by
  unfold newρ at hi
  split at hi
  ·cases hi; exact .inr (Nat.le_refl _)
  ·exact .inl ⟨_, hi⟩
 stf _ hb := .inl hb
 os := rfl
 tape := rfl
 output := rfl }
theorem hrel_allocAt {H : List Blk} (h : HRel ρ S w H) {n : Nat} (hn : ρ n = none) (hlt : n < H.length) (o : Obj) {blk : Blk} (hb : BRel (newρ ρ n w.heap.size) S (w.alloc o) n blk) :
  HRel (newρ ρ n w.heap.size) S (w.alloc o) (H.set n blk) := {
 inj i j bi bj b hi hj li lj ri rj := by
  unfold newρ at ri rj
  split at ri <;> split at rj
  ·omega
  ·cases ri
   have := (h.out j _ rj).2
   omega
  ·cases rj
   have := (h.out i _ ri).2
   omega
  ·rw [List.getElem?_set_ne (by omega)] at hi hj
   exact h.inj i j bi bj b hi hj li lj ri rj
 blk i b hi := by
  by_cases hin : n = i
  ·subst hin
   rw [List.getElem?_set, if_pos rfl, if_pos hlt] at hi
   cases hi
   exact hb
  ·rw [List.getElem?_set_ne hin] at hi
   refine (h.blk i b hi).keep (ext_allocAt hn o) fun b' hb' => ?_
   unfold newρ at hb'
   rw [if_neg (fun e => hin e.symm)] at hb'
   exact ⟨hb', heap_alloc_lt w o (h.out i b' hb').2, fun h => h⟩
 out i b hi := by
  unfold newρ at hi
  simp only [List.length_set, World.size_alloc]
  split at hi
  ·cases hi; omega
  ·have := h.out i b hi; omega }
theorem brel_varAt {n : Nat} (hn0 : ρ n = none) (hns : ∀ b, S b → b < w.heap.size) {c : AV} {v : Value} (hn : c ≠ .any) (h : V ρ S w c v) (T : TypeId) {T1 : Option Nat} (hT : tyOr T1 T = T) :
  BRel (newρ ρ n w.heap.size) S (w.alloc (.cells v.cells T)) n (.var c.cells T1) := by
 intro b hb
 rw [newρ_at] at hb
 cases hb
 obtain ⟨h1, h2⟩ := h.cells hn
 exact ⟨fun hs => Nat.lt_irrefl _ (hns _ hs), v.cells, T, (0, 0), by rw [hT]; exact heap_alloc_at w _, h1.symm, fun o _ => frozen_alloc_new w _ _ o, fun j c v hc hv => (h2 j c v hc hv).mono (ext_allocAt hn0 _)⟩
theorem brel_rowAt {m : Nat} (hn0 : ρ m = none) (hns : ∀ b, S b → b < w.heap.size) {sz n : Nat} {get : Nat → List AV} {arr : Array Value} (hs : n * sz ≤ arr.size) (h : ERel ρ S w sz n get arr) (T : TypeId) {T1 : Option Nat} (hT : tyOr T1 T = T) :
  BRel (newρ ρ m w.heap.size) S (w.alloc (.cells arr T)) m (.row sz n get T1) := by
 intro b hb
 rw [newρ_at] at hb
 cases hb
 exact ⟨fun hs => Nat.lt_irrefl _ (hns _ hs), arr, T, (0, 0), by rw [hT]; exact heap_alloc_at w _, hs, fun o _ => frozen_alloc_new w _ _ o, h.1, fun e j c v he hc hv => (h.2 e j c v he hc hv).mono (ext_allocAt hn0 _)⟩
theorem newρ_in {n b0 i b : Nat} (h : newρ ρ n b0 i = some b) : ρ i = some b ∨ i = n := by
 unfold newρ at h
 split at h
 ·exact .inr (by assumption)
 ·exact .inl h
theorem opD_sound (hTY : TyOk P TY) (hD : PTOk F P D) {st : St} {a : Act} (hR : RelX F ρ S st a w) {slot : Nat} (hslot : slot < st.heap.length) (hρ : ρ slot = none) {wr : Bool} (o : Oper)
  {K : AV → List (Nat × Blk) → List Nat → Prop} (h : opD TY D wr slot o.op st.tmps st.heap K) {Q : Exit → Act → World → Prop} :
  o.wp P a w (fun a' w' => ∃ r W R ρ' S', K r W R ∧ RelX F ρ' S' ⟨put st.tmps o.dst r, setAll st.heap W⟩ a' w' ∧ Ext ρ S w ρ' S' w' ∧ ∀ id b, ρ' id = some b → ρ id = some b ∨ id = slot) Q := by
 have fin : ∀ v w' r W R ρ', (execOp a.eval o).run P w = .ok (.value v) w' → K r W R → V ρ' S w' r v → HRel ρ' S w' (setAll st.heap W) → Ext ρ S w ρ' S w' → (∀ id b, ρ' id = some b → ρ id = some b ∨ id = slot) →
   o.wp P a w (fun a' w' => ∃ r W R ρ' S', K r W R ∧ RelX F ρ' S' ⟨put st.tmps o.dst r, setAll st.heap W⟩ a' w' ∧ Ext ρ S w ρ' S' w' ∧ ∀ id b, ρ' id = some b → ρ id = some b ∨ id = slot) Q := by
  intro v w' r W R ρ' h1 h2 h3 h4 h5 h6
  unfold Oper.wp
  rw [h1]
  exact ⟨r, W, R, ρ', S, h2, Rel.put hR h5 (hR.sok.still h5) h4 h3 _, h5, h6⟩
 have finS : ∀ w' W R, (execOp a.eval o).run P w = .ok .skip w' → K .any W R → HRel ρ S w' (setAll st.heap W) → Ext ρ S w ρ S w' →
   o.wp P a w (fun a' w' => ∃ r W R ρ' S', K r W R ∧ RelX F ρ' S' ⟨put st.tmps o.dst r, setAll st.heap W⟩ a' w' ∧ Ext ρ S w ρ' S' w' ∧ ∀ id b, ρ' id = some b → ρ id = some b ∨ id = slot) Q := by
  intro w' W R h1 h2 h4 h5
  unfold Oper.wp
  rw [h1]
  exact ⟨.any, W, R, ρ, S, h2, Rel.put hR h5 (hR.sok.still h5) h4 (.any _) _, h5, fun _ _ h => .inl h⟩
 have val : ∀ N : AV → Prop, opV TY wr o.op st.tmps st.heap N → (∀ r, N r → ∃ R, K r [] R) → o.wp P a w (fun a' w' => ∃ r W R ρ' S', K r W R ∧ RelX F ρ' S' ⟨put st.tmps o.dst r, setAll st.heap W⟩ a' w' ∧ Ext ρ S w ρ' S' w' ∧ ∀ id b, ρ' id = some b → ρ id = some b ∨ id = slot) Q := by
  intro N hv hN
  obtain ⟨v, c, h1, h2, h3⟩ := opV_sound hTY hR.heap hR.tmps o hv
  obtain ⟨R, hK⟩ := hN c h2
  exact fin v w c [] R ρ h1 hK h3 hR.heap (Ext.refl _ _ _) (fun _ _ h => .inl h)
 obtain ⟨dst, op, type, pos, after, guard⟩ := o
 simp only at h val
 cases op
 case alloc e =>
  simp only [opD] at h
  unfold allocA at h
  split at h
  ·exact h.elim
  ·rename_i i hi
   split at h
   ·exact h.elim
   ·rename_i z hz
    obtain ⟨v, hv, rfl⟩ := hTY.zero hi hz
    have hn : AV.ofC v ≠ .any := by intro he; rw [he] at h; exact h
    have h' : K (.ptr slot 0) [(slot, .var (AV.ofC v).cells (some e))] [] := by
     generalize AV.ofC v = z at h hn
     cases z <;> first | exact h | exact absurd rfl hn
    have hrun : (Instr.alloc e true (.tuple #[])).run P w = .ok (.pointer (some ⟨w.heap.size, 0, none⟩)) (w.alloc (.cells v.cells e)) := by simp [Instr.alloc, hv, newVar, newRow]
    refine fin _ _ _ _ _ _ (show (do pure (Next.value (← Instr.alloc e true (.tuple #[]))) : Sem Next).run P w = _ by simp [hrun]) h' (.ptr _ _ _ (newρ_at _ _)) (hrel_allocAt hR.heap hρ hslot _ (brel_varAt hρ hR.sok.lt hn (V.ofC v) e rfl)) (ext_allocAt hρ _) (fun _ _ h => newρ_in h)
 case box e x =>
  simp only [opD] at h
  have hn : evO st.tmps x ≠ .any := by intro he; rw [he] at h; exact h
  have h' : K (.ptr slot 0) [(slot, .var (evO st.tmps x).cells)] [] := by
   generalize evO st.tmps x = z at h hn
   cases z <;> first | exact h | exact absurd rfl hn
  have hrun : (Instr.box e (a.eval x)).run P w = .ok (.pointer (some ⟨w.heap.size, 0, none⟩)) (w.alloc (.cells (a.eval x).cells e)) := by simp [Instr.box, newVar, newRow]
  refine fin _ _ _ _ _ _ (show (do pure (Next.value (← Instr.box e (a.eval x))) : Sem Next).run P w = _ by simp [hrun]) h' (.ptr _ _ _ (newρ_at _ _)) (hrel_allocAt hR.heap hρ hslot _ (brel_varAt hρ hR.sok.lt hn (hR.tmps.eval x) e rfl)) (ext_allocAt hρ _) (fun _ _ h => newρ_in h)
 case buildSlice t n ps =>
  simp only [opD] at h
  obtain ⟨sz, get, arr, e, hN, hsz, hn16, hrel, hrun⟩ := buildSlice_run hTY hR.tmps h
  refine fin _ _ _ _ _ _ (show (do pure (Next.value (← Instr.buildSlice t n (ps.map fun p => (p.1, a.eval p.2)))) : Sem Next).run P w = _ by simp [hrun]; rfl) hN ?_ (hrel_allocAt hR.heap hρ hslot _ (brel_rowAt hρ hR.sok.lt (by omega) hrel e rfl)) (ext_allocAt hρ _) (fun _ _ h => newρ_in h)
  exact .osl _ _ _ _ _ _ _ _ (newρ_at _ _) (Nat.le_refl _) (by rw [maxLen_eq]; omega) (fun _ => by simp) ⟨arr, e, (0, 0), heap_alloc_at w _, by rw [Nat.zero_add]; omega⟩ (fun c hc => by cases hc; rfl)
 case store t p x =>
  simp only [opD] at h
  have := storeB_storePA (M := fun H' => ∃ id b, H' = st.heap.set id b ∧ K .any [(id, b)] [id]) h (fun id b hN => ⟨id, b, rfl, hN⟩)
  obtain ⟨w', H', h1, ⟨id, b, rfl, h2⟩, h3, h4⟩ := storePA_sound hTY hR.heap (hR.tmps.eval p) (hR.tmps.eval x) this
  exact finS w' [(id, b)] [id] (show (do Instr.storeAt t (a.eval p) (a.eval x); pure .skip : Sem Next).run P w = _ by simp [h1]) h2 h3 h4
 case call c =>
  obtain ⟨callee, args, argTypes⟩ := c
  cases callee
  case value f =>
   simp only [opD] at h
   split at h
   ·rename_i g caps hg
    split at h
    ·rename_i pc hpc
     obtain ⟨hent, hgood⟩ := hD g pc hpc
     have hfv := hR.tmps.eval f
     rw [hg] at hfv
     cases hev : a.eval f <;> rw [hev] at hfv <;> cases hfv
     rename_i vs hl hv
     have hrun : (execOp a.eval ⟨dst, .call ⟨.value f, args, argTypes⟩, type, pos, after, guard⟩).run P w = .ok (.enter g (args.map a.eval ++ vs)) w := by
      unfold execOp
      simp only [resolve, hev, Deferred.ofValue, Sem.run_bind, Sem.run_pure, Result.andThen_ok, invoke, Array.empty_append]
      exact hent _ w
     have hVL : VL ρ S w (args.toList.map (evO st.tmps) ++ caps) (args.map a.eval ++ vs) := by
      refine ⟨by simp [hl], fun i c' v' hc' hv' => ?_⟩
      by_cases hlt : i < args.size
      ·rw [List.getElem?_append_left (by simpa using hlt), List.getElem?_map] at hc'
       rw [Array.getElem?_append_left (by simpa using hlt), Array.getElem?_map] at hv'
       rw [show args.toList[i]? = args[i]? by simp] at hc'
       cases hi : args[i]? with
       | none => rw [hi] at hc'; cases hc'
       | some x =>
        rw [hi] at hc' hv'
        cases hc'; cases hv'
        exact hR.tmps.eval x
      ·rw [List.getElem?_append_right (by simp; omega)] at hc'
       rw [Array.getElem?_append_right (by simp; omega)] at hv'
       simp only [List.length_map, Array.length_toList] at hc'
       simp only [Array.size_map] at hv'
       exact hv _ _ _ hc' hv'
     obtain ⟨cs', ids, h1, hv', hlv⟩ := frzL_spec hR.heap h hVL
     unfold Oper.wp
     rw [hrun, Oper.upon_enter]
     refine (hgood (addS ρ S ids) w cs' _ _ (addS_sok hR.heap hR.sok ids) hv' h1).mono ?_
     rintro e w' ⟨v, r, S', rfl, h1, k1, k2, k3⟩
     split at h1
     ·rename_i hfl
      by_cases hf : r.flat = true
      ·obtain ⟨m1, m2⟩ := hrel_behind_flat hR.heap k2
       exact ⟨_, [], ids, ρ, S, h1, Rel.put hR m2 (hR.sok.still m2) m1 (k1.flatR hf) _, m2, fun _ _ h => .inl h⟩
      ·have he : ids = [] := by
        rw [Bool.or_eq_true] at hfl
        rcases hfl with hfl | hfl
        ·exact absurd hfl hf
        ·simpa using hfl
       subst he
       obtain ⟨m1, m2⟩ := hrel_behind hR.heap hlv k2
       exact ⟨_, [], [], ρ, S', h1, Rel.put hR m2 k3 m1 k1.lift _, m2, fun _ _ h => .inl h⟩
     ·exact h1.elim
    ·exact h.elim
   ·exact h.elim
  case invoke => simp [opD] at h
  case builtin b =>
   cases b <;> first | (simp [opD] at h; done) | skip
   case len =>
    simp only [opD] at h
    split at h
    ·rename_i t x ht hx
     refine val (fun r => K r [] []) ?_ (fun r hr => ⟨[], hr⟩)
     simp only [opV, valueB, builtinA, ht, hx, List.map_cons, List.map_nil]
     exact lenD_lenA h
    ·exact h.elim
   case cap =>
    simp only [opD] at h
    split at h
    ·rename_i t x ht hx
     refine val (fun r => K r [] []) ?_ (fun r hr => ⟨[], hr⟩)
     simp only [opV, valueB, builtinA, ht, hx, List.map_cons, List.map_nil]
     exact h
    ·exact h.elim
 all_goals (simp only [opD] at h; exact val _ h (fun r hr => ⟨_, hr⟩))
end
end Go.Vc
