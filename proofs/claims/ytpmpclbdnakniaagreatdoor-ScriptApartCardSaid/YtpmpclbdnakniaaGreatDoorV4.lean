/- Regions that draw their order, seven: what turns memory is called in one order; what is only looked at may be looked at sooner or later. -/
import Derived.Test.YtpmpclbdnakniaaGreatDoorV3
import Derived.Test.YtpmpclbdnakniaaGreatDoorProg
set_option linter.all false
set_option linter.unusedVariables false
set_option linter.unusedSimpArgs false
namespace Go.Vc
open Go
/-- What yields a value alone. -/
def pureOp : Op → Bool
  | .move _ => true
  | .assign _ => true
  | .pick .. => true
  | .build .. => true
  | .load .. => true
  | .nilCheck _ => true
  | .binOp .. => true
  | .unOp .. => true
  | .convert .. => true
  | .makeInterface .. => true
  | .makeFunc .. => true
  | .slice .. => true
  | .fieldAddr .. => true
  | .field .. => true
  | .indexAddr .. => true
  | .index .. => true
  | .lookup .. => true
  | .extract .. => true
  | .call c => (match c.callee with | .builtin b => (match b with | .len => true | _ => false) | _ => false)
  | _ => false
def opQ (TY : TypeId → Option TI) (wr : Bool) (op : Op) (ts : List AV) (H : List Blk) (N : AV → Prop) : Prop :=
  match op with
  | .call c => (match c.callee with
    | .builtin b => (match b with
      | .len => (match c.argTypes.toList, c.args.toList.map (evO ts) with | [t], [x] => lenD TY t x N | _, _ => False)
      | _ => False)
    | _ => False)
  | op => opV TY wr op ts H N
def effQ (TY : TypeId → Option TI) (C : FuncId → Option Ctr) (wr : Tmp → Bool) (o : Oper) (ts : List AV) (H : List Blk) (M : AV → List Blk → Prop) : Prop :=
  match o.op with
  | .call c => (match c.callee with
    | .value f => (match evO ts f with
      | .fn g caps => (match C g with
        | some K => K (c.args.toList.map (evO ts) ++ caps) H M
        | none => False)
      | _ => False)
    | .builtin b => builtinA TY b c.argTypes.toList (c.args.toList.map (evO ts)) H M
    | _ => False)
  | op => opA TY (match o.dst with | some d => wr d | none => false) op ts H M
structure PE where
  i : Nat
  ts : List AV
  r : AV
def pendOk (TY : TypeId → Option TI) (wr : Tmp → Bool) (ops : Array Oper) (cl : List Nat) (j : Nat) (H : List Blk) (l : List PE) : Prop → Prop :=
  List.rec (motive := fun _ => Prop → Prop) (fun X => X)
    (fun pe _ ih X => match hasAnc cl j pe.i with
      | true => ih X
      | false => (match ops[pe.i]? with
        | some o => opQ TY (wrOf wr o) o.op pe.ts H (fun r => r = pe.r) ∧ ih X
        | none => False)) l
/-- One operation, whether it looks only or turns memory. -/
def bodyQ (TY : TypeId → Option TI) (C : FuncId → Option Ctr) (wr : Tmp → Bool) (ops : Array Oper) (cl : List Nat) (j : Nat) (ih : List PE → St → (St → Prop) → Prop) (pend : List PE) (st : St) (Q : St → Prop) : Prop :=
      match ops[j]? with
      | none => False
      | some o => (match pureOp o.op with
        | true => (match o.guard with
          | none => opQ TY (wrOf wr o) o.op st.tmps st.heap fun r => fcSt st.tmps o.dst r st.heap fun st1 => ih (⟨j, st.tmps, r⟩ :: pend) st1 Q
          | some (g, want) => (match tmpOf ops g with
            | none => False
            | some t => (match st.tmps[t]? with
              | some (.bool b) => (match b with
                | true => (match want with
                  | true => setF (fun ts => opQ TY (wrOf wr o) o.op ts st.heap fun r => fcSt ts o.dst r st.heap fun st1 => ih (⟨j, ts, r⟩ :: pend) st1 Q) (.bool true) st.tmps t
                  | false => fcSt (st.tmps.set t (.bool true)) o.dst (.tup []) st.heap fun st1 => ih pend st1 Q)
                | false => (match want with
                  | false => setF (fun ts => opQ TY (wrOf wr o) o.op ts st.heap fun r => fcSt ts o.dst r st.heap fun st1 => ih (⟨j, ts, r⟩ :: pend) st1 Q) (.bool false) st.tmps t
                  | true => fcSt (st.tmps.set t (.bool false)) o.dst (.tup []) st.heap fun st1 => ih pend st1 Q))
              | some (.tup cs) => (match cs with
                | [] => fcSt (st.tmps.set t (.tup [])) o.dst (.tup []) st.heap fun st1 => ih pend st1 Q
                | _ => False)
              | _ => False)))
        | false => (match o.guard with
          | none => effQ TY C wr o st.tmps st.heap fun r H' => fcSt st.tmps o.dst r H' fun st1 => pendOk TY wr ops cl j st1.heap pend (ih pend st1 Q)
          | some (g, want) => (match tmpOf ops g with
            | none => False
            | some t => (match st.tmps[t]? with
              | some (.bool b) => (match b with
                | true => (match want with
                  | true => setF (fun ts => effQ TY C wr o ts st.heap fun r H' => fcSt ts o.dst r H' fun st1 => pendOk TY wr ops cl j st1.heap pend (ih pend st1 Q)) (.bool true) st.tmps t
                  | false => fcSt (st.tmps.set t (.bool true)) o.dst (.tup []) st.heap fun st1 => ih pend st1 Q)
                | false => (match want with
                  | false => setF (fun ts => effQ TY C wr o ts st.heap fun r H' => fcSt ts o.dst r H' fun st1 => pendOk TY wr ops cl j st1.heap pend (ih pend st1 Q)) (.bool false) st.tmps t
                  | true => fcSt (st.tmps.set t (.bool false)) o.dst (.tup []) st.heap fun st1 => ih pend st1 Q))
              | some (.tup cs) => (match cs with
                | [] => fcSt (st.tmps.set t (.tup [])) o.dst (.tup []) st.heap fun st1 => ih pend st1 Q
                | _ => False)
              | _ => False))))
/-- One after another, in an order that is given. -/
def runQ (TY : TypeId → Option TI) (C : FuncId → Option Ctr) (wr : Tmp → Bool) (ops : Array Oper) (cl : List Nat) (l : List Nat) : List PE → St → (St → Prop) → Prop :=
  List.rec (motive := fun _ => List PE → St → (St → Prop) → Prop) (fun _ st Q => Q st)
    (fun j _ ih => bodyQ TY C wr ops cl j ih) l
def conflT (ops : Array Oper) (oi oj : Oper) : Bool :=
  (match oi.dst with | some d => (oj.looksAt ops).contains d || oj.dst == some d | none => false) ||
  (match oj.dst with | some d => (oi.looksAt ops).contains d | none => false)
def effAt (ops : Array Oper) (j : Nat) : Bool := match ops[j]? with | some o => !pureOp o.op | none => false
def pairOk (ops : Array Oper) (cl : List Nat) (i j : Nat) : Bool :=
  hasAnc cl j i || (!effAt ops i && (match ops[i]?, ops[j]? with | some oi, some oj => !conflT ops oi oj | _, _ => false))
def okPairs (ops : Array Oper) (cl : List Nat) : List Nat → Bool
  | [] => true
  | i :: l => l.all (fun j => pairOk ops cl i j) && (!l.contains i && okPairs ops cl l)
def okQ (ops : Array Oper) (l : List Nat) : Bool :=
  okBack ops && ((List.range ops.size).all (fun j => l.contains j) && (l.all (fun j => decide (j < ops.size)) && okPairs ops (clos [] ops.toList) l))
def drawQ (TY : TypeId → Option TI) (C : FuncId → Option Ctr) (wr : Tmp → Bool) (ops : Array Oper) (l : List Nat) (st : St) (N : St → Prop) : Prop :=
  okQ ops l = true ∧ runQ TY C wr ops (clos [] ops.toList) l [] st N
section
variable {F : Nat → Obj → Prop} {P : Program} {TY : TypeId → Option TI} {C : FuncId → Option Ctr} {D : PT} {wr : Tmp → Bool} {ops : Array Oper} {cl : List Nat} {ρ : Nat → Option Nat} {S : Nat → Prop} {w0 w : World}
theorem opQ_opV {wr : Bool} {op : Op} {ts : List AV} {H : List Blk} {N : AV → Prop} (h : opQ TY wr op ts H N) : opV TY wr op ts H N := by
  unfold opQ at h
  split at h
  · rename_i c
    unfold opV
    split at h
    · rename_i b hb
      split at h
      · split at h
        · rename_i t x h1 h2
          simp only [hb, h1, h2, valueB, builtinA]
          exact lenD_lenA h
        · exact h.elim
      · exact h.elim
    · exact h.elim
  · exact h
theorem det_opQ {wr : Bool} {op : Op} {ts : List AV} {H : List Blk} : Det (opQ TY wr op ts H) := by
  intro N h
  unfold opQ at h ⊢
  split at h
  · split at h
    · split at h
      · split at h
        · exact det_lenD N h
        · exact h.elim
      · exact h.elim
    · exact h.elim
  · rename_i hc
    obtain ⟨r, h1, h2⟩ := det_opV hc N h
    exact ⟨r, h1, h2⟩
theorem opQ_congr {wr : Bool} {op : Op} {ts ts' : List AV} {H : List Blk} {N : AV → Prop} (hx : ∀ x ∈ op.operands, evO ts' x = evO ts x) (h : opQ TY wr op ts H N) : opQ TY wr op ts' H N := by
  unfold opQ at h ⊢
  split at h
  · rename_i c
    rw [map_congr' (xs := c.args) (ts := ts) (ts' := ts') fun x hx' => hx x (by simp [Op.operands, Call.operands, hx'])]
    exact h
  · rename_i hc
    rw [opV_congr (H' := H) hc hx (fun id _ => rfl)]; exact h
theorem optmap_congr {ts ts' : List AV} (o : Option Operand) (ho : ∀ y, o = some y → evO ts' y = evO ts y) : o.map (evO ts') = o.map (evO ts) := by
  cases o with
  | none => rfl
  | some y => rw [Option.map_some, Option.map_some, ho y rfl]
theorem opA_congr {wr : Bool} {op : Op} {ts ts' : List AV} {H : List Blk} {N : AV → List Blk → Prop} (hc : ∀ c, op ≠ .call c) (hx : ∀ x ∈ op.operands, evO ts' x = evO ts x) : opA TY wr op ts' H N = opA TY wr op ts H N := by
  cases op <;> simp only [Op.operands] at hx <;> simp only [opA]
  case move x => rw [hx x (by simp)]
  case assign x => rw [hx x (by simp)]
  case pick c x y => rw [hx c (by simp), hx x (by simp), hx y (by simp)]
  case box e x => rw [hx x (by simp)]
  case build t ps => rw [partsE_congr fun x h => hx x (by simpa using h)]
  case buildSlice t n ps => rw [partsE_congr fun x h => hx x (by simpa using h)]
  case insert t m k x => rw [hx m (by simp), hx k (by simp), hx x (by simp)]
  case mapUpdate t m k x => rw [hx m (by simp), hx k (by simp), hx x (by simp)]
  case load t x => rw [hx x (by simp)]
  case store t a x => rw [hx a (by simp), hx x (by simp)]
  case nilCheck x => rw [hx x (by simp)]
  case binOp op t x y yt => rw [hx x (by simp), hx y (by simp)]
  case unOp op t x => rw [hx x (by simp)]
  case convert s d x => rw [hx x (by simp)]
  case makeInterface t x => rw [hx x (by simp)]
  case makeFunc fn first caps => rw [map_congr' (xs := caps) fun x h => hx x (by simp [h])]
  case makeMap t r => cases r <;> rfl
  case makeSlice t l c => rw [hx l (by simp), hx c (by simp)]
  case slice t x l h m =>
    rw [hx x (by simp)]
    rw [optmap_congr l fun y hy => hx y (by subst hy; simp), optmap_congr h fun y hy => hx y (by subst hy; simp), optmap_congr m fun y hy => hx y (by subst hy; simp)]
  case fieldAddr t x f => rw [hx x (by simp)]
  case field t x f => rw [hx x (by simp)]
  case indexAddr t x i => rw [hx x (by simp), hx i (by simp)]
  case index t x i => rw [hx x (by simp), hx i (by simp)]
  case lookup t x i ok => rw [hx x (by simp), hx i (by simp)]
  case range t x => rw [hx x (by simp)]
  case next x b => rw [hx x (by simp)]
  case extract t i => rw [hx t (by simp)]
  case call c => exact absurd rfl (hc _)
theorem effQ_congr {o : Oper} {ts ts' : List AV} {H : List Blk} {M : AV → List Blk → Prop} (hx : ∀ x ∈ o.op.operands, evO ts' x = evO ts x) (h : effQ TY C wr o ts H M) : effQ TY C wr o ts' H M := by
  unfold effQ at h ⊢
  split at h
  · rename_i c hop
    rw [hop] at hx
    rw [map_congr' (xs := c.args) (ts := ts) (ts' := ts') fun x hx' => hx x (by simp [Op.operands, Call.operands, hx'])]
    split at h
    · rename_i f hf
      rw [hx f (by simp [Op.operands, Call.operands, hf])]
      exact h
    · exact h
    · exact h.elim
  · rename_i hc
    rw [opA_congr (fun c e => hc c e) hx]; exact h
theorem effQ_sound (hTY : TyOk P TY) (hC : CtrOk F P C) (o : Oper) {ts : List AV} {H : List Blk} {a : Act} (hR : RelX F ρ S ⟨ts, H⟩ a w) {M : AV → List Blk → Prop} {Q : Exit → Act → World → Prop} (h : effQ TY C wr o ts H M) :
    o.wp P a w (fun a' w' => ∃ r H' ρ' S', M r H' ∧ RelX F ρ' S' ⟨put ts o.dst r, H'⟩ a' w' ∧ Ext ρ S w ρ' S' w') Q := by
  have plain : OpOk P ρ S w (execOp a.eval o) M → o.wp P a w (fun a' w' => ∃ r H' ρ' S', M r H' ∧ RelX F ρ' S' ⟨put ts o.dst r, H'⟩ a' w' ∧ Ext ρ S w ρ' S' w') Q := by
    intro hok
    obtain ⟨v, w', c, H', ρ', h1, h2, h3, h4, h5⟩ := hok
    have hs' : Sok F S w' := hR.sok.still h5
    unfold Oper.wp
    rcases h1 with h1 | ⟨h1, rfl⟩
    · rw [h1]
      exact ⟨c, H', ρ', S, h2, Rel.put hR h5 hs' h4 h3 _, h5⟩
    · rw [h1]
      exact ⟨c, H', ρ', S, h2, Rel.put hR h5 hs' h4 h3 _, h5⟩
  unfold effQ at h
  split at h
  · rename_i c hop
    split at h
    · rename_i f hf
      split at h
      · rename_i g caps hg
        split at h
        · rename_i K hK
          obtain ⟨hent, hgood⟩ := hC g K hK
          have hfv := hR.tmps.eval f
          rw [hg] at hfv
          cases hev : a.eval f <;> rw [hev] at hfv <;> cases hfv
          rename_i vs hl hv
          have hrun : (execOp a.eval o).run P w = .ok (.enter g (c.args.map a.eval ++ vs)) w := by
            unfold execOp
            rw [hop]
            simp only [resolve, hf, hev, Deferred.ofValue, Sem.run_bind, Sem.run_pure, Result.andThen_ok, invoke, Array.empty_append]
            exact hent _ w
          unfold Oper.wp
          rw [hrun, Oper.upon_enter]
          refine (hgood ρ S w H _ _ _ hR.sok hR.heap ⟨by simp [hl], fun i c' v' hc' hv' => ?_⟩ h).mono ?_
          · by_cases hlt : i < c.args.size
            · rw [List.getElem?_append_left (by simpa using hlt), List.getElem?_map] at hc'
              rw [Array.getElem?_append_left (by simpa using hlt), Array.getElem?_map] at hv'
              rw [show c.args.toList[i]? = c.args[i]? by simp] at hc'
              cases hi : c.args[i]? with
              | none => rw [hi] at hc'; cases hc'
              | some x =>
                rw [hi] at hc' hv'
                cases hc'; cases hv'
                exact hR.tmps.eval x
            · rw [List.getElem?_append_right (by simp; omega)] at hc'
              rw [Array.getElem?_append_right (by simp; omega)] at hv'
              simp only [List.length_map, Array.length_toList] at hc'
              simp only [Array.size_map] at hv'
              exact hv _ _ _ hc' hv'
          · rintro e w' ⟨v, c', H', ρ', S', rfl, hN, hv', hH', hE, hs'⟩
            exact ⟨c', H', ρ', S', hN, Rel.put hR hE hs' hH' hv' _, hE⟩
        · exact h.elim
      · exact h.elim
    · rename_i b hb
      refine plain (opA_sound hTY hR.sok.lt hR.heap hR.tmps (wr := false) o (N := M) ?_)
      rw [hop]
      simp only [opA, hb]
      exact h
    · exact h.elim
  · exact plain (opA_sound hTY hR.sok.lt hR.heap hR.tmps o (N := M) h)
/-! ### The trace -/
def RunsQ (TY : TypeId → Option TI) (wr : Tmp → Bool) (o : Oper) (r : AV) (ts : List AV) (H : List Blk) : Prop :=
  ∀ ts' : List AV, (∀ x ∈ o.op.operands, evO ts' x = evO ts x) → opQ TY (wrOf wr o) o.op ts' H (fun c => c = r)
def GuardQ (TY : TypeId → Option TI) (wr : Tmp → Bool) (ops : Array Oper) (pend : List PE) (o : Oper) (j : Nat) (te : TE) (ts : List AV) (H : List Blk) : Prop :=
  match o.guard with
  | none => RunsQ TY wr o te.r ts H ∧ ⟨j, ts, te.r⟩ ∈ pend
  | some (g, want) => ∃ t c, tmpOf ops g = some t ∧ ts[t]? = some c ∧ ((c = .bool want ∧ RunsQ TY wr o te.r ts H ∧ ⟨j, ts, te.r⟩ ∈ pend) ∨ ((c = .bool (!want) ∨ c = .tup []) ∧ te.r = .tup []))
def StepQ (TY : TypeId → Option TI) (wr : Tmp → Bool) (ops : Array Oper) (pend : List PE) (o : Oper) (j : Nat) (te : TE) (ts : List AV) (H : List Blk) : Prop :=
  te.dst = o.dst ∧ GuardQ TY wr ops pend o j te ts H
theorem GuardQ.mono {pend pend' : List PE} {o : Oper} {j : Nat} {te : TE} {ts : List AV} {H : List Blk} (hp : ∀ pe ∈ pend, pe ∈ pend') (h : GuardQ TY wr ops pend o j te ts H) : GuardQ TY wr ops pend' o j te ts H := by
  unfold GuardQ at h ⊢
  split at h
  · exact ⟨h.1, hp _ h.2⟩
  · obtain ⟨t, c, h1, h2, h3⟩ := h
    refine ⟨t, c, h1, h2, ?_⟩
    rcases h3 with ⟨h4, h5, h6⟩ | h4
    · exact .inl ⟨h4, h5, hp _ h6⟩
    · exact .inr h4
theorem runs_of {o : Oper} {ts : List AV} {H : List Blk} {N : AV → Prop} (h : opQ TY (wrOf wr o) o.op ts H N) : ∃ r, N r ∧ RunsQ TY wr o r ts H := by
  obtain ⟨r, h1, h2⟩ := det_opQ N h
  exact ⟨r, h1, fun ts' hx => opQ_congr hx h2⟩
theorem ov_app {α : Type} {Dn : Nat → Bool} : ∀ (ws ws' : List (List (Nat × α))) (i : Nat) (b : List α), ov Dn i (ws ++ ws') b = ov Dn (i + ws.length) ws' (ov Dn i ws b)
  | [], ws', i, b => by simp [ov]
  | w :: ws, ws', i, b => by
    rw [List.cons_append, ov, ov, ov_app ws ws' (i + 1), List.length_cons, show i + 1 + ws.length = i + (ws.length + 1) by omega]
theorem ov_from {α : Type} {Dn : Nat → Bool} : ∀ (k : Nat) (ws : List (List (Nat × α))) (b : List α), ov Dn k ws b = ov (fun m => Dn (k + m)) 0 ws b
  | 0, ws, b => by simp
  | k + 1, ws, b => by
    rw [ov_shift, ov_from k]
    congr 1
    funext m
    rw [show k + m + 1 = k + 1 + m by omega]
theorem ov_off {α : Type} {Dn : Nat → Bool} : ∀ (ws : List (List (Nat × α))) (i : Nat) (b : List α), (∀ m, i ≤ m → Dn m = false) → ov Dn i ws b = b
  | [], _, _, _ => rfl
  | w :: ws, i, b, h => by rw [ov, h i (Nat.le_refl _)]; exact ov_off ws (i + 1) b fun m hm => h m (by omega)
theorem runQ_cons {j : Nat} {rest : List Nat} {pend : List PE} {st : St} {Q : St → Prop} (h : runQ TY C wr ops cl (j :: rest) pend st Q) : ∃ o, ops[j]? = some o ∧
    ((pureOp o.op = true ∧ ∃ te pend', te.dst = o.dst ∧ (∀ pe ∈ pend, pe ∈ pend') ∧ GuardQ TY wr ops pend' o j te st.tmps st.heap ∧ runQ TY C wr ops cl rest pend' ⟨put st.tmps o.dst te.r, st.heap⟩ Q) ∨
     (pureOp o.op = false ∧
      ((∃ t c g want, o.guard = some (g, want) ∧ tmpOf ops g = some t ∧ st.tmps[t]? = some c ∧ (c = .bool (!want) ∨ c = .tup []) ∧ runQ TY C wr ops cl rest pend ⟨put st.tmps o.dst (.tup []), st.heap⟩ Q) ∨
       ((o.guard = none ∨ ∃ t g want, o.guard = some (g, want) ∧ tmpOf ops g = some t ∧ st.tmps[t]? = some (.bool want)) ∧
        effQ TY C wr o st.tmps st.heap fun r H' => pendOk TY wr ops cl j H' pend (runQ TY C wr ops cl rest pend ⟨put st.tmps o.dst r, H'⟩ Q))))) := by
  change bodyQ TY C wr ops cl j (runQ TY C wr ops cl rest) pend st Q at h
  unfold bodyQ at h
  simp only [fcSt_eq, setF_eq] at h
  cases ho : ops[j]? with
  | none => rw [ho] at h; exact h.elim
  | some o =>
    rw [ho] at h
    simp only at h
    refine ⟨o, rfl, ?_⟩
    cases hp : pureOp o.op with
    | true =>
      rw [hp] at h
      simp only at h
      refine .inl ⟨rfl, ?_⟩
      have run : ∀ ts, ts = st.tmps → (opQ TY (wrOf wr o) o.op ts st.heap fun r => runQ TY C wr ops cl rest (⟨j, ts, r⟩ :: pend) ⟨put ts o.dst r, st.heap⟩ Q) →
          ∃ r, RunsQ TY wr o r st.tmps st.heap ∧ runQ TY C wr ops cl rest (⟨j, st.tmps, r⟩ :: pend) ⟨put st.tmps o.dst r, st.heap⟩ Q := by
        rintro ts rfl h
        obtain ⟨r, h1, h2⟩ := runs_of h
        exact ⟨r, h2, h1⟩
      split at h
      · rename_i hg
        obtain ⟨r, h1, h2⟩ := run _ rfl h
        exact ⟨⟨o.dst, r, [], []⟩, _, rfl, fun pe hpe => List.mem_cons_of_mem _ hpe, by unfold GuardQ; rw [hg]; exact ⟨h1, List.mem_cons_self⟩, h2⟩
      · rename_i g want hg
        split at h
        · exact h.elim
        · rename_i t ht
          split at h
          · rename_i b hb
            split at h
            · rw [set_same hb] at h
              split at h
              · obtain ⟨r, h1, h2⟩ := run _ rfl h
                exact ⟨⟨o.dst, r, [], []⟩, _, rfl, fun pe hpe => List.mem_cons_of_mem _ hpe, by unfold GuardQ; rw [hg]; exact ⟨t, _, ht, hb, .inl ⟨rfl, h1, List.mem_cons_self⟩⟩, h2⟩
              · exact ⟨⟨o.dst, .tup [], [], []⟩, pend, rfl, fun _ h => h, by unfold GuardQ; rw [hg]; exact ⟨t, _, ht, hb, .inr ⟨.inl rfl, rfl⟩⟩, h⟩
            · rw [set_same hb] at h
              split at h
              · obtain ⟨r, h1, h2⟩ := run _ rfl h
                exact ⟨⟨o.dst, r, [], []⟩, _, rfl, fun pe hpe => List.mem_cons_of_mem _ hpe, by unfold GuardQ; rw [hg]; exact ⟨t, _, ht, hb, .inl ⟨rfl, h1, List.mem_cons_self⟩⟩, h2⟩
              · exact ⟨⟨o.dst, .tup [], [], []⟩, pend, rfl, fun _ h => h, by unfold GuardQ; rw [hg]; exact ⟨t, _, ht, hb, .inr ⟨.inl rfl, rfl⟩⟩, h⟩
          · rename_i cs hb
            split at h
            · rw [set_same hb] at h
              exact ⟨⟨o.dst, .tup [], [], []⟩, pend, rfl, fun _ h => h, by unfold GuardQ; rw [hg]; exact ⟨t, _, ht, hb, .inr ⟨.inr rfl, rfl⟩⟩, h⟩
            · exact h.elim
          · exact h.elim
    | false =>
      rw [hp] at h
      simp only at h
      refine .inr ⟨rfl, ?_⟩
      split at h
      · rename_i hg
        exact .inr ⟨.inl hg, h⟩
      · rename_i g want hg
        split at h
        · exact h.elim
        · rename_i t ht
          split at h
          · rename_i b hb
            split at h
            · rw [set_same hb] at h
              split at h
              · exact .inr ⟨.inr ⟨t, g, _, hg, ht, hb⟩, h⟩
              · exact .inl ⟨t, _, g, _, hg, ht, hb, .inl rfl, h⟩
            · rw [set_same hb] at h
              split at h
              · exact .inr ⟨.inr ⟨t, g, _, hg, ht, hb⟩, h⟩
              · exact .inl ⟨t, _, g, _, hg, ht, hb, .inl rfl, h⟩
          · rename_i cs hb
            split at h
            · rw [set_same hb] at h
              exact .inl ⟨t, _, g, _, hg, ht, hb, .inr rfl, h⟩
            · exact h.elim
          · exact h.elim
theorem runQ_pures : ∀ (rest : List Nat) (pend : List PE) (ts : List AV) (H : List Blk) (Q : St → Prop), runQ TY C wr ops cl rest pend ⟨ts, H⟩ Q →
    ∃ (ps rest2 : List Nat) (tr2 : List TE) (pend2 : List PE), rest = ps ++ rest2 ∧ (∀ j ∈ ps, effAt ops j = false) ∧ (∀ j rr, rest2 = j :: rr → effAt ops j = true) ∧ tr2.length = ps.length ∧
      runQ TY C wr ops cl rest2 pend2 ⟨ov (fun _ => true) 0 (tr2.map TE.T) ts, H⟩ Q ∧ (∀ pe ∈ pend, pe ∈ pend2) ∧
      ∀ (p j : Nat) o te, ps[p]? = some j → ops[j]? = some o → tr2[p]? = some te → StepQ TY wr ops pend2 o j te (ov (fun m => decide (m < p)) 0 (tr2.map TE.T) ts) H
  | [], pend, ts, H, Q, h => ⟨[], [], [], pend, rfl, fun _ h => (by cases h), fun _ _ h => (by cases h), rfl, h, fun _ h => h, fun p j o te hp => by simp at hp⟩
  | j :: rest, pend, ts, H, Q, h => by
    obtain ⟨o, ho, hcase⟩ := runQ_cons h
    rcases hcase with ⟨hp, te, pend', hd, hsub, hg, hr⟩ | ⟨hp, _⟩
    · obtain ⟨ps, rest2, tr2, pend2, h1, h2, h3, h4, h5, h6, h7⟩ := runQ_pures rest pend' _ _ Q hr
      have hput : put ts o.dst te.r = setAll ts te.T := by rw [← hd]; exact put_eq _ _
      simp only at hput h5 h7
      rw [hput] at h5 h7
      refine ⟨j :: ps, rest2, te :: tr2, pend2, by rw [h1]; rfl, fun i hi => ?_, h3, by simp [h4], ?_, fun pe hpe => h6 _ (hsub _ hpe), fun p i o' te' hpi hoi hti => ?_⟩
      · rcases List.mem_cons.1 hi with rfl | hi
        · unfold effAt; rw [ho]; simp [hp]
        · exact h2 i hi
      · simp only [List.map_cons, ov]
        rw [ov_shift]; exact h5
      · cases p with
        | zero =>
          simp at hpi hti
          subst hpi; subst hti
          rw [ho] at hoi; cases hoi
          rw [ov_none _ _ _ (fun m => by simp)]
          exact ⟨hd, hg.mono h6⟩
        | succ p =>
          have := h7 p i o' te' (by simpa using hpi) hoi (by simpa using hti)
          simp only [List.map_cons, ov, Nat.zero_lt_succ, decide_true]
          rw [ov_shift]
          have e : (fun i => decide (i + 1 < p + 1)) = fun i => decide (i < p) := by funext i; simp
          rw [e]
          exact this
    · exact ⟨[], j :: rest, [], pend, rfl, fun _ h => (by cases h), fun i rr h => by cases h; unfold effAt; rw [ho]; simp [hp], rfl, h, fun _ h => h, fun p j o te hp => by simp at hp⟩
theorem pendOk_spec {j : Nat} {H : List Blk} : ∀ {l : List PE} {X : Prop}, pendOk TY wr ops cl j H l X → X ∧ ∀ pe ∈ l, hasAnc cl j pe.i = true ∨ ∃ o, ops[pe.i]? = some o ∧ opQ TY (wrOf wr o) o.op pe.ts H (fun r => r = pe.r)
  | [], X, h => ⟨h, fun _ h => (by cases h)⟩
  | pe :: l, X, h => by
    change (match hasAnc cl j pe.i with
      | true => pendOk TY wr ops cl j H l X
      | false => (match ops[pe.i]? with
        | some o => opQ TY (wrOf wr o) o.op pe.ts H (fun r => r = pe.r) ∧ pendOk TY wr ops cl j H l X
        | none => False)) at h
    cases ha : hasAnc cl j pe.i with
    | true =>
      rw [ha] at h
      obtain ⟨h1, h2⟩ := pendOk_spec h
      refine ⟨h1, fun q hq => ?_⟩
      rcases List.mem_cons.1 hq with rfl | hq
      · exact .inl ha
      · exact h2 q hq
    | false =>
      rw [ha] at h
      simp only at h
      cases ho : ops[pe.i]? with
      | none => rw [ho] at h; exact h.elim
      | some o =>
        rw [ho] at h
        obtain ⟨h0, h⟩ := h
        obtain ⟨h1, h2⟩ := pendOk_spec h
        refine ⟨h1, fun q hq => ?_⟩
        rcases List.mem_cons.1 hq with rfl | hq
        · exact .inr ⟨o, ho, h0⟩
        · exact h2 q hq
end
end Go.Vc

/- Regions that draw their order, eight: such a region, whatever order is drawn. -/
namespace Go.Vc
open Go
section
variable {F : Nat → Obj → Prop} {P : Program} {TY : TypeId → Option TI} {C : FuncId → Option Ctr} {D : PT} {wr : Tmp → Bool} {ops : Array Oper} {cl : List Nat} {ρ : Nat → Option Nat} {S : Nat → Prop} {w0 w : World}
theorem okPairs_spec : ∀ {l : List Nat}, okPairs ops cl l = true → ∀ (p q i j : Nat), p < q → l[p]? = some i → l[q]? = some j → pairOk ops cl i j = true ∧ i ≠ j
  | [], _, p, q, i, j, _, hp, _ => by simp at hp
  | x :: l, h, p, q, i, j, hpq, hp, hq => by
    simp only [okPairs, Bool.and_eq_true, Bool.not_eq_true'] at h
    obtain ⟨h1, h2, h3⟩ := h
    obtain ⟨q, rfl⟩ : ∃ q', q = q' + 1 := ⟨q - 1, by omega⟩
    simp only [List.getElem?_cons_succ] at hq
    cases p with
    | zero =>
      simp at hp
      subst hp
      refine ⟨List.all_eq_true.1 h1 j (List.mem_of_getElem? hq), ?_⟩
      rintro rfl
      have := List.mem_of_getElem? hq
      rw [← List.contains_iff_mem] at this
      rw [this] at h2; cases h2
    | succ p => exact okPairs_spec h3 p q i j (by omega) (by simpa using hp) hq
theorem ov_pre {α : Type} {Dn Dn' : Nat → Bool} (ws ws' : List (List (Nat × α))) (b : List α) (h : ∀ m, m < ws.length → Dn m = Dn' m) (h2 : ∀ m, ws.length ≤ m → Dn m = false) : ov Dn 0 (ws ++ ws') b = ov Dn' 0 ws b := by
  rw [ov_app, ov_off _ _ _ (fun m hm => h2 m (by omega))]
  exact ov_same _ _ _ fun m hm => by rw [Nat.zero_add]; exact h m hm
theorem ov_offL {α : Type} {Dn : Nat → Bool} : ∀ (ws : List (List (Nat × α))) (i : Nat) (b : List α), (∀ m, i ≤ m → m < i + ws.length → Dn m = false) → ov Dn i ws b = b
  | [], _, _, _ => rfl
  | w :: ws, i, b, h => by rw [ov, h i (Nat.le_refl _) (by simp)]; exact ov_offL ws (i + 1) b fun m hm hl => h m (by omega) (by simp; omega)
theorem GuardQ.step {pend pend2 : List PE} {o : Oper} {j : Nat} {te : TE} {ts : List AV} {H H' : List Blk} (ho : ops[j]? = some o) (hp : ∀ pe ∈ pend, pe ∈ pend2)
    (hn : H' = H ∨ ∀ pe ∈ pend, pe.i = j → ∃ o, ops[pe.i]? = some o ∧ opQ TY (wrOf wr o) o.op pe.ts H' (fun r => r = pe.r)) (h : GuardQ TY wr ops pend o j te ts H) : GuardQ TY wr ops pend2 o j te ts H' := by
  rcases hn with rfl | hn
  · exact h.mono hp
  · have runs : ⟨j, ts, te.r⟩ ∈ pend → RunsQ TY wr o te.r ts H' := fun hm => by
      obtain ⟨o', h1, h2⟩ := hn _ hm rfl
      simp only [ho] at h1
      cases h1
      exact fun ts' hx => opQ_congr hx h2
    unfold GuardQ at h ⊢
    split at h
    · exact ⟨runs h.2, hp _ h.2⟩
    · obtain ⟨t, c, h1, h2, h3⟩ := h
      refine ⟨t, c, h1, h2, ?_⟩
      rcases h3 with ⟨h4, h5, h6⟩ | h4
      · exact .inl ⟨h4, runs h6, hp _ h6⟩
      · exact .inr h4
structure InvQ (F : Nat → Obj → Prop) (TY : TypeId → Option TI) (C : FuncId → Option Ctr) (wr : Tmp → Bool) (ops : Array Oper) (l : List Nat) (ρ : Nat → Option Nat) (S : Nat → Prop) (w0 : World) (ts0 : List AV) (N : St → Prop) (listed : Array Bool) (a : Act) (w : World)
    (pre rest : List Nat) (tr : List TE) (pend : List PE) (H : List Blk) (ρ' : Nat → Option Nat) (S' : Nat → Prop) : Prop where
  all : l = pre ++ rest
  len : tr.length = pre.length
  inp : ∀ j, listed.getD j false = true → j ∈ pre
  eff : ∀ j ∈ pre, effAt ops j = true → listed.getD j false = true
  hd : ∀ j rr, rest = j :: rr → effAt ops j = true
  run : runQ TY C wr ops (clos [] ops.toList) rest pend ⟨ov (fun _ => true) 0 (tr.map TE.T) ts0, H⟩ N
  rel : RelX F ρ' S' ⟨ov (fun p => listed.getD (pre.getD p 0) false) 0 (tr.map TE.T) ts0, H⟩ a w
  ext : Ext ρ S w0 ρ' S' w
  stp : ∀ (p j : Nat) o te, pre[p]? = some j → ops[j]? = some o → tr[p]? = some te → te.dst = o.dst ∧ (listed.getD j false = false → GuardQ TY wr ops pend o j te (ov (fun m => decide (m < p)) 0 (tr.map TE.T) ts0) H)
theorem drawQ_sound (hTY : TyOk P TY) (hC : CtrOk F P C) {l : List Nat} {st : St} {a0 : Act} (hR0 : RelX F ρ S st a0 w0) {N : St → Prop} {Q : Exit → Act → World → Prop}
    (hQ : ∀ a' w', Reach F ρ S w0 N a' w' → Q .normal a' w') (h : drawQ TY C wr ops l st N) : wpAny P .any ops Q ops.size (Array.replicate ops.size false) a0 w0 := by
  obtain ⟨hok, hrun⟩ := h
  unfold okQ at hok
  simp only [Bool.and_eq_true, decide_eq_true_eq] at hok
  obtain ⟨hback, hlen, hall, hpairs⟩ := hok
  have hlt : ∀ j ∈ l, j < ops.size := fun j hj => by simpa using List.all_eq_true.1 hall j hj
  have pairs := okPairs_spec hpairs
  have nodup : ∀ (p q i : Nat), l[p]? = some i → l[q]? = some i → p = q := fun p q i hp hq => by
    rcases Nat.lt_trichotomy p q with h1 | h1 | h1
    · exact absurd rfl (pairs p q i i h1 hp hq).2
    · exact h1
    · exact absurd rfl (pairs q p i i h1 hq hp).2
  have hmem : ∀ j, j < ops.size → j ∈ l := fun j hj => by
    have := List.all_eq_true.1 hlen j (List.mem_range.2 hj)
    rwa [List.contains_iff_mem] at this
  have main : ∀ (fuel : Nat) (listed : Array Bool) (a : Act) (w : World), listed.size = ops.size → Down ops (fun m => listed.getD m false) → toCome ops.size listed = fuel →
      (∃ pre rest tr pend H ρ' S', InvQ F TY C wr ops l ρ S w0 st.tmps N listed a w pre rest tr pend H ρ' S') → wpAny P .any ops Q fuel listed a w := by
    intro fuel
    induction fuel with
    | zero =>
      intro listed a w hs hdn hf hst
      have all := toCome_zero hf
      have allF : ∀ i, i < ops.size → listed.getD i false = true := fun i hi => by
        have h1 := all i hi
        have hls : i < listed.size := by omega
        simp [hls] at h1 ⊢; exact h1
      obtain ⟨pre, rest, tr, pend, H, ρ', S', I⟩ := hst
      have hrest : rest = [] := by
        cases rest with
        | nil => rfl
        | cons j rr =>
          exfalso
          have hj : j ∈ l := by rw [I.all]; simp
          have hjp := I.inp j (allF j (hlt j hj))
          obtain ⟨p, hp⟩ := List.getElem?_of_mem hjp
          have hpl : p < pre.length := (List.getElem?_eq_some_iff.1 hp).1
          have h1 : l[p]? = some j := by rw [I.all, List.getElem?_append_left hpl]; exact hp
          have h2 : l[pre.length]? = some j := by rw [I.all, List.getElem?_append_right (Nat.le_refl _)]; simp
          have := nodup _ _ _ h1 h2
          omega
      subst hrest
      refine ⟨?_, ?_⟩
      · rw [List.eq_nil_iff_forall_not_mem]
        intro i hi
        obtain ⟨h1, o, h2, _⟩ := mem_ready.1 hi
        have hlt : i < ops.size := (Array.getElem?_eq_some_iff.1 h2).1
        have := all i hlt
        rw [h1] at this; cases this
      · have hr := I.rel
        have e : ov (fun p => listed.getD (pre.getD p 0) false) 0 (tr.map TE.T) st.tmps = ov (fun _ => true) 0 (tr.map TE.T) st.tmps := ov_same _ _ _ fun m hm => by
          rw [Nat.zero_add]
          have hm : m < pre.length := by simp [I.len] at hm; exact hm
          have : pre.getD m 0 = pre[m] := by simp [List.getD_eq_getElem?_getD, hm]
          rw [this]
          exact allF _ (hlt _ (by rw [I.all]; simp))
        rw [e] at hr
        exact hQ a w ⟨_, ρ', S', I.run, hr, I.ext⟩
    | succ fuel ih =>
      intro listed a w hs hdn hf hst
      have get : ∀ i, i < ops.size → listed.getD i true = listed.getD i false := fun i hi => by simp [show i < listed.size by omega]
      obtain ⟨pre, rest, tr, pend, H, ρ', S', I⟩ := hst
      refine ⟨fun hr => ?_, fun i hi => ?_⟩
      · exfalso
        have hex : ∃ m, m < ops.size ∧ listed.getD m false = false := by
          by_cases h1 : ∃ m, m < ops.size ∧ listed.getD m false = false
          · exact h1
          · exfalso
            have : toCome ops.size listed = 0 := by
              unfold toCome
              rw [List.countP_eq_zero]
              intro m hm
              have hm := List.mem_range.1 hm
              rw [get m hm]
              cases hc : listed.getD m false with
              | true => simp
              | false => exact absurd ⟨m, hm, hc⟩ h1
            omega
        obtain ⟨m, ⟨hm, hmf⟩, hleast⟩ := exists_least hex
        have hom : ops[m]? = some ops[m] := by simp [hm]
        have : m ∈ Region.ready .any ops listed := by
          rw [mem_ready]
          refine ⟨by rw [get m hm, hmf], ops[m], hom, fun e he hb => ?_⟩
          unfold okBack at hback
          rw [List.all_eq_true] at hback
          have := hback m (List.mem_range.2 hm)
          rw [hom] at this
          rw [List.all_eq_true] at this
          have := this e.on (by unfold direct; rw [List.mem_map]; exact ⟨e, by rw [List.mem_filter]; exact ⟨by simpa using he, hb⟩, rfl⟩)
          simp at this
          cases hc : listed.getD e.on false with
          | true => rfl
          | false => have := hleast e.on ⟨by omega, hc⟩; omega
        rw [hr] at this; cases this
      · obtain ⟨hun, oi, hoi, hrdy⟩ := mem_ready.1 hi
        have hin : i < ops.size := (Array.getElem?_eq_some_iff.1 hoi).1
        have hDi : listed.getD i false = false := by rw [← get i hin]; exact hun
        have hrdy' : ∀ o', ops[i]? = some o' → ∀ m ∈ direct o', listed.getD m false = true := fun o' ho' m hm => by
          rw [hoi] at ho'; cases ho'
          unfold direct at hm
          simp only [List.mem_map, List.mem_filter] at hm
          obtain ⟨e, ⟨he, hb⟩, rfl⟩ := hm
          exact hrdy e (by simpa using he) hb
        have anc : ∀ m, hasAnc (clos [] ops.toList) i m = true → listed.getD m false = true := fun m hm => hdn.anc (hasAnc_anc hm) hrdy'
        have anc2 : ∀ m, hasAnc (clos [] ops.toList) m i = true → listed.getD m false = false := fun m hm => by
          cases hc : listed.getD m false with
          | false => rfl
          | true =>
            have := hdn.anc (hasAnc_anc hm) (fun o' ho' x hx => hdn m o' ho' hc x hx)
            simp only [hDi] at this; cases this
        have gd : ∀ m, (listed.setIfInBounds i true).getD m false = (m == i || listed.getD m false) := fun m => by
          have := congrFun (getD_listed (listed := listed) (i := i) (by omega)) m
          try simp only at this
          rw [this, Nat.zero_add]
        have hdn' : Down ops (fun m => (listed.setIfInBounds i true).getD m false) := by
          intro j o ho hd m hm
          simp only [gd, Bool.or_eq_true, beq_iff_eq] at hd ⊢
          rcases hd with rfl | hd
          · exact .inr (hrdy' o ho m hm)
          · exact .inr (hdn j o ho hd m hm)
        have hcome : toCome ops.size (listed.setIfInBounds i true) = fuel := by
          have := toCome_set hs hin hun
          omega
        -- where it stands in the order
        have at_pre : ∀ {p j : Nat}, pre[p]? = some j → l[p]? = some j := fun {p j} hp => by
          rw [I.all, List.getElem?_append_left (List.getElem?_eq_some_iff.1 hp).1]; exact hp
        have oth : ∀ (Pi : Nat), l[Pi]? = some i → ∀ (m j : Nat) om, pre[m]? = some j → ops[j]? = some om → (m < Pi → conflT ops om oi = true) → (Pi < m → conflT ops oi om = true) → listed.getD j false = decide (m < Pi) := by
          intro Pi hPi m j om hm hom h1 h2
          rcases Nat.lt_trichotomy m Pi with hlt' | rfl | hgt
          · obtain ⟨hp, _⟩ := pairs m Pi j i hlt' (at_pre hm) hPi
            unfold pairOk at hp
            rw [Bool.or_eq_true] at hp
            rcases hp with hp | hp
            · rw [anc j hp]; simp [hlt']
            · rw [hom, hoi] at hp
              simp only [h1 hlt', Bool.not_true, Bool.and_false] at hp
              cases hp
          · rw [at_pre hm] at hPi; cases hPi
            rw [hDi]; simp
          · obtain ⟨hp, _⟩ := pairs Pi m i j hgt hPi (at_pre hm)
            unfold pairOk at hp
            rw [Bool.or_eq_true] at hp
            have hng : ¬ m < Pi := by omega
            rcases hp with hp | hp
            · rw [anc2 j hp]; simp [hng]
            · rw [hom, hoi] at hp
              simp only [h2 hgt, Bool.not_true, Bool.and_false] at hp
              cases hp
        have agT : ∀ (Pi : Nat), l[Pi]? = some i → ∀ t, (oi.looksAt ops).contains t = true → (ov (fun p => listed.getD (pre.getD p 0) false) 0 (tr.map TE.T) st.tmps)[t]? = (ov (fun m => decide (m < Pi)) 0 (tr.map TE.T) st.tmps)[t]? := by
          intro Pi hPi t ht
          refine ov_congr _ _ _ _ rfl rfl fun m wm hm hkey => ?_
          rw [List.getElem?_map] at hm
          cases htm : tr[m]? with
          | none => rw [htm] at hm; cases hm
          | some tm =>
            rw [htm] at hm
            cases hm
            rw [Nat.zero_add]
            have hml : m < pre.length := by rw [← I.len]; exact (List.getElem?_eq_some_iff.1 htm).1
            have hpm : pre[m]? = some pre[m] := by simp [hml]
            have hg : pre.getD m 0 = pre[m] := by simp [List.getD_eq_getElem?_getD, hml]
            rw [hg]
            have hjl : pre[m] < ops.size := hlt _ (by rw [I.all]; simp)
            have hom : ops[pre[m]]? = some ops[pre[m]] := by simp [hjl]
            have hd := (I.stp m _ _ tm hpm hom htm).1
            have hk := keyIn_T hkey
            rw [hd] at hk
            refine oth Pi hPi m _ _ hpm hom (fun _ => ?_) (fun _ => ?_)
            · unfold conflT; rw [hk]; simp only [ht, Bool.true_or]
            · unfold conflT; rw [hk]; simp only [ht, Bool.or_true]
        have agO : ∀ (Pi : Nat), l[Pi]? = some i → ∀ x ∈ oi.op.operands, evO (ov (fun p => listed.getD (pre.getD p 0) false) 0 (tr.map TE.T) st.tmps) x = evO (ov (fun m => decide (m < Pi)) 0 (tr.map TE.T) st.tmps) x := by
          intro Pi hPi x hx
          cases x with
          | tmp t =>
            show List.getD _ t AV.any = List.getD _ t AV.any
            rw [List.getD_eq_getElem?_getD, List.getD_eq_getElem?_getD, agT Pi hPi t (looks_operand hx)]
          | _ => rfl
        by_cases hpre : i ∈ pre
        · -- one that only looks
          obtain ⟨p, hp⟩ := List.getElem?_of_mem hpre
          have hpl : p < pre.length := (List.getElem?_eq_some_iff.1 hp).1
          have hPi := at_pre hp
          obtain ⟨te, hti⟩ : ∃ te, tr[p]? = some te := ⟨tr[p]'(by rw [I.len]; exact hpl), by simp [I.len, hpl]⟩
          obtain ⟨hdst, hgd⟩ := I.stp p i oi te hp hoi hti
          have hgd := hgd hDi
          have newT : put (ov (fun p => listed.getD (pre.getD p 0) false) 0 (tr.map TE.T) st.tmps) oi.dst te.r = ov (fun p => (listed.setIfInBounds i true).getD (pre.getD p 0) false) 0 (tr.map TE.T) st.tmps := by
            rw [← hdst, put_eq]
            have h1 := ov_add (D := fun p => listed.getD (pre.getD p 0) false) (j := p) (tr.map TE.T) 0 st.tmps (by rw [List.getElem?_map, hti]; rfl)
              (by rw [Nat.zero_add]; show listed.getD (pre.getD p 0) false = false; rw [show pre.getD p 0 = i by rw [List.getD_eq_getElem?_getD, hp]; rfl]; exact hDi) (fun m wm hm hlt' hd key hkey => ?_)
            · rw [← h1]
              refine ov_same _ _ _ fun m hm => ?_
              have hm : m < pre.length := by simp [I.len] at hm; exact hm
              rw [Nat.zero_add, gd]
              have hpm : pre[m]? = some pre[m] := by simp [hm]
              have hg : pre.getD m 0 = pre[m] := by simp [List.getD_eq_getElem?_getD, hm]
              rw [hg]
              congr 1
              rw [Bool.eq_iff_iff, beq_iff_eq, beq_iff_eq, Nat.zero_add]
              constructor
              · rintro rfl
                rw [hpm] at hp
                exact Option.some.inj hp
              · intro he
                exact nodup m p i (by rw [at_pre hpm, he]) hPi
            · rw [List.getElem?_map] at hm
              cases htm : tr[m]? with
              | none => rw [htm] at hm; cases hm
              | some tm =>
                rw [htm] at hm
                cases hm
                rw [Nat.zero_add] at hd
                cases hc : keyIn key tm.T with
                | false => rfl
                | true =>
                  have hml : m < pre.length := by rw [← I.len]; exact (List.getElem?_eq_some_iff.1 htm).1
                  have hpm : pre[m]? = some pre[m] := by simp [hml]
                  have hg : pre.getD m 0 = pre[m] := by simp [List.getD_eq_getElem?_getD, hml]
                  have hjl : pre[m] < ops.size := hlt _ (by rw [I.all]; simp)
                  have hom : ops[pre[m]]? = some ops[pre[m]] := by simp [hjl]
                  have k1 := keyIn_T hkey
                  have k2 := keyIn_T hc
                  rw [hdst] at k1
                  rw [(I.stp m _ _ tm hpm hom htm).1] at k2
                  have := oth p hPi m _ _ hpm hom (fun h => by omega) (fun _ => by unfold conflT; rw [k1, k2]; simp)
                  simp only [hg] at hd
                  rw [hd] at this
                  simp at this; omega
          have next : ∀ a' ρ2 S2, RelX F ρ2 S2 ⟨put (ov (fun p => listed.getD (pre.getD p 0) false) 0 (tr.map TE.T) st.tmps) oi.dst te.r, H⟩ a' w → Ext ρ' S' w ρ2 S2 w → wpAny P .any ops Q fuel (listed.setIfInBounds i true) a' w := by
            intro a' ρ2 S2 h1 h2
            rw [newT] at h1
            refine ih _ a' w (by simp [hs]) hdn' hcome ⟨pre, rest, tr, pend, H, ρ2, S2, I.all, I.len, fun j hj => ?_, fun j hj he => ?_, I.hd, I.run, h1, I.ext.trans h2, fun q j o te' h3 h4 h5 => ⟨(I.stp q j o te' h3 h4 h5).1, fun h6 => (I.stp q j o te' h3 h4 h5).2 ?_⟩⟩
            · rw [gd, Bool.or_eq_true, beq_iff_eq] at hj
              rcases hj with rfl | hj
              · exact hpre
              · exact I.inp j hj
            · rw [gd, I.eff j hj he]; simp
            · rw [gd, Bool.or_eq_false_iff] at h6; exact h6.2
          have run : RunsQ TY wr oi te.r (ov (fun m => decide (m < p)) 0 (tr.map TE.T) st.tmps) H → oi.wp P a w (wpAny P .any ops Q fuel (listed.setIfInBounds i true)) Q := by
            intro hruns
            have h1 := opQ_opV (hruns _ (agO p hPi))
            obtain ⟨v, c, h2, h3, h4⟩ := opV_sound hTY I.rel.heap I.rel.tmps oi h1
            unfold Oper.wp
            rw [h2]
            subst h3
            exact next _ ρ' S' (Rel.put I.rel (Ext.refl _ _ _) I.rel.sok I.rel.heap h4 _) (Ext.refl _ _ _)
          unfold wpOp
          rw [hoi]
          simp only
          unfold GuardQ at hgd
          cases hg : oi.guard with
          | none =>
            rw [hg] at hgd
            rw [if_pos (by simp [Region.wanted, hg])]
            exact .inl (run hgd.1)
          | some gw =>
            obtain ⟨g, want⟩ := gw
            rw [hg] at hgd
            obtain ⟨t, c, ht, hb, hif⟩ := hgd
            have hb' := (agT p hPi t (looks_guard hg ht)).trans hb
            rcases hif with ⟨rfl, hif, _⟩ | ⟨hc, e1⟩
            · have hy := yielded_tmp ht I.rel.tmps hb'
              rw [if_pos (by simp [Region.wanted, hg, hy])]
              exact .inl (run hif)
            · have hy : yielded ops a.tmps g ≠ some want := by
                rcases hc with rfl | rfl
                · rw [yielded_tmp ht I.rel.tmps hb']; simp
                · rw [yielded_none ht I.rel.tmps hb']; simp
              rw [if_neg (by simpa [Region.wanted, hg] using hy)]
              have h2 := Rel.put I.rel (Ext.refl _ _ _) I.rel.sok I.rel.heap (.tup [] #[] rfl (fun i c v hc => by simp at hc)) oi.dst
              simp only at h2
              rw [← e1] at h2
              exact next _ ρ' S' h2 (Ext.refl _ _ _)
        · -- the next one that turns memory
          have hil : i ∈ l := hmem i hin
          have hir : i ∈ rest := by
            rw [I.all] at hil
            rcases List.mem_append.1 hil with h1 | h1
            · exact absurd h1 hpre
            · exact h1
          obtain ⟨e, rr, hre⟩ : ∃ e rr, rest = e :: rr := by
            cases rest with
            | nil => cases hir
            | cons e rr => exact ⟨e, rr, rfl⟩
          have hee := I.hd e rr hre
          have he_at : l[pre.length]? = some e := by rw [I.all, hre, List.getElem?_append_right (Nat.le_refl _)]; simp
          have hie : i = e := by
            rw [hre] at hir
            rcases List.mem_cons.1 hir with h1 | h1
            · exact h1
            · exfalso
              obtain ⟨q, hq⟩ := List.getElem?_of_mem h1
              have hq' : l[pre.length + (q + 1)]? = some i := by
                rw [I.all, hre, List.getElem?_append_right (by omega)]
                simp [hq]
              obtain ⟨hp, _⟩ := pairs _ _ e i (by omega) he_at hq'
              unfold pairOk at hp
              rw [Bool.or_eq_true] at hp
              rcases hp with hp | hp
              · have h2 := I.inp e (anc e hp)
                obtain ⟨p2, hp2⟩ := List.getElem?_of_mem h2
                have := nodup _ _ _ (at_pre hp2) he_at
                have := (List.getElem?_eq_some_iff.1 hp2).1
                omega
              · rw [hee] at hp; simp at hp
          subst hie
          have ag := agT pre.length he_at
          have agx := agO pre.length he_at
          have e0 : ov (fun m => decide (m < pre.length)) 0 (tr.map TE.T) st.tmps = ov (fun _ => true) 0 (tr.map TE.T) st.tmps := ov_same _ _ _ fun m hm => by
            simp [I.len] at hm; simp [hm]
          rw [e0] at agx
          simp only [e0] at ag
          have hrun := I.run
          rw [hre] at hrun
          obtain ⟨o', ho', hcase⟩ := runQ_cons hrun
          rw [hoi] at ho'; cases ho'
          have hpf : pureOp oi.op = false := by
            unfold effAt at hee; rw [hoi] at hee; simpa using hee
          -- behind it
          have next : ∀ a' w' r H' ρ2 S2 (Hnew : H' = H ∨ ∀ pe ∈ pend, hasAnc (clos [] ops.toList) i pe.i = true ∨ ∃ o, ops[pe.i]? = some o ∧ opQ TY (wrOf wr o) o.op pe.ts H' (fun r => r = pe.r)),
              RelX F ρ2 S2 ⟨put (ov (fun p => listed.getD (pre.getD p 0) false) 0 (tr.map TE.T) st.tmps) oi.dst r, H'⟩ a' w' → Ext ρ' S' w ρ2 S2 w' →
              runQ TY C wr ops (clos [] ops.toList) rr pend ⟨put (ov (fun _ => true) 0 (tr.map TE.T) st.tmps) oi.dst r, H'⟩ N → wpAny P .any ops Q fuel (listed.setIfInBounds i true) a' w' := by
            intro a' w' r H' ρ2 S2 Hnew h1 h2 h3
            obtain ⟨ps, rest2, tr2, pend2, q1, q2, q3, q4, q5, q6, q7⟩ := runQ_pures rr pend _ _ N h3
            have hT : ∀ b : List AV, put b oi.dst r = setAll b (TE.T ⟨oi.dst, r, [], []⟩) := fun b => put_eq b ⟨oi.dst, r, [], []⟩
            have hnotin : ∀ m, m < pre.length → pre.getD m 0 ≠ i := fun m hm he => hpre (by rw [← he]; simp [List.getD_eq_getElem?_getD, hm])
            have hpsn : ∀ (m j : Nat), ps[m]? = some j → listed.getD j false = false ∧ j ≠ i := by
              intro m j hm
              have hj : l[pre.length + (m + 1)]? = some j := by
                rw [I.all, hre, q1, List.getElem?_append_right (by omega)]
                simp [List.getElem?_append_left (List.getElem?_eq_some_iff.1 hm).1, hm]
              refine ⟨?_, fun he => ?_⟩
              · cases hc : listed.getD j false with
                | false => rfl
                | true =>
                  obtain ⟨p2, hp2⟩ := List.getElem?_of_mem (I.inp j hc)
                  have := nodup _ _ _ (at_pre hp2) hj
                  have := (List.getElem?_eq_some_iff.1 hp2).1
                  omega
              · subst he
                have := nodup _ _ _ he_at hj
                omega
            have hpre' : ∀ m, (pre ++ i :: ps).getD m 0 = if m < pre.length then pre.getD m 0 else (i :: ps).getD (m - pre.length) 0 := fun m => by
              simp only [List.getD_eq_getElem?_getD]
              split
              · rw [List.getElem?_append_left (by assumption)]
              · rw [List.getElem?_append_right (by omega)]
            have tmap : (tr ++ (⟨oi.dst, r, [], []⟩ :: tr2)).map TE.T = tr.map TE.T ++ (TE.T ⟨oi.dst, r, [], []⟩ :: tr2.map TE.T) := by simp
            have hnl : (tr.map TE.T).length = pre.length := by simp [I.len]
            have eTrue : ov (fun _ => true) 0 ((tr ++ (⟨oi.dst, r, [], []⟩ :: tr2)).map TE.T) st.tmps = ov (fun _ => true) 0 (tr2.map TE.T) (put (ov (fun _ => true) 0 (tr.map TE.T) st.tmps) oi.dst r) := by
              rw [tmap, ov_app, ov, ov_from, hT]
            have eNow : ov (fun p => (listed.setIfInBounds i true).getD ((pre ++ i :: ps).getD p 0) false) 0 ((tr ++ (⟨oi.dst, r, [], []⟩ :: tr2)).map TE.T) st.tmps = put (ov (fun p => listed.getD (pre.getD p 0) false) 0 (tr.map TE.T) st.tmps) oi.dst r := by
              rw [tmap, ov_app, Nat.zero_add, hnl, ov]
              have k1 : (listed.setIfInBounds i true).getD ((pre ++ i :: ps).getD pre.length 0) false = true := by
                rw [hpre', if_neg (by omega), Nat.sub_self, gd]; simp
              rw [k1]
              rw [ov_offL _ _ _ (fun m hm hml => by
                rw [hpre', if_neg (by omega)]
                obtain ⟨q, rfl⟩ : ∃ q, m = pre.length + (q + 1) := ⟨m - pre.length - 1, by omega⟩
                have hq : q < ps.length := by simp [q4] at hml; omega
                have hpq : ps[q]? = some ps[q] := by simp [hq]
                obtain ⟨n1, n2⟩ := hpsn q _ hpq
                rw [show pre.length + (q + 1) - pre.length = q + 1 by omega, show (i :: ps).getD (q + 1) 0 = ps[q] by simp [List.getD_eq_getElem?_getD, hq], gd, n1]
                simpa using n2)]
              rw [hT]
              refine congrArg (fun b => setAll b (TE.T ⟨oi.dst, r, [], []⟩)) (ov_same _ _ _ fun m hm => ?_)
              rw [hnl] at hm
              have h1 := hpre' m
              rw [if_pos hm] at h1
              have h2 := hnotin m hm
              simp only [Nat.zero_add, h1, gd]
              rw [show (pre.getD m 0 == i) = false by simpa using h2, Bool.false_or]
            refine ih _ a' w' (by simp [hs]) hdn' hcome ⟨pre ++ i :: ps, rest2, tr ++ (⟨oi.dst, r, [], []⟩ :: tr2), pend2, H', ρ2, S2, by rw [I.all, hre, q1]; simp, by simp [I.len, q4], fun j hj => ?_, fun j hj he => ?_, q3, by rw [eTrue]; exact q5, by rw [eNow]; exact h1, I.ext.trans h2, fun p j o te hp ho ht => ?_⟩
            · rw [gd, Bool.or_eq_true, beq_iff_eq] at hj
              rcases hj with rfl | hj
              · simp
              · exact List.mem_append_left _ (I.inp j hj)
            · rw [gd]
              rcases List.mem_append.1 hj with hj | hj
              · rw [I.eff j hj he]; simp
              · rcases List.mem_cons.1 hj with rfl | hj
                · simp
                · rw [q2 j hj] at he; cases he
            · rcases Nat.lt_trichotomy p pre.length with hlt1 | rfl | hgt1
              · rw [List.getElem?_append_left hlt1] at hp
                rw [List.getElem?_append_left (by rw [I.len]; exact hlt1)] at ht
                obtain ⟨k1, k2⟩ := I.stp p j o te hp ho ht
                refine ⟨k1, fun hu => ?_⟩
                rw [gd, Bool.or_eq_false_iff] at hu
                rw [tmap, ov_pre (Dn' := fun m => decide (m < p)) _ _ _ (fun m _ => rfl) (fun m hm => by rw [hnl] at hm; simp; omega)]
                refine (k2 hu.2).step ho q6 ?_
                rcases Hnew with h4 | h4
                · exact .inl h4
                · refine .inr fun pe hpe hpj => ?_
                  rcases h4 pe hpe with h5 | h5
                  · have := anc _ h5
                    rw [hpj, hu.2] at this; cases this
                  · exact h5
              · rw [List.getElem?_append_right (Nat.le_refl _)] at hp
                rw [List.getElem?_append_right (by rw [I.len]; exact Nat.le_refl _)] at ht
                simp [I.len] at hp ht
                subst hp; subst ht
                rw [hoi] at ho; cases ho
                refine ⟨rfl, fun hu => ?_⟩
                rw [gd] at hu; simp at hu
              · obtain ⟨p2, rfl⟩ : ∃ p2, p = pre.length + (p2 + 1) := ⟨p - pre.length - 1, by omega⟩
                rw [List.getElem?_append_right (by omega)] at hp
                rw [List.getElem?_append_right (by rw [I.len]; omega)] at ht
                rw [show pre.length + (p2 + 1) - pre.length = p2 + 1 by omega, List.getElem?_cons_succ] at hp
                rw [I.len, show pre.length + (p2 + 1) - pre.length = p2 + 1 by omega, List.getElem?_cons_succ] at ht
                obtain ⟨k1, k2⟩ := q7 p2 j o te hp ho ht
                refine ⟨k1, fun _ => ?_⟩
                have e1 : ov (fun m => decide (m < pre.length + (p2 + 1))) 0 ((tr ++ (⟨oi.dst, r, [], []⟩ :: tr2)).map TE.T) st.tmps = ov (fun m => decide (m < p2)) 0 (tr2.map TE.T) (put (ov (fun _ => true) 0 (tr.map TE.T) st.tmps) oi.dst r) := by
                  rw [tmap, ov_app, Nat.zero_add, hnl, ov]
                  rw [show decide (pre.length < pre.length + (p2 + 1)) = true by simp]
                  rw [ov_from, hT]
                  have e2 : (fun m => decide (pre.length + 1 + m < pre.length + (p2 + 1))) = fun m => decide (m < p2) := by
                    funext m; exact decide_eq_decide.2 ⟨fun h => by omega, fun h => by omega⟩
                  rw [e2]
                  refine congrArg (fun b => ov (fun m => decide (m < p2)) 0 (tr2.map TE.T) (setAll b (TE.T ⟨oi.dst, r, [], []⟩))) (ov_same _ _ _ fun m hm => ?_)
                  rw [hnl] at hm
                  exact decide_eq_true (by omega)
                rw [e1]; exact k2
          unfold wpOp
          rw [hoi]
          simp only
          rcases hcase with ⟨h1, _⟩ | ⟨_, hcase⟩
          · rw [hpf] at h1; cases h1
          · rcases hcase with ⟨t, c, g, want, hg, ht, hb, hc, hr⟩ | ⟨hg, hr⟩
            · have hb' := (ag t (looks_guard hg ht)).trans hb
              have hy : yielded ops a.tmps g ≠ some want := by
                rcases hc with rfl | rfl
                · rw [yielded_tmp ht I.rel.tmps hb']; simp
                · rw [yielded_none ht I.rel.tmps hb']; simp
              rw [if_neg (by simpa [Region.wanted, hg] using hy)]
              have h2 := Rel.put I.rel (Ext.refl _ _ _) I.rel.sok I.rel.heap (.tup [] #[] rfl (fun i c v hc => by simp at hc)) oi.dst
              exact next _ _ (.tup []) H ρ' S' (.inl rfl) h2 (Ext.refl _ _ _) hr
            · have hw : Region.wanted oi (yielded ops a.tmps) = true := by
                rcases hg with hg | ⟨t, g, want, hg, ht, hb⟩
                · simp [Region.wanted, hg]
                · have hb' := (ag t (looks_guard hg ht)).trans hb
                  have hy := yielded_tmp ht I.rel.tmps hb'
                  simp [Region.wanted, hg, hy]
              rw [if_pos hw]
              refine .inl (Oper.wp_mono ?_ (effQ_sound hTY hC oi I.rel (effQ_congr agx hr)))
              rintro a' w' ⟨r, H', ρ2, S2, hM, h2, h3⟩
              obtain ⟨h4, h5⟩ := pendOk_spec hM
              exact next a' w' r H' ρ2 S2 (.inr h5) h2 h3 h4
  have hcome : toCome ops.size (Array.replicate ops.size false) = ops.size := by
    unfold toCome
    have : ∀ n, n ≤ ops.size → (List.range n).countP (fun i => !(Array.replicate ops.size false).getD i true) = n := by
      intro n
      induction n with
      | zero => intro _; simp
      | succ n ihn =>
        intro hn
        rw [List.range_succ, List.countP_append, ihn (by omega), List.countP_singleton]
        simp [show n < ops.size by omega]
    exact this _ (Nat.le_refl _)
  have hfalse : ∀ m, (Array.replicate ops.size false).getD m false = false := fun m => by
    by_cases h1 : m < ops.size
    · simp [h1]
    · simp [h1]
  obtain ⟨ps, rest2, tr2, pend2, q1, q2, q3, q4, q5, q6, q7⟩ := runQ_pures l [] st.tmps st.heap N hrun
  refine main ops.size _ a0 w0 (by simp) (fun j o _ hd => ?_) hcome ⟨ps, rest2, tr2, pend2, st.heap, ρ, S, q1, q4, fun j hj => ?_, fun j hj he => ?_, q3, q5, ?_, Ext.refl _ _ _, fun p j o te h1 h2 h3 => ⟨(q7 p j o te h1 h2 h3).1, fun _ => (q7 p j o te h1 h2 h3).2⟩⟩
  · have hd : (Array.replicate ops.size false).getD j false = true := hd
    rw [hfalse] at hd; cases hd
  · rw [hfalse] at hj; cases hj
  · rw [q2 j hj] at he; cases he
  · rw [ov_none _ _ _ (fun m => hfalse _)]
    exact hR0
end
end Go.Vc

/- Code; functions. -/
namespace Go.Vc
open Go
/-- What holds at a loop's head: for some 'a' that is ok, the temporaries that are kept, and own memory. -/
structure LoopSpec where
  α : Type
  keep : List Nat
  vals : α → List AV
  heap : α → List Blk
  ok : α → Prop
  μ : α → Nat
inductive LR where
  | inv (s : LoopSpec)
  | unroll (k : Nat)
  | order (l : List Nat)
/-- Loops are called by the first region in them. -/
def firstReg : Code → Option Nat
  | .region id _ _ => some id
  | .seq a b => (match firstReg a with | some i => some i | none => firstReg b)
  | .cond _ a b => (match firstReg a with | some i => some i | none => firstReg b)
  | .block _ c => firstReg c
  | .loop c => firstReg c
  | .scope c => firstReg c
  | _ => none
def iterE (f : St → (Exit → St → Prop) → Prop) : Nat → St → (Exit → St → Prop) → Prop
  | 0, _, _ => False
  | k + 1, st, Q => f st fun e st' => match e with
    | .normal => iterE f k st' Q
    | e => Q e st'
def headSt (n : Nat) (s : LoopSpec) (x : s.α) : St := ⟨headT n s.keep (s.vals x), s.heap x⟩
/-- A state is one of a loop's head. -/
def atHead (n0 n : Nat) (s : LoopSpec) (st : St) (good : s.α → Prop) : Prop := match decide (st.tmps.length = n) with
  | true => ∃ x l, good x ∧ leHead n0 l st s.keep (s.vals x) (s.heap x)
  | false => False
theorem atHead_out {n0 n : Nat} {s : LoopSpec} {st : St} {good : s.α → Prop} (h : atHead n0 n s st good) : st.tmps.length = n ∧ ∃ x l, good x ∧ leHead n0 l st s.keep (s.vals x) (s.heap x) := by
  unfold atHead at h
  split at h
  · rename_i hd; exact ⟨by simpa using hd, h⟩
  · exact h.elim
def vcg (TY : TypeId → Option TI) (C : FuncId → Option Ctr) (D : PT) (wr : Tmp → Bool) (L : Nat → Option LR) : Code → St → (Exit → St → Prop) → Prop
  | .skip, st, Q => Q .normal st
  | .region id ops draw, st, Q => (match draw with
    | false => regE TY C wr ops ops.toList st (Q .normal)
    | true => (match L id with
      | some (.order l) => drawQ TY C wr ops l st (Q .normal)
      | _ => drawE TY C D wr ops st (Q .normal)))
  | .seq x y, st, Q => vcg TY C D wr L x st fun e st' => match e with
    | .normal => vcg TY C D wr L y st' Q
    | e => Q e st'
  | .cond c x y, st, Q => (match evO st.tmps c with
    | .bool b => (match b with
      | true => vcg TY C D wr L x st Q
      | false => vcg TY C D wr L y st Q)
    | _ => False)
  | .block id c, st, Q => vcg TY C D wr L c st fun e st' => match e with
    | .exit id' => (match decide (id' = id) with | true => Q .normal st' | false => Q (.exit id') st')
    | e => Q e st'
  | .loop c, st, Q => (match (firstReg c).bind L with
    | some (.inv s) => atHead st.heap.length st.tmps.length s st s.ok ∧ ∀ x, s.ok x → fcAll (headSt st.tmps.length s x) fun st1 => vcg TY C D wr L c st1 fun e st' => match e with
      | .normal => atHead st.heap.length st.tmps.length s st' fun y => s.ok y ∧ s.μ y < s.μ x
      | e => Q e st'
    | some (.unroll k) => iterE (vcg TY C D wr L c) k st Q
    | _ => False)
  | .exit id, st, Q => Q (.exit id) st
  | .ret, st, Q => Q .ret st
  | _, _, _ => False
section
variable {F : Nat → Obj → Prop} {P : Program} {TY : TypeId → Option TI} {C : FuncId → Option Ctr} {D : PT} {wr : Tmp → Bool} {L : Nat → Option LR}
def ReachX (F : Nat → Obj → Prop) (ρ : Nat → Option Nat) (S : Nat → Prop) (w : World) (Q : Exit → St → Prop) (e : Exit) (a' : Act) (w' : World) : Prop := ∃ st' ρ' S', Q e st' ∧ RelX F ρ' S' st' a' w' ∧ Ext ρ S w ρ' S' w'
theorem ReachX.trans {ρ : Nat → Option Nat} {S : Nat → Prop} {w : World} {Q : Exit → St → Prop} {e : Exit} {ρ1 : Nat → Option Nat} {S1 : Nat → Prop} {w1 : World} (hE : Ext ρ S w ρ1 S1 w1) {a' : Act} {w' : World} (h : ReachX F ρ1 S1 w1 Q e a' w') : ReachX F ρ S w Q e a' w' := by
  obtain ⟨st', ρ', S', h1, h2, h3⟩ := h
  exact ⟨st', ρ', S', h1, h2, hE.trans h3⟩
theorem RelX.drew {ρ : Nat → Option Nat} {S : Nat → Prop} {w : World} {st : St} {a : Act} (h : RelX F ρ S st a w) : RelX F ρ S st a w.drew :=
  ⟨⟨h.defers, h.tmps.mono (ext_drew ρ S w), hrel_drew h.heap⟩, h.sok.still (ext_drew ρ S w)⟩
theorem vcg_sound (hm : P.follows .mixedOrders = true) (hTY : TyOk P TY) (hD : PTOk F P D) (hC : CtrOk F P C) : ∀ (c : Code) {ρ : Nat → Option Nat} {S : Nat → Prop} {w : World} {st : St} {a : Act} {Q : Exit → St → Prop}, RelX F ρ S st a w →
    vcg TY C D wr L c st Q → c.wp P (ReachX F ρ S w Q) a w := by
  intro c
  induction c with
  | skip => exact fun hR h => wp_skip ⟨_, _, _, h, hR, Ext.refl _ _ _⟩
  | region id ops draw =>
    intro ρ S w st a Q hR h
    simp only [vcg] at h
    cases draw with
    | false =>
      refine wp_region_list (regE_sound hTY hC ops ops.toList hR (N := Q .normal) (fun a' w' hr => ?_) h)
      obtain ⟨st', ρ', S', h1, h2, h3⟩ := hr
      exact ⟨st', ρ', S', h1, h2, h3⟩
    | true =>
      refine wp_region_any hm ?_
      simp only at h
      split at h
      · refine drawQ_sound hTY hC hR.drew (N := Q .normal) (fun a' w' hr => ?_) h
        obtain ⟨st', ρ', S', h1, h2, h3⟩ := hr
        exact ⟨st', ρ', S', h1, h2, (ext_drew ρ S w).trans h3⟩
      · refine draw_sound hTY hD hC hR.drew (N := Q .normal) (fun a' w' hr => ?_) h
        obtain ⟨st', ρ', S', h1, h2, h3⟩ := hr
        exact ⟨st', ρ', S', h1, h2, (ext_drew ρ S w).trans h3⟩
  | seq x y ihx ihy =>
    intro ρ S w st a Q hR h
    simp only [vcg] at h
    refine wp_seq (wp_mono (ihx hR h) ?_)
    rintro e a' w' ⟨st', ρ', S', h1, h2, h3⟩
    cases e with
    | normal => exact wp_mono (ihy h2 h1) (fun e a2 w2 hq => hq.trans h3)
    | exit id => exact ⟨st', ρ', S', h1, h2, h3⟩
    | goto l => exact ⟨st', ρ', S', h1, h2, h3⟩
    | ret => exact ⟨st', ρ', S', h1, h2, h3⟩
    | panic ch => exact ⟨st', ρ', S', h1, h2, h3⟩
    | outgrown => exact ⟨st', ρ', S', h1, h2, h3⟩
  | cond c x y ihx ihy =>
    intro ρ S w st a Q hR h
    simp only [vcg] at h
    split at h
    · rename_i b hb
      have hv := hR.tmps.eval c
      rw [hb] at hv
      have hv := hv.boolR
      split at h
      · exact wp_cond_true hv (ihx hR h)
      · exact wp_cond_false hv (ihy hR h)
    · exact h.elim
  | block id c ih =>
    intro ρ S w st a Q hR h
    simp only [vcg] at h
    refine wp_block (wp_mono (ih hR h) ?_)
    rintro e a' w' ⟨st', ρ', S', h1, h2, h3⟩
    cases e with
    | normal => exact ⟨st', ρ', S', h1, h2, h3⟩
    | exit id' =>
      simp only [Exit.inBlock]
      split at h1
      · rename_i he
        cases he
        split at h1
        · rename_i hd
          rw [if_pos (by simpa using hd)]; exact ⟨st', ρ', S', h1, h2, h3⟩
        · rename_i hd
          rw [if_neg (by simpa using hd)]; exact ⟨st', ρ', S', h1, h2, h3⟩
      · rename_i he; exact absurd rfl (he id')
    | goto l => exact ⟨st', ρ', S', h1, h2, h3⟩
    | ret => exact ⟨st', ρ', S', h1, h2, h3⟩
    | panic ch => exact ⟨st', ρ', S', h1, h2, h3⟩
    | outgrown => exact ⟨st', ρ', S', h1, h2, h3⟩
  | loop c ih =>
    intro ρ S w st a Q hR h
    simp only [vcg] at h
    split at h
    · rename_i s hs
      simp only [fcAll_eq] at h
      obtain ⟨hat, hround⟩ := h
      obtain ⟨_, x0, l0, hok0, hle0⟩ := atHead_out hat
      have hn : ∀ i b, ρ i = some b → i < st.heap.length := fun i b hi => (hR.heap.out i b hi).1
      obtain ⟨ρ0, hR0, hE0⟩ := rel_head hn (Ext.refl _ _ _) hR hle0
      refine wp_loop_ghost (fun n a' w' => ∃ x ρ' S', s.ok x ∧ s.μ x = n ∧ RelX F ρ' S' (headSt st.tmps.length s x) a' w' ∧ Ext ρ S w ρ' S' w') (s.μ x0) ⟨x0, ρ0, S, hok0, rfl, hR0, hE0⟩ ?_
      rintro n a' w' ⟨x, ρ', S', hok, rfl, hR', hE'⟩
      refine wp_mono (ih hR' (hround x hok)) ?_
      rintro e a2 w2 ⟨st2, ρ2, S2, h1, h2, h3⟩
      cases e with
      | normal =>
        obtain ⟨hlen, y, l, ⟨hoky, hμ⟩, hle⟩ := atHead_out h1
        obtain ⟨ρ3, hR3, hE3⟩ := rel_head hn (hE'.trans h3) h2 hle
        rw [hlen] at hR3
        exact ⟨s.μ y, hμ, y, ρ3, S2, hoky, rfl, hR3, hE3⟩
      | exit id => exact ⟨st2, ρ2, S2, h1, h2, hE'.trans h3⟩
      | goto l => exact ⟨st2, ρ2, S2, h1, h2, hE'.trans h3⟩
      | ret => exact ⟨st2, ρ2, S2, h1, h2, hE'.trans h3⟩
      | panic ch => exact ⟨st2, ρ2, S2, h1, h2, hE'.trans h3⟩
      | outgrown => exact ⟨st2, ρ2, S2, h1, h2, hE'.trans h3⟩
    · rename_i k hk
      have key : ∀ (k : Nat) {ρ' : Nat → Option Nat} {S' : Nat → Prop} {w' : World} {st' : St} {a' : Act}, RelX F ρ' S' st' a' w' → iterE (vcg TY C D wr L c) k st' Q → (Code.loop c).wp P (ReachX F ρ' S' w' Q) a' w' := by
        intro k ρ' S' w' st' a' hR' hit
        refine wp_loop_ghost (fun n a2 w2 => ∃ ρ2 S2 st2, RelX F ρ2 S2 st2 a2 w2 ∧ iterE (vcg TY C D wr L c) n st2 Q ∧ Ext ρ' S' w' ρ2 S2 w2) k ⟨ρ', S', st', hR', hit, Ext.refl _ _ _⟩ ?_
        rintro n a2 w2 ⟨ρ2, S2, st2, hR2, hit2, hE2⟩
        cases n with
        | zero => exact hit2.elim
        | succ n =>
          refine wp_mono (ih hR2 hit2) ?_
          rintro e a3 w3 ⟨st3, ρ3, S3, h1, h2, h3⟩
          cases e with
          | normal => exact ⟨n, Nat.lt_succ_self _, ρ3, S3, st3, h2, h1, hE2.trans h3⟩
          | exit id => exact ⟨st3, ρ3, S3, h1, h2, hE2.trans h3⟩
          | goto l => exact ⟨st3, ρ3, S3, h1, h2, hE2.trans h3⟩
          | ret => exact ⟨st3, ρ3, S3, h1, h2, hE2.trans h3⟩
          | panic ch => exact ⟨st3, ρ3, S3, h1, h2, hE2.trans h3⟩
          | outgrown => exact ⟨st3, ρ3, S3, h1, h2, hE2.trans h3⟩
      exact key k hR h
    · exact h.elim
  | exit id => exact fun hR h => wp_exit ⟨_, _, _, h, hR, Ext.refl _ _ _⟩
  | ret => exact fun hR h => wp_ret ⟨_, _, _, h, hR, Ext.refl _ _ _⟩
  | rangeFunc => exact fun _ h => by simp only [vcg] at h
  | scope => exact fun _ h => by simp only [vcg] at h
  | label => exact fun _ h => by simp only [vcg] at h
  | goto => exact fun _ h => by simp only [vcg] at h
  | refuse => exact fun _ h => by simp only [vcg] at h
end
end Go.Vc

/- Code once more, by its recursors: what is unfolded looks the same to whoever unfolds it. -/
namespace Go.Vc
open Go
def regR (TY : TypeId → Option TI) (C : FuncId → Option Ctr) (wr : Tmp → Bool) (ops : Array Oper) (l : List Oper) : St → (St → Prop) → Prop :=
  List.rec (motive := fun _ => St → (St → Prop) → Prop) (fun st Q => Q st)
    (fun o _ ih st Q =>
      match o.guard with
      | none => stepE TY C wr o st fun st' => ih st' Q
      | some (j, want) => match tmpOf ops j with
        | none => False
        | some t => match st.tmps[t]? with
          | some (.bool b) => (match b with
            | true => (match want with
              | true => setF (fun ts => stepE TY C wr o ⟨ts, st.heap⟩ fun st' => ih st' Q) (.bool true) st.tmps t
              | false => fcSt (st.tmps.set t (.bool true)) o.dst (.tup []) st.heap fun st' => ih st' Q)
            | false => (match want with
              | false => setF (fun ts => stepE TY C wr o ⟨ts, st.heap⟩ fun st' => ih st' Q) (.bool false) st.tmps t
              | true => fcSt (st.tmps.set t (.bool false)) o.dst (.tup []) st.heap fun st' => ih st' Q))
          | some (.tup cs) => (match cs with
            | [] => fcSt (st.tmps.set t (.tup [])) o.dst (.tup []) st.heap fun st' => ih st' Q
            | _ => False)
          | _ => False) l
theorem regR_eq {TY : TypeId → Option TI} {C : FuncId → Option Ctr} {wr : Tmp → Bool} {ops : Array Oper} : ∀ (l : List Oper), regR TY C wr ops l = regE TY C wr ops l
  | [] => by funext st Q; simp only [regE]; rfl
  | o :: rest => by
    funext st Q
    rw [regE, ← regR_eq rest]
    rfl
def textR (TY : TypeId → Option TI) (D : PT) (wr : Tmp → Bool) (ops : Array Oper) (h0 : Nat) (l : List Oper) : Nat → St → (List TE → St → Prop) → Prop :=
  List.rec (motive := fun _ => Nat → St → (List TE → St → Prop) → Prop) (fun _ st Q => Q [] st)
    (fun o _ ih j st Q =>
      match o.guard with
      | none => opD TY D (wrOf wr o) (h0 + j) o.op st.tmps st.heap fun r W R => fcSt st.tmps o.dst r (setAll st.heap W) fun st1 => ih (j + 1) st1 fun tr st' => Q (⟨o.dst, r, W, R⟩ :: tr) st'
      | some (g, want) => match tmpOf ops g with
        | none => False
        | some t => match st.tmps[t]? with
          | some (.bool b) => (match b with
            | true => (match want with
              | true => setF (fun ts => opD TY D (wrOf wr o) (h0 + j) o.op ts st.heap fun r W R => fcSt ts o.dst r (setAll st.heap W) fun st1 => ih (j + 1) st1 fun tr st' => Q (⟨o.dst, r, W, R⟩ :: tr) st') (.bool true) st.tmps t
              | false => fcSt (st.tmps.set t (.bool true)) o.dst (.tup []) st.heap fun st1 => ih (j + 1) st1 fun tr st' => Q (⟨o.dst, .tup [], [], []⟩ :: tr) st')
            | false => (match want with
              | false => setF (fun ts => opD TY D (wrOf wr o) (h0 + j) o.op ts st.heap fun r W R => fcSt ts o.dst r (setAll st.heap W) fun st1 => ih (j + 1) st1 fun tr st' => Q (⟨o.dst, r, W, R⟩ :: tr) st') (.bool false) st.tmps t
              | true => fcSt (st.tmps.set t (.bool false)) o.dst (.tup []) st.heap fun st1 => ih (j + 1) st1 fun tr st' => Q (⟨o.dst, .tup [], [], []⟩ :: tr) st'))
          | some (.tup cs) => (match cs with
            | [] => fcSt (st.tmps.set t (.tup [])) o.dst (.tup []) st.heap fun st1 => ih (j + 1) st1 fun tr st' => Q (⟨o.dst, .tup [], [], []⟩ :: tr) st'
            | _ => False)
          | _ => False) l
theorem textR_eq {TY : TypeId → Option TI} {D : PT} {wr : Tmp → Bool} {ops : Array Oper} {h0 : Nat} : ∀ (l : List Oper), textR TY D wr ops h0 l = textD TY D wr ops h0 l
  | [] => by funext j st Q; simp only [textD]; rfl
  | o :: rest => by
    funext j st Q
    rw [textD, ← textR_eq rest]
    rfl
def drawR (TY : TypeId → Option TI) (C : FuncId → Option Ctr) (D : PT) (wr : Tmp → Bool) (ops : Array Oper) (st : St) (N : St → Prop) : Prop :=
  textR TY D wr ops st.heap.length (ops.toList.take (tailK (clos [] ops.toList) ops.size)) 0 ⟨st.tmps, st.heap ++ List.replicate (tailK (clos [] ops.toList) ops.size) .dead⟩ fun tr st' =>
    okB ops (tailK (clos [] ops.toList) ops.size) tr = true ∧ regR TY C wr ops (ops.toList.drop (tailK (clos [] ops.toList) ops.size)) st' N
theorem drawR_eq {TY : TypeId → Option TI} {C : FuncId → Option Ctr} {D : PT} {wr : Tmp → Bool} {ops : Array Oper} {st : St} {N : St → Prop} : drawR TY C D wr ops st N = drawE TY C D wr ops st N := by
  unfold drawR drawE
  rw [textR_eq, regR_eq]
def iterR (f : St → (Exit → St → Prop) → Prop) (n : Nat) : St → (Exit → St → Prop) → Prop :=
  Nat.rec (motive := fun _ => St → (Exit → St → Prop) → Prop) (fun _ _ => False) (fun _ ih st Q => f st fun e st' => match e with
    | .normal => ih st' Q
    | e => Q e st') n
theorem iterR_eq {f : St → (Exit → St → Prop) → Prop} : ∀ n, iterR f n = iterE f n
  | 0 => by funext st Q; simp only [iterE]; rfl
  | n + 1 => by
    funext st Q
    rw [iterE, ← iterR_eq n]
    rfl
def vcgR (TY : TypeId → Option TI) (C : FuncId → Option Ctr) (D : PT) (wr : Tmp → Bool) (L : Nat → Option LR) (c : Code) : St → (Exit → St → Prop) → Prop :=
  Code.rec (motive := fun _ => St → (Exit → St → Prop) → Prop)
    (fun st Q => Q .normal st)
    (fun id ops draw st Q => (match draw with
      | false => regR TY C wr ops ops.toList st (Q .normal)
      | true => (match L id with
        | some (.order l) => drawQ TY C wr ops l st (Q .normal)
        | _ => drawR TY C D wr ops st (Q .normal))))
    (fun _ _ ix iy st Q => ix st fun e st' => match e with
      | .normal => iy st' Q
      | e => Q e st')
    (fun c _ _ ix iy st Q => (match evO st.tmps c with
      | .bool b => (match b with
        | true => ix st Q
        | false => iy st Q)
      | _ => False))
    (fun id _ ic st Q => ic st fun e st' => match e with
      | .exit id' => (match decide (id' = id) with | true => Q .normal st' | false => Q (.exit id') st')
      | e => Q e st')
    (fun c ic st Q => (match (firstReg c).bind L with
      | some (.inv s) => atHead st.heap.length st.tmps.length s st s.ok ∧ ∀ x, s.ok x → fcAll (headSt st.tmps.length s x) fun st1 => ic st1 fun e st' => match e with
        | .normal => atHead st.heap.length st.tmps.length s st' fun y => s.ok y ∧ s.μ y < s.μ x
        | e => Q e st'
      | some (.unroll k) => iterR ic k st Q
      | _ => False))
    (fun _ _ _ _ _ _ _ _ => False)
    (fun id st Q => Q (.exit id) st)
    (fun _ _ _ _ => False)
    (fun _ _ _ => False)
    (fun _ _ _ => False)
    (fun st Q => Q .ret st)
    (fun _ _ _ => False) c
theorem vcgR_eq {TY : TypeId → Option TI} {C : FuncId → Option Ctr} {D : PT} {wr : Tmp → Bool} {L : Nat → Option LR} : ∀ (c : Code), vcgR TY C D wr L c = vcg TY C D wr L c := by
  intro c
  induction c with
  | skip => funext st Q; simp only [vcg]; rfl
  | region id ops draw =>
    funext st Q
    simp only [vcg]
    show (match draw with
      | false => regR TY C wr ops ops.toList st (Q .normal)
      | true => (match L id with
        | some (.order l) => drawQ TY C wr ops l st (Q .normal)
        | _ => drawR TY C D wr ops st (Q .normal))) = _
    cases draw
    · simp only [regR_eq]
    · simp only [drawR_eq]
      all_goals (rcases L id with _ | (_ | _ | _) <;> rfl)
  | seq x y ix iy => funext st Q; rw [vcg, ← ix, ← iy]; rfl
  | cond c x y ix iy => funext st Q; rw [vcg, ← ix, ← iy]; rfl
  | block id c ic => funext st Q; rw [vcg, ← ic]; rfl
  | loop c ic =>
    funext st Q
    rw [vcg, ← ic, show @iterE = @iterR from funext fun f => funext fun n => (iterR_eq n).symm]
    rfl
  | rangeFunc => funext st Q; simp only [vcg]; rfl
  | exit id => funext st Q; simp only [vcg]; rfl
  | scope => funext st Q; simp only [vcg]; rfl
  | label => funext st Q; simp only [vcg]; rfl
  | goto => funext st Q; simp only [vcg]; rfl
  | ret => funext st Q; simp only [vcg]; rfl
  | refuse => funext st Q; simp only [vcg]; rfl
end Go.Vc

/- Functions. -/
namespace Go.Vc
open Go
mutual
/-- What is so of whatever is known of a value. -/
def factA : AV → Prop
  | .int k n => inK k n
  | .str l => l.length ≤ 9223372036854775807
  | .sl _ sz len get => len ≤ 9223372036854775807 ∧ ∀ e, e < len → (get e).length = sz ∧ factL (get e)
  | .rptr cs _ => factL cs
  | .agg cs => factL cs
  | .tup cs => factL cs
  | .fn _ cs => factL cs
  | .iface _ v => factA v
  | _ => True
def factL : List AV → Prop
  | [] => True
  | c :: cs => factA c ∧ factL cs
end
theorem factL_of : ∀ {cs : List AV}, (∀ (i : Nat) (c : AV), cs[i]? = some c → factA c) → factL cs
  | [], _ => by simp only [factL]
  | c :: cs, h => by
    simp only [factL]
    exact ⟨h 0 c rfl, factL_of fun i c hc => h (i + 1) c (by simpa using hc)⟩
section
variable {F : Nat → Obj → Prop} {P : Program} {TY : TypeId → Option TI} {C : FuncId → Option Ctr} {D : PT} {wr : Tmp → Bool} {ρ : Nat → Option Nat} {S : Nat → Prop} {w : World}
theorem V.fact {a : AV} {v : Value} (h : V ρ S w a v) : factA a := by
  have mx : maxLen = 9223372036854775807 := by rw [maxLen_eq]
  induction h with
  | int k n h1 h2 => simp only [factA]; exact ⟨lo_eq _ ▸ h1, hi_eq _ ▸ h2⟩
  | str l s h1 h2 => simp only [factA]; omega
  | sln clip sz get ao => simp only [factA]; exact ⟨Nat.zero_le _, fun e he => by omega⟩
  | sl clip sz len get b o cap f hs hl hm hcl hz hc hv ih =>
    simp only [factA]
    exact ⟨by omega, fun e he => ⟨hz e he, factL_of fun j c hc' => ih e j c he hc'⟩⟩
  | rptr cs j b o f hs hb hc hv ih => simp only [factA]; exact factL_of fun i c hc' => ih i c hc'
  | agg cs vs hl hv ih =>
    simp only [factA]
    refine factL_of fun i c hc => ?_
    have : i < vs.size := by
      rcases Nat.lt_or_ge i cs.length with h' | h'
      · omega
      · rw [List.getElem?_eq_none h'] at hc; cases hc
    exact ih i c vs[i] hc (by simp [this])
  | tup cs vs hl hv ih =>
    simp only [factA]
    refine factL_of fun i c hc => ?_
    have : i < vs.size := by
      rcases Nat.lt_or_ge i cs.length with h' | h'
      · omega
      · rw [List.getElem?_eq_none h'] at hc; cases hc
    exact ih i c vs[i] hc (by simp [this])
  | fn f cs vs hl hv ih =>
    simp only [factA]
    refine factL_of fun i c hc => ?_
    have : i < vs.size := by
      rcases Nat.lt_or_ge i cs.length with h' | h'
      · omega
      · rw [List.getElem?_eq_none h'] at hc; cases hc
    exact ih i c vs[i] hc (by simp [this])
  | iface t a v hv ih => simp only [factA]; exact ih
  | _ => simp only [factA]
theorem VL.fact {cs : List AV} {vs : Array Value} (h : VL ρ S w cs vs) : factL cs :=
  factL_of fun i c hc => by
    have : i < vs.size := by
      have := h.1
      rcases Nat.lt_or_ge i cs.length with h' | h'
      · omega
      · rw [List.getElem?_eq_none h'] at hc; cases hc
    exact (h.2 i c vs[i] hc (by simp [this])).fact
/-! ### Results -/
def resE (TY : TypeId → Option TI) (st : St) : List ResultVar → (List AV → Prop) → Prop
  | [], K => K []
  | .tmp t :: rs, K => resE TY st rs fun cs => K (st.tmps.getD t .any :: cs)
  | .cell a t :: rs, K => loadPA TY t (st.tmps.getD a .any) st.heap fun c => resE TY st rs fun cs => K (c :: cs)
def resOut : List AV → AV
  | [c] => c
  | cs => .tup cs
def resM (tmps : Array Value) : ResultVar → Sem Value
  | .tmp t => pure (tmps.getD t undef)
  | .cell a t => do loadVar t (← asAddr (tmps.getD a undef))
theorem resE_ok (hTY : TyOk P TY) {st : St} {a : Act} (hR : RelX F ρ S st a w) : ∀ (rs : List ResultVar) (K : List AV → Prop), resE TY st rs K →
    ∃ (vs : List Value) (cs : List AV), (rs.mapM (resM a.tmps)).run P w = .ok vs w ∧ K cs ∧ cs.length = vs.length ∧ ∀ (i : Nat) (c : AV) (v : Value), cs[i]? = some c → vs[i]? = some v → V ρ S w c v
  | [], K, h => ⟨[], [], by simp, h, rfl, fun i c v hc => by simp at hc⟩
  | .tmp t :: rs, K, h => by
    obtain ⟨vs, cs, h1, h2, h3, h4⟩ := resE_ok hTY hR rs _ h
    refine ⟨a.tmps.getD t undef :: vs, st.tmps.getD t .any :: cs, by simp only [List.mapM_cons, resM, Sem.run_bind, Sem.run_pure, Result.andThen_ok, h1], h2, by simp [h3], fun i c v hc hv => ?_⟩
    cases i with
    | zero => simp only [List.getElem?_cons_zero, Option.some.injEq] at hc hv; subst hc; subst hv; exact hR.tmps.eval (.tmp t)
    | succ i => exact h4 i c v (by simpa using hc) (by simpa using hv)
  | .cell x t :: rs, K, h => by
    rw [resE] at h
    have hx : V ρ S w (st.tmps.getD x .any) (a.tmps.getD x undef) := hR.tmps.eval (.tmp x)
    obtain ⟨v0, c0, g1, g2, g3⟩ := loadPA_sound hTY hR.heap hx h
    have g1' : (do loadVar t (← asAddr (a.tmps.getD x undef)) : Sem Value).run P w = .ok v0 w := by
      unfold Instr.loadAt at g1
      have e : ∀ u : Value, (∃ ad, u = .pointer (some ad)) → (do loadVar t (← asAddr u) : Sem Value).run P w = (do loadVar t (← Instr.sureAddr u) : Sem Value).run P w := by
        rintro u ⟨ad, rfl⟩; simp [asAddr, Instr.sureAddr]
      rw [e]
      · exact g1
      · unfold loadPA at h
        split at h
        · exact h.elim
        · split at h
          · rename_i heq; rw [heq] at hx; obtain ⟨b, he, _⟩ := hx.ptrR; exact ⟨_, he⟩
          · rename_i heq; rw [heq] at hx; obtain ⟨b, he, _⟩ := hx.eptrR; exact ⟨_, he⟩
          · rename_i heq; rw [heq] at hx
            generalize a.tmps.getD x undef = u at hx
            cases hx; exact ⟨_, rfl⟩
          · exact h.elim
    obtain ⟨vs, cs, h1, h2, h3, h4⟩ := resE_ok hTY hR rs _ g2
    refine ⟨v0 :: vs, c0 :: cs, by simp only [List.mapM_cons, resM, Sem.run_bind, g1', Result.andThen_ok, h1, Sem.run_pure], h2, by simp [h3], fun i c v hc hv => ?_⟩
    cases i with
    | zero => simp only [List.getElem?_cons_zero, Option.some.injEq] at hc hv; subst hc; subst hv; exact g3
    | succ i => exact h4 i c v (by simpa using hc) (by simpa using hv)
theorem results_ok (hTY : TyOk P TY) {fn : Func} {st : St} {a : Act} (hR : RelX F ρ S st a w) {K : List AV → Prop} (h : resE TY st fn.results.toList K) :
    ∃ v cs, (results fn a.tmps).run P w = .ok v w ∧ K cs ∧ V ρ S w (resOut cs) v := by
  obtain ⟨vs, cs, h1, h2, h3, h4⟩ := resE_ok hTY hR _ _ h
  have e : results fn a.tmps = (do let vs ← fn.results.mapM (resM a.tmps); pure (if h : vs.size = 1 then vs[0] else .tuple vs)) := by
    unfold results
    congr 2
  have hm : (fn.results.mapM (resM a.tmps)).run P w = .ok vs.toArray w := by
    rw [Array.mapM_eq_mapM_toList]
    simp [h1]
  refine ⟨if h : vs.toArray.size = 1 then vs.toArray[0] else .tuple vs.toArray, cs, ?_, h2, ?_⟩
  · rw [e, Sem.run_bind, hm]
    simp
  · match cs, vs, h3, h4 with
    | [], [], _, _ => exact .tup _ _ (by simp) (fun i c v hc => by simp at hc)
    | [c], [v], _, h4 => exact h4 0 c v rfl rfl
    | c :: c' :: cs, v :: v' :: vs, h3, h4 =>
      have : ¬ (v :: v' :: vs).toArray.size = 1 := by simp
      rw [dif_neg this]
      exact .tup _ _ (by simpa using h3) (fun i c v hc hv => h4 i c v hc (by simpa using hv))
/-! ### Functions -/
def retE (TY : TypeId → Option TI) (rs : List ResultVar) (Q : AV → List Blk → Prop) (st : St) : Prop := resE TY st rs fun cs => Q (resOut cs) st.heap
/-- What a call comes to. -/
def fnE (TY : TypeId → Option TI) (C : FuncId → Option Ctr) (D : PT) (wr : Tmp → Bool) (L : Nat → Option LR) (fn : Func) (args : List AV) (H : List Blk) (Q : AV → List Blk → Prop) : Prop :=
  match fn.body with
  | none => False
  | some c => fcAll ⟨args ++ List.replicate (fn.ntmps - args.length) .any, H⟩ fun st0 => vcgR TY C D wr L c st0 fun e st => match e with
    | .normal => retE TY fn.results.toList Q st
    | .ret => retE TY fn.results.toList Q st
    | _ => False
theorem fnE_calls (hm : P.follows .mixedOrders = true) (hTY : TyOk P TY) (hD : PTOk F P D) (hC : CtrOk F P C) {L : Nat → Option LR} {f : FuncId} {fn : Func} (hf : P.funcs[f]? = some fn) (hs : Sok F S w) {H : List Blk} (hH : HRel ρ S w H)
    {cs : List AV} {vs : Array Value} (hv : VL ρ S w cs vs) {Q : AV → List Blk → Prop} (h : fnE TY C D wr L fn cs H Q) :
    Calls P f vs w fun e w' => ∃ v c H' ρ' S', e = .returned v ∧ Q c H' ∧ V ρ' S' w' c v ∧ HRel ρ' S' w' H' ∧ Ext ρ S w ρ' S' w' ∧ Sok F S' w' := by
  unfold fnE at h
  split at h
  · exact h.elim
  · rename_i c hb
    rw [fcAll_eq, vcgR_eq] at h
    have hR : RelX F ρ S ⟨cs ++ List.replicate (fn.ntmps - cs.length) .any, H⟩ { tmps := vs ++ Array.replicate (fn.ntmps - vs.size) undef, defers := [] } w := by
      refine ⟨⟨rfl, ⟨by simp [hv.1], fun i c v hc hv' => ?_⟩, hH⟩, hs⟩
      by_cases hlt : i < cs.length
      · rw [List.getElem?_append_left hlt] at hc
        rw [Array.getElem?_append_left (by have := hv.1; omega)] at hv'
        exact hv.2 i c v hc hv'
      · rw [List.getElem?_append_right (by omega), List.getElem?_replicate] at hc
        split at hc
        · cases hc; exact .any _
        · cases hc
    refine calls_of_wp hf hb (wp_mono (vcg_sound hm hTY hD hC c hR h) ?_)
    rintro e a' w' ⟨st', ρ', S', h1, h2, h3⟩
    have fin : retE TY fn.results.toList Q st' → a'.defers = [] ∧ ∃ v, (results fn a'.tmps).run P w' = .ok v w' ∧ ∃ v_1 c H' ρ' S', Ending.returned v = .returned v_1 ∧ Q c H' ∧ V ρ' S' w' c v_1 ∧ HRel ρ' S' w' H' ∧ Ext ρ S w ρ' S' w' ∧ Sok F S' w' := by
      intro h1
      obtain ⟨v, cs, g1, g2, g3⟩ := results_ok hTY h2 h1
      exact ⟨h2.defers, v, g1, v, _, _, ρ', S', rfl, g2, g3, h2.heap, h3, h2.sok⟩
    cases e with
    | normal => exact fin h1
    | ret => exact fin h1
    | exit id => exact h1.elim
    | goto l => exact h1.elim
    | panic ch => exact h1.elim
    | outgrown => exact h1.elim
theorem good_of_fnE (hm : P.follows .mixedOrders = true) (hTY : TyOk P TY) (hD : PTOk F P D) (hC : CtrOk F P C) {f : FuncId} {fn : Func} (hf : P.funcs[f]? = some fn) {K : Ctr} (L : List AV → List Blk → Nat → Option LR)
    (h : ∀ cs H Q, factL cs → K cs H Q → fnE TY C D wr (L cs H) fn cs H Q) : Good F P f K :=
  fun _ _ _ _ _ _ _ hs hH hv hK => fnE_calls hm hTY hD hC hf hs hH hv (h _ _ _ hv.fact hK)
/-- What is handed back, own memory let go. -/
def expE (H : List Blk) (c : AV) (Q : AV → Prop) : Prop := frzE H c fun c' _ => Q c'
/-- It is, or tells no less than, this. -/
def isA (r c : AV) : Prop := match r.under 0 with
  | true => leA (fun i => i) c r
  | false => False
/-- What comes out, seen as one value. -/
theorem goodP_of_fnE (hm : P.follows .mixedOrders = true) (hTY : TyOk P TY) (hD : PTOk F P D) (hC : CtrOk F P C) {f : FuncId} {fn : Func} (hf : P.funcs[f]? = some fn) {pc : PC} (L : List AV → Nat → Option LR)
    (h : ∀ cs Q, factL cs → pc.T cs Q → ∃ r, Q r ∧ fnE TY C D wr (L cs) fn cs [] (fun c H' => expE H' c (isA r))) : GoodP F P f pc := by
  intro S w cs vs Q hs hv hpre
  have hH : HRel (fun _ => none) S w [] := ⟨fun i j bi bj b hi => by simp at hi, fun i b hi => by simp at hi, fun i b hi => by cases hi⟩
  obtain ⟨r, hQ, hfn⟩ := h cs Q hv.fact hpre
  refine (fnE_calls hm hTY hD hC hf hs hH hv hfn).mono ?_
  rintro e w' ⟨v, c, H', ρ', S', rfl, h1, h2, h3, h4, h5⟩
  obtain ⟨c', ids, h6, h7, h8⟩ := frzE_spec h3 h1 h2
  unfold isA at h6
  split at h6
  · rename_i hu
    refine ⟨v, r, addS ρ' S' ids, rfl, hQ, h7.le (σ := fun i => i) (n := 0) (fun i b hi => by omega) h6 hu, ⟨fun _ _ h => (by cases h), fun b hb => .inl (h4.st b hb), h4.same, h4.size, h4.shp, fun _ _ h => (by cases h), fun b hb => ?_, h4.os, h4.tape, h4.output⟩, addS_sok h3 h5 ids⟩
    rcases hb with hb | ⟨i, _, hb⟩
    · rcases h4.stf b hb with h9 | ⟨j, h9⟩ | h9
      · exact .inl h9
      · cases h9
      · exact .inr (.inr h9)
    · rcases h4.fresh i b hb with ⟨j, h9⟩ | h9
      · cases h9
      · exact .inr (.inr h9)
  · exact h6.elim
/-! ### Contracts in plain form -/
/-- Of some data: what is handed over tells no less than theirs. -/
def PC.of {α : Type} (args : α → List AV) (pre : α → Prop) (res : α → AV) : PC := {
  T cs Q := ∃ x, pre x ∧ leL (fun i => i) cs (args x) ∧ Q (res x)
  det cs N h := by obtain ⟨x, h1, h2, h3⟩ := h; exact ⟨res x, h3, x, h1, h2, rfl⟩ }
theorem goodP_of {α : Type} {args : α → List AV} {pre : α → Prop} {res : α → AV} (hm : P.follows .mixedOrders = true) (hTY : TyOk P TY) (hD : PTOk F P D) (hC : CtrOk F P C) {f : FuncId} {fn : Func} (hf : P.funcs[f]? = some fn) (L : α → Nat → Option LR)
    (hu : ∀ x, underL 0 (args x) = true)
    (h : ∀ x, factL (args x) → pre x → fnE TY C D wr (L x) fn (args x) [] (fun c H' => expE H' c (isA (res x)))) : GoodP F P f (PC.of args pre res) := by
  intro S w cs vs Q hs hv hpre
  obtain ⟨x, h1, h2, h3⟩ := hpre
  have hl := leL_length h2
  have hv' : VL (fun _ => none) S w (args x) vs := by
    refine ⟨by rw [← hl]; exact hv.1, fun i c v hc hv' => ?_⟩
    have hi : i < cs.length := by
      rcases Nat.lt_or_ge i (args x).length with h' | h'
      · omega
      · rw [List.getElem?_eq_none h'] at hc; cases hc
    exact (hv.2 i cs[i] v (List.getElem?_eq_getElem hi) hv').le (σ := fun i => i) (n := 0) (fun i b hi => by omega) (leL_get h2 i _ _ (List.getElem?_eq_getElem hi) hc) (underL_get (hu x) i c hc)
  have hH : HRel (fun _ => none) S w [] := ⟨fun i j bi bj b hi => by simp at hi, fun i b hi => by simp at hi, fun i b hi => by cases hi⟩
  refine (fnE_calls hm hTY hD hC hf hs hH hv' (h x hv'.fact h1)).mono ?_
  rintro e w' ⟨v, c, H', ρ', S', rfl, h1, h2, h3', h4, h5⟩
  obtain ⟨c', ids, h6, h7, h8⟩ := frzE_spec h3' h1 h2
  unfold isA at h6
  split at h6
  · rename_i hu
    refine ⟨v, res x, addS ρ' S' ids, rfl, h3, h7.le (σ := fun i => i) (n := 0) (fun i b hi => by omega) h6 hu, ⟨fun _ _ h => (by cases h), fun b hb => .inl (h4.st b hb), h4.same, h4.size, h4.shp, fun _ _ h => (by cases h), fun b hb => ?_, h4.os, h4.tape, h4.output⟩, addS_sok h3' h5 ids⟩
    rcases hb with hb | ⟨i, _, hb⟩
    · rcases h4.stf b hb with h9 | ⟨j, h9⟩ | h9
      · exact .inl h9
      · cases h9
      · exact .inr (.inr h9)
    · rcases h4.fresh i b hb with ⟨j, h9⟩ | h9
      · cases h9
      · exact .inr (.inr h9)
  · exact h6.elim
end
end Go.Vc

/- A table of types as a tree. -/
namespace Go.Vc
open Go
inductive TT where
  | leaf (n : Nat) (o : Option TI)
  | node (n : Nat) (l r : TT)
def TT.look : TT → Nat → Option TI
  | .leaf n o, t => (match Nat.beq t n with | true => o | false => none)
  | .node n l r, t => (match Nat.blt t n with | true => l.look t | false => r.look t)
def TT.All (P : Program) : TT → Prop
  | .leaf n o => tiOf P n = o
  | .node _ l r => l.All P ∧ r.All P
theorem TT.ok {P : Program} {t : TT} (h : t.All P) : TyOk P t.look := by
  induction t with
  | leaf n o =>
    intro x i hi
    simp only [TT.look] at hi
    split at hi
    · rename_i hb
      have := Nat.eq_of_beq_eq_true hb
      subst this
      rw [show tiOf P x = o from h, hi]
    · cases hi
  | node n l r ihl ihr =>
    intro x i hi
    simp only [TT.look] at hi
    split at hi
    · exact ihl h.1 x i hi
    · exact ihr h.2 x i hi
end Go.Vc
namespace Go.Vc
open Go
/-! ### Tables of contracts -/
def tabD : List (FuncId × PC) → PT
  | [], _ => none
  | (g, pc) :: l, f => (match Nat.beq f g with | true => some pc | false => tabD l f)
theorem tabD_nil {F : Nat → Obj → Prop} {P : Program} : PTOk F P (tabD []) := fun _ _ h => by cases h
theorem tabD_cons {F : Nat → Obj → Prop} {P : Program} {g : FuncId} {pc : PC} {l : List (FuncId × PC)} (he : Ent P g) (hg : GoodP F P g pc) (h : PTOk F P (tabD l)) : PTOk F P (tabD ((g, pc) :: l)) := by
  intro f pc' hf
  simp only [tabD] at hf
  split at hf
  · rename_i hb
    obtain rfl := Nat.eq_of_beq_eq_true hb
    cases hf
    exact ⟨he, hg⟩
  · exact h f pc' hf
def tabC (D : PT) : List (FuncId × Ctr) → FuncId → Option Ctr
  | [], f => (match D f with | some pc => some (pureK pc) | none => none)
  | (g, K) :: l, f => (match Nat.beq f g with | true => some K | false => tabC D l f)
theorem tabC_nil {F : Nat → Obj → Prop} {P : Program} {D : PT} (h : PTOk F P D) : CtrOk F P (tabC D []) := by
  intro f K hf
  simp only [tabC] at hf
  split at hf
  · rename_i pc hpc
    cases hf
    obtain ⟨h1, h2⟩ := h f pc hpc
    exact ⟨h1, good_of_goodP h2⟩
  · cases hf
theorem tabC_cons {F : Nat → Obj → Prop} {P : Program} {D : PT} {g : FuncId} {K : Ctr} {l : List (FuncId × Ctr)} (he : Ent P g) (hg : Good F P g K) (h : CtrOk F P (tabC D l)) : CtrOk F P (tabC D ((g, K) :: l)) := by
  intro f K' hf
  simp only [tabC] at hf
  split at hf
  · rename_i hb
    obtain rfl := Nat.eq_of_beq_eq_true hb
    cases hf
    exact ⟨he, hg⟩
  · exact h f K' hf
/-- A function that is walked where it is called. -/
def inl0 (TY : TypeId → Option TI) (C : FuncId → Option Ctr) (D : PT) (wr : Tmp → Bool) (L : List AV → List Blk → Nat → Option LR) (fn : Func) : Ctr := fun cs H Q => fnE TY C D wr (L cs H) fn cs H Q
/-- Sealed: the kernel is not to walk into it where it holds two goals against one another. -/
noncomputable def inl : (TypeId → Option TI) → (FuncId → Option Ctr) → PT → (Tmp → Bool) → (List AV → List Blk → Nat → Option LR) → Func → Ctr := Classical.choose (⟨inl0, rfl⟩ : ∃ f, f = inl0)
theorem inl_eq : inl = inl0 := Classical.choose_spec (⟨inl0, rfl⟩ : ∃ f, f = inl0)
attribute [irreducible] inl
theorem inl_intro {TY : TypeId → Option TI} {C : FuncId → Option Ctr} {D : PT} {wr : Tmp → Bool} {L : List AV → List Blk → Nat → Option LR} {fn : Func} {cs : List AV} {H : List Blk} {Q : AV → List Blk → Prop} (h : fnE TY C D wr (L cs H) fn cs H Q) : inl TY C D wr L fn cs H Q := by
  rw [inl_eq]; exact h
theorem good_inl {F : Nat → Obj → Prop} {P : Program} {TY : TypeId → Option TI} {C : FuncId → Option Ctr} {D : PT} {wr : Tmp → Bool} (hm : P.follows .mixedOrders = true) (hTY : TyOk P TY) (hD : PTOk F P D) (hC : CtrOk F P C) {f : FuncId} {fn : Func} (hf : P.funcs[f]? = some fn) (L : List AV → List Blk → Nat → Option LR) :
    Good F P f (inl TY C D wr L fn) := good_of_fnE hm hTY hD hC hf L fun _ _ _ _ h => by rw [inl_eq] at h; exact h
end Go.Vc

/- Printed by PrintTY: what the program's types are. -/
namespace Go.Vc.Z
open Go Go.Vc Go.Proofs
def ty0 : TI := ⟨1, 0, false, .other, (some (.any)), true⟩
theorem ok0 : tiOf Tryz.prog 0 = some ty0 := by kernel_rfl
def ty2 : TI := ⟨1, 8, false, (.int .i64), (some (.int .i64 0)), true⟩
theorem ok2 : tiOf Tryz.prog 2 = some ty2 := by kernel_rfl
def ty3 : TI := ⟨1, 8, false, (.int .i64), (some (.int .i64 0)), true⟩
theorem ok3 : tiOf Tryz.prog 3 = some ty3 := by kernel_rfl
def ty4 : TI := ⟨1, 1, false, .bool, (some (.bool false)), true⟩
theorem ok4 : tiOf Tryz.prog 4 = some ty4 := by kernel_rfl
def ty5 : TI := ⟨1, 1, false, (.int .u8), (some (.int .u8 0)), true⟩
theorem ok5 : tiOf Tryz.prog 5 = some ty5 := by kernel_rfl
def ty9 : TI := ⟨1, 16, false, .str, (some (.str [])), true⟩
theorem ok9 : tiOf Tryz.prog 9 = some ty9 := by kernel_rfl
def ty20 : TI := ⟨1, 16, false, .iface, (some (.nilif)), true⟩
theorem ok20 : tiOf Tryz.prog 20 = some ty20 := by kernel_rfl
def ty21 : TI := ⟨1, 4, false, (.int .i32), (some (.int .i32 0)), true⟩
theorem ok21 : tiOf Tryz.prog 21 = some ty21 := by kernel_rfl
def ty22 : TI := ⟨1, 8, false, (.int .i64), (some (.int .i64 0)), true⟩
theorem ok22 : tiOf Tryz.prog 22 = some ty22 := by kernel_rfl
def ty23 : TI := ⟨1, 24, false, (.slice 42), (some (.nilsl)), true⟩
theorem ok23 : tiOf Tryz.prog 23 = some ty23 := by kernel_rfl
def ty24 : TI := ⟨1, 24, false, (.slice 95), (some (.nilsl)), true⟩
theorem ok24 : tiOf Tryz.prog 24 = some ty24 := by kernel_rfl
def ty25 : TI := ⟨1, 24, false, (.slice 47), (some (.nilsl)), true⟩
theorem ok25 : tiOf Tryz.prog 25 = some ty25 := by kernel_rfl
def ty26 : TI := ⟨4, 80, true, (.struct [(0, 22), (1, 23), (2, 24), (3, 25)]), (some (.agg [.int .i64 0, .nilsl, .nilsl, .nilsl])), true⟩
theorem ok26 : tiOf Tryz.prog 26 = some ty26 := by kernel_rfl
def ty27 : TI := ⟨4, 80, true, (.struct [(0, 22), (1, 23), (2, 24), (3, 25)]), (some (.agg [.int .i64 0, .nilsl, .nilsl, .nilsl])), true⟩
theorem ok27 : tiOf Tryz.prog 27 = some ty27 := by kernel_rfl
def ty28 : TI := ⟨6, 96, true, (.struct [(0, 27), (4, 22), (5, 3)]), (some (.agg [.int .i64 0, .nilsl, .nilsl, .nilsl, .int .i64 0, .int .i64 0])), true⟩
theorem ok28 : tiOf Tryz.prog 28 = some ty28 := by kernel_rfl
def ty29 : TI := ⟨6, 96, true, (.struct [(0, 27), (4, 22), (5, 3)]), (some (.agg [.int .i64 0, .nilsl, .nilsl, .nilsl, .int .i64 0, .int .i64 0])), true⟩
theorem ok29 : tiOf Tryz.prog 29 = some ty29 := by kernel_rfl
def ty32 : TI := ⟨1, 24, false, (.slice 9), (some (.nilsl)), true⟩
theorem ok32 : tiOf Tryz.prog 32 = some ty32 := by kernel_rfl
def ty37 : TI := ⟨1, 8, false, (.int .u64), (some (.int .u64 0)), true⟩
theorem ok37 : tiOf Tryz.prog 37 = some ty37 := by kernel_rfl
def ty38 : TI := ⟨1, 24, false, (.slice 45), (some (.nilsl)), true⟩
theorem ok38 : tiOf Tryz.prog 38 = some ty38 := by kernel_rfl
def ty39 : TI := ⟨1, 24, false, (.slice 113), (some (.nilsl)), true⟩
theorem ok39 : tiOf Tryz.prog 39 = some ty39 := by kernel_rfl
def ty40 : TI := ⟨1, 24, false, (.slice 105), (some (.nilsl)), true⟩
theorem ok40 : tiOf Tryz.prog 40 = some ty40 := by kernel_rfl
def ty41 : TI := ⟨11, 144, true, (.struct [(0, 37), (1, 9), (2, 3), (3, 38), (4, 39), (5, 37), (6, 37), (7, 37), (8, 2), (9, 3), (10, 40)]), (some (.agg [.int .u64 0, .str [], .int .i64 0, .nilsl, .nilsl, .int .u64 0, .int .u64 0, .int .u64 0, .int .i64 0, .int .i64 0, .nilsl])), true⟩
theorem ok41 : tiOf Tryz.prog 41 = some ty41 := by kernel_rfl
def ty42 : TI := ⟨11, 144, true, (.struct [(0, 37), (1, 9), (2, 3), (3, 38), (4, 39), (5, 37), (6, 37), (7, 37), (8, 2), (9, 3), (10, 40)]), (some (.agg [.int .u64 0, .str [], .int .i64 0, .nilsl, .nilsl, .int .u64 0, .int .u64 0, .int .u64 0, .int .i64 0, .int .i64 0, .nilsl])), true⟩
theorem ok42 : tiOf Tryz.prog 42 = some ty42 := by kernel_rfl
def ty43 : TI := ⟨1, 8, false, (.int .i64), (some (.int .i64 0)), true⟩
theorem ok43 : tiOf Tryz.prog 43 = some ty43 := by kernel_rfl
def ty44 : TI := ⟨6, 48, true, (.struct [(0, 3), (1, 3), (2, 2), (3, 43), (4, 3), (5, 37)]), (some (.agg [.int .i64 0, .int .i64 0, .int .i64 0, .int .i64 0, .int .i64 0, .int .u64 0])), true⟩
theorem ok44 : tiOf Tryz.prog 44 = some ty44 := by kernel_rfl
def ty45 : TI := ⟨6, 48, true, (.struct [(0, 3), (1, 3), (2, 2), (3, 43), (4, 3), (5, 37)]), (some (.agg [.int .i64 0, .int .i64 0, .int .i64 0, .int .i64 0, .int .i64 0, .int .u64 0])), true⟩
theorem ok45 : tiOf Tryz.prog 45 = some ty45 := by kernel_rfl
def ty46 : TI := ⟨9, 72, true, (.struct [(0, 37), (1, 3), (2, 4), (3, 45)]), (some (.agg [.int .u64 0, .int .i64 0, .bool false, .int .i64 0, .int .i64 0, .int .i64 0, .int .i64 0, .int .i64 0, .int .u64 0])), true⟩
theorem ok46 : tiOf Tryz.prog 46 = some ty46 := by kernel_rfl
def ty47 : TI := ⟨9, 72, true, (.struct [(0, 37), (1, 3), (2, 4), (3, 45)]), (some (.agg [.int .u64 0, .int .i64 0, .bool false, .int .i64 0, .int .i64 0, .int .i64 0, .int .i64 0, .int .i64 0, .int .u64 0])), true⟩
theorem ok47 : tiOf Tryz.prog 47 = some ty47 := by kernel_rfl
def ty52 : TI := ⟨1, 8, false, .func, (some (.nilfn)), true⟩
theorem ok52 : tiOf Tryz.prog 52 = some ty52 := by kernel_rfl
def ty54 : TI := ⟨1, 8, false, (.int .i64), (some (.int .i64 0)), true⟩
theorem ok54 : tiOf Tryz.prog 54 = some ty54 := by kernel_rfl
def ty55 : TI := ⟨12, 144, true, (.struct [(0, 9), (1, 54), (2, 3), (3, 37), (4, 3), (5, 43), (6, 9), (7, 38), (8, 39), (9, 2), (10, 3), (11, 3)]), (some (.agg [.str [], .int .i64 0, .int .i64 0, .int .u64 0, .int .i64 0, .int .i64 0, .str [], .nilsl, .nilsl, .int .i64 0, .int .i64 0, .int .i64 0])), true⟩
theorem ok55 : tiOf Tryz.prog 55 = some ty55 := by kernel_rfl
def ty56 : TI := ⟨12, 144, true, (.struct [(0, 9), (1, 54), (2, 3), (3, 37), (4, 3), (5, 43), (6, 9), (7, 38), (8, 39), (9, 2), (10, 3), (11, 3)]), (some (.agg [.str [], .int .i64 0, .int .i64 0, .int .u64 0, .int .i64 0, .int .i64 0, .str [], .nilsl, .nilsl, .int .i64 0, .int .i64 0, .int .i64 0])), true⟩
theorem ok56 : tiOf Tryz.prog 56 = some ty56 := by kernel_rfl
def ty58 : TI := ⟨1, 8, false, .func, (some (.nilfn)), true⟩
theorem ok58 : tiOf Tryz.prog 58 = some ty58 := by kernel_rfl
def ty59 : TI := ⟨1, 0, false, .other, (some (.any)), true⟩
theorem ok59 : tiOf Tryz.prog 59 = some ty59 := by kernel_rfl
def ty62 : TI := ⟨1, 0, false, .other, (some (.any)), true⟩
theorem ok62 : tiOf Tryz.prog 62 = some ty62 := by kernel_rfl
def ty64 : TI := ⟨1, 8, false, (.int .i64), (some (.int .i64 0)), true⟩
theorem ok64 : tiOf Tryz.prog 64 = some ty64 := by kernel_rfl
def ty65 : TI := ⟨1, 24, false, (.slice 3), (some (.nilsl)), true⟩
theorem ok65 : tiOf Tryz.prog 65 = some ty65 := by kernel_rfl
def ty66 : TI := ⟨17, 200, true, (.struct [(0, 64), (1, 3), (2, 56), (14, 3), (15, 65), (16, 4)]), (some (.agg [.int .i64 0, .int .i64 0, .str [], .int .i64 0, .int .i64 0, .int .u64 0, .int .i64 0, .int .i64 0, .str [], .nilsl, .nilsl, .int .i64 0, .int .i64 0, .int .i64 0, .int .i64 0, .nilsl, .bool false])), true⟩
theorem ok66 : tiOf Tryz.prog 66 = some ty66 := by kernel_rfl
def ty67 : TI := ⟨17, 200, true, (.struct [(0, 64), (1, 3), (2, 56), (14, 3), (15, 65), (16, 4)]), (some (.agg [.int .i64 0, .int .i64 0, .str [], .int .i64 0, .int .i64 0, .int .u64 0, .int .i64 0, .int .i64 0, .str [], .nilsl, .nilsl, .int .i64 0, .int .i64 0, .int .i64 0, .int .i64 0, .nilsl, .bool false])), true⟩
theorem ok67 : tiOf Tryz.prog 67 = some ty67 := by kernel_rfl
def ty68 : TI := ⟨1, 0, false, .other, (some (.any)), true⟩
theorem ok68 : tiOf Tryz.prog 68 = some ty68 := by kernel_rfl
def ty70 : TI := ⟨1, 0, false, .other, (some (.any)), true⟩
theorem ok70 : tiOf Tryz.prog 70 = some ty70 := by kernel_rfl
def ty73 : TI := ⟨1, 8, false, .func, (some (.nilfn)), true⟩
theorem ok73 : tiOf Tryz.prog 73 = some ty73 := by kernel_rfl
def ty76 : TI := ⟨1, 24, false, (.slice 161), (some (.nilsl)), true⟩
theorem ok76 : tiOf Tryz.prog 76 = some ty76 := by kernel_rfl
def ty77 : TI := ⟨2, 32, true, (.struct [(0, 76), (1, 3)]), (some (.agg [.nilsl, .int .i64 0])), true⟩
theorem ok77 : tiOf Tryz.prog 77 = some ty77 := by kernel_rfl
def ty78 : TI := ⟨2, 32, true, (.struct [(0, 76), (1, 3)]), (some (.agg [.nilsl, .int .i64 0])), true⟩
theorem ok78 : tiOf Tryz.prog 78 = some ty78 := by kernel_rfl
def ty79 : TI := ⟨1, 24, false, (.slice 67), (some (.nilsl)), true⟩
theorem ok79 : tiOf Tryz.prog 79 = some ty79 := by kernel_rfl
def ty81 : TI := ⟨1, 0, false, .other, (some (.any)), true⟩
theorem ok81 : tiOf Tryz.prog 81 = some ty81 := by kernel_rfl
def ty84 : TI := ⟨1, 0, false, .other, (some (.any)), true⟩
theorem ok84 : tiOf Tryz.prog 84 = some ty84 := by kernel_rfl
def ty90 : TI := ⟨1, 0, false, .other, (some (.any)), true⟩
theorem ok90 : tiOf Tryz.prog 90 = some ty90 := by kernel_rfl
def ty93 : TI := ⟨1, 8, false, (.int .i64), (some (.int .i64 0)), true⟩
theorem ok93 : tiOf Tryz.prog 93 = some ty93 := by kernel_rfl
def ty94 : TI := ⟨10, 80, true, (.struct [(0, 3), (1, 37), (2, 3), (3, 93), (4, 2), (5, 2), (6, 2), (7, 2), (8, 2), (9, 2)]), (some (.agg [.int .i64 0, .int .u64 0, .int .i64 0, .int .i64 0, .int .i64 0, .int .i64 0, .int .i64 0, .int .i64 0, .int .i64 0, .int .i64 0])), true⟩
theorem ok94 : tiOf Tryz.prog 94 = some ty94 := by kernel_rfl
def ty95 : TI := ⟨10, 80, true, (.struct [(0, 3), (1, 37), (2, 3), (3, 93), (4, 2), (5, 2), (6, 2), (7, 2), (8, 2), (9, 2)]), (some (.agg [.int .i64 0, .int .u64 0, .int .i64 0, .int .i64 0, .int .i64 0, .int .i64 0, .int .i64 0, .int .i64 0, .int .i64 0, .int .i64 0])), true⟩
theorem ok95 : tiOf Tryz.prog 95 = some ty95 := by kernel_rfl
def ty98 : TI := ⟨1, 24, false, (.slice 37), (some (.nilsl)), true⟩
theorem ok98 : tiOf Tryz.prog 98 = some ty98 := by kernel_rfl
def ty101 : TI := ⟨1, 8, false, .func, (some (.nilfn)), true⟩
theorem ok101 : tiOf Tryz.prog 101 = some ty101 := by kernel_rfl
def ty104 : TI := ⟨4, 32, true, (.struct [(0, 3), (1, 3), (2, 43), (3, 43)]), (some (.agg [.int .i64 0, .int .i64 0, .int .i64 0, .int .i64 0])), true⟩
theorem ok104 : tiOf Tryz.prog 104 = some ty104 := by kernel_rfl
def ty105 : TI := ⟨4, 32, true, (.struct [(0, 3), (1, 3), (2, 43), (3, 43)]), (some (.agg [.int .i64 0, .int .i64 0, .int .i64 0, .int .i64 0])), true⟩
theorem ok105 : tiOf Tryz.prog 105 = some ty105 := by kernel_rfl
def ty107 : TI := ⟨1, 8, false, .func, (some (.nilfn)), true⟩
theorem ok107 : tiOf Tryz.prog 107 = some ty107 := by kernel_rfl
def ty112 : TI := ⟨2, 16, true, (.struct [(0, 3), (1, 2)]), (some (.agg [.int .i64 0, .int .i64 0])), true⟩
theorem ok112 : tiOf Tryz.prog 112 = some ty112 := by kernel_rfl
def ty113 : TI := ⟨2, 16, true, (.struct [(0, 3), (1, 2)]), (some (.agg [.int .i64 0, .int .i64 0])), true⟩
theorem ok113 : tiOf Tryz.prog 113 = some ty113 := by kernel_rfl
def ty114 : TI := ⟨1, 8, false, .func, (some (.nilfn)), true⟩
theorem ok114 : tiOf Tryz.prog 114 = some ty114 := by kernel_rfl
def ty115 : TI := ⟨1, 24, false, (.slice 43), (some (.nilsl)), true⟩
theorem ok115 : tiOf Tryz.prog 115 = some ty115 := by kernel_rfl
def ty116 : TI := ⟨1, 0, false, .other, (some (.any)), true⟩
theorem ok116 : tiOf Tryz.prog 116 = some ty116 := by kernel_rfl
def ty120 : TI := ⟨1, 8, false, (.map 21 125), (some (.nilmap)), true⟩
theorem ok120 : tiOf Tryz.prog 120 = some ty120 := by kernel_rfl
def ty123 : TI := ⟨1, 8, false, .func, (some (.nilfn)), true⟩
theorem ok123 : tiOf Tryz.prog 123 = some ty123 := by kernel_rfl
def ty124 : TI := ⟨2, 16, true, (.struct [(0, 58), (1, 123)]), (some (.agg [.nilfn, .nilfn])), true⟩
theorem ok124 : tiOf Tryz.prog 124 = some ty124 := by kernel_rfl
def ty125 : TI := ⟨2, 16, true, (.struct [(0, 58), (1, 123)]), (some (.agg [.nilfn, .nilfn])), true⟩
theorem ok125 : tiOf Tryz.prog 125 = some ty125 := by kernel_rfl
def ty130 : TI := ⟨1, 8, false, (.ptr 56), (some (.nilp)), true⟩
theorem ok130 : tiOf Tryz.prog 130 = some ty130 := by kernel_rfl
def ty135 : TI := ⟨1, 0, false, .other, (some (.any)), true⟩
theorem ok135 : tiOf Tryz.prog 135 = some ty135 := by kernel_rfl
def ty141 : TI := ⟨1, 0, false, .other, (some (.any)), true⟩
theorem ok141 : tiOf Tryz.prog 141 = some ty141 := by kernel_rfl
def ty143 : TI := ⟨1, 0, false, .other, (some (.any)), true⟩
theorem ok143 : tiOf Tryz.prog 143 = some ty143 := by kernel_rfl
def ty147 : TI := ⟨1, 16, true, (.struct [(0, 9)]), (some (.agg [.str []])), true⟩
theorem ok147 : tiOf Tryz.prog 147 = some ty147 := by kernel_rfl
def ty148 : TI := ⟨1, 8, false, (.map 4 147), (some (.nilmap)), true⟩
theorem ok148 : tiOf Tryz.prog 148 = some ty148 := by kernel_rfl
def ty149 : TI := ⟨1, 8, false, (.ptr 152), (some (.nilp)), true⟩
theorem ok149 : tiOf Tryz.prog 149 = some ty149 := by kernel_rfl
def ty150 : TI := ⟨1, 24, false, (.slice 5), (some (.nilsl)), true⟩
theorem ok150 : tiOf Tryz.prog 150 = some ty150 := by kernel_rfl
def ty151 : TI := ⟨2, 32, true, (.struct [(0, 149), (1, 150)]), (some (.agg [.nilp, .nilsl])), true⟩
theorem ok151 : tiOf Tryz.prog 151 = some ty151 := by kernel_rfl
def ty152 : TI := ⟨2, 32, true, (.struct [(0, 149), (1, 150)]), (some (.agg [.nilp, .nilsl])), true⟩
theorem ok152 : tiOf Tryz.prog 152 = some ty152 := by kernel_rfl
def ty153 : TI := ⟨1, 16, false, .iface, (some (.nilif)), false⟩
theorem ok153 : tiOf Tryz.prog 153 = some ty153 := by kernel_rfl
def ty154 : TI := ⟨1, 16, false, .iface, (some (.nilif)), false⟩
theorem ok154 : tiOf Tryz.prog 154 = some ty154 := by kernel_rfl
def ty155 : TI := ⟨1, 0, false, .other, (some (.any)), true⟩
theorem ok155 : tiOf Tryz.prog 155 = some ty155 := by kernel_rfl
def ty157 : TI := ⟨1, 8, false, .func, (some (.nilfn)), true⟩
theorem ok157 : tiOf Tryz.prog 157 = some ty157 := by kernel_rfl
def ty158 : TI := ⟨3, 24, true, (.struct [(0, 3), (1, 3), (2, 3)]), (some (.agg [.int .i64 0, .int .i64 0, .int .i64 0])), true⟩
theorem ok158 : tiOf Tryz.prog 158 = some ty158 := by kernel_rfl
def ty159 : TI := ⟨3, 24, true, (.struct [(0, 3), (1, 3), (2, 3)]), (some (.agg [.int .i64 0, .int .i64 0, .int .i64 0])), true⟩
theorem ok159 : tiOf Tryz.prog 159 = some ty159 := by kernel_rfl
def ty160 : TI := ⟨6, 48, true, (.struct [(0, 159), (3, 3), (4, 3), (5, 3)]), (some (.agg [.int .i64 0, .int .i64 0, .int .i64 0, .int .i64 0, .int .i64 0, .int .i64 0])), true⟩
theorem ok160 : tiOf Tryz.prog 160 = some ty160 := by kernel_rfl
def ty161 : TI := ⟨6, 48, true, (.struct [(0, 159), (3, 3), (4, 3), (5, 3)]), (some (.agg [.int .i64 0, .int .i64 0, .int .i64 0, .int .i64 0, .int .i64 0, .int .i64 0])), true⟩
theorem ok161 : tiOf Tryz.prog 161 = some ty161 := by kernel_rfl
def ty163 : TI := ⟨1, 0, false, .other, (some (.any)), true⟩
theorem ok163 : tiOf Tryz.prog 163 = some ty163 := by kernel_rfl
def ty167 : TI := ⟨1, 0, false, .other, (some (.any)), true⟩
theorem ok167 : tiOf Tryz.prog 167 = some ty167 := by kernel_rfl
def ty169 : TI := ⟨6, 48, true, (.arr 6 2), (some (.agg [.int .i64 0, .int .i64 0, .int .i64 0, .int .i64 0, .int .i64 0, .int .i64 0])), true⟩
theorem ok169 : tiOf Tryz.prog 169 = some ty169 := by kernel_rfl
def ty170 : TI := ⟨6, 48, true, (.arr 6 2), (some (.agg [.int .i64 0, .int .i64 0, .int .i64 0, .int .i64 0, .int .i64 0, .int .i64 0])), true⟩
theorem ok170 : tiOf Tryz.prog 170 = some ty170 := by kernel_rfl
def ty173 : TI := ⟨1, 24, false, (.slice 2), (some (.nilsl)), true⟩
theorem ok173 : tiOf Tryz.prog 173 = some ty173 := by kernel_rfl
def ty178 : TI := ⟨1, 8, false, .func, (some (.nilfn)), true⟩
theorem ok178 : tiOf Tryz.prog 178 = some ty178 := by kernel_rfl
def ty180 : TI := ⟨1, 24, false, (.slice 21), (some (.nilsl)), true⟩
theorem ok180 : tiOf Tryz.prog 180 = some ty180 := by kernel_rfl
def ty182 : TI := ⟨1, 8, false, .func, (some (.nilfn)), true⟩
theorem ok182 : tiOf Tryz.prog 182 = some ty182 := by kernel_rfl
def ty187 : TI := ⟨1, 8, false, (.ptr 193), (some (.nilp)), true⟩
theorem ok187 : tiOf Tryz.prog 187 = some ty187 := by kernel_rfl
def ty188 : TI := ⟨1, 8, false, (.ptr 327), (some (.nilp)), true⟩
theorem ok188 : tiOf Tryz.prog 188 = some ty188 := by kernel_rfl
def ty189 : TI := ⟨1, 8, false, (.ptr 322), (some (.nilp)), true⟩
theorem ok189 : tiOf Tryz.prog 189 = some ty189 := by kernel_rfl
def ty190 : TI := ⟨3, 24, true, (.struct [(0, 188), (1, 189), (2, 4)]), (some (.agg [.nilp, .nilp, .bool false])), true⟩
theorem ok190 : tiOf Tryz.prog 190 = some ty190 := by kernel_rfl
def ty191 : TI := ⟨3, 24, true, (.struct [(0, 188), (1, 189), (2, 4)]), (some (.agg [.nilp, .nilp, .bool false])), true⟩
theorem ok191 : tiOf Tryz.prog 191 = some ty191 := by kernel_rfl
def ty192 : TI := ⟨4, 32, true, (.struct [(0, 191), (3, 130)]), (some (.agg [.nilp, .nilp, .bool false, .nilp])), true⟩
theorem ok192 : tiOf Tryz.prog 192 = some ty192 := by kernel_rfl
def ty193 : TI := ⟨4, 32, true, (.struct [(0, 191), (3, 130)]), (some (.agg [.nilp, .nilp, .bool false, .nilp])), true⟩
theorem ok193 : tiOf Tryz.prog 193 = some ty193 := by kernel_rfl
def ty195 : TI := ⟨1, 8, false, (.ptr 9), (some (.nilp)), true⟩
theorem ok195 : tiOf Tryz.prog 195 = some ty195 := by kernel_rfl
def ty196 : TI := ⟨1, 8, false, .func, (some (.nilfn)), true⟩
theorem ok196 : tiOf Tryz.prog 196 = some ty196 := by kernel_rfl
def ty198 : TI := ⟨1, 8, false, (.ptr 3), (some (.nilp)), true⟩
theorem ok198 : tiOf Tryz.prog 198 = some ty198 := by kernel_rfl
def ty199 : TI := ⟨1, 8, false, .func, (some (.nilfn)), true⟩
theorem ok199 : tiOf Tryz.prog 199 = some ty199 := by kernel_rfl
def ty200 : TI := ⟨1, 0, false, .other, (some (.any)), true⟩
theorem ok200 : tiOf Tryz.prog 200 = some ty200 := by kernel_rfl
def ty202 : TI := ⟨1, 0, false, .other, (some (.any)), true⟩
theorem ok202 : tiOf Tryz.prog 202 = some ty202 := by kernel_rfl
def ty204 : TI := ⟨1, 0, false, .other, (some (.any)), true⟩
theorem ok204 : tiOf Tryz.prog 204 = some ty204 := by kernel_rfl
def ty206 : TI := ⟨1, 24, false, (.slice 242), (some (.nilsl)), true⟩
theorem ok206 : tiOf Tryz.prog 206 = some ty206 := by kernel_rfl
def ty207 : TI := ⟨1, 0, false, .other, (some (.any)), true⟩
theorem ok207 : tiOf Tryz.prog 207 = some ty207 := by kernel_rfl
def ty214 : TI := ⟨1, 0, false, .other, (some (.any)), true⟩
theorem ok214 : tiOf Tryz.prog 214 = some ty214 := by kernel_rfl
def ty218 : TI := ⟨1, 8, false, (.map 3 220), (some (.nilmap)), true⟩
theorem ok218 : tiOf Tryz.prog 218 = some ty218 := by kernel_rfl
def ty220 : TI := ⟨1, 1, true, (.struct [(0, 4)]), (some (.agg [.bool false])), true⟩
theorem ok220 : tiOf Tryz.prog 220 = some ty220 := by kernel_rfl
def ty221 : TI := ⟨1, 8, false, (.ptr 5), (some (.nilp)), true⟩
theorem ok221 : tiOf Tryz.prog 221 = some ty221 := by kernel_rfl
def ty222 : TI := ⟨1, 24, false, (.slice 198), (some (.nilsl)), true⟩
theorem ok222 : tiOf Tryz.prog 222 = some ty222 := by kernel_rfl
def ty225 : TI := ⟨1, 8, false, (.ptr 191), (some (.nilp)), true⟩
theorem ok225 : tiOf Tryz.prog 225 = some ty225 := by kernel_rfl
def ty227 : TI := ⟨1, 8, false, (.ptr 47), (some (.nilp)), true⟩
theorem ok227 : tiOf Tryz.prog 227 = some ty227 := by kernel_rfl
def ty232 : TI := ⟨1, 8, false, .func, (some (.nilfn)), true⟩
theorem ok232 : tiOf Tryz.prog 232 = some ty232 := by kernel_rfl
def ty233 : TI := ⟨24, 24, true, (.arr 24 5), (some (.agg [.int .u8 0, .int .u8 0, .int .u8 0, .int .u8 0, .int .u8 0, .int .u8 0, .int .u8 0, .int .u8 0, .int .u8 0, .int .u8 0, .int .u8 0, .int .u8 0, .int .u8 0, .int .u8 0, .int .u8 0, .int .u8 0, .int .u8 0, .int .u8 0, .int .u8 0, .int .u8 0, .int .u8 0, .int .u8 0, .int .u8 0, .int .u8 0])), true⟩
theorem ok233 : tiOf Tryz.prog 233 = some ty233 := by kernel_rfl
def ty235 : TI := ⟨1, 0, false, .other, (some (.any)), true⟩
theorem ok235 : tiOf Tryz.prog 235 = some ty235 := by kernel_rfl
def ty238 : TI := ⟨1, 0, false, .other, (some (.any)), true⟩
theorem ok238 : tiOf Tryz.prog 238 = some ty238 := by kernel_rfl
def ty242 : TI := ⟨1, 8, false, .func, (some (.nilfn)), true⟩
theorem ok242 : tiOf Tryz.prog 242 = some ty242 := by kernel_rfl
def ty243 : TI := ⟨10, 96, true, (.struct [(0, 54), (1, 9), (2, 9), (3, 3), (4, 3), (5, 37), (6, 43), (7, 2), (8, 3), (9, 3)]), (some (.agg [.int .i64 0, .str [], .str [], .int .i64 0, .int .i64 0, .int .u64 0, .int .i64 0, .int .i64 0, .int .i64 0, .int .i64 0])), true⟩
theorem ok243 : tiOf Tryz.prog 243 = some ty243 := by kernel_rfl
def ty244 : TI := ⟨10, 96, true, (.struct [(0, 54), (1, 9), (2, 9), (3, 3), (4, 3), (5, 37), (6, 43), (7, 2), (8, 3), (9, 3)]), (some (.agg [.int .i64 0, .str [], .str [], .int .i64 0, .int .i64 0, .int .u64 0, .int .i64 0, .int .i64 0, .int .i64 0, .int .i64 0])), true⟩
theorem ok244 : tiOf Tryz.prog 244 = some ty244 := by kernel_rfl
def ty245 : TI := ⟨1, 8, false, .func, (some (.nilfn)), true⟩
theorem ok245 : tiOf Tryz.prog 245 = some ty245 := by kernel_rfl
def ty249 : TI := ⟨1, 0, false, .other, (some (.any)), true⟩
theorem ok249 : tiOf Tryz.prog 249 = some ty249 := by kernel_rfl
def ty251 : TI := ⟨1, 0, false, .other, (some (.any)), true⟩
theorem ok251 : tiOf Tryz.prog 251 = some ty251 := by kernel_rfl
def ty253 : TI := ⟨1, 0, false, .other, (some (.any)), true⟩
theorem ok253 : tiOf Tryz.prog 253 = some ty253 := by kernel_rfl
def ty255 : TI := ⟨1, 0, false, .other, (some (.any)), true⟩
theorem ok255 : tiOf Tryz.prog 255 = some ty255 := by kernel_rfl
def ty264 : TI := ⟨1, 8, false, .other, (some (.nilp)), true⟩
theorem ok264 : tiOf Tryz.prog 264 = some ty264 := by kernel_rfl
def ty268 : TI := ⟨1, 8, false, (.ptr 37), (some (.nilp)), true⟩
theorem ok268 : tiOf Tryz.prog 268 = some ty268 := by kernel_rfl
def ty272 : TI := ⟨1, 8, false, (.ptr 45), (some (.nilp)), true⟩
theorem ok272 : tiOf Tryz.prog 272 = some ty272 := by kernel_rfl
def ty274 : TI := ⟨1, 8, false, (.ptr 43), (some (.nilp)), true⟩
theorem ok274 : tiOf Tryz.prog 274 = some ty274 := by kernel_rfl
def ty275 : TI := ⟨1, 24, false, (.slice 4), (some (.nilsl)), true⟩
theorem ok275 : tiOf Tryz.prog 275 = some ty275 := by kernel_rfl
def ty281 : TI := ⟨20, 160, true, (.arr 20 37), (some (.agg [.int .u64 0, .int .u64 0, .int .u64 0, .int .u64 0, .int .u64 0, .int .u64 0, .int .u64 0, .int .u64 0, .int .u64 0, .int .u64 0, .int .u64 0, .int .u64 0, .int .u64 0, .int .u64 0, .int .u64 0, .int .u64 0, .int .u64 0, .int .u64 0, .int .u64 0, .int .u64 0])), true⟩
theorem ok281 : tiOf Tryz.prog 281 = some ty281 := by kernel_rfl
def ty282 : TI := ⟨1, 4, false, (.int .u32), (some (.int .u32 0)), true⟩
theorem ok282 : tiOf Tryz.prog 282 = some ty282 := by kernel_rfl
def ty283 : TI := ⟨65, 65, true, (.arr 65 5), (some (.agg [.int .u8 0, .int .u8 0, .int .u8 0, .int .u8 0, .int .u8 0, .int .u8 0, .int .u8 0, .int .u8 0, .int .u8 0, .int .u8 0, .int .u8 0, .int .u8 0, .int .u8 0, .int .u8 0, .int .u8 0, .int .u8 0, .int .u8 0, .int .u8 0, .int .u8 0, .int .u8 0, .int .u8 0, .int .u8 0, .int .u8 0, .int .u8 0, .int .u8 0, .int .u8 0, .int .u8 0, .int .u8 0, .int .u8 0, .int .u8 0, .int .u8 0, .int .u8 0, .int .u8 0, .int .u8 0, .int .u8 0, .int .u8 0, .int .u8 0, .int .u8 0, .int .u8 0, .int .u8 0, .int .u8 0, .int .u8 0, .int .u8 0, .int .u8 0, .int .u8 0, .int .u8 0, .int .u8 0, .int .u8 0, .int .u8 0, .int .u8 0, .int .u8 0, .int .u8 0, .int .u8 0, .int .u8 0, .int .u8 0, .int .u8 0, .int .u8 0, .int .u8 0, .int .u8 0, .int .u8 0, .int .u8 0, .int .u8 0, .int .u8 0, .int .u8 0, .int .u8 0])), true⟩
theorem ok283 : tiOf Tryz.prog 283 = some ty283 := by kernel_rfl
def ty284 : TI := ⟨1, 8, false, (.int .u64), (some (.int .u64 0)), true⟩
theorem ok284 : tiOf Tryz.prog 284 = some ty284 := by kernel_rfl
def ty290 : TI := ⟨1, 8, false, (.ptr 113), (some (.nilp)), true⟩
theorem ok290 : tiOf Tryz.prog 290 = some ty290 := by kernel_rfl
def ty292 : TI := ⟨1, 8, false, (.ptr 2), (some (.nilp)), true⟩
theorem ok292 : tiOf Tryz.prog 292 = some ty292 := by kernel_rfl
def ty293 : TI := ⟨1, 0, false, .other, (some (.any)), true⟩
theorem ok293 : tiOf Tryz.prog 293 = some ty293 := by kernel_rfl
def ty296 : TI := ⟨1, 8, false, (.int .i64), (some (.int .i64 0)), true⟩
theorem ok296 : tiOf Tryz.prog 296 = some ty296 := by kernel_rfl
def ty297 : TI := ⟨1, 0, false, .other, (some (.any)), true⟩
theorem ok297 : tiOf Tryz.prog 297 = some ty297 := by kernel_rfl
def ty299 : TI := ⟨1, 8, false, (.ptr 316), (some (.nilp)), true⟩
theorem ok299 : tiOf Tryz.prog 299 = some ty299 := by kernel_rfl
def ty306 : TI := ⟨1, 24, false, (.slice 275), (some (.nilsl)), true⟩
theorem ok306 : tiOf Tryz.prog 306 = some ty306 := by kernel_rfl
def ty310 : TI := ⟨1, 0, false, .other, (some (.any)), true⟩
theorem ok310 : tiOf Tryz.prog 310 = some ty310 := by kernel_rfl
def ty312 : TI := ⟨1, 0, false, .other, (some (.any)), true⟩
theorem ok312 : tiOf Tryz.prog 312 = some ty312 := by kernel_rfl
def ty315 : TI := ⟨3, 48, true, (.struct [(0, 9), (1, 9), (2, 154)]), (some (.agg [.str [], .str [], .nilif])), false⟩
theorem ok315 : tiOf Tryz.prog 315 = some ty315 := by kernel_rfl
def ty316 : TI := ⟨3, 48, true, (.struct [(0, 9), (1, 9), (2, 154)]), (some (.agg [.str [], .str [], .nilif])), false⟩
theorem ok316 : tiOf Tryz.prog 316 = some ty316 := by kernel_rfl
def ty318 : TI := ⟨8, 8, true, (.arr 8 5), (some (.agg [.int .u8 0, .int .u8 0, .int .u8 0, .int .u8 0, .int .u8 0, .int .u8 0, .int .u8 0, .int .u8 0])), true⟩
theorem ok318 : tiOf Tryz.prog 318 = some ty318 := by kernel_rfl
def ty321 : TI := ⟨3, 40, true, (.struct [(0, 150), (1, 3), (2, 4)]), (some (.agg [.nilsl, .int .i64 0, .bool false])), true⟩
theorem ok321 : tiOf Tryz.prog 321 = some ty321 := by kernel_rfl
def ty322 : TI := ⟨3, 40, true, (.struct [(0, 150), (1, 3), (2, 4)]), (some (.agg [.nilsl, .int .i64 0, .bool false])), true⟩
theorem ok322 : tiOf Tryz.prog 322 = some ty322 := by kernel_rfl
def ty323 : TI := ⟨32, 32, true, (.arr 32 5), (some (.agg [.int .u8 0, .int .u8 0, .int .u8 0, .int .u8 0, .int .u8 0, .int .u8 0, .int .u8 0, .int .u8 0, .int .u8 0, .int .u8 0, .int .u8 0, .int .u8 0, .int .u8 0, .int .u8 0, .int .u8 0, .int .u8 0, .int .u8 0, .int .u8 0, .int .u8 0, .int .u8 0, .int .u8 0, .int .u8 0, .int .u8 0, .int .u8 0, .int .u8 0, .int .u8 0, .int .u8 0, .int .u8 0, .int .u8 0, .int .u8 0, .int .u8 0, .int .u8 0])), true⟩
theorem ok323 : tiOf Tryz.prog 323 = some ty323 := by kernel_rfl
def ty324 : TI := ⟨64, 64, true, (.arr 64 5), (some (.agg [.int .u8 0, .int .u8 0, .int .u8 0, .int .u8 0, .int .u8 0, .int .u8 0, .int .u8 0, .int .u8 0, .int .u8 0, .int .u8 0, .int .u8 0, .int .u8 0, .int .u8 0, .int .u8 0, .int .u8 0, .int .u8 0, .int .u8 0, .int .u8 0, .int .u8 0, .int .u8 0, .int .u8 0, .int .u8 0, .int .u8 0, .int .u8 0, .int .u8 0, .int .u8 0, .int .u8 0, .int .u8 0, .int .u8 0, .int .u8 0, .int .u8 0, .int .u8 0, .int .u8 0, .int .u8 0, .int .u8 0, .int .u8 0, .int .u8 0, .int .u8 0, .int .u8 0, .int .u8 0, .int .u8 0, .int .u8 0, .int .u8 0, .int .u8 0, .int .u8 0, .int .u8 0, .int .u8 0, .int .u8 0, .int .u8 0, .int .u8 0, .int .u8 0, .int .u8 0, .int .u8 0, .int .u8 0, .int .u8 0, .int .u8 0, .int .u8 0, .int .u8 0, .int .u8 0, .int .u8 0, .int .u8 0, .int .u8 0, .int .u8 0, .int .u8 0])), true⟩
theorem ok324 : tiOf Tryz.prog 324 = some ty324 := by kernel_rfl
def ty325 : TI := ⟨1, 24, false, (.slice 150), (some (.nilsl)), true⟩
theorem ok325 : tiOf Tryz.prog 325 = some ty325 := by kernel_rfl
def ty326 : TI := ⟨3, 40, true, (.struct [(0, 325), (1, 3), (2, 4)]), (some (.agg [.nilsl, .int .i64 0, .bool false])), true⟩
theorem ok326 : tiOf Tryz.prog 326 = some ty326 := by kernel_rfl
def ty327 : TI := ⟨3, 40, true, (.struct [(0, 325), (1, 3), (2, 4)]), (some (.agg [.nilsl, .int .i64 0, .bool false])), true⟩
theorem ok327 : tiOf Tryz.prog 327 = some ty327 := by kernel_rfl
def ty330 : TI := ⟨256, 256, true, (.arr 256 5), (some (.agg [.int .u8 0, .int .u8 0, .int .u8 0, .int .u8 0, .int .u8 0, .int .u8 0, .int .u8 0, .int .u8 0, .int .u8 0, .int .u8 0, .int .u8 0, .int .u8 0, .int .u8 0, .int .u8 0, .int .u8 0, .int .u8 0, .int .u8 0, .int .u8 0, .int .u8 0, .int .u8 0, .int .u8 0, .int .u8 0, .int .u8 0, .int .u8 0, .int .u8 0, .int .u8 0, .int .u8 0, .int .u8 0, .int .u8 0, .int .u8 0, .int .u8 0, .int .u8 0, .int .u8 0, .int .u8 0, .int .u8 0, .int .u8 0, .int .u8 0, .int .u8 0, .int .u8 0, .int .u8 0, .int .u8 0, .int .u8 0, .int .u8 0, .int .u8 0, .int .u8 0, .int .u8 0, .int .u8 0, .int .u8 0, .int .u8 0, .int .u8 0, .int .u8 0, .int .u8 0, .int .u8 0, .int .u8 0, .int .u8 0, .int .u8 0, .int .u8 0, .int .u8 0, .int .u8 0, .int .u8 0, .int .u8 0, .int .u8 0, .int .u8 0, .int .u8 0, .int .u8 0, .int .u8 0, .int .u8 0, .int .u8 0, .int .u8 0, .int .u8 0, .int .u8 0, .int .u8 0, .int .u8 0, .int .u8 0, .int .u8 0, .int .u8 0, .int .u8 0, .int .u8 0, .int .u8 0, .int .u8 0, .int .u8 0, .int .u8 0, .int .u8 0, .int .u8 0, .int .u8 0, .int .u8 0, .int .u8 0, .int .u8 0, .int .u8 0, .int .u8 0, .int .u8 0, .int .u8 0, .int .u8 0, .int .u8 0, .int .u8 0, .int .u8 0, .int .u8 0, .int .u8 0, .int .u8 0, .int .u8 0, .int .u8 0, .int .u8 0, .int .u8 0, .int .u8 0, .int .u8 0, .int .u8 0, .int .u8 0, .int .u8 0, .int .u8 0, .int .u8 0, .int .u8 0, .int .u8 0, .int .u8 0, .int .u8 0, .int .u8 0, .int .u8 0, .int .u8 0, .int .u8 0, .int .u8 0, .int .u8 0, .int .u8 0, .int .u8 0, .int .u8 0, .int .u8 0, .int .u8 0, .int .u8 0, .int .u8 0, .int .u8 0, .int .u8 0, .int .u8 0, .int .u8 0, .int .u8 0, .int .u8 0, .int .u8 0, .int .u8 0, .int .u8 0, .int .u8 0, .int .u8 0, .int .u8 0, .int .u8 0, .int .u8 0, .int .u8 0, .int .u8 0, .int .u8 0, .int .u8 0, .int .u8 0, .int .u8 0, .int .u8 0, .int .u8 0, .int .u8 0, .int .u8 0, .int .u8 0, .int .u8 0, .int .u8 0, .int .u8 0, .int .u8 0, .int .u8 0, .int .u8 0, .int .u8 0, .int .u8 0, .int .u8 0, .int .u8 0, .int .u8 0, .int .u8 0, .int .u8 0, .int .u8 0, .int .u8 0, .int .u8 0, .int .u8 0, .int .u8 0, .int .u8 0, .int .u8 0, .int .u8 0, .int .u8 0, .int .u8 0, .int .u8 0, .int .u8 0, .int .u8 0, .int .u8 0, .int .u8 0, .int .u8 0, .int .u8 0, .int .u8 0, .int .u8 0, .int .u8 0, .int .u8 0, .int .u8 0, .int .u8 0, .int .u8 0, .int .u8 0, .int .u8 0, .int .u8 0, .int .u8 0, .int .u8 0, .int .u8 0, .int .u8 0, .int .u8 0, .int .u8 0, .int .u8 0, .int .u8 0, .int .u8 0, .int .u8 0, .int .u8 0, .int .u8 0, .int .u8 0, .int .u8 0, .int .u8 0, .int .u8 0, .int .u8 0, .int .u8 0, .int .u8 0, .int .u8 0, .int .u8 0, .int .u8 0, .int .u8 0, .int .u8 0, .int .u8 0, .int .u8 0, .int .u8 0, .int .u8 0, .int .u8 0, .int .u8 0, .int .u8 0, .int .u8 0, .int .u8 0, .int .u8 0, .int .u8 0, .int .u8 0, .int .u8 0, .int .u8 0, .int .u8 0, .int .u8 0, .int .u8 0, .int .u8 0, .int .u8 0, .int .u8 0, .int .u8 0, .int .u8 0, .int .u8 0, .int .u8 0, .int .u8 0, .int .u8 0, .int .u8 0, .int .u8 0, .int .u8 0, .int .u8 0, .int .u8 0, .int .u8 0, .int .u8 0, .int .u8 0, .int .u8 0, .int .u8 0, .int .u8 0, .int .u8 0, .int .u8 0, .int .u8 0])), true⟩
theorem ok330 : tiOf Tryz.prog 330 = some ty330 := by kernel_rfl
def ty331 : TI := ⟨2, 2, true, (.struct [(0, 5), (1, 5)]), (some (.agg [.int .u8 0, .int .u8 0])), true⟩
theorem ok331 : tiOf Tryz.prog 331 = some ty331 := by kernel_rfl
def ty332 : TI := ⟨2, 2, true, (.struct [(0, 5), (1, 5)]), (some (.agg [.int .u8 0, .int .u8 0])), true⟩
theorem ok332 : tiOf Tryz.prog 332 = some ty332 := by kernel_rfl
def ty333 : TI := ⟨32, 32, true, (.arr 16 332), (some (.agg [.int .u8 0, .int .u8 0, .int .u8 0, .int .u8 0, .int .u8 0, .int .u8 0, .int .u8 0, .int .u8 0, .int .u8 0, .int .u8 0, .int .u8 0, .int .u8 0, .int .u8 0, .int .u8 0, .int .u8 0, .int .u8 0, .int .u8 0, .int .u8 0, .int .u8 0, .int .u8 0, .int .u8 0, .int .u8 0, .int .u8 0, .int .u8 0, .int .u8 0, .int .u8 0, .int .u8 0, .int .u8 0, .int .u8 0, .int .u8 0, .int .u8 0, .int .u8 0])), true⟩
theorem ok333 : tiOf Tryz.prog 333 = some ty333 := by kernel_rfl
def ty335 : TI := ⟨1, 8, false, (.ptr 337), (some (.nilp)), true⟩
theorem ok335 : tiOf Tryz.prog 335 = some ty335 := by kernel_rfl
def ty336 : TI := ⟨1, 16, true, (.struct [(0, 9)]), (some (.agg [.str []])), true⟩
theorem ok336 : tiOf Tryz.prog 336 = some ty336 := by kernel_rfl
def ty337 : TI := ⟨1, 16, true, (.struct [(0, 9)]), (some (.agg [.str []])), true⟩
theorem ok337 : tiOf Tryz.prog 337 = some ty337 := by kernel_rfl
def tree : TT := (.node 159 (.node 70 (.node 40 (.node 24 (.node 9 (.node 3 (.node 2 (.leaf 0 (some ty0)) (.leaf 2 (some ty2))) (.node 4 (.leaf 3 (some ty3)) (.node 5 (.leaf 4 (some ty4)) (.leaf 5 (some ty5))))) (.node 21 (.node 20 (.leaf 9 (some ty9)) (.leaf 20 (some ty20))) (.node 22 (.leaf 21 (some ty21)) (.node 23 (.leaf 22 (some ty22)) (.leaf 23 (some ty23)))))) (.node 29 (.node 26 (.node 25 (.leaf 24 (some ty24)) (.leaf 25 (some ty25))) (.node 27 (.leaf 26 (some ty26)) (.node 28 (.leaf 27 (some ty27)) (.leaf 28 (some ty28))))) (.node 37 (.node 32 (.leaf 29 (some ty29)) (.leaf 32 (some ty32))) (.node 38 (.leaf 37 (some ty37)) (.node 39 (.leaf 38 (some ty38)) (.leaf 39 (some ty39))))))) (.node 55 (.node 45 (.node 42 (.node 41 (.leaf 40 (some ty40)) (.leaf 41 (some ty41))) (.node 43 (.leaf 42 (some ty42)) (.node 44 (.leaf 43 (some ty43)) (.leaf 44 (some ty44))))) (.node 47 (.node 46 (.leaf 45 (some ty45)) (.leaf 46 (some ty46))) (.node 52 (.leaf 47 (some ty47)) (.node 54 (.leaf 52 (some ty52)) (.leaf 54 (some ty54)))))) (.node 64 (.node 58 (.node 56 (.leaf 55 (some ty55)) (.leaf 56 (some ty56))) (.node 59 (.leaf 58 (some ty58)) (.node 62 (.leaf 59 (some ty59)) (.leaf 62 (some ty62))))) (.node 66 (.node 65 (.leaf 64 (some ty64)) (.leaf 65 (some ty65))) (.node 67 (.leaf 66 (some ty66)) (.node 68 (.leaf 67 (some ty67)) (.leaf 68 (some ty68)))))))) (.node 115 (.node 94 (.node 79 (.node 76 (.node 73 (.leaf 70 (some ty70)) (.leaf 73 (some ty73))) (.node 77 (.leaf 76 (some ty76)) (.node 78 (.leaf 77 (some ty77)) (.leaf 78 (some ty78))))) (.node 84 (.node 81 (.leaf 79 (some ty79)) (.leaf 81 (some ty81))) (.node 90 (.leaf 84 (some ty84)) (.node 93 (.leaf 90 (some ty90)) (.leaf 93 (some ty93)))))) (.node 105 (.node 98 (.node 95 (.leaf 94 (some ty94)) (.leaf 95 (some ty95))) (.node 101 (.leaf 98 (some ty98)) (.node 104 (.leaf 101 (some ty101)) (.leaf 104 (some ty104))))) (.node 112 (.node 107 (.leaf 105 (some ty105)) (.leaf 107 (some ty107))) (.node 113 (.leaf 112 (some ty112)) (.node 114 (.leaf 113 (some ty113)) (.leaf 114 (some ty114))))))) (.node 147 (.node 125 (.node 120 (.node 116 (.leaf 115 (some ty115)) (.leaf 116 (some ty116))) (.node 123 (.leaf 120 (some ty120)) (.node 124 (.leaf 123 (some ty123)) (.leaf 124 (some ty124))))) (.node 135 (.node 130 (.leaf 125 (some ty125)) (.leaf 130 (some ty130))) (.node 141 (.leaf 135 (some ty135)) (.node 143 (.leaf 141 (some ty141)) (.leaf 143 (some ty143)))))) (.node 152 (.node 149 (.node 148 (.leaf 147 (some ty147)) (.leaf 148 (some ty148))) (.node 150 (.leaf 149 (some ty149)) (.node 151 (.leaf 150 (some ty150)) (.leaf 151 (some ty151))))) (.node 155 (.node 153 (.leaf 152 (some ty152)) (.node 154 (.leaf 153 (some ty153)) (.leaf 154 (some ty154)))) (.node 157 (.leaf 155 (some ty155)) (.node 158 (.leaf 157 (some ty157)) (.leaf 158 (some ty158))))))))) (.node 244 (.node 198 (.node 182 (.node 169 (.node 161 (.node 160 (.leaf 159 (some ty159)) (.leaf 160 (some ty160))) (.node 163 (.leaf 161 (some ty161)) (.node 167 (.leaf 163 (some ty163)) (.leaf 167 (some ty167))))) (.node 173 (.node 170 (.leaf 169 (some ty169)) (.leaf 170 (some ty170))) (.node 178 (.leaf 173 (some ty173)) (.node 180 (.leaf 178 (some ty178)) (.leaf 180 (some ty180)))))) (.node 191 (.node 188 (.node 187 (.leaf 182 (some ty182)) (.leaf 187 (some ty187))) (.node 189 (.leaf 188 (some ty188)) (.node 190 (.leaf 189 (some ty189)) (.leaf 190 (some ty190))))) (.node 193 (.node 192 (.leaf 191 (some ty191)) (.leaf 192 (some ty192))) (.node 195 (.leaf 193 (some ty193)) (.node 196 (.leaf 195 (some ty195)) (.leaf 196 (some ty196))))))) (.node 221 (.node 206 (.node 200 (.node 199 (.leaf 198 (some ty198)) (.leaf 199 (some ty199))) (.node 202 (.leaf 200 (some ty200)) (.node 204 (.leaf 202 (some ty202)) (.leaf 204 (some ty204))))) (.node 214 (.node 207 (.leaf 206 (some ty206)) (.leaf 207 (some ty207))) (.node 218 (.leaf 214 (some ty214)) (.node 220 (.leaf 218 (some ty218)) (.leaf 220 (some ty220)))))) (.node 233 (.node 225 (.node 222 (.leaf 221 (some ty221)) (.leaf 222 (some ty222))) (.node 227 (.leaf 225 (some ty225)) (.node 232 (.leaf 227 (some ty227)) (.leaf 232 (some ty232))))) (.node 238 (.node 235 (.leaf 233 (some ty233)) (.leaf 235 (some ty235))) (.node 242 (.leaf 238 (some ty238)) (.node 243 (.leaf 242 (some ty242)) (.leaf 243 (some ty243)))))))) (.node 299 (.node 275 (.node 255 (.node 249 (.node 245 (.leaf 244 (some ty244)) (.leaf 245 (some ty245))) (.node 251 (.leaf 249 (some ty249)) (.node 253 (.leaf 251 (some ty251)) (.leaf 253 (some ty253))))) (.node 268 (.node 264 (.leaf 255 (some ty255)) (.leaf 264 (some ty264))) (.node 272 (.leaf 268 (some ty268)) (.node 274 (.leaf 272 (some ty272)) (.leaf 274 (some ty274)))))) (.node 290 (.node 282 (.node 281 (.leaf 275 (some ty275)) (.leaf 281 (some ty281))) (.node 283 (.leaf 282 (some ty282)) (.node 284 (.leaf 283 (some ty283)) (.leaf 284 (some ty284))))) (.node 293 (.node 292 (.leaf 290 (some ty290)) (.leaf 292 (some ty292))) (.node 296 (.leaf 293 (some ty293)) (.node 297 (.leaf 296 (some ty296)) (.leaf 297 (some ty297))))))) (.node 324 (.node 316 (.node 310 (.node 306 (.leaf 299 (some ty299)) (.leaf 306 (some ty306))) (.node 312 (.leaf 310 (some ty310)) (.node 315 (.leaf 312 (some ty312)) (.leaf 315 (some ty315))))) (.node 321 (.node 318 (.leaf 316 (some ty316)) (.leaf 318 (some ty318))) (.node 322 (.leaf 321 (some ty321)) (.node 323 (.leaf 322 (some ty322)) (.leaf 323 (some ty323)))))) (.node 331 (.node 326 (.node 325 (.leaf 324 (some ty324)) (.leaf 325 (some ty325))) (.node 327 (.leaf 326 (some ty326)) (.node 330 (.leaf 327 (some ty327)) (.leaf 330 (some ty330))))) (.node 335 (.node 332 (.leaf 331 (some ty331)) (.node 333 (.leaf 332 (some ty332)) (.leaf 333 (some ty333)))) (.node 336 (.leaf 335 (some ty335)) (.node 337 (.leaf 336 (some ty336)) (.leaf 337 (some ty337))))))))))
def TY : TypeId → Option TI := tree.look
theorem tyOk : TyOk Tryz.prog TY := TT.ok (t := tree) ⟨⟨⟨⟨⟨⟨⟨ok0, ok2⟩, ⟨ok3, ⟨ok4, ok5⟩⟩⟩, ⟨⟨ok9, ok20⟩, ⟨ok21, ⟨ok22, ok23⟩⟩⟩⟩, ⟨⟨⟨ok24, ok25⟩, ⟨ok26, ⟨ok27, ok28⟩⟩⟩, ⟨⟨ok29, ok32⟩, ⟨ok37, ⟨ok38, ok39⟩⟩⟩⟩⟩, ⟨⟨⟨⟨ok40, ok41⟩, ⟨ok42, ⟨ok43, ok44⟩⟩⟩, ⟨⟨ok45, ok46⟩, ⟨ok47, ⟨ok52, ok54⟩⟩⟩⟩, ⟨⟨⟨ok55, ok56⟩, ⟨ok58, ⟨ok59, ok62⟩⟩⟩, ⟨⟨ok64, ok65⟩, ⟨ok66, ⟨ok67, ok68⟩⟩⟩⟩⟩⟩, ⟨⟨⟨⟨⟨ok70, ok73⟩, ⟨ok76, ⟨ok77, ok78⟩⟩⟩, ⟨⟨ok79, ok81⟩, ⟨ok84, ⟨ok90, ok93⟩⟩⟩⟩, ⟨⟨⟨ok94, ok95⟩, ⟨ok98, ⟨ok101, ok104⟩⟩⟩, ⟨⟨ok105, ok107⟩, ⟨ok112, ⟨ok113, ok114⟩⟩⟩⟩⟩, ⟨⟨⟨⟨ok115, ok116⟩, ⟨ok120, ⟨ok123, ok124⟩⟩⟩, ⟨⟨ok125, ok130⟩, ⟨ok135, ⟨ok141, ok143⟩⟩⟩⟩, ⟨⟨⟨ok147, ok148⟩, ⟨ok149, ⟨ok150, ok151⟩⟩⟩, ⟨⟨ok152, ⟨ok153, ok154⟩⟩, ⟨ok155, ⟨ok157, ok158⟩⟩⟩⟩⟩⟩⟩, ⟨⟨⟨⟨⟨⟨ok159, ok160⟩, ⟨ok161, ⟨ok163, ok167⟩⟩⟩, ⟨⟨ok169, ok170⟩, ⟨ok173, ⟨ok178, ok180⟩⟩⟩⟩, ⟨⟨⟨ok182, ok187⟩, ⟨ok188, ⟨ok189, ok190⟩⟩⟩, ⟨⟨ok191, ok192⟩, ⟨ok193, ⟨ok195, ok196⟩⟩⟩⟩⟩, ⟨⟨⟨⟨ok198, ok199⟩, ⟨ok200, ⟨ok202, ok204⟩⟩⟩, ⟨⟨ok206, ok207⟩, ⟨ok214, ⟨ok218, ok220⟩⟩⟩⟩, ⟨⟨⟨ok221, ok222⟩, ⟨ok225, ⟨ok227, ok232⟩⟩⟩, ⟨⟨ok233, ok235⟩, ⟨ok238, ⟨ok242, ok243⟩⟩⟩⟩⟩⟩, ⟨⟨⟨⟨⟨ok244, ok245⟩, ⟨ok249, ⟨ok251, ok253⟩⟩⟩, ⟨⟨ok255, ok264⟩, ⟨ok268, ⟨ok272, ok274⟩⟩⟩⟩, ⟨⟨⟨ok275, ok281⟩, ⟨ok282, ⟨ok283, ok284⟩⟩⟩, ⟨⟨ok290, ok292⟩, ⟨ok293, ⟨ok296, ok297⟩⟩⟩⟩⟩, ⟨⟨⟨⟨ok299, ok306⟩, ⟨ok310, ⟨ok312, ok315⟩⟩⟩, ⟨⟨ok316, ok318⟩, ⟨ok321, ⟨ok322, ok323⟩⟩⟩⟩, ⟨⟨⟨ok324, ok325⟩, ⟨ok326, ⟨ok327, ok330⟩⟩⟩, ⟨⟨ok331, ⟨ok332, ok333⟩⟩, ⟨ok335, ⟨ok336, ok337⟩⟩⟩⟩⟩⟩⟩⟩
end Go.Vc.Z

/- Data, as values: tickets and the rest; what the reading of a slice is. -/
namespace Go.Vc.Z
open Go Go.Vc Go.Proofs
theorem inK_def {k : IntKind} {n : Int} : inK k n ↔ Go.Vc.lo k ≤ n ∧ n ≤ Go.Vc.hi k := Iff.rfl
/-- A slice of things, each some cells. -/
abbrev slE {α : Type} [Inhabited α] (sz : Nat) (enc : α → List AV) (l : List α) : AV := .sl false sz l.length (fun e => enc (l.getD e default))
structure Coupon where
  flight : Int
  day : Int
  value : Int
  status : Int
  holder : Int
  next : Int
deriving Inhabited
abbrev Coupon.enc (c : Coupon) : List AV := [.int .i64 c.flight, .int .i64 c.day, .int .i64 c.value, .int .i64 c.status, .int .i64 c.holder, .int .u64 c.next]
structure Tax where
  code : Int
  amount : Int
deriving Inhabited
abbrev Tax.enc (c : Tax) : List AV := [.int .i64 c.code, .int .i64 c.amount]
structure Event where
  day : Int
  coupon : Int
  src : Int
  dst : Int
deriving Inhabited
abbrev Event.enc (c : Event) : List AV := [.int .i64 c.day, .int .i64 c.coupon, .int .i64 c.src, .int .i64 c.dst]
structure Ticket where
  number : Int
  locator : List UInt8
  issued : Int
  coupons : List Coupon
  taxes : List Tax
  prev : Int
  origin : Int
  first : Int
  voucher : Int
  posts : Int
  history : List Event
deriving Inhabited
abbrev Ticket.enc (t : Ticket) : List AV := [.int .u64 t.number, .str t.locator, .int .i64 t.issued, slE 6 Coupon.enc t.coupons, slE 2 Tax.enc t.taxes, .int .u64 t.prev, .int .u64 t.origin, .int .u64 t.first, .int .i64 t.voucher, .int .i64 t.posts, slE 4 Event.enc t.history]
structure Posting where
  day : Int
  ticket : Int
  seq : Int
  kind : Int
  cash : Int
  liability : Int
  revenue : Int
  tax : Int
  penalty : Int
  voucher : Int
deriving Inhabited
abbrev Posting.enc (p : Posting) : List AV := [.int .i64 p.day, .int .u64 p.ticket, .int .i64 p.seq, .int .i64 p.kind, .int .i64 p.cash, .int .i64 p.liability, .int .i64 p.revenue, .int .i64 p.tax, .int .i64 p.penalty, .int .i64 p.voucher]
structure Loan where
  ticket : Int
  coupon : Int
  held : Bool
  what : Coupon
deriving Inhabited
abbrev Loan.enc (l : Loan) : List AV := [.int .u64 l.ticket, .int .i64 l.coupon, .bool l.held, .int .i64 l.what.flight, .int .i64 l.what.day, .int .i64 l.what.value, .int .i64 l.what.status, .int .i64 l.what.holder, .int .u64 l.what.next]
structure Answer where
  code : Int
  tickets : List Ticket
  postings : List Posting
  loans : List Loan
deriving Inhabited
abbrev Answer.enc (a : Answer) : List AV := [.int .i64 a.code, slE 11 Ticket.enc a.tickets, slE 10 Posting.enc a.postings, slE 9 Loan.enc a.loans]
structure Told where
  answer : Answer
  code : Int
  came : Int
deriving Inhabited
abbrev Told.enc (t : Told) : List AV := t.answer.enc ++ [.int .i64 t.code, .int .i64 t.came]
end Go.Vc.Z
