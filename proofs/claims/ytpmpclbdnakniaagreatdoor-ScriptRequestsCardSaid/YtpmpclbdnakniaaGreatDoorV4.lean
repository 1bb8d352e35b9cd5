/- Regions that draw their order, five: whatever order is drawn. -/
import Derived.Test.YtpmpclbdnakniaaGreatDoorV3
set_option linter.all false
set_option linter.unusedVariables false
set_option linter.unusedSimpArgs false
namespace Go.Vc
open Go
structure TE where
 dst : Option Nat
 r : AV
 W : List (Nat × Blk)
 R : List Nat
def TE.T (t : TE) : List (Nat × AV) := match t.dst with | some d => [(d, t.r)] | none => []
theorem put_eq (ts : List AV) (t : TE) : put ts t.dst t.r = setAll ts t.T := by
 unfold put TE.T; cases t.dst <;> rfl
def wrOf (wr : Tmp → Bool) (o : Oper) : Bool := match o.dst with | some d => wr d | none => false
def textD (TY : TypeId → Option TI) (D : PT) (wr : Tmp → Bool) (ops : Array Oper) (h0 : Nat) : List Oper → Nat → St → (List TE → St → Prop) → Prop
 | [], _, st, Q => Q [] st
 | o :: rest, j, st, Q =>
  match o.guard with
  | none => opD TY D (wrOf wr o) (h0 + j) o.op st.tmps st.heap fun r W R => fcSt st.tmps o.dst r (setAll st.heap W) fun st1 => textD TY D wr ops h0 rest (j + 1) st1 fun tr st' => Q (⟨o.dst, r, W, R⟩ :: tr) st'
  | some (g, want) => match tmpOf ops g with
   | none => False
   | some t => match st.tmps[t]? with
    | some (.bool b) => (match b with
     | true => (match want with
      | true => setF (fun ts => opD TY D (wrOf wr o) (h0 + j) o.op ts st.heap fun r W R => fcSt ts o.dst r (setAll st.heap W) fun st1 => textD TY D wr ops h0 rest (j + 1) st1 fun tr st' => Q (⟨o.dst, r, W, R⟩ :: tr) st') (.bool true) st.tmps t
      | false => fcSt (st.tmps.set t (.bool true)) o.dst (.tup []) st.heap fun st1 => textD TY D wr ops h0 rest (j + 1) st1 fun tr st' => Q (⟨o.dst, .tup [], [], []⟩ :: tr) st')
     | false => (match want with
      | false => setF (fun ts => opD TY D (wrOf wr o) (h0 + j) o.op ts st.heap fun r W R => fcSt ts o.dst r (setAll st.heap W) fun st1 => textD TY D wr ops h0 rest (j + 1) st1 fun tr st' => Q (⟨o.dst, r, W, R⟩ :: tr) st') (.bool false) st.tmps t
      | true => fcSt (st.tmps.set t (.bool false)) o.dst (.tup []) st.heap fun st1 => textD TY D wr ops h0 rest (j + 1) st1 fun tr st' => Q (⟨o.dst, .tup [], [], []⟩ :: tr) st'))
    | some (.tup cs) => (match cs with
     | [] => fcSt (st.tmps.set t (.tup [])) o.dst (.tup []) st.heap fun st1 => textD TY D wr ops h0 rest (j + 1) st1 fun tr st' => Q (⟨o.dst, .tup [], [], []⟩ :: tr) st'
     | _ => False)
    | _ => False
section
variable {F : Nat → Obj → Prop} {P : Program} {TY : TypeId → Option TI} {C : FuncId → Option Ctr} {D : PT} {wr : Tmp → Bool} {ops : Array Oper} {h0 : Nat}
def Runs (TY : TypeId → Option TI) (D : PT) (wr : Tmp → Bool) (slot : Nat) (o : Oper) (te : TE) (ts : List AV) (H : List Blk) : Prop :=
 ∀ (ts' : List AV) (H' : List Blk), (∀ x ∈ o.op.operands, evO ts' x = evO ts x) → (∀ id ∈ te.R, H'[id]? = H[id]?) → opD TY D (wrOf wr o) slot o.op ts' H' (fun r W R => r = te.r ∧ W = te.W ∧ R = te.R)
def StepOk (TY : TypeId → Option TI) (D : PT) (wr : Tmp → Bool) (ops : Array Oper) (slot : Nat) (o : Oper) (te : TE) (ts : List AV) (H : List Blk) : Prop :=
 te.dst = o.dst ∧ (match o.guard with
 | none => Runs TY D wr slot o te ts H
 | some (g, want) => ∃ t c, tmpOf ops g = some t ∧ ts[t]? = some c ∧ ((c = .bool want ∧ Runs TY D wr slot o te ts H) ∨ ((c = .bool (!want) ∨ c = .tup []) ∧ te.r = .tup [] ∧ te.W = [] ∧ te.R = [])))
theorem ov_none {α : Type} {Dn : Nat → Bool} : ∀ (ws : List (List (Nat × α))) (i : Nat) (b : List α), (∀ m, Dn m = false) → ov Dn i ws b = b
 | [], _, _, _ => rfl
 | w :: ws, i, b, h => by rw [ov, h i]; exact ov_none ws (i + 1) b h
theorem textD_trace : ∀ (l : List Oper) (j : Nat) (st : St) (Q : List TE → St → Prop), textD TY D wr ops h0 l j st Q →
  ∃ tr : List TE, tr.length = l.length ∧ Q tr ⟨ov (fun _ => true) 0 (tr.map TE.T) st.tmps, ov (fun _ => true) 0 (tr.map TE.W) st.heap⟩ ∧
   ∀ (m : Nat) o te, l[m]? = some o → tr[m]? = some te → StepOk TY D wr ops (h0 + (j + m)) o te (ov (fun i => decide (i < m)) 0 (tr.map TE.T) st.tmps) (ov (fun i => decide (i < m)) 0 (tr.map TE.W) st.heap)
 | [], j, st, Q, h => ⟨[], rfl, h, fun m o te hm => by simp at hm⟩
 | o :: rest, j, st, Q, h => by
  have go : ∀ te : TE, StepOk TY D wr ops (h0 + j) o te st.tmps st.heap → textD TY D wr ops h0 rest (j + 1) ⟨put st.tmps o.dst te.r, setAll st.heap te.W⟩ (fun tr st' => Q (te :: tr) st') →
    ∃ tr : List TE, tr.length = (o :: rest).length ∧ Q tr ⟨ov (fun _ => true) 0 (tr.map TE.T) st.tmps, ov (fun _ => true) 0 (tr.map TE.W) st.heap⟩ ∧
     ∀ (m : Nat) o' te, (o :: rest)[m]? = some o' → tr[m]? = some te → StepOk TY D wr ops (h0 + (j + m)) o' te (ov (fun i => decide (i < m)) 0 (tr.map TE.T) st.tmps) (ov (fun i => decide (i < m)) 0 (tr.map TE.W) st.heap) := by
   intro te hs ht
   obtain ⟨tr, h1, h2, h3⟩ := textD_trace rest (j + 1) _ _ ht
   have hp : put st.tmps o.dst te.r = setAll st.tmps te.T := by rw [← hs.1]; exact put_eq _ _
   refine ⟨te :: tr, by simp [h1], ?_, fun m o' te' hm htm => ?_⟩
   ·rw [hp] at h2
    simp only [List.map_cons, ov]
    rw [ov_shift, ov_shift]
    exact h2
   ·cases m with
    | zero =>
     simp at hm htm
     subst hm; subst htm
     rw [ov_none _ _ _ (fun m => by simp), ov_none _ _ _ (fun m => by simp)]
     exact hs
    | succ m =>
     have := h3 m o' te' (by simpa using hm) (by simpa using htm)
     rw [hp] at this
     simp only [List.map_cons, ov, Nat.zero_lt_succ, decide_true]
     rw [ov_shift, ov_shift]
     rw [show j + (m + 1) = j + 1 + m by omega]
     have e : (fun i => decide (i + 1 < m + 1)) = fun i => decide (i < m) := by funext i; simp
     rw [e]
     exact this
  rw [textD] at h
  simp only [fcSt_eq, setF_eq] at h
  split at h
  ·rename_i hg
   obtain ⟨r, W, R, h1, h2⟩ := det_opD h
   exact go ⟨o.dst, r, W, R⟩ ⟨rfl, by rw [hg]; exact h2⟩ h1
  ·rename_i g want hg
   split at h
   ·exact h.elim
   ·rename_i t ht
    split at h
    ·rename_i b hb
     split at h
     ·rw [set_same hb] at h
      split at h
      ·obtain ⟨r, W, R, h1, h2⟩ := det_opD h
       exact go ⟨o.dst, r, W, R⟩ ⟨rfl, by rw [hg]; exact ⟨t, _, ht, hb, .inl ⟨rfl, h2⟩⟩⟩ h1
      ·exact go ⟨o.dst, .tup [], [], []⟩ ⟨rfl, by rw [hg]; exact ⟨t, _, ht, hb, .inr ⟨.inl rfl, rfl, rfl, rfl⟩⟩⟩ h
     ·rw [set_same hb] at h
      split at h
      ·obtain ⟨r, W, R, h1, h2⟩ := det_opD h
       exact go ⟨o.dst, r, W, R⟩ ⟨rfl, by rw [hg]; exact ⟨t, _, ht, hb, .inl ⟨rfl, h2⟩⟩⟩ h1
      ·exact go ⟨o.dst, .tup [], [], []⟩ ⟨rfl, by rw [hg]; exact ⟨t, _, ht, hb, .inr ⟨.inl rfl, rfl, rfl, rfl⟩⟩⟩ h
    ·rename_i cs hb
     split at h
     ·rw [set_same hb] at h
      exact go ⟨o.dst, .tup [], [], []⟩ ⟨rfl, by rw [hg]; exact ⟨t, _, ht, hb, .inr ⟨.inr rfl, rfl, rfl, rfl⟩⟩⟩ h
     ·exact h.elim
    ·exact h.elim
def confl (ops : Array Oper) (oi oj : Oper) (ti tj : TE) : Bool :=
 (match oi.dst with | some d => (oj.looksAt ops).contains d || oj.dst == some d | none => false) ||
 (match oj.dst with | some d => (oi.looksAt ops).contains d | none => false) ||
 (ti.W.any fun p => tj.R.contains p.1 || keyIn p.1 tj.W) || (ti.R.any fun x => keyIn x tj.W)
def conflAt (ops : Array Oper) (tr : List TE) (i j : Nat) : Bool := match ops[i]?, ops[j]?, tr[i]?, tr[j]? with
 | some oi, some oj, some ti, some tj => confl ops oi oj ti tj
 | _, _, _, _ => false
def hasAnc (cl : List Nat) (j i : Nat) : Bool := (cl.getD j 0).testBit i
def okBack (ops : Array Oper) : Bool := (List.range ops.size).all fun j => match ops[j]? with | some o => (direct o).all fun i => decide (i < j) | none => true
def okTail (cl : List Nat) (k n : Nat) : Bool := (List.range n).all fun j => decide (j < k) || (List.range j).all fun i => hasAnc cl j i
def okConf (cl : List Nat) (ops : Array Oper) (k : Nat) (tr : List TE) : Bool := (List.range k).all fun j => (List.range j).all fun i => hasAnc cl j i || !conflAt ops tr i j
def okB (ops : Array Oper) (k : Nat) (tr : List TE) : Bool :=
 okBack ops && okTail (clos [] ops.toList) k ops.size && okConf (clos [] ops.toList) ops k tr
def tailK (cl : List Nat) : Nat → Nat
 | 0 => 0
 | j + 1 => if (List.range j).all (fun i => hasAnc cl j i) then tailK cl j else j + 1
def drawE (TY : TypeId → Option TI) (C : FuncId → Option Ctr) (D : PT) (wr : Tmp → Bool) (ops : Array Oper) (st : St) (N : St → Prop) : Prop :=
 textD TY D wr ops st.heap.length (ops.toList.take (tailK (clos [] ops.toList) ops.size)) 0 ⟨st.tmps, st.heap ++ List.replicate (tailK (clos [] ops.toList) ops.size) .dead⟩ fun tr st' =>
  okB ops (tailK (clos [] ops.toList) ops.size) tr = true ∧ regE TY C wr ops (ops.toList.drop (tailK (clos [] ops.toList) ops.size)) st' N
theorem hasAnc_anc {i j : Nat} (h : hasAnc (clos [] ops.toList) j i = true) : Anc ops i j := by
 unfold hasAnc at h
 rw [List.getD_eq_getElem?_getD] at h
 cases hl : (clos [] ops.toList)[j]? with
 | none => rw [hl] at h; simp at h
 | some l =>
  rw [hl] at h
  exact clos_spec ops ops.toList [] (fun m _ => by simp) (fun j l h => by simp at h) j l hl i h
theorem wpAny_tail {Q : Exit → Act → World → Prop} {k : Nat} (hback : okBack ops = true) (htail : okTail (clos [] ops.toList) k ops.size = true) : ∀ (fuel j : Nat) (listed : Array Bool) (a : Act) (w : World),
  listed.size = ops.size → (∀ m, m < ops.size → listed.getD m false = decide (m < j)) → k ≤ j → fuel + j = ops.size → wpList P ops Q (ops.toList.drop j) a w → wpAny P .any ops Q fuel listed a w := by
 intro fuel
 induction fuel with
 | zero =>
  intro j listed a w hs hD hk hf h
  rw [Nat.zero_add] at hf
  subst hf
  refine ⟨?_, ?_⟩
  ·rw [List.eq_nil_iff_forall_not_mem]
   intro i hi
   obtain ⟨h1, o, h2, _⟩ := mem_ready.1 hi
   have hlt : i < ops.size := (Array.getElem?_eq_some_iff.1 h2).1
   have := hD i hlt
   have hls : i < listed.size := by omega
   simp [hls] at h1 this
   rw [h1] at this
   simp at this; omega
  ·rw [List.drop_eq_nil_of_le (by simp)] at h
   exact h
 | succ fuel ih =>
  intro j listed a w hs hD hk hf h
  have hj : j < ops.size := by omega
  have get : ∀ i, i < ops.size → listed.getD i true = listed.getD i false := fun i hi => by simp [show i < listed.size by omega]
  have hDown : Down ops (fun m => listed.getD m false) := by
   intro m o ho hd i hi
   have hm : m < ops.size := (Array.getElem?_eq_some_iff.1 ho).1
   try simp only at hd ⊢
   rw [hD m hm] at hd
   unfold okBack at hback
   rw [List.all_eq_true] at hback
   have := hback m (List.mem_range.2 hm)
   rw [ho] at this
   rw [List.all_eq_true] at this
   have := this i hi
   simp at this hd
   rw [hD i (by omega)]
   simp; omega
  have only : ∀ i, i ∈ Region.ready .any ops listed → i = j := by
   intro i hi
   obtain ⟨h1, o, h2, h3⟩ := mem_ready.1 hi
   have hlt : i < ops.size := (Array.getElem?_eq_some_iff.1 h2).1
   rw [get i hlt, hD i hlt] at h1
   simp at h1
   rcases Nat.eq_or_lt_of_le h1 with h4 | h4
   ·exact h4.symm
   ·exfalso
    unfold okTail at htail
    rw [List.all_eq_true] at htail
    have := htail i (List.mem_range.2 hlt)
    rw [Bool.or_eq_true] at this
    rcases this with h5 | h5
    ·simp at h5; omega
    ·rw [List.all_eq_true] at h5
     have ha := hasAnc_anc (h5 j (List.mem_range.2 h4))
     have := hDown.anc ha (fun o' ho' m hm => by
      rw [h2] at ho'; cases ho'
      unfold direct at hm
      simp only [List.mem_map, List.mem_filter] at hm
      obtain ⟨e, ⟨he, hb⟩, rfl⟩ := hm
      exact h3 e (by simpa using he) hb)
     try simp only at this
     rw [hD j hj] at this
     simp at this
  have hoj : ops[j]? = some ops[j] := by simp [hj]
  refine ⟨fun hr => ?_, fun i hi => ?_⟩
  ·exfalso
   have : j ∈ Region.ready .any ops listed := by
    rw [mem_ready]
    refine ⟨by rw [get j hj, hD j hj]; simp, ops[j], hoj, fun e he hb => ?_⟩
    unfold okBack at hback
    rw [List.all_eq_true] at hback
    have := hback j (List.mem_range.2 hj)
    rw [hoj] at this
    rw [List.all_eq_true] at this
    have := this e.on (by unfold direct; rw [List.mem_map]; exact ⟨e, by rw [List.mem_filter]; exact ⟨by simpa using he, hb⟩, rfl⟩)
    simp at this
    rw [hD e.on (by omega)]; simp; omega
   rw [hr] at this; cases this
  ·obtain rfl := only i hi
   rw [List.drop_eq_getElem_cons (by simpa using hj)] at h
   unfold wpList at h
   have e : ops.toList[i]'(by simpa using hj) = ops[i] := by simp
   rw [e] at h
   have next : ∀ a w, wpList P ops Q (ops.toList.drop (i + 1)) a w → wpAny P .any ops Q fuel (listed.setIfInBounds i true) a w := by
    intro a w h
    refine ih (i + 1) _ a w (by simp [hs]) (fun m hm => ?_) (by omega) (by omega) h
    by_cases hmi : i = m
    ·subst hmi; simp [show i < listed.size by omega]
    ·rw [getD_set_ne false hmi, hD m hm]
     simp; omega
   unfold wpOp
   rw [hoj]
   simp only
   split at h
   ·rename_i hw
    rw [if_pos hw]
    exact h.imp (Oper.wp_mono next) (fun h => h)
   ·rename_i hw
    rw [if_neg hw]
    exact next _ _ h
end
end Go.Vc
namespace Go.Vc
open Go
section
variable {F : Nat → Obj → Prop} {P : Program} {TY : TypeId → Option TI} {C : FuncId → Option Ctr} {D : PT} {wr : Tmp → Bool} {ops : Array Oper} {ρ : Nat → Option Nat} {S : Nat → Prop} {w0 : World}
theorem tailK_le (cl : List Nat) : ∀ n, tailK cl n ≤ n
 | 0 => Nat.le_refl _
 | n + 1 => by
  rw [tailK]
  split
  ·exact Nat.le_succ_of_le (tailK_le cl n)
  ·exact Nat.le_refl _
theorem looks_operand {o : Oper} {t : Tmp} (h : (.tmp t : Operand) ∈ o.op.operands) : (o.looksAt ops).contains t = true := by
 rw [List.contains_iff_mem]
 exact List.mem_append_left _ (List.mem_filterMap.2 ⟨.tmp t, by simpa using h, rfl⟩)
theorem looks_guard {o : Oper} {g : Nat} {want : Bool} {t : Tmp} (h : o.guard = some (g, want)) (ht : tmpOf ops g = some t) : (o.looksAt ops).contains t = true := by
 rw [List.contains_iff_mem]
 refine List.mem_append_right _ ?_
 rw [h]
 unfold tmpOf at ht
 simp only [ht]
 simp
theorem conf_dst {oi oj : Oper} {ti tj : TE} {d : Nat} (h : oi.dst = some d) (h2 : (oj.looksAt ops).contains d = true ∨ oj.dst = some d) : confl ops oi oj ti tj = true := by
 unfold confl
 rw [h]
 rcases h2 with h2 | h2
 ·simp only [h2, Bool.true_or]
 ·rw [h2]; simp
theorem conf_dst' {oi oj : Oper} {ti tj : TE} {d : Nat} (h : oj.dst = some d) (h2 : (oi.looksAt ops).contains d = true) : confl ops oi oj ti tj = true := by
 unfold confl
 rw [h]
 simp only [h2, Bool.or_true, Bool.true_or]
theorem conf_W {oi oj : Oper} {ti tj : TE} {x : Nat} (h : keyIn x ti.W = true) (h2 : x ∈ tj.R ∨ keyIn x tj.W = true) : confl ops oi oj ti tj = true := by
 unfold confl
 have : (ti.W.any fun p => tj.R.contains p.1 || keyIn p.1 tj.W) = true := by
  unfold keyIn at h
  rw [List.any_eq_true] at h ⊢
  obtain ⟨p, hp, he⟩ := h
  have he : p.1 = x := by simpa using he
  refine ⟨p, hp, ?_⟩
  rw [he]
  rcases h2 with h2 | h2
  ·simp [h2]
  ·rw [h2]; simp
 simp only [this, Bool.or_true, Bool.true_or]
theorem conf_R {oi oj : Oper} {ti tj : TE} {x : Nat} (h : x ∈ ti.R) (h2 : keyIn x tj.W = true) : confl ops oi oj ti tj = true := by
 unfold confl
 have : (ti.R.any fun x => keyIn x tj.W) = true := by
  rw [List.any_eq_true]; exact ⟨x, h, h2⟩
 simp only [this, Bool.or_true]
theorem keyIn_T {t : TE} {k : Nat} (h : keyIn k t.T = true) : t.dst = some k := by
 unfold TE.T at h
 split at h
 ·rename_i d hd
  simp [keyIn] at h
  rw [hd, h]
 ·simp [keyIn] at h
theorem hrel_dead {H : List Blk} {w : World} (h : HRel ρ S w H) (k : Nat) : HRel ρ S w (H ++ List.replicate k .dead) := by
 have key : ∀ (i : Nat) (b : Blk), (H ++ List.replicate k Blk.dead)[i]? = some b → b.live = true → H[i]? = some b := by
  intro i b hi hl
  by_cases hlt : i < H.length
  ·rwa [List.getElem?_append_left hlt] at hi
  ·rw [List.getElem?_append_right (by omega), List.getElem?_replicate] at hi
   split at hi
   ·cases hi; cases hl
   ·cases hi
 refine ⟨fun i j bi bj b hi hj li lj => h.inj i j bi bj b (key i bi hi li) (key j bj hj lj) li lj, fun i b hi => ?_, fun i b hi => ?_⟩
 ·by_cases hl : b.live = true
  ·exact h.blk i b (key i b hi hl)
  ·cases b <;> first | exact trivial | exact absurd rfl hl
 ·have := h.out i b hi
  simp only [List.length_append, List.length_replicate]; omega
theorem getD_listed {listed : Array Bool} {i : Nat} (hi : i < listed.size) : (fun m => (listed.setIfInBounds i true).getD m false) = fun m => m == 0 + i || listed.getD m false := by
 funext m
 by_cases hm : m = i
 ·subst hm; simp [hi]
 ·have : (m == 0 + i) = false := by simpa using hm
  rw [this, getD_set_ne false (Ne.symm hm)]; simp
theorem draw_sound (hTY : TyOk P TY) (hD : PTOk F P D) (hC : CtrOk F P C) {st : St} {a0 : Act} (hR0 : RelX F ρ S st a0 w0) {N : St → Prop} {Q : Exit → Act → World → Prop}
  (hQ : ∀ a' w', Reach F ρ S w0 N a' w' → Q .normal a' w') (h : drawE TY C D wr ops st N) : wpAny P .any ops Q ops.size (Array.replicate ops.size false) a0 w0 := by
 unfold drawE at h
 have hkn := tailK_le (clos [] ops.toList) ops.size
 generalize hk : tailK (clos [] ops.toList) ops.size = k at h hkn
 obtain ⟨tr, hlen, ⟨hok, htl⟩, hstep⟩ := textD_trace _ _ _ _ h
 unfold okB at hok
 simp only [Bool.and_eq_true] at hok
 obtain ⟨⟨hback, htailB⟩, hconf⟩ := hok
 have hlen : tr.length = k := by rw [hlen]; simp; omega
 have conf : ∀ i j oi oj ti tj, i < j → j < k → ops[i]? = some oi → ops[j]? = some oj → tr[i]? = some ti → tr[j]? = some tj → confl ops oi oj ti tj = true → Anc ops i j := by
  intro i j oi oj ti tj hij hj hoi hoj hti htj hc
  unfold okConf at hconf
  rw [List.all_eq_true] at hconf
  have := hconf j (List.mem_range.2 hj)
  rw [List.all_eq_true] at this
  have := this i (List.mem_range.2 hij)
  rw [Bool.or_eq_true] at this
  rcases this with h1 | h1
  ·exact hasAnc_anc h1
  ·unfold conflAt at h1
   simp only [hoi, hoj, hti, htj, hc] at h1
   cases h1
 have step : ∀ m o te, ops[m]? = some o → tr[m]? = some te → StepOk TY D wr ops (st.heap.length + m) o te (ov (fun i => decide (i < m)) 0 (tr.map TE.T) st.tmps) (ov (fun i => decide (i < m)) 0 (tr.map TE.W) (st.heap ++ List.replicate k .dead)) := by
  intro m o te ho ht
  have hmk : m < k := by
   rcases Nat.lt_or_ge m k with h1 | h1
   ·exact h1
   ·rw [List.getElem?_eq_none (by omega)] at ht; cases ht
  have := hstep m o te (by rw [List.getElem?_take, if_pos hmk]; simpa using ho) ht
  rwa [Nat.zero_add] at this
 have main : ∀ (fuel : Nat) (listed : Array Bool) (a : Act) (w : World), listed.size = ops.size → Down ops (fun m => listed.getD m false) → (∀ m, listed.getD m false = true → m < k) → toCome ops.size listed = fuel →
   (∃ ρ' S', RelX F ρ' S' ⟨ov (fun m => listed.getD m false) 0 (tr.map TE.T) st.tmps, ov (fun m => listed.getD m false) 0 (tr.map TE.W) (st.heap ++ List.replicate k .dead)⟩ a w ∧ Ext ρ S w0 ρ' S' w ∧
    ∀ id b, ρ' id = some b → id < st.heap.length ∨ ∃ m, listed.getD m false = true ∧ id = st.heap.length + m) → wpAny P .any ops Q fuel listed a w := by
  intro fuel
  induction fuel with
  | zero =>
   intro listed a w hs hdn hlt hf hst
   have all := toCome_zero hf
   have hkk : k = ops.size := by
    rcases Nat.eq_or_lt_of_le hkn with h1 | h1
    ·exact h1
    ·have := all k h1
     have hls : k < listed.size := by omega
     have := hlt k (by simp [hls] at this ⊢; exact this)
     omega
   obtain ⟨ρ', S', hR, hE, _⟩ := hst
   have e : ∀ {α : Type} (f : TE → List (Nat × α)) (b : List α), ov (fun m => listed.getD m false) 0 (tr.map f) b = ov (fun _ => true) 0 (tr.map f) b := fun f b => ov_same _ _ _ fun m hm => by
    have hm : m < ops.size := by simp at hm; omega
    have h1 := all m hm
    have hls : m < listed.size := by omega
    simp [hls] at h1 ⊢; exact h1
   rw [e, e] at hR
   have hw := regE_sound hTY hC ops (ops.toList.drop k) (Q := Q) hR (fun a' w' hr => hQ a' w' (hr.trans hE)) htl
   exact wpAny_tail hback htailB 0 k listed a w hs (fun m hm => by
    have h1 := all m hm
    have hls : m < listed.size := by omega
    simp [hls] at h1 ⊢; rw [h1]; simp; omega) (Nat.le_refl _) (by omega) hw
  | succ fuel ih =>
   intro listed a w hs hdn hlt hf hst
   have get : ∀ i, i < ops.size → listed.getD i true = listed.getD i false := fun i hi => by simp [show i < listed.size by omega]
   by_cases hall : ∀ m, m < k → listed.getD m false = true
   ·obtain ⟨ρ', S', hR, hE, _⟩ := hst
    have e : ∀ {α : Type} (f : TE → List (Nat × α)) (b : List α), ov (fun m => listed.getD m false) 0 (tr.map f) b = ov (fun _ => true) 0 (tr.map f) b := fun f b => ov_same _ _ _ fun m hm => by
     have hm : m < k := by simp at hm; omega
     rw [Nat.zero_add]
     exact hall m hm
    rw [e, e] at hR
    have hw := regE_sound hTY hC ops (ops.toList.drop k) (Q := Q) hR (fun a' w' hr => hQ a' w' (hr.trans hE)) htl
    have hDk : ∀ m, listed.getD m false = decide (m < k) := fun m => by
     by_cases hm : m < k
     ·rw [hall m hm]; simp [hm]
     ·cases hc : listed.getD m false with
      | true => exact absurd (hlt m hc) hm
      | false => simp [hm]
    have hcount : toCome ops.size listed + k = ops.size := by
     have : ∀ n, n ≤ ops.size → (List.range n).countP (fun i => !listed.getD i true) = n - k := by
      intro n
      induction n with
      | zero => intro _; simp
      | succ n ihn =>
       intro hn
       rw [List.range_succ, List.countP_append, ihn (by omega), List.countP_singleton, get n (by omega), hDk n]
       by_cases h1 : n < k
       ·simp only [h1, decide_true]; simp; omega
       ·simp only [h1, decide_false]; simp; omega
     unfold toCome
     rw [this ops.size (Nat.le_refl _)]; omega
    exact wpAny_tail hback htailB (fuel + 1) k listed a w hs (fun m _ => hDk m) (Nat.le_refl _) (by omega) hw
   ·have hlow : ∀ i, i ∈ Region.ready .any ops listed → i < k := by
     intro i hi
     rcases Nat.lt_or_ge i k with h1 | h1
     ·exact h1
     ·exfalso
      apply hall
      intro m hm
      obtain ⟨_, o, h2, h3⟩ := mem_ready.1 hi
      have hin : i < ops.size := (Array.getElem?_eq_some_iff.1 h2).1
      unfold okTail at htailB
      rw [List.all_eq_true] at htailB
      have := htailB i (List.mem_range.2 hin)
      rw [Bool.or_eq_true] at this
      rcases this with h5 | h5
      ·simp at h5; omega
      ·rw [List.all_eq_true] at h5
       have ha := hasAnc_anc (h5 m (List.mem_range.2 (by omega)))
       exact hdn.anc ha (fun o' ho' m hm => by
        rw [h2] at ho'; cases ho'
        unfold direct at hm
        simp only [List.mem_map, List.mem_filter] at hm
        obtain ⟨e, ⟨he, hb⟩, rfl⟩ := hm
        exact h3 e (by simpa using he) hb)
    refine ⟨fun hr => ?_, fun i hi => ?_⟩
    ·exfalso
     have hex : ∃ m, m < k ∧ listed.getD m false = false := by
      by_cases h1 : ∃ m, m < k ∧ listed.getD m false = false
      ·exact h1
      ·exfalso; apply hall; intro m hm
       cases hc : listed.getD m false with
       | true => rfl
       | false => exact absurd ⟨m, hm, hc⟩ h1
     obtain ⟨m, ⟨hmk, hmf⟩, hleast⟩ := exists_least hex
     have hm : m < ops.size := by omega
     have hom : ops[m]? = some ops[m] := by simp [hm]
     have : m ∈ Region.ready .any ops listed := by
      rw [mem_ready]
      refine ⟨by rw [get m hm, hmf], ops[m], hom, fun e he hb => ?_⟩
      unfold okBack at hback
      rw [List.all_eq_true] at hback
      have := hback m (List.mem_range.2 hm)
      rw [hom] at this
      rw [List.all_eq_true] at this
      have := this e.on (by unfold direct; rw [List.mem_map]; exact ⟨e, by rw [List.mem_filter]; exact ⟨by simpa using he, hb⟩, rfl⟩)
      simp at this
      cases hc : listed.getD e.on false with
      | true => rfl
      | false => have := hleast e.on ⟨by omega, hc⟩; omega
     rw [hr] at this; cases this
    ·have hik := hlow i hi
     obtain ⟨hun, oi, hoi, hrdy⟩ := mem_ready.1 hi
     have hin : i < ops.size := (Array.getElem?_eq_some_iff.1 hoi).1
     have hDi : listed.getD i false = false := by rw [← get i hin]; exact hun
     have hrdy' : ∀ o', ops[i]? = some o' → ∀ m ∈ direct o', listed.getD m false = true := fun o' ho' m hm => by
      rw [hoi] at ho'; cases ho'
      unfold direct at hm
      simp only [List.mem_map, List.mem_filter] at hm
      obtain ⟨e, ⟨he, hb⟩, rfl⟩ := hm
      exact hrdy e (by simpa using he) hb
     have hti : tr[i]? = some tr[i] := by simp [hlen, hik]
     generalize tr[i] = te at hti
     obtain ⟨ρ', S', hR, hE, hdom⟩ := hst
     -- the others
     have oth : ∀ (m : Nat) tm, tr[m]? = some tm → m ≠ i → (∀ om, ops[m]? = some om → tm.dst = om.dst → (m < i → confl ops om oi tm te = true) ∧ (i < m → confl ops oi om te tm = true)) → listed.getD m false = decide (m < i) := by
      intro m tm htm hne hc
      have hmk : m < k := by
       rcases Nat.lt_or_ge m k with h1 | h1
       ·exact h1
       ·rw [List.getElem?_eq_none (by omega)] at htm; cases htm
      have hom : ops[m]? = some ops[m] := by simp [show m < ops.size by omega]
      have hs1 := step m _ tm hom htm
      obtain ⟨h1, h2⟩ := hc _ hom hs1.1
      rcases Nat.lt_or_gt_of_ne hne with hlt' | hgt
      ·have ha := conf m i _ _ _ _ hlt' hik hom hoi htm hti (h1 hlt')
       have := hdn.anc ha hrdy'
       simp only [this, hlt', decide_true]
      ·have ha := conf i m _ _ _ _ hgt hmk hoi hom hti htm (h2 hgt)
       have : ¬ m < i := by omega
       simp only [this, decide_false]
       cases hc : listed.getD m false with
       | false => rfl
       | true =>
        have := hdn.anc ha (fun o' ho' x hx => hdn m o' ho' hc x hx)
        rw [hDi] at this; cases this
     have agT : ∀ t, (oi.looksAt ops).contains t = true → (ov (fun m => listed.getD m false) 0 (tr.map TE.T) st.tmps)[t]? = (ov (fun m => decide (m < i)) 0 (tr.map TE.T) st.tmps)[t]? := by
      intro t ht
      refine ov_congr _ _ _ _ rfl rfl fun m wm hm hkey => ?_
      rw [List.getElem?_map] at hm
      cases htm : tr[m]? with
      | none => rw [htm] at hm; cases hm
      | some tm =>
       rw [htm] at hm
       cases hm
       rw [Nat.zero_add]
       by_cases hmi : m = i
       ·subst hmi; rw [hDi]; simp
       ·have hd := keyIn_T hkey
        exact oth m tm htm hmi fun om _ hdd => ⟨fun _ => conf_dst (by rw [← hdd]; exact hd) (.inl ht), fun _ => conf_dst' (by rw [← hdd]; exact hd) ht⟩
     have agH : ∀ id ∈ te.R, (ov (fun m => listed.getD m false) 0 (tr.map TE.W) (st.heap ++ List.replicate k Blk.dead))[id]? = (ov (fun m => decide (m < i)) 0 (tr.map TE.W) (st.heap ++ List.replicate k Blk.dead))[id]? := by
      intro id hid
      refine ov_congr _ _ _ _ rfl rfl fun m wm hm hkey => ?_
      rw [List.getElem?_map] at hm
      cases htm : tr[m]? with
      | none => rw [htm] at hm; cases hm
      | some tm =>
       rw [htm] at hm
       cases hm
       rw [Nat.zero_add]
       by_cases hmi : m = i
       ·subst hmi; rw [hDi]; simp
       ·exact oth m tm htm hmi fun om _ hdd => ⟨fun _ => conf_W hkey (.inl hid), fun _ => conf_R hid hkey⟩
     obtain ⟨hdst, hgd⟩ := step i oi te hoi hti
     -- what comes
     have newT : put (ov (fun m => listed.getD m false) 0 (tr.map TE.T) st.tmps) oi.dst te.r = ov (fun m => (listed.setIfInBounds i true).getD m false) 0 (tr.map TE.T) st.tmps := by
      rw [← hdst, put_eq, getD_listed (by omega)]
      refine (ov_add (D := fun m => listed.getD m false) (tr.map TE.T) 0 st.tmps (by rw [List.getElem?_map, hti]; rfl) (by rw [Nat.zero_add]; exact hDi) fun m wm hm hlt' hd key hkey => ?_).symm
      rw [List.getElem?_map] at hm
      cases htm : tr[m]? with
      | none => rw [htm] at hm; cases hm
      | some tm =>
       rw [htm] at hm
       cases hm
       rw [Nat.zero_add] at hd
       cases hc : keyIn key tm.T with
       | false => rfl
       | true =>
        have h1 := keyIn_T hkey
        have h2 := keyIn_T hc
        have := oth m tm htm (by omega) fun om _ hdd => ⟨fun h => by omega, fun _ => conf_dst (d := key) (by rw [← hdst]; exact h1) (.inr (by rw [← hdd]; exact h2))⟩
        rw [hd] at this
        simp at this; omega
     have newH : setAll (ov (fun m => listed.getD m false) 0 (tr.map TE.W) (st.heap ++ List.replicate k Blk.dead)) te.W = ov (fun m => (listed.setIfInBounds i true).getD m false) 0 (tr.map TE.W) (st.heap ++ List.replicate k Blk.dead) := by
      rw [getD_listed (by omega)]
      refine (ov_add (D := fun m => listed.getD m false) (tr.map TE.W) 0 _ (by rw [List.getElem?_map, hti]; rfl) (by rw [Nat.zero_add]; exact hDi) fun m wm hm hlt' hd key hkey => ?_).symm
      rw [List.getElem?_map] at hm
      cases htm : tr[m]? with
      | none => rw [htm] at hm; cases hm
      | some tm =>
       rw [htm] at hm
       cases hm
       rw [Nat.zero_add] at hd
       cases hc : keyIn key tm.W with
       | false => rfl
       | true =>
        have := oth m tm htm (by omega) fun om _ hdd => ⟨fun h => by omega, fun _ => conf_W hkey (.inr hc)⟩
        rw [hd] at this
        simp at this; omega
     have next : ∀ a' w' ρ2 S2, RelX F ρ2 S2 ⟨ov (fun m => (listed.setIfInBounds i true).getD m false) 0 (tr.map TE.T) st.tmps, ov (fun m => (listed.setIfInBounds i true).getD m false) 0 (tr.map TE.W) (st.heap ++ List.replicate k .dead)⟩ a' w' →
       Ext ρ' S' w ρ2 S2 w' → (∀ id b, ρ2 id = some b → ρ' id = some b ∨ id = st.heap.length + i) → wpAny P .any ops Q fuel (listed.setIfInBounds i true) a' w' := by
      intro a' w' ρ2 S2 h1 h2 h3
      have gd : ∀ m, (listed.setIfInBounds i true).getD m false = true ↔ m = i ∨ listed.getD m false = true := fun m => by
       have := congrFun (getD_listed (listed := listed) (i := i) (by omega)) m
       try simp only at this
       rw [this]
       simp
      refine ih _ a' w' (by simp [hs]) ?_ ?_ ?_ ⟨ρ2, S2, h1, hE.trans h2, ?_⟩
      ·intro j o ho hd m hm
       rw [gd] at hd
       rw [gd]
       rcases hd with rfl | hd
       ·exact .inr (hrdy' o ho m hm)
       ·exact .inr (hdn j o ho hd m hm)
      ·intro m hm
       rw [gd] at hm
       rcases hm with rfl | hm
       ·exact hik
       ·exact hlt m hm
      ·have := toCome_set hs hin hun
       omega
      ·intro id b hid
       rcases h3 id b hid with h4 | h4
       ·rcases hdom id b h4 with h5 | ⟨m, h5, h6⟩
        ·exact .inl h5
        ·exact .inr ⟨m, (gd m).2 (.inr h5), h6⟩
       ·exact .inr ⟨i, (gd i).2 (.inl rfl), h4⟩
     have hsl : ρ' (st.heap.length + i) = none := by
      cases hc : ρ' (st.heap.length + i) with
      | none => rfl
      | some b =>
       rcases hdom _ b hc with h5 | ⟨m, h5, h6⟩
       ·omega
       ·obtain rfl : m = i := by omega
        rw [hDi] at h5; cases h5
     have run : Runs TY D wr (st.heap.length + i) oi te (ov (fun m => decide (m < i)) 0 (tr.map TE.T) st.tmps) (ov (fun m => decide (m < i)) 0 (tr.map TE.W) (st.heap ++ List.replicate k Blk.dead)) →
       oi.wp P a w (wpAny P .any ops Q fuel (listed.setIfInBounds i true)) Q := by
      intro hruns
      have h1 := hruns (ov (fun m => listed.getD m false) 0 (tr.map TE.T) st.tmps) (ov (fun m => listed.getD m false) 0 (tr.map TE.W) (st.heap ++ List.replicate k Blk.dead)) (fun x hx => by
       cases x with
       | tmp t =>
        show List.getD _ t AV.any = List.getD _ t AV.any
        rw [List.getD_eq_getElem?_getD, List.getD_eq_getElem?_getD, agT t (looks_operand hx)]
       | _ => rfl) agH
      refine Oper.wp_mono ?_ (opD_sound hTY hD hR (by rw [ov_length]; simp; omega) hsl oi h1)
      rintro a' w' ⟨r, W, R, ρ2, S2, ⟨rfl, rfl, rfl⟩, h2, h3, h4⟩
      simp only at h2
      rw [newT, newH] at h2
      exact next a' w' ρ2 S2 h2 h3 h4
     unfold wpOp
     rw [hoi]
     simp only
     cases hg : oi.guard with
     | none =>
      rw [hg] at hgd
      rw [if_pos (by simp [Region.wanted, hg])]
      exact .inl (run hgd)
     | some gw =>
      obtain ⟨g, want⟩ := gw
      rw [hg] at hgd
      obtain ⟨t, c, ht, hb, hif⟩ := hgd
      have hb' := (agT t (looks_guard hg ht)).trans hb
      rcases hif with ⟨rfl, hif⟩ | ⟨hc, e1, e2, e3⟩
      ·have hy := yielded_tmp ht hR.tmps hb'
       rw [if_pos (by simp [Region.wanted, hg, hy])]
       exact .inl (run hif)
      ·have hy : yielded ops a.tmps g ≠ some want := by
        rcases hc with rfl | rfl
        ·rw [yielded_tmp ht hR.tmps hb']; simp
        ·rw [yielded_none ht hR.tmps hb']; simp
       rw [if_neg (by simpa [Region.wanted, hg] using hy)]
       have h2 := Rel.put hR (Ext.refl _ _ _) hR.sok hR.heap (.tup [] #[] rfl (fun i c v hc => by simp at hc)) oi.dst
       simp only at h2
       rw [← e1, newT] at h2
       have e4 := newH
       rw [e2, setAll_nil] at e4
       rw [e4] at h2
       exact next _ _ ρ' S' h2 (Ext.refl _ _ _) (fun _ _ h => .inl h)
 have hcome : toCome ops.size (Array.replicate ops.size false) = ops.size := by
  unfold toCome
  have : ∀ n, n ≤ ops.size → (List.range n).countP (fun i => !(Array.replicate ops.size false).getD i true) = n := by
   intro n
   induction n with
   | zero => intro _; simp
   | succ n ihn =>
    intro hn
    rw [List.range_succ, List.countP_append, ihn (by omega), List.countP_singleton]
    simp [show n < ops.size by omega]
  exact this _ (Nat.le_refl _)
 have hfalse : ∀ m, (Array.replicate ops.size false).getD m false = false := fun m => by
  by_cases h1 : m < ops.size
  ·simp [h1]
  ·simp [h1]
 refine main ops.size _ a0 w0 (by simp) (fun j o _ hd => ?_) (fun m hm => ?_) hcome ⟨ρ, S, ?_, Ext.refl _ _ _, fun id b hid => .inl (hR0.heap.out id b hid).1⟩
 ·have hd : (Array.replicate ops.size false).getD j false = true := hd
  rw [hfalse] at hd; cases hd
 ·rw [hfalse] at hm; cases hm
 ·rw [ov_none _ _ _ hfalse, ov_none _ _ _ hfalse]
  exact ⟨⟨hR0.defers, hR0.tmps, hrel_dead hR0.heap k⟩, hR0.sok⟩
end
end Go.Vc
namespace Go.Vc
open Go
def pureOp : Op → Bool
 | .move _ => true
 | .assign _ => true
 | .pick .. => true
 | .build .. => true
 | .load .. => true
 | .nilCheck _ => true
 | .binOp .. => true
 | .unOp .. => true
 | .convert .. => true
 | .makeInterface .. => true
 | .makeFunc .. => true
 | .slice .. => true
 | .fieldAddr .. => true
 | .field .. => true
 | .indexAddr .. => true
 | .index .. => true
 | .lookup .. => true
 | .extract .. => true
 | .call c => (match c.callee with | .builtin b => (match b with | .len => true | _ => false) | _ => false)
 | _ => false
def opQ (TY : TypeId → Option TI) (wr : Bool) (op : Op) (ts : List AV) (H : List Blk) (N : AV → Prop) : Prop :=
 match op with
 | .call c => (match c.callee with
  | .builtin b => (match b with
   | .len => (match c.argTypes.toList, c.args.toList.map (evO ts) with | [t], [x] => lenD TY t x N | _, _ => False)
   | _ => False)
  | _ => False)
 | op => opV TY wr op ts H N
def effQ (TY : TypeId → Option TI) (C : FuncId → Option Ctr) (wr : Tmp → Bool) (o : Oper) (ts : List AV) (H : List Blk) (M : AV → List Blk → Prop) : Prop :=
 match o.op with
 | .call c => (match c.callee with
  | .value f => (match evO ts f with
   | .fn g caps => (match C g with
    | some K => K (c.args.toList.map (evO ts) ++ caps) H M
    | none => False)
   | _ => False)
  | .builtin b => builtinA TY b c.argTypes.toList (c.args.toList.map (evO ts)) H M
  | _ => False)
 | op => opA TY (match o.dst with | some d => wr d | none => false) op ts H M
structure PE where
 i : Nat
 ts : List AV
 r : AV
def pendOk (TY : TypeId → Option TI) (wr : Tmp → Bool) (ops : Array Oper) (cl : List Nat) (j : Nat) (H : List Blk) (l : List PE) : Prop → Prop :=
 List.rec (motive := fun _ => Prop → Prop) (fun X => X)
  (fun pe _ ih X => match pe with
   | ⟨pi, pts, pr⟩ => (match hasAnc cl j pi with
    | true => ih X
    | false => (match ops[pi]? with
     | some o => opQ TY (wrOf wr o) o.op pts H (fun r => r = pr) ∧ ih X
     | none => False))) l
def bodyQ (TY : TypeId → Option TI) (C : FuncId → Option Ctr) (wr : Tmp → Bool) (ops : Array Oper) (cl : List Nat) (j : Nat) (ih : List PE → St → (St → Prop) → Prop) (pend : List PE) (st : St) (Q : St → Prop) : Prop :=
   match ops[j]? with
   | none => False
   | some o => (match pureOp o.op with
    | true => (match o.guard with
     | none => opQ TY (wrOf wr o) o.op st.tmps st.heap fun r => fcSt st.tmps o.dst r st.heap fun st1 => ih (⟨j, st.tmps, r⟩ :: pend) st1 Q
     | some (g, want) => (match tmpOf ops g with
      | none => False
      | some t => (match st.tmps[t]? with
       | some (.bool b) => (match b with
        | true => (match want with
         | true => setF (fun ts => opQ TY (wrOf wr o) o.op ts st.heap fun r => fcSt ts o.dst r st.heap fun st1 => ih (⟨j, ts, r⟩ :: pend) st1 Q) (.bool true) st.tmps t
         | false => fcSt (st.tmps.set t (.bool true)) o.dst (.tup []) st.heap fun st1 => ih pend st1 Q)
        | false => (match want with
         | false => setF (fun ts => opQ TY (wrOf wr o) o.op ts st.heap fun r => fcSt ts o.dst r st.heap fun st1 => ih (⟨j, ts, r⟩ :: pend) st1 Q) (.bool false) st.tmps t
         | true => fcSt (st.tmps.set t (.bool false)) o.dst (.tup []) st.heap fun st1 => ih pend st1 Q))
       | some (.tup cs) => (match cs with
        | [] => fcSt (st.tmps.set t (.tup [])) o.dst (.tup []) st.heap fun st1 => ih pend st1 Q
        | _ => False)
       | _ => False)))
    | false => (match o.guard with
     | none => effQ TY C wr o st.tmps st.heap fun r H' => fcSt st.tmps o.dst r H' fun st1 => pendOk TY wr ops cl j st1.heap pend (ih pend st1 Q)
     | some (g, want) => (match tmpOf ops g with
      | none => False
      | some t => (match st.tmps[t]? with
       | some (.bool b) => (match b with
        | true => (match want with
         | true => setF (fun ts => effQ TY C wr o ts st.heap fun r H' => fcSt ts o.dst r H' fun st1 => pendOk TY wr ops cl j st1.heap pend (ih pend st1 Q)) (.bool true) st.tmps t
         | false => fcSt (st.tmps.set t (.bool true)) o.dst (.tup []) st.heap fun st1 => ih pend st1 Q)
        | false => (match want with
         | false => setF (fun ts => effQ TY C wr o ts st.heap fun r H' => fcSt ts o.dst r H' fun st1 => pendOk TY wr ops cl j st1.heap pend (ih pend st1 Q)) (.bool false) st.tmps t
         | true => fcSt (st.tmps.set t (.bool false)) o.dst (.tup []) st.heap fun st1 => ih pend st1 Q))
       | some (.tup cs) => (match cs with
        | [] => fcSt (st.tmps.set t (.tup [])) o.dst (.tup []) st.heap fun st1 => ih pend st1 Q
        | _ => False)
       | _ => False))))
def runQ (TY : TypeId → Option TI) (C : FuncId → Option Ctr) (wr : Tmp → Bool) (ops : Array Oper) (cl : List Nat) (l : List Nat) : List PE → St → (St → Prop) → Prop :=
 List.rec (motive := fun _ => List PE → St → (St → Prop) → Prop) (fun _ st Q => Q st)
  (fun j _ ih => bodyQ TY C wr ops cl j ih) l
def conflT (ops : Array Oper) (oi oj : Oper) : Bool :=
 (match oi.dst with | some d => (oj.looksAt ops).contains d || oj.dst == some d | none => false) ||
 (match oj.dst with | some d => (oi.looksAt ops).contains d | none => false)
def effAt (ops : Array Oper) (j : Nat) : Bool := match ops[j]? with | some o => !pureOp o.op | none => false
def pairOk (ops : Array Oper) (cl : List Nat) (i j : Nat) : Bool :=
 hasAnc cl j i || (!effAt ops i && (match ops[i]?, ops[j]? with | some oi, some oj => !conflT ops oi oj | _, _ => false))
def okPairs (ops : Array Oper) (cl : List Nat) : List Nat → Bool
 | [] => true
 | i :: l => l.all (fun j => pairOk ops cl i j) && (!l.contains i && okPairs ops cl l)
def okQ (ops : Array Oper) (l : List Nat) : Bool :=
 okBack ops && ((List.range ops.size).all (fun j => l.contains j) && (l.all (fun j => decide (j < ops.size)) && okPairs ops (clos [] ops.toList) l))
def drawQ (TY : TypeId → Option TI) (C : FuncId → Option Ctr) (wr : Tmp → Bool) (ops : Array Oper) (l : List Nat) (st : St) (N : St → Prop) : Prop :=
 okQ ops l = true ∧ runQ TY C wr ops (clos [] ops.toList) l [] st N
section
variable {F : Nat → Obj → Prop} {P : Program} {TY : TypeId → Option TI} {C : FuncId → Option Ctr} {D : PT} {wr : Tmp → Bool} {ops : Array Oper} {cl : List Nat} {ρ : Nat → Option Nat} {S : Nat → Prop} {w0 w : World}
theorem opQ_opV {wr : Bool} {op : Op} {ts : List AV} {H : List Blk} {N : AV → Prop} (h : opQ TY wr op ts H N) : opV TY wr op ts H N := by
 unfold opQ at h
 split at h
 ·rename_i c
  unfold opV
  split at h
  ·rename_i b hb
   split at h
   ·split at h
    ·rename_i t x h1 h2
     simp only [hb, h1, h2, valueB, builtinA]
     exact lenD_lenA h
    ·exact h.elim
   ·exact h.elim
  ·exact h.elim
 ·exact h
theorem det_opQ {wr : Bool} {op : Op} {ts : List AV} {H : List Blk} : Det (opQ TY wr op ts H) := by
 intro N h
 unfold opQ at h ⊢
 split at h
 ·split at h
  ·split at h
   ·split at h
    ·exact det_lenD N h
    ·exact h.elim
   ·exact h.elim
  ·exact h.elim
 ·rename_i hc
  obtain ⟨r, h1, h2⟩ := det_opV hc N h
  exact ⟨r, h1, h2⟩
theorem opQ_congr {wr : Bool} {op : Op} {ts ts' : List AV} {H : List Blk} {N : AV → Prop} (hx : ∀ x ∈ op.operands, evO ts' x = evO ts x) (h : opQ TY wr op ts H N) : opQ TY wr op ts' H N := by
 unfold opQ at h ⊢
 split at h
 ·rename_i c
  rw [map_congr' (xs := c.args) (ts := ts) (ts' := ts') fun x hx' => hx x (by simp [Op.operands, Call.operands, hx'])]
  exact h
 ·rename_i hc
  rw [opV_congr (H' := H) hc hx (fun id _ => rfl)]; exact h
theorem optmap_congr {ts ts' : List AV} (o : Option Operand) (ho : ∀ y, o = some y → evO ts' y = evO ts y) : o.map (evO ts') = o.map (evO ts) := by
 cases o with
 | none => rfl
 | some y => rw [Option.map_some, Option.map_some, ho y rfl]
theorem opA_congr {wr : Bool} {op : Op} {ts ts' : List AV} {H : List Blk} {N : AV → List Blk → Prop} (hc : ∀ c, op ≠ .call c) (hx : ∀ x ∈ op.operands, evO ts' x = evO ts x) : opA TY wr op ts' H N = opA TY wr op ts H N := by
 cases op <;> simp only [Op.operands] at hx <;> simp only [opA]
 case move x => rw [hx x (by simp)]
 case assign x => rw [hx x (by simp)]
 case pick c x y => rw [hx c (by simp), hx x (by simp), hx y (by simp)]
 case box e x => rw [hx x (by simp)]
 case build t ps => rw [partsE_congr fun x h => hx x (by simpa using h)]
 case buildSlice t n ps => rw [partsE_congr fun x h => hx x (by simpa using h)]
 case insert t m k x => rw [hx m (by simp), hx k (by simp), hx x (by simp)]
 case mapUpdate t m k x => rw [hx m (by simp), hx k (by simp), hx x (by simp)]
 case load t x => rw [hx x (by simp)]
 case store t a x => rw [hx a (by simp), hx x (by simp)]
 case nilCheck x => rw [hx x (by simp)]
 case binOp op t x y yt => rw [hx x (by simp), hx y (by simp)]
 case unOp op t x => rw [hx x (by simp)]
 case convert s d x => rw [hx x (by simp)]
 case makeInterface t x => rw [hx x (by simp)]
 case makeFunc fn first caps => rw [map_congr' (xs := caps) fun x h => hx x (by simp [h])]
 case makeMap t r => cases r <;> rfl
 case makeSlice t l c => rw [hx l (by simp), hx c (by simp)]
 case slice t x l h m =>
  rw [hx x (by simp)]
  rw [optmap_congr l fun y hy => hx y (by subst hy; simp), optmap_congr h fun y hy => hx y (by subst hy; simp), optmap_congr m fun y hy => hx y (by subst hy; simp)]
 case fieldAddr t x f => rw [hx x (by simp)]
 case field t x f => rw [hx x (by simp)]
 case indexAddr t x i => rw [hx x (by simp), hx i (by simp)]
 case index t x i => rw [hx x (by simp), hx i (by simp)]
 case lookup t x i ok => rw [hx x (by simp), hx i (by simp)]
 case range t x => rw [hx x (by simp)]
 case next x b => rw [hx x (by simp)]
 case extract t i => rw [hx t (by simp)]
 case call c => exact absurd rfl (hc _)
theorem effQ_congr {o : Oper} {ts ts' : List AV} {H : List Blk} {M : AV → List Blk → Prop} (hx : ∀ x ∈ o.op.operands, evO ts' x = evO ts x) (h : effQ TY C wr o ts H M) : effQ TY C wr o ts' H M := by
 unfold effQ at h ⊢
 split at h
 ·rename_i c hop
  rw [hop] at hx
  rw [map_congr' (xs := c.args) (ts := ts) (ts' := ts') fun x hx' => hx x (by simp [Op.operands, Call.operands, hx'])]
  split at h
  ·rename_i f hf
   rw [hx f (by simp [Op.operands, Call.operands, hf])]
   exact h
  ·exact h
  ·exact h.elim
 ·rename_i hc
  rw [opA_congr (fun c e => hc c e) hx]; exact h
theorem effQ_sound (hTY : TyOk P TY) (hC : CtrOk F P C) (o : Oper) {ts : List AV} {H : List Blk} {a : Act} (hR : RelX F ρ S ⟨ts, H⟩ a w) {M : AV → List Blk → Prop} {Q : Exit → Act → World → Prop} (h : effQ TY C wr o ts H M) :
  o.wp P a w (fun a' w' => ∃ r H' ρ' S', M r H' ∧ RelX F ρ' S' ⟨put ts o.dst r, H'⟩ a' w' ∧ Ext ρ S w ρ' S' w') Q := by
 have plain : OpOk P ρ S w (execOp a.eval o) M → o.wp P a w (fun a' w' => ∃ r H' ρ' S', M r H' ∧ RelX F ρ' S' ⟨put ts o.dst r, H'⟩ a' w' ∧ Ext ρ S w ρ' S' w') Q := by
  intro hok
  obtain ⟨v, w', c, H', ρ', h1, h2, h3, h4, h5⟩ := hok
  have hs' : Sok F S w' := hR.sok.still h5
  unfold Oper.wp
  rcases h1 with h1 | ⟨h1, rfl⟩
  ·rw [h1]
   exact ⟨c, H', ρ', S, h2, Rel.put hR h5 hs' h4 h3 _, h5⟩
  ·rw [h1]
   exact ⟨c, H', ρ', S, h2, Rel.put hR h5 hs' h4 h3 _, h5⟩
 unfold effQ at h
 split at h
 ·rename_i c hop
  split at h
  ·rename_i f hf
   split at h
   ·rename_i g caps hg
    split at h
    ·rename_i K hK
     obtain ⟨hent, hgood⟩ := hC g K hK
     have hfv := hR.tmps.eval f
     rw [hg] at hfv
     cases hev : a.eval f <;> rw [hev] at hfv <;> cases hfv
     rename_i vs hl hv
     have hrun : (execOp a.eval o).run P w = .ok (.enter g (c.args.map a.eval ++ vs)) w := by
      unfold execOp
      rw [hop]
      simp only [resolve, hf, hev, Deferred.ofValue, Sem.run_bind, Sem.run_pure, Result.andThen_ok, invoke, Array.empty_append]
      exact hent _ w
     unfold Oper.wp
     rw [hrun, Oper.upon_enter]
     refine (hgood ρ S w H _ _ _ hR.sok hR.heap ⟨by simp [hl], fun i c' v' hc' hv' => ?_⟩ h).mono ?_
     ·by_cases hlt : i < c.args.size
      ·rw [List.getElem?_append_left (by simpa using hlt), List.getElem?_map] at hc'
       rw [Array.getElem?_append_left (by simpa using hlt), Array.getElem?_map] at hv'
       rw [show c.args.toList[i]? = c.args[i]? by simp] at hc'
       cases hi : c.args[i]? with
       | none => rw [hi] at hc'; cases hc'
       | some x =>
        rw [hi] at hc' hv'
        cases hc'; cases hv'
        exact hR.tmps.eval x
      ·rw [List.getElem?_append_right (by simp; omega)] at hc'
       rw [Array.getElem?_append_right (by simp; omega)] at hv'
       simp only [List.length_map, Array.length_toList] at hc'
       simp only [Array.size_map] at hv'
       exact hv _ _ _ hc' hv'
     ·rintro e w' ⟨v, c', H', ρ', S', rfl, hN, hv', hH', hE, hs'⟩
      exact ⟨c', H', ρ', S', hN, Rel.put hR hE hs' hH' hv' _, hE⟩
    ·exact h.elim
   ·exact h.elim
  ·rename_i b hb
   refine plain (opA_sound hTY hR.sok.lt hR.heap hR.tmps (wr := false) o (N := M) ?_)
   rw [hop]
   simp only [opA, hb]
   exact h
  ·exact h.elim
 ·exact plain (opA_sound hTY hR.sok.lt hR.heap hR.tmps o (N := M) h)
def RunsQ (TY : TypeId → Option TI) (wr : Tmp → Bool) (o : Oper) (r : AV) (ts : List AV) (H : List Blk) : Prop :=
 ∀ ts' : List AV, (∀ x ∈ o.op.operands, evO ts' x = evO ts x) → opQ TY (wrOf wr o) o.op ts' H (fun c => c = r)
def GuardQ (TY : TypeId → Option TI) (wr : Tmp → Bool) (ops : Array Oper) (pend : List PE) (o : Oper) (j : Nat) (te : TE) (ts : List AV) (H : List Blk) : Prop :=
 match o.guard with
 | none => RunsQ TY wr o te.r ts H ∧ ⟨j, ts, te.r⟩ ∈ pend
 | some (g, want) => ∃ t c, tmpOf ops g = some t ∧ ts[t]? = some c ∧ ((c = .bool want ∧ RunsQ TY wr o te.r ts H ∧ ⟨j, ts, te.r⟩ ∈ pend) ∨ ((c = .bool (!want) ∨ c = .tup []) ∧ te.r = .tup []))
def StepQ (TY : TypeId → Option TI) (wr : Tmp → Bool) (ops : Array Oper) (pend : List PE) (o : Oper) (j : Nat) (te : TE) (ts : List AV) (H : List Blk) : Prop :=
 te.dst = o.dst ∧ GuardQ TY wr ops pend o j te ts H
theorem GuardQ.mono {pend pend' : List PE} {o : Oper} {j : Nat} {te : TE} {ts : List AV} {H : List Blk} (hp : ∀ pe ∈ pend, pe ∈ pend') (h : GuardQ TY wr ops pend o j te ts H) : GuardQ TY wr ops pend' o j te ts H := by
 unfold GuardQ at h ⊢
 split at h
 ·exact ⟨h.1, hp _ h.2⟩
 ·obtain ⟨t, c, h1, h2, h3⟩ := h
  refine ⟨t, c, h1, h2, ?_⟩
  rcases h3 with ⟨h4, h5, h6⟩ | h4
  ·exact .inl ⟨h4, h5, hp _ h6⟩
  ·exact .inr h4
theorem runs_of {o : Oper} {ts : List AV} {H : List Blk} {N : AV → Prop} (h : opQ TY (wrOf wr o) o.op ts H N) : ∃ r, N r ∧ RunsQ TY wr o r ts H := by
 obtain ⟨r, h1, h2⟩ := det_opQ N h
 exact ⟨r, h1, fun ts' hx => opQ_congr hx h2⟩
theorem ov_app {α : Type} {Dn : Nat → Bool} : ∀ (ws ws' : List (List (Nat × α))) (i : Nat) (b : List α), ov Dn i (ws ++ ws') b = ov Dn (i + ws.length) ws' (ov Dn i ws b)
 | [], ws', i, b => by simp [ov]
 | w :: ws, ws', i, b => by
  rw [List.cons_append, ov, ov, ov_app ws ws' (i + 1), List.length_cons, show i + 1 + ws.length = i + (ws.length + 1) by omega]
theorem ov_from {α : Type} {Dn : Nat → Bool} : ∀ (k : Nat) (ws : List (List (Nat × α))) (b : List α), ov Dn k ws b = ov (fun m => Dn (k + m)) 0 ws b
 | 0, ws, b => by simp
 | k + 1, ws, b => by
  rw [ov_shift, ov_from k]
  congr 1
  funext m
  rw [show k + m + 1 = k + 1 + m by omega]
theorem ov_off {α : Type} {Dn : Nat → Bool} : ∀ (ws : List (List (Nat × α))) (i : Nat) (b : List α), (∀ m, i ≤ m → Dn m = false) → ov Dn i ws b = b
 | [], _, _, _ => rfl
 | w :: ws, i, b, h => by rw [ov, h i (Nat.le_refl _)]; exact ov_off ws (i + 1) b fun m hm => h m (by omega)
theorem runQ_cons {j : Nat} {rest : List Nat} {pend : List PE} {st : St} {Q : St → Prop} (h : runQ TY C wr ops cl (j :: rest) pend st Q) : ∃ o, ops[j]? = some o ∧
  ((pureOp o.op = true ∧ ∃ te pend', te.dst = o.dst ∧ (∀ pe ∈ pend, pe ∈ pend') ∧ GuardQ TY wr ops pend' o j te st.tmps st.heap ∧ runQ TY C wr ops cl rest pend' ⟨put st.tmps o.dst te.r, st.heap⟩ Q) ∨
   (pureOp o.op = false ∧
   ((∃ t c g want, o.guard = some (g, want) ∧ tmpOf ops g = some t ∧ st.tmps[t]? = some c ∧ (c = .bool (!want) ∨ c = .tup []) ∧ runQ TY C wr ops cl rest pend ⟨put st.tmps o.dst (.tup []), st.heap⟩ Q) ∨
    ((o.guard = none ∨ ∃ t g want, o.guard = some (g, want) ∧ tmpOf ops g = some t ∧ st.tmps[t]? = some (.bool want)) ∧
    effQ TY C wr o st.tmps st.heap fun r H' => pendOk TY wr ops cl j H' pend (runQ TY C wr ops cl rest pend ⟨put st.tmps o.dst r, H'⟩ Q))))) := by
 change bodyQ TY C wr ops cl j (runQ TY C wr ops cl rest) pend st Q at h
 unfold bodyQ at h
 simp only [fcSt_eq, setF_eq] at h
 cases ho : ops[j]? with
 | none => rw [ho] at h; exact h.elim
 | some o =>
  rw [ho] at h
  simp only at h
  refine ⟨o, rfl, ?_⟩
  cases hp : pureOp o.op with
  | true =>
   rw [hp] at h
   simp only at h
   refine .inl ⟨rfl, ?_⟩
   have run : ∀ ts, ts = st.tmps → (opQ TY (wrOf wr o) o.op ts st.heap fun r => runQ TY C wr ops cl rest (⟨j, ts, r⟩ :: pend) ⟨put ts o.dst r, st.heap⟩ Q) →
     ∃ r, RunsQ TY wr o r st.tmps st.heap ∧ runQ TY C wr ops cl rest (⟨j, st.tmps, r⟩ :: pend) ⟨put st.tmps o.dst r, st.heap⟩ Q := by
    rintro ts rfl h
    obtain ⟨r, h1, h2⟩ := runs_of h
    exact ⟨r, h2, h1⟩
   split at h
   ·rename_i hg
    obtain ⟨r, h1, h2⟩ := run _ rfl h
    exact ⟨⟨o.dst, r, [], []⟩, _, rfl, fun pe hpe => List.mem_cons_of_mem _ hpe, by unfold GuardQ; rw [hg]; exact ⟨h1, List.mem_cons_self⟩, h2⟩
   ·rename_i g want hg
    split at h
    ·exact h.elim
    ·rename_i t ht
     split at h
     ·rename_i b hb
      split at h
      ·rw [set_same hb] at h
       split at h
       ·obtain ⟨r, h1, h2⟩ := run _ rfl h
        exact ⟨⟨o.dst, r, [], []⟩, _, rfl, fun pe hpe => List.mem_cons_of_mem _ hpe, by unfold GuardQ; rw [hg]; exact ⟨t, _, ht, hb, .inl ⟨rfl, h1, List.mem_cons_self⟩⟩, h2⟩
       ·exact ⟨⟨o.dst, .tup [], [], []⟩, pend, rfl, fun _ h => h, by unfold GuardQ; rw [hg]; exact ⟨t, _, ht, hb, .inr ⟨.inl rfl, rfl⟩⟩, h⟩
      ·rw [set_same hb] at h
       split at h
       ·obtain ⟨r, h1, h2⟩ := run _ rfl h
        exact ⟨⟨o.dst, r, [], []⟩, _, rfl, fun pe hpe => List.mem_cons_of_mem _ hpe, by unfold GuardQ; rw [hg]; exact ⟨t, _, ht, hb, .inl ⟨rfl, h1, List.mem_cons_self⟩⟩, h2⟩
       ·exact ⟨⟨o.dst, .tup [], [], []⟩, pend, rfl, fun _ h => h, by unfold GuardQ; rw [hg]; exact ⟨t, _, ht, hb, .inr ⟨.inl rfl, rfl⟩⟩, h⟩
     ·rename_i cs hb
      split at h
      ·rw [set_same hb] at h
       exact ⟨⟨o.dst, .tup [], [], []⟩, pend, rfl, fun _ h => h, by unfold GuardQ; rw [hg]; exact ⟨t, _, ht, hb, .inr ⟨.inr rfl, rfl⟩⟩, h⟩
      ·exact h.elim
     ·exact h.elim
  | false =>
   rw [hp] at h
   simp only at h
   refine .inr ⟨rfl, ?_⟩
   split at h
   ·rename_i hg
    exact .inr ⟨.inl hg, h⟩
   ·rename_i g want hg
    split at h
    ·exact h.elim
    ·rename_i t ht
     split at h
     ·rename_i b hb
      split at h
      ·rw [set_same hb] at h
       split at h
       ·exact .inr ⟨.inr ⟨t, g, _, hg, ht, hb⟩, h⟩
       ·exact .inl ⟨t, _, g, _, hg, ht, hb, .inl rfl, h⟩
      ·rw [set_same hb] at h
       split at h
       ·exact .inr ⟨.inr ⟨t, g, _, hg, ht, hb⟩, h⟩
       ·exact .inl ⟨t, _, g, _, hg, ht, hb, .inl rfl, h⟩
     ·rename_i cs hb
      split at h
      ·rw [set_same hb] at h
       exact .inl ⟨t, _, g, _, hg, ht, hb, .inr rfl, h⟩
      ·exact h.elim
     ·exact h.elim
theorem runQ_pures : ∀ (rest : List Nat) (pend : List PE) (ts : List AV) (H : List Blk) (Q : St → Prop), runQ TY C wr ops cl rest pend ⟨ts, H⟩ Q →
  ∃ (ps rest2 : List Nat) (tr2 : List TE) (pend2 : List PE), rest = ps ++ rest2 ∧ (∀ j ∈ ps, effAt ops j = false) ∧ (∀ j rr, rest2 = j :: rr → effAt ops j = true) ∧ tr2.length = ps.length ∧
   runQ TY C wr ops cl rest2 pend2 ⟨ov (fun _ => true) 0 (tr2.map TE.T) ts, H⟩ Q ∧ (∀ pe ∈ pend, pe ∈ pend2) ∧
   ∀ (p j : Nat) o te, ps[p]? = some j → ops[j]? = some o → tr2[p]? = some te → StepQ TY wr ops pend2 o j te (ov (fun m => decide (m < p)) 0 (tr2.map TE.T) ts) H
 | [], pend, ts, H, Q, h => ⟨[], [], [], pend, rfl, fun _ h => (by cases h), fun _ _ h => (by cases h), rfl, h, fun _ h => h, fun p j o te hp => by simp at hp⟩
 | j :: rest, pend, ts, H, Q, h => by
  obtain ⟨o, ho, hcase⟩ := runQ_cons h
  rcases hcase with ⟨hp, te, pend', hd, hsub, hg, hr⟩ | ⟨hp, _⟩
  ·obtain ⟨ps, rest2, tr2, pend2, h1, h2, h3, h4, h5, h6, h7⟩ := runQ_pures rest pend' _ _ Q hr
   have hput : put ts o.dst te.r = setAll ts te.T := by rw [← hd]; exact put_eq _ _
   simp only at hput h5 h7
   rw [hput] at h5 h7
   refine ⟨j :: ps, rest2, te :: tr2, pend2, by rw [h1]; rfl, fun i hi => ?_, h3, by simp [h4], ?_, fun pe hpe => h6 _ (hsub _ hpe), fun p i o' te' hpi hoi hti => ?_⟩
   ·rcases List.mem_cons.1 hi with rfl | hi
    ·unfold effAt; rw [ho]; simp [hp]
    ·exact h2 i hi
   ·simp only [List.map_cons, ov]
    rw [ov_shift]; exact h5
   ·cases p with
    | zero =>
     simp at hpi hti
     subst hpi; subst hti
     rw [ho] at hoi; cases hoi
     rw [ov_none _ _ _ (fun m => by simp)]
     exact ⟨hd, hg.mono h6⟩
    | succ p =>
     have := h7 p i o' te' (by simpa using hpi) hoi (by simpa using hti)
     simp only [List.map_cons, ov, Nat.zero_lt_succ, decide_true]
     rw [ov_shift]
     have e : (fun i => decide (i + 1 < p + 1)) = fun i => decide (i < p) := by funext i; simp
     rw [e]
     exact this
  ·exact ⟨[], j :: rest, [], pend, rfl, fun _ h => (by cases h), fun i rr h => by cases h; unfold effAt; rw [ho]; simp [hp], rfl, h, fun _ h => h, fun p j o te hp => by simp at hp⟩
theorem pendOk_spec {j : Nat} {H : List Blk} : ∀ {l : List PE} {X : Prop}, pendOk TY wr ops cl j H l X → X ∧ ∀ pe ∈ l, hasAnc cl j pe.i = true ∨ ∃ o, ops[pe.i]? = some o ∧ opQ TY (wrOf wr o) o.op pe.ts H (fun r => r = pe.r)
 | [], X, h => ⟨h, fun _ h => (by cases h)⟩
 | pe :: l, X, h => by
  change (match hasAnc cl j pe.i with
   | true => pendOk TY wr ops cl j H l X
   | false => (match ops[pe.i]? with
    | some o => opQ TY (wrOf wr o) o.op pe.ts H (fun r => r = pe.r) ∧ pendOk TY wr ops cl j H l X
    | none => False)) at h
  cases ha : hasAnc cl j pe.i with
  | true =>
   rw [ha] at h
   obtain ⟨h1, h2⟩ := pendOk_spec h
   refine ⟨h1, fun q hq => ?_⟩
   rcases List.mem_cons.1 hq with rfl | hq
   ·exact .inl ha
   ·exact h2 q hq
  | false =>
   rw [ha] at h
   simp only at h
   cases ho : ops[pe.i]? with
   | none => rw [ho] at h; exact h.elim
   | some o =>
    rw [ho] at h
    obtain ⟨h0, h⟩ := h
    obtain ⟨h1, h2⟩ := pendOk_spec h
    refine ⟨h1, fun q hq => ?_⟩
    rcases List.mem_cons.1 hq with rfl | hq
    ·exact .inr ⟨o, ho, h0⟩
    ·exact h2 q hq
end
end Go.Vc
namespace Go.Vc
open Go
section
variable {F : Nat → Obj → Prop} {P : Program} {TY : TypeId → Option TI} {C : FuncId → Option Ctr} {D : PT} {wr : Tmp → Bool} {ops : Array Oper} {cl : List Nat} {ρ : Nat → Option Nat} {S : Nat → Prop} {w0 w : World}
theorem okPairs_spec : ∀ {l : List Nat}, okPairs ops cl l = true → ∀ (p q i j : Nat), p < q → l[p]? = some i → l[q]? = some j → pairOk ops cl i j = true ∧ i ≠ j
 | [], _, p, q, i, j, _, hp, _ => by simp at hp
 | x :: l, h, p, q, i, j, hpq, hp, hq => by
  simp only [okPairs, Bool.and_eq_true, Bool.not_eq_true'] at h
  obtain ⟨h1, h2, h3⟩ := h
  obtain ⟨q, rfl⟩ : ∃ q', q = q' + 1 := ⟨q - 1, by omega⟩
  simp only [List.getElem?_cons_succ] at hq
  cases p with
  | zero =>
   simp at hp
   subst hp
   refine ⟨List.all_eq_true.1 h1 j (List.mem_of_getElem? hq), ?_⟩
   rintro rfl
   have := List.mem_of_getElem? hq
   rw [← List.contains_iff_mem] at this
   rw [this] at h2; cases h2
  | succ p => exact okPairs_spec h3 p q i j (by omega) (by simpa using hp) hq
theorem ov_pre {α : Type} {Dn Dn' : Nat → Bool} (ws ws' : List (List (Nat × α))) (b : List α) (h : ∀ m, m < ws.length → Dn m = Dn' m) (h2 : ∀ m, ws.length ≤ m → Dn m = false) : ov Dn 0 (ws ++ ws') b = ov Dn' 0 ws b := by
 rw [ov_app, ov_off _ _ _ (fun m hm => h2 m (by omega))]
 exact ov_same _ _ _ fun m hm => by rw [Nat.zero_add]; exact h m hm
theorem ov_offL {α : Type} {Dn : Nat → Bool} : ∀ (ws : List (List (Nat × α))) (i : Nat) (b : List α), (∀ m, i ≤ m → m < i + ws.length → Dn m = false) → ov Dn i ws b = b
 | [], _, _, _ => rfl
 | w :: ws, i, b, h => by rw [ov, h i (Nat.le_refl _) (by simp)]; exact ov_offL ws (i + 1) b fun m hm hl => h m (by omega) (by simp; omega)
theorem GuardQ.step {pend pend2 : List PE} {o : Oper} {j : Nat} {te : TE} {ts : List AV} {H H' : List Blk} (ho : ops[j]? = some o) (hp : ∀ pe ∈ pend, pe ∈ pend2)
  (hn : H' = H ∨ ∀ pe ∈ pend, pe.i = j → ∃ o, ops[pe.i]? = some o ∧ opQ TY (wrOf wr o) o.op pe.ts H' (fun r => r = pe.r)) (h : GuardQ TY wr ops pend o j te ts H) : GuardQ TY wr ops pend2 o j te ts H' := by
 rcases hn with rfl | hn
 ·exact h.mono hp
 ·have runs : ⟨j, ts, te.r⟩ ∈ pend → RunsQ TY wr o te.r ts H' := fun hm => by
   obtain ⟨o', h1, h2⟩ := hn _ hm rfl
   simp only [ho] at h1
   cases h1
   exact fun ts' hx => opQ_congr hx h2
  unfold GuardQ at h ⊢
  split at h
  ·exact ⟨runs h.2, hp _ h.2⟩
  ·obtain ⟨t, c, h1, h2, h3⟩ := h
   refine ⟨t, c, h1, h2, ?_⟩
   rcases h3 with ⟨h4, h5, h6⟩ | h4
   ·exact .inl ⟨h4, runs h6, hp _ h6⟩
   ·exact .inr h4
structure InvQ (F : Nat → Obj → Prop) (TY : TypeId → Option TI) (C : FuncId → Option Ctr) (wr : Tmp → Bool) (ops : Array Oper) (l : List Nat) (ρ : Nat → Option Nat) (S : Nat → Prop) (w0 : World) (ts0 : List AV) (N : St → Prop) (listed : Array Bool) (a : Act) (w : World)
  (pre rest : List Nat) (tr : List TE) (pend : List PE) (H : List Blk) (ρ' : Nat → Option Nat) (S' : Nat → Prop) : Prop where
 all : l = pre ++ rest
 len : tr.length = pre.length
 inp : ∀ j, listed.getD j false = true → j ∈ pre
 eff : ∀ j ∈ pre, effAt ops j = true → listed.getD j false = true
 hd : ∀ j rr, rest = j :: rr → effAt ops j = true
 run : runQ TY C wr ops (clos [] ops.toList) rest pend ⟨ov (fun _ => true) 0 (tr.map TE.T) ts0, H⟩ N
 rel : RelX F ρ' S' ⟨ov (fun p => listed.getD (pre.getD p 0) false) 0 (tr.map TE.T) ts0, H⟩ a w
 ext : Ext ρ S w0 ρ' S' w
 stp : ∀ (p j : Nat) o te, pre[p]? = some j → ops[j]? = some o → tr[p]? = some te → te.dst = o.dst ∧ (listed.getD j false = false → GuardQ TY wr ops pend o j te (ov (fun m => decide (m < p)) 0 (tr.map TE.T) ts0) H)
theorem drawQ_sound (hTY : TyOk P TY) (hC : CtrOk F P C) {l : List Nat} {st : St} {a0 : Act} (hR0 : RelX F ρ S st a0 w0) {N : St → Prop} {Q : Exit → Act → World → Prop}
  (hQ : ∀ a' w', Reach F ρ S w0 N a' w' → Q .normal a' w') (h : drawQ TY C wr ops l st N) : wpAny P .any ops Q ops.size (Array.replicate ops.size false) a0 w0 := by
 obtain ⟨hok, hrun⟩ := h
 unfold okQ at hok
 simp only [Bool.and_eq_true, decide_eq_true_eq] at hok
 obtain ⟨hback, hlen, hall, hpairs⟩ := hok
 have hlt : ∀ j ∈ l, j < ops.size := fun j hj => by simpa using List.all_eq_true.1 hall j hj
 have pairs := okPairs_spec hpairs
 have nodup : ∀ (p q i : Nat), l[p]? = some i → l[q]? = some i → p = q := fun p q i hp hq => by
  rcases Nat.lt_trichotomy p q with h1 | h1 | h1
  ·exact absurd rfl (pairs p q i i h1 hp hq).2
  ·exact h1
  ·exact absurd rfl (pairs q p i i h1 hq hp).2
 have hmem : ∀ j, j < ops.size → j ∈ l := fun j hj => by
  have := List.all_eq_true.1 hlen j (List.mem_range.2 hj)
  rwa [List.contains_iff_mem] at this
 have main : ∀ (fuel : Nat) (listed : Array Bool) (a : Act) (w : World), listed.size = ops.size → Down ops (fun m => listed.getD m false) → toCome ops.size listed = fuel →
   (∃ pre rest tr pend H ρ' S', InvQ F TY C wr ops l ρ S w0 st.tmps N listed a w pre rest tr pend H ρ' S') → wpAny P .any ops Q fuel listed a w := by
  intro fuel
  induction fuel with
  | zero =>
   intro listed a w hs hdn hf hst
   have all := toCome_zero hf
   have allF : ∀ i, i < ops.size → listed.getD i false = true := fun i hi => by
    have h1 := all i hi
    have hls : i < listed.size := by omega
    simp [hls] at h1 ⊢; exact h1
   obtain ⟨pre, rest, tr, pend, H, ρ', S', I⟩ := hst
   have hrest : rest = [] := by
    cases rest with
    | nil => rfl
    | cons j rr =>
     exfalso
     have hj : j ∈ l := by rw [I.all]; simp
     have hjp := I.inp j (allF j (hlt j hj))
     obtain ⟨p, hp⟩ := List.getElem?_of_mem hjp
     have hpl : p < pre.length := (List.getElem?_eq_some_iff.1 hp).1
     have h1 : l[p]? = some j := by rw [I.all, List.getElem?_append_left hpl]; exact hp
     have h2 : l[pre.length]? = some j := by rw [I.all, List.getElem?_append_right (Nat.le_refl _)]; simp
     have := nodup _ _ _ h1 h2
     omega
   subst hrest
   refine ⟨?_, ?_⟩
   ·rw [List.eq_nil_iff_forall_not_mem]
    intro i hi
    obtain ⟨h1, o, h2, _⟩ := mem_ready.1 hi
    have hlt : i < ops.size := (Array.getElem?_eq_some_iff.1 h2).1
    have := all i hlt
    rw [h1] at this; cases this
   ·have hr := I.rel
    have e : ov (fun p => listed.getD (pre.getD p 0) false) 0 (tr.map TE.T) st.tmps = ov (fun _ => true) 0 (tr.map TE.T) st.tmps := ov_same _ _ _ fun m hm => by
     rw [Nat.zero_add]
     have hm : m < pre.length := by simp [I.len] at hm; exact hm
     have : pre.getD m 0 = pre[m] := by simp [List.getD_eq_getElem?_getD, hm]
     rw [this]
     exact allF _ (hlt _ (by rw [I.all]; simp))
    rw [e] at hr
    exact hQ a w ⟨_, ρ', S', I.run, hr, I.ext⟩
  | succ fuel ih =>
   intro listed a w hs hdn hf hst
   have get : ∀ i, i < ops.size → listed.getD i true = listed.getD i false := fun i hi => by simp [show i < listed.size by omega]
   obtain ⟨pre, rest, tr, pend, H, ρ', S', I⟩ := hst
   refine ⟨fun hr => ?_, fun i hi => ?_⟩
   ·exfalso
    have hex : ∃ m, m < ops.size ∧ listed.getD m false = false := by
     by_cases h1 : ∃ m, m < ops.size ∧ listed.getD m false = false
     ·exact h1
     ·exfalso
      have : toCome ops.size listed = 0 := by
       unfold toCome
       rw [List.countP_eq_zero]
       intro m hm
       have hm := List.mem_range.1 hm
       rw [get m hm]
       cases hc : listed.getD m false with
       | true => simp
       | false => exact absurd ⟨m, hm, hc⟩ h1
      omega
    obtain ⟨m, ⟨hm, hmf⟩, hleast⟩ := exists_least hex
    have hom : ops[m]? = some ops[m] := by simp [hm]
    have : m ∈ Region.ready .any ops listed := by
     rw [mem_ready]
     refine ⟨by rw [get m hm, hmf], ops[m], hom, fun e he hb => ?_⟩
     unfold okBack at hback
     rw [List.all_eq_true] at hback
     have := hback m (List.mem_range.2 hm)
     rw [hom] at this
     rw [List.all_eq_true] at this
     have := this e.on (by unfold direct; rw [List.mem_map]; exact ⟨e, by rw [List.mem_filter]; exact ⟨by simpa using he, hb⟩, rfl⟩)
     simp at this
     cases hc : listed.getD e.on false with
     | true => rfl
     | false => have := hleast e.on ⟨by omega, hc⟩; omega
    rw [hr] at this; cases this
   ·obtain ⟨hun, oi, hoi, hrdy⟩ := mem_ready.1 hi
    have hin : i < ops.size := (Array.getElem?_eq_some_iff.1 hoi).1
    have hDi : listed.getD i false = false := by rw [← get i hin]; exact hun
    have hrdy' : ∀ o', ops[i]? = some o' → ∀ m ∈ direct o', listed.getD m false = true := fun o' ho' m hm => by
     rw [hoi] at ho'; cases ho'
     unfold direct at hm
     simp only [List.mem_map, List.mem_filter] at hm
     obtain ⟨e, ⟨he, hb⟩, rfl⟩ := hm
     exact hrdy e (by simpa using he) hb
    have anc : ∀ m, hasAnc (clos [] ops.toList) i m = true → listed.getD m false = true := fun m hm => hdn.anc (hasAnc_anc hm) hrdy'
    have anc2 : ∀ m, hasAnc (clos [] ops.toList) m i = true → listed.getD m false = false := fun m hm => by
     cases hc : listed.getD m false with
     | false => rfl
     | true =>
      have := hdn.anc (hasAnc_anc hm) (fun o' ho' x hx => hdn m o' ho' hc x hx)
      simp only [hDi] at this; cases this
    have gd : ∀ m, (listed.setIfInBounds i true).getD m false = (m == i || listed.getD m false) := fun m => by
     have := congrFun (getD_listed (listed := listed) (i := i) (by omega)) m
     try simp only at this
     rw [this, Nat.zero_add]
    have hdn' : Down ops (fun m => (listed.setIfInBounds i true).getD m false) := by
     intro j o ho hd m hm
     simp only [gd, Bool.or_eq_true, beq_iff_eq] at hd ⊢
     rcases hd with rfl | hd
     ·exact .inr (hrdy' o ho m hm)
     ·exact .inr (hdn j o ho hd m hm)
    have hcome : toCome ops.size (listed.setIfInBounds i true) = fuel := by
     have := toCome_set hs hin hun
     omega
    -- where it stands in the order
    have at_pre : ∀ {p j : Nat}, pre[p]? = some j → l[p]? = some j := fun {p j} hp => by
     rw [I.all, List.getElem?_append_left (List.getElem?_eq_some_iff.1 hp).1]; exact hp
    have oth : ∀ (Pi : Nat), l[Pi]? = some i → ∀ (m j : Nat) om, pre[m]? = some j → ops[j]? = some om → (m < Pi → conflT ops om oi = true) → (Pi < m → conflT ops oi om = true) → listed.getD j false = decide (m < Pi) := by
     intro Pi hPi m j om hm hom h1 h2
     rcases Nat.lt_trichotomy m Pi with hlt' | rfl | hgt
     ·obtain ⟨hp, _⟩ := pairs m Pi j i hlt' (at_pre hm) hPi
      unfold pairOk at hp
      rw [Bool.or_eq_true] at hp
      rcases hp with hp | hp
      ·rw [anc j hp]; simp [hlt']
      ·rw [hom, hoi] at hp
       simp only [h1 hlt', Bool.not_true, Bool.and_false] at hp
       cases hp
     ·rw [at_pre hm] at hPi; cases hPi
      rw [hDi]; simp
     ·obtain ⟨hp, _⟩ := pairs Pi m i j hgt hPi (at_pre hm)
      unfold pairOk at hp
      rw [Bool.or_eq_true] at hp
      have hng : ¬ m < Pi := by omega
      rcases hp with hp | hp
      ·rw [anc2 j hp]; simp [hng]
      ·rw [hom, hoi] at hp
       simp only [h2 hgt, Bool.not_true, Bool.and_false] at hp
       cases hp
    have agT : ∀ (Pi : Nat), l[Pi]? = some i → ∀ t, (oi.looksAt ops).contains t = true → (ov (fun p => listed.getD (pre.getD p 0) false) 0 (tr.map TE.T) st.tmps)[t]? = (ov (fun m => decide (m < Pi)) 0 (tr.map TE.T) st.tmps)[t]? := by
     intro Pi hPi t ht
     refine ov_congr _ _ _ _ rfl rfl fun m wm hm hkey => ?_
     rw [List.getElem?_map] at hm
     cases htm : tr[m]? with
     | none => rw [htm] at hm; cases hm
     | some tm =>
      rw [htm] at hm
      cases hm
      rw [Nat.zero_add]
      have hml : m < pre.length := by rw [← I.len]; exact (List.getElem?_eq_some_iff.1 htm).1
      have hpm : pre[m]? = some pre[m] := by simp [hml]
      have hg : pre.getD m 0 = pre[m] := by simp [List.getD_eq_getElem?_getD, hml]
      rw [hg]
      have hjl : pre[m] < ops.size := hlt _ (by rw [I.all]; simp)
      have hom : ops[pre[m]]? = some ops[pre[m]] := by simp [hjl]
      have hd := (I.stp m _ _ tm hpm hom htm).1
      have hk := keyIn_T hkey
      rw [hd] at hk
      refine oth Pi hPi m _ _ hpm hom (fun _ => ?_) (fun _ => ?_)
      ·unfold conflT; rw [hk]; simp only [ht, Bool.true_or]
      ·unfold conflT; rw [hk]; simp only [ht, Bool.or_true]
    have agO : ∀ (Pi : Nat), l[Pi]? = some i → ∀ x ∈ oi.op.operands, evO (ov (fun p => listed.getD (pre.getD p 0) false) 0 (tr.map TE.T) st.tmps) x = evO (ov (fun m => decide (m < Pi)) 0 (tr.map TE.T) st.tmps) x := by
     intro Pi hPi x hx
     cases x with
     | tmp t =>
      show List.getD _ t AV.any = List.getD _ t AV.any
      rw [List.getD_eq_getElem?_getD, List.getD_eq_getElem?_getD, agT Pi hPi t (looks_operand hx)]
     | _ => rfl
    by_cases hpre : i ∈ pre
    ·-- one that only looks
     obtain ⟨p, hp⟩ := List.getElem?_of_mem hpre
     have hpl : p < pre.length := (List.getElem?_eq_some_iff.1 hp).1
     have hPi := at_pre hp
     obtain ⟨te, hti⟩ : ∃ te, tr[p]? = some te := ⟨tr[p]'(by rw [I.len]; exact hpl), by simp [I.len, hpl]⟩
     obtain ⟨hdst, hgd⟩ := I.stp p i oi te hp hoi hti
     have hgd := hgd hDi
     have newT : put (ov (fun p => listed.getD (pre.getD p 0) false) 0 (tr.map TE.T) st.tmps) oi.dst te.r = ov (fun p => (listed.setIfInBounds i true).getD (pre.getD p 0) false) 0 (tr.map TE.T) st.tmps := by
      rw [← hdst, put_eq]
      have h1 := ov_add (D := fun p => listed.getD (pre.getD p 0) false) (j := p) (tr.map TE.T) 0 st.tmps (by rw [List.getElem?_map, hti]; rfl)
       (by rw [Nat.zero_add]; show listed.getD (pre.getD p 0) false = false; rw [show pre.getD p 0 = i by rw [List.getD_eq_getElem?_getD, hp]; rfl]; exact hDi) (fun m wm hm hlt' hd key hkey => ?_)
      ·rw [← h1]
       refine ov_same _ _ _ fun m hm => ?_
       have hm : m < pre.length := by simp [I.len] at hm; exact hm
       rw [Nat.zero_add, gd]
       have hpm : pre[m]? = some pre[m] := by simp [hm]
       have hg : pre.getD m 0 = pre[m] := by simp [List.getD_eq_getElem?_getD, hm]
       rw [hg]
       congr 1
       rw [Bool.eq_iff_iff, beq_iff_eq, beq_iff_eq, Nat.zero_add]
       constructor
       ·rintro rfl
        rw [hpm] at hp
        exact Option.some.inj hp
       ·intro he
        exact nodup m p i (by rw [at_pre hpm, he]) hPi
      ·rw [List.getElem?_map] at hm
       cases htm : tr[m]? with
       | none => rw [htm] at hm; cases hm
       | some tm =>
        rw [htm] at hm
        cases hm
        rw [Nat.zero_add] at hd
        cases hc : keyIn key tm.T with
        | false => rfl
        | true =>
         have hml : m < pre.length := by rw [← I.len]; exact (List.getElem?_eq_some_iff.1 htm).1
         have hpm : pre[m]? = some pre[m] := by simp [hml]
         have hg : pre.getD m 0 = pre[m] := by simp [List.getD_eq_getElem?_getD, hml]
         have hjl : pre[m] < ops.size := hlt _ (by rw [I.all]; simp)
         have hom : ops[pre[m]]? = some ops[pre[m]] := by simp [hjl]
         have k1 := keyIn_T hkey
         have k2 := keyIn_T hc
         rw [hdst] at k1
         rw [(I.stp m _ _ tm hpm hom htm).1] at k2
         have := oth p hPi m _ _ hpm hom (fun h => by omega) (fun _ => by unfold conflT; rw [k1, k2]; simp)
         simp only [hg] at hd
         rw [hd] at this
         simp at this; omega
     have next : ∀ a' ρ2 S2, RelX F ρ2 S2 ⟨put (ov (fun p => listed.getD (pre.getD p 0) false) 0 (tr.map TE.T) st.tmps) oi.dst te.r, H⟩ a' w → Ext ρ' S' w ρ2 S2 w → wpAny P .any ops Q fuel (listed.setIfInBounds i true) a' w := by
      intro a' ρ2 S2 h1 h2
      rw [newT] at h1
      refine ih _ a' w (by simp [hs]) hdn' hcome ⟨pre, rest, tr, pend, H, ρ2, S2, I.all, I.len, fun j hj => ?_, fun j hj he => ?_, I.hd, I.run, h1, I.ext.trans h2, fun q j o te' h3 h4 h5 => ⟨(I.stp q j o te' h3 h4 h5).1, fun h6 => (I.stp q j o te' h3 h4 h5).2 ?_⟩⟩
      ·rw [gd, Bool.or_eq_true, beq_iff_eq] at hj
       rcases hj with rfl | hj
       ·exact hpre
       ·exact I.inp j hj
      ·rw [gd, I.eff j hj he]; simp
      ·rw [gd, Bool.or_eq_false_iff] at h6; exact h6.2
     have run : RunsQ TY wr oi te.r (ov (fun m => decide (m < p)) 0 (tr.map TE.T) st.tmps) H → oi.wp P a w (wpAny P .any ops Q fuel (listed.setIfInBounds i true)) Q := by
      intro hruns
      have h1 := opQ_opV (hruns _ (agO p hPi))
      obtain ⟨v, c, h2, h3, h4⟩ := opV_sound hTY I.rel.heap I.rel.tmps oi h1
      unfold Oper.wp
      rw [h2]
      subst h3
      exact next _ ρ' S' (Rel.put I.rel (Ext.refl _ _ _) I.rel.sok I.rel.heap h4 _) (Ext.refl _ _ _)
     unfold wpOp
     rw [hoi]
     simp only
     unfold GuardQ at hgd
     cases hg : oi.guard with
     | none =>
      rw [hg] at hgd
      rw [if_pos (by simp [Region.wanted, hg])]
      exact .inl (run hgd.1)
     | some gw =>
      obtain ⟨g, want⟩ := gw
      rw [hg] at hgd
      obtain ⟨t, c, ht, hb, hif⟩ := hgd
      have hb' := (agT p hPi t (looks_guard hg ht)).trans hb
      rcases hif with ⟨rfl, hif, _⟩ | ⟨hc, e1⟩
      ·have hy := yielded_tmp ht I.rel.tmps hb'
       rw [if_pos (by simp [Region.wanted, hg, hy])]
       exact .inl (run hif)
      ·have hy : yielded ops a.tmps g ≠ some want := by
        rcases hc with rfl | rfl
        ·rw [yielded_tmp ht I.rel.tmps hb']; simp
        ·rw [yielded_none ht I.rel.tmps hb']; simp
       rw [if_neg (by simpa [Region.wanted, hg] using hy)]
       have h2 := Rel.put I.rel (Ext.refl _ _ _) I.rel.sok I.rel.heap (.tup [] #[] rfl (fun i c v hc => by simp at hc)) oi.dst
       simp only at h2
       rw [← e1] at h2
       exact next _ ρ' S' h2 (Ext.refl _ _ _)
    ·-- the next one that turns memory
     have hil : i ∈ l := hmem i hin
     have hir : i ∈ rest := by
      rw [I.all] at hil
      rcases List.mem_append.1 hil with h1 | h1
      ·exact absurd h1 hpre
      ·exact h1
     obtain ⟨e, rr, hre⟩ : ∃ e rr, rest = e :: rr := by
      cases rest with
      | nil => cases hir
      | cons e rr => exact ⟨e, rr, rfl⟩
     have hee := I.hd e rr hre
     have he_at : l[pre.length]? = some e := by rw [I.all, hre, List.getElem?_append_right (Nat.le_refl _)]; simp
     have hie : i = e := by
      rw [hre] at hir
      rcases List.mem_cons.1 hir with h1 | h1
      ·exact h1
      ·exfalso
       obtain ⟨q, hq⟩ := List.getElem?_of_mem h1
       have hq' : l[pre.length + (q + 1)]? = some i := by
        rw [I.all, hre, List.getElem?_append_right (by omega)]
        simp [hq]
       obtain ⟨hp, _⟩ := pairs _ _ e i (by omega) he_at hq'
       unfold pairOk at hp
       rw [Bool.or_eq_true] at hp
       rcases hp with hp | hp
       ·have h2 := I.inp e (anc e hp)
        obtain ⟨p2, hp2⟩ := List.getElem?_of_mem h2
        have := nodup _ _ _ (at_pre hp2) he_at
        have := (List.getElem?_eq_some_iff.1 hp2).1
        omega
       ·rw [hee] at hp; simp at hp
     subst hie
     have ag := agT pre.length he_at
     have agx := agO pre.length he_at
     have e0 : ov (fun m => decide (m < pre.length)) 0 (tr.map TE.T) st.tmps = ov (fun _ => true) 0 (tr.map TE.T) st.tmps := ov_same _ _ _ fun m hm => by
      simp [I.len] at hm; simp [hm]
     rw [e0] at agx
     simp only [e0] at ag
     have hrun := I.run
     rw [hre] at hrun
     obtain ⟨o', ho', hcase⟩ := runQ_cons hrun
     rw [hoi] at ho'; cases ho'
     have hpf : pureOp oi.op = false := by
      unfold effAt at hee; rw [hoi] at hee; simpa using hee
     -- behind it
     have next : ∀ a' w' r H' ρ2 S2 (Hnew : H' = H ∨ ∀ pe ∈ pend, hasAnc (clos [] ops.toList) i pe.i = true ∨ ∃ o, ops[pe.i]? = some o ∧ opQ TY (wrOf wr o) o.op pe.ts H' (fun r => r = pe.r)),
       RelX F ρ2 S2 ⟨put (ov (fun p => listed.getD (pre.getD p 0) false) 0 (tr.map TE.T) st.tmps) oi.dst r, H'⟩ a' w' → Ext ρ' S' w ρ2 S2 w' →
       runQ TY C wr ops (clos [] ops.toList) rr pend ⟨put (ov (fun _ => true) 0 (tr.map TE.T) st.tmps) oi.dst r, H'⟩ N → wpAny P .any ops Q fuel (listed.setIfInBounds i true) a' w' := by
      intro a' w' r H' ρ2 S2 Hnew h1 h2 h3
      obtain ⟨ps, rest2, tr2, pend2, q1, q2, q3, q4, q5, q6, q7⟩ := runQ_pures rr pend _ _ N h3
      have hT : ∀ b : List AV, put b oi.dst r = setAll b (TE.T ⟨oi.dst, r, [], []⟩) := fun b => put_eq b ⟨oi.dst, r, [], []⟩
      have hnotin : ∀ m, m < pre.length → pre.getD m 0 ≠ i := fun m hm he => hpre (by rw [← he]; simp [List.getD_eq_getElem?_getD, hm])
      have hpsn : ∀ (m j : Nat), ps[m]? = some j → listed.getD j false = false ∧ j ≠ i := by
       intro m j hm
       have hj : l[pre.length + (m + 1)]? = some j := by
        rw [I.all, hre, q1, List.getElem?_append_right (by omega)]
        simp [List.getElem?_append_left (List.getElem?_eq_some_iff.1 hm).1, hm]
       refine ⟨?_, fun he => ?_⟩
       ·cases hc : listed.getD j false with
        | false => rfl
        | true =>
         obtain ⟨p2, hp2⟩ := List.getElem?_of_mem (I.inp j hc)
         have := nodup _ _ _ (at_pre hp2) hj
         have := (List.getElem?_eq_some_iff.1 hp2).1
         omega
       ·subst he
        have := nodup _ _ _ he_at hj
        omega
      have hpre' : ∀ m, (pre ++ i :: ps).getD m 0 = if m < pre.length then pre.getD m 0 else (i :: ps).getD (m - pre.length) 0 := fun m => by
       simp only [List.getD_eq_getElem?_getD]
       split
       ·rw [List.getElem?_append_left (by assumption)]
       ·rw [List.getElem?_append_right (by omega)]
      have tmap : (tr ++ (⟨oi.dst, r, [], []⟩ :: tr2)).map TE.T = tr.map TE.T ++ (TE.T ⟨oi.dst, r, [], []⟩ :: tr2.map TE.T) := by simp
      have hnl : (tr.map TE.T).length = pre.length := by simp [I.len]
      have eTrue : ov (fun _ => true) 0 ((tr ++ (⟨oi.dst, r, [], []⟩ :: tr2)).map TE.T) st.tmps = ov (fun _ => true) 0 (tr2.map TE.T) (put (ov (fun _ => true) 0 (tr.map TE.T) st.tmps) oi.dst r) := by
       rw [tmap, ov_app, ov, ov_from, hT]
      have eNow : ov (fun p => (listed.setIfInBounds i true).getD ((pre ++ i :: ps).getD p 0) false) 0 ((tr ++ (⟨oi.dst, r, [], []⟩ :: tr2)).map TE.T) st.tmps = put (ov (fun p => listed.getD (pre.getD p 0) false) 0 (tr.map TE.T) st.tmps) oi.dst r := by
       rw [tmap, ov_app, Nat.zero_add, hnl, ov]
       have k1 : (listed.setIfInBounds i true).getD ((pre ++ i :: ps).getD pre.length 0) false = true := by
        rw [hpre', if_neg (by omega), Nat.sub_self, gd]; simp
       rw [k1]
       rw [ov_offL _ _ _ (fun m hm hml => by
        rw [hpre', if_neg (by omega)]
        obtain ⟨q, rfl⟩ : ∃ q, m = pre.length + (q + 1) := ⟨m - pre.length - 1, by omega⟩
        have hq : q < ps.length := by simp [q4] at hml; omega
        have hpq : ps[q]? = some ps[q] := by simp [hq]
        obtain ⟨n1, n2⟩ := hpsn q _ hpq
        rw [show pre.length + (q + 1) - pre.length = q + 1 by omega, show (i :: ps).getD (q + 1) 0 = ps[q] by simp [List.getD_eq_getElem?_getD, hq], gd, n1]
        simpa using n2)]
       rw [hT]
       refine congrArg (fun b => setAll b (TE.T ⟨oi.dst, r, [], []⟩)) (ov_same _ _ _ fun m hm => ?_)
       rw [hnl] at hm
       have h1 := hpre' m
       rw [if_pos hm] at h1
       have h2 := hnotin m hm
       simp only [Nat.zero_add, h1, gd]
       rw [show (pre.getD m 0 == i) = false by simpa using h2, Bool.false_or]
      refine ih _ a' w' (by simp [hs]) hdn' hcome ⟨pre ++ i :: ps, rest2, tr ++ (⟨oi.dst, r, [], []⟩ :: tr2), pend2, H', ρ2, S2, by rw [I.all, hre, q1]; simp, by simp [I.len, q4], fun j hj => ?_, fun j hj he => ?_, q3, by rw [eTrue]; exact q5, by rw [eNow]; exact h1, I.ext.trans h2, fun p j o te hp ho ht => ?_⟩
      ·rw [gd, Bool.or_eq_true, beq_iff_eq] at hj
       rcases hj with rfl | hj
       ·simp
       ·exact List.mem_append_left _ (I.inp j hj)
      ·rw [gd]
       rcases List.mem_append.1 hj with hj | hj
       ·rw [I.eff j hj he]; simp
       ·rcases List.mem_cons.1 hj with rfl | hj
        ·simp
        ·rw [q2 j hj] at he; cases he
      ·rcases Nat.lt_trichotomy p pre.length with hlt1 | rfl | hgt1
       ·rw [List.getElem?_append_left hlt1] at hp
        rw [List.getElem?_append_left (by rw [I.len]; exact hlt1)] at ht
        obtain ⟨k1, k2⟩ := I.stp p j o te hp ho ht
        refine ⟨k1, fun hu => ?_⟩
        rw [gd, Bool.or_eq_false_iff] at hu
        rw [tmap, ov_pre (Dn' := fun m => decide (m < p)) _ _ _ (fun m _ => rfl) (fun m hm => by rw [hnl] at hm; simp; omega)]
        refine (k2 hu.2).step ho q6 ?_
        rcases Hnew with h4 | h4
        ·exact .inl h4
        ·refine .inr fun pe hpe hpj => ?_
         rcases h4 pe hpe with h5 | h5
         ·have := anc _ h5
          rw [hpj, hu.2] at this; cases this
         ·exact h5
       ·rw [List.getElem?_append_right (Nat.le_refl _)] at hp
        rw [List.getElem?_append_right (by rw [I.len]; exact Nat.le_refl _)] at ht
        simp [I.len] at hp ht
        subst hp; subst ht
        rw [hoi] at ho; cases ho
        refine ⟨rfl, fun hu => ?_⟩
        rw [gd] at hu; simp at hu
       ·obtain ⟨p2, rfl⟩ : ∃ p2, p = pre.length + (p2 + 1) := ⟨p - pre.length - 1, by omega⟩
        rw [List.getElem?_append_right (by omega)] at hp
        rw [List.getElem?_append_right (by rw [I.len]; omega)] at ht
        rw [show pre.length + (p2 + 1) - pre.length = p2 + 1 by omega, List.getElem?_cons_succ] at hp
        rw [I.len, show pre.length + (p2 + 1) - pre.length = p2 + 1 by omega, List.getElem?_cons_succ] at ht
        obtain ⟨k1, k2⟩ := q7 p2 j o te hp ho ht
        refine ⟨k1, fun _ => ?_⟩
        have e1 : ov (fun m => decide (m < pre.length + (p2 + 1))) 0 ((tr ++ (⟨oi.dst, r, [], []⟩ :: tr2)).map TE.T) st.tmps = ov (fun m => decide (m < p2)) 0 (tr2.map TE.T) (put (ov (fun _ => true) 0 (tr.map TE.T) st.tmps) oi.dst r) := by
         rw [tmap, ov_app, Nat.zero_add, hnl, ov]
         rw [show decide (pre.length < pre.length + (p2 + 1)) = true by simp]
         rw [ov_from, hT]
         have e2 : (fun m => decide (pre.length + 1 + m < pre.length + (p2 + 1))) = fun m => decide (m < p2) := by
          funext m; exact decide_eq_decide.2 ⟨fun h => by omega, fun h => by omega⟩
         rw [e2]
         refine congrArg (fun b => ov (fun m => decide (m < p2)) 0 (tr2.map TE.T) (setAll b (TE.T ⟨oi.dst, r, [], []⟩))) (ov_same _ _ _ fun m hm => ?_)
         rw [hnl] at hm
         exact decide_eq_true (by omega)
        rw [e1]; exact k2
     unfold wpOp
     rw [hoi]
     simp only
     rcases hcase with ⟨h1, _⟩ | ⟨_, hcase⟩
     ·rw [hpf] at h1; cases h1
     ·rcases hcase with ⟨t, c, g, want, hg, ht, hb, hc, hr⟩ | ⟨hg, hr⟩
      ·have hb' := (ag t (looks_guard hg ht)).trans hb
       have hy : yielded ops a.tmps g ≠ some want := by
        rcases hc with rfl | rfl
        ·rw [yielded_tmp ht I.rel.tmps hb']; simp
        ·rw [yielded_none ht I.rel.tmps hb']; simp
       rw [if_neg (by simpa [Region.wanted, hg] using hy)]
       have h2 := Rel.put I.rel (Ext.refl _ _ _) I.rel.sok I.rel.heap (.tup [] #[] rfl (fun i c v hc => by simp at hc)) oi.dst
       exact next _ _ (.tup []) H ρ' S' (.inl rfl) h2 (Ext.refl _ _ _) hr
      ·have hw : Region.wanted oi (yielded ops a.tmps) = true := by
        rcases hg with hg | ⟨t, g, want, hg, ht, hb⟩
        ·simp [Region.wanted, hg]
        ·have hb' := (ag t (looks_guard hg ht)).trans hb
         have hy := yielded_tmp ht I.rel.tmps hb'
         simp [Region.wanted, hg, hy]
       rw [if_pos hw]
       refine .inl (Oper.wp_mono ?_ (effQ_sound hTY hC oi I.rel (effQ_congr agx hr)))
       rintro a' w' ⟨r, H', ρ2, S2, hM, h2, h3⟩
       obtain ⟨h4, h5⟩ := pendOk_spec hM
       exact next a' w' r H' ρ2 S2 (.inr h5) h2 h3 h4
 have hcome : toCome ops.size (Array.replicate ops.size false) = ops.size := by
  unfold toCome
  have : ∀ n, n ≤ ops.size → (List.range n).countP (fun i => !(Array.replicate ops.size false).getD i true) = n := by
   intro n
   induction n with
   | zero => intro _; simp
   | succ n ihn =>
    intro hn
    rw [List.range_succ, List.countP_append, ihn (by omega), List.countP_singleton]
    simp [show n < ops.size by omega]
  exact this _ (Nat.le_refl _)
 have hfalse : ∀ m, (Array.replicate ops.size false).getD m false = false := fun m => by
  by_cases h1 : m < ops.size
  ·simp [h1]
  ·simp [h1]
 obtain ⟨ps, rest2, tr2, pend2, q1, q2, q3, q4, q5, q6, q7⟩ := runQ_pures l [] st.tmps st.heap N hrun
 refine main ops.size _ a0 w0 (by simp) (fun j o _ hd => ?_) hcome ⟨ps, rest2, tr2, pend2, st.heap, ρ, S, q1, q4, fun j hj => ?_, fun j hj he => ?_, q3, q5, ?_, Ext.refl _ _ _, fun p j o te h1 h2 h3 => ⟨(q7 p j o te h1 h2 h3).1, fun _ => (q7 p j o te h1 h2 h3).2⟩⟩
 ·have hd : (Array.replicate ops.size false).getD j false = true := hd
  rw [hfalse] at hd; cases hd
 ·rw [hfalse] at hj; cases hj
 ·rw [q2 j hj] at he; cases he
 ·rw [ov_none _ _ _ (fun m => hfalse _)]
  exact hR0
end
end Go.Vc
namespace Go.Vc
open Go
structure LoopSpec where
 α : Type
 keep : List Nat
 vals : α → List AV
 heap : α → List Blk
 ok : α → Prop
 μ : α → Nat
inductive LR where
 | inv (s : LoopSpec)
 | unroll (k : Nat)
 | order (l : List Nat)
def firstReg : Code → Option Nat
 | .region id _ _ => some id
 | .seq a b => (match firstReg a with | some i => some i | none => firstReg b)
 | .cond _ a b => (match firstReg a with | some i => some i | none => firstReg b)
 | .block _ c => firstReg c
 | .loop c => firstReg c
 | .scope c => firstReg c
 | _ => none
def iterE (f : St → (Exit → St → Prop) → Prop) : Nat → St → (Exit → St → Prop) → Prop
 | 0, _, _ => False
 | k + 1, st, Q => f st fun e st' => match e with
  | .normal => iterE f k st' Q
  | e => Q e st'
def headSt (n : Nat) (s : LoopSpec) (x : s.α) : St := ⟨headT n s.keep (s.vals x), s.heap x⟩
def atHead (n0 n : Nat) (s : LoopSpec) (st : St) (good : s.α → Prop) : Prop := match decide (st.tmps.length = n) with
 | true => ∃ x l, good x ∧ leHead n0 l st s.keep (s.vals x) (s.heap x)
 | false => False
theorem atHead_out {n0 n : Nat} {s : LoopSpec} {st : St} {good : s.α → Prop} (h : atHead n0 n s st good) : st.tmps.length = n ∧ ∃ x l, good x ∧ leHead n0 l st s.keep (s.vals x) (s.heap x) := by
 unfold atHead at h
 split at h
 ·rename_i hd; exact ⟨by simpa using hd, h⟩
 ·exact h.elim
def vcg (TY : TypeId → Option TI) (C : FuncId → Option Ctr) (D : PT) (wr : Tmp → Bool) (L : Nat → Option LR) : Code → St → (Exit → St → Prop) → Prop
 | .skip, st, Q => Q .normal st
 | .region id ops draw, st, Q => (match draw with
  | false => regE TY C wr ops ops.toList st (Q .normal)
  | true => (match L id with
   | some (.order l) => drawQ TY C wr ops l st (Q .normal)
   | _ => drawE TY C D wr ops st (Q .normal)))
 | .seq x y, st, Q => vcg TY C D wr L x st fun e st' => match e with
  | .normal => vcg TY C D wr L y st' Q
  | e => Q e st'
 | .cond c x y, st, Q => (match evO st.tmps c with
  | .bool b => (match b with
   | true => vcg TY C D wr L x st Q
   | false => vcg TY C D wr L y st Q)
  | _ => False)
 | .block id c, st, Q => vcg TY C D wr L c st fun e st' => match e with
  | .exit id' => (match decide (id' = id) with | true => Q .normal st' | false => Q (.exit id') st')
  | e => Q e st'
 | .loop c, st, Q => (match (firstReg c).bind L with
  | some (.inv s) => atHead st.heap.length st.tmps.length s st s.ok ∧ ∀ x, s.ok x → fcAll (headSt st.tmps.length s x) fun st1 => vcg TY C D wr L c st1 fun e st' => match e with
   | .normal => atHead st.heap.length st.tmps.length s st' fun y => s.ok y ∧ s.μ y < s.μ x
   | e => Q e st'
  | some (.unroll k) => iterE (vcg TY C D wr L c) k st Q
  | _ => False)
 | .exit id, st, Q => Q (.exit id) st
 | .ret, st, Q => Q .ret st
 | _, _, _ => False
section
variable {F : Nat → Obj → Prop} {P : Program} {TY : TypeId → Option TI} {C : FuncId → Option Ctr} {D : PT} {wr : Tmp → Bool} {L : Nat → Option LR}
def ReachX (F : Nat → Obj → Prop) (ρ : Nat → Option Nat) (S : Nat → Prop) (w : World) (Q : Exit → St → Prop) (e : Exit) (a' : Act) (w' : World) : Prop := ∃ st' ρ' S', Q e st' ∧ RelX F ρ' S' st' a' w' ∧ Ext ρ S w ρ' S' w'
theorem ReachX.trans {ρ : Nat → Option Nat} {S : Nat → Prop} {w : World} {Q : Exit → St → Prop} {e : Exit} {ρ1 : Nat → Option Nat} {S1 : Nat → Prop} {w1 : World} (hE : Ext ρ S w ρ1 S1 w1) {a' : Act} {w' : World} (h : ReachX F ρ1 S1 w1 Q e a' w') : ReachX F ρ S w Q e a' w' := by
 obtain ⟨st', ρ', S', h1, h2, h3⟩ := h
 exact ⟨st', ρ', S', h1, h2, hE.trans h3⟩
theorem RelX.drew {ρ : Nat → Option Nat} {S : Nat → Prop} {w : World} {st : St} {a : Act} (h : RelX F ρ S st a w) : RelX F ρ S st a w.drew :=
 ⟨⟨h.defers, h.tmps.mono (ext_drew ρ S w), hrel_drew h.heap⟩, h.sok.still (ext_drew ρ S w)⟩
theorem vcg_sound (hm : P.follows .mixedOrders = true) (hTY : TyOk P TY) (hD : PTOk F P D) (hC : CtrOk F P C) : ∀ (c : Code) {ρ : Nat → Option Nat} {S : Nat → Prop} {w : World} {st : St} {a : Act} {Q : Exit → St → Prop}, RelX F ρ S st a w →
  vcg TY C D wr L c st Q → c.wp P (ReachX F ρ S w Q) a w := by
 intro c
 induction c with
 | skip => exact fun hR h => wp_skip ⟨_, _, _, h, hR, Ext.refl _ _ _⟩
 | region id ops draw =>
  intro ρ S w st a Q hR h
  simp only [vcg] at h
  cases draw with
  | false =>
   refine wp_region_list (regE_sound hTY hC ops ops.toList hR (N := Q .normal) (fun a' w' hr => ?_) h)
   obtain ⟨st', ρ', S', h1, h2, h3⟩ := hr
   exact ⟨st', ρ', S', h1, h2, h3⟩
  | true =>
   refine wp_region_any hm ?_
   simp only at h
   split at h
   ·refine drawQ_sound hTY hC hR.drew (N := Q .normal) (fun a' w' hr => ?_) h
    obtain ⟨st', ρ', S', h1, h2, h3⟩ := hr
    exact ⟨st', ρ', S', h1, h2, (ext_drew ρ S w).trans h3⟩
   ·refine draw_sound hTY hD hC hR.drew (N := Q .normal) (fun a' w' hr => ?_) h
    obtain ⟨st', ρ', S', h1, h2, h3⟩ := hr
    exact ⟨st', ρ', S', h1, h2, (ext_drew ρ S w).trans h3⟩
 | seq x y ihx ihy =>
  intro ρ S w st a Q hR h
  simp only [vcg] at h
  refine wp_seq (wp_mono (ihx hR h) ?_)
  rintro e a' w' ⟨st', ρ', S', h1, h2, h3⟩
  cases e with
  | normal => exact wp_mono (ihy h2 h1) (fun e a2 w2 hq => hq.trans h3)
  | exit id => exact ⟨st', ρ', S', h1, h2, h3⟩
  | goto l => exact ⟨st', ρ', S', h1, h2, h3⟩
  | ret => exact ⟨st', ρ', S', h1, h2, h3⟩
  | panic ch => exact ⟨st', ρ', S', h1, h2, h3⟩
  | outgrown => exact ⟨st', ρ', S', h1, h2, h3⟩
 | cond c x y ihx ihy =>
  intro ρ S w st a Q hR h
  simp only [vcg] at h
  split at h
  ·rename_i b hb
   have hv := hR.tmps.eval c
   rw [hb] at hv
   have hv := hv.boolR
   split at h
   ·exact wp_cond_true hv (ihx hR h)
   ·exact wp_cond_false hv (ihy hR h)
  ·exact h.elim
 | block id c ih =>
  intro ρ S w st a Q hR h
  simp only [vcg] at h
  refine wp_block (wp_mono (ih hR h) ?_)
  rintro e a' w' ⟨st', ρ', S', h1, h2, h3⟩
  cases e with
  | normal => exact ⟨st', ρ', S', h1, h2, h3⟩
  | exit id' =>
   simp only [Exit.inBlock]
   split at h1
   ·rename_i he
    cases he
    split at h1
    ·rename_i hd
     rw [if_pos (by simpa using hd)]; exact ⟨st', ρ', S', h1, h2, h3⟩
    ·rename_i hd
     rw [if_neg (by simpa using hd)]; exact ⟨st', ρ', S', h1, h2, h3⟩
   ·rename_i he; exact absurd rfl (he id')
  | goto l => exact ⟨st', ρ', S', h1, h2, h3⟩
  | ret => exact ⟨st', ρ', S', h1, h2, h3⟩
  | panic ch => exact ⟨st', ρ', S', h1, h2, h3⟩
  | outgrown => exact ⟨st', ρ', S', h1, h2, h3⟩
 | loop c ih =>
  intro ρ S w st a Q hR h
  simp only [vcg] at h
  split at h
  ·rename_i s hs
   simp only [fcAll_eq] at h
   obtain ⟨hat, hround⟩ := h
   obtain ⟨_, x0, l0, hok0, hle0⟩ := atHead_out hat
   have hn : ∀ i b, ρ i = some b → i < st.heap.length := fun i b hi => (hR.heap.out i b hi).1
   obtain ⟨ρ0, hR0, hE0⟩ := rel_head hn (Ext.refl _ _ _) hR hle0
   refine wp_loop_ghost (fun n a' w' => ∃ x ρ' S', s.ok x ∧ s.μ x = n ∧ RelX F ρ' S' (headSt st.tmps.length s x) a' w' ∧ Ext ρ S w ρ' S' w') (s.μ x0) ⟨x0, ρ0, S, hok0, rfl, hR0, hE0⟩ ?_
   rintro n a' w' ⟨x, ρ', S', hok, rfl, hR', hE'⟩
   refine wp_mono (ih hR' (hround x hok)) ?_
   rintro e a2 w2 ⟨st2, ρ2, S2, h1, h2, h3⟩
   cases e with
   | normal =>
    obtain ⟨hlen, y, l, ⟨hoky, hμ⟩, hle⟩ := atHead_out h1
    obtain ⟨ρ3, hR3, hE3⟩ := rel_head hn (hE'.trans h3) h2 hle
    rw [hlen] at hR3
    exact ⟨s.μ y, hμ, y, ρ3, S2, hoky, rfl, hR3, hE3⟩
   | exit id => exact ⟨st2, ρ2, S2, h1, h2, hE'.trans h3⟩
   | goto l => exact ⟨st2, ρ2, S2, h1, h2, hE'.trans h3⟩
   | ret => exact ⟨st2, ρ2, S2, h1, h2, hE'.trans h3⟩
   | panic ch => exact ⟨st2, ρ2, S2, h1, h2, hE'.trans h3⟩
   | outgrown => exact ⟨st2, ρ2, S2, h1, h2, hE'.trans h3⟩
  ·rename_i k hk
   have key : ∀ (k : Nat) {ρ' : Nat → Option Nat} {S' : Nat → Prop} {w' : World} {st' : St} {a' : Act}, RelX F ρ' S' st' a' w' → iterE (vcg TY C D wr L c) k st' Q → (Code.loop c).wp P (ReachX F ρ' S' w' Q) a' w' := by
    intro k ρ' S' w' st' a' hR' hit
    refine wp_loop_ghost (fun n a2 w2 => ∃ ρ2 S2 st2, RelX F ρ2 S2 st2 a2 w2 ∧ iterE (vcg TY C D wr L c) n st2 Q ∧ Ext ρ' S' w' ρ2 S2 w2) k ⟨ρ', S', st', hR', hit, Ext.refl _ _ _⟩ ?_
    rintro n a2 w2 ⟨ρ2, S2, st2, hR2, hit2, hE2⟩
    cases n with
    | zero => exact hit2.elim
    | succ n =>
     refine wp_mono (ih hR2 hit2) ?_
     rintro e a3 w3 ⟨st3, ρ3, S3, h1, h2, h3⟩
     cases e with
     | normal => exact ⟨n, Nat.lt_succ_self _, ρ3, S3, st3, h2, h1, hE2.trans h3⟩
     | exit id => exact ⟨st3, ρ3, S3, h1, h2, hE2.trans h3⟩
     | goto l => exact ⟨st3, ρ3, S3, h1, h2, hE2.trans h3⟩
     | ret => exact ⟨st3, ρ3, S3, h1, h2, hE2.trans h3⟩
     | panic ch => exact ⟨st3, ρ3, S3, h1, h2, hE2.trans h3⟩
     | outgrown => exact ⟨st3, ρ3, S3, h1, h2, hE2.trans h3⟩
   exact key k hR h
  ·exact h.elim
 | exit id => exact fun hR h => wp_exit ⟨_, _, _, h, hR, Ext.refl _ _ _⟩
 | ret => exact fun hR h => wp_ret ⟨_, _, _, h, hR, Ext.refl _ _ _⟩
 | rangeFunc => exact fun _ h => by simp only [vcg] at h
 | scope => exact fun _ h => by simp only [vcg] at h
 | label => exact fun _ h => by simp only [vcg] at h
 | goto => exact fun _ h => by simp only [vcg] at h
 | refuse => exact fun _ h => by simp only [vcg] at h
end
end Go.Vc
namespace Go.Vc
open Go
def regR (TY : TypeId → Option TI) (C : FuncId → Option Ctr) (wr : Tmp → Bool) (ops : Array Oper) (l : List Oper) : St → (St → Prop) → Prop :=
 List.rec (motive := fun _ => St → (St → Prop) → Prop) (fun st Q => Q st)
  (fun o _ ih st Q =>
   match o.guard with
   | none => stepE TY C wr o st fun st' => ih st' Q
   | some (j, want) => match tmpOf ops j with
    | none => False
    | some t => match st.tmps[t]? with
     | some (.bool b) => (match b with
      | true => (match want with
       | true => setF (fun ts => stepE TY C wr o ⟨ts, st.heap⟩ fun st' => ih st' Q) (.bool true) st.tmps t
       | false => fcSt (st.tmps.set t (.bool true)) o.dst (.tup []) st.heap fun st' => ih st' Q)
      | false => (match want with
       | false => setF (fun ts => stepE TY C wr o ⟨ts, st.heap⟩ fun st' => ih st' Q) (.bool false) st.tmps t
       | true => fcSt (st.tmps.set t (.bool false)) o.dst (.tup []) st.heap fun st' => ih st' Q))
     | some (.tup cs) => (match cs with
      | [] => fcSt (st.tmps.set t (.tup [])) o.dst (.tup []) st.heap fun st' => ih st' Q
      | _ => False)
     | _ => False) l
theorem regR_eq {TY : TypeId → Option TI} {C : FuncId → Option Ctr} {wr : Tmp → Bool} {ops : Array Oper} : ∀ (l : List Oper), regR TY C wr ops l = regE TY C wr ops l
 | [] => by funext st Q; simp only [regE]; rfl
 | o :: rest => by
  funext st Q
  rw [regE, ← regR_eq rest]
  rfl
def textR (TY : TypeId → Option TI) (D : PT) (wr : Tmp → Bool) (ops : Array Oper) (h0 : Nat) (l : List Oper) : Nat → St → (List TE → St → Prop) → Prop :=
 List.rec (motive := fun _ => Nat → St → (List TE → St → Prop) → Prop) (fun _ st Q => Q [] st)
  (fun o _ ih j st Q =>
   match o.guard with
   | none => opD TY D (wrOf wr o) (h0 + j) o.op st.tmps st.heap fun r W R => fcSt st.tmps o.dst r (setAll st.heap W) fun st1 => ih (j + 1) st1 fun tr st' => Q (⟨o.dst, r, W, R⟩ :: tr) st'
   | some (g, want) => match tmpOf ops g with
    | none => False
    | some t => match st.tmps[t]? with
     | some (.bool b) => (match b with
      | true => (match want with
       | true => setF (fun ts => opD TY D (wrOf wr o) (h0 + j) o.op ts st.heap fun r W R => fcSt ts o.dst r (setAll st.heap W) fun st1 => ih (j + 1) st1 fun tr st' => Q (⟨o.dst, r, W, R⟩ :: tr) st') (.bool true) st.tmps t
       | false => fcSt (st.tmps.set t (.bool true)) o.dst (.tup []) st.heap fun st1 => ih (j + 1) st1 fun tr st' => Q (⟨o.dst, .tup [], [], []⟩ :: tr) st')
      | false => (match want with
       | false => setF (fun ts => opD TY D (wrOf wr o) (h0 + j) o.op ts st.heap fun r W R => fcSt ts o.dst r (setAll st.heap W) fun st1 => ih (j + 1) st1 fun tr st' => Q (⟨o.dst, r, W, R⟩ :: tr) st') (.bool false) st.tmps t
       | true => fcSt (st.tmps.set t (.bool false)) o.dst (.tup []) st.heap fun st1 => ih (j + 1) st1 fun tr st' => Q (⟨o.dst, .tup [], [], []⟩ :: tr) st'))
     | some (.tup cs) => (match cs with
      | [] => fcSt (st.tmps.set t (.tup [])) o.dst (.tup []) st.heap fun st1 => ih (j + 1) st1 fun tr st' => Q (⟨o.dst, .tup [], [], []⟩ :: tr) st'
      | _ => False)
     | _ => False) l
theorem textR_eq {TY : TypeId → Option TI} {D : PT} {wr : Tmp → Bool} {ops : Array Oper} {h0 : Nat} : ∀ (l : List Oper), textR TY D wr ops h0 l = textD TY D wr ops h0 l
 | [] => by funext j st Q; simp only [textD]; rfl
 | o :: rest => by
  funext j st Q
  rw [textD, ← textR_eq rest]
  rfl
def drawR (TY : TypeId → Option TI) (C : FuncId → Option Ctr) (D : PT) (wr : Tmp → Bool) (ops : Array Oper) (st : St) (N : St → Prop) : Prop :=
 textR TY D wr ops st.heap.length (ops.toList.take (tailK (clos [] ops.toList) ops.size)) 0 ⟨st.tmps, st.heap ++ List.replicate (tailK (clos [] ops.toList) ops.size) .dead⟩ fun tr st' =>
  okB ops (tailK (clos [] ops.toList) ops.size) tr = true ∧ regR TY C wr ops (ops.toList.drop (tailK (clos [] ops.toList) ops.size)) st' N
theorem drawR_eq {TY : TypeId → Option TI} {C : FuncId → Option Ctr} {D : PT} {wr : Tmp → Bool} {ops : Array Oper} {st : St} {N : St → Prop} : drawR TY C D wr ops st N = drawE TY C D wr ops st N := by
 unfold drawR drawE
 rw [textR_eq, regR_eq]
def iterR (f : St → (Exit → St → Prop) → Prop) (n : Nat) : St → (Exit → St → Prop) → Prop :=
 Nat.rec (motive := fun _ => St → (Exit → St → Prop) → Prop) (fun _ _ => False) (fun _ ih st Q => f st fun e st' => match e with
  | .normal => ih st' Q
  | e => Q e st') n
theorem iterR_eq {f : St → (Exit → St → Prop) → Prop} : ∀ n, iterR f n = iterE f n
 | 0 => by funext st Q; simp only [iterE]; rfl
 | n + 1 => by
  funext st Q
  rw [iterE, ← iterR_eq n]
  rfl
def vcgR (TY : TypeId → Option TI) (C : FuncId → Option Ctr) (D : PT) (wr : Tmp → Bool) (L : Nat → Option LR) (c : Code) : St → (Exit → St → Prop) → Prop :=
 Code.rec (motive := fun _ => St → (Exit → St → Prop) → Prop)
  (fun st Q => Q .normal st)
  (fun id ops draw st Q => (match draw with
   | false => regR TY C wr ops ops.toList st (Q .normal)
   | true => (match L id with
    | some (.order l) => drawQ TY C wr ops l st (Q .normal)
    | _ => drawR TY C D wr ops st (Q .normal))))
  (fun _ _ ix iy st Q => ix st fun e st' => match e with
   | .normal => iy st' Q
   | e => Q e st')
  (fun c _ _ ix iy st Q => (match evO st.tmps c with
   | .bool b => (match b with
    | true => ix st Q
    | false => iy st Q)
   | _ => False))
  (fun id _ ic st Q => ic st fun e st' => match e with
   | .exit id' => (match decide (id' = id) with | true => Q .normal st' | false => Q (.exit id') st')
   | e => Q e st')
  (fun c ic st Q => (match (firstReg c).bind L with
   | some (.inv s) => atHead st.heap.length st.tmps.length s st s.ok ∧ ∀ x, s.ok x → fcAll (headSt st.tmps.length s x) fun st1 => ic st1 fun e st' => match e with
    | .normal => atHead st.heap.length st.tmps.length s st' fun y => s.ok y ∧ s.μ y < s.μ x
    | e => Q e st'
   | some (.unroll k) => iterR ic k st Q
   | _ => False))
  (fun _ _ _ _ _ _ _ _ => False)
  (fun id st Q => Q (.exit id) st)
  (fun _ _ _ _ => False)
  (fun _ _ _ => False)
  (fun _ _ _ => False)
  (fun st Q => Q .ret st)
  (fun _ _ _ => False) c
theorem vcgR_eq {TY : TypeId → Option TI} {C : FuncId → Option Ctr} {D : PT} {wr : Tmp → Bool} {L : Nat → Option LR} : ∀ (c : Code), vcgR TY C D wr L c = vcg TY C D wr L c := by
 intro c
 induction c with
 | skip => funext st Q; simp only [vcg]; rfl
 | region id ops draw =>
  funext st Q
  simp only [vcg]
  show (match draw with
   | false => regR TY C wr ops ops.toList st (Q .normal)
   | true => (match L id with
    | some (.order l) => drawQ TY C wr ops l st (Q .normal)
    | _ => drawR TY C D wr ops st (Q .normal))) = _
  cases draw
  ·simp only [regR_eq]
  ·simp only [drawR_eq]
   all_goals (rcases L id with _ | (_ | _ | _) <;> rfl)
 | seq x y ix iy => funext st Q; rw [vcg, ← ix, ← iy]; rfl
 | cond c x y ix iy => funext st Q; rw [vcg, ← ix, ← iy]; rfl
 | block id c ic => funext st Q; rw [vcg, ← ic]; rfl
 | loop c ic =>
  funext st Q
  rw [vcg, ← ic, show @iterE = @iterR from funext fun f => funext fun n => (iterR_eq n).symm]
  rfl
 | rangeFunc => funext st Q; simp only [vcg]; rfl
 | exit id => funext st Q; simp only [vcg]; rfl
 | scope => funext st Q; simp only [vcg]; rfl
 | label => funext st Q; simp only [vcg]; rfl
 | goto => funext st Q; simp only [vcg]; rfl
 | ret => funext st Q; simp only [vcg]; rfl
 | refuse => funext st Q; simp only [vcg]; rfl
end Go.Vc
namespace Go.Vc
open Go
mutual
def factA : AV → Prop
 | .int k n => inK k n
 | .str l => l.length ≤ 9223372036854775807
 | .sl _ sz len get => len ≤ 9223372036854775807 ∧ ∀ e, e < len → (get e).length = sz ∧ factL (get e)
 | .rptr cs _ => factL cs
 | .agg cs => factL cs
 | .tup cs => factL cs
 | .fn _ cs => factL cs
 | .iface _ v => factA v
 | _ => True
def factL : List AV → Prop
 | [] => True
 | c :: cs => factA c ∧ factL cs
end
theorem factL_of : ∀ {cs : List AV}, (∀ (i : Nat) (c : AV), cs[i]? = some c → factA c) → factL cs
 | [], _ => by simp only [factL]
 | c :: cs, h => by
  simp only [factL]
  exact ⟨h 0 c rfl, factL_of fun i c hc => h (i + 1) c (by simpa using hc)⟩
section
variable {F : Nat → Obj → Prop} {P : Program} {TY : TypeId → Option TI} {C : FuncId → Option Ctr} {D : PT} {wr : Tmp → Bool} {ρ : Nat → Option Nat} {S : Nat → Prop} {w : World}
theorem V.fact {a : AV} {v : Value} (h : V ρ S w a v) : factA a := by
 have mx : maxLen = 9223372036854775807 := by rw [maxLen_eq]
 induction h with
 | int k n h1 h2 => simp only [factA]; exact ⟨lo_eq _ ▸ h1, hi_eq _ ▸ h2⟩
 | str l s h1 h2 => simp only [factA]; omega
 | sln clip sz get ao => simp only [factA]; exact ⟨Nat.zero_le _, fun e he => by omega⟩
 | sl clip sz len get b o cap f hs hl hm hcl hz hc hv ih =>
  simp only [factA]
  exact ⟨by omega, fun e he => ⟨hz e he, factL_of fun j c hc' => ih e j c he hc'⟩⟩
 | rptr cs j b o f hs hb hc hv ih => simp only [factA]; exact factL_of fun i c hc' => ih i c hc'
 | agg cs vs hl hv ih =>
  simp only [factA]
  refine factL_of fun i c hc => ?_
  have : i < vs.size := by
   rcases Nat.lt_or_ge i cs.length with h' | h'
   ·omega
   ·rw [List.getElem?_eq_none h'] at hc; cases hc
  exact ih i c vs[i] hc (by simp [this])
 | tup cs vs hl hv ih =>
  simp only [factA]
  refine factL_of fun i c hc => ?_
  have : i < vs.size := by
   rcases Nat.lt_or_ge i cs.length with h' | h'
   ·omega
   ·rw [List.getElem?_eq_none h'] at hc; cases hc
  exact ih i c vs[i] hc (by simp [this])
 | fn f cs vs hl hv ih =>
  simp only [factA]
  refine factL_of fun i c hc => ?_
  have : i < vs.size := by
   rcases Nat.lt_or_ge i cs.length with h' | h'
   ·omega
   ·rw [List.getElem?_eq_none h'] at hc; cases hc
  exact ih i c vs[i] hc (by simp [this])
 | iface t a v hv ih => simp only [factA]; exact ih
 | _ => simp only [factA]
theorem VL.fact {cs : List AV} {vs : Array Value} (h : VL ρ S w cs vs) : factL cs :=
 factL_of fun i c hc => by
  have : i < vs.size := by
   have := h.1
   rcases Nat.lt_or_ge i cs.length with h' | h'
   ·omega
   ·rw [List.getElem?_eq_none h'] at hc; cases hc
  exact (h.2 i c vs[i] hc (by simp [this])).fact
def resE (TY : TypeId → Option TI) (st : St) : List ResultVar → (List AV → Prop) → Prop
 | [], K => K []
 | .tmp t :: rs, K => resE TY st rs fun cs => K (st.tmps.getD t .any :: cs)
 | .cell a t :: rs, K => loadPA TY t (st.tmps.getD a .any) st.heap fun c => resE TY st rs fun cs => K (c :: cs)
def resOut : List AV → AV
 | [c] => c
 | cs => .tup cs
def resM (tmps : Array Value) : ResultVar → Sem Value
 | .tmp t => pure (tmps.getD t undef)
 | .cell a t => do loadVar t (← asAddr (tmps.getD a undef))
theorem resE_ok (hTY : TyOk P TY) {st : St} {a : Act} (hR : RelX F ρ S st a w) : ∀ (rs : List ResultVar) (K : List AV → Prop), resE TY st rs K →
  ∃ (vs : List Value) (cs : List AV), (rs.mapM (resM a.tmps)).run P w = .ok vs w ∧ K cs ∧ cs.length = vs.length ∧ ∀ (i : Nat) (c : AV) (v : Value), cs[i]? = some c → vs[i]? = some v → V ρ S w c v
 | [], K, h => ⟨[], [], by simp, h, rfl, fun i c v hc => by simp at hc⟩
 | .tmp t :: rs, K, h => by
  obtain ⟨vs, cs, h1, h2, h3, h4⟩ := resE_ok hTY hR rs _ h
  refine ⟨a.tmps.getD t undef :: vs, st.tmps.getD t .any :: cs, by simp only [List.mapM_cons, resM, Sem.run_bind, Sem.run_pure, Result.andThen_ok, h1], h2, by simp [h3], fun i c v hc hv => ?_⟩
  cases i with
  | zero => simp only [List.getElem?_cons_zero, Option.some.injEq] at hc hv; subst hc; subst hv; exact hR.tmps.eval (.tmp t)
  | succ i => exact h4 i c v (by simpa using hc) (by simpa using hv)
 | .cell x t :: rs, K, h => by
  rw [resE] at h
  have hx : V ρ S w (st.tmps.getD x .any) (a.tmps.getD x undef) := hR.tmps.eval (.tmp x)
  obtain ⟨v0, c0, g1, g2, g3⟩ := loadPA_sound hTY hR.heap hx h
  have g1' : (do loadVar t (← asAddr (a.tmps.getD x undef)) : Sem Value).run P w = .ok v0 w := by
   unfold Instr.loadAt at g1
   have e : ∀ u : Value, (∃ ad, u = .pointer (some ad)) → (do loadVar t (← asAddr u) : Sem Value).run P w = (do loadVar t (← Instr.sureAddr u) : Sem Value).run P w := by
    rintro u ⟨ad, rfl⟩; simp [asAddr, Instr.sureAddr]
   rw [e]
   ·exact g1
   ·unfold loadPA at h
    split at h
    ·exact h.elim
    ·split at h
     ·rename_i heq; rw [heq] at hx; obtain ⟨b, he, _⟩ := hx.ptrR; exact ⟨_, he⟩
     ·rename_i heq; rw [heq] at hx; obtain ⟨b, he, _⟩ := hx.eptrR; exact ⟨_, he⟩
     ·rename_i heq; rw [heq] at hx
      generalize a.tmps.getD x undef = u at hx
      cases hx; exact ⟨_, rfl⟩
     ·exact h.elim
  obtain ⟨vs, cs, h1, h2, h3, h4⟩ := resE_ok hTY hR rs _ g2
  refine ⟨v0 :: vs, c0 :: cs, by simp only [List.mapM_cons, resM, Sem.run_bind, g1', Result.andThen_ok, h1, Sem.run_pure], h2, by simp [h3], fun i c v hc hv => ?_⟩
  cases i with
  | zero => simp only [List.getElem?_cons_zero, Option.some.injEq] at hc hv; subst hc; subst hv; exact g3
  | succ i => exact h4 i c v (by simpa using hc) (by simpa using hv)
theorem results_ok (hTY : TyOk P TY) {fn : Func} {st : St} {a : Act} (hR : RelX F ρ S st a w) {K : List AV → Prop} (h : resE TY st fn.results.toList K) :
  ∃ v cs, (results fn a.tmps).run P w = .ok v w ∧ K cs ∧ V ρ S w (resOut cs) v := by
 obtain ⟨vs, cs, h1, h2, h3, h4⟩ := resE_ok hTY hR _ _ h
 have e : results fn a.tmps = (do let vs ← fn.results.mapM (resM a.tmps); pure (if h : vs.size = 1 then vs[0] else .tuple vs)) := by
  unfold results
  congr 2
 have hm : (fn.results.mapM (resM a.tmps)).run P w = .ok vs.toArray w := by
  rw [Array.mapM_eq_mapM_toList]
  simp [h1]
 refine ⟨if h : vs.toArray.size = 1 then vs.toArray[0] else .tuple vs.toArray, cs, ?_, h2, ?_⟩
 ·rw [e, Sem.run_bind, hm]
  simp
 ·match cs, vs, h3, h4 with
  | [], [], _, _ => exact .tup _ _ (by simp) (fun i c v hc => by simp at hc)
  | [c], [v], _, h4 => exact h4 0 c v rfl rfl
  | c :: c' :: cs, v :: v' :: vs, h3, h4 =>
   have : ¬ (v :: v' :: vs).toArray.size = 1 := by simp
   rw [dif_neg this]
   exact .tup _ _ (by simpa using h3) (fun i c v hc hv => h4 i c v hc (by simpa using hv))
def retE (TY : TypeId → Option TI) (rs : List ResultVar) (Q : AV → List Blk → Prop) (st : St) : Prop := resE TY st rs fun cs => Q (resOut cs) st.heap
def fnE (TY : TypeId → Option TI) (C : FuncId → Option Ctr) (D : PT) (wr : Tmp → Bool) (L : Nat → Option LR) (fn : Func) (args : List AV) (H : List Blk) (Q : AV → List Blk → Prop) : Prop :=
 match fn.body with
 | none => False
 | some c => fcAll ⟨args ++ List.replicate (fn.ntmps - args.length) .any, H⟩ fun st0 => vcgR TY C D wr L c st0 fun e st => match e with
  | .normal => retE TY fn.results.toList Q st
  | .ret => retE TY fn.results.toList Q st
  | _ => False
theorem fnE_calls (hm : P.follows .mixedOrders = true) (hTY : TyOk P TY) (hD : PTOk F P D) (hC : CtrOk F P C) {L : Nat → Option LR} {f : FuncId} {fn : Func} (hf : P.funcs[f]? = some fn) (hs : Sok F S w) {H : List Blk} (hH : HRel ρ S w H)
  {cs : List AV} {vs : Array Value} (hv : VL ρ S w cs vs) {Q : AV → List Blk → Prop} (h : fnE TY C D wr L fn cs H Q) :
  Calls P f vs w fun e w' => ∃ v c H' ρ' S', e = .returned v ∧ Q c H' ∧ V ρ' S' w' c v ∧ HRel ρ' S' w' H' ∧ Ext ρ S w ρ' S' w' ∧ Sok F S' w' := by
 unfold fnE at h
 split at h
 ·exact h.elim
 ·rename_i c hb
  rw [fcAll_eq, vcgR_eq] at h
  have hR : RelX F ρ S ⟨cs ++ List.replicate (fn.ntmps - cs.length) .any, H⟩ { tmps := vs ++ Array.replicate (fn.ntmps - vs.size) undef, defers := [] } w := by
   refine ⟨⟨rfl, ⟨by simp [hv.1], fun i c v hc hv' => ?_⟩, hH⟩, hs⟩
   by_cases hlt : i < cs.length
   ·rw [List.getElem?_append_left hlt] at hc
    rw [Array.getElem?_append_left (by have := hv.1; omega)] at hv'
    exact hv.2 i c v hc hv'
   ·rw [List.getElem?_append_right (by omega), List.getElem?_replicate] at hc
    split at hc
    ·cases hc; exact .any _
    ·cases hc
  refine calls_of_wp hf hb (wp_mono (vcg_sound hm hTY hD hC c hR h) ?_)
  rintro e a' w' ⟨st', ρ', S', h1, h2, h3⟩
  have fin : retE TY fn.results.toList Q st' → a'.defers = [] ∧ ∃ v, (results fn a'.tmps).run P w' = .ok v w' ∧ ∃ v_1 c H' ρ' S', Ending.returned v = .returned v_1 ∧ Q c H' ∧ V ρ' S' w' c v_1 ∧ HRel ρ' S' w' H' ∧ Ext ρ S w ρ' S' w' ∧ Sok F S' w' := by
   intro h1
   obtain ⟨v, cs, g1, g2, g3⟩ := results_ok hTY h2 h1
   exact ⟨h2.defers, v, g1, v, _, _, ρ', S', rfl, g2, g3, h2.heap, h3, h2.sok⟩
  cases e with
  | normal => exact fin h1
  | ret => exact fin h1
  | exit id => exact h1.elim
  | goto l => exact h1.elim
  | panic ch => exact h1.elim
  | outgrown => exact h1.elim
theorem good_of_fnE (hm : P.follows .mixedOrders = true) (hTY : TyOk P TY) (hD : PTOk F P D) (hC : CtrOk F P C) {f : FuncId} {fn : Func} (hf : P.funcs[f]? = some fn) {K : Ctr} (L : List AV → List Blk → Nat → Option LR)
  (h : ∀ cs H Q, factL cs → K cs H Q → fnE TY C D wr (L cs H) fn cs H Q) : Good F P f K :=
 fun _ _ _ _ _ _ _ hs hH hv hK => fnE_calls hm hTY hD hC hf hs hH hv (h _ _ _ hv.fact hK)
def expE (H : List Blk) (c : AV) (Q : AV → Prop) : Prop := frzE H c fun c' _ => Q c'
def isA (r c : AV) : Prop := match r.under 0 with
 | true => leA (fun i => i) c r
 | false => False
theorem goodP_of_fnE (hm : P.follows .mixedOrders = true) (hTY : TyOk P TY) (hD : PTOk F P D) (hC : CtrOk F P C) {f : FuncId} {fn : Func} (hf : P.funcs[f]? = some fn) {pc : PC} (L : List AV → Nat → Option LR)
  (h : ∀ cs Q, factL cs → pc.T cs Q → ∃ r, Q r ∧ fnE TY C D wr (L cs) fn cs [] (fun c H' => expE H' c (isA r))) : GoodP F P f pc := by
 intro S w cs vs Q hs hv hpre
 have hH : HRel (fun _ => none) S w [] := ⟨fun i j bi bj b hi => by simp at hi, fun i b hi => by simp at hi, fun i b hi => by cases hi⟩
 obtain ⟨r, hQ, hfn⟩ := h cs Q hv.fact hpre
 refine (fnE_calls hm hTY hD hC hf hs hH hv hfn).mono ?_
 rintro e w' ⟨v, c, H', ρ', S', rfl, h1, h2, h3, h4, h5⟩
 obtain ⟨c', ids, h6, h7, h8⟩ := frzE_spec h3 h1 h2
 unfold isA at h6
 split at h6
 ·rename_i hu
  refine ⟨v, r, addS ρ' S' ids, rfl, hQ, h7.le (σ := fun i => i) (n := 0) (fun i b hi => by omega) h6 hu, ⟨fun _ _ h => (by cases h), fun b hb => .inl (h4.st b hb), h4.same, h4.size, h4.shp, fun _ _ h => (by cases h), fun b hb => ?_, h4.os, h4.tape, h4.output⟩, addS_sok h3 h5 ids⟩
  rcases hb with hb | ⟨i, _, hb⟩
  ·rcases h4.stf b hb with h9 | ⟨j, h9⟩ | h9
   ·exact .inl h9
   ·cases h9
   ·exact .inr (.inr h9)
  ·rcases h4.fresh i b hb with ⟨j, h9⟩ | h9
   ·cases h9
   ·exact .inr (.inr h9)
 ·exact h6.elim
def PC.of {α : Type} (args : α → List AV) (pre : α → Prop) (res : α → AV) : PC := {
 T cs Q := ∃ x, pre x ∧ leL (fun i => i) cs (args x) ∧ Q (res x)
 det cs N h := by obtain ⟨x, h1, h2, h3⟩ := h; exact ⟨res x, h3, x, h1, h2, rfl⟩ }
end
end Go.Vc
namespace Go.Vc
open Go
inductive TT where
 | leaf (n : Nat) (o : Option TI)
 | node (n : Nat) (l r : TT)
def TT.look : TT → Nat → Option TI
 | .leaf n o, t => (match Nat.beq t n with | true => o | false => none)
 | .node n l r, t => (match Nat.blt t n with | true => l.look t | false => r.look t)
def TT.All (P : Program) : TT → Prop
 | .leaf n o => tiOf P n = o
 | .node _ l r => l.All P ∧ r.All P
theorem TT.ok {P : Program} {t : TT} (h : t.All P) : TyOk P t.look := by
 induction t with
 | leaf n o =>
  intro x i hi
  simp only [TT.look] at hi
  split at hi
  ·rename_i hb
   have := Nat.eq_of_beq_eq_true hb
   subst this
   rw [show tiOf P x = o from h, hi]
  ·cases hi
 | node n l r ihl ihr =>
  intro x i hi
  simp only [TT.look] at hi
  split at hi
  ·exact ihl h.1 x i hi
  ·exact ihr h.2 x i hi
end Go.Vc
namespace Go.Vc
open Go
def tabD : List (FuncId × PC) → PT
 | [], _ => none
 | (g, pc) :: l, f => (match Nat.beq f g with | true => some pc | false => tabD l f)
theorem tabD_nil {F : Nat → Obj → Prop} {P : Program} : PTOk F P (tabD []) := fun _ _ h => by cases h
theorem tabD_cons {F : Nat → Obj → Prop} {P : Program} {g : FuncId} {pc : PC} {l : List (FuncId × PC)} (he : Ent P g) (hg : GoodP F P g pc) (h : PTOk F P (tabD l)) : PTOk F P (tabD ((g, pc) :: l)) := by
 intro f pc' hf
 simp only [tabD] at hf
 split at hf
 ·rename_i hb
  obtain rfl := Nat.eq_of_beq_eq_true hb
  cases hf
  exact ⟨he, hg⟩
 ·exact h f pc' hf
def tabC (D : PT) : List (FuncId × Ctr) → FuncId → Option Ctr
 | [], f => (match D f with | some pc => some (pureK pc) | none => none)
 | (g, K) :: l, f => (match Nat.beq f g with | true => some K | false => tabC D l f)
theorem tabC_nil {F : Nat → Obj → Prop} {P : Program} {D : PT} (h : PTOk F P D) : CtrOk F P (tabC D []) := by
 intro f K hf
 simp only [tabC] at hf
 split at hf
 ·rename_i pc hpc
  cases hf
  obtain ⟨h1, h2⟩ := h f pc hpc
  exact ⟨h1, good_of_goodP h2⟩
 ·cases hf
theorem tabC_cons {F : Nat → Obj → Prop} {P : Program} {D : PT} {g : FuncId} {K : Ctr} {l : List (FuncId × Ctr)} (he : Ent P g) (hg : Good F P g K) (h : CtrOk F P (tabC D l)) : CtrOk F P (tabC D ((g, K) :: l)) := by
 intro f K' hf
 simp only [tabC] at hf
 split at hf
 ·rename_i hb
  obtain rfl := Nat.eq_of_beq_eq_true hb
  cases hf
  exact ⟨he, hg⟩
 ·exact h f K' hf
def inl0 (TY : TypeId → Option TI) (C : FuncId → Option Ctr) (D : PT) (wr : Tmp → Bool) (L : List AV → List Blk → Nat → Option LR) (fn : Func) : Ctr := fun cs H Q => fnE TY C D wr (L cs H) fn cs H Q
noncomputable def inl : (TypeId → Option TI) → (FuncId → Option Ctr) → PT → (Tmp → Bool) → (List AV → List Blk → Nat → Option LR) → Func → Ctr := Classical.choose (⟨inl0, rfl⟩ : ∃ f, f = inl0)
theorem inl_eq : inl = inl0 := Classical.choose_spec (⟨inl0, rfl⟩ : ∃ f, f = inl0)
attribute [irreducible] inl
theorem inl_intro {TY : TypeId → Option TI} {C : FuncId → Option Ctr} {D : PT} {wr : Tmp → Bool} {L : List AV → List Blk → Nat → Option LR} {fn : Func} {cs : List AV} {H : List Blk} {Q : AV → List Blk → Prop} (h : fnE TY C D wr (L cs H) fn cs H Q) : inl TY C D wr L fn cs H Q := by
 rw [inl_eq]; exact h
theorem good_inl {F : Nat → Obj → Prop} {P : Program} {TY : TypeId → Option TI} {C : FuncId → Option Ctr} {D : PT} {wr : Tmp → Bool} (hm : P.follows .mixedOrders = true) (hTY : TyOk P TY) (hD : PTOk F P D) (hC : CtrOk F P C) {f : FuncId} {fn : Func} (hf : P.funcs[f]? = some fn) (L : List AV → List Blk → Nat → Option LR) :
  Good F P f (inl TY C D wr L fn) := good_of_fnE hm hTY hD hC hf L fun _ _ _ _ h => by rw [inl_eq] at h; exact h
end Go.Vc
