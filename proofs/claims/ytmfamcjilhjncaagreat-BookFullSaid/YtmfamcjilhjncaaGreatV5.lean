/- Regions that draw their order, eight: such a region, whatever order is drawn. -/
import Derived.Test.YtmfamcjilhjncaaGreatV4
set_option linter.all false
namespace Go.Vc
open Go
noncomputable section
section
variable {F : Nat → Obj → Prop} {P : Program} {TY : TypeId → Option TI} {C : FuncId → Option Ctr} {D : PT} {wr : Tmp → Bool} {ops : Array Oper} {cl fl : List Nat} {ρ : Nat → Option Nat} {S : Nat → Prop} {w0 w : World} {ds : List Deferred} {Fe : Fence} {dn : Nat}
theorem okPairs_spec : ∀ {l : List Nat}, okPairs ops cl fl l = true → ∀ (p q i j : Nat), p < q → l[p]? = some i → l[q]? = some j → pairOk ops cl fl i j = true ∧ i ≠ j
  | [], _, p, q, i, j, _, hp, _ => by simp at hp
  | x :: l, h, p, q, i, j, hpq, hp, hq => by
    simp only [okPairs, Bool.and_eq_true, Bool.not_eq_true'] at h
    obtain ⟨h1, h2, h3⟩ := h
    obtain ⟨q, rfl⟩ : ∃ q', q = q' + 1 := ⟨q - 1, by omega⟩
    simp only [List.getElem?_cons_succ] at hq
    cases p with
    | zero =>
      simp at hp
      subst hp
      refine ⟨List.all_eq_true.1 h1 j (List.mem_of_getElem? hq), ?_⟩
      rintro rfl
      have := List.mem_of_getElem? hq
      rw [← List.contains_iff_mem] at this
      rw [this] at h2; cases h2
    | succ p => exact okPairs_spec h3 p q i j (by omega) (by simpa using hp) hq
theorem ov_pre {α : Type} {Dn Dn' : Nat → Bool} (ws ws' : List (List (Nat × α))) (b : List α) (h : ∀ m, m < ws.length → Dn m = Dn' m) (h2 : ∀ m, ws.length ≤ m → Dn m = false) : ov Dn 0 (ws ++ ws') b = ov Dn' 0 ws b := by
  rw [ov_app, ov_off _ _ _ (fun m hm => h2 m (by omega))]
  exact ov_same _ _ _ fun m hm => by rw [Nat.zero_add]; exact h m hm
theorem ov_offL {α : Type} {Dn : Nat → Bool} : ∀ (ws : List (List (Nat × α))) (i : Nat) (b : List α), (∀ m, i ≤ m → m < i + ws.length → Dn m = false) → ov Dn i ws b = b
  | [], _, _, _ => rfl
  | w :: ws, i, b, h => by rw [ov, h i (Nat.le_refl _) (by simp)]; exact ov_offL ws (i + 1) b fun m hm hl => h m (by omega) (by simp; omega)
theorem GuardQ.step {pend pend2 : List PE} {o : Oper} {j : Nat} {te : TE} {ts : List AV} {H H' : List Blk} (ho : ops[j]? = some o) (hp : ∀ pe ∈ pend, pe ∈ pend2)
    (hn : H' = H ∨ ∀ pe ∈ pend, pe.i = j → ∃ o, ops[pe.i]? = some o ∧ opQ TY (wrOf wr o) o.op pe.ts H' (fun r => r = pe.r)) (h : GuardQ TY wr ops pend o j te ts H) : GuardQ TY wr ops pend2 o j te ts H' := by
  rcases hn with rfl | hn
  · exact h.mono hp
  · have runs : ⟨j, ts, te.r⟩ ∈ pend → RunsQ TY wr o te.r ts H' := fun hm => by
      obtain ⟨o', h1, h2⟩ := hn _ hm rfl
      simp only [ho] at h1
      cases h1
      exact fun ts' hx => opQ_congr hx h2
    unfold GuardQ at h ⊢
    split at h
    · exact ⟨runs h.2, hp _ h.2⟩
    · obtain ⟨t, c, h1, h2, h3⟩ := h
      refine ⟨t, c, h1, h2, ?_⟩
      rcases h3 with ⟨h4, h5, h6⟩ | h4
      · exact .inl ⟨h4, runs h6, hp _ h6⟩
      · exact .inr h4
theorem pairOk_spec {i j : Nat} (h : pairOk ops cl fl i j = true) : hasAnc cl i j = false ∧ (hasAnc cl j i = true ∨ ((effAt ops i = false ∨ fl.contains j = true) ∧ ∀ oi oj, ops[i]? = some oi → ops[j]? = some oj → conflT ops oi oj = false)) := by
  unfold pairOk at h
  simp only [Bool.and_eq_true, Bool.or_eq_true, Bool.not_eq_true'] at h
  refine ⟨h.1, ?_⟩
  rcases h.2 with h1 | ⟨h1, h2⟩
  · exact .inl h1
  · refine .inr ⟨h1, fun oi oj hi hj => ?_⟩
    rw [hi, hj] at h2
    simpa using h2
theorem okG_spec : ∀ {l fs : List Nat}, okG ops cl fl l fs = true →
    (∀ (p q f e : Nat), l[p]? = some f → fl.contains f = true → p < q → l[q]? = some e → fl.contains e = false → (∀ (m g : Nat), p < m → m < q → l[m]? = some g → fl.contains g = true) → effAt ops e = true ∧ hasAnc cl e f = true) ∧
    (∀ f ∈ fs, ∀ (q e : Nat), l[q]? = some e → fl.contains e = false → (∀ (m g : Nat), m < q → l[m]? = some g → fl.contains g = true) → effAt ops e = true ∧ hasAnc cl e f = true)
  | [], fs, _ => ⟨fun p q f e h => by simp at h, fun f _ q e h => by simp at h⟩
  | j :: l, fs, h => by
    cases hj : fl.contains j with
    | true =>
      unfold okG at h
      rw [hj] at h
      obtain ⟨h1, h2⟩ := okG_spec h
      refine ⟨fun p q f e hp hf hpq hq he hm => ?_, fun f hf q e hq he hm => ?_⟩
      · obtain ⟨q, rfl⟩ : ∃ q', q = q' + 1 := ⟨q - 1, by omega⟩
        simp only [List.getElem?_cons_succ] at hq
        cases p with
        | zero =>
          simp at hp
          subst hp
          exact h2 _ List.mem_cons_self q e hq he fun m g hmq hg => hm (m + 1) g (by omega) (by omega) (by simpa using hg)
        | succ p => exact h1 p q f e (by simpa using hp) hf (by omega) hq he fun m g h3 h4 hg => hm (m + 1) g (by omega) (by omega) (by simpa using hg)
      · cases q with
        | zero =>
          simp at hq
          subst hq
          rw [hj] at he; cases he
        | succ q => exact h2 f (List.mem_cons_of_mem _ hf) q e (by simpa using hq) he fun m g h3 hg => hm (m + 1) g (by omega) (by simpa using hg)
    | false =>
      have key : okG ops cl fl l [] = true ∧ ∀ f ∈ fs, effAt ops j = true ∧ hasAnc cl j f = true := by
        unfold okG at h
        rw [hj] at h
        cases fs with
        | nil => exact ⟨h, fun f hf => by cases hf⟩
        | cons g gs =>
          simp only [Bool.and_eq_true] at h
          exact ⟨h.2.2, fun f hf => ⟨h.1, List.all_eq_true.1 h.2.1 f hf⟩⟩
      obtain ⟨h1, _⟩ := okG_spec key.1
      refine ⟨fun p q f e hp hf hpq hq he hm => ?_, fun f hf q e hq he hm => ?_⟩
      · obtain ⟨q, rfl⟩ : ∃ q', q = q' + 1 := ⟨q - 1, by omega⟩
        simp only [List.getElem?_cons_succ] at hq
        cases p with
        | zero =>
          simp at hp
          subst hp
          rw [hj] at hf; cases hf
        | succ p => exact h1 p q f e (by simpa using hp) hf (by omega) hq he fun m g h3 h4 hg => hm (m + 1) g (by omega) (by omega) (by simpa using hg)
      · cases q with
        | zero =>
          simp at hq
          subst hq
          exact key.2 f hf
        | succ q =>
          have := hm 0 j (by omega) (by simp)
          rw [hj] at this; cases this
/-- What is known of the order. -/
structure StatQ (ops : Array Oper) (l fl : List Nat) : Prop where
  lt : ∀ j ∈ l, j < ops.size
  mem : ∀ j, j < ops.size → j ∈ l
  pairs : ∀ (p q i j : Nat), p < q → l[p]? = some i → l[q]? = some j → pairOk ops (clos [] ops.toList) fl i j = true ∧ i ≠ j
  f1 : ∀ j, fl.contains j = true → ∃ o d, ops[j]? = some o ∧ fltOp o.op = true ∧ o.guard = none ∧ o.dst = some d ∧ ∀ x ox, x ≠ j → ops[x]? = some ox → ox.dst ≠ some d
  ff : ∀ j f, fl.contains j = true → fl.contains f = true → hasAnc (clos [] ops.toList) j f = true → ∃ e, effAt ops e = true ∧ fl.contains e = false ∧ hasAnc (clos [] ops.toList) e f = true ∧ hasAnc (clos [] ops.toList) j e = true
  grp : ∀ (p q f e : Nat), l[p]? = some f → fl.contains f = true → p < q → l[q]? = some e → fl.contains e = false → (∀ (m g : Nat), p < m → m < q → l[m]? = some g → fl.contains g = true) → effAt ops e = true ∧ hasAnc (clos [] ops.toList) e f = true
theorem StatQ.of {l : List Nat} (h : okQ ops l fl = true) : okBack ops = true ∧ StatQ ops l fl := by
  unfold okQ at h
  simp only [Bool.and_eq_true] at h
  obtain ⟨hback, hlen, hall, hpairs, hfl⟩ := h
  unfold okFl at hfl
  simp only [Bool.and_eq_true] at hfl
  obtain ⟨h1, h2, h3⟩ := hfl
  refine ⟨hback, fun j hj => by simpa using List.all_eq_true.1 hall j hj, fun j hj => ?_, okPairs_spec hpairs, fun j hj => ?_, fun j f hj hf ha => ?_, (okG_spec h2).1⟩
  · have := List.all_eq_true.1 hlen j (List.mem_range.2 hj)
    rwa [List.contains_iff_mem] at this
  · have := List.all_eq_true.1 h1 j (by rwa [List.contains_iff_mem] at hj)
    unfold okF1 at this
    split at this
    · rename_i o ho
      simp only [Bool.and_eq_true] at this
      obtain ⟨k1, k2, k3⟩ := this
      split at k3
      · rename_i d hd
        refine ⟨o, d, ho, k1, by simpa using k2, hd, fun x ox hx hox hdx => ?_⟩
        have := List.all_eq_true.1 k3 x (List.mem_range.2 (Array.getElem?_eq_some_iff.1 hox).1)
        rw [hox] at this
        simp only [hdx] at this
        simp [hx] at this
      · cases k3
    · cases this
  · unfold okFF at h3
    have := List.all_eq_true.1 h3 j (by rwa [List.contains_iff_mem] at hj)
    have := List.all_eq_true.1 this f (by rwa [List.contains_iff_mem] at hf)
    rw [ha] at this
    simp only [Bool.not_true, Bool.false_or] at this
    obtain ⟨e, _, he⟩ := List.any_eq_true.1 this
    simp only [Bool.and_eq_true, Bool.not_eq_true'] at he
    exact ⟨e, he.1, he.2.1, he.2.2.1, he.2.2.2⟩
theorem StatQ.nodup {l : List Nat} (h : StatQ ops l fl) (p q i : Nat) (hp : l[p]? = some i) (hq : l[q]? = some i) : p = q := by
  rcases Nat.lt_trichotomy p q with h1 | h1 | h1
  · exact absurd rfl (h.pairs p q i i h1 hp hq).2
  · exact h1
  · exact absurd rfl (h.pairs q p i i h1 hq hp).2
theorem StatQ.apart {l pre rest : List Nat} (h : StatQ ops l fl) (hl : l = pre ++ rest) {i j : Nat} (hi : i ∈ pre) (hj : j ∈ rest) : ∃ p q : Nat, p < q ∧ l[p]? = some i ∧ l[q]? = some j := by
  obtain ⟨p, hp⟩ := List.getElem?_of_mem hi
  obtain ⟨q, hq⟩ := List.getElem?_of_mem hj
  have hpl := (List.getElem?_eq_some_iff.1 hp).1
  refine ⟨p, pre.length + q, by omega, by rw [hl, List.getElem?_append_left hpl]; exact hp, by rw [hl, List.getElem?_append_right (by omega)]; simpa using hq⟩
theorem StatQ.disj {l pre rest : List Nat} (h : StatQ ops l fl) (hl : l = pre ++ rest) {i : Nat} (hi : i ∈ pre) (hj : i ∈ rest) : False := by
  obtain ⟨p, q, h1, h2, h3⟩ := h.apart hl hi hj
  exact (h.pairs p q i i h1 h2 h3).2 rfl
structure InvQ (F : Nat → Obj → Prop) (ds : List Deferred) (TY : TypeId → Option TI) (C : FuncId → Option Ctr) (wr : Tmp → Bool) (ops : Array Oper) (l fl : List Nat) (ρ : Nat → Option Nat) (S : Nat → Prop) (w0 : World) (ts0 : List AV) (N : St → Prop) (listed : Array Bool) (a : Act) (w : World)
    (pre rest : List Nat) (tr : List TE) (pend : List PE) (H : List Blk) (ρ' : Nat → Option Nat) (S' : Nat → Prop) (bf : Nat → Nat) : Prop where
  all : l = pre ++ rest
  len : tr.length = pre.length
  inp : ∀ j, listed.getD j false = true → j ∈ pre ∨ fl.contains j = true
  eff : ∀ j ∈ pre, effAt ops j = true → listed.getD j false = true
  run : runQ TY C wr ops (clos [] ops.toList) fl rest pend ⟨ov (fun _ => true) 0 (tr.map TE.T) ts0, H⟩ N
  rel : RelX F ds ρ' S' ⟨ov (fun p => listed.getD (pre.getD p 0) false) 0 (tr.map TE.T) ts0, H⟩ a w
  ext : Ext ρ S w0 ρ' S' w
  stp : ∀ (p j : Nat) o te, pre[p]? = some j → ops[j]? = some o → tr[p]? = some te → te.dst = o.dst ∧ (listed.getD j false = false → GuardQ TY wr ops pend o j te (ov (fun m => decide (m < p)) 0 (tr.map TE.T) ts0) H)
  early : ∀ j o d, listed.getD j false = true → j ∉ pre → ops[j]? = some o → o.dst = some d → ∃ val B v, (∀ v', a.tmps[d]? = some v' → v' = v) ∧ w0.heap.size ≤ bf j ∧ Flt ρ' S' w (bf j) B val v ∧
    ∀ (wr' : Bool) (ts' : List AV) (H' : List Blk) (N' : AV → List Blk → Prop), (∀ x ∈ o.op.operands, evO ts' x = evO (ov (fun _ => true) 0 (tr.map TE.T) ts0) x) → opA TY wr' o.op ts' H' N' → N' (val H'.length) (H' ++ [B])
  bfi : ∀ i j, listed.getD i false = true → i ∉ pre → listed.getD j false = true → j ∉ pre → bf i = bf j → i = j
theorem fltOp_pure {op : Op} (h : fltOp op = true) : pureOp op = false := by cases op <;> first | rfl | cases h
theorem fltOp_call {op : Op} (h : fltOp op = true) (c : Call) : op ≠ .call c := by rintro rfl; cases h
theorem effQ_flt {o : Oper} (hf : fltOp o.op = true) {ts : List AV} {H : List Blk} {M : AV → List Blk → Prop} (h : effQ TY C wr o ts H M) : ∃ b, opA TY b o.op ts H M := by
  unfold effQ at h
  split at h
  · rename_i c hc
    exact absurd hc (fltOp_call hf c)
  · exact ⟨_, h⟩
theorem Flt.over {b n b' : Nat} {B : Blk} {val : Nat → AV} {v : Value} (h : Flt ρ S w b B val v) (hb : b' ≠ b) (ho : Over ρ (newρ ρ n b')) : Flt (newρ ρ n b') S w b B val v :=
  ⟨h.lt, h.ns, fun i hi => by
    unfold newρ at hi
    split at hi
    · cases hi; exact hb rfl
    · exact h.nr i hi, fun ρ2 h2 id hid => h.rel ρ2 (fun i c hi => h2 _ _ (ho _ _ hi)) id hid⟩
theorem ov_snoc {α : Type} {Dn : Nat → Bool} (ws : List (List (Nat × α))) (x : List (Nat × α)) (b : List α) : ov Dn 0 (ws ++ [x]) b = if Dn ws.length = true then setAll (ov Dn 0 ws b) x else ov Dn 0 ws b := by
  rw [ov_app, Nat.zero_add, ov, ov]
  cases Dn ws.length <;> rfl
section
variable {l : List Nat} {ts0 : List AV} {N : St → Prop} {listed : Array Bool} {a : Act} {pre rest : List Nat} {tr : List TE} {pend : List PE} {H : List Blk} {ρ' : Nat → Option Nat} {S' : Nat → Prop} {bf : Nat → Nat}
/-- What is listed early waits for nothing that is to come. -/
theorem InvQ.noanc (Sq : StatQ ops l fl) (I : InvQ F ds TY C wr ops l fl ρ S w0 ts0 N listed a w pre rest tr pend H ρ' S' bf) {j f : Nat} (hj : fl.contains j = true)
    (hl : ∀ m, hasAnc (clos [] ops.toList) j m = true → listed.getD m false = true) (hf : f ∈ rest) : hasAnc (clos [] ops.toList) j f = false := by
  cases ha : hasAnc (clos [] ops.toList) j f with
  | false => rfl
  | true =>
    exfalso
    rcases I.inp f (hl f ha) with h1 | h1
    · exact Sq.disj I.all h1 hf
    · obtain ⟨e, _, h3, h4, h5⟩ := Sq.ff j f hj h1 ha
      rcases I.inp e (hl e h5) with h6 | h6
      · obtain ⟨p, q, k1, k2, k3⟩ := Sq.apart I.all h6 hf
        rw [(pairOk_spec (Sq.pairs p q e f k1 k2 k3).1).1] at h4
        cases h4
      · rw [h3] at h6; cases h6
/-- What came early is taken in. -/
theorem InvQ.mat1 (Sq : StatQ ops l fl) (hcl : ∀ i m, listed.getD i false = true → hasAnc (clos [] ops.toList) i m = true → listed.getD m false = true) {f : Nat}
    (I : InvQ F ds TY C wr ops l fl ρ S w0 ts0 N listed a w pre (f :: rest) tr pend H ρ' S' bf) (hf : fl.contains f = true) (hl : listed.getD f false = true) :
    ∃ tr' H' ρ'', InvQ F ds TY C wr ops l fl ρ S w0 ts0 N listed a w (pre ++ [f]) rest tr' pend H' ρ'' S' bf := by
  obtain ⟨o, d, ho, hfo, hg, hd, huniq⟩ := Sq.f1 f hf
  have hfpre : f ∉ pre := fun h => Sq.disj I.all h List.mem_cons_self
  obtain ⟨val, B, v, hav, hw0, hF, hdet⟩ := I.early f o d hl hfpre ho hd
  obtain ⟨o', ho', hcase⟩ := runQ_cons I.run
  rw [ho] at ho'; cases ho'
  have hpf := fltOp_pure hfo
  rcases hcase with ⟨h1, _⟩ | ⟨_, _, hcase⟩
  · rw [hpf] at h1; cases h1
  rcases hcase with ⟨t, c, g, want, hg', _⟩ | ⟨_, hr⟩
  · rw [hg] at hg'; cases hg'
  obtain ⟨b, hr⟩ := effQ_flt hfo hr
  have hr := hdet b _ _ _ (fun x _ => rfl) hr
  simp only at hr
  obtain ⟨hrun, hpend⟩ := pendOk_spec hr
  have hnl : (tr.map TE.T).length = pre.length := by simp [I.len]
  have tmap : (tr ++ [(⟨o.dst, val H.length, [], []⟩ : TE)]).map TE.T = tr.map TE.T ++ [TE.T ⟨o.dst, val H.length, [], []⟩] := by simp
  have eT : ov (fun _ => true) 0 ((tr ++ [(⟨o.dst, val H.length, [], []⟩ : TE)]).map TE.T) ts0 = put (ov (fun _ => true) 0 (tr.map TE.T) ts0) o.dst (val H.length) := by
    rw [tmap, ov_snoc, if_pos rfl]
    exact (put_eq _ (⟨o.dst, val H.length, [], []⟩ : TE)).symm
  have eN : ov (fun p => listed.getD ((pre ++ [f]).getD p 0) false) 0 ((tr ++ [(⟨o.dst, val H.length, [], []⟩ : TE)]).map TE.T) ts0 = (ov (fun p => listed.getD (pre.getD p 0) false) 0 (tr.map TE.T) ts0).set d (val H.length) := by
    rw [tmap, ov_snoc, if_pos (by rw [hnl]; simp only [List.getD_eq_getElem?_getD, List.getElem?_append_right (Nat.le_refl _), Nat.sub_self]; simpa [List.getD_eq_getElem?_getD] using hl)]
    rw [← put_eq _ (⟨o.dst, val H.length, [], []⟩ : TE)]
    simp only [put, hd]
    congr 1
    refine ov_same _ _ _ fun m hm => ?_
    rw [hnl] at hm
    rw [Nat.zero_add, List.getD_eq_getElem?_getD, List.getD_eq_getElem?_getD, List.getElem?_append_left hm]
  have hov := over_new I.rel.heap (bf f)
  refine ⟨tr ++ [⟨o.dst, val H.length, [], []⟩], H ++ [B], newρ ρ' H.length (bf f), by rw [I.all]; simp, by simp [I.len], fun j hj => ?_, fun j hj he => ?_, by rw [eT]; exact hrun, by rw [eN]; exact hF.mat I.rel hav, hF.ext I.rel.heap I.ext hw0,
    fun p j o' te hp ho' ht => ?_, fun j o2 d2 hlj hj ho2 hd2 => ?_, fun i j hi hip hj hjp he => I.bfi i j hi (fun h => hip (List.mem_append_left _ h)) hj (fun h => hjp (List.mem_append_left _ h)) he⟩
  · rcases I.inp j hj with h1 | h1
    · exact .inl (List.mem_append_left _ h1)
    · exact .inr h1
  · rcases List.mem_append.1 hj with hj | hj
    · exact I.eff j hj he
    · simp at hj; subst hj; exact hl
  · by_cases hlt : p < pre.length
    · rw [List.getElem?_append_left hlt] at hp
      rw [List.getElem?_append_left (by rw [I.len]; exact hlt)] at ht
      obtain ⟨k1, k2⟩ := I.stp p j o' te hp ho' ht
      refine ⟨k1, fun hu => ?_⟩
      rw [tmap, ov_pre (Dn' := fun m => decide (m < p)) _ _ _ (fun m _ => rfl) (fun m hm => by rw [hnl] at hm; simp; omega)]
      refine (k2 hu).step ho' (fun _ h => h) (.inr fun pe hpe hpj => ?_)
      rcases hpend pe hpe with h5 | h5
      · have := hcl f _ hl h5
        rw [hpj, hu] at this; cases this
      · exact h5
    · rw [List.getElem?_append_right (by omega)] at hp
      rw [List.getElem?_append_right (by rw [I.len]; omega)] at ht
      have hp0 : p = pre.length := by
        have := (List.getElem?_eq_some_iff.1 hp).1
        simp at this; omega
      subst hp0
      simp [I.len] at hp ht
      subst hp; subst ht
      rw [ho] at ho'; cases ho'
      exact ⟨rfl, fun hu => by rw [hl] at hu; cases hu⟩
  · have hjp : j ∉ pre := fun h => hj (List.mem_append_left _ h)
    have hjf : j ≠ f := fun h => hj (by rw [h]; simp)
    obtain ⟨val2, B2, v2, hav2, hw2, hF2, hdet2⟩ := I.early j o2 d2 hlj hjp ho2 hd2
    refine ⟨val2, B2, v2, hav2, hw2, hF2.over (fun he => hjf (I.bfi j f hlj hjp hl hfpre he.symm)) hov, fun wr' ts' H' N' hx => hdet2 wr' ts' H' N' fun x hx' => (hx x hx').trans ?_⟩
    rw [eT]
    have hjfl : fl.contains j = true := by
      rcases I.inp j hlj with h1 | h1
      · exact absurd h1 hjp
      · exact h1
    have hjr : j ∈ rest := by
      have h1 := Sq.mem j (Array.getElem?_eq_some_iff.1 ho2).1
      rw [I.all] at h1
      rcases List.mem_append.1 h1 with h1 | h1
      · exact absurd h1 hjp
      · rcases List.mem_cons.1 h1 with h1 | h1
        · exact absurd h1 hjf
        · exact h1
    have hna := I.noanc Sq hjfl (fun m => hcl j m hlj) List.mem_cons_self
    obtain ⟨p, q, k1, k2, k3⟩ := Sq.apart (pre := pre ++ [f]) (rest := rest) (by rw [I.all]; simp) (i := f) (by simp) hjr
    obtain ⟨_, hp⟩ := pairOk_spec (Sq.pairs p q f j k1 k2 k3).1
    rcases hp with hp | ⟨_, hp⟩
    · rw [hna] at hp; cases hp
    · have hc := hp o o2 ho ho2
      cases x with
      | tmp t =>
        have hlk := looks_operand (ops := ops) hx'
        have htd : d ≠ t := by
          rintro rfl
          unfold conflT at hc
          rw [hd] at hc
          simp only [hlk, Bool.true_or] at hc
          cases hc
        rw [evO_tmp, evO_tmp]
        rw [hd]
        simp only [put, List.getD_eq_getElem?_getD, List.getElem?_set, htd, if_false]
      | _ => rfl
theorem InvQ.mat (Sq : StatQ ops l fl) (hcl : ∀ i m, listed.getD i false = true → hasAnc (clos [] ops.toList) i m = true → listed.getD m false = true) : ∀ (fs : List Nat) {pre : List Nat} {tr : List TE} {H : List Blk} {ρ' : Nat → Option Nat},
    InvQ F ds TY C wr ops l fl ρ S w0 ts0 N listed a w pre (fs ++ rest) tr pend H ρ' S' bf → (∀ f ∈ fs, fl.contains f = true ∧ listed.getD f false = true) →
    ∃ tr' H' ρ'', InvQ F ds TY C wr ops l fl ρ S w0 ts0 N listed a w (pre ++ fs) rest tr' pend H' ρ'' S' bf
  | [], pre, tr, H, ρ', I, _ => ⟨tr, H, ρ', by rw [List.append_nil]; exact I⟩
  | f :: fs, pre, tr, H, ρ', I, h => by
    obtain ⟨h1, h2⟩ := h f List.mem_cons_self
    obtain ⟨tr', H', ρ'', I'⟩ := I.mat1 Sq hcl h1 h2
    obtain ⟨tr2, H2, ρ2, I2⟩ := I'.mat Sq hcl fs (fun g hg => h g (List.mem_cons_of_mem _ hg))
    exact ⟨tr2, H2, ρ2, by rw [List.append_assoc] at I2; exact I2⟩
end
theorem first_not {α : Type} {p : α → Bool} : ∀ {l : List α}, (∃ x ∈ l, p x = false) → ∃ fs e rr, l = fs ++ e :: rr ∧ (∀ f ∈ fs, p f = true) ∧ p e = false
  | [], ⟨_, h, _⟩ => by cases h
  | y :: l, h => by
    cases hy : p y with
    | false => exact ⟨[], y, l, rfl, fun _ h => (by cases h), hy⟩
    | true =>
      obtain ⟨x, hx, hp⟩ := h
      rcases List.mem_cons.1 hx with rfl | hx
      · rw [hy] at hp; cases hp
      · obtain ⟨fs, e, rr, h1, h2, h3⟩ := first_not ⟨x, hx, hp⟩
        refine ⟨y :: fs, e, rr, by rw [h1]; rfl, fun f hf => ?_, h3⟩
        rcases List.mem_cons.1 hf with rfl | hf
        · exact hy
        · exact h2 f hf
theorem hideT_len : ∀ (fl : List Nat) (ts : List AV), (hideT ops fl ts).length = ts.length
  | [], _ => rfl
  | f :: fl, ts => by
    rw [hideT, hideT_len fl]
    split
    · unfold put; split <;> simp
    · rfl
theorem hideT_get : ∀ (fl : List Nat) (ts : List AV) (d : Nat), (hideT ops fl ts)[d]? = ts[d]? ∨ ∀ c, (hideT ops fl ts)[d]? = some c → c = .any
  | [], _, _ => .inl rfl
  | f :: fl, ts, d => by
    rw [hideT]
    split
    · rename_i o ho
      rcases hideT_get fl (put ts o.dst .any) d with h | h
      · rw [h]
        unfold put
        split
        · rename_i d' hd
          by_cases h2 : d' = d
          · refine .inr fun c hc => ?_
            rw [List.getElem?_set, if_pos h2] at hc
            split at hc
            · cases hc; rfl
            · cases hc
          · rw [List.getElem?_set, if_neg h2]; exact .inl rfl
        · exact .inl rfl
      · exact .inr h
    · exact hideT_get fl ts d
theorem hideT_any : ∀ (fl : List Nat) (ts : List AV) (f : Nat) (o : Oper) (d : Nat), f ∈ fl → ops[f]? = some o → o.dst = some d → ∀ c, (hideT ops fl ts)[d]? = some c → c = .any
  | [], _, _, _, _, hf, _, _, _, _ => by cases hf
  | g :: fl, ts, f, o, d, hf, ho, hd, c, hc => by
    rw [hideT] at hc
    rcases List.mem_cons.1 hf with rfl | hf
    · rw [ho] at hc
      simp only [put, hd] at hc
      rcases hideT_get (ops := ops) fl (ts.set d .any) d with h | h
      · rw [h, List.getElem?_set, if_pos rfl] at hc
        split at hc
        · cases hc; rfl
        · cases hc
      · exact h c hc
    · exact hideT_any fl _ f o d hf ho hd c hc
theorem hideT_rel {fl : List Nat} {ts : List AV} {tm : Array Value} (h : TRel ρ S w ts tm) : TRel ρ S w (hideT ops fl ts) tm :=
  ⟨by rw [hideT_len]; exact h.1, fun i c v hc hv => by
    rcases hideT_get (ops := ops) fl ts i with h1 | h1
    · rw [h1] at hc; exact h.2 i c v hc hv
    · rw [h1 c hc]; exact .any v⟩
theorem put_other {a : Act} {dst : Option Tmp} {v : Value} {d : Nat} (h : dst ≠ some d) : (a.put dst v).tmps[d]? = a.tmps[d]? := by
  cases dst with
  | none => rfl
  | some d' =>
    have : d' ≠ d := fun h' => h (by rw [h'])
    show (a.tmps.setIfInBounds d' v)[d]? = _
    rw [Array.getElem?_setIfInBounds, if_neg this]
theorem drawQ_sound (hO : Open Fe) (hTY : TyOk P TY) (hC : CtrOk F P C) {l : List Nat} {st : St} {a0 : Act} (hR0 : RelX F ds ρ S st a0 w0) {N : St → Prop} {Q : Exit → Act → World → Prop}
    (hQ : ∀ a' w', Reach F ds ρ S w0 N a' w' → Q .normal a' w') (h : drawQ TY C wr ops l fl st N) : wpAnyIn Fe dn P .any ops Q ops.size (Array.replicate ops.size false) a0 w0 := by
  obtain ⟨hok, hrun⟩ := h
  obtain ⟨hback, Sq⟩ := StatQ.of hok
  have hlt := Sq.lt
  have pairs := Sq.pairs
  have nodup := Sq.nodup
  have hmem := Sq.mem
  have hbase : ∀ f o d, fl.contains f = true → ops[f]? = some o → o.dst = some d → ∀ c, (hideT ops fl st.tmps)[d]? = some c → c = .any := fun f o d hf ho hd => hideT_any fl st.tmps f o d (by rwa [List.contains_iff_mem] at hf) ho hd
  have hR0 : RelX F ds ρ S ⟨hideT ops fl st.tmps, st.heap⟩ a0 w0 := ⟨⟨hR0.defers, hideT_rel hR0.tmps, hR0.heap⟩, hR0.sok⟩
  generalize hts : hideT ops fl st.tmps = ts0 at hrun hbase hR0
  have main : ∀ (fuel : Nat) (listed : Array Bool) (a : Act) (w : World), listed.size = ops.size → Down ops (fun m => listed.getD m false) → toCome ops.size listed = fuel →
      (∃ pre rest tr pend H ρ' S' bf, InvQ F ds TY C wr ops l fl ρ S w0 ts0 N listed a w pre rest tr pend H ρ' S' bf ∧ ∀ j rr, rest = j :: rr → effAt ops j = true) → wpAnyIn Fe dn P .any ops Q fuel listed a w := by
    intro fuel
    induction fuel with
    | zero =>
      intro listed a w hs hdn hf hst
      have all := toCome_zero hf
      have allF : ∀ i, i < ops.size → listed.getD i false = true := fun i hi => by
        have h1 := all i hi
        have hls : i < listed.size := by omega
        simp [hls] at h1 ⊢; exact h1
      obtain ⟨pre, rest, tr, pend, H, ρ', S', bf, I, _⟩ := hst
      have hcl : ∀ i m, listed.getD i false = true → hasAnc (clos [] ops.toList) i m = true → listed.getD m false = true := fun i m hi hm => hdn.anc (hasAnc_anc hm) (fun o' ho' x hx => hdn i o' ho' hi x hx)
      obtain ⟨tr, H, ρ', I⟩ := InvQ.mat (rest := []) Sq hcl rest (by rw [List.append_nil]; exact I) (fun f hf => by
        have h1 := allF f (hlt f (by rw [I.all]; exact List.mem_append_right _ hf))
        rcases I.inp f h1 with h2 | h2
        · exact (Sq.disj I.all h2 hf).elim
        · exact ⟨h2, h1⟩)
      generalize hpr : pre ++ rest = pre at I
      refine ⟨?_, ?_⟩
      · rw [List.eq_nil_iff_forall_not_mem]
        intro i hi
        obtain ⟨h1, o, h2, _⟩ := mem_ready.1 hi
        have hlt : i < ops.size := (Array.getElem?_eq_some_iff.1 h2).1
        have := all i hlt
        rw [h1] at this; cases this
      · have hr := I.rel
        have e : ov (fun p => listed.getD (pre.getD p 0) false) 0 (tr.map TE.T) ts0 = ov (fun _ => true) 0 (tr.map TE.T) ts0 := ov_same _ _ _ fun m hm => by
          rw [Nat.zero_add]
          have hm : m < pre.length := by simp [I.len] at hm; exact hm
          have : pre.getD m 0 = pre[m] := by simp [List.getD_eq_getElem?_getD, hm]
          rw [this]
          exact allF _ (hlt _ (by rw [I.all]; simp))
        rw [e] at hr
        exact hQ a w ⟨_, ρ', S', I.run, hr, I.ext⟩
    | succ fuel ih =>
      intro listed a w hs hdn hf hst
      have get : ∀ i, i < ops.size → listed.getD i true = listed.getD i false := fun i hi => by simp [show i < listed.size by omega]
      obtain ⟨pre, rest, tr, pend, H, ρ', S', bf, I, hhd⟩ := hst
      refine ⟨fun hr => ?_, fun i hi => ?_⟩
      · exfalso
        have hex : ∃ m, m < ops.size ∧ listed.getD m false = false := by
          by_cases h1 : ∃ m, m < ops.size ∧ listed.getD m false = false
          · exact h1
          · exfalso
            have : toCome ops.size listed = 0 := by
              unfold toCome
              rw [List.countP_eq_zero]
              intro m hm
              have hm := List.mem_range.1 hm
              rw [get m hm]
              cases hc : listed.getD m false with
              | true => simp
              | false => exact absurd ⟨m, hm, hc⟩ h1
            omega
        obtain ⟨m, ⟨hm, hmf⟩, hleast⟩ := exists_least hex
        have hom : ops[m]? = some ops[m] := by simp [hm]
        have : m ∈ Region.ready .any ops listed := by
          rw [mem_ready]
          refine ⟨by rw [get m hm, hmf], ops[m], hom, fun e he hb => ?_⟩
          unfold okBack at hback
          rw [List.all_eq_true] at hback
          have := hback m (List.mem_range.2 hm)
          rw [hom] at this
          rw [List.all_eq_true] at this
          have := this e.on (by unfold direct; rw [List.mem_map]; exact ⟨e, by rw [List.mem_filter]; exact ⟨by simpa using he, hb⟩, rfl⟩)
          simp at this
          cases hc : listed.getD e.on false with
          | true => rfl
          | false => have := hleast e.on ⟨by omega, hc⟩; omega
        rw [hr] at this; cases this
      · obtain ⟨hun, oi, hoi, hrdy⟩ := mem_ready.1 hi
        have hin : i < ops.size := (Array.getElem?_eq_some_iff.1 hoi).1
        have hDi : listed.getD i false = false := by rw [← get i hin]; exact hun
        have hrdy' : ∀ o', ops[i]? = some o' → ∀ m ∈ direct o', listed.getD m false = true := fun o' ho' m hm => by
          rw [hoi] at ho'; cases ho'
          unfold direct at hm
          simp only [List.mem_map, List.mem_filter] at hm
          obtain ⟨e, ⟨he, hb⟩, rfl⟩ := hm
          exact hrdy e (by simpa using he) hb
        have anc : ∀ m, hasAnc (clos [] ops.toList) i m = true → listed.getD m false = true := fun m hm => hdn.anc (hasAnc_anc hm) hrdy'
        have anc2 : ∀ m, hasAnc (clos [] ops.toList) m i = true → listed.getD m false = false := fun m hm => by
          cases hc : listed.getD m false with
          | false => rfl
          | true =>
            have := hdn.anc (hasAnc_anc hm) (fun o' ho' x hx => hdn m o' ho' hc x hx)
            simp only [hDi] at this; cases this
        have gd : ∀ m, (listed.setIfInBounds i true).getD m false = (m == i || listed.getD m false) := fun m => by
          have := congrFun (getD_listed (listed := listed) (i := i) (by omega)) m
          try simp only at this
          rw [this, Nat.zero_add]
        have hdn' : Down ops (fun m => (listed.setIfInBounds i true).getD m false) := by
          intro j o ho hd m hm
          simp only [gd, Bool.or_eq_true, beq_iff_eq] at hd ⊢
          rcases hd with rfl | hd
          · exact .inr (hrdy' o ho m hm)
          · exact .inr (hdn j o ho hd m hm)
        have hcome : toCome ops.size (listed.setIfInBounds i true) = fuel := by
          have := toCome_set hs hin hun
          omega
        have hcl : ∀ i m, listed.getD i false = true → hasAnc (clos [] ops.toList) i m = true → listed.getD m false = true := fun i m hi hm => hdn.anc (hasAnc_anc hm) (fun o' ho' x hx => hdn i o' ho' hi x hx)
        -- what came early, and is waited for, is taken in
        have norm : ∃ pre rest tr H ρ', InvQ F ds TY C wr ops l fl ρ S w0 ts0 N listed a w pre rest tr pend H ρ' S' bf ∧ (i ∈ pre ∨ fl.contains i = true → ∀ j rr, rest = j :: rr → effAt ops j = true) ∧ (i ∉ pre → fl.contains i = false → effAt ops i = true ∧ ∃ rr, rest = i :: rr) := by
          by_cases hip : i ∈ pre
          · exact ⟨pre, rest, tr, H, ρ', I, fun _ => hhd, fun h => absurd hip h⟩
          · cases hif : fl.contains i with
            | true => exact ⟨pre, rest, tr, H, ρ', I, fun _ => hhd, fun _ h => by cases h⟩
            | false =>
              have hir : i ∈ rest := by
                have h1 := hmem i hin
                rw [I.all] at h1
                rcases List.mem_append.1 h1 with h1 | h1
                · exact absurd h1 hip
                · exact h1
              obtain ⟨fs, e, rr, h1, h2, h3⟩ := first_not (p := fun f => fl.contains f) ⟨i, hir, hif⟩
              have hpe : l[pre.length + fs.length]? = some e := by
                rw [I.all, h1, List.getElem?_append_right (by omega), List.getElem?_append_right (by omega)]
                simp
              have hpf : ∀ (m f : Nat), fs[m]? = some f → l[pre.length + m]? = some f := fun m f hm => by
                rw [I.all, h1, List.getElem?_append_right (by omega), List.getElem?_append_left (by have := (List.getElem?_eq_some_iff.1 hm).1; omega)]
                rw [show pre.length + m - pre.length = m by omega]; exact hm
              have grp : effAt ops e = true ∧ ∀ f ∈ fs, hasAnc (clos [] ops.toList) e f = true := by
                cases fs with
                | nil => exact ⟨hhd e rr h1, fun f hf => by cases hf⟩
                | cons g gs =>
                  have hh : ∀ f ∈ g :: gs, effAt ops e = true ∧ hasAnc (clos [] ops.toList) e f = true := fun f hf => by
                    obtain ⟨m, hm⟩ := List.getElem?_of_mem hf
                    have hml := (List.getElem?_eq_some_iff.1 hm).1
                    refine Sq.grp (pre.length + m) (pre.length + (g :: gs).length) f e (hpf m f hm) (h2 f hf) (by omega) hpe h3 fun m2 g2 k1 k2 k3 => ?_
                    obtain ⟨m3, rfl⟩ : ∃ m3, m2 = pre.length + m3 := ⟨m2 - pre.length, by omega⟩
                    have k4 : (g :: gs)[m3]? = some (g :: gs)[m3] := by simp
                    rw [hpf m3 _ k4] at k3
                    cases k3
                    exact h2 _ (List.getElem_mem _)
                  exact ⟨(hh g List.mem_cons_self).1, fun f hf => (hh f hf).2⟩
              have hie : i = e := by
                rw [h1] at hir
                rcases List.mem_append.1 hir with h4 | h4
                · have := h2 i h4
                  rw [hif] at this; cases this
                rcases List.mem_cons.1 h4 with h4 | h4
                · exact h4
                · exfalso
                  obtain ⟨p, q, k1, k2, k3⟩ := Sq.apart (pre := pre ++ fs ++ [e]) (rest := rr) (by rw [I.all, h1]; simp) (i := e) (by simp) h4
                  obtain ⟨_, k4⟩ := pairOk_spec (pairs p q e i k1 k2 k3).1
                  rcases k4 with k4 | ⟨k4, _⟩
                  · rcases I.inp e (anc e k4) with k5 | k5
                    · exact Sq.disj I.all k5 (by rw [h1]; simp)
                    · rw [h3] at k5; cases k5
                  · rcases k4 with k4 | k4
                    · rw [grp.1] at k4; cases k4
                    · rw [hif] at k4; cases k4
              subst hie
              have I1 := I
              rw [h1] at I1
              obtain ⟨tr', H', ρ'', I'⟩ := I1.mat Sq hcl fs (fun f hf => ⟨h2 f hf, anc f (grp.2 f hf)⟩)
              refine ⟨pre ++ fs, i :: rr, tr', H', ρ'', I', fun h => ?_, fun _ _ => ⟨grp.1, rr, rfl⟩⟩
              rcases h with h | h
              · exact (Sq.disj I'.all h List.mem_cons_self).elim
              · cases h
        clear I hhd
        obtain ⟨pre, rest, tr, H, ρ', I, hhd, hreal⟩ := norm
        -- where it stands in the order
        have at_pre : ∀ {p j : Nat}, pre[p]? = some j → l[p]? = some j := fun {p j} hp => by
          rw [I.all, List.getElem?_append_left (List.getElem?_eq_some_iff.1 hp).1]; exact hp
        have oth : ∀ (Pi : Nat), l[Pi]? = some i → ∀ (m j : Nat) om, pre[m]? = some j → ops[j]? = some om → (m < Pi → conflT ops om oi = true) → (Pi < m → conflT ops oi om = true) → listed.getD j false = decide (m < Pi) := by
          intro Pi hPi m j om hm hom h1 h2
          rcases Nat.lt_trichotomy m Pi with hlt' | rfl | hgt
          · obtain ⟨hp, _⟩ := pairs m Pi j i hlt' (at_pre hm) hPi
            obtain ⟨_, hp⟩ := pairOk_spec hp
            rcases hp with hp | ⟨_, hp⟩
            · rw [anc j hp]; simp [hlt']
            · have := hp om oi hom hoi
              rw [h1 hlt'] at this; cases this
          · rw [at_pre hm] at hPi; cases hPi
            rw [hDi]; simp
          · obtain ⟨hp, _⟩ := pairs Pi m i j hgt hPi (at_pre hm)
            obtain ⟨_, hp⟩ := pairOk_spec hp
            have hng : ¬ m < Pi := by omega
            rcases hp with hp | ⟨_, hp⟩
            · rw [anc2 j hp]; simp [hng]
            · have := hp oi om hoi hom
              rw [h2 hgt] at this; cases this
        have agT : ∀ (Pi : Nat), l[Pi]? = some i → ∀ t, (oi.looksAt ops).contains t = true → (ov (fun p => listed.getD (pre.getD p 0) false) 0 (tr.map TE.T) ts0)[t]? = (ov (fun m => decide (m < Pi)) 0 (tr.map TE.T) ts0)[t]? := by
          intro Pi hPi t ht
          refine ov_congr _ _ _ _ rfl rfl fun m wm hm hkey => ?_
          rw [List.getElem?_map] at hm
          cases htm : tr[m]? with
          | none => rw [htm] at hm; cases hm
          | some tm =>
            rw [htm] at hm
            cases hm
            rw [Nat.zero_add]
            have hml : m < pre.length := by rw [← I.len]; exact (List.getElem?_eq_some_iff.1 htm).1
            have hpm : pre[m]? = some pre[m] := by simp [hml]
            have hg : pre.getD m 0 = pre[m] := by simp [List.getD_eq_getElem?_getD, hml]
            rw [hg]
            have hjl : pre[m] < ops.size := hlt _ (by rw [I.all]; simp)
            have hom : ops[pre[m]]? = some ops[pre[m]] := by simp [hjl]
            have hd := (I.stp m _ _ tm hpm hom htm).1
            have hk := keyIn_T hkey
            rw [hd] at hk
            refine oth Pi hPi m _ _ hpm hom (fun _ => ?_) (fun _ => ?_)
            · unfold conflT; rw [hk]; simp only [ht, Bool.true_or]
            · unfold conflT; rw [hk]; simp only [ht, Bool.or_true]
        have agO : ∀ (Pi : Nat), l[Pi]? = some i → ∀ x ∈ oi.op.operands, evO (ov (fun p => listed.getD (pre.getD p 0) false) 0 (tr.map TE.T) ts0) x = evO (ov (fun m => decide (m < Pi)) 0 (tr.map TE.T) ts0) x := by
          intro Pi hPi x hx
          cases x with
          | tmp t =>
            rw [evO_tmp, evO_tmp]
            rw [List.getD_eq_getElem?_getD, List.getD_eq_getElem?_getD, agT Pi hPi t (looks_operand hx)]
          | _ => rfl
        by_cases hpre : i ∈ pre
        · -- one that only looks
          obtain ⟨p, hp⟩ := List.getElem?_of_mem hpre
          have hpl : p < pre.length := (List.getElem?_eq_some_iff.1 hp).1
          have hPi := at_pre hp
          obtain ⟨te, hti⟩ : ∃ te, tr[p]? = some te := ⟨tr[p]'(by rw [I.len]; exact hpl), by simp [I.len, hpl]⟩
          obtain ⟨hdst, hgd⟩ := I.stp p i oi te hp hoi hti
          have hgd := hgd hDi
          have newT : put (ov (fun p => listed.getD (pre.getD p 0) false) 0 (tr.map TE.T) ts0) oi.dst te.r = ov (fun p => (listed.setIfInBounds i true).getD (pre.getD p 0) false) 0 (tr.map TE.T) ts0 := by
            rw [← hdst, put_eq]
            have h1 := ov_add (D := fun p => listed.getD (pre.getD p 0) false) (j := p) (tr.map TE.T) 0 ts0 (by rw [List.getElem?_map, hti]; rfl)
              (by rw [Nat.zero_add]; show listed.getD (pre.getD p 0) false = false; rw [show pre.getD p 0 = i by rw [List.getD_eq_getElem?_getD, hp]; rfl]; exact hDi) (fun m wm hm hlt' hd key hkey => ?_)
            · rw [← h1]
              refine ov_same _ _ _ fun m hm => ?_
              have hm : m < pre.length := by simp [I.len] at hm; exact hm
              rw [Nat.zero_add, gd]
              have hpm : pre[m]? = some pre[m] := by simp [hm]
              have hg : pre.getD m 0 = pre[m] := by simp [List.getD_eq_getElem?_getD, hm]
              rw [hg]
              congr 1
              rw [Bool.eq_iff_iff, beq_iff_eq, beq_iff_eq, Nat.zero_add]
              constructor
              · rintro rfl
                rw [hpm] at hp
                exact Option.some.inj hp
              · intro he
                exact nodup m p i (by rw [at_pre hpm, he]) hPi
            · rw [List.getElem?_map] at hm
              cases htm : tr[m]? with
              | none => rw [htm] at hm; cases hm
              | some tm =>
                rw [htm] at hm
                cases hm
                rw [Nat.zero_add] at hd
                cases hc : keyIn key tm.T with
                | false => rfl
                | true =>
                  have hml : m < pre.length := by rw [← I.len]; exact (List.getElem?_eq_some_iff.1 htm).1
                  have hpm : pre[m]? = some pre[m] := by simp [hml]
                  have hg : pre.getD m 0 = pre[m] := by simp [List.getD_eq_getElem?_getD, hml]
                  have hjl : pre[m] < ops.size := hlt _ (by rw [I.all]; simp)
                  have hom : ops[pre[m]]? = some ops[pre[m]] := by simp [hjl]
                  have k1 := keyIn_T hkey
                  have k2 := keyIn_T hc
                  rw [hdst] at k1
                  rw [(I.stp m _ _ tm hpm hom htm).1] at k2
                  have := oth p hPi m _ _ hpm hom (fun h => by omega) (fun _ => by unfold conflT; rw [k1, k2]; simp)
                  simp only [hg] at hd
                  rw [hd] at this
                  simp at this; omega
          have hother : ∀ j oj d, j ∉ pre → listed.getD j false = true → ops[j]? = some oj → oj.dst = some d → oi.dst ≠ some d := fun j oj d hj hl ho hd he => by
            rcases I.inp j hl with h1 | h1
            · exact hj h1
            · obtain ⟨o2, d2, k1, _, _, k2, k3⟩ := Sq.f1 j h1
              rw [ho] at k1; cases k1
              rw [hd] at k2; cases k2
              exact k3 i oi (fun h => hj (h ▸ hpre)) hoi he
          have next : ∀ a' ρ2 S2, RelX F ds ρ2 S2 ⟨put (ov (fun p => listed.getD (pre.getD p 0) false) 0 (tr.map TE.T) ts0) oi.dst te.r, H⟩ a' w → Ext ρ' S' w ρ2 S2 w → (∃ v, a' = a.put oi.dst v) → wpAnyIn Fe dn P .any ops Q fuel (listed.setIfInBounds i true) a' w := by
            rintro a' ρ2 S2 h1 h2 ⟨v, rfl⟩
            rw [newT] at h1
            have wasl : ∀ j, j ∉ pre → (listed.setIfInBounds i true).getD j false = true → listed.getD j false = true := fun j hj hl => by
              rw [gd, Bool.or_eq_true, beq_iff_eq] at hl
              rcases hl with rfl | hl
              · exact absurd hpre hj
              · exact hl
            refine ih _ _ w (by simp [hs]) hdn' hcome ⟨pre, rest, tr, pend, H, ρ2, S2, bf, ⟨I.all, I.len, fun j hj => ?_, fun j hj he => ?_, I.run, h1, I.ext.trans h2, fun q j o te' h3 h4 h5 => ⟨(I.stp q j o te' h3 h4 h5).1, fun h6 => (I.stp q j o te' h3 h4 h5).2 ?_⟩,
              fun j oj d hl hj ho hd => ?_, fun x y hx hxp hy hyp he => I.bfi x y (wasl x hxp hx) hxp (wasl y hyp hy) hyp he⟩, hhd (.inl hpre)⟩
            · rw [gd, Bool.or_eq_true, beq_iff_eq] at hj
              rcases hj with rfl | hj
              · exact .inl hpre
              · exact I.inp j hj
            · rw [gd, I.eff j hj he]; simp
            · rw [gd, Bool.or_eq_false_iff] at h6; exact h6.2
            · obtain ⟨val, B, v2, e1, e2, e3, e4⟩ := I.early j oj d (wasl j hj hl) hj ho hd
              exact ⟨val, B, v2, fun v' hv' => e1 v' (by rw [put_other (hother j oj d hj (wasl j hj hl) ho hd)] at hv'; exact hv'), e2, e3.keep h2, e4⟩
          have run : RunsQ TY wr oi te.r (ov (fun m => decide (m < p)) 0 (tr.map TE.T) ts0) H → oi.wpIn Fe dn P a w (wpAnyIn Fe dn P .any ops Q fuel (listed.setIfInBounds i true)) Q := by
            intro hruns
            have h1 := opQ_opV (hruns _ (agO p hPi))
            obtain ⟨v, c, h2, h3, h4⟩ := opV_sound hTY I.rel.heap I.rel.tmps oi h1
            refine wpo_of hO (nodefer h2 (fun d => by simp)) ?_
            rw [h2]
            subst h3
            exact next _ ρ' S' (Rel.put I.rel (Ext.refl _ _ _) I.rel.sok I.rel.heap h4 _) (Ext.refl _ _ _) ⟨_, rfl⟩
          unfold wpOpIn
          rw [hoi]
          simp only
          unfold GuardQ at hgd
          cases hg : oi.guard with
          | none =>
            rw [hg] at hgd
            rw [if_pos (by simp [Region.wanted, hg])]
            exact run hgd.1
          | some gw =>
            obtain ⟨g, want⟩ := gw
            rw [hg] at hgd
            obtain ⟨t, c, ht, hb, hif⟩ := hgd
            have hb' := (agT p hPi t (looks_guard hg ht)).trans hb
            rcases hif with ⟨rfl, hif, _⟩ | ⟨hc, e1⟩
            · have hy := yielded_tmp ht I.rel.tmps hb'
              rw [if_pos (by simp [Region.wanted, hg, hy])]
              exact run hif
            · have hy : yielded ops a.tmps g ≠ some want := by
                rcases hc with rfl | rfl
                · rw [yielded_tmp ht I.rel.tmps hb']; simp
                · rw [yielded_none ht I.rel.tmps hb']; simp
              rw [if_neg (by simpa [Region.wanted, hg] using hy)]
              have h2 := Rel.put I.rel (Ext.refl _ _ _) I.rel.sok I.rel.heap (.tup [] #[] rfl (fun i c v hc => by simp at hc)) oi.dst
              simp only at h2
              rw [← e1] at h2
              exact ⟨fun f _ => hO.fn f, next _ ρ' S' h2 (Ext.refl _ _ _) ⟨_, rfl⟩⟩
        · have hnotin : ∀ m, m < pre.length → pre.getD m 0 ≠ i := fun m hm he => hpre (by rw [← he]; simp [List.getD_eq_getElem?_getD, hm])
          have keepL : ∀ j, j ∈ pre → (listed.setIfInBounds i true).getD j false = listed.getD j false := fun j hj => by
            rw [gd]
            rw [show (j == i) = false by rw [beq_eq_false_iff_ne]; rintro rfl; exact hpre hj, Bool.false_or]
          cases hfi : fl.contains i with
          | true =>
            -- one that comes early
            obtain ⟨of, d, hof, hfo, hgn, hd, huniq⟩ := Sq.f1 i hfi
            rw [hoi] at hof; cases hof
            have hir : i ∈ rest := by
              have h1 := hmem i hin
              rw [I.all] at h1
              rcases List.mem_append.1 h1 with h1 | h1
              · exact absurd h1 hpre
              · exact h1
            obtain ⟨e, rr, hre⟩ : ∃ e rr, rest = e :: rr := by
              cases rest with
              | nil => cases hir
              | cons e rr => exact ⟨e, rr, rfl⟩
            have hee := hhd (.inr hfi) e rr hre
            have hrun := I.run
            rw [hre] at hrun
            obtain ⟨oe, hoe, hcase⟩ := runQ_cons hrun
            have hpe : pureOp oe.op = false := by
              unfold effAt at hee; rw [hoe] at hee; simpa using hee
            rcases hcase with ⟨h1, _⟩ | ⟨_, hchk, _⟩
            · rw [hpe] at h1; cases h1
            obtain ⟨oi2, k1, k2⟩ := hchk i (hre ▸ hir) hfi (fun x hx => I.noanc Sq hfi anc (hre ▸ hx))
            rw [hoi] at k1; cases k1
            -- where it stands
            obtain ⟨q, hq⟩ := List.getElem?_of_mem hir
            have hPi : l[pre.length + q]? = some i := by rw [I.all, List.getElem?_append_right (by omega)]; simpa using hq
            have e0 : ov (fun m => decide (m < pre.length + q)) 0 (tr.map TE.T) ts0 = ov (fun _ => true) 0 (tr.map TE.T) ts0 := ov_same _ _ _ fun m hm => by
              simp [I.len] at hm; simp; omega
            have agx := agO _ hPi
            rw [e0] at agx
            simp only at k2
            have k3 := k2
            rw [← opA_congr (fltOp_call hfo) agx] at k3
            obtain ⟨val, B, obj, v, r1, r2, r3⟩ := flt_run hTY I.rel.sok.lt I.rel.heap I.rel.tmps oi hfo k3
            unfold wpOpIn
            rw [hoi]
            simp only
            rw [if_pos (by simp [Region.wanted, hgn])]
            refine wpo_of hO (nodefer r1 (fun d => by simp)) ?_
            rw [r1]
            have hE : Ext ρ' S' w ρ' S' (w.alloc obj) := ext_side obj
            have hsame : put (ov (fun p => listed.getD (pre.getD p 0) false) 0 (tr.map TE.T) ts0) oi.dst .any = ov (fun p => listed.getD (pre.getD p 0) false) 0 (tr.map TE.T) ts0 := by
              rw [hd]
              have hg : (ov (fun p => listed.getD (pre.getD p 0) false) 0 (tr.map TE.T) ts0)[d]? = ts0[d]? := by
                have := ov_congr (D := fun p => listed.getD (pre.getD p 0) false) (D' := fun _ => false) (k := d) (tr.map TE.T) 0 ts0 ts0 rfl rfl (fun m wm hm hkey => by
                  exfalso
                  rw [List.getElem?_map] at hm
                  cases htm : tr[m]? with
                  | none => rw [htm] at hm; cases hm
                  | some tm =>
                    rw [htm] at hm
                    cases hm
                    have hml : m < pre.length := by rw [← I.len]; exact (List.getElem?_eq_some_iff.1 htm).1
                    have hpm : pre[m]? = some pre[m] := by simp [hml]
                    have hjl : pre[m] < ops.size := hlt _ (by rw [I.all]; simp)
                    have hom : ops[pre[m]]? = some ops[pre[m]] := by simp [hjl]
                    have k1 := keyIn_T hkey
                    rw [(I.stp m _ _ tm hpm hom htm).1] at k1
                    exact huniq _ _ (fun h => hpre (h ▸ List.getElem_mem _)) hom k1)
                rw [this, ov_none _ _ _ (fun _ => rfl)]
              simp only [put]
              cases hc : ts0[d]? with
              | none =>
                rw [List.set_eq_of_length_le]
                rw [hc] at hg
                exact List.getElem?_eq_none_iff.1 hg
              | some c =>
                have := hbase i oi d hfi hoi hd c hc
                subst this
                rw [hc] at hg
                exact set_same hg
            have hnew := Rel.put I.rel hE (I.rel.sok.still hE) (I.rel.heap.side obj) (.any v) oi.dst
            simp only at hnew
            rw [hsame] at hnew
            have elist : ov (fun p => (listed.setIfInBounds i true).getD (pre.getD p 0) false) 0 (tr.map TE.T) ts0 = ov (fun p => listed.getD (pre.getD p 0) false) 0 (tr.map TE.T) ts0 := ov_same _ _ _ fun m hm => by
              have hm : m < pre.length := by simp [I.len] at hm; exact hm
              rw [Nat.zero_add]
              refine keepL _ ?_
              simp [List.getD_eq_getElem?_getD, hm]
            have hflt : ∀ j, j ∉ pre → listed.getD j false = true → fl.contains j = true := fun j hj hl => (I.inp j hl).resolve_left hj
            refine ih _ _ _ (by simp [hs]) hdn' hcome ⟨pre, rest, tr, pend, H, ρ', S', fun m => if m = i then w.heap.size else bf m, ⟨I.all, I.len, fun j hj => ?_, fun j hj he => ?_, I.run, by rw [elist]; exact hnew, I.ext.trans hE, fun p j o te' h3 h4 h5 => ⟨(I.stp p j o te' h3 h4 h5).1, fun h6 => (I.stp p j o te' h3 h4 h5).2 ?_⟩,
              fun j oj dj hl hj ho hdj => ?_, fun x y hx hxp hy hyp he => ?_⟩, hhd (.inr hfi)⟩
            · rw [gd, Bool.or_eq_true, beq_iff_eq] at hj
              rcases hj with rfl | hj
              · exact .inr hfi
              · exact I.inp j hj
            · rw [keepL j hj]; exact I.eff j hj he
            · rw [keepL j (List.mem_of_getElem? h3)] at h6; exact h6
            · rw [gd, Bool.or_eq_true, beq_iff_eq] at hl
              by_cases hji : j = i
              · subst hji
                rw [hoi] at ho; cases ho
                rw [hd] at hdj; cases hdj
                refine ⟨val, B, v, fun v' hv' => ?_, by rw [if_pos rfl]; exact I.ext.size, by rw [if_pos rfl]; exact r2, fun wr' ts' H' N' hx => r3 wr' ts' H' N' fun x hx' => (hx x hx').trans (agx x hx').symm⟩
                rw [hd] at hv'
                simp only [Act.put, Array.getElem?_setIfInBounds, if_true] at hv'
                split at hv'
                · cases hv'; rfl
                · cases hv'
              · have hl := hl.resolve_left hji
                obtain ⟨val2, B2, v2, e1, e2, e3, e4⟩ := I.early j oj dj hl hj ho hdj
                refine ⟨val2, B2, v2, fun v' hv' => e1 v' ?_, by rw [if_neg hji]; exact e2, by rw [if_neg hji]; exact e3.keep hE, e4⟩
                rw [put_other] at hv'
                · exact hv'
                · obtain ⟨o2, d2, m1, _, _, m2, m3⟩ := Sq.f1 j (hflt j hj hl)
                  rw [ho] at m1; cases m1
                  rw [hdj] at m2; cases m2
                  exact m3 i oi (fun h => hji h.symm) hoi
            · have lt_of : ∀ z, z ≠ i → z ∉ pre → (listed.setIfInBounds i true).getD z false = true → listed.getD z false = true ∧ bf z < w.heap.size := fun z hz hzp hl => by
                rw [gd, Bool.or_eq_true, beq_iff_eq] at hl
                have hl := hl.resolve_left hz
                obtain ⟨oz, dz, m1, _, _, m2, _⟩ := Sq.f1 z (hflt z hzp hl)
                obtain ⟨_, _, _, _, _, e3, _⟩ := I.early z oz dz hl hzp m1 m2
                exact ⟨hl, e3.lt⟩
              by_cases hxi : x = i <;> by_cases hyi : y = i
              · rw [hxi, hyi]
              · have := (lt_of y hyi hyp hy).2
                simp only [hxi, hyi, if_true, if_false] at he
                omega
              · have := (lt_of x hxi hxp hx).2
                simp only [hxi, hyi, if_true, if_false] at he
                omega
              · simp only [hxi, hyi, if_false] at he
                exact I.bfi x y (lt_of x hxi hxp hx).1 hxp (lt_of y hyi hyp hy).1 hyp he
          | false =>
          -- the next one that turns memory
          obtain ⟨hee, rr, hre⟩ := hreal hpre hfi
          have he_at : l[pre.length]? = some i := by rw [I.all, hre, List.getElem?_append_right (Nat.le_refl _)]; simp
          have ag := agT pre.length he_at
          have agx := agO pre.length he_at
          have e0 : ov (fun m => decide (m < pre.length)) 0 (tr.map TE.T) ts0 = ov (fun _ => true) 0 (tr.map TE.T) ts0 := ov_same _ _ _ fun m hm => by
            simp [I.len] at hm; simp [hm]
          rw [e0] at agx
          simp only [e0] at ag
          have hrun := I.run
          rw [hre] at hrun
          obtain ⟨o', ho', hcase⟩ := runQ_cons hrun
          rw [hoi] at ho'; cases ho'
          have hpf : pureOp oi.op = false := by
            unfold effAt at hee; rw [hoi] at hee; simpa using hee
          -- behind it
          have next : ∀ a' w' r H' ρ2 S2 (Hput : ∃ v, a' = a.put oi.dst v) (Hnew : H' = H ∨ ∀ pe ∈ pend, hasAnc (clos [] ops.toList) i pe.i = true ∨ ∃ o, ops[pe.i]? = some o ∧ opQ TY (wrOf wr o) o.op pe.ts H' (fun r => r = pe.r)),
              RelX F ds ρ2 S2 ⟨put (ov (fun p => listed.getD (pre.getD p 0) false) 0 (tr.map TE.T) ts0) oi.dst r, H'⟩ a' w' → Ext ρ' S' w ρ2 S2 w' →
              runQ TY C wr ops (clos [] ops.toList) fl rr pend ⟨put (ov (fun _ => true) 0 (tr.map TE.T) ts0) oi.dst r, H'⟩ N → wpAnyIn Fe dn P .any ops Q fuel (listed.setIfInBounds i true) a' w' := by
            rintro a' w' r H' ρ2 S2 ⟨vput, rfl⟩ Hnew h1 h2 h3
            obtain ⟨ps, rest2, tr2, pend2, q1, q2, q3, q4, q5, q6, q7⟩ := runQ_pures rr pend _ _ N h3
            have hT : ∀ b : List AV, put b oi.dst r = setAll b (TE.T ⟨oi.dst, r, [], []⟩) := fun b => put_eq b ⟨oi.dst, r, [], []⟩
            have hpsn : ∀ (m j : Nat), ps[m]? = some j → listed.getD j false = false ∧ j ≠ i := by
              intro m j hm
              have hj : l[pre.length + (m + 1)]? = some j := by
                rw [I.all, hre, q1, List.getElem?_append_right (by omega)]
                simp [List.getElem?_append_left (List.getElem?_eq_some_iff.1 hm).1, hm]
              refine ⟨?_, fun he => ?_⟩
              · cases hc : listed.getD j false with
                | false => rfl
                | true =>
                  rcases I.inp j hc with hjp | hjf
                  · obtain ⟨p2, hp2⟩ := List.getElem?_of_mem hjp
                    have := nodup _ _ _ (at_pre hp2) hj
                    have := (List.getElem?_eq_some_iff.1 hp2).1
                    omega
                  · obtain ⟨o2, _, m1, m2, _⟩ := Sq.f1 j hjf
                    have := q2 j (List.mem_of_getElem? hm)
                    unfold effAt at this
                    rw [m1] at this
                    simp [fltOp_pure m2] at this
              · subst he
                have := nodup _ _ _ he_at hj
                omega
            have hpre' : ∀ m, (pre ++ i :: ps).getD m 0 = if m < pre.length then pre.getD m 0 else (i :: ps).getD (m - pre.length) 0 := fun m => by
              simp only [List.getD_eq_getElem?_getD]
              split
              · rw [List.getElem?_append_left (by assumption)]
              · rw [List.getElem?_append_right (by omega)]
            have tmap : (tr ++ (⟨oi.dst, r, [], []⟩ :: tr2)).map TE.T = tr.map TE.T ++ (TE.T ⟨oi.dst, r, [], []⟩ :: tr2.map TE.T) := by simp
            have hnl : (tr.map TE.T).length = pre.length := by simp [I.len]
            have eTrue : ov (fun _ => true) 0 ((tr ++ (⟨oi.dst, r, [], []⟩ :: tr2)).map TE.T) ts0 = ov (fun _ => true) 0 (tr2.map TE.T) (put (ov (fun _ => true) 0 (tr.map TE.T) ts0) oi.dst r) := by
              rw [tmap, ov_app, ov, ov_from, hT]
            have eNow : ov (fun p => (listed.setIfInBounds i true).getD ((pre ++ i :: ps).getD p 0) false) 0 ((tr ++ (⟨oi.dst, r, [], []⟩ :: tr2)).map TE.T) ts0 = put (ov (fun p => listed.getD (pre.getD p 0) false) 0 (tr.map TE.T) ts0) oi.dst r := by
              rw [tmap, ov_app, Nat.zero_add, hnl, ov]
              have k1 : (listed.setIfInBounds i true).getD ((pre ++ i :: ps).getD pre.length 0) false = true := by
                rw [hpre', if_neg (by omega), Nat.sub_self, gd]; simp
              rw [k1]
              rw [ov_offL _ _ _ (fun m hm hml => by
                rw [hpre', if_neg (by omega)]
                obtain ⟨q, rfl⟩ : ∃ q, m = pre.length + (q + 1) := ⟨m - pre.length - 1, by omega⟩
                have hq : q < ps.length := by simp [q4] at hml; omega
                have hpq : ps[q]? = some ps[q] := by simp [hq]
                obtain ⟨n1, n2⟩ := hpsn q _ hpq
                rw [show pre.length + (q + 1) - pre.length = q + 1 by omega, show (i :: ps).getD (q + 1) 0 = ps[q] by simp [List.getD_eq_getElem?_getD, hq], gd, n1]
                simpa using n2)]
              rw [hT]
              refine congrArg (fun b => setAll b (TE.T ⟨oi.dst, r, [], []⟩)) (ov_same _ _ _ fun m hm => ?_)
              rw [hnl] at hm
              have h1 := hpre' m
              rw [if_pos hm] at h1
              have h2 := hnotin m hm
              simp only [Nat.zero_add, h1, gd]
              rw [show (pre.getD m 0 == i) = false by simpa using h2, Bool.false_or]
            have wasl : ∀ j, j ∉ pre ++ i :: ps → (listed.setIfInBounds i true).getD j false = true → listed.getD j false = true ∧ j ∉ pre := fun j hj hl => by
              rw [gd, Bool.or_eq_true, beq_iff_eq] at hl
              refine ⟨hl.resolve_left fun h => hj (by rw [h]; simp), fun h => hj (List.mem_append_left _ h)⟩
            refine ih _ _ w' (by simp [hs]) hdn' hcome ⟨pre ++ i :: ps, rest2, tr ++ (⟨oi.dst, r, [], []⟩ :: tr2), pend2, H', ρ2, S2, bf, ⟨by rw [I.all, hre, q1]; simp, by simp [I.len, q4], fun j hj => ?_, fun j hj he => ?_, by rw [eTrue]; exact q5, by rw [eNow]; exact h1, I.ext.trans h2, fun p j o te hp ho ht => ?_,
              fun j oj d hl hj ho hd => ?_, fun x y hx hxp hy hyp he => I.bfi x y (wasl x hxp hx).1 (wasl x hxp hx).2 (wasl y hyp hy).1 (wasl y hyp hy).2 he⟩, q3⟩
            · rw [gd, Bool.or_eq_true, beq_iff_eq] at hj
              rcases hj with rfl | hj
              · exact .inl (by simp)
              · rcases I.inp j hj with hj | hj
                · exact .inl (List.mem_append_left _ hj)
                · exact .inr hj
            · rw [gd]
              rcases List.mem_append.1 hj with hj | hj
              · rw [I.eff j hj he]; simp
              · rcases List.mem_cons.1 hj with rfl | hj
                · simp
                · rw [q2 j hj] at he; cases he
            · rcases Nat.lt_trichotomy p pre.length with hlt1 | rfl | hgt1
              · rw [List.getElem?_append_left hlt1] at hp
                rw [List.getElem?_append_left (by rw [I.len]; exact hlt1)] at ht
                obtain ⟨k1, k2⟩ := I.stp p j o te hp ho ht
                refine ⟨k1, fun hu => ?_⟩
                rw [gd, Bool.or_eq_false_iff] at hu
                rw [tmap, ov_pre (Dn' := fun m => decide (m < p)) _ _ _ (fun m _ => rfl) (fun m hm => by rw [hnl] at hm; simp; omega)]
                refine (k2 hu.2).step ho q6 ?_
                rcases Hnew with h4 | h4
                · exact .inl h4
                · refine .inr fun pe hpe hpj => ?_
                  rcases h4 pe hpe with h5 | h5
                  · have := anc _ h5
                    rw [hpj, hu.2] at this; cases this
                  · exact h5
              · rw [List.getElem?_append_right (Nat.le_refl _)] at hp
                rw [List.getElem?_append_right (by rw [I.len]; exact Nat.le_refl _)] at ht
                simp [I.len] at hp ht
                subst hp; subst ht
                rw [hoi] at ho; cases ho
                refine ⟨rfl, fun hu => ?_⟩
                rw [gd] at hu; simp at hu
              · obtain ⟨p2, rfl⟩ : ∃ p2, p = pre.length + (p2 + 1) := ⟨p - pre.length - 1, by omega⟩
                rw [List.getElem?_append_right (by omega)] at hp
                rw [List.getElem?_append_right (by rw [I.len]; omega)] at ht
                rw [show pre.length + (p2 + 1) - pre.length = p2 + 1 by omega, List.getElem?_cons_succ] at hp
                rw [I.len, show pre.length + (p2 + 1) - pre.length = p2 + 1 by omega, List.getElem?_cons_succ] at ht
                obtain ⟨k1, k2⟩ := q7 p2 j o te hp ho ht
                refine ⟨k1, fun _ => ?_⟩
                have e1 : ov (fun m => decide (m < pre.length + (p2 + 1))) 0 ((tr ++ (⟨oi.dst, r, [], []⟩ :: tr2)).map TE.T) ts0 = ov (fun m => decide (m < p2)) 0 (tr2.map TE.T) (put (ov (fun _ => true) 0 (tr.map TE.T) ts0) oi.dst r) := by
                  rw [tmap, ov_app, Nat.zero_add, hnl, ov]
                  rw [show decide (pre.length < pre.length + (p2 + 1)) = true by simp]
                  rw [ov_from, hT]
                  have e2 : (fun m => decide (pre.length + 1 + m < pre.length + (p2 + 1))) = fun m => decide (m < p2) := by
                    funext m; exact decide_eq_decide.2 ⟨fun h => by omega, fun h => by omega⟩
                  rw [e2]
                  refine congrArg (fun b => ov (fun m => decide (m < p2)) 0 (tr2.map TE.T) (setAll b (TE.T ⟨oi.dst, r, [], []⟩))) (ov_same _ _ _ fun m hm => ?_)
                  rw [hnl] at hm
                  exact decide_eq_true (by omega)
                rw [e1]; exact k2
            · obtain ⟨hlj, hjp⟩ := wasl j hj hl
              have hjf : fl.contains j = true := (I.inp j hlj).resolve_left hjp
              obtain ⟨val2, B2, v2, e1, e2, e3, e4⟩ := I.early j oj d hlj hjp ho hd
              obtain ⟨o2, d2, m1, _, _, m2, m3⟩ := Sq.f1 j hjf
              rw [ho] at m1; cases m1
              rw [hd] at m2; cases m2
              refine ⟨val2, B2, v2, fun v' hv' => e1 v' (by rw [put_other (m3 i oi (fun h => hj (by rw [← h]; simp)) hoi)] at hv'; exact hv'), e2, e3.keep h2, fun wr' ts' H' N' hx => e4 wr' ts' H' N' fun x hx' => (hx x hx').trans ?_⟩
              have hjr : j ∈ rest2 := by
                have k1 := hmem j (Array.getElem?_eq_some_iff.1 ho).1
                rw [I.all, hre, q1] at k1
                rcases List.mem_append.1 k1 with k1 | k1
                · exact absurd k1 hjp
                · rw [← List.cons_append] at k1
                  rcases List.mem_append.1 k1 with k1 | k1
                  · exact absurd (List.mem_append_right _ k1) hj
                  · exact k1
              -- what comes between writes nothing that it looks at
              have far : ∀ x ox t, x ∈ i :: ps → ops[x]? = some ox → ox.dst = some t → (oj.looksAt ops).contains t = false := fun x ox t hx hox hdt => by
                obtain ⟨p, q, k1, k2, k3⟩ := Sq.apart (pre := pre ++ i :: ps) (rest := rest2) (by rw [I.all, hre, q1]; simp) (i := x) (List.mem_append_right _ hx) hjr
                obtain ⟨_, k4⟩ := pairOk_spec (pairs p q x j k1 k2 k3).1
                rcases k4 with k4 | ⟨_, k4⟩
                · exfalso
                  have hlx := hcl j x hlj k4
                  rcases List.mem_cons.1 hx with rfl | hx
                  · rw [hDi] at hlx; cases hlx
                  · obtain ⟨m, hm⟩ := List.getElem?_of_mem hx
                    rw [(hpsn m x hm).1] at hlx; cases hlx
                · have k5 := k4 ox oj hox ho
                  unfold conflT at k5
                  rw [hdt] at k5
                  cases hc : (oj.looksAt ops).contains t with
                  | false => rfl
                  | true => simp only [hc, Bool.true_or] at k5; cases k5
              cases x with
              | tmp t =>
                have hlk := looks_operand (ops := ops) hx'
                rw [evO_tmp, evO_tmp]
                rw [List.getD_eq_getElem?_getD, List.getD_eq_getElem?_getD]
                congr 1
                rw [tmap, ov_app, Nat.zero_add, hnl]
                rw [ov_congr (D := fun _ => true) (D' := fun _ => false) (k := t) (TE.T ⟨oi.dst, r, [], []⟩ :: tr2.map TE.T) pre.length (ov (fun _ => true) 0 (tr.map TE.T) ts0) _ rfl rfl (fun m wm hm hkey => ?_), ov_none _ _ _ (fun _ => rfl)]
                exfalso
                cases m with
                | zero =>
                  simp at hm
                  subst hm
                  have k1 := keyIn_T hkey
                  have := far i oi t List.mem_cons_self hoi k1
                  rw [hlk] at this; cases this
                | succ m =>
                  rw [List.getElem?_cons_succ, List.getElem?_map] at hm
                  cases htm : tr2[m]? with
                  | none => rw [htm] at hm; cases hm
                  | some tm =>
                    rw [htm] at hm
                    cases hm
                    have hml : m < ps.length := by rw [← q4]; exact (List.getElem?_eq_some_iff.1 htm).1
                    have hpm : ps[m]? = some ps[m] := by simp [hml]
                    have hjl : ps[m] < ops.size := hlt _ (by rw [I.all, hre, q1]; simp)
                    have hom : ops[ps[m]]? = some ops[ps[m]] := by simp [hjl]
                    have k1 := keyIn_T hkey
                    rw [(q7 m _ _ tm hpm hom htm).1] at k1
                    have := far _ _ t (List.mem_cons_of_mem _ (List.getElem_mem _)) hom k1
                    rw [hlk] at this; cases this
              | _ => rfl
          unfold wpOpIn
          rw [hoi]
          simp only
          rcases hcase with ⟨h1, _⟩ | ⟨_, hcase⟩
          · rw [hpf] at h1; cases h1
          · obtain ⟨_, hcase⟩ := hcase
            rcases hcase with ⟨t, c, g, want, hg, ht, hb, hc, hr⟩ | ⟨hg, hr⟩
            · have hb' := (ag t (looks_guard hg ht)).trans hb
              have hy : yielded ops a.tmps g ≠ some want := by
                rcases hc with rfl | rfl
                · rw [yielded_tmp ht I.rel.tmps hb']; simp
                · rw [yielded_none ht I.rel.tmps hb']; simp
              rw [if_neg (by simpa [Region.wanted, hg] using hy)]
              have h2 := Rel.put I.rel (Ext.refl _ _ _) I.rel.sok I.rel.heap (.tup [] #[] rfl (fun i c v hc => by simp at hc)) oi.dst
              exact ⟨fun f _ => hO.fn f, next _ _ (.tup []) H ρ' S' ⟨_, rfl⟩ (.inl rfl) h2 (Ext.refl _ _ _) hr⟩
            · have hw : Region.wanted oi (yielded ops a.tmps) = true := by
                rcases hg with hg | ⟨t, g, want, hg, ht, hb⟩
                · simp [Region.wanted, hg]
                · have hb' := (ag t (looks_guard hg ht)).trans hb
                  have hy := yielded_tmp ht I.rel.tmps hb'
                  simp [Region.wanted, hg, hy]
              rw [if_pos hw]
              refine Oper.wpIn_mono ?_ (effQ_sound hO hTY hC oi I.rel (effQ_congr agx hr))
              rintro a' w' ⟨r, H', ρ2, S2, hM, h2, h3, hv⟩
              obtain ⟨h4, h5⟩ := pendOk_spec hM
              exact next a' w' r H' ρ2 S2 hv (.inr h5) h2 h3 h4
  have hcome : toCome ops.size (Array.replicate ops.size false) = ops.size := by
    unfold toCome
    have : ∀ n, n ≤ ops.size → (List.range n).countP (fun i => !(Array.replicate ops.size false).getD i true) = n := by
      intro n
      induction n with
      | zero => intro _; simp
      | succ n ihn =>
        intro hn
        rw [List.range_succ, List.countP_append, ihn (by omega), List.countP_singleton]
        simp [show n < ops.size by omega]
    exact this _ (Nat.le_refl _)
  have hfalse : ∀ m, (Array.replicate ops.size false).getD m false = false := fun m => by
    by_cases h1 : m < ops.size
    · simp [h1]
    · simp [h1]
  obtain ⟨ps, rest2, tr2, pend2, q1, q2, q3, q4, q5, q6, q7⟩ := runQ_pures l [] ts0 st.heap N hrun
  refine main ops.size _ a0 w0 (by simp) (fun j o _ hd => ?_) hcome ⟨ps, rest2, tr2, pend2, st.heap, ρ, S, fun _ => 0, ⟨q1, q4, fun j hj => ?_, fun j hj he => ?_, q5, ?_, Ext.refl _ _ _, fun p j o te h1 h2 h3 => ⟨(q7 p j o te h1 h2 h3).1, fun _ => (q7 p j o te h1 h2 h3).2⟩,
    fun j o d hj => ?_, fun x y hx => ?_⟩, q3⟩
  · have hd : (Array.replicate ops.size false).getD j false = true := hd
    rw [hfalse] at hd; cases hd
  · rw [hfalse] at hj; cases hj
  · rw [q2 j hj] at he; cases he
  · rw [ov_none _ _ _ (fun m => hfalse _)]
    exact hR0
  · rw [hfalse] at hj; cases hj
  · rw [hfalse] at hx; cases hx
end
end
end Go.Vc

/- An executor of operations on known data: what it answers is what the rules ask. -/
namespace Go.Vc
open Go
noncomputable section
/-! ### Numbers -/
def wrapF (k : IntKind) (n : Int) : Int := match leI (lo k) n && leI n (hi k) with
  | true => n
  | false => k.wrap n
theorem wrapF_eq (k : IntKind) (n : Int) : wrapF k n = wrapS k n := by
  rw [wrapS_eq]
  unfold wrapF
  split
  · rename_i h
    rw [Bool.and_eq_true, leI_eq, leI_eq, decide_eq_true_eq, decide_eq_true_eq] at h
    exact (wrap_of_inK h).symm
  · rfl
def intO (op : BinOp) (k : IntKind) (a b : Int) : Option AV :=
  match op with
  | .add => some (.int k (wrapF k (a + b)))
  | .sub => some (.int k (wrapF k (a - b)))
  | .mul => some (.int k (wrapF k (a * b)))
  | .quo => match eqI b 0 with
    | true => none
    | false => match uns k with
      | true => some (.int k (wrapF k (a / b)))
      | false => some (.int k (wrapF k (a.tdiv b)))
  | .rem => match eqI b 0 with
    | true => none
    | false => match uns k with
      | true => some (.int k (a % b))
      | false => some (.int k (a.tmod b))
  | .and | .or | .xor | .andNot => some (.int k (bitsA op k a b))
  | .eql => some (.bool (eqI a b))
  | .neq => some (.bool (!(eqI a b)))
  | .lss => some (.bool (ltI a b))
  | .leq => some (.bool (leI a b))
  | .gtr => some (.bool (ltI b a))
  | .geq => some (.bool (leI b a))
  | _ => none
theorem intO_ok {op : BinOp} {k : IntKind} {a b : Int} {r : AV} {N : AV → Prop} (h : intO op k a b = some r) (hN : N r) : intA true op k a b N := by
  unfold intO at h
  unfold intA
  cases op <;> simp only [fitA] at h ⊢
  all_goals repeat' split at h
  all_goals first
    | (cases h; done)
    | (cases h; rw [← wrapF_eq]; exact hN)
    | (cases h; exact hN)
    | (cases h; rename_i h1 _ h2; rw [h1]; simp only; rw [h2]; simp only; first | exact hN | (rw [← wrapF_eq]; exact hN))
def shiftO (op : BinOp) (k : IntKind) (a b : Int) : Option AV := match leI 0 b with
  | true => (match op with
    | .shl => some (.int k (wrapF k (a * 2 ^ (min b.toNat k.bits))))
    | .shr => some (.int k (a.fdiv (2 ^ (min b.toNat k.bits))))
    | _ => none)
  | false => none
theorem shiftO_ok {op : BinOp} {k : IntKind} {a b : Int} {r : AV} {N : AV → Prop} (h : shiftO op k a b = some r) (hN : N r) : shiftA op k a b N := by
  unfold shiftO at h
  unfold shiftA
  split at h
  · rename_i hb
    rw [leI_eq, decide_eq_true_eq] at hb
    refine ⟨hb, ?_⟩
    split at h
    · cases h; simp only; rw [wrapF_eq, wrapS_eq] at hN; exact hN
    · cases h; exact hN
    · cases h
  · cases h
def lenOk (n : Nat) : Bool := Nat.ble n 9223372036854775807
theorem lenOk_le {n : Nat} (h : lenOk n = true) : n ≤ 9223372036854775807 := Nat.le_of_ble_eq_true h
def beqB : List UInt8 → List UInt8 → Bool
  | [], [] => true
  | a :: as, b :: bs => (match Nat.beq a.toNat b.toNat with | true => beqB as bs | false => false)
  | _, _ => false
theorem beqB_eq : ∀ (x y : List UInt8), beqB x y = (x == y)
  | [], [] => rfl
  | [], _ :: _ => rfl
  | _ :: _, [] => rfl
  | a :: as, b :: bs => by
    rw [beqB]
    have : (a :: as == b :: bs) = (a == b && (as == bs)) := rfl
    rw [this, ← beqB_eq as bs]
    cases h : Nat.beq a.toNat b.toNat with
    | true =>
      have h1 : a = b := UInt8.toNat_inj.1 (Nat.eq_of_beq_eq_true h)
      subst h1; simp
    | false =>
      have h1 : ¬ a = b := fun e => by subst e; rw [Nat.beq_refl] at h; cases h
      simp [h1]
def strO (op : BinOp) (x y : List UInt8) : Option AV :=
  match op with
  | .add => (match lenOk (x ++ y).length with | true => some (.str (x ++ y)) | false => none)
  | .eql => some (.bool (beqB x y))
  | .neq => some (.bool (!(beqB x y)))
  | .lss => some (.bool (Op.bytesLess x y))
  | .leq => some (.bool (Op.bytesLess x y || beqB x y))
  | .gtr => some (.bool (!(Op.bytesLess x y || beqB x y)))
  | .geq => some (.bool (!Op.bytesLess x y))
  | _ => none
theorem strO_ok {op : BinOp} {x y : List UInt8} {r : AV} {N : AV → Prop} (h : strO op x y = some r) (hN : N r) : strA op x y N := by
  unfold strO at h
  unfold strA
  cases op <;> simp only [beqB_eq] at h ⊢ <;> (try (cases h; exact hN)) <;> (try (cases h; done))
  split at h
  · rename_i hl; cases h; exact ⟨lenOk_le hl, hN⟩
  · cases h
/-! ### What touches no memory -/
def binO (TY : TypeId → Option TI) (op : BinOp) (t : TypeId) (x y : AV) : Option AV :=
  match x, y with
  | .int k a, .int k' b => (match op with
    | .shl => shiftO .shl k a b
    | .shr => shiftO .shr k a b
    | op => if k = k' then intO op k a b else none)
  | .str a, .str b => strO op a b
  | x, y => (match TY t with
    | none => none
    | some i => (match i.kind, x, y with
      | .bool, .bool a, .bool b => (match op with
        | .eql => some (.bool (a == b))
        | .neq => some (.bool (!(a == b)))
        | _ => none)
      | .struct _, .agg xs, .agg ys => if i.eqok = true then (match op with
        | .eql => (eqA TY 12 t (.agg xs) (.agg ys)).map .bool
        | .neq => (eqA TY 12 t (.agg xs) (.agg ys)).map fun r => .bool (!r)
        | _ => none) else none
      | k, x, y => (match op with
        | .eql => (nilEq k x y).map .bool
        | .neq => (nilEq k x y).map fun r => .bool (!r)
        | _ => none)))
theorem optP_map {α : Type} {o : Option α} {f : α → AV} {r : AV} {N : AV → Prop} (h : o.map f = some r) (hN : N r) : optP o fun x => N (f x) := by
  cases o with
  | none => cases h
  | some x => cases h; exact hN
theorem binO_ok {TY : TypeId → Option TI} {op : BinOp} {t : TypeId} {x y r : AV} {N : AV → Prop} (h : binO TY op t x y = some r) (hN : N r) : binA TY true op t x y N := by
  unfold binO at h
  unfold binA
  split at h
  · split at h
    · exact shiftO_ok h hN
    · exact shiftO_ok h hN
    · rename_i h1 h2
      split at h
      · rename_i hk
        have h3 := intO_ok h hN
        cases op <;> simp only [if_pos hk] at h1 h2 ⊢ <;> first | exact h3 | exact (h1 trivial).elim | exact (h2 trivial).elim | exact (h1 rfl).elim | exact (h2 rfl).elim
      · cases h
  · exact strO_ok h hN
  · rename_i hx hy
    split
    · exact absurd rfl (hx _ _ _ _ rfl)
    · exact absurd rfl (hy _ _ rfl)
    · split at h
      · cases h
      · rename_i i hi
        rw [hi]
        simp only
        split at h
        · split at h <;> first | (cases h; done) | (simp only [*]; cases h; exact hN)
        · split at h
          · rename_i he
            simp only [*, if_true]
            split at h <;> first | (cases h; done) | exact optP_map h hN
          · cases h
        · simp only [*]
          split at h <;> first | (cases h; done) | exact optP_map h hN
end
end Go.Vc

/- The executor: operations on memory. -/
namespace Go.Vc
open Go
noncomputable section
def allB (f : Nat → Bool) : Nat → Bool
  | 0 => true
  | e + 1 => f e && allB f e
theorem allB_spec {f : Nat → Bool} : ∀ {m : Nat}, allB f m = true → ∀ e, e < m → f e = true
  | 0, _, e, he => by omega
  | m + 1, h, e, he => by
    rw [allB, Bool.and_eq_true] at h
    rcases Nat.lt_succ_iff_lt_or_eq.1 he with h1 | h1
    · exact allB_spec h.2 e h1
    · subst h1; exact h.1
/-- A place in a row. -/
def inB (n : Int) (len : Nat) : Bool := leI 0 n && ltI n len
theorem inB_spec {n : Int} {len : Nat} (h : inB n len = true) : 0 ≤ n ∧ n < len := by
  unfold inB at h
  try simp only [HV.of] at h
  rw [Bool.and_eq_true, leI_eq, ltI_eq, decide_eq_true_eq, decide_eq_true_eq] at h
  exact h
def guardO {α : Type} (b : Bool) (x : Option α) : Option α := match b with | true => x | false => none
theorem guardO_some {α : Type} {b : Bool} {x : Option α} {r : α} (h : guardO b x = some r) : b = true ∧ x = some r := by
  cases b
  · cases h
  · exact ⟨rfl, h⟩
/-- What an operation does to own memory. -/
inductive Eff where
  | no
  | pu (b : Blk)
  | se (id : Nat) (b : Blk)
  | sp (id : Nat) (b c : Blk)
/-- A view of own memory: what an operation may ask of it. -/
structure HV where
  get : Nat → Option Blk
  len : Nat
abbrev HV.of (H : List Blk) : HV := ⟨fun i => H[i]?, H.length⟩
def ap (H : List Blk) : Eff → List Blk
  | .no => H
  | .pu b => H ++ [b]
  | .se id b => H.set id b
  | .sp id b c => H.set id b ++ [c]
section
variable {TY : TypeId → Option TI} {H : List Blk} {E : Eff} {r : AV} {N : AV → Prop} {M : AV → List Blk → Prop}
def pickO (c a b : AV) : Option AV := match c with
  | .bool t => (match t with | true => some a | false => some b)
  | _ => none
theorem pickO_ok {c a b : AV} (h : pickO c a b = some r) (hN : N r) : pickA c a b N := by
  unfold pickO at h
  try simp only [HV.of] at h
  unfold pickA
  split at h
  · split <;> (split at h <;> cases h <;> first | exact hN | (rename_i e1 _ _; cases e1; exact hN) | skip)
    all_goals first | exact hN | (simp_all; done)
  · cases h
def allocO (TY : TypeId → Option TI) (e : TypeId) (H : HV) : Option (AV × Eff) :=
  match TY e with
  | none => none
  | some i => match i.zero with
    | none => none
    | some z => match z with
      | .any => none
      | z => some (.ptr H.len 0, .pu (.var z.cells (some e)))
theorem allocO_ok {e : TypeId} (h : allocO TY e (HV.of H) = some (r, E)) (hN : M r (ap H E)) : allocA TY e H M := by
  unfold allocO at h
  try simp only [HV.of] at h
  unfold allocA
  split at h
  · cases h
  · split at h
    · cases h
    · split at h
      · cases h
      · simp only [*]
        cases h
        first
          | exact hN
          | (split
             · simp_all
             · exact hN)
def boxO (x : AV) (H : HV) : Option (AV × Eff) :=
  match x with
  | .any => none
  | x => some (.ptr H.len 0, .pu (.var x.cells))
theorem boxO_ok {x : AV} (h : boxO x (HV.of H) = some (r, E)) (hN : M r (ap H E)) : boxA x H M := by
  unfold boxO at h
  try simp only [HV.of] at h
  unfold boxA
  split at h
  · cases h
  · cases h
    split
    · simp_all
    · exact hN
def loadPO (TY : TypeId → Option TI) (t : TypeId) (p : AV) (H : HV) : Option AV :=
  match TY t with
  | none => none
  | some i => match p with
    | .ptr id j => match H.get id with
      | some (.var cs _) => loadA i cs j
      | _ => none
    | .eptr id sz e j => match H.get id with
      | some (.row sz' len get _) => guardO (Nat.beq sz sz') (guardO (Nat.blt e len) (loadA i (get e) j))
      | _ => none
    | .rptr cs j => loadA i cs j
    | _ => none
theorem optP_of {α : Type} {o : Option α} {x : α} {N : α → Prop} (h : o = some x) (hN : N x) : optP o N := by subst h; exact hN
theorem blt_lt {a b : Nat} (h : Nat.blt a b = true) : a < b := Nat.le_of_ble_eq_true h
theorem loadPO_ok {t : TypeId} {p : AV} (h : loadPO TY t p (HV.of H) = some r) (hN : N r) : loadPA TY t p H N := by
  unfold loadPO at h
  try simp only [HV.of] at h
  unfold loadPA
  split at h
  · cases h
  · simp only [*]
    split at h
    · split at h
      · simp only [*]; first | exact optP_of h hN | exact hN
      · cases h
    · split at h
      · simp only [*]
        obtain ⟨h1, h⟩ := guardO_some h
        obtain ⟨h2, h⟩ := guardO_some h
        rw [if_pos (Nat.eq_of_beq_eq_true h1)]
        first | exact ⟨blt_lt h2, optP_of h hN⟩ | exact ⟨blt_lt h2, hN⟩
      · cases h
    · first | exact optP_of h hN | exact hN
    · cases h
def storePO (TY : TypeId → Option TI) (t : TypeId) (p x : AV) (H : HV) : Option Eff :=
  match TY t with
  | none => none
  | some i => guardO (storable i x) (match p with
    | .ptr id j => match H.get id with
      | some (.var cs T) => guardO (Nat.ble (j + i.size) cs.length) (some (.se id (.var (over cs j x.cells) T)))
      | _ => none
    | .eptr id sz e j => match H.get id with
      | some (.row sz' len get T) => guardO (Nat.beq sz sz') (guardO (Nat.ble (j + i.size) sz) (guardO (Nat.blt e len) (some (.se id (.row sz len (fun k => mergeL (decide (k = e)) (over (get e) j x.cells) (get k)) T)))))
      | _ => none
    | _ => none)
theorem storePO_ok {t : TypeId} {p x : AV} {K : List Blk → Prop} (h : storePO TY t p x (HV.of H) = some E) (hN : K (ap H E)) : storePA TY t p x H K := by
  unfold storePO at h
  try simp only [HV.of] at h
  unfold storePA
  split at h
  · cases h
  · simp only [*]
    obtain ⟨h0, h⟩ := guardO_some h
    rw [if_pos h0]
    split at h
    · split at h
      · simp only [*]
        obtain ⟨h1, h⟩ := guardO_some h
        rw [if_pos (Nat.le_of_ble_eq_true h1)]
        cases h; exact hN
      · cases h
    · split at h
      · simp only [*]
        obtain ⟨h1, h⟩ := guardO_some h
        obtain ⟨h2, h⟩ := guardO_some h
        obtain ⟨h3, h⟩ := guardO_some h
        rw [if_pos (Nat.eq_of_beq_eq_true h1), if_pos (Nat.le_of_ble_eq_true h2)]
        cases h; exact ⟨blt_lt h3, hN⟩
      · cases h
    · cases h
def fieldAddrO (TY : TypeId → Option TI) (t : TypeId) (p : AV) (f : Nat) : Option AV :=
  match TY t with
  | none => none
  | some i => match i.kind with
    | .struct fs => match fs[f]? with
      | some (off, ft) => match TY ft with
        | some fi => (match Nat.beq fi.size 0 with
          | true => none
          | false => (match p with
            | .ptr id j => some (.ptr id (j + off))
            | .eptr id sz e j => some (.eptr id sz e (j + off))
            | .rptr cs j => some (.rptr cs (j + off))
            | _ => none))
        | none => none
      | none => none
    | _ => none
theorem fieldAddrO_ok {t : TypeId} {p : AV} {f : Nat} (h : fieldAddrO TY t p f = some r) (hN : N r) : fieldAddrA TY t p f N := by
  unfold fieldAddrO at h
  try simp only [HV.of] at h
  unfold fieldAddrA
  split at h
  · cases h
  · simp only [*]
    split at h
    · simp only [*]
      split at h
      · simp only [*]
        split at h
        · simp only [*]
          split at h
          · cases h
          · rename_i hs
            rw [if_neg (fun e => by rw [e] at hs; cases hs)]
            split at h <;> first | (cases h; done) | (cases h; exact hN)
        · cases h
      · cases h
    · cases h
def fieldO (TY : TypeId → Option TI) (t : TypeId) (x : AV) (f : Nat) : Option AV :=
  match TY t with
  | none => none
  | some i => match i.kind with
    | .struct fs => match fs[f]? with
      | some (off, ft) => match TY ft with
        | some fi => match x with
          | .agg cs => loadA fi cs off
          | _ => none
        | none => none
      | none => none
    | _ => none
theorem fieldO_ok {t : TypeId} {x : AV} {f : Nat} (h : fieldO TY t x f = some r) (hN : N r) : fieldA TY t x f N := by
  unfold fieldO at h
  try simp only [HV.of] at h
  unfold fieldA
  repeat' (split at h)
  all_goals first | (cases h; done) | (simp only [*]; first | exact optP_of h hN | exact hN)
def indexAddrO (TY : TypeId → Option TI) (t : TypeId) (x ix : AV) : Option AV :=
  match TY t, ix with
  | some i, .int _ n => match i.kind with
    | .slice e => match TY e with
      | some ei => match x with
        | .sl _ sz len get => guardO (Nat.beq sz ei.size) (guardO (inB n len) (some (.rptr (get n.toNat) 0)))
        | .osl id sz off len _ => guardO (Nat.beq sz ei.size) (guardO (inB n len) (some (.eptr id sz (off + n.toNat) 0)))
        | _ => none
      | none => none
    | .arr len e => match TY e with
      | some ei => guardO (inB n len) (match x with
        | .ptr id j => some (.ptr id (j + n.toNat * ei.size))
        | .eptr id sz e j => some (.eptr id sz e (j + n.toNat * ei.size))
        | .rptr cs j => some (.rptr cs (j + n.toNat * ei.size))
        | _ => none)
      | none => none
    | _ => none
  | _, _ => none
theorem indexAddrO_ok {t : TypeId} {x ix : AV} (h : indexAddrO TY t x ix = some r) (hN : N r) : indexAddrA TY t x ix N := by
  unfold indexAddrO at h
  try simp only [HV.of] at h
  unfold indexAddrA
  split at h
  · simp only [*]
    split at h
    · simp only [*]
      split at h
      · simp only [*]
        split at h
        · obtain ⟨h1, h⟩ := guardO_some h
          obtain ⟨h2, h⟩ := guardO_some h
          dsimp only
          rw [if_pos (Nat.eq_of_beq_eq_true h1)]
          cases h; exact ⟨inB_spec h2, hN⟩
        · obtain ⟨h1, h⟩ := guardO_some h
          obtain ⟨h2, h⟩ := guardO_some h
          dsimp only
          rw [if_pos (Nat.eq_of_beq_eq_true h1)]
          cases h; exact ⟨inB_spec h2, hN⟩
        · cases h
      · cases h
    · simp only [*]
      split at h
      · simp only [*]
        obtain ⟨h1, h⟩ := guardO_some h
        refine ⟨inB_spec h1, ?_⟩
        split at h <;> first | (cases h; done) | (cases h; exact hN)
      · cases h
    · cases h
  · cases h
def indexO (TY : TypeId → Option TI) (t : TypeId) (x ix : AV) : Option AV :=
  match TY t, ix, x with
  | some i, .int _ n, .str l => match i.kind with
    | .str => guardO (inB n l.length) (some (.int .u8 (l.getD n.toNat 0).toNat))
    | _ => none
  | _, _, _ => none
theorem indexO_ok {t : TypeId} {x ix : AV} (h : indexO TY t x ix = some r) (hN : N r) : indexA TY t x ix N := by
  unfold indexO at h
  try simp only [HV.of] at h
  unfold indexA
  split at h
  · simp only [*]
    split at h
    · simp only [*]
      obtain ⟨h1, h⟩ := guardO_some h
      cases h; exact ⟨inB_spec h1, hN⟩
    · cases h
  · cases h
def arrIndexO (TY : TypeId → Option TI) (t : TypeId) (x ix : AV) : Option AV :=
  match TY t, ix, x with
  | some i, .int _ n, .agg cs => match i.kind with
    | .arr len e => match TY e with
      | some ei => guardO (inB n len) (loadA ei cs (n.toNat * ei.size))
      | none => none
    | _ => none
  | _, _, _ => none
theorem arrIndexO_ok {t : TypeId} {x ix : AV} (h : arrIndexO TY t x ix = some r) (hN : N r) : arrIndexA TY t x ix N := by
  unfold arrIndexO at h
  try simp only [HV.of] at h
  unfold arrIndexA
  split at h
  · simp only [*]
    split at h
    · simp only [*]
      split at h
      · simp only [*]
        obtain ⟨h1, h⟩ := guardO_some h
        first | exact ⟨inB_spec h1, optP_of h hN⟩ | exact ⟨inB_spec h1, hN⟩
      · cases h
    · cases h
  · cases h
end
end
end Go.Vc

/- The executor: slices, structs, maps, built-in functions; all operations. -/
namespace Go.Vc
open Go
noncomputable section
section
variable {TY : TypeId → Option TI} {H : List Blk} {E : Eff} {r : AV} {N : AV → Prop} {M : AV → List Blk → Prop}
def bndO (x : Option AV) (d : Nat) : Option Nat := match x with
  | none => some d
  | some (.int _ n) => (match leI 0 n with | true => some n.toNat | false => none)
  | some _ => none
theorem bndO_ok {x : Option AV} {d a : Nat} {K : Nat → Prop} (h : bndO x d = some a) (hK : K a) : bndE x d K := by
  unfold bndO at h
  try simp only [HV.of] at h
  unfold bndE
  split at h
  · cases h; exact hK
  · split at h
    · rename_i h1
      rw [leI_eq, decide_eq_true_eq] at h1
      cases h; exact ⟨h1, hK⟩
    · cases h
  · cases h
def bnd2 (lo hi : Option AV) (d : Nat) (K : Nat → Nat → Option AV) : Option AV := match bndO lo 0, bndO hi d with
  | some a, some b => guardO (Nat.ble a b) (guardO (Nat.ble b d) (K a b))
  | _, _ => none
theorem bnd2_some {lo hi : Option AV} {d : Nat} {K : Nat → Nat → Option AV} (h : bnd2 lo hi d K = some r) : ∃ a b, bndO lo 0 = some a ∧ bndO hi d = some b ∧ a ≤ b ∧ b ≤ d ∧ K a b = some r := by
  unfold bnd2 at h
  try simp only [HV.of] at h
  split at h
  · obtain ⟨h1, h⟩ := guardO_some h
    obtain ⟨h2, h⟩ := guardO_some h
    exact ⟨_, _, by assumption, by assumption, Nat.le_of_ble_eq_true h1, Nat.le_of_ble_eq_true h2, h⟩
  · cases h
def sliceO (TY : TypeId → Option TI) (t : TypeId) (x : AV) (lo hi mx : Option AV) : Option AV :=
  match TY t with
  | none => none
  | some i => match i.kind, x, mx with
    | .str, .str l, none => bnd2 lo hi l.length fun a b => some (.str ((l.drop a).take (b - a)))
    | .slice e, .sl clip sz len get, none => match TY e with
      | some ei => guardO (Nat.beq sz ei.size) (bnd2 lo hi len fun a b => some (.sl (clip && hi.isNone) sz (b - a) (fun k => get (a + k))))
      | none => none
    | .slice e, .sl clip sz len get, some (.int _ n) => match TY e with
      | some ei => guardO (Nat.beq sz ei.size) (guardO hi.isSome (bnd2 lo hi len fun a b => guardO (eqI b n) (some (.sl true sz (b - a) (fun k => get (a + k))))))
      | none => none
    | .slice e, .osl id sz off len cap, none => match TY e with
      | some ei => guardO (Nat.beq sz ei.size) (bnd2 lo hi len fun a b => some (.osl id sz (off + a) (b - a) (cap.map (· - a))))
      | none => none
    | .slice e, .osl id sz off len _, some (.int _ n) => match TY e with
      | some ei => guardO (Nat.beq sz ei.size) (guardO hi.isSome (bnd2 lo hi len fun a b => guardO (eqI b n) (some (.osl id sz (off + a) (b - a) (some (b - a))))))
      | none => none
    | .slice e, .nilsl, none => match TY e with
      | some _ => bnd2 lo hi 0 fun _ _ => some .nilsl
      | none => none
    | .slice e, .nilsl, some (.int _ n) => match TY e with
      | some _ => guardO hi.isSome (bnd2 lo hi 0 fun _ b => guardO (eqI b n) (some .nilsl))
      | none => none
    | _, _, _ => none
theorem sliceO_ok {t : TypeId} {x : AV} {lo hi mx : Option AV} (h : sliceO TY t x lo hi mx = some r) (hN : N r) : sliceA TY t x lo hi mx N := by
  unfold sliceO at h
  try simp only [HV.of] at h
  unfold sliceA
  split at h
  · cases h
  · simp only [*]
    split at h
    · simp only [*]
      obtain ⟨a, b, h1, h2, h3, h4, h⟩ := bnd2_some h
      cases h
      exact bndO_ok h1 (bndO_ok h2 ⟨⟨h3, h4⟩, hN⟩)
    · simp only [*]
      split at h
      · simp only [*]
        obtain ⟨h0, h⟩ := guardO_some h
        obtain ⟨a, b, h1, h2, h3, h4, h⟩ := bnd2_some h
        cases h
        rw [if_pos (Nat.eq_of_beq_eq_true h0)]
        exact bndO_ok h1 (bndO_ok h2 ⟨⟨h3, h4⟩, hN⟩)
      · cases h
    · simp only [*]
      split at h
      · simp only [*]
        obtain ⟨h0, h⟩ := guardO_some h
        obtain ⟨h5, h⟩ := guardO_some h
        obtain ⟨a, b, h1, h2, h3, h4, h⟩ := bnd2_some h
        obtain ⟨h6, h⟩ := guardO_some h
        cases h
        rw [if_pos ⟨Nat.eq_of_beq_eq_true h0, h5⟩]
        rw [eqI_eq, beq_iff_eq] at h6
        exact bndO_ok h1 (bndO_ok h2 ⟨⟨h3, h4, h6⟩, hN⟩)
      · cases h
    · simp only [*]
      split at h
      · simp only [*]
        obtain ⟨h0, h⟩ := guardO_some h
        obtain ⟨a, b, h1, h2, h3, h4, h⟩ := bnd2_some h
        cases h
        rw [if_pos (Nat.eq_of_beq_eq_true h0)]
        exact bndO_ok h1 (bndO_ok h2 ⟨⟨h3, h4⟩, hN⟩)
      · cases h
    · simp only [*]
      split at h
      · simp only [*]
        obtain ⟨h0, h⟩ := guardO_some h
        obtain ⟨h5, h⟩ := guardO_some h
        obtain ⟨a, b, h1, h2, h3, h4, h⟩ := bnd2_some h
        obtain ⟨h6, h⟩ := guardO_some h
        cases h
        rw [if_pos ⟨Nat.eq_of_beq_eq_true h0, h5⟩]
        rw [eqI_eq, beq_iff_eq] at h6
        exact bndO_ok h1 (bndO_ok h2 ⟨⟨h3, h4, h6⟩, hN⟩)
      · cases h
    · simp only [*]
      split at h
      · simp only [*]
        obtain ⟨a, b, h1, h2, h3, h4, h⟩ := bnd2_some h
        cases h
        exact bndO_ok h1 (bndO_ok h2 ⟨⟨h3, h4⟩, hN⟩)
      · cases h
    · simp only [*]
      split at h
      · simp only [*]
        obtain ⟨h5, h⟩ := guardO_some h
        obtain ⟨a, b, h1, h2, h3, h4, h⟩ := bnd2_some h
        obtain ⟨h6, h⟩ := guardO_some h
        cases h
        rw [if_pos h5]
        rw [eqI_eq, beq_iff_eq] at h6
        exact bndO_ok h1 (bndO_ok h2 ⟨⟨h3, h4, h6⟩, hN⟩)
      · cases h
    · cases h
def buildO (TY : TypeId → Option TI) (t : TypeId) (parts : List (Nat × AV)) : Option AV :=
  match TY t with
  | none => none
  | some i => match i.zero with
    | none => none
    | some z => (match z.isAny with
      | true => none
      | false => (match i.kind with
        | .struct fs => guardO (fs.all (fun f => (TY f.2).isSome)) ((fillA (fun k => (fs[k]?).bind fun f => (TY f.2).map fun fi => (f.1, fi.size)) z.cells parts).map .agg)
        | .arr _ e => (match TY e with
          | some ei => (fillA (fun k => some (k * ei.size, ei.size)) z.cells parts).map .agg
          | none => none)
        | _ => none))
theorem buildO_ok {t : TypeId} {parts : List (Nat × AV)} (h : buildO TY t parts = some r) (hN : N r) : buildF TY t parts N := by
  rw [buildF_eq]
  unfold buildO at h
  try simp only [HV.of] at h
  unfold buildA
  split at h
  · cases h
  · simp only [*]
    split at h
    · cases h
    · simp only [*]
      split at h
      · cases h
      · rename_i hz
        rw [if_pos hz]
        split at h
        · simp only [*]
          obtain ⟨h1, h⟩ := guardO_some h
          rw [if_pos h1]
          exact optP_map h hN
        · simp only [*]
          split at h
          · simp only [*]; exact optP_map h hN
          · cases h
        · cases h
def buildSliceO (TY : TypeId → Option TI) (t : TypeId) (n : Nat) (parts : List (Nat × AV)) (H : HV) : Option (AV × Eff) :=
  match TY t with
  | none => none
  | some i => match i.kind with
    | .slice e => match TY e with
      | some ei => match ei.zero with
        | some z => (match z.isAny with
          | true => none
          | false => guardO (Nat.beq z.cells.length ei.size && (Nat.ble (n * ei.size) 16777216 && Nat.ble n 16777216) && parts.all (goodPart n ei.size))
              (some (.osl H.len ei.size 0 n (some n), .pu (.row ei.size n (litRow z.cells parts)))))
        | none => none
      | none => none
    | _ => none
theorem buildSliceO_ok {t : TypeId} {n : Nat} {parts : List (Nat × AV)} (h : buildSliceO TY t n parts (HV.of H) = some (r, E)) (hN : M r (ap H E)) : buildSliceA TY t n parts H M := by
  unfold buildSliceO at h
  try simp only [HV.of] at h
  unfold buildSliceA
  split at h
  · cases h
  · simp only [*]
    split at h
    · simp only [*]
      split at h
      · simp only [*]
        split at h
        · simp only [*]
          split at h
          · cases h
          · rename_i hz
            obtain ⟨h1, h⟩ := guardO_some h
            rw [Bool.and_eq_true, Bool.and_eq_true, Bool.and_eq_true] at h1
            obtain ⟨⟨h1, h2, h3⟩, h4⟩ := h1
            rw [if_pos ⟨hz, Nat.eq_of_beq_eq_true h1, ⟨Nat.le_of_ble_eq_true h2, Nat.le_of_ble_eq_true h3⟩, h4⟩]
            cases h; exact hN
        · cases h
      · cases h
    · cases h
def makeSliceO (TY : TypeId → Option TI) (t : TypeId) (l c : AV) (H : HV) : Option (AV × Eff) :=
  match TY t, l, c with
  | some i, .int _ l, .int _ c => match i.kind with
    | .slice e => match TY e with
      | some ei => match ei.zero with
        | some z => (match z.isAny with
          | true => none
          | false => guardO (Nat.beq z.cells.length ei.size && (leI 0 l && leI l c && leI ((ei.bytes : Int) * c) 281474976710656 && leI c 9223372036854775807))
              (some (.osl H.len ei.size 0 l.toNat (some c.toNat), .pu (.row ei.size c.toNat (fun _ => z.cells)))))
        | none => none
      | none => none
    | _ => none
  | _, _, _ => none
theorem makeSliceO_ok {t : TypeId} {l c : AV} (h : makeSliceO TY t l c (HV.of H) = some (r, E)) (hN : M r (ap H E)) : makeSliceA TY t l c H M := by
  unfold makeSliceO at h
  try simp only [HV.of] at h
  unfold makeSliceA
  split at h
  · simp only [*]
    split at h
    · simp only [*]
      split at h
      · simp only [*]
        split at h
        · simp only [*]
          split at h
          · cases h
          · rename_i hz
            obtain ⟨h1, h⟩ := guardO_some h
            simp only [Bool.and_eq_true, leI_eq, decide_eq_true_eq] at h1
            obtain ⟨h1, ⟨⟨h2, h3⟩, h4⟩, h5⟩ := h1
            rw [if_pos ⟨hz, Nat.eq_of_beq_eq_true h1⟩]
            cases h; exact ⟨⟨h2, h3, h4, h5⟩, hN⟩
        · cases h
      · cases h
    · cases h
  · cases h
def rowO (H : HV) (x : AV) : Option (Nat × Nat × (Nat → List AV)) :=
  match x with
  | .sl _ sz len get => some (sz, len, get)
  | .osl id sz off len _ => match H.get id with
    | some (.row sz' L get _) => guardO (Nat.beq sz sz') (guardO (Nat.ble (off + len) L) (some (sz, len, fun e => get (off + e))))
    | _ => none
  | _ => none
theorem rowO_ok {x : AV} {sz len : Nat} {get : Nat → List AV} {K : Nat → Nat → (Nat → List AV) → Prop} (h : rowO (HV.of H) x = some (sz, len, get)) (hK : K sz len get) : rowE H x K := by
  unfold rowO at h
  try simp only [HV.of] at h
  unfold rowE
  split at h
  · cases h; exact hK
  · split at h
    · simp only [*]
      obtain ⟨h1, h⟩ := guardO_some h
      obtain ⟨h2, h⟩ := guardO_some h
      rw [if_pos (Nat.eq_of_beq_eq_true h1)]
      cases h; exact ⟨Nat.le_of_ble_eq_true h2, hK⟩
    · cases h
  · cases h
def growB (ei : TI) (n : Nat) : Bool := Nat.ble (n * ei.bytes) 140737488355328 && Nat.ble n 9223372036854775807
theorem growB_ok {ei : TI} {n : Nat} (h : growB ei n = true) : growOk ei n := by
  unfold growB at h
  try simp only [HV.of] at h
  rw [Bool.and_eq_true] at h
  exact ⟨Nat.le_of_ble_eq_true h.1, Nat.le_of_ble_eq_true h.2⟩
def appRowO (T0 : Nat) (ei : TI) (s : AV) (m : Nat) (src : Nat → List AV) (H : HV) : Option (AV × Eff) :=
  match s with
  | .nilsl => (match Nat.beq m 0 with | true => some (.nilsl, .no) | false => guardO (growB ei m) (some (.osl H.len ei.size 0 m none, .pu (.row ei.size m src (some T0)))))
  | .sl true sz len get => guardO (Nat.beq sz ei.size)
      (match Nat.beq m 0 with | true => some (.sl true sz len get, .no) | false => guardO (growB ei (len + m)) (some (.osl H.len ei.size 0 (len + m) none, .pu (.row ei.size (len + m) (catRow len get src)))))
  | .osl id sz off len (some c) => match H.get id with
    | some (.row sz' L get T) => guardO (Nat.beq sz ei.size && Nat.beq sz' ei.size)
        (match Nat.ble (len + m) c with
         | true => guardO (Nat.ble (off + (len + m)) L && allB (fun e => (src e).all AV.one) m)
            (some (.osl id sz off (len + m) (some c), .se id (.row sz L (fun e => if off + len ≤ e ∧ e < off + len + m then src (e - (off + len)) else get e) T)))
         | false => guardO (Nat.ble (off + len) L && growB ei (len + m)) (some (.osl H.len sz 0 (len + m) none, .pu (.row sz (len + m) (catRow len (fun e => get (off + e)) src)))))
    | _ => none
  | .osl id sz 0 len none => match H.get id with
    | some (.row sz' L get T) => guardO (Nat.beq sz ei.size && Nat.beq sz' ei.size)
        (guardO (Nat.ble len L && growB ei (len + m) && allB (fun e => (src e).all AV.one) m) (some (.osl H.len sz 0 (len + m) none, .sp id .dead (.row sz (len + m) (catRow len get src) (appT T T0)))))
    | _ => none
  | _ => none
theorem appRowO_ok {T0 : Nat} {ei : TI} {s : AV} {m : Nat} {src : Nat → List AV} (h : appRowO T0 ei s m src (HV.of H) = some (r, E)) (hN : M r (ap H E)) : appRowB T0 ei s m src H M := by
  unfold appRowO at h
  try simp only [HV.of] at h
  unfold appRowB
  split at h
  · simp only
    split at h
    · simp only [*]; cases h; exact hN
    · simp only [*]
      obtain ⟨h1, h⟩ := guardO_some h
      cases h; exact ⟨growB_ok h1, hN⟩
  · obtain ⟨h0, h⟩ := guardO_some h
    simp only
    rw [if_pos (Nat.eq_of_beq_eq_true h0)]
    split at h
    · simp only [*]; cases h; exact hN
    · simp only [*]
      obtain ⟨h1, h⟩ := guardO_some h
      cases h; exact ⟨growB_ok h1, hN⟩
  · split at h
    · simp only [*]
      obtain ⟨h0, h⟩ := guardO_some h
      rw [Bool.and_eq_true] at h0
      rw [if_pos ⟨Nat.eq_of_beq_eq_true h0.1, Nat.eq_of_beq_eq_true h0.2⟩]
      split at h
      · simp only [*]
        obtain ⟨h1, h⟩ := guardO_some h
        rw [Bool.and_eq_true] at h1
        cases h; exact ⟨⟨Nat.le_of_ble_eq_true h1.1, allB_spec h1.2⟩, hN⟩
      · simp only [*]
        obtain ⟨h1, h⟩ := guardO_some h
        rw [Bool.and_eq_true] at h1
        cases h; exact ⟨⟨Nat.le_of_ble_eq_true h1.1, growB_ok h1.2⟩, hN⟩
    · cases h
  · split at h
    · simp only [appRow, *]
      obtain ⟨h0, h⟩ := guardO_some h
      rw [Bool.and_eq_true] at h0
      rw [if_pos ⟨Nat.eq_of_beq_eq_true h0.1, Nat.eq_of_beq_eq_true h0.2⟩]
      obtain ⟨h1, h⟩ := guardO_some h
      rw [Bool.and_eq_true, Bool.and_eq_true] at h1
      cases h; exact ⟨⟨Nat.le_of_ble_eq_true h1.1.1, growB_ok h1.1.2, allB_spec h1.2⟩, hN⟩
    · cases h
  · cases h
def appendO (TY : TypeId → Option TI) (t : TypeId) (s x : AV) (H : HV) : Option (AV × Eff) :=
  match TY t with
  | none => none
  | some i => match i.kind with
    | .slice e => match TY e with
      | some ei => match ei.zero with
        | some z => (match z.isAny with
          | true => none
          | false => guardO (Nat.beq z.cells.length ei.size && !(Nat.beq ei.size 0)) (match rowO H x with
            | some (sz, m, src) => guardO (Nat.beq sz ei.size) (appRowO e ei s m src H)
            | none => none))
        | none => none
      | none => none
    | _ => none
theorem beq_ne {a b : Nat} (h : (!(Nat.beq a b)) = true) : a ≠ b := fun e => by subst e; rw [Nat.beq_refl] at h; cases h
theorem appendO_ok {t : TypeId} {s x : AV} (h : appendO TY t s x (HV.of H) = some (r, E)) (hN : M r (ap H E)) : appendA TY t s x H M := by
  unfold appendO at h
  try simp only [HV.of] at h
  unfold appendA
  split at h
  · cases h
  · simp only [*]
    split at h
    · simp only [*]
      split at h
      · simp only [*]
        split at h
        · simp only [*]
          split at h
          · cases h
          · rename_i hz
            obtain ⟨h1, h⟩ := guardO_some h
            rw [Bool.and_eq_true] at h1
            rw [if_pos ⟨hz, Nat.eq_of_beq_eq_true h1.1, beq_ne h1.2⟩]
            split at h
            · rename_i hr
              obtain ⟨h2, h⟩ := guardO_some h
              exact rowO_ok hr (by rw [if_pos (Nat.eq_of_beq_eq_true h2)]; exact appRowO_ok h hN)
            · cases h
        · cases h
      · cases h
    · cases h
def appendSO (TY : TypeId → Option TI) (t u : TypeId) (s x : AV) (H : HV) : Option (AV × Eff) :=
  match TY t, TY u, x with
  | some i, some iu, .str l => (match i.kind, iu.kind with
    | .slice e, .str => (match TY e with
      | some ei => (match ei.zero with
        | some z => (match z.isAny with
          | true => none
          | false => guardO (Nat.beq z.cells.length ei.size && Nat.beq ei.size 1) (appRowO e ei s l.length (strRow l) H))
        | none => none)
      | none => none)
    | _, _ => none)
  | _, _, _ => none
theorem appendSO_ok {t u : TypeId} {s x : AV} (h : appendSO TY t u s x (HV.of H) = some (r, E)) (hN : M r (ap H E)) : appendS TY t u s x H M := by
  unfold appendSO at h
  try simp only [HV.of] at h
  unfold appendS
  split at h
  · simp only [*]
    split at h
    · simp only [*]
      split at h
      · simp only [*]
        split at h
        · simp only [*]
          split at h
          · cases h
          · rename_i hz
            obtain ⟨h1, h⟩ := guardO_some h
            rw [Bool.and_eq_true] at h1
            rw [if_pos ⟨hz, Nat.eq_of_beq_eq_true h1.1, Nat.eq_of_beq_eq_true h1.2⟩]
            exact appRowO_ok h hN
        · cases h
      · cases h
    · cases h
  · cases h
end
end
end Go.Vc
