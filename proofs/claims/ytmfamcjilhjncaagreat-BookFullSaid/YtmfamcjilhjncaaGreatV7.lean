/- The executor keeps its word, two: code. -/
import Derived.Test.YtmfamcjilhjncaaGreatV6
import Derived.Test.YtmfamcjilhjncaaGreatV5
import Derived.RangeFuncRecord
import Derived.RangeFuncNested
import Derived.LoopNIn
set_option linter.all false
namespace Go.Vc
open Go
noncomputable section
/-- The marks among an activation's deferred calls. -/
def DR (ρ : Nat → Option Nat) : List Nat → List Deferred → Prop
  | [], [] => True
  | id :: dl, d :: ds => (∃ b, ρ id = some b ∧ d = { target := .collected b, args := #[] }) ∧ DR ρ dl ds
  | _, _ => False
theorem DR.mono {ρ ρ' : Nat → Option Nat} (h : ∀ i b, ρ i = some b → ρ' i = some b) : ∀ {dl : List Nat} {ds : List Deferred}, DR ρ dl ds → DR ρ' dl ds
  | [], [], _ => trivial
  | _ :: _, _ :: _, ⟨⟨b, h1, h2⟩, h3⟩ => ⟨⟨b, h _ _ h1, h2⟩, DR.mono h h3⟩
/-- The very end that was reckoned. -/
def ReachE (F : Nat → Obj → Prop) (ρ : Nat → Option Nat) (S : Nat → Prop) (w : World) (e : Exit) (st' : St) (dl' : List Nat) (e' : Exit) (a' : Act) (w' : World) : Prop :=
  e' = e ∧ ∃ ds' ρ' S', DR ρ' dl' ds' ∧ RelX F ds' ρ' S' st' a' w' ∧ Ext ρ S w ρ' S' w'
/-- In which round the code runs. -/
def RndOk (ρ : Nat → Option Nat) (inR : Option Nat) (Fe : Fence) : Prop := match inR with
  | none => Fe.round = none
  | some id => ∃ l, Fe.round = some l ∧ ρ id = some l
section
variable {F : Nat → Obj → Prop} {P : Program} {TY : TypeId → Option TI} {call : CallO} {isFn : FuncId → Bool} {ord : Nat → Option RO} {inR : Option Nat} {Fe : Fence} {dn : Nat}
theorem ReachE.from {ρ : Nat → Option Nat} {S : Nat → Prop} {w : World} {ρ1 : Nat → Option Nat} {S1 : Nat → Prop} {w1 : World} {e e' : Exit} {st' : St} {dl' : List Nat} {a' : Act} {w' : World} (hE : Ext ρ S w ρ1 S1 w1) (h : ReachE F ρ1 S1 w1 e st' dl' e' a' w') : ReachE F ρ S w e st' dl' e' a' w' := by
  obtain ⟨h1, ds', ρ', S', h2, h3, h4⟩ := h
  exact ⟨h1, ds', ρ', S', h2, h3, hE.trans h4⟩
theorem RndOk.mono {ρ ρ' : Nat → Option Nat} (h : ∀ i b, ρ i = some b → ρ' i = some b) (hr : RndOk ρ inR Fe) : RndOk ρ' inR Fe := by
  unfold RndOk at hr ⊢
  cases inR with
  | none => exact hr
  | some id => obtain ⟨l, h1, h2⟩ := hr; exact ⟨l, h1, h _ _ h2⟩
theorem RelX.drew {ρ : Nat → Option Nat} {S : Nat → Prop} {w : World} {st : St} {a : Act} {ds : List Deferred} (h : RelX F ds ρ S st a w) : RelX F ds ρ S st a w.drew :=
  ⟨⟨h.defers, h.tmps.mono (ext_drew ρ S w), hrel_drew h.heap⟩, h.sok.still (ext_drew ρ S w)⟩
/-- A block that holds no cells becomes another. -/
theorem ext_put {ρ : Nat → Option Nat} {S : Nat → Prop} {w : World} {H : List Blk} (hH : HRel ρ S w H) {id b : Nat} {x : XB} {o new : Obj} (hid : H[id]? = some (.ext x)) (hr : ρ id = some b) (ho : w.heap[b]? = some o) (hnc : ∀ arr T fr, o ≠ .cells arr T fr) :
    Ext ρ S w ρ S (w.putObj b new) := by
  obtain ⟨hns, _⟩ := (hH.blk id _ hid) b hr
  refine ext_upd hH hr hns World.putObj_size (fun k hk => World.putObj_heap_other hk) (fun arr T fr hc => ?_) rfl rfl rfl
  rw [ho] at hc; cases hc; exact absurd rfl (hnc _ _ _)
theorem hrel_put {ρ : Nat → Option Nat} {S : Nat → Prop} {w : World} {H : List Blk} (hH : HRel ρ S w H) {id b : Nat} {x y : XB} {o new : Obj} (hid : H[id]? = some (.ext x)) (hr : ρ id = some b) (ho : w.heap[b]? = some o) (hnc : ∀ arr T fr, o ≠ .cells arr T fr)
    (hy : XRel ρ S (w.putObj b new) y new) : HRel ρ S (w.putObj b new) (H.set id (.ext y)) := by
  obtain ⟨hns, _⟩ := (hH.blk id _ hid) b hr
  refine hrel_upd hH hid rfl hr (ext_put hH hid hr ho hnc) World.putObj_size (fun k hk => World.putObj_heap_other hk) (fun b' hb' => ?_)
  rw [hr] at hb'; cases hb'
  exact ⟨hns, new, World.putObj_heap_same (lt_of_some ho), hy⟩
/-- The loop's record, as it lies. -/
theorem loop_at {ρ : Nat → Option Nat} {S : Nat → Prop} {w : World} {H : List Blk} (hH : HRel ρ S w H) {id l : Nat} {s : LoopState} {pend : Option Code} {ts : List AV} {ps : Array Tmp} {asg body : Code} {df : Nat} (hid : H[id]? = some (.ext (.loop s pend ts ps asg body df))) (hr : ρ id = some l) :
    ∃ fn tm d, w.heap[l]? = some (.loop { state := s, pending := pend, fn := fn, tmps := tm, params := ps, assign := asg, body := body, defers := d }) ∧ TRel ρ S w ts tm ∧ ρ df = some d := by
  obtain ⟨_, o, h1, fn, tm, d, rfl, h2, h3⟩ := (hH.blk id _ hid) l hr
  exact ⟨fn, tm, d, h1, h2, h3⟩
theorem endO_sound (hO : Open Fe) {ρ : Nat → Option Nat} {S : Nat → Prop} {w : World} {ts : List AV} {H : List Blk} {a : Act} {ds : List Deferred} {id l : Nat} {dl dl' : List Nat} {e : Exit} {st' : St} (hR : RelX F ds ρ S ⟨ts, H⟩ a w) (hid : ρ id = some l) (hD : DR ρ dl ds)
    (h : endO id ts dl H = some (e, st', dl')) : ∃ jump w4, (Instr.endLoop l).run P w = .ok jump w4 ∧ (match jump with
      | none => ReachE F ρ S w e st' dl' .normal a w4
      | some c => c.wpIn Fe dn P (ReachE F ρ S w e st' dl') a w4) := by
  unfold endO at h
  try simp only [getO_arr] at h
  try simp only [getO_eq, lenU_eq] at h
  split at h
  · rename_i s pend ts' ps asg body df hb
    split at h
    · cases h
    · rename_i hs
      rw [setHZ_eq] at h
      obtain ⟨fn, tm, d, h1, h2, h3⟩ := loop_at hR.heap hb hid
      refine ⟨pend, _, run_endLoop h1 (by simpa using hs), ?_⟩
      have hnc : ∀ arr T fr, Obj.loop { state := s, pending := pend, fn := fn, tmps := tm, params := ps, assign := asg, body := body, defers := d } ≠ .cells arr T fr := fun _ _ _ h => by cases h
      have hE := ext_put (new := .loop { state := .exhausted, pending := pend, fn := fn, tmps := tm, params := ps, assign := asg, body := body, defers := d }) hR.heap hb hid h1 hnc
      have hH' := hrel_put (y := .loop .exhausted pend ts' ps asg body df) (new := .loop { state := .exhausted, pending := pend, fn := fn, tmps := tm, params := ps, assign := asg, body := body, defers := d }) hR.heap hb hid h1 hnc ⟨fn, tm, d, rfl, h2.mono hE, h3⟩
      have fin : RelX F ds ρ S ⟨ts, H.set id (.ext (.loop .exhausted pend ts' ps asg body df))⟩ a (w.putObj l (.loop { state := .exhausted, pending := pend, fn := fn, tmps := tm, params := ps, assign := asg, body := body, defers := d })) :=
        ⟨⟨hR.defers, hR.tmps.mono hE, hH'⟩, hR.sok.still hE⟩
      split at h
      · cases h; exact ⟨rfl, ds, ρ, S, hD, fin, hE⟩
      · cases h; exact wpIn_ret ⟨rfl, ds, ρ, S, hD, fin, hE⟩
      · cases h; exact wpIn_exit ⟨rfl, ds, ρ, S, hD, fin, hE⟩
      · cases h
  · cases h
theorem iterO_not (f : St → List Nat → Out) : ∀ (n : Nat) (st : St) (dl : List Nat) (st' : St) (dl' : List Nat), ¬ iterO f n st dl = some (.normal, st', dl')
  | 0, _, _, _, _, h => by cases h
  | n + 1, st, dl, st', dl', h => by
    rw [iterO] at h
    split at h
    · rename_i e1 st1 dl1 hf
      cases e1 with
      | normal => exact iterO_not f n _ _ _ _ h
      | _ => cases h
    · cases h
theorem iterO_sound {c : Code} {Q : Exit → Act → World → Prop} {f : St → List Nat → Out} {I : St → List Nat → Act → World → Prop} {e : Exit} {st' : St} {dl' : List Nat}
    (step : ∀ st dl a w e1 st1 dl1, I st dl a w → f st dl = some (e1, st1, dl1) → c.wpIn Fe dn P (fun e' a' w' => e' = e1 ∧ I st1 dl1 a' w') a w) (hQ : ∀ a w, I st' dl' a w → Q e a w) :
    ∀ (n : Nat) st dl a w, I st dl a w → iterO f n st dl = some (e, st', dl') → e ≠ .normal ∧ Code.roundsIn Fe dn P c Q n a w
  | 0, st, dl, a, w, _, h => by cases h
  | n + 1, st, dl, a, w, hI, h => by
    rw [iterO] at h
    split at h
    · rename_i e1 st1 dl1 hf
      have hs := step st dl a w e1 st1 dl1 hI hf
      rw [roundsIn_succ]
      cases e1 with
      | normal =>
        simp only at h
        have : ∀ a w, I st1 dl1 a w → e ≠ .normal ∧ Code.roundsIn Fe dn P c Q n a w := fun a w hI => iterO_sound step hQ n st1 dl1 a w hI h
        refine ⟨?_, wpIn_mono hs ?_⟩
        · intro he
          subst he
          clear this
          exact absurd h (iterO_not f n st1 dl1 st' dl')
        · rintro e' a' w' ⟨rfl, hI'⟩
          exact (this a' w' hI').2
      | exit id =>
        cases h
        refine ⟨by simp, wpIn_mono hs ?_⟩
        rintro e' a' w' ⟨rfl, hI'⟩
        exact hQ a' w' hI'
      | ret =>
        cases h
        refine ⟨by simp, wpIn_mono hs ?_⟩
        rintro e' a' w' ⟨rfl, hI'⟩
        exact hQ a' w' hI'
      | goto l =>
        cases h
        refine ⟨by simp, wpIn_mono hs ?_⟩
        rintro e' a' w' ⟨rfl, hI'⟩
        exact hQ a' w' hI'
      | panic ch =>
        cases h
        refine ⟨by simp, wpIn_mono hs ?_⟩
        rintro e' a' w' ⟨rfl, hI'⟩
        exact hQ a' w' hI'
      | outgrown =>
        cases h
        refine ⟨by simp, wpIn_mono hs ?_⟩
        rintro e' a' w' ⟨rfl, hI'⟩
        exact hQ a' w' hI'
    · cases h
theorem rngO_sound (hO : Open Fe) (hE : ∀ g, isFn g = true → Ent P g ∧ Good F P g (KO call g)) {ρ : Nat → Option Nat} {S : Nat → Prop} {w : World} {st : St} {a : Act} {ds : List Deferred} {dl dl' : List Nat} {e : Exit} {st' : St} {f : Operand} {ps : Array Tmp} {asg body : Code}
    (hR : RelX F ds ρ S st a w) (hD : DR ρ dl ds) (hr : RndOk ρ inR Fe) (h : rngO call isFn inR f ps asg body st dl = some (e, st', dl')) : (Code.rangeFunc f ps asg body).wpIn Fe dn P (ReachE F ρ S w e st' dl') a w := by
  unfold rngO at h
  try simp only [getO_arr] at h
  try simp only [getO_eq, lenU_eq] at h
  split at h
  · rename_i g caps hg
    split at h
    · cases h
    · rename_i hfn
      obtain ⟨hent, hgood⟩ := hE g hfn
      have hfv := hR.tmps.eval f
      rw [hg] at hfv
      cases hev : a.eval f <;> rw [hev] at hfv <;> cases hfv
      rename_i vs hl hv
      have res : ∀ l w', (resolve a.eval (rangeCall f l) 0).run P w' = .ok ⟨.fn (.func g) vs, #[.func (.yield l) #[] #[]]⟩ w' := fun l w' => by
        have e0 : (#[Operand.const (.func (.yield l) #[] #[])] : Array Operand).map a.eval = #[.func (.yield l) #[] #[]] := by simp [Act.eval]
        simp only [resolve, rangeCall, hev, Deferred.ofValue, Sem.run_pure, e0, Array.empty_append]
      have inv : ∀ l w', (invoke (.fn (.func g) vs) #[.func (.yield l) #[] #[]]).run P w' = .ok (.enter g (#[.func (.yield l) #[] #[]] ++ vs)) w' := fun l w' => by
        simp only [invoke]
        exact hent _ w'
      have hargs : ∀ {ρ' S' w' l n}, Ext ρ S w ρ' S' w' → ρ' n = some l → VL ρ' S' w' (.yfn n :: caps) (#[.func (.yield l) #[] #[]] ++ vs) := fun {ρ' S' w' l n} hE' hn => by
        refine ⟨by simp [hl]; omega, fun i c v hc hv' => ?_⟩
        cases i with
        | zero =>
          rw [Array.getElem?_append_left (by simp)] at hv'
          simp at hc hv'
          subst hc; subst hv'
          exact .yfn n l hn
        | succ i =>
          rw [List.getElem?_cons_succ] at hc
          rw [Array.getElem?_append_right (by simp)] at hv'
          simp at hv'
          exact (hv i c v hc hv').mono hE'
      refine wpIn_rangeFunc fun fn _ => ?_
      cases inR with
      | none =>
        simp only [pushZ_eq, natZ_eq] at h
        split at h
        · rename_i r H' hcall
          have hrd : Fe.round = none := hr
          have hns := hR.sok.lt
          have hb1 : BRel (newρ ρ st.heap.length w.heap.size) S (w.alloc (.deferred (some []))) st.heap.length (.ext .dfr) := fun b hb => by
            rw [newρ_at] at hb; cases hb
            exact ⟨fun hs => Nat.lt_irrefl _ (hns _ hs), _, heap_alloc_at _ _, rfl⟩
          have hH1 := hrel_alloc hR.heap (.deferred (some [])) hb1
          have hE1 := ext_alloc hR.heap (.deferred (some []))
          generalize hL : Obj.loop { state := .ready, pending := none, fn := fn, tmps := a.tmps, params := ps, assign := asg, body := body, defers := w.heap.size } = L
          have hE2 := ext_alloc hH1 L
          have hlen : (st.heap ++ [Blk.ext .dfr]).length = st.heap.length + 1 := by simp
          have hb2 : BRel (newρ (newρ ρ st.heap.length w.heap.size) (st.heap ++ [Blk.ext .dfr]).length (w.alloc (.deferred (some []))).heap.size) S ((w.alloc (.deferred (some []))).alloc L) (st.heap ++ [Blk.ext .dfr]).length
              (.ext (.loop .ready none st.tmps ps asg body st.heap.length)) := fun b hb => by
            rw [newρ_at] at hb; cases hb
            exact ⟨fun hs => by have := hns _ hs; simp at this; omega, L, heap_alloc_at _ _, fn, a.tmps, w.heap.size, hL.symm, hR.tmps.mono (hE1.trans hE2), hE2.rho _ _ (newρ_at _ _)⟩
          have hH2 := hrel_alloc hH1 L hb2
          have hE12 := hE1.trans hE2
          have hl2 : (newρ (newρ ρ st.heap.length w.heap.size) (st.heap ++ [Blk.ext .dfr]).length (w.alloc (.deferred (some []))).heap.size) (st.heap.length + 1) = some (w.heap.size + 1) := by
            rw [← hlen, newρ_at]; simp
          refine ⟨w.heap.size + 1, _, _, _, _, g, _, _, by rw [hrd]; exact run_enterLoop_outer .., res _ _, fun f' _ => hO.fn f', inv _ _, hO.deep, hO.calls ?_⟩
          rw [hL]
          refine (hgood _ S _ _ _ _ (fun r1 H1 => r1 = r ∧ H1 = H') (hR.sok.still hE12) hH2 (hargs hE12 hl2) ⟨r, H', hcall, rfl, rfl⟩).mono ?_
          rintro e3 w3 ⟨v, c3, H3, ρ3, S3, rfl, ⟨rfl, rfl⟩, hv3, hH3, hE3, hs3⟩
          have hD3 : DR ρ3 (st.heap.length :: dl) ([{ target := .collected w.heap.size, args := #[] }] ++ a.defers) :=
            ⟨⟨w.heap.size, hE3.rho _ _ (hE2.rho _ _ (newρ_at _ _)), rfl⟩, by rw [hR.defers]; exact hD.mono (hE12.trans hE3).rho⟩
          obtain ⟨jump, w4, h1, h2⟩ := endO_sound (dn := dn) (ts := st.tmps) (H := H3) hO (a := { a with defers := [{ target := .collected w.heap.size, args := #[] }] ++ a.defers }) (F := F) (ds := [{ target := .collected w.heap.size, args := #[] }] ++ a.defers) ⟨⟨rfl, hR.tmps.mono (hE12.trans hE3), hH3⟩, hs3⟩ (hE3.rho _ _ hl2) hD3 h
          refine ⟨jump, w4, h1, ?_⟩
          cases jump with
          | none => exact h2.from (hE12.trans hE3)
          | some c => exact wpIn_mono h2 fun _ _ _ hq => hq.from (hE12.trans hE3)
        · cases h
      | some id =>
        obtain ⟨l0, hrd, hid⟩ := hr
        simp only [pushZ_eq, natZ_eq] at h
        split at h
        · rename_i s0 pend0 ts0 ps0 asg0 body0 df hb0
          split at h
          · rename_i r H' hcall
            have hns := hR.sok.lt
            obtain ⟨fn0, tm0, d0, h00, _, hdf⟩ := loop_at hR.heap hb0 hid
            generalize hL : Obj.loop { state := .ready, pending := none, fn := fn, tmps := a.tmps, params := ps, assign := asg, body := body, defers := d0 } = L
            have hE1 := ext_alloc hR.heap L
            have hb1 : BRel (newρ ρ st.heap.length w.heap.size) S (w.alloc L) st.heap.length (.ext (.loop .ready none st.tmps ps asg body df)) := fun b hb => by
              rw [newρ_at] at hb; cases hb
              exact ⟨fun hs => Nat.lt_irrefl _ (hns _ hs), L, heap_alloc_at _ _, fn, a.tmps, d0, hL.symm, hR.tmps.mono hE1, hE1.rho _ _ hdf⟩
            have hH1 := hrel_alloc hR.heap L hb1
            have hl2 : (newρ ρ st.heap.length w.heap.size) st.heap.length = some w.heap.size := newρ_at _ _
            refine ⟨w.heap.size, _, _, _, _, g, _, _, by rw [hrd]; exact run_enterLoop_inner h00 .., res _ _, fun f' _ => hO.fn f', inv _ _, hO.deep, hO.calls ?_⟩
            simp only
            rw [hL]
            refine (hgood _ S _ _ _ _ (fun r1 H1 => r1 = r ∧ H1 = H') (hR.sok.still hE1) hH1 (hargs hE1 hl2) ⟨r, H', hcall, rfl, rfl⟩).mono ?_
            rintro e3 w3 ⟨v, c3, H3, ρ3, S3, rfl, ⟨rfl, rfl⟩, hv3, hH3, hE3, hs3⟩
            obtain ⟨jump, w4, h1, h2⟩ := endO_sound (dn := dn) (ts := st.tmps) (H := H3) hO (a := { a with defers := [] ++ a.defers }) (F := F) (ds := ds) ⟨⟨hR.defers, hR.tmps.mono (hE1.trans hE3), hH3⟩, hs3⟩ (hE3.rho _ _ hl2) (hD.mono (hE1.trans hE3).rho) h
            refine ⟨jump, w4, h1, ?_⟩
            cases jump with
            | none => exact h2.from (hE1.trans hE3)
            | some c => exact wpIn_mono h2 fun _ _ _ hq => hq.from (hE1.trans hE3)
          · cases h
        · cases h
  · cases h
/-- Are the orders good, or is that looked at in time? -/
def okCR (ord : Nat → Option RO) (inR : Option Nat) (c : Code) : Prop := inR = none → okC ord c = true
theorem codeO_sound (hm : P.follows .mixedOrders = true) (hO : Open Fe) (hTY : TyOk P TY) (hC : CtrOk F P (CO call)) (hE : ∀ g, isFn g = true → Ent P g ∧ Good F P g (KO call g)) : ∀ (c : Code) {ρ : Nat → Option Nat} {S : Nat → Prop} {w : World} {st : St} {a : Act} {ds : List Deferred} {dl dl' : List Nat} {e : Exit} {st' : St},
    okCR ord inR c → RelX F ds ρ S st a w → DR ρ dl ds → RndOk ρ inR Fe → codeO TY call isFn ord inR c st dl = some (e, st', dl') → c.wpIn Fe dn P (ReachE F ρ S w e st' dl') a w := by
  intro c
  induction c with
  | skip =>
    intro ρ S w st a ds dl dl' e st' ho hR hD hr h
    rw [codeO] at h
    cases h
    exact wpIn_skip ⟨rfl, ds, ρ, S, hD, hR, Ext.refl _ _ _⟩
  | region id ops dr =>
    intro ρ S w st a ds dl dl' e st' ho hR hD hr h
    rw [codeO] at h
    split at h
    · rename_i st1 h1
      cases h
      unfold regionO at h1
      cases dr with
      | false =>
        refine wpIn_region_list (regO_sound hO hTY hC ops.toList hR h1 fun a' w' hq => ?_)
        obtain ⟨st2, ρ', S', rfl, h2, h3⟩ := hq
        exact ⟨rfl, ds, ρ', S', hD.mono h3.rho, h2, h3⟩
      | true =>
        have drawn : ∀ r : RO, r.cl = clos [] ops.toList → okQ ops r.l r.fl = true → drawO TY call ops r st = some st' → (Code.region id ops true).wpIn Fe dn P (ReachE F ρ S w .normal st' dl) a w := fun r hcl hok hd => by
          refine wpIn_region_any hm (drawQ_sound hO hTY hC hR.drew (N := fun s => s = st') (fun a' w' hq => ?_) (drawO_ok hcl hok hd rfl))
          obtain ⟨st2, ρ', S', rfl, h2, h3⟩ := hq
          have h4 := (ext_drew ρ S w).trans h3
          exact ⟨rfl, ds, ρ', S', hD.mono h4.rho, h2, h4⟩
        simp only at h1
        split at h1
        · split at h1
          · rename_i r hr'
            have := ho rfl
            rw [okC] at this
            simp only [hr', Bool.and_eq_true, decide_eq_true_eq] at this
            exact drawn r this.1 this.2 h1
          · cases h1
        · split at h1
          · rename_i hok
            exact drawn (ordC ops) rfl hok h1
          · cases h1
    · cases h
  | seq x y ihx ihy =>
    intro ρ S w st a ds dl dl' e st' ho hR hD hr h
    have hox : okCR ord inR x := fun hi => by have := ho hi; rw [okC, Bool.and_eq_true] at this; exact this.1
    have hoy : okCR ord inR y := fun hi => by have := ho hi; rw [okC, Bool.and_eq_true] at this; exact this.2
    rw [codeO] at h
    split at h
    · rename_i e1 st1 dl1 h1
      refine wpIn_seq (wpIn_mono (ihx hox hR hD hr h1) ?_)
      rintro e' a' w' ⟨rfl, ds', ρ', S', h2, h3, h4⟩
      cases e' with
      | normal => exact wpIn_mono (ihy hoy h3 h2 (hr.mono h4.rho) h) (fun _ _ _ hq => hq.from h4)
      | exit id => cases h; exact ⟨rfl, ds', ρ', S', h2, h3, h4⟩
      | goto l => cases h; exact ⟨rfl, ds', ρ', S', h2, h3, h4⟩
      | ret => cases h; exact ⟨rfl, ds', ρ', S', h2, h3, h4⟩
      | panic ch => cases h; exact ⟨rfl, ds', ρ', S', h2, h3, h4⟩
      | outgrown => cases h; exact ⟨rfl, ds', ρ', S', h2, h3, h4⟩
    · cases h
  | cond c x y ihx ihy =>
    intro ρ S w st a ds dl dl' e st' ho hR hD hr h
    have hox : okCR ord inR x := fun hi => by have := ho hi; rw [okC, Bool.and_eq_true] at this; exact this.1
    have hoy : okCR ord inR y := fun hi => by have := ho hi; rw [okC, Bool.and_eq_true] at this; exact this.2
    rw [codeO] at h
    split at h
    · rename_i b hb
      have hv := hR.tmps.eval c
      rw [hb] at hv
      have hv := hv.boolR
      split at h
      · exact wpIn_cond_true hv (ihx hox hR hD hr h)
      · exact wpIn_cond_false hv (ihy hoy hR hD hr h)
    · cases h
  | block id c ih =>
    intro ρ S w st a ds dl dl' e st' ho hR hD hr h
    have hoc : okCR ord inR c := fun hi => by have := ho hi; rw [okC] at this; exact this
    rw [codeO] at h
    split at h
    · rename_i e1 st1 dl1 h1
      refine wpIn_block (wpIn_mono (ih hoc hR hD hr h1) ?_)
      rintro e' a' w' ⟨rfl, ds', ρ', S', h2, h3, h4⟩
      cases e' with
      | normal => cases h; exact ⟨rfl, ds', ρ', S', h2, h3, h4⟩
      | exit id' =>
        simp only at h
        simp only [Exit.inBlock]
        split at h
        · rename_i hd
          cases h
          rw [if_pos (Nat.eq_of_beq_eq_true hd)]; exact ⟨rfl, ds', ρ', S', h2, h3, h4⟩
        · rename_i hd
          cases h
          rw [if_neg (Nat.ne_of_beq_eq_false hd)]; exact ⟨rfl, ds', ρ', S', h2, h3, h4⟩
      | goto l => cases h; exact ⟨rfl, ds', ρ', S', h2, h3, h4⟩
      | ret => cases h; exact ⟨rfl, ds', ρ', S', h2, h3, h4⟩
      | panic ch => cases h; exact ⟨rfl, ds', ρ', S', h2, h3, h4⟩
      | outgrown => cases h; exact ⟨rfl, ds', ρ', S', h2, h3, h4⟩
    · cases h
  | loop c ih =>
    intro ρ S w st a ds dl dl' e st' ho hR hD hr h
    have hoc : okCR ord inR c := fun hi => by have := ho hi; rw [okC] at this; exact this
    rw [codeO] at h
    refine wpIn_loop_rounds roundsMax (iterO_sound (I := fun st dl a w' => ∃ ds' ρ' S', DR ρ' dl ds' ∧ RelX F ds' ρ' S' st a w' ∧ Ext ρ S w ρ' S' w') (fun st dl a w2 e1 st1 dl1 hI hf => ?_) (fun a' w' hI => ⟨rfl, hI⟩) roundsMax st dl a w ⟨ds, ρ, S, hD, hR, Ext.refl _ _ _⟩ h).2
    obtain ⟨ds', ρ', S', h2, h3, h4⟩ := hI
    refine wpIn_mono (ih hoc h3 h2 (hr.mono h4.rho) hf) ?_
    rintro e' a' w' ⟨rfl, hq⟩
    obtain ⟨ds2, ρ2, S2, h5, h6, h7⟩ := hq
    exact ⟨rfl, ds2, ρ2, S2, h5, h6, h4.trans h7⟩
  | rangeFunc f ps asg body =>
    intro ρ S w st a ds dl dl' e st' ho hR hD hr h
    rw [codeO] at h
    exact rngO_sound hO hE hR hD hr h
  | exit id =>
    intro ρ S w st a ds dl dl' e st' ho hR hD hr h
    rw [codeO] at h
    cases h
    exact wpIn_exit ⟨rfl, ds, ρ, S, hD, hR, Ext.refl _ _ _⟩
  | ret =>
    intro ρ S w st a ds dl dl' e st' ho hR hD hr h
    rw [codeO] at h
    cases h
    exact wpIn_ret ⟨rfl, ds, ρ, S, hD, hR, Ext.refl _ _ _⟩
  | _ =>
    intro ρ S w st a ds dl dl' e st' ho hR hD hr h
    simp only [codeO] at h
    cases h
end
end
end Go.Vc

/- Results of a function. -/
namespace Go.Vc
open Go
noncomputable section
section
variable {F : Nat → Obj → Prop} {P : Program} {TY : TypeId → Option TI} {ρ : Nat → Option Nat} {S : Nat → Prop} {w : World} {ds : List Deferred}
/-! ### Results -/
def resE (TY : TypeId → Option TI) (st : St) : List ResultVar → (List AV → Prop) → Prop
  | [], K => K []
  | .tmp t :: rs, K => resE TY st rs fun cs => K (st.tmps.getD t .any :: cs)
  | .cell a t :: rs, K => loadPA TY t (st.tmps.getD a .any) st.heap fun c => resE TY st rs fun cs => K (c :: cs)
def resOut : List AV → AV
  | [c] => c
  | cs => .tup cs
def resM (tmps : Array Value) : ResultVar → Sem Value
  | .tmp t => pure (tmps.getD t undef)
  | .cell a t => do loadVar t (← asAddr (tmps.getD a undef))
theorem resE_ok (hTY : TyOk P TY) {st : St} {a : Act} (hR : RelX F ds ρ S st a w) : ∀ (rs : List ResultVar) (K : List AV → Prop), resE TY st rs K →
    ∃ (vs : List Value) (cs : List AV), (rs.mapM (resM a.tmps)).run P w = .ok vs w ∧ K cs ∧ cs.length = vs.length ∧ ∀ (i : Nat) (c : AV) (v : Value), cs[i]? = some c → vs[i]? = some v → V ρ S w c v
  | [], K, h => ⟨[], [], by simp, h, rfl, fun i c v hc => by simp at hc⟩
  | .tmp t :: rs, K, h => by
    obtain ⟨vs, cs, h1, h2, h3, h4⟩ := resE_ok hTY hR rs _ h
    refine ⟨a.tmps.getD t undef :: vs, st.tmps.getD t .any :: cs, by simp only [List.mapM_cons, resM, Sem.run_bind, Sem.run_pure, Result.andThen_ok, h1], h2, by simp [h3], fun i c v hc hv => ?_⟩
    cases i with
    | zero => simp only [List.getElem?_cons_zero, Option.some.injEq] at hc hv; subst hc; subst hv; exact evO_tmp st.tmps t ▸ hR.tmps.eval (.tmp t)
    | succ i => exact h4 i c v (by simpa using hc) (by simpa using hv)
  | .cell x t :: rs, K, h => by
    rw [resE] at h
    have hx : V ρ S w (st.tmps.getD x .any) (a.tmps.getD x undef) := evO_tmp st.tmps x ▸ hR.tmps.eval (.tmp x)
    obtain ⟨v0, c0, g1, g2, g3⟩ := loadPA_sound hTY hR.heap hx h
    have g1' : (do loadVar t (← asAddr (a.tmps.getD x undef)) : Sem Value).run P w = .ok v0 w := by
      unfold Instr.loadAt at g1
      have e : ∀ u : Value, (∃ ad, u = .pointer (some ad)) → (do loadVar t (← asAddr u) : Sem Value).run P w = (do loadVar t (← Instr.sureAddr u) : Sem Value).run P w := by
        rintro u ⟨ad, rfl⟩; simp [asAddr, Instr.sureAddr]
      rw [e]
      · exact g1
      · unfold loadPA at h
        split at h
        · exact h.elim
        · split at h
          · rename_i heq; rw [heq] at hx; obtain ⟨b, he, _⟩ := hx.ptrR; exact ⟨_, he⟩
          · rename_i heq; rw [heq] at hx; obtain ⟨b, he, _⟩ := hx.eptrR; exact ⟨_, he⟩
          · rename_i heq; rw [heq] at hx
            generalize a.tmps.getD x undef = u at hx
            cases hx; exact ⟨_, rfl⟩
          · exact h.elim
    obtain ⟨vs, cs, h1, h2, h3, h4⟩ := resE_ok hTY hR rs _ g2
    refine ⟨v0 :: vs, c0 :: cs, by simp only [List.mapM_cons, resM, Sem.run_bind, g1', Result.andThen_ok, h1, Sem.run_pure], h2, by simp [h3], fun i c v hc hv => ?_⟩
    cases i with
    | zero => simp only [List.getElem?_cons_zero, Option.some.injEq] at hc hv; subst hc; subst hv; exact g3
    | succ i => exact h4 i c v (by simpa using hc) (by simpa using hv)
theorem results_ok (hTY : TyOk P TY) {fn : Func} {st : St} {a : Act} (hR : RelX F ds ρ S st a w) {K : List AV → Prop} (h : resE TY st fn.results.toList K) :
    ∃ v cs, (results fn a.tmps).run P w = .ok v w ∧ K cs ∧ V ρ S w (resOut cs) v := by
  obtain ⟨vs, cs, h1, h2, h3, h4⟩ := resE_ok hTY hR _ _ h
  have e : results fn a.tmps = (do let vs ← fn.results.mapM (resM a.tmps); pure (if h : vs.size = 1 then vs[0] else .tuple vs)) := by
    unfold results
    congr 2
  have hm : (fn.results.mapM (resM a.tmps)).run P w = .ok vs.toArray w := by
    rw [Array.mapM_eq_mapM_toList]
    simp [h1]
  refine ⟨if h : vs.toArray.size = 1 then vs.toArray[0] else .tuple vs.toArray, cs, ?_, h2, ?_⟩
  · rw [e, Sem.run_bind, hm]
    simp
  · match cs, vs, h3, h4 with
    | [], [], _, _ => exact .tup _ _ (by simp) (fun i c v hc => by simp at hc)
    | [c], [v], _, h4 => exact h4 0 c v rfl rfl
    | c :: c' :: cs, v :: v' :: vs, h3, h4 =>
      have : ¬ (v :: v' :: vs).toArray.size = 1 := by simp
      rw [dif_neg this]
      exact .tup _ _ (by simpa using h3) (fun i c v hc hv => h4 i c v hc (by simpa using hv))
end
end
end Go.Vc

/- The executor keeps its word, three: functions, rounds. -/
namespace Go.Vc
open Go
noncomputable section
section
variable {F : Nat → Obj → Prop} {P : Program} {TY : TypeId → Option TI} {call : CallO} {isFn : FuncId → Bool} {ord : Nat → Option RO} {dn : Nat}
theorem resLO_ok {st : St} : ∀ {rs : List ResultVar} {cs : List AV} {K : List AV → Prop}, resLO TY st rs = some cs → K cs → resE TY st rs K
  | [], cs, K, h, hK => by cases h; exact hK
  | .tmp t :: rs, cs, K, h, hK => by
    rw [resLO] at h
    split at h
    · rename_i cs1 h1
      rw [headZ_eq] at h
      cases h
      exact resLO_ok (K := fun cs => K (st.tmps.getD t .any :: cs)) h1 hK
    · cases h
  | .cell a t :: rs, cs, K, h, hK => by
    rw [resLO] at h
    split at h
    · rename_i c hc
      split at h
      · rename_i cs1 h1
        rw [headZ_eq] at h
        cases h
        exact loadPO_ok hc (resLO_ok (K := fun cs => K (c :: cs)) h1 hK)
      · cases h
    · cases h
theorem resOutO_eq (cs : List AV) : resOutO cs = resOut cs := by
  match cs with
  | [] => rfl
  | [_] => rfl
  | _ :: _ :: _ => rfl
theorem leaves_shut {fn : Func} {tmps : Array Value} {R : Ending → World → Prop} {Fe : Fence} : ∀ {dl : List Nat} {ds : List Deferred} {ρ : Nat → Option Nat} {S : Nat → Prop} {w : World} {H H2 : List Blk}, DR ρ dl ds → HRel ρ S w H → shutO dl H = some H2 →
    (∀ w2, HRel ρ S w2 H2 → Ext ρ S w ρ S w2 → LeavesIn Fe dn P fn tmps R [] .returning w2) → LeavesInM Fe dn P fn tmps R ds .returning w
  | [], [], ρ, S, w, H, H2, _, hH, h, hk => by
    cases h
    exact hk w hH (Ext.refl _ _ _)
  | id :: dl, d :: ds, ρ, S, w, H, H2, ⟨⟨b, hb, hd⟩, hD⟩, hH, h, hk => by
    rw [shutO] at h
    try simp only [getO_arr] at h
    try simp only [getO_eq, lenU_eq] at h
    split at h
    · rename_i hid
      rw [setHZ_eq] at h
      obtain ⟨_, o, h1, h2⟩ := (hH.blk id _ hid) b hb
      have h2 : o = .deferred (some []) := h2
      subst h2
      have hnc : ∀ arr T fr, Obj.deferred (some []) ≠ .cells arr T fr := fun _ _ _ h => by cases h
      have hE := ext_put (new := .deferred none) hH hid hb h1 hnc
      have hH' : HRel ρ S (w.putObj b (.deferred none)) (H.set id .dead) := hrel_upd hH hid rfl hb hE World.putObj_size (fun k hk => World.putObj_heap_other hk) trivial
      exact ⟨by simp, .inl ⟨b, _, by rw [hd], run_takeDeferred h1, leaves_shut hD hH' h fun w2 h3 h4 => hk w2 h3 (hE.trans h4)⟩⟩
    · cases h
/-- What a call of a function comes to. -/
def Comes1 (F : Nat → Obj → Prop) (ρ : Nat → Option Nat) (S : Nat → Prop) (w : World) (Q : AV → List Blk → Prop) (e : Ending) (w' : World) : Prop :=
  ∃ v c H' ρ' S', e = .returned v ∧ Q c H' ∧ V ρ' S' w' c v ∧ HRel ρ' S' w' H' ∧ Ext ρ S w ρ' S' w' ∧ Sok F S' w'
theorem fnO_sound (hm : P.follows .mixedOrders = true) (hTY : TyOk P TY) (hC : CtrOk F P (CO call)) (hE : ∀ g, isFn g = true → Ent P g ∧ Good F P g (KO call g)) {f : FuncId} {fn : Func} (hf : P.funcs[f]? = some fn) (hok : ∀ c, fn.body = some c → okC ord c = true)
    {ρ : Nat → Option Nat} {S : Nat → Prop} {w : World} (hs : Sok F S w) {H : List Blk} (hH : HRel ρ S w H) {cs : List AV} {vs : Array Value} (hv : VL ρ S w cs vs) {r : AV} {H' : List Blk} {Q : AV → List Blk → Prop} (h : fnO TY call isFn ord fn cs H = some (r, H')) (hQ : Q r H') :
    Calls P f vs w (Comes1 F ρ S w Q) := by
  unfold fnO at h
  split at h
  · cases h
  · rename_i c hb
    split at h
    · rename_i e st dl hcode
      have hR : RelX F [] ρ S ⟨cs ++ List.replicate (fn.ntmps - cs.length) .any, H⟩ { tmps := vs ++ Array.replicate (fn.ntmps - vs.size) undef, defers := [] } w := by
        refine ⟨⟨rfl, ⟨by simp [hv.1], fun i c v hc hv' => ?_⟩, hH⟩, hs⟩
        simp only at hc hv'
        by_cases hlt : i < cs.length
        · rw [List.getElem?_append_left hlt] at hc
          rw [Array.getElem?_append_left (by have := hv.1; omega)] at hv'
          exact hv.2 i c v hc hv'
        · rw [List.getElem?_append_right (by omega), List.getElem?_replicate] at hc
          split at hc
          · cases hc; exact .any _
          · cases hc
      refine open_wide.callsOut (n := 0) (callsIn_of_wp_marks hf hb trivial (wpIn_mono (codeO_sound (Fe := Fence.wide) (dn := 0) (inR := none) (dl := []) hm open_wide hTY hC hE c (fun _ => hok c hb) hR trivial (show Fence.wide.round = none from rfl) hcode) ?_))
      rintro e' a' w' ⟨rfl, ds', ρ', S', hD, hR', hE'⟩
      have fin : outO TY fn.results.toList st dl = some (r, H') → LeavesInM Fence.wide 0 P fn a'.tmps (Comes1 F ρ S w Q) a'.defers .returning w' := by
        intro h
        unfold outO at h
        split at h
        · rename_i H2 hshut
          split at h
          · rename_i cs' hcs
            cases h
            rw [hR'.defers]
            refine leaves_shut hD hR'.heap hshut fun w2 h3 h4 => ?_
            have hR2 : RelX F ds' ρ' S' ⟨st.tmps, H'⟩ a' w2 := ⟨⟨hR'.defers, hR'.tmps.mono h4, h3⟩, hR'.sok.still h4⟩
            obtain ⟨v, cs2, g1, g2, g3⟩ := results_ok hTY hR2 (resLO_ok (K := fun cs => cs = cs') hcs rfl)
            subst g2
            exact ⟨v, g1, v, _, _, ρ', S', rfl, hQ, by rw [resOutO_eq]; exact g3, h3, hE'.trans h4, hR2.sok⟩
          · cases h
        · cases h
      cases e' with
      | normal => exact fin h
      | ret => exact fin h
      | exit id => cases h
      | goto l => cases h
      | panic ch => cases h
      | outgrown => cases h
    · cases h
theorem zip_rel {ρ : Nat → Option Nat} {S : Nat → Prop} {w : World} : ∀ (l : List (Tmp × AV)) (m : List (Tmp × Value)) {ts : List AV} {tm : Array Value}, l.length = m.length → (∀ (i : Nat) t c t' v, l[i]? = some (t, c) → m[i]? = some (t', v) → t = t' ∧ V ρ S w c v) → TRel ρ S w ts tm →
    TRel ρ S w (l.foldl (fun t p => t.set p.1 p.2) ts) (m.foldl (fun tm p => tm.setIfInBounds p.1 p.2) tm)
  | [], [], ts, tm, _, _, h => h
  | (t, c) :: l, (t', v) :: m, ts, tm, hl, hp, h => by
    obtain ⟨rfl, hv⟩ := hp 0 t c t' v rfl rfl
    exact zip_rel l m (by simpa using hl) (fun i t c t' v h1 h2 => hp (i + 1) t c t' v (by simpa using h1) (by simpa using h2)) (h.set hv t)
theorem yldO_sound (hm : P.follows .mixedOrders = true) (hTY : TyOk P TY) (hC : CtrOk F P (CO call)) (hE : ∀ g, isFn g = true → Ent P g ∧ Good F P g (KO call g))
    {ρ : Nat → Option Nat} {S : Nat → Prop} {w : World} (hs : Sok F S w) {H : List Blk} (hH : HRel ρ S w H) {id l : Nat} (hid : ρ id = some l) {cs : List AV} {vs : Array Value} (hv : VL ρ S w cs vs) {r : AV} {H' : List Blk} {Q : AV → List Blk → Prop}
    (h : yldO TY call isFn (.yfn id :: cs) H = some (r, H')) (hQ : Q r H') :
    ∃ f tmps asg body, (Instr.yield l vs).run P w = .ok (.round l f tmps asg body) w ∧ RoundIn Fence.wide 0 P l f tmps asg body w (Comes1 F ρ S w Q) := by
  unfold yldO at h
  try simp only [getO_arr] at h
  try simp only [getO_eq, lenU_eq] at h
  try simp only at h
  split at h
  · rename_i s0 p0 ts ps asg body df hb
    split at h
    · rename_i hsz
      have hsz := Nat.eq_of_beq_eq_true hsz
      obtain ⟨fn, tm, d, h1, h2, h3⟩ := loop_at hH hb hid
      refine ⟨fn, _, asg, body, run_yield h1 (by rw [← hv.1, hsz]), ?_⟩
      split at h
      · rename_i st1 dl1 hasg
        have hT : TRel ρ S w ((ps.toList.zip cs).foldl (fun t p => t.set p.1 p.2) ts) ((ps.zip vs).foldl (fun tmps (t, a) => tmps.setIfInBounds t a) tm) := by
          rw [← Array.foldl_toList]
          refine zip_rel (ps.toList.zip cs) (ps.zip vs).toList (by simp [hv.1]) (fun i t c t' v g1 g2 => ?_) h2
          rw [List.getElem?_zip_eq_some] at g1
          rw [Array.toList_zip, List.getElem?_zip_eq_some] at g2
          obtain ⟨k1, k2⟩ := g1
          obtain ⟨k3, k4⟩ := g2
          simp only at k1 k2 k3 k4
          rw [k1] at k3; cases k3
          exact ⟨rfl, hv.2 i c v k2 (by simpa using k4)⟩
        have hR : RelX F [] ρ S ⟨(ps.toList.zip cs).foldl (fun t p => t.set p.1 p.2) ts, H⟩ { tmps := (ps.zip vs).foldl (fun tmps (t, a) => tmps.setIfInBounds t a) tm, defers := [] } w := ⟨⟨rfl, hT, hH⟩, hs⟩
        refine roundIn_of_wpIn trivial (wpIn_mono (codeO_sound (Fe := Fence.wide.inRound l) (dn := 0) (inR := some id) (dl := []) hm (open_round l) hTY hC hE asg (fun h => by cases h) hR trivial ⟨l, rfl, hid⟩ hasg) ?_)
        rintro e' a1 w1 ⟨rfl, ds1, ρ1, S1, hD1, hR1, hE1⟩
        unfold beginO at h
        try simp only [getO_arr] at h
        try simp only [getO_eq, lenU_eq] at h
        split at h
        · rename_i s1 p1 ts1 ps1 asg1 body1 df1 hb1
          split at h
          · rw [setHZ_eq] at h
            have hid1 := hE1.rho _ _ hid
            obtain ⟨fn1, tm1, d1, g1, g2, g3⟩ := loop_at hR1.heap hb1 hid1
            refine ⟨_, run_beginRound g1 rfl, ?_⟩
            have hnc1 : ∀ arr T fr, Obj.loop { state := .ready, pending := p1, fn := fn1, tmps := tm1, params := ps1, assign := asg1, body := body1, defers := d1 } ≠ .cells arr T fr := fun _ _ _ h => by cases h
            have hE2 := ext_put (new := .loop { state := .busy, pending := p1, fn := fn1, tmps := tm1, params := ps1, assign := asg1, body := body1, defers := d1 }) hR1.heap hb1 hid1 g1 hnc1
            have hH2 := hrel_put (y := .loop .busy p1 ts1 ps1 asg1 body1 df1) (new := .loop { state := .busy, pending := p1, fn := fn1, tmps := tm1, params := ps1, assign := asg1, body := body1, defers := d1 }) hR1.heap hb1 hid1 g1 hnc1 ⟨fn1, tm1, d1, rfl, g2.mono hE2, g3⟩
            have hR2 : RelX F ds1 ρ1 S1 ⟨st1.tmps, st1.heap.set id (.ext (.loop .busy p1 ts1 ps1 asg1 body1 df1))⟩ a1 (w1.putObj l (.loop { state := .busy, pending := p1, fn := fn1, tmps := tm1, params := ps1, assign := asg1, body := body1, defers := d1 })) :=
              ⟨⟨hR1.defers, hR1.tmps.mono hE2, hH2⟩, hR1.sok.still hE2⟩
            split at h
            · rename_i e2 st2 dl2 hbody
              refine wpIn_mono (codeO_sound (Fe := Fence.wide.inRound l) (dn := 0) (inR := some id) (dl := dl1) hm (open_round l) hTY hC hE body (fun h => by cases h) hR2 hD1 ⟨l, rfl, hid1⟩ hbody) ?_
              rintro e3 a3 w3 ⟨rfl, ds3, ρ3, S3, hD3, hR3, hE3⟩
              have fin : ∀ jump, roundO id jump st2.heap = some (r, H') → ∃ v w', (Instr.endRound l jump).run P w3 = .ok v w' ∧ Comes1 F ρ S w Q (.returned v) w' := by
                intro jump h
                unfold roundO at h
                try simp only [getO_arr] at h
                try simp only [getO_eq, lenU_eq] at h
                split at h
                · rename_i s4 p4 ts4 ps4 asg4 body4 df4 hb4
                  rw [setHZ_eq] at h
                  have hid3 := hE3.rho _ _ hid1
                  obtain ⟨fn4, tm4, d4, q1, q2, q3⟩ := loop_at hR3.heap hb4 hid3
                  refine ⟨_, _, run_endRound jump q1, ?_⟩
                  have hnc4 : ∀ arr T fr, Obj.loop { state := s4, pending := p4, fn := fn4, tmps := tm4, params := ps4, assign := asg4, body := body4, defers := d4 } ≠ .cells arr T fr := fun _ _ _ h => by cases h
                  have hE4 := ext_put (new := .loop { state := if jump.isNone then .ready else .done, pending := jump, fn := fn4, tmps := tm4, params := ps4, assign := asg4, body := body4, defers := d4 }) hR3.heap hb4 hid3 q1 hnc4
                  have hH4 := hrel_put (y := .loop (if jump.isNone then .ready else .done) jump ts4 ps4 asg4 body4 df4) (new := .loop { state := if jump.isNone then .ready else .done, pending := jump, fn := fn4, tmps := tm4, params := ps4, assign := asg4, body := body4, defers := d4 }) hR3.heap hb4 hid3 q1 hnc4 ⟨fn4, tm4, d4, rfl, q2.mono hE4, q3⟩
                  refine ⟨_, r, H', ρ3, S3, rfl, hQ, ?_, ?_, hE1.trans (hE2.trans (hE3.trans hE4)), hR3.sok.still hE4⟩
                  · cases jump <;> cases h <;> exact .bool _
                  · cases jump <;> cases h <;> exact hH4
                · cases h
              cases e3 with
              | normal => exact fin none h
              | ret => exact fin (some .ret) h
              | exit k => exact fin (some (.exit k)) h
              | goto t => cases h
              | panic ch => cases h
              | outgrown => cases h
            · cases h
          · cases h
        · cases h
      · cases h
    · cases h
  · cases h
/-- The functions keep what the executor answers. -/
theorem tabO_sound (hm : P.follows .mixedOrders = true) (hTY : TyOk P TY) {prog : FuncId → Option (Func × (Nat → Option RO))} {ins : FuncId → Option (List AV → List Blk → Option (AV × List Blk))}
    (hprog : ∀ g fn ord, prog g = some (fn, ord) → Nat.beq g YF = false ∧ P.funcs[g]? = some fn ∧ Ent P g ∧ ∀ c, fn.body = some c → okC ord c = true)
    (hins : ∀ g k, ins g = some k → (Ent P g ∧ Good F P g (fun args H Q => ∃ r H', k args H = some (r, H') ∧ Q r H')) ∨ GoodI F P g (fun args H Q => ∃ r H', k args H = some (r, H') ∧ Q r H')) :
    ∀ n, CtrOk F P (CO (tabO TY prog ins n)) ∧ ∀ g, (prog g).isSome = true → Ent P g ∧ Good F P g (KO (tabO TY prog ins n) g)
  | 0 => by
    refine ⟨fun f K hK => ?_, fun g hg => ?_⟩
    · cases hK
      refine ⟨fun _ => .inr fun ρ S w H cs vs Q _ _ _ hk => ?_, fun hb ρ S w H id l cs vs Q _ _ _ _ hk => ?_⟩
      · obtain ⟨_, _, h, _⟩ := hk; cases h
      · obtain ⟨_, _, h, _⟩ := hk; cases h
    · rw [Option.isSome_iff_exists] at hg
      obtain ⟨⟨fn, ord⟩, hg⟩ := hg
      refine ⟨(hprog g fn ord hg).2.2.1, fun ρ S w H cs vs Q _ _ _ hk => ?_⟩
      obtain ⟨_, _, h, _⟩ := hk; cases h
  | n + 1 => by
    obtain ⟨hC, hE⟩ := tabO_sound hm hTY hprog hins n
    have good : ∀ g fn ord, prog g = some (fn, ord) → Ent P g ∧ Good F P g (KO (tabO TY prog ins (n + 1)) g) := fun g fn ord hg => by
      obtain ⟨h1, h2, h3, h4⟩ := hprog g fn ord hg
      refine ⟨h3, fun ρ S w H cs vs Q hs hH hv hk => ?_⟩
      obtain ⟨r, H', h, hQ⟩ := hk
      rw [tabO] at h
      simp only [h1, hg] at h
      exact fnO_sound hm hTY hC hE h2 h4 hs hH hv h hQ
    refine ⟨fun f K hK => ?_, fun g hg => ?_⟩
    · cases hK
      refine ⟨fun hb => ?_, fun hb ρ S w H id l cs vs Q hs hH hid hv hk => ?_⟩
      · cases hp : prog f with
        | some x => exact .inl (good f x.1 x.2 hp)
        | none =>
          cases hi : ins f with
          | none =>
            refine .inr fun ρ S w H cs vs Q hs hH hv hk => ?_
            obtain ⟨r, H', h, hQ⟩ := hk
            rw [tabO] at h
            simp only [hb, hp, hi] at h
            cases h
          | some k =>
            have e : KO (tabO TY prog ins (n + 1)) f = fun args H Q => ∃ r H', k args H = some (r, H') ∧ Q r H' := by
              funext args H Q
              simp only [KO, tabO, hb, hp, hi]
            rw [e]
            exact hins f k hi
      · obtain ⟨r, H', h, hQ⟩ := hk
        rw [tabO] at h
        simp only [hb] at h
        exact yldO_sound hm hTY hC hE hs hH hid hv h hQ
    · rw [Option.isSome_iff_exists] at hg
      obtain ⟨⟨fn, ord⟩, hg⟩ := hg
      exact good g fn ord hg
end
end
end Go.Vc

/- Tables of types and of functions, as trees. -/
namespace Go.Vc
open Go
noncomputable section
inductive TT where
  | leaf (n : Nat) (o : Option TI)
  | node (n : Nat) (l r : TT)
def TT.look : TT → Nat → Option TI
  | .leaf n o, t => (match Nat.beq t n with | true => o | false => none)
  | .node n l r, t => (match Nat.blt t n with | true => l.look t | false => r.look t)
def TT.All (P : Program) : TT → Prop
  | .leaf n o => tiOf P n = o
  | .node _ l r => l.All P ∧ r.All P
theorem TT.ok {P : Program} {t : TT} (h : t.All P) : TyOk P t.look := by
  induction t with
  | leaf n o =>
    intro x i hi
    simp only [TT.look] at hi
    split at hi
    · rename_i hb
      have := Nat.eq_of_beq_eq_true hb
      subst this
      rw [show tiOf P x = o from h, hi]
    · cases hi
  | node n l r ihl ihr =>
    intro x i hi
    simp only [TT.look] at hi
    split at hi
    · exact ihl h.1 x i hi
    · exact ihr h.2 x i hi
inductive FT where
  | nil
  | node (k : Nat) (v : Func × (Nat → Option RO)) (l r : FT)
def FT.look : FT → Nat → Option (Func × (Nat → Option RO))
  | .nil, _ => none
  | .node k v l r, f => (match Nat.beq f k with
    | true => some v
    | false => (match Nat.blt f k with | true => l.look f | false => r.look f))
def OkF (P : Program) (k : Nat) (v : Func × (Nat → Option RO)) : Prop := Nat.beq k YF = false ∧ P.funcs[k]? = some v.1 ∧ Ent P k ∧ ∀ c, v.1.body = some c → okC v.2 c = true
theorem okF_of {P : Program} {k : Nat} {v : Func × (Nat → Option RO)} (h1 : Nat.beq k YF = false) (h2 : P.funcs[k]? = some v.1) (h3 : Ent P k) (h4 : (match v.1.body with | some c => okC v.2 c | none => true) = true) : OkF P k v :=
  ⟨h1, h2, h3, fun c hc => by rw [hc] at h4; exact h4⟩
def FT.All (P : Program) : FT → Prop
  | .nil => True
  | .node k v l r => OkF P k v ∧ l.All P ∧ r.All P
theorem FT.ok {P : Program} : ∀ {t : FT}, t.All P → ∀ g v, t.look g = some v → OkF P g v
  | .node k v l r, ⟨h1, h2, h3⟩, g, v', h => by
    rw [FT.look] at h
    split at h
    · rename_i hb
      obtain rfl := Nat.eq_of_beq_eq_true hb
      cases h
      exact h1
    · split at h
      · exact FT.ok h2 g v' h
      · exact FT.ok h3 g v' h
/-! ### maps.clone -/
def cloneO (args : List AV) (H : List Blk) : Option (AV × List Blk) := match args with
  | [.iface t x] => (match x with
    | .map id => (match getO H id with
      | some (.map es bk) => natZ (lenU H) fun n => pushZ (.map es bk) H fun H => some (.iface t (.map n), H)
      | _ => none)
    | _ => none)
  | _ => none
end
end Go.Vc
