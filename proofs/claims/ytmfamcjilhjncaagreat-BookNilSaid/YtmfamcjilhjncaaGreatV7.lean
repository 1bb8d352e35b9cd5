/- The executor keeps its word, three: functions, rounds. -/
import Derived.Test.YtmfamcjilhjncaaGreatV6
set_option linter.all false
namespace Go.Vc
open Go
noncomputable section
section
variable {F : Nat → Obj → Prop} {P : Program} {TY : TypeId → Option TI} {call : CallO} {isFn : FuncId → Bool} {ord : Nat → Option RO} {dn : Nat}
theorem resLO_ok {st : St} : ∀ {rs : List ResultVar} {cs : List AV} {K : List AV → Prop}, resLO TY st rs = some cs → K cs → resE TY st rs K
  | [], cs, K, h, hK => by cases h; exact hK
  | .tmp t :: rs, cs, K, h, hK => by
    rw [resLO] at h
    split at h
    · rename_i cs1 h1
      rw [headZ_eq] at h
      cases h
      exact resLO_ok (K := fun cs => K (st.tmps.getD t .any :: cs)) h1 hK
    · cases h
  | .cell a t :: rs, cs, K, h, hK => by
    rw [resLO] at h
    split at h
    · rename_i c hc
      split at h
      · rename_i cs1 h1
        rw [headZ_eq] at h
        cases h
        exact loadPO_ok hc (resLO_ok (K := fun cs => K (c :: cs)) h1 hK)
      · cases h
    · cases h
theorem resOutO_eq (cs : List AV) : resOutO cs = resOut cs := by
  match cs with
  | [] => rfl
  | [_] => rfl
  | _ :: _ :: _ => rfl
theorem leaves_shut {fn : Func} {tmps : Array Value} {R : Ending → World → Prop} {Fe : Fence} : ∀ {dl : List Nat} {ds : List Deferred} {ρ : Nat → Option Nat} {S : Nat → Prop} {w : World} {H H2 : List Blk}, DR ρ dl ds → HRel ρ S w H → shutO dl H = some H2 →
    (∀ w2, HRel ρ S w2 H2 → Ext ρ S w ρ S w2 → LeavesIn Fe dn P fn tmps R [] .returning w2) → LeavesInM Fe dn P fn tmps R ds .returning w
  | [], [], ρ, S, w, H, H2, _, hH, h, hk => by
    cases h
    exact hk w hH (Ext.refl _ _ _)
  | id :: dl, d :: ds, ρ, S, w, H, H2, ⟨⟨b, hb, hd⟩, hD⟩, hH, h, hk => by
    rw [shutO] at h
    try simp only [getO_arr] at h
    try simp only [getO_eq, lenU_eq] at h
    split at h
    · rename_i hid
      rw [setHZ_eq] at h
      obtain ⟨_, o, h1, h2⟩ := (hH.blk id _ hid) b hb
      have h2 : o = .deferred (some []) := h2
      subst h2
      have hnc : ∀ arr T fr, Obj.deferred (some []) ≠ .cells arr T fr := fun _ _ _ h => by cases h
      have hE := ext_put (new := .deferred none) hH hid hb h1 hnc
      have hH' : HRel ρ S (w.putObj b (.deferred none)) (H.set id .dead) := hrel_upd hH hid rfl hb hE World.putObj_size (fun k hk => World.putObj_heap_other hk) trivial
      exact ⟨by simp, .inl ⟨b, _, by rw [hd], run_takeDeferred h1, leaves_shut hD hH' h fun w2 h3 h4 => hk w2 h3 (hE.trans h4)⟩⟩
    · cases h
/-- What a call of a function comes to. -/
def Comes1 (F : Nat → Obj → Prop) (ρ : Nat → Option Nat) (S : Nat → Prop) (w : World) (Q : AV → List Blk → Prop) (e : Ending) (w' : World) : Prop :=
  ∃ v c H' ρ' S', e = .returned v ∧ Q c H' ∧ V ρ' S' w' c v ∧ HRel ρ' S' w' H' ∧ Ext ρ S w ρ' S' w' ∧ Sok F S' w'
theorem fnO_sound (hm : P.follows .mixedOrders = true) (hTY : TyOk P TY) (hC : CtrOk F P (CO call)) (hE : ∀ g, isFn g = true → Ent P g ∧ Good F P g (KO call g)) {f : FuncId} {fn : Func} (hf : P.funcs[f]? = some fn) (hok : ∀ c, fn.body = some c → okC ord c = true)
    {ρ : Nat → Option Nat} {S : Nat → Prop} {w : World} (hs : Sok F S w) {H : List Blk} (hH : HRel ρ S w H) {cs : List AV} {vs : Array Value} (hv : VL ρ S w cs vs) {r : AV} {H' : List Blk} {Q : AV → List Blk → Prop} (h : fnO TY call isFn ord fn cs H = some (r, H')) (hQ : Q r H') :
    Calls P f vs w (Comes1 F ρ S w Q) := by
  unfold fnO at h
  split at h
  · cases h
  · rename_i c hb
    split at h
    · rename_i e st dl hcode
      have hR : RelX F [] ρ S ⟨cs ++ List.replicate (fn.ntmps - cs.length) .any, H⟩ { tmps := vs ++ Array.replicate (fn.ntmps - vs.size) undef, defers := [] } w := by
        refine ⟨⟨rfl, ⟨by simp [hv.1], fun i c v hc hv' => ?_⟩, hH⟩, hs⟩
        simp only at hc hv'
        by_cases hlt : i < cs.length
        · rw [List.getElem?_append_left hlt] at hc
          rw [Array.getElem?_append_left (by have := hv.1; omega)] at hv'
          exact hv.2 i c v hc hv'
        · rw [List.getElem?_append_right (by omega), List.getElem?_replicate] at hc
          split at hc
          · cases hc; exact .any _
          · cases hc
      refine open_wide.callsOut (n := 0) (callsIn_of_wp_marks hf hb trivial (wpIn_mono (codeO_sound (Fe := Fence.wide) (dn := 0) (inR := none) (dl := []) hm open_wide hTY hC hE c (fun _ => hok c hb) hR trivial (show Fence.wide.round = none from rfl) hcode) ?_))
      rintro e' a' w' ⟨rfl, ds', ρ', S', hD, hR', hE'⟩
      have fin : outO TY fn.results.toList st dl = some (r, H') → LeavesInM Fence.wide 0 P fn a'.tmps (Comes1 F ρ S w Q) a'.defers .returning w' := by
        intro h
        unfold outO at h
        split at h
        · rename_i H2 hshut
          split at h
          · rename_i cs' hcs
            cases h
            rw [hR'.defers]
            refine leaves_shut hD hR'.heap hshut fun w2 h3 h4 => ?_
            have hR2 : RelX F ds' ρ' S' ⟨st.tmps, H'⟩ a' w2 := ⟨⟨hR'.defers, hR'.tmps.mono h4, h3⟩, hR'.sok.still h4⟩
            obtain ⟨v, cs2, g1, g2, g3⟩ := results_ok hTY hR2 (resLO_ok (K := fun cs => cs = cs') hcs rfl)
            subst g2
            exact ⟨v, g1, v, _, _, ρ', S', rfl, hQ, by rw [resOutO_eq]; exact g3, h3, hE'.trans h4, hR2.sok⟩
          · cases h
        · cases h
      cases e' with
      | normal => exact fin h
      | ret => exact fin h
      | exit id => cases h
      | goto l => cases h
      | panic ch => cases h
      | outgrown => cases h
    · cases h
theorem zip_rel {ρ : Nat → Option Nat} {S : Nat → Prop} {w : World} : ∀ (l : List (Tmp × AV)) (m : List (Tmp × Value)) {ts : List AV} {tm : Array Value}, l.length = m.length → (∀ (i : Nat) t c t' v, l[i]? = some (t, c) → m[i]? = some (t', v) → t = t' ∧ V ρ S w c v) → TRel ρ S w ts tm →
    TRel ρ S w (l.foldl (fun t p => t.set p.1 p.2) ts) (m.foldl (fun tm p => tm.setIfInBounds p.1 p.2) tm)
  | [], [], ts, tm, _, _, h => h
  | (t, c) :: l, (t', v) :: m, ts, tm, hl, hp, h => by
    obtain ⟨rfl, hv⟩ := hp 0 t c t' v rfl rfl
    exact zip_rel l m (by simpa using hl) (fun i t c t' v h1 h2 => hp (i + 1) t c t' v (by simpa using h1) (by simpa using h2)) (h.set hv t)
theorem yldO_sound (hm : P.follows .mixedOrders = true) (hTY : TyOk P TY) (hC : CtrOk F P (CO call)) (hE : ∀ g, isFn g = true → Ent P g ∧ Good F P g (KO call g))
    {ρ : Nat → Option Nat} {S : Nat → Prop} {w : World} (hs : Sok F S w) {H : List Blk} (hH : HRel ρ S w H) {id l : Nat} (hid : ρ id = some l) {cs : List AV} {vs : Array Value} (hv : VL ρ S w cs vs) {r : AV} {H' : List Blk} {Q : AV → List Blk → Prop}
    (h : yldO TY call isFn (.yfn id :: cs) H = some (r, H')) (hQ : Q r H') :
    ∃ f tmps asg body, (Instr.yield l vs).run P w = .ok (.round l f tmps asg body) w ∧ RoundIn Fence.wide 0 P l f tmps asg body w (Comes1 F ρ S w Q) := by
  unfold yldO at h
  try simp only [getO_arr] at h
  try simp only [getO_eq, lenU_eq] at h
  try simp only at h
  split at h
  · rename_i s0 p0 ts ps asg body df hb
    split at h
    · rename_i hsz
      have hsz := Nat.eq_of_beq_eq_true hsz
      obtain ⟨fn, tm, d, h1, h2, h3⟩ := loop_at hH hb hid
      refine ⟨fn, _, asg, body, run_yield h1 (by rw [← hv.1, hsz]), ?_⟩
      split at h
      · rename_i st1 dl1 hasg
        have hT : TRel ρ S w ((ps.toList.zip cs).foldl (fun t p => t.set p.1 p.2) ts) ((ps.zip vs).foldl (fun tmps (t, a) => tmps.setIfInBounds t a) tm) := by
          rw [← Array.foldl_toList]
          refine zip_rel (ps.toList.zip cs) (ps.zip vs).toList (by simp [hv.1]) (fun i t c t' v g1 g2 => ?_) h2
          rw [List.getElem?_zip_eq_some] at g1
          rw [Array.toList_zip, List.getElem?_zip_eq_some] at g2
          obtain ⟨k1, k2⟩ := g1
          obtain ⟨k3, k4⟩ := g2
          simp only at k1 k2 k3 k4
          rw [k1] at k3; cases k3
          exact ⟨rfl, hv.2 i c v k2 (by simpa using k4)⟩
        have hR : RelX F [] ρ S ⟨(ps.toList.zip cs).foldl (fun t p => t.set p.1 p.2) ts, H⟩ { tmps := (ps.zip vs).foldl (fun tmps (t, a) => tmps.setIfInBounds t a) tm, defers := [] } w := ⟨⟨rfl, hT, hH⟩, hs⟩
        refine roundIn_of_wpIn trivial (wpIn_mono (codeO_sound (Fe := Fence.wide.inRound l) (dn := 0) (inR := some id) (dl := []) hm (open_round l) hTY hC hE asg (fun h => by cases h) hR trivial ⟨l, rfl, hid⟩ hasg) ?_)
        rintro e' a1 w1 ⟨rfl, ds1, ρ1, S1, hD1, hR1, hE1⟩
        unfold beginO at h
        try simp only [getO_arr] at h
        try simp only [getO_eq, lenU_eq] at h
        split at h
        · rename_i s1 p1 ts1 ps1 asg1 body1 df1 hb1
          split at h
          · rw [setHZ_eq] at h
            have hid1 := hE1.rho _ _ hid
            obtain ⟨fn1, tm1, d1, g1, g2, g3⟩ := loop_at hR1.heap hb1 hid1
            refine ⟨_, run_beginRound g1 rfl, ?_⟩
            have hnc1 : ∀ arr T fr, Obj.loop { state := .ready, pending := p1, fn := fn1, tmps := tm1, params := ps1, assign := asg1, body := body1, defers := d1 } ≠ .cells arr T fr := fun _ _ _ h => by cases h
            have hE2 := ext_put (new := .loop { state := .busy, pending := p1, fn := fn1, tmps := tm1, params := ps1, assign := asg1, body := body1, defers := d1 }) hR1.heap hb1 hid1 g1 hnc1
            have hH2 := hrel_put (y := .loop .busy p1 ts1 ps1 asg1 body1 df1) (new := .loop { state := .busy, pending := p1, fn := fn1, tmps := tm1, params := ps1, assign := asg1, body := body1, defers := d1 }) hR1.heap hb1 hid1 g1 hnc1 ⟨fn1, tm1, d1, rfl, g2.mono hE2, g3⟩
            have hR2 : RelX F ds1 ρ1 S1 ⟨st1.tmps, st1.heap.set id (.ext (.loop .busy p1 ts1 ps1 asg1 body1 df1))⟩ a1 (w1.putObj l (.loop { state := .busy, pending := p1, fn := fn1, tmps := tm1, params := ps1, assign := asg1, body := body1, defers := d1 })) :=
              ⟨⟨hR1.defers, hR1.tmps.mono hE2, hH2⟩, hR1.sok.still hE2⟩
            split at h
            · rename_i e2 st2 dl2 hbody
              refine wpIn_mono (codeO_sound (Fe := Fence.wide.inRound l) (dn := 0) (inR := some id) (dl := dl1) hm (open_round l) hTY hC hE body (fun h => by cases h) hR2 hD1 ⟨l, rfl, hid1⟩ hbody) ?_
              rintro e3 a3 w3 ⟨rfl, ds3, ρ3, S3, hD3, hR3, hE3⟩
              have fin : ∀ jump, roundO id jump st2.heap = some (r, H') → ∃ v w', (Instr.endRound l jump).run P w3 = .ok v w' ∧ Comes1 F ρ S w Q (.returned v) w' := by
                intro jump h
                unfold roundO at h
                try simp only [getO_arr] at h
                try simp only [getO_eq, lenU_eq] at h
                split at h
                · rename_i s4 p4 ts4 ps4 asg4 body4 df4 hb4
                  rw [setHZ_eq] at h
                  have hid3 := hE3.rho _ _ hid1
                  obtain ⟨fn4, tm4, d4, q1, q2, q3⟩ := loop_at hR3.heap hb4 hid3
                  refine ⟨_, _, run_endRound jump q1, ?_⟩
                  have hnc4 : ∀ arr T fr, Obj.loop { state := s4, pending := p4, fn := fn4, tmps := tm4, params := ps4, assign := asg4, body := body4, defers := d4 } ≠ .cells arr T fr := fun _ _ _ h => by cases h
                  have hE4 := ext_put (new := .loop { state := if jump.isNone then .ready else .done, pending := jump, fn := fn4, tmps := tm4, params := ps4, assign := asg4, body := body4, defers := d4 }) hR3.heap hb4 hid3 q1 hnc4
                  have hH4 := hrel_put (y := .loop (if jump.isNone then .ready else .done) jump ts4 ps4 asg4 body4 df4) (new := .loop { state := if jump.isNone then .ready else .done, pending := jump, fn := fn4, tmps := tm4, params := ps4, assign := asg4, body := body4, defers := d4 }) hR3.heap hb4 hid3 q1 hnc4 ⟨fn4, tm4, d4, rfl, q2.mono hE4, q3⟩
                  refine ⟨_, r, H', ρ3, S3, rfl, hQ, ?_, ?_, hE1.trans (hE2.trans (hE3.trans hE4)), hR3.sok.still hE4⟩
                  · cases jump <;> cases h <;> exact .bool _
                  · cases jump <;> cases h <;> exact hH4
                · cases h
              cases e3 with
              | normal => exact fin none h
              | ret => exact fin (some .ret) h
              | exit k => exact fin (some (.exit k)) h
              | goto t => cases h
              | panic ch => cases h
              | outgrown => cases h
            · cases h
          · cases h
        · cases h
      · cases h
    · cases h
  · cases h
/-- The functions keep what the executor answers. -/
theorem tabO_sound (hm : P.follows .mixedOrders = true) (hTY : TyOk P TY) {prog : FuncId → Option (Func × (Nat → Option RO))} {ins : FuncId → Option (List AV → List Blk → Option (AV × List Blk))}
    (hprog : ∀ g fn ord, prog g = some (fn, ord) → Nat.beq g YF = false ∧ P.funcs[g]? = some fn ∧ Ent P g ∧ ∀ c, fn.body = some c → okC ord c = true)
    (hins : ∀ g k, ins g = some k → (Ent P g ∧ Good F P g (fun args H Q => ∃ r H', k args H = some (r, H') ∧ Q r H')) ∨ GoodI F P g (fun args H Q => ∃ r H', k args H = some (r, H') ∧ Q r H')) :
    ∀ n, CtrOk F P (CO (tabO TY prog ins n)) ∧ ∀ g, (prog g).isSome = true → Ent P g ∧ Good F P g (KO (tabO TY prog ins n) g)
  | 0 => by
    refine ⟨fun f K hK => ?_, fun g hg => ?_⟩
    · cases hK
      refine ⟨fun _ => .inr fun ρ S w H cs vs Q _ _ _ hk => ?_, fun hb ρ S w H id l cs vs Q _ _ _ _ hk => ?_⟩
      · obtain ⟨_, _, h, _⟩ := hk; cases h
      · obtain ⟨_, _, h, _⟩ := hk; cases h
    · rw [Option.isSome_iff_exists] at hg
      obtain ⟨⟨fn, ord⟩, hg⟩ := hg
      refine ⟨(hprog g fn ord hg).2.2.1, fun ρ S w H cs vs Q _ _ _ hk => ?_⟩
      obtain ⟨_, _, h, _⟩ := hk; cases h
  | n + 1 => by
    obtain ⟨hC, hE⟩ := tabO_sound hm hTY hprog hins n
    have good : ∀ g fn ord, prog g = some (fn, ord) → Ent P g ∧ Good F P g (KO (tabO TY prog ins (n + 1)) g) := fun g fn ord hg => by
      obtain ⟨h1, h2, h3, h4⟩ := hprog g fn ord hg
      refine ⟨h3, fun ρ S w H cs vs Q hs hH hv hk => ?_⟩
      obtain ⟨r, H', h, hQ⟩ := hk
      rw [tabO] at h
      simp only [h1, hg] at h
      exact fnO_sound hm hTY hC hE h2 h4 hs hH hv h hQ
    refine ⟨fun f K hK => ?_, fun g hg => ?_⟩
    · cases hK
      refine ⟨fun hb => ?_, fun hb ρ S w H id l cs vs Q hs hH hid hv hk => ?_⟩
      · cases hp : prog f with
        | some x => exact .inl (good f x.1 x.2 hp)
        | none =>
          cases hi : ins f with
          | none =>
            refine .inr fun ρ S w H cs vs Q hs hH hv hk => ?_
            obtain ⟨r, H', h, hQ⟩ := hk
            rw [tabO] at h
            simp only [hb, hp, hi] at h
            cases h
          | some k =>
            have e : KO (tabO TY prog ins (n + 1)) f = fun args H Q => ∃ r H', k args H = some (r, H') ∧ Q r H' := by
              funext args H Q
              simp only [KO, tabO, hb, hp, hi]
            rw [e]
            exact hins f k hi
      · obtain ⟨r, H', h, hQ⟩ := hk
        rw [tabO] at h
        simp only [hb] at h
        exact yldO_sound hm hTY hC hE hs hH hid hv h hQ
    · rw [Option.isSome_iff_exists] at hg
      obtain ⟨⟨fn, ord⟩, hg⟩ := hg
      exact good g fn ord hg
end
end
end Go.Vc

/- Tables of types and of functions, as trees. -/
namespace Go.Vc
open Go
noncomputable section
inductive TT where
  | leaf (n : Nat) (o : Option TI)
  | node (n : Nat) (l r : TT)
def TT.look : TT → Nat → Option TI
  | .leaf n o, t => (match Nat.beq t n with | true => o | false => none)
  | .node n l r, t => (match Nat.blt t n with | true => l.look t | false => r.look t)
def TT.All (P : Program) : TT → Prop
  | .leaf n o => tiOf P n = o
  | .node _ l r => l.All P ∧ r.All P
theorem TT.ok {P : Program} {t : TT} (h : t.All P) : TyOk P t.look := by
  induction t with
  | leaf n o =>
    intro x i hi
    simp only [TT.look] at hi
    split at hi
    · rename_i hb
      have := Nat.eq_of_beq_eq_true hb
      subst this
      rw [show tiOf P x = o from h, hi]
    · cases hi
  | node n l r ihl ihr =>
    intro x i hi
    simp only [TT.look] at hi
    split at hi
    · exact ihl h.1 x i hi
    · exact ihr h.2 x i hi
inductive FT where
  | nil
  | node (k : Nat) (v : Func × (Nat → Option RO)) (l r : FT)
def FT.look : FT → Nat → Option (Func × (Nat → Option RO))
  | .nil, _ => none
  | .node k v l r, f => (match Nat.beq f k with
    | true => some v
    | false => (match Nat.blt f k with | true => l.look f | false => r.look f))
def OkF (P : Program) (k : Nat) (v : Func × (Nat → Option RO)) : Prop := Nat.beq k YF = false ∧ P.funcs[k]? = some v.1 ∧ Ent P k ∧ ∀ c, v.1.body = some c → okC v.2 c = true
theorem okF_of {P : Program} {k : Nat} {v : Func × (Nat → Option RO)} (h1 : Nat.beq k YF = false) (h2 : P.funcs[k]? = some v.1) (h3 : Ent P k) (h4 : (match v.1.body with | some c => okC v.2 c | none => true) = true) : OkF P k v :=
  ⟨h1, h2, h3, fun c hc => by rw [hc] at h4; exact h4⟩
def FT.All (P : Program) : FT → Prop
  | .nil => True
  | .node k v l r => OkF P k v ∧ l.All P ∧ r.All P
theorem FT.ok {P : Program} : ∀ {t : FT}, t.All P → ∀ g v, t.look g = some v → OkF P g v
  | .node k v l r, ⟨h1, h2, h3⟩, g, v', h => by
    rw [FT.look] at h
    split at h
    · rename_i hb
      obtain rfl := Nat.eq_of_beq_eq_true hb
      cases h
      exact h1
    · split at h
      · exact FT.ok h2 g v' h
      · exact FT.ok h3 g v' h
/-! ### maps.clone -/
def cloneO (args : List AV) (H : List Blk) : Option (AV × List Blk) := match args with
  | [.iface t x] => (match x with
    | .map id => (match getO H id with
      | some (.map es bk) => natZ (lenU H) fun n => pushZ (.map es bk) H fun H => some (.iface t (.map n), H)
      | _ => none)
    | _ => none)
  | _ => none
end
end Go.Vc
