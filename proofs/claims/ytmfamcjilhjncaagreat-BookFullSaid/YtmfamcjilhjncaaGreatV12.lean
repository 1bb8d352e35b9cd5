/- cmp.Compare, cmp.Or, book.less: what they answer. -/
import Derived.Test.YtmfamcjilhjncaaGreatV10
import Derived.Test.YtmfamcjilhjncaaGreatV11
import Derived.Lib.Small
import Derived.Lib.Walk
import Derived.LoopN
import Derived.Shelf.SlSortCmp.WholeK
set_option linter.all false
namespace Go.Proofs
open Go.Shelf Go.RowKit Go.Lib
set_option maxRecDepth 100000
noncomputable section
theorem Tryz.nan64 (x : Int) (w : World) : Calls Tryz.prog 164 #[.int .u64 x] w fun e w' => e = .returned (.bool false) ∧ w' = w := by
  go_enter Tryz.func164, Tryz.ntmps164
  go_wp2
  go_ret
  exact ⟨by simp, rfl⟩
theorem Tryz.nan3 (x : Int) (w : World) : Calls Tryz.prog 165 #[.int .i64 x] w fun e w' => e = .returned (.bool false) ∧ w' = w := by
  go_enter Tryz.func165, Tryz.ntmps165
  go_wp2
  go_ret
  exact ⟨by simp, rfl⟩
set_option maxHeartbeats 1000000 in
theorem Tryz.cmp64 (x y : Int) (w : World) : Calls Tryz.prog 112 #[.int .u64 x, .int .u64 y] w fun e w' => e = .returned (.int .i64 (Lib.compareInt x y)) ∧ w' = w := by
  go_enter Tryz.func112, Tryz.ntmps112
  go_wp2_with (go_at_call 164; refine (Tryz.nan64 _ _).mono ?_; rintro e w' ⟨rfl, hw⟩; rw [hw])
  all_goals (go_ret; refine ⟨?_, rfl⟩; unfold Lib.compareInt; (repeat' split) <;> first | rfl | (exfalso; omega))
set_option maxHeartbeats 1000000 in
theorem Tryz.cmp3 (x y : Int) (w : World) : Calls Tryz.prog 113 #[.int .i64 x, .int .i64 y] w fun e w' => e = .returned (.int .i64 (Lib.compareInt x y)) ∧ w' = w := by
  go_enter Tryz.func113, Tryz.ntmps113
  go_wp2_with (go_at_call 165; refine (Tryz.nan3 _ _).mono ?_; rintro e w' ⟨rfl, hw⟩; rw [hw])
  all_goals (go_ret; refine ⟨?_, rfl⟩; unfold Lib.compareInt; (repeat' split) <;> first | rfl | (exfalso; omega))
set_option maxHeartbeats 1000000 in
theorem Tryz.or3 (b cp : Nat) (a c : Int) (w : World) (h0 : w.cell? ⟨b, 0, none⟩ = some (.int .i64 a)) (h1 : w.cell? ⟨b, 1, none⟩ = some (.int .i64 c)) : Calls Tryz.prog 111 #[.slice (some ⟨b, 0, none⟩) 2 cp] w fun e w' => e = .returned (.int .i64 (if a = 0 then c else a)) ∧ w' = w := by
  go_enter Tryz.func111, Tryz.ntmps111
  go_wp2
  refine wp_loop_rounds 4 ?_
  rw [rounds_succ]
  go_wp2
  any_goals (rw [rounds_succ]; go_wp2)
  any_goals (rw [rounds_succ]; go_wp2)
  all_goals (go_ret; refine ⟨?_, rfl⟩; by_cases h : a = 0 <;> simp_all)
end
end Go.Proofs
namespace Go.Vc.F
open Go Go.Vc Go.Proofs
set_option maxRecDepth 100000
noncomputable section
def orI (a c : Int) : Int := if a = 0 then c else a
def cmpO : FuncId → Option (List AV → List Blk → Option (AV × List Blk)) := fun g => match Nat.beq g 112 with
  | true => some fun args H => (match args with | [.int .u64 a, .int .u64 b] => some (.int .i64 (Lib.compareInt a b), H) | _ => none)
  | false => (match Nat.beq g 113 with
    | true => some fun args H => (match args with | [.int .i64 a, .int .i64 b] => some (.int .i64 (Lib.compareInt a b), H) | _ => none)
    | false => (match Nat.beq g 111 with
      | true => some fun args H => (match args with
        | [.osl id 1 0 2 _] => (match H[id]? with
          | some (.row 1 2 get _) => (match get 0, get 1 with
            | [.int .i64 a], [.int .i64 c] => some (.int .i64 (orI a c), H)
            | _, _ => none)
          | _ => none)
        | _ => none)
      | false => none))
def prog0 : FuncId → Option (Func × (Nat → Option RO)) := fun _ => none
noncomputable def c49 : Code := match Tryz.f49.body with | some c => c | none => .skip
def xa (t q : Int) : AV := .agg [.int .u64 t, .int .i64 q, .intu none, .intu none, .intu none, .intu none, .intu none, .intu none, .intu none]
noncomputable def ops49 : Array Oper := rop (seqL (seqR c49))
noncomputable def ro49 : RO := match ord49 1 with | some r => r | none => ⟨[], [], []⟩
def st49 (x0 x1 y0 y1 : Int) : St := ⟨[xa x0 x1, xa y0 y1, .ptr 0 0, .ptr 1 0, .int .i64 0] ++ List.replicate 12 .any, [.var (xa x0 x1).cells none, .var (xa y0 y1).cells none]⟩
theorem draw49 {x0 x1 y0 y1 : Int} : drawQ Y.TY (CO (tabO Y.TY prog0 cmpO 1)) wT ops49 ro49.l ro49.fl (st49 x0 x1 y0 y1) (fun st => resLO Y.TY st Tryz.f49.results.toList = some [.int .i64 (orI (Lib.compareInt x0 y0) (Lib.compareInt x1 y1))]) := by
  refine ⟨by kernel_rfl, ?_⟩
  conv => whnf
  refine ⟨.int .i64 (Lib.compareInt x0 y0), _, rfl, ?_⟩
  conv => whnf
  repeat (refine ⟨rfl, ?_⟩; conv => whnf)
  refine ⟨.int .i64 (Lib.compareInt x1 y1), _, rfl, ?_⟩
  conv => whnf
  repeat (refine ⟨rfl, ?_⟩; conv => whnf)
  refine ⟨.int .i64 (orI (Lib.compareInt x0 y0) (Lib.compareInt x1 y1)), _, rfl, ?_⟩
  conv => whnf
  repeat (refine ⟨rfl, ?_⟩; conv => whnf)
  rfl
theorem e49 : Tryz.f49.body = some (.seq (.region (rid (seqL c49)) (rop (seqL c49)) false) (.seq (.region (rid (seqL (seqR c49))) ops49 true) .ret)) := by kernel_rfl
theorem r49 {x0 x1 y0 y1 : Int} {call : CallO} : regO Y.TY call (rop (seqL c49)) (rop (seqL c49)).toList ⟨[xa x0 x1, xa y0 y1] ++ List.replicate (17 - 2) .any, []⟩ = some (st49 x0 x1 y0 y1) := by kernel_rfl
theorem two_vals {ρ : Nat → Option Nat} {S : Nat → Prop} {w : World} {a b : AV} {vs : Array Value} (h : VL ρ S w [a, b] vs) : ∃ v u, vs = #[v, u] ∧ V ρ S w a v ∧ V ρ S w b u := by
  obtain ⟨l⟩ := vs
  have hl := h.1
  match l, hl with
  | [v, u], _ => exact ⟨v, u, rfl, h.2 0 _ _ rfl rfl, h.2 1 _ _ rfl rfl⟩
theorem one_val {ρ : Nat → Option Nat} {S : Nat → Prop} {w : World} {a : AV} {vs : Array Value} (h : VL ρ S w [a] vs) : ∃ v, vs = #[v] ∧ V ρ S w a v := by
  obtain ⟨l⟩ := vs
  have hl := h.1
  match l, hl with
  | [v], _ => exact ⟨v, rfl, h.2 0 _ _ rfl rfl⟩
theorem cmp_in (a b : Int) : inK .i64 (Lib.compareInt a b) := by
  unfold Lib.compareInt
  (repeat' split) <;> decide
theorem or_in {a c : Int} (ha : inK .i64 a) (hc : inK .i64 c) : inK .i64 (orI a c) := by
  unfold orI
  split
  · exact hc
  · exact ha
theorem hins49 (F : Nat → Obj → Prop) : ∀ g k, cmpO g = some k → (Ent Tryz.prog g ∧ Good F Tryz.prog g (fun args H Q => ∃ r H', k args H = some (r, H') ∧ Q r H')) ∨ GoodI F Tryz.prog g (fun args H Q => ∃ r H', k args H = some (r, H') ∧ Q r H') := by
  intro g k h
  unfold cmpO at h
  split at h
  · rename_i hb
    obtain rfl := Nat.eq_of_beq_eq_true hb
    cases h
    refine .inl ⟨Tryz.call112, ?_⟩
    intro ρ S w H cs vs Q hs hH hv hk
    obtain ⟨r, H', h, hQ⟩ := hk
    try simp only at h
    split at h
    · rename_i a b
      cases h
      obtain ⟨v, u, rfl, h1, h2⟩ := two_vals hv
      obtain ⟨rfl, _⟩ := h1.intR
      obtain ⟨rfl, _⟩ := h2.intR
      refine (Tryz.cmp64 a b w).mono ?_
      rintro e w' ⟨rfl, rfl⟩
      exact ⟨_, _, H, ρ, S, rfl, hQ, V.int' (cmp_in a b), hH, Ext.refl _ _ _, hs⟩
    · cases h
  · split at h
    · rename_i hb
      obtain rfl := Nat.eq_of_beq_eq_true hb
      cases h
      refine .inl ⟨Tryz.call113, ?_⟩
      intro ρ S w H cs vs Q hs hH hv hk
      obtain ⟨r, H', h, hQ⟩ := hk
      try simp only at h
      split at h
      · rename_i a b
        cases h
        obtain ⟨v, u, rfl, h1, h2⟩ := two_vals hv
        obtain ⟨rfl, _⟩ := h1.intR
        obtain ⟨rfl, _⟩ := h2.intR
        refine (Tryz.cmp3 a b w).mono ?_
        rintro e w' ⟨rfl, rfl⟩
        exact ⟨_, _, H, ρ, S, rfl, hQ, V.int' (cmp_in a b), hH, Ext.refl _ _ _, hs⟩
      · cases h
    · split at h
      · rename_i hb
        obtain rfl := Nat.eq_of_beq_eq_true hb
        cases h
        refine .inl ⟨Tryz.call111, ?_⟩
        intro ρ S w H cs vs Q hs hH hv hk
        obtain ⟨r, H', h, hQ⟩ := hk
        try simp only at h
        split at h
        · rename_i id cap
          split at h
          · rename_i get T hid
            split at h
            · rename_i a c hg0 hg1
              cases h
              obtain ⟨v, rfl, h1⟩ := one_val hv
              cases h1 with
              | osl _ _ _ _ _ b o cp hb hl hm ho hx hcap =>
                obtain ⟨_, arr, T1, fr, k1, k2, k3, k4, k5⟩ := hH.blk id _ hid b hb
                have ho : o = 0 := by simpa using ho (by omega)
                subst ho
                have c0 : w.cell? ⟨b, 0, none⟩ = some (.int .i64 a) ∧ inK .i64 a := by
                  have hlt : 0 < arr.size := by omega
                  have hv := k5 0 0 (.int .i64 a) arr[0] (by omega) (by rw [hg0]; rfl) (by simp)
                  obtain ⟨h1, h2⟩ := hv.intR
                  refine ⟨?_, h2⟩
                  simp only [World.cell?, k1]
                  simp only [Option.isSome_none, Bool.false_eq_true, if_false]
                  rw [Array.getElem?_eq_getElem hlt, h1]
                have c1 : w.cell? ⟨b, 1, none⟩ = some (.int .i64 c) ∧ inK .i64 c := by
                  have hlt : 1 < arr.size := by omega
                  have hv := k5 1 0 (.int .i64 c) arr[1] (by omega) (by rw [hg1]; rfl) (by simp)
                  obtain ⟨h1, h2⟩ := hv.intR
                  refine ⟨?_, h2⟩
                  simp only [World.cell?, k1]
                  simp only [Option.isSome_none, Bool.false_eq_true, if_false]
                  rw [Array.getElem?_eq_getElem hlt, h1]
                refine (Tryz.or3 b cp a c w c0.1 c1.1).mono ?_
                rintro e w' ⟨rfl, rfl⟩
                exact ⟨_, _, H, ρ, S, rfl, hQ, V.int' (or_in c0.2 c1.2), hH, Ext.refl _ _ _, hs⟩
            · cases h
          · cases h
        · cases h
      · cases h
theorem less_ok {F : Nat → Obj → Prop} {S : Nat → Prop} {w : World} {vs : Array Value} {x0 x1 y0 y1 : Int} (hs : Sok F S w) (hv : VL (fun _ => none) S w [xa x0 x1, xa y0 y1] vs) :
    Calls Tryz.prog 49 vs w (Comes1 F (fun _ => none) S w fun c _ => c = .int .i64 (orI (Lib.compareInt x0 y0) (Lib.compareInt x1 y1))) := by
  have hm : Tryz.prog.follows .mixedOrders = true := by kernel_rfl
  have hC := (tabO_sound (F := F) (P := Tryz.prog) hm Y.tyOk (prog := prog0) (ins := cmpO) (fun g fn ord h => by cases h) (hins49 F) 1).1
  have hH : HRel (fun _ => none) S w [] := ⟨fun i j bi bj b h => by simp at h, fun i b h => by simp at h, fun i b h => by cases h⟩
  have hO := open_wide
  refine fnW_sound Y.tyOk Tryz.func49 e49 hs hH hv fun a hR => ?_
  refine wpIn_seq (wpIn_region_list (regN_sound hO Y.tyOk hC hR r49 fun ρ1 S1 b1 w1 hR1 hE1 => ?_))
  refine wpIn_seq (wpIn_region_any hm (drawQ_sound hO Y.tyOk hC hR1.drew (fun a' w' hq => ?_) draw49))
  obtain ⟨st2, ρ2, S2, hst, hR2, hE2⟩ := hq
  exact wpIn_ret ⟨.inr rfl, ρ2, S2, st2, _, hR2, hE1.trans ((ext_drew _ _ _).trans hE2), hst, rfl⟩
end
end Go.Vc.F

/- slices.SortFunc at loans: it leaves loans. -/
namespace Go.Vc.F
open Go Go.Vc Go.Proofs Go.Sort
set_option maxRecDepth 100000
noncomputable section
structure LV where
  t : Int
  q : Int
  r : List Value
  ht : inK .u64 t
  hq : inK .i64 q
  hl : r.length = 7
  h1 : ∀ v ∈ r, v.oneCell' = true
def LV.enc (x : LV) : List Value := .int .u64 x.t :: .int .i64 x.q :: x.r
instance : Inhabited LV := ⟨⟨0, 0, List.replicate 7 (.bool false), by decide, by decide, rfl, fun v hv => by rw [(List.mem_replicate.1 hv).2]; rfl⟩⟩
theorem LV.len (x : LV) : x.enc.length = 9 := by simp [LV.enc, x.hl]
theorem LV.one (x : LV) : ∀ v ∈ x.enc, v.oneCell' = true := by
  intro v hv
  simp only [LV.enc, List.mem_cons] at hv
  rcases hv with rfl | rfl | hv
  · rfl
  · rfl
  · exact x.h1 v hv
def cfL (x y : LV) : Int := orI (Lib.compareInt x.t y.t) (Lib.compareInt x.q y.q)
theorem cfL_neg (x y : LV) : cfL x y < 0 ↔ (x.t < y.t ∨ (x.t = y.t ∧ x.q < y.q)) := by
  unfold cfL orI Lib.compareInt
  (repeat' split) <;> omega
theorem swoL : SWO (ltOf cfL) := by
  have key : ∀ x y : LV, ltOf cfL x y = true ↔ (x.t < y.t ∨ (x.t = y.t ∧ x.q < y.q)) := fun x y => by
    rw [← cfL_neg]
    simp [ltOf]
  have keyf : ∀ x y : LV, ltOf cfL x y = false ↔ ¬ (x.t < y.t ∨ (x.t = y.t ∧ x.q < y.q)) := fun x y => by
    rw [← key, Bool.not_eq_true]
  refine ⟨fun x => ?_, fun x y z h1 h2 => ?_, fun x y z h1 h2 => ?_⟩
  · rw [keyf]; omega
  · rw [key] at h1 h2 ⊢; omega
  · rw [keyf] at h1 h2 ⊢; omega
def patL : List AV := [.intu (some .u64), .intu (some .i64), .intu none, .intu none, .intu none, .intu none, .intu none, .intu none, .intu none]
theorem intu_none {ρ : Nat → Option Nat} {S : Nat → Prop} {w : World} {v : Value} (h : v.oneCell' = true) : V ρ S w (.intu none) v := .cellu v h
theorem patL_V {ρ : Nat → Option Nat} {S : Nat → Prop} {w : World} (x : LV) {j : Nat} {c : AV} (hc : patL[j]? = some c) : V ρ S w c (x.enc[j]!) := by
  have hone : ∀ j, j < 9 → (x.enc[j]!).oneCell' = true := fun j hj => by
    rw [getElem!_pos x.enc j (by rw [x.len]; exact hj)]
    exact x.one _ (List.getElem_mem _)
  unfold patL at hc
  match j with
  | 0 => cases hc; exact .intu _ _ (lo_eq .u64 ▸ x.ht.1) (hi_eq .u64 ▸ x.ht.2)
  | 1 => cases hc; exact .intu _ _ (lo_eq .i64 ▸ x.hq.1) (hi_eq .i64 ▸ x.hq.2)
  | 2 => cases hc; exact intu_none (hone 2 (by omega))
  | 3 => cases hc; exact intu_none (hone 3 (by omega))
  | 4 => cases hc; exact intu_none (hone 4 (by omega))
  | 5 => cases hc; exact intu_none (hone 5 (by omega))
  | 6 => cases hc; exact intu_none (hone 6 (by omega))
  | 7 => cases hc; exact intu_none (hone 7 (by omega))
  | 8 => cases hc; exact intu_none (hone 8 (by omega))
  | j + 9 => simp at hc
theorem world_grow {W W' : World} (h : ∀ b, b < W.heap.size → W'.heap[b]? = W.heap[b]?) (hs : W.heap.size ≤ W'.heap.size) (ho : W'.os = W.os) (ht : W'.tape = W.tape) (hp : W'.output = W.output) (hd : W.drawn ≤ W'.drawn) : ∃ q os, W' = grow (W.drewN q) os := by
  refine ⟨W'.drawn - W.drawn, W'.heap.extract W.heap.size W'.heap.size, ?_⟩
  obtain ⟨heap', tape', drawn', os', out'⟩ := W'
  obtain ⟨heap, tape, drawn, os, out⟩ := W
  simp only at h hs ho ht hp hd
  subst ho; subst ht; subst hp
  simp only [grow, World.drewN, World.mk.injEq, true_and, and_true]
  refine ⟨?_, by omega⟩
  apply Array.ext_getElem?
  intro i
  rw [Array.getElem?_append]
  split
  · rename_i hi
    exact h i hi
  · rename_i hi
    rw [Array.getElem?_extract]
    split
    · congr 1; omega
    · rw [Array.getElem?_eq_none (by omega)]
theorem cmpLays (blk off size : Nat) (w : World) : CmpLays Tryz.prog 49 #[] LV.enc 9 cfL blk off size w := by
  intro m os dk _ x y
  generalize sortWorldK LV.enc 9 w blk off m dk os = W
  have hs : Sok (fun _ _ => False) (fun b => b < W.heap.size) W := ⟨fun b h => h, fun b o h => h.elim⟩
  have arg : ∀ z : LV, V (fun _ => none) (fun b => b < W.heap.size) W (xa z.t z.q) (.agg z.enc.toArray) := fun z => by
    refine .agg _ _ (by simp [z.len]) fun i c v hc hv => ?_
    have hv : z.enc[i]? = some v := by simpa using hv
    have hone : v.oneCell' = true := z.one v (List.mem_of_getElem? hv)
    match i with
    | 0 => cases hc; cases hv; exact V.int' z.ht
    | 1 => cases hc; cases hv; exact V.int' z.hq
    | 2 => cases hc; exact intu_none hone
    | 3 => cases hc; exact intu_none hone
    | 4 => cases hc; exact intu_none hone
    | 5 => cases hc; exact intu_none hone
    | 6 => cases hc; exact intu_none hone
    | 7 => cases hc; exact intu_none hone
    | 8 => cases hc; exact intu_none hone
    | i + 9 => simp at hc
  have hv : VL (fun _ => none) (fun b => b < W.heap.size) W [xa x.t x.q, xa y.t y.q] (#[.agg x.enc.toArray, .agg y.enc.toArray] ++ #[]) := by
    refine ⟨rfl, fun i c v hc hi => ?_⟩
    match i with
    | 0 => cases hc; cases hi; exact arg x
    | 1 => cases hc; cases hi; exact arg y
    | i + 2 => simp at hc
  refine (less_ok hs hv).mono ?_
  rintro e w' ⟨v, c, H', ρ', S', rfl, rfl, h1, _, hE, _⟩
  obtain ⟨rfl, _⟩ := h1.intR
  exact ⟨rfl, world_grow (fun b hb => hE.same b hb (.inl hb)) hE.size hE.os hE.tape hE.output hE.drawn⟩
/-! ### The heap behind the sort -/
theorem putCells_get {d : Array Value} {c : Array Value} {i : Nat} : (putCells (id : Value → Value) 0 d c)[i]? = (c[i]?).map fun x => if i < d.size then d[i]! else x := by
  unfold putCells
  rw [Array.getElem?_mapIdx]
  cases c[i]? with
  | none => rfl
  | some x => simp
theorem putCells_size {d : Array Value} {c : Array Value} : (putCells (id : Value → Value) 0 d c).size = c.size := by
  unfold putCells; simp
theorem sort_heap {w : World} {b m : Nat} {d : Array LV} {os : Array Obj} {arr : Array Value} {T : TypeId} {fr : Nat × Nat} (hb : w.heap[b]? = some (.cells arr T fr)) :
    (∀ k, k < w.heap.size → k ≠ b → (sortWorldK LV.enc 9 w b 0 m d os).heap[k]? = w.heap[k]?) ∧ (sortWorldK LV.enc 9 w b 0 m d os).heap[b]? = some (.cells (putCells id 0 (flatK LV.enc 9 d) arr) T fr) ∧ w.heap.size ≤ (sortWorldK LV.enc 9 w b 0 m d os).heap.size ∧
      (sortWorldK LV.enc 9 w b 0 m d os).os = w.os ∧ (sortWorldK LV.enc 9 w b 0 m d os).tape = w.tape ∧ (sortWorldK LV.enc 9 w b 0 m d os).output = w.output ∧ w.drawn ≤ (sortWorldK LV.enc 9 w b 0 m d os).drawn := by
  have hblt : b < w.heap.size := (Array.getElem?_eq_some_iff.1 hb).1
  have hh : (sortWorldK LV.enc 9 w b 0 m d os).heap = w.heap.modify b (onCells (putCells id 0 (flatK LV.enc 9 d))) ++ os := rfl
  refine ⟨fun k hk hne => ?_, ?_, ?_, rfl, rfl, rfl, Nat.le_add_right _ _⟩
  · rw [hh, Array.getElem?_append_left (by simpa using hk), Array.getElem?_modify, if_neg (Ne.symm hne)]
  · rw [hh, Array.getElem?_append_left (by simpa using hblt), Array.getElem?_modify, if_pos rfl, hb]
    rfl
  · rw [hh, Array.size_append, Array.size_modify]; omega
theorem hrel_upd2 {ρ : Nat → Option Nat} {S : Nat → Prop} {w w' : World} {H : List Blk} (h : HRel ρ S w H) {id b : Nat} {old new : Blk} (hid : H[id]? = some old) (hlive : old.live = true) (hr : ρ id = some b) (hE : Ext ρ S w ρ S w')
    (hoth : ∀ k, k < w.heap.size → k ≠ b → w'.heap[k]? = w.heap[k]?) (hnew : BRel ρ S w' id new) : HRel ρ S w' (H.set id new) := {
  inj i j bi bj c hi hj li lj ri rj := by
    have key : ∀ (i : Nat) (bi : Blk), (H.set id new)[i]? = some bi → bi.live = true → ∃ bi', H[i]? = some bi' ∧ bi'.live = true := by
      intro i bi hi li
      rw [List.getElem?_set] at hi
      by_cases h1 : id = i
      · subst h1; exact ⟨old, hid, hlive⟩
      · rw [if_neg h1] at hi; exact ⟨bi, hi, li⟩
    obtain ⟨bi', hi', li'⟩ := key i bi hi li
    obtain ⟨bj', hj', lj'⟩ := key j bj hj lj
    exact h.inj i j bi' bj' c hi' hj' li' lj' ri rj
  blk i bi hi := by
    rw [List.getElem?_set] at hi
    by_cases h1 : id = i
    · subst h1
      rw [if_pos rfl] at hi
      split at hi
      · cases hi; exact hnew
      · cases hi
    · rw [if_neg h1] at hi
      by_cases hl : bi.live = true
      · refine (h.blk i bi hi).keep hE fun b' hb' => ⟨hb', hoth b' (h.out i b' hb').2 ?_, fun h => h⟩
        rintro rfl
        exact h1 (h.inj id i old bi b' hid hi hlive hl hr hb')
      · cases bi <;> simp [Blk.live] at hl
        trivial
  out i c hi := by
    have := h.out i c hi
    have := hE.size
    simp only [List.length_set]
    omega }
/-! ### The contract -/
def covR (get : Nat → List AV) : Nat → Bool
  | 0 => true
  | n + 1 => (match covL patL (get n) with | true => covR get n | false => false)
theorem covR_get {get : Nat → List AV} : ∀ {n : Nat}, covR get n = true → ∀ e, e < n → covL patL (get e) = true
  | 0, _, e, he => by omega
  | n + 1, h, e, he => by
    rw [covR] at h
    split at h
    · rename_i h1
      rcases Nat.lt_or_ge e n with h' | h'
      · exact covR_get h e h'
      · obtain rfl : e = n := by omega
        exact h1
    · cases h
def sortLO (args : List AV) (H : List Blk) : Option (AV × List Blk) := match args with
  | [.osl id 9 0 n _, .fn 49 []] => (match H[id]? with
    | some (.row 9 m get T) => guardO (Nat.ble n m) (guardO (Nat.blt 0 n) (guardO (Nat.blt n 1000000) (guardO (covR get n) (some (.tup [], H.set id (.row 9 n (fun _ => patL) T))))))
    | _ => none)
  | _ => none
theorem good_sort {F : Nat → Obj → Prop} {ren : Go.Shelf.Ren} (L : SlLaysF0.n6 Tryz.prog ren) (h6 : ren.f 6 = 109) (h24 : ren.t 24 = 115) : Good F Tryz.prog 109 (fun args H Q => ∃ r H', sortLO args H = some (r, H') ∧ Q r H') := by
  intro ρ S w H cs vs Q hs hH hv hk
  obtain ⟨r, H', h, hQ⟩ := hk
  unfold sortLO at h
  split at h
  · rename_i idn n cap
    split at h
    · rename_i m get T hid
      obtain ⟨g1, h⟩ := guardO_some h
      obtain ⟨g2, h⟩ := guardO_some h
      obtain ⟨g3, h⟩ := guardO_some h
      obtain ⟨g4, h⟩ := guardO_some h
      cases h
      have hnm : n ≤ m := Nat.le_of_ble_eq_true g1
      have hn0 : 0 < n := Nat.le_of_ble_eq_true g2
      have hn1 : n < 1000000 := Nat.le_of_ble_eq_true g3
      obtain ⟨v, u, rfl, h1, h2⟩ := two_vals hv
      cases h1 with
      | osl _ _ _ _ _ b o cp hb hl hm ho hx hcap =>
        cases h2 with
        | fn _ _ vs2 hl2 _ =>
          obtain rfl : vs2 = #[] := by
            apply Array.eq_empty_of_size_eq_zero
            simpa using hl2.symm
          obtain rfl : o = 0 := by simpa using ho (by omega)
          obtain ⟨hnS, arr, T1, fr, k1, k2, k3, k4, k5⟩ := hH.blk idn _ hid b hb
          have hsz : n * 9 ≤ arr.size := by omega
          have hel : ∀ e, e < n → ∃ x : LV, ∀ c, c < 9 → arr[e * 9 + c]? = some (x.enc[c]!) := by
            intro e he
            have hcv := covR_get g4 e he
            obtain ⟨hlen, hcov⟩ := covL_get hcv
            have hvj : ∀ j, j < 9 → ∃ v p, arr[e * 9 + j]? = some v ∧ patL[j]? = some p ∧ V ρ S w p v := by
              intro j hj
              have hlt : e * 9 + j < arr.size := by omega
              have hp : j < patL.length := hj
              have hg : j < (get e).length := by rw [← hlen]; exact hj
              exact ⟨arr[e * 9 + j], patL[j], Array.getElem?_eq_getElem hlt, List.getElem?_eq_getElem hp, covC_V (hcov j _ _ (List.getElem?_eq_getElem hp) (List.getElem?_eq_getElem hg)) (k5 e j _ _ (by omega) (List.getElem?_eq_getElem hg) (Array.getElem?_eq_getElem hlt))⟩
            obtain ⟨v0, p0, e0, q0, w0⟩ := hvj 0 (by omega)
            obtain ⟨v1, p1, e1, q1, w1⟩ := hvj 1 (by omega)
            obtain ⟨v2, p2, e2, q2, w2⟩ := hvj 2 (by omega)
            obtain ⟨v3, p3, e3, q3, w3⟩ := hvj 3 (by omega)
            obtain ⟨v4, p4, e4, q4, w4⟩ := hvj 4 (by omega)
            obtain ⟨v5, p5, e5, q5, w5⟩ := hvj 5 (by omega)
            obtain ⟨v6, p6, e6, q6, w6⟩ := hvj 6 (by omega)
            obtain ⟨v7, p7, e7, q7, w7⟩ := hvj 7 (by omega)
            obtain ⟨v8, p8, e8, q8, w8⟩ := hvj 8 (by omega)
            cases q0; cases q1; cases q2; cases q3; cases q4; cases q5; cases q6; cases q7; cases q8
            have one : ∀ {v : Value}, V ρ S w (.intu none) v → v.oneCell' = true := fun h => by cases h with | cellu _ h => exact h
            cases w0 with
            | intu _ t ht1 ht2 =>
              cases w1 with
              | intu _ q hq1 hq2 =>
                refine ⟨⟨t, q, [v2, v3, v4, v5, v6, v7, v8], ⟨lo_eq .u64 ▸ ht1, hi_eq .u64 ▸ ht2⟩, ⟨lo_eq .i64 ▸ hq1, hi_eq .i64 ▸ hq2⟩, rfl, ?_⟩, ?_⟩
                · intro v hv
                  simp only [List.mem_cons, List.not_mem_nil, or_false] at hv
                  rcases hv with rfl | rfl | rfl | rfl | rfl | rfl | rfl
                  · exact one w2
                  · exact one w3
                  · exact one w4
                  · exact one w5
                  · exact one w6
                  · exact one w7
                  · exact one w8
                · intro c hc
                  match c with
                  | 0 => exact e0
                  | 1 => exact e1
                  | 2 => exact e2
                  | 3 => exact e3
                  | 4 => exact e4
                  | 5 => exact e5
                  | 6 => exact e6
                  | 7 => exact e7
                  | 8 => exact e8
                  | c + 9 => omega
          obtain ⟨f, hf⟩ : ∃ f : Nat → LV, ∀ e, e < n → ∀ c, c < 9 → arr[e * 9 + c]? = some ((f e).enc[c]!) := by
            refine ⟨fun e => if h : e < n then Classical.choose (hel e h) else default, fun e h => ?_⟩
            simp only [h, dif_pos]
            exact Classical.choose_spec (hel e h)
          have hd : ((Array.range n).map f).size = n := by simp
          have hdg : ∀ e, e < n → ((Array.range n).map f)[e]! = f e := fun e he => by
            rw [getElem!_pos _ e (by rw [hd]; exact he)]
            simp
          have hH0 : HoldsK LV.enc 9 w b 0 ((Array.range n).map f) := by
            intro j hj
            rw [size_flatK, hd] at hj
            have hq : j / 9 < n := by omega
            have hr : j % 9 < 9 := by omega
            rw [get_flatK _ _ _ _ (by rw [hd]; exact hj), hdg _ hq, Nat.zero_add]
            have := hf (j / 9) hq (j % 9) hr
            rw [show j / 9 * 9 + j % 9 = j by omega] at this
            refine ⟨?_, k3 j (by omega)⟩
            simp only [World.cell?, k1]
            simpa using this
          have hcall := AnyQ.slices_SortFunc L 9 (fun w => by rw [h24]; exact Tryz.isAgg115 w) (fun w => by rw [h24]; exact Tryz.sizeOf115 w) LV.enc LV.len LV.one cfL swoL 49 #[] b 0 cp ((Array.range n).map f) w Tryz.call49 (cmpLays b 0 _ w) hH0 (Array.getElem?_eq_some_iff.1 k1).1 (by rw [hd]; omega)
          rw [h6, hd] at hcall
          refine hcall.mono ?_
          rintro e w' ⟨rfl, d', q, os, hperm, _, rfl⟩
          have hd' : d'.size = n := by rw [hperm.1, hd]
          obtain ⟨s1, s2, s3, s4, s5, s6, s7⟩ := sort_heap (m := q) (d := d') (os := os) k1
          have hE : Ext ρ S w ρ S (sortWorldK LV.enc 9 w b 0 q d' os) := by
            refine ⟨fun _ _ h => h, fun _ h => h, fun k hk hc => s1 k hk ?_, s3, fun k arr2 T2 fr2 hk => ?_, fun _ _ h => .inl ⟨_, h⟩, fun _ h => .inl h, s4, s5, s6, s7⟩
            · rintro rfl
              rcases hc with hc | hc
              · exact hnS hc
              · exact hc _ hb
            · by_cases hkb : k = b
              · subst hkb
                rw [k1] at hk
                cases hk
                exact ⟨_, _, s2, putCells_size⟩
              · exact ⟨arr2, fr2, (s1 k (Array.getElem?_eq_some_iff.1 hk).1 hkb).trans hk, rfl⟩
          refine ⟨_, _, _, ρ, S, rfl, hQ, .tup [] #[] rfl (fun i c v hc => by simp at hc), ?_, hE, hs.still hE⟩
          refine hrel_upd2 hH hid rfl hb hE s1 ?_
          intro b' hb'
          rw [hb] at hb'
          cases hb'
          refine ⟨hnS, _, T1, fr, s2, by rw [putCells_size]; exact hsz, fun o ho => ?_, fun e he => rfl, fun e j c v he hc hv => ?_⟩
          · rw [putCells_size] at ho
            have := k3 o ho
            simp only [World.frozen?, k1] at this
            simp only [World.frozen?, s2]
            exact this
          · have hj : j < 9 := (List.getElem?_eq_some_iff.1 hc).1
            rw [putCells_get] at hv
            have hlt : e * 9 + j < arr.size := by omega
            rw [Array.getElem?_eq_getElem hlt, Option.map_some, if_pos (by rw [size_flatK, hd']; omega), get_flatK _ _ _ _ (by rw [hd']; omega), show (e * 9 + j) / 9 = e by omega, show (e * 9 + j) % 9 = j by omega] at hv
            cases hv
            exact patL_V _ hc
    · cases h
  · cases h
end
end Go.Vc.F

/- How slices.SortFunc and what it calls lie in this program (written by the kit's lay-plain.mjs). -/
namespace Go.Proofs
open Go.Shelf
set_option maxRecDepth 100000
noncomputable section
def Tryz.laysSort_ren : Go.Shelf.Ren := ⟨fun | 6 => 109 | 15 => 163 | 14 => 162 | 28 => 227 | 29 => 228 | 20 => 219 | 21 => 220 | 22 => 221 | 23 => 222 | 24 => 223 | 25 => 224 | 26 => 225 | 27 => 226 | 46 => 289 | 47 => 290 | 48 => 291 | 49 => 292 | 50 => 293 | 57 => 323 | n => n, fun | 22 => 37 | 24 => 115 | 25 => 125 | 3 => 3 | 39 => 260 | 0 => 0 | 53 => 306 | 55 => 29 | 4 => 4 | 46 => 299 | 45 => 298 | 50 => 303 | 5 => 5 | 9 => 9 | 66 => 355 | 70 => 245 | 76 => 383 | 77 => 191 | n => n, fun | n => n⟩
theorem Tryz.laysSort : Go.Proofs.SlLaysF0.n6 Tryz.prog Tryz.laysSort_ren := {
  mixed := by kernel_rfl
  f6 := ⟨Tryz.f109.name, by decide, Tryz.func109.trans (congrArg some (by kernel_rfl))⟩
  f14 := ⟨Tryz.f162.name, by decide, Tryz.func162.trans (congrArg some (by kernel_rfl))⟩
  f15 := Tryz.func163.trans (congrArg some (by kernel_rfl))
  f20 := ⟨Tryz.f219.name, by decide, Tryz.func219.trans (congrArg some (by kernel_rfl))⟩
  f21 := ⟨Tryz.f220.name, by decide, Tryz.func220.trans (congrArg some (by kernel_rfl))⟩
  f22 := ⟨Tryz.f221.name, by decide, Tryz.func221.trans (congrArg some (by kernel_rfl))⟩
  f23 := ⟨Tryz.f222.name, by decide, Tryz.func222.trans (congrArg some (by kernel_rfl))⟩
  f24 := ⟨Tryz.f223.name, by decide, Tryz.func223.trans (congrArg some (by kernel_rfl))⟩
  f25 := ⟨Tryz.f224.name, by decide, Tryz.func224.trans (congrArg some (by kernel_rfl))⟩
  f26 := ⟨Tryz.f225.name, by decide, Tryz.func225.trans (congrArg some (by kernel_rfl))⟩
  f27 := ⟨Tryz.f226.name, by decide, Tryz.func226.trans (congrArg some (by kernel_rfl))⟩
  f28 := Tryz.func227.trans (congrArg some (by kernel_rfl))
  f29 := Tryz.func228.trans (congrArg some (by kernel_rfl))
  f46 := ⟨Tryz.f289.name, by decide, Tryz.func289.trans (congrArg some (by kernel_rfl))⟩
  f47 := Tryz.func290.trans (congrArg some (by kernel_rfl))
  f48 := Tryz.func291.trans (congrArg some (by kernel_rfl))
  f49 := ⟨Tryz.f292.name, by decide, Tryz.func292.trans (congrArg some (by kernel_rfl))⟩
  f50 := ⟨Tryz.f293.name, by decide, Tryz.func293.trans (congrArg some (by kernel_rfl))⟩
  f57 := ⟨Tryz.f323.name, by decide, Tryz.func323.trans (congrArg some (by kernel_rfl))⟩
  t0 := Tryz.underlying0
  a0 := Tryz.isAgg0
  z0 := Tryz.sizeOf0
  v0 := Tryz.zeroValue0
  t3 := Tryz.underlying3
  a3 := Tryz.isAgg3
  z3 := Tryz.sizeOf3
  v3 := Tryz.zeroValue3
  t4 := Tryz.underlying4
  a4 := Tryz.isAgg4
  z4 := Tryz.sizeOf4
  v4 := Tryz.zeroValue4
  t5 := Tryz.underlying5
  a5 := Tryz.isAgg5
  z5 := Tryz.sizeOf5
  v5 := Tryz.zeroValue5
  t9 := Tryz.underlying9
  a9 := Tryz.isAgg9
  z9 := Tryz.sizeOf9
  v9 := Tryz.zeroValue9
  t22 := Tryz.underlying37
  a22 := Tryz.isAgg37
  z22 := Tryz.sizeOf37
  v22 := Tryz.zeroValue37
  t25 := Tryz.underlying125
  a25 := Tryz.isAgg125
  z25 := Tryz.sizeOf125
  v25 := Tryz.zeroValue125
  t39 := Tryz.underlying260
  a39 := Tryz.isAgg260
  z39 := Tryz.sizeOf260
  v39 := Tryz.zeroValue260
  t45 := Tryz.underlying298
  a45 := Tryz.isAgg298
  z45 := Tryz.sizeOf298
  v45 := Tryz.zeroValue298
  t46 := Tryz.underlying299
  a46 := Tryz.isAgg299
  z46 := Tryz.sizeOf299
  v46 := Tryz.zeroValue299
  t50 := Tryz.underlying303
  a50 := Tryz.isAgg303
  z50 := Tryz.sizeOf303
  v50 := Tryz.zeroValue303
  t53 := Tryz.underlying306
  a53 := Tryz.isAgg306
  z53 := Tryz.sizeOf306
  v53 := Tryz.zeroValue306
  t55 := Tryz.underlying29
  a55 := Tryz.isAgg29
  z55 := Tryz.sizeOf29
  v55 := Tryz.zeroValue29
  t66 := Tryz.underlying355
  a66 := Tryz.isAgg355
  z66 := Tryz.sizeOf355
  v66 := Tryz.zeroValue355
  t70 := Tryz.underlying245
  a70 := Tryz.isAgg245
  z70 := Tryz.sizeOf245
  v70 := Tryz.zeroValue245
  t76 := Tryz.underlying383
  a76 := Tryz.isAgg383
  z76 := Tryz.sizeOf383
  v76 := Tryz.zeroValue383
  t77 := Tryz.underlying191
  a77 := Tryz.isAgg191
  z77 := Tryz.sizeOf191
  v77 := Tryz.zeroValue191 }
end
end Go.Proofs
namespace Go.Vc.F
open Go Go.Vc Go.Proofs
noncomputable section
theorem sort109 {F : Nat → Obj → Prop} : Good F Tryz.prog 109 (fun args H Q => ∃ r H', sortLO args H = some (r, H') ∧ Q r H') := good_sort Tryz.laysSort rfl rfl
end
end Go.Vc.F

/- Runs in parts: from a state that is told, to a state that is told. -/
namespace Go.Vc
open Go
noncomputable section
/-! ### A state tells less than another -/
def sgAt : List Nat → Nat → Nat
  | [], _ => 0
  | a :: _, 0 => a
  | _ :: l, i + 1 => sgAt l i
def eqO (a b : Option Nat) : Bool := match b with
  | none => true
  | some y => (match a with | some x => Nat.beq x y | none => false)
def eqBs : List UInt8 → List UInt8 → Bool
  | [], [] => true
  | a :: l, b :: m => (match Nat.beq a.toNat b.toNat with | true => eqBs l m | false => false)
  | _, _ => false
theorem eqBs_spec : ∀ {l m : List UInt8}, eqBs l m = true → l = m
  | [], [], _ => rfl
  | [], _ :: _, h => by cases h
  | _ :: _, [], h => by cases h
  | a :: l, b :: m, h => by
    rw [eqBs] at h
    split at h
    · rename_i h1
      have := Nat.eq_of_beq_eq_true h1
      rw [UInt8.toNat_inj.1 this, eqBs_spec h]
    · cases h
/-- One cell. -/
def leC (σ : List Nat) (n : Nat) (x y : AV) : Bool := match y with
  | .any => true
  | .intu none => x.one
  | .int k a => (match x with | .int k' a' => (match decide (k' = k) with | true => eqI a' a | false => false) | _ => false)
  | .bool b => (match x with | .bool b' => (match b, b' with | true, true => true | false, false => true | _, _ => false) | _ => false)
  | .str l => (match x with | .str l' => eqBs l' l | _ => false)
  | .nilsl => (match x with | .nilsl => true | _ => false)
  | .nilp => (match x with | .nilp => true | _ => false)
  | .ptr i j => (match x with | .ptr i' j' => (match Nat.beq i' (sgAt σ i) with | true => (match Nat.beq j' j with | true => Nat.blt i n | false => false) | false => false) | _ => false)
  | .map i => (match x with | .map i' => (match Nat.beq i' (sgAt σ i) with | true => Nat.blt i n | false => false) | _ => false)
  | .osl i z o l c => (match x with | .osl i' z' o' l' c' => (match Nat.beq i' (sgAt σ i) with | true => (match Nat.beq z' z with | true => (match Nat.beq o' o with | true => (match Nat.beq l' l with | true => (match eqO c' c with | true => Nat.blt i n | false => false) | false => false) | false => false) | false => false) | false => false) | _ => false)
  | _ => false
def leLs (σ : List Nat) (n : Nat) : List AV → List AV → Bool
  | [], [] => true
  | x :: xs, y :: ys => (match leC σ n x y with | true => leLs σ n xs ys | false => false)
  | _, _ => false
def le1 (σ : List Nat) (n : Nat) (x y : AV) : Bool := match y with
  | .agg ds => (match x with | .agg cs => leLs σ n cs ds | _ => false)
  | .fn f ds => (match x with | .fn g cs => (match Nat.beq g f with | true => leLs σ n cs ds | false => false) | _ => false)
  | y => leC σ n x y
def le1s (σ : List Nat) (n : Nat) : List AV → List AV → Bool
  | [], [] => true
  | x :: xs, y :: ys => (match le1 σ n x y with | true => le1s σ n xs ys | false => false)
  | _, _ => false
def leEs (σ : List Nat) (n : Nat) : List (AV × AV) → List (AV × AV) → Bool
  | [], [] => true
  | (k, v) :: xs, (k', v') :: ys => (match le1 σ n k k' with | true => (match le1 σ n v v' with | true => leEs σ n xs ys | false => false) | false => false)
  | _, _ => false
def leRow (σ : List Nat) (n : Nat) (get get' : Nat → List AV) : Nat → Bool
  | 0 => true
  | e + 1 => (match leLs σ n (get e) (get' e) with | true => leRow σ n get get' e | false => false)
def leBk (a b : Option (List Nat × Nat)) : Bool := match b with
  | none => true
  | some (l, c) => (match a with | some (l', c') => (match eqNs l' l with | true => Nat.beq c' c | false => false) | none => false)
def leB (σ : List Nat) (n : Nat) (x y : Blk) : Bool := match y with
  | .dead => true
  | .var ds T' => (match x with | .var cs T => (match eqO T T' with | true => le1s σ n cs ds | false => false) | _ => false)
  | .row sz' len' get' T' => (match x with | .row sz len get T => (match Nat.beq sz sz' with | true => (match Nat.ble len' len with | true => (match eqO T T' with | true => leRow σ n get get' len' | false => false) | false => false) | false => false) | _ => false)
  | .map es' bk' => (match x with | .map es bk => (match leBk bk bk' with | true => leEs σ n es es' | false => false) | _ => false)
  | _ => false
section
variable {ρ : Nat → Option Nat} {S : Nat → Prop} {w : World} {σ : List Nat} {n : Nat}
theorem sub_of {i b : Nat} (hi : Nat.blt i n = true) (h : ρ (sgAt σ i) = some b) : subρ ρ (sgAt σ) n i = some b := by
  have : i < n := Nat.le_of_ble_eq_true hi
  unfold subρ
  rw [if_pos this]; exact h
theorem leC_V {x y : AV} {v : Value} (h : leC σ n x y = true) (hv : V ρ S w x v) : V (subρ ρ (sgAt σ) n) S w y v := by
  unfold leC at h
  split at h
  · exact .any _
  · exact .cellu _ (oneCell_of_V hv h)
  · split at h
    · split at h
      · rename_i hk
        obtain rfl := of_decide_eq_true hk
        rw [eqI_eq, beq_iff_eq] at h
        subst h
        cases hv with | int _ _ h1 h2 => exact .int _ _ h1 h2
      · cases h
    · cases h
  · split at h
    · split at h
      · cases hv; exact .bool _
      · cases hv; exact .bool _
      · cases h
    · cases h
  · split at h
    · rw [← eqBs_spec h]
      cases hv with | str _ s h1 h2 => exact .str _ _ h1 h2
    · cases h
  · split at h
    · cases hv; exact .nilsl
    · cases h
  · split at h
    · cases hv; exact .nilp
    · cases h
  · split at h
    · split at h
      · rename_i h1
        split at h
        · rename_i h2
          cases hv with
          | ptr _ _ b hb =>
            rw [Nat.eq_of_beq_eq_true h1] at hb
            rw [Nat.eq_of_beq_eq_true h2]
            exact .ptr _ _ b (sub_of h hb)
        · cases h
      · cases h
    · cases h
  · split at h
    · split at h
      · rename_i h1
        cases hv with
        | map _ b hb =>
          rw [Nat.eq_of_beq_eq_true h1] at hb
          exact .map _ b (sub_of h hb)
      · cases h
    · cases h
  · split at h
    · split at h
      · rename_i h1
        split at h
        · rename_i h2
          split at h
          · rename_i h3
            split at h
            · rename_i h4
              split at h
              · rename_i h5
                cases hv with
                | osl _ _ _ _ _ b o cp hb hl hm ho hx hcap =>
                  rw [Nat.eq_of_beq_eq_true h1] at hb
                  obtain rfl := Nat.eq_of_beq_eq_true h2
                  obtain rfl := Nat.eq_of_beq_eq_true h3
                  obtain rfl := Nat.eq_of_beq_eq_true h4
                  refine .osl _ _ _ _ _ b o cp (sub_of h hb) hl hm ho hx fun c hc => hcap c ?_
                  subst hc
                  unfold eqO at h5
                  simp only at h5
                  split at h5
                  · rw [Nat.eq_of_beq_eq_true h5]
                  · cases h5
              · cases h
            · cases h
          · cases h
        · cases h
      · cases h
    · cases h
  · cases h
theorem leLs_V : ∀ {xs ys : List AV}, leLs σ n xs ys = true → xs.length = ys.length ∧ ∀ (i : Nat) x y (v : Value), xs[i]? = some x → ys[i]? = some y → V ρ S w x v → V (subρ ρ (sgAt σ) n) S w y v
  | [], [], _ => ⟨rfl, fun i x y v h => by simp at h⟩
  | [], _ :: _, h => by cases h
  | _ :: _, [], h => by cases h
  | x :: xs, y :: ys, h => by
    rw [leLs] at h
    split at h
    · rename_i h1
      obtain ⟨h2, h3⟩ := leLs_V h
      refine ⟨by simp [h2], fun i x' y' v hx hy hv => ?_⟩
      cases i with
      | zero => simp at hx hy; subst hx; subst hy; exact leC_V h1 hv
      | succ i => exact h3 i x' y' v (by simpa using hx) (by simpa using hy) hv
    · cases h
theorem le1_V {x y : AV} {v : Value} (h : le1 σ n x y = true) (hv : V ρ S w x v) : V (subρ ρ (sgAt σ) n) S w y v := by
  have key : ∀ {cs ds : List AV} {vs : Array Value}, leLs σ n cs ds = true → cs.length = vs.size → (∀ (i : Nat) (c : AV) (v : Value), cs[i]? = some c → vs[i]? = some v → V ρ S w c v) →
      ds.length = vs.size ∧ ∀ (i : Nat) (d : AV) (v : Value), ds[i]? = some d → vs[i]? = some v → V (subρ ρ (sgAt σ) n) S w d v := by
    intro cs ds vs h hl hv
    obtain ⟨h1, h2⟩ := leLs_V (ρ := ρ) (S := S) (w := w) h
    refine ⟨by omega, fun i d v hd hvi => ?_⟩
    have hi : i < cs.length := by have := (List.getElem?_eq_some_iff.1 hd).1; omega
    exact h2 i _ d v (List.getElem?_eq_getElem hi) hd (hv i _ v (List.getElem?_eq_getElem hi) hvi)
  unfold le1 at h
  split at h
  · split at h
    · cases hv with
      | agg _ vs hl hv =>
        obtain ⟨h1, h2⟩ := key h hl hv
        exact .agg _ vs h1 h2
    · cases h
  · split at h
    · split at h
      · rename_i hf
        rw [← Nat.eq_of_beq_eq_true hf]
        cases hv with
        | fn _ _ vs hl hv =>
          obtain ⟨h1, h2⟩ := key h hl hv
          exact .fn _ _ vs h1 h2
      · cases h
    · cases h
  · exact leC_V h hv
theorem le1s_V : ∀ {xs ys : List AV}, le1s σ n xs ys = true → xs.length = ys.length ∧ ∀ (i : Nat) x y (v : Value), xs[i]? = some x → ys[i]? = some y → V ρ S w x v → V (subρ ρ (sgAt σ) n) S w y v
  | [], [], _ => ⟨rfl, fun i x y v h => by simp at h⟩
  | [], _ :: _, h => by cases h
  | _ :: _, [], h => by cases h
  | x :: xs, y :: ys, h => by
    rw [le1s] at h
    split at h
    · rename_i h1
      obtain ⟨h2, h3⟩ := le1s_V h
      refine ⟨by simp [h2], fun i x' y' v hx hy hv => ?_⟩
      cases i with
      | zero => simp at hx hy; subst hx; subst hy; exact le1_V h1 hv
      | succ i => exact h3 i x' y' v (by simpa using hx) (by simpa using hy) hv
    · cases h
theorem leEs_V : ∀ {xs ys : List (AV × AV)}, leEs σ n xs ys = true → xs.length = ys.length ∧ ∀ (i : Nat) (x y : AV × AV), xs[i]? = some x → ys[i]? = some y → (∀ v, V ρ S w x.1 v → V (subρ ρ (sgAt σ) n) S w y.1 v) ∧ (∀ v, V ρ S w x.2 v → V (subρ ρ (sgAt σ) n) S w y.2 v)
  | [], [], _ => ⟨rfl, fun i x y h => by simp at h⟩
  | [], _ :: _, h => by cases h
  | _ :: _, [], h => by cases h
  | (k, v) :: xs, (k', v') :: ys, h => by
    rw [leEs] at h
    split at h
    · rename_i h1
      split at h
      · rename_i h1'
        obtain ⟨h2, h3⟩ := leEs_V h
        refine ⟨by simp [h2], fun i x' y' hx hy => ?_⟩
        cases i with
        | zero => simp at hx hy; subst hx; subst hy; exact ⟨fun _ hv => le1_V h1 hv, fun _ hv => le1_V h1' hv⟩
        | succ i => exact h3 i x' y' (by simpa using hx) (by simpa using hy)
      · cases h
    · cases h
theorem leRow_get {get get' : Nat → List AV} : ∀ {m : Nat}, leRow σ n get get' m = true → ∀ e, e < m → leLs σ n (get e) (get' e) = true
  | 0, _, e, he => by omega
  | m + 1, h, e, he => by
    rw [leRow] at h
    split at h
    · rename_i h1
      rcases Nat.lt_or_ge e m with h' | h'
      · exact leRow_get h e h'
      · obtain rfl : e = m := by omega
        exact h1
    · cases h
theorem eqO_ty {a b : Option Nat} (h : eqO a b = true) {T : Nat} : ∃ T', tyOr a T = tyOr b T' := by
  unfold eqO at h
  split at h
  · exact ⟨tyOr a T, rfl⟩
  · split at h
    · exact ⟨T, by rw [Nat.eq_of_beq_eq_true h]⟩
    · cases h
theorem leB_R {i : Nat} {x y : Blk} (h : leB σ n x y = true) (hx : BRel ρ S w (sgAt σ i) x) (hi : ∀ b, subρ ρ (sgAt σ) n i = some b → ρ (sgAt σ i) = some b) : BRel (subρ ρ (sgAt σ) n) S w i y := by
  unfold leB at h
  split at h
  · trivial
  · split at h
    · split at h
      · rename_i hT
        intro b hb
        obtain ⟨h1, arr, T, fr, h2, h3, h4, h5⟩ := hx b (hi b hb)
        obtain ⟨T', hT'⟩ := eqO_ty hT (T := T)
        obtain ⟨l1, l2⟩ := le1s_V (ρ := ρ) (S := S) (w := w) h
        refine ⟨h1, arr, T', fr, hT' ▸ h2, by omega, h4, fun j c v hc hv => ?_⟩
        have hj := (List.getElem?_eq_some_iff.1 hc).1
        rw [← l1] at hj
        exact l2 j _ c v (List.getElem?_eq_getElem hj) hc (h5 j _ v (List.getElem?_eq_getElem hj) hv)
      · cases h
    · cases h
  · split at h
    · split at h
      · rename_i hs
        split at h
        · rename_i hl
          split at h
          · rename_i hT
            rename_i len get T0 _ _ _
            obtain rfl := Nat.eq_of_beq_eq_true hs
            have hl := Nat.le_of_ble_eq_true hl
            intro b hb
            obtain ⟨h1, arr, T, fr, h2, h3, h4, h5, h6⟩ := hx b (hi b hb)
            obtain ⟨T', hT'⟩ := eqO_ty hT (T := T)
            refine ⟨h1, arr, T', fr, hT' ▸ h2, Nat.le_trans (Nat.mul_le_mul_right _ hl) h3, h4, fun e he => ?_, fun e j c v he hc hv => ?_⟩
            · rw [← (leLs_V (ρ := ρ) (S := S) (w := w) (leRow_get h e he)).1]
              exact h5 e (by omega)
            · obtain ⟨l1, l2⟩ := leLs_V (ρ := ρ) (S := S) (w := w) (leRow_get h e he)
              have hj : j < (get e).length := by have := (List.getElem?_eq_some_iff.1 hc).1; omega
              exact l2 j _ c v (List.getElem?_eq_getElem hj) hc (h6 e j _ v (by omega) (List.getElem?_eq_getElem hj) hv)
          · cases h
        · cases h
      · cases h
    · cases h
  · split at h
    · split at h
      · rename_i hbk
        intro b hb
        obtain ⟨h1, es', ck, h2, h3, h4, h5⟩ := hx b (hi b hb)
        obtain ⟨l1, l2⟩ := leEs_V (ρ := ρ) (S := S) (w := w) h
        refine ⟨h1, es', ck, h2, by omega, ?_, fun i k x e hk he => ?_⟩
        · unfold leBk at hbk
          split at hbk
          · trivial
          · split at hbk
            · split at hbk
              · rename_i h6
                obtain ⟨g1, g2⟩ := h4
                rw [← eqNs_spec h6, ← Nat.eq_of_beq_eq_true hbk]
                exact ⟨g1, g2⟩
              · cases hbk
            · cases hbk
        · have hi' := (List.getElem?_eq_some_iff.1 hk).1
          rw [← l1] at hi'
          obtain ⟨m1, m2⟩ := l2 i _ _ (List.getElem?_eq_getElem hi') hk
          obtain ⟨v1, v2⟩ := h5 i _ _ e (List.getElem?_eq_getElem hi') he
          exact ⟨m1 _ v1, m2 _ v2⟩
      · cases h
    · cases h
  · cases h
theorem leB_live {x y : Blk} (h : leB σ n x y = true) (hy : y.live = true) : x.live = true := by
  cases x with
  | dead => cases y <;> first | (cases hy; done) | (simp [leB] at h)
  | _ => rfl
end
/-- The second state tells less than the first; σ says where its blocks lie. -/
structure LE (σ : List Nat) (st st2 : St) : Prop where
  tm : le1s σ st2.heap.length st.tmps st2.tmps = true
  hp : ∀ (i : Nat) b, st2.heap[i]? = some b → b.live = true → ∃ x, st.heap[sgAt σ i]? = some x ∧ leB σ st2.heap.length x b = true
  nd : ∀ i j, i < st2.heap.length → j < st2.heap.length → sgAt σ i = sgAt σ j → i = j
theorem relx_le {F : Nat → Obj → Prop} {ds : List Deferred} {ρ : Nat → Option Nat} {S : Nat → Prop} {w : World} {σ : List Nat} {st st2 : St} {a : Act} (hR : RelX F ds ρ S st a w) (h : LE σ st st2) : RelX F ds (subρ ρ (sgAt σ) st2.heap.length) S st2 a w := by
  have back : ∀ i b, subρ ρ (sgAt σ) st2.heap.length i = some b → i < st2.heap.length ∧ ρ (sgAt σ i) = some b := fun i b h => by
    unfold subρ at h
    split at h
    · exact ⟨by assumption, h⟩
    · cases h
  obtain ⟨t1, t2⟩ := le1s_V (ρ := ρ) (S := S) (w := w) h.tm
  refine ⟨⟨hR.defers, ⟨by rw [← t1]; exact hR.tmps.1, fun i c v hc hv => ?_⟩, ⟨fun i j bi bj b hi hj li lj ri rj => ?_, fun i b hi => ?_, fun i b hi => ⟨(back i b hi).1, (hR.heap.out _ b (back i b hi).2).2⟩⟩⟩, hR.sok⟩
  · have hi : i < st.tmps.length := by have := (List.getElem?_eq_some_iff.1 hc).1; omega
    exact t2 i _ c v (List.getElem?_eq_getElem hi) hc (hR.tmps.2 i _ v (List.getElem?_eq_getElem hi) hv)
  · obtain ⟨h1, r1⟩ := back i b ri
    obtain ⟨h2, r2⟩ := back j b rj
    obtain ⟨x, hx, lx⟩ := h.hp i bi hi li
    obtain ⟨y, hy, ly⟩ := h.hp j bj hj lj
    exact h.nd i j h1 h2 (hR.heap.inj _ _ x y b hx hy (leB_live lx li) (leB_live ly lj) r1 r2)
  · by_cases hl : b.live = true
    · obtain ⟨x, hx, lx⟩ := h.hp i b hi hl
      exact leB_R lx (hR.heap.blk _ x hx) fun b' hb' => (back i b' hb').2
    · cases b <;> first | trivial | exact absurd rfl hl
/-- Nothing was one's own at first. -/
theorem ext_le {ρ0 ρ : Nat → Option Nat} {S0 S : Nat → Prop} {w0 w : World} {σ : List Nat} {n : Nat} (h : Ext ρ0 S0 w0 ρ S w) (h0 : ∀ i, ρ0 i = none) : Ext ρ0 S0 w0 (subρ ρ (sgAt σ) n) S w := {
  rho i b hi := by rw [h0] at hi; cases hi
  st := h.st
  same := h.same
  size := h.size
  shp := h.shp
  fresh i b hi := by
    unfold subρ at hi
    split at hi
    · exact h.fresh _ b hi
    · cases hi
  stf := h.stf
  os := h.os
  tape := h.tape
  output := h.output
  drawn := h.drawn }
end
end Go.Vc

/- Runs in parts, over trees: what the kernel reckons, and what it says of the code. -/
namespace Go.Vc
open Go
noncomputable section
noncomputable def heapT (l : List Blk) (h : HM) (K : HM → Option R) : Option R := @List.rec Blk (fun _ => HM → Option R) K (fun b _ ih h => pushHT b h ih) l h
theorem heapT_some : ∀ {l : List Blk} {h : HM} {K : HM → Option R} {x : R}, heapT l h K = some x → ∃ h', toH h' = toH h ++ l ∧ K h' = some x
  | [], h, K, x, hk => ⟨h, by simp, hk⟩
  | b :: l, h, K, x, hk => by
    obtain ⟨h1, e1, hk⟩ := pushHT_some (show pushHT b h (fun h => heapT l h K) = some x from hk)
    obtain ⟨h2, e2, hk⟩ := heapT_some hk
    exact ⟨h2, by rw [e2, e1]; simp, hk⟩
noncomputable def startT (S : St) (K : TM → HM → Option R) : Option R := freshT S.tmps 0 fun m => heapT S.heap noH fun h => K m h
theorem startT_some {S : St} {K : TM → HM → Option R} {x : R} (hk : startT S K = some x) : ∃ m h, m.toL = S.tmps ∧ toH h = S.heap ∧ K m h = some x := by
  obtain ⟨m, e1, hk⟩ := freshT_some hk
  obtain ⟨h, e2, hk⟩ := heapT_some hk
  exact ⟨m, h, by simpa using e1, by rw [e2, noH_eq]; rfl, hk⟩
/-! ### The check -/
def leHs (σ : List Nat) (n : Nat) (h : HM) : Nat → List Blk → Bool
  | _, [] => true
  | i, b :: bs => (match b with
    | .dead => leHs σ n h (i + 1) bs
    | b => (match getH h (sgAt σ i) with
      | some x => (match leB σ n x b with | true => leHs σ n h (i + 1) bs | false => false)
      | none => false))
def lenK : List Blk → Nat
  | [] => 0
  | _ :: l => Nat.succ (lenK l)
theorem lenK_eq : ∀ l : List Blk, lenK l = l.length
  | [] => rfl
  | _ :: l => by rw [lenK, lenK_eq l]; rfl
def leT (σ : List Nat) (m : TM) (h : HM) (S2 : St) : Bool := match nodupN σ with
  | true => (match Nat.beq (lenN σ) (lenK S2.heap) with
    | true => (match le1s σ (lenK S2.heap) m.toL S2.tmps with
      | true => leHs σ (lenK S2.heap) h 0 S2.heap
      | false => false)
    | false => false)
  | false => false
theorem leHs_get {σ : List Nat} {n : Nat} {h : HM} : ∀ {l : List Blk} {i : Nat}, leHs σ n h i l = true → ∀ (j : Nat) b, l[j]? = some b → b.live = true → ∃ x, (toH h)[sgAt σ (i + j)]? = some x ∧ leB σ n x b = true
  | [], i, _, j, b, hj, _ => by simp at hj
  | c :: l, i, hk, j, b, hj, hl => by
    have tail : leHs σ n h (i + 1) l = true → ∀ j, l[j]? = some b → ∃ x, (toH h)[sgAt σ (i + (j + 1))]? = some x ∧ leB σ n x b = true := fun ht j hj => by
      obtain ⟨x, h1, h2⟩ := leHs_get ht j b hj hl
      exact ⟨x, by rw [show i + (j + 1) = i + 1 + j by omega]; exact h1, h2⟩
    rw [leHs.eq_def] at hk
    simp only at hk
    split at hk
    · cases j with
      | zero => simp at hj; subst hj; cases hl
      | succ j => exact tail hk j (by simpa using hj)
    · split at hk
      · rename_i x hx
        split at hk
        · rename_i hb
          cases j with
          | zero =>
            simp at hj
            subst hj
            rw [getH_eq] at hx
            exact ⟨x, hx, hb⟩
          | succ j => exact tail hk j (by simpa using hj)
        · cases hk
      · cases hk
theorem sgAt_eq : ∀ {σ : List Nat} {i : Nat}, i < σ.length → σ[i]? = some (sgAt σ i)
  | [], i, h => by simp at h
  | a :: l, 0, _ => rfl
  | a :: l, i + 1, h => by
    rw [List.getElem?_cons_succ, sgAt]
    exact sgAt_eq (by simpa using h)
theorem sgAt_inj : ∀ {σ : List Nat}, σ.Nodup → ∀ {i j : Nat}, i < σ.length → j < σ.length → sgAt σ i = sgAt σ j → i = j
  | [], _, i, _, hi, _, _ => by simp at hi
  | a :: l, hn, 0, 0, _, _, _ => rfl
  | a :: l, hn, 0, j + 1, _, hj, h => by
    rw [List.nodup_cons] at hn
    have h2 : l[j]? = some a := (sgAt_eq (by simpa using hj)).trans (congrArg some (show a = sgAt l j from h).symm)
    exact absurd (List.mem_of_getElem? h2) hn.1
  | a :: l, hn, i + 1, 0, hi, _, h => by
    rw [List.nodup_cons] at hn
    have h2 : l[i]? = some a := (sgAt_eq (by simpa using hi)).trans (congrArg some (show sgAt l i = a from h))
    exact absurd (List.mem_of_getElem? h2) hn.1
  | a :: l, hn, i + 1, j + 1, hi, hj, h => by
    rw [List.nodup_cons] at hn
    have h2 : sgAt l i = sgAt l j := h
    rw [sgAt_inj hn.2 (by simpa using hi) (by simpa using hj) h2]
theorem leT_ok {σ : List Nat} {m : TM} {h : HM} {S2 : St} (hk : leT σ m h S2 = true) : LE σ ⟨m.toL, toH h⟩ S2 := by
  unfold leT at hk
  split at hk
  · rename_i hn
    split at hk
    · rename_i hl
      split at hk
      · rename_i ht
        have hl := Nat.eq_of_beq_eq_true hl
        rw [lenN_eq, lenK_eq] at hl
        rw [lenK_eq] at ht hk
        refine ⟨ht, fun i b hi hb => ?_, fun i j hi hj he => sgAt_inj (nodupN_spec hn) (by omega) (by omega) he⟩
        have := leHs_get hk i b hi hb
        rwa [Nat.zero_add] at this
      · cases hk
    · cases hk
  · cases hk
/-- Where a run in parts ends. -/
def finT (sig : TM → HM → Option (List Nat)) (S2 : St) : KT := fun e m h dl => match e with
  | .normal => (match dl with
    | [] => (match sig m h with
      | some σ => (match leT σ m h S2 with | true => some (.bool true, noH) | false => none)
      | none => none)
    | _ => none)
  | _ => none
theorem finT_some {sig : TM → HM → Option (List Nat)} {S2 : St} {e : Exit} {m : TM} {h : HM} {dl : List Nat} {x : R} (hk : finT sig S2 e m h dl = some x) : e = .normal ∧ dl = [] ∧ ∃ σ, LE σ ⟨m.toL, toH h⟩ S2 := by
  unfold finT at hk
  split at hk
  · split at hk
    · split at hk
      · split at hk
        · rename_i hle
          exact ⟨rfl, rfl, _, leT_ok hle⟩
        · cases hk
      · cases hk
    · cases hk
  · cases hk
/-! ### Pieces, one behind the other -/
/-- A piece that ends as it should. -/
def onE (e0 : Exit → Bool) (K : TM → HM → Option R) : KT := fun e m h dl => match e0 e with
  | true => (match dl with | [] => K m h | _ => none)
  | false => none
def isNo : Exit → Bool
  | .normal => true
  | _ => false
def isEx (k : Nat) : Exit → Bool
  | .exit i => Nat.beq i k
  | _ => false
theorem isNo_eq {e : Exit} (h : isNo e = true) : e = .normal := by cases e <;> first | rfl | cases h
theorem isEx_eq {k : Nat} {e : Exit} (h : isEx k e = true) : e = .exit k := by
  cases e with
  | exit i => rw [Nat.eq_of_beq_eq_true h]
  | _ => cases h
theorem onE_some {e0 : Exit → Bool} {K : TM → HM → Option R} {e : Exit} {m : TM} {h : HM} {dl : List Nat} {x : R} (hk : onE e0 K e m h dl = some x) : e0 e = true ∧ dl = [] ∧ K m h = some x := by
  unfold onE at hk
  split at hk
  · rename_i h1
    split at hk
    · exact ⟨h1, rfl, hk⟩
    · cases hk
  · cases hk
def rndT (f : FC) : Nat → (TM → HM → Option R) → TM → HM → Option R
  | 0, K, m, h => K m h
  | k + 1, K, m, h => f m h [] (onE isNo (rndT f k K))
def rndO (f : St → List Nat → Out) : Nat → St → Option St
  | 0, st => some st
  | k + 1, st => (match f st [] with
    | some (.normal, st', []) => rndO f k st'
    | _ => none)
section
variable {TY : TypeId → Option TI} {callT : CallT} {call : CallO} {isFn : FuncId → Bool} {ord : Nat → Option RO}
theorem piece_ok (hS : Sim callT call) {c : Code} {e0 : Exit → Bool} {K : TM → HM → Option R} {m : TM} {h : HM} {x : R} (hk : codeT TY callT isFn ord none c m h [] (onE e0 K) = some x) :
    ∃ e m' h', e0 e = true ∧ codeO TY call isFn ord none c ⟨m.toL, toH h⟩ [] = some (e, ⟨m'.toL, toH h'⟩, []) ∧ K m' h' = some x := by
  obtain ⟨e, m', h', dl', h1, h2⟩ := codeT_ok hS c hk
  obtain ⟨h3, rfl, h4⟩ := onE_some h2
  exact ⟨e, m', h', h3, h1, h4⟩
theorem rndT_ok (hS : Sim callT call) {c : Code} {x : R} : ∀ {k : Nat} {K : TM → HM → Option R} {m : TM} {h : HM}, rndT (codeT TY callT isFn ord none c) k K m h = some x →
    ∃ m' h', rndO (codeO TY call isFn ord none c) k ⟨m.toL, toH h⟩ = some ⟨m'.toL, toH h'⟩ ∧ K m' h' = some x
  | 0, K, m, h, hk => ⟨m, h, rfl, hk⟩
  | k + 1, K, m, h, hk => by
    obtain ⟨e, m1, h1, he, e1, hk⟩ := piece_ok hS hk
    obtain rfl := isNo_eq he
    obtain ⟨m2, h2, e2, hk⟩ := rndT_ok hS hk
    refine ⟨m2, h2, ?_, hk⟩
    rw [rndO, e1]
    exact e2
end
/-! ### The code's first part, and the rest -/
def takeC : Nat → Code → Code
  | 0, _ => .skip
  | n + 1, .seq a b => .seq a (takeC n b)
  | _ + 1, _ => .ret
def dropC : Nat → Code → Code
  | 0, c => c
  | n + 1, .seq _ b => dropC n b
  | _ + 1, _ => .skip
section
variable {F : Nat → Obj → Prop} {P : Program} {TY : TypeId → Option TI} {call : CallO} {isFn : FuncId → Bool} {ord : Nat → Option RO} {Fe : Fence} {dn : Nat}
theorem piece_sound (hm : P.follows .mixedOrders = true) (hO : Open Fe) (hr : Fe.round = none) (hTY : TyOk P TY) (hC : CtrOk F P (CO call)) (hE : ∀ g, isFn g = true → Ent P g ∧ Good F P g (KO call g)) {c : Code} {ρ : Nat → Option Nat} {S : Nat → Prop} {w : World} {st st' : St} {a : Act} {e : Exit}
    (ho : okC ord c = true) (hR : RelX F [] ρ S st a w) (h : codeO TY call isFn ord none c st [] = some (e, st', [])) : c.wpIn Fe dn P (fun e' a' w' => e' = e ∧ ∃ ρ' S', RelX F [] ρ' S' st' a' w' ∧ Ext ρ S w ρ' S' w') a w := by
  refine wpIn_mono (codeO_sound (ds := []) (dl := []) hm hO hTY hC hE c (fun _ => ho) hR trivial (show RndOk ρ none Fe from hr) h) ?_
  rintro e' a' w' ⟨rfl, ds', ρ', S', hD, hR', hE'⟩
  cases ds' with
  | nil => exact ⟨rfl, ρ', S', hR', hE'⟩
  | cons d ds => exact hD.elim
theorem take_sound (hm : P.follows .mixedOrders = true) (hO : Open Fe) (hr : Fe.round = none) (hTY : TyOk P TY) (hC : CtrOk F P (CO call)) (hE : ∀ g, isFn g = true → Ent P g ∧ Good F P g (KO call g)) {Q : Exit → Act → World → Prop} : ∀ (k : Nat) (c : Code) {ρ : Nat → Option Nat} {S : Nat → Prop} {w : World} {st st' : St} {a : Act} {ds : List Deferred} {dl : List Nat},
    okC ord c = true → RelX F ds ρ S st a w → DR ρ dl ds → codeO TY call isFn ord none (takeC k c) st dl = some (.normal, st', []) →
    (∀ ρ' S' a' w', okC ord (dropC k c) = true → RelX F [] ρ' S' st' a' w' → Ext ρ S w ρ' S' w' → (dropC k c).wpIn Fe dn P Q a' w') → c.wpIn Fe dn P Q a w
  | 0, c, ρ, S, w, st, st', a, ds, dl, ho, hR, hD, h, hk => by
    rw [takeC, codeO] at h
    cases h
    cases ds with
    | nil => exact hk ρ S a w ho hR (Ext.refl _ _ _)
    | cons d ds => exact hD.elim
  | k + 1, c, ρ, S, w, st, st', a, ds, dl, ho, hR, hD, h, hk => by
    cases c with
    | seq x y =>
      rw [okC, Bool.and_eq_true] at ho
      rw [takeC, codeO] at h
      split at h
      · rename_i e1 st1 dl1 h1
        refine wpIn_seq (wpIn_mono (codeO_sound hm hO hTY hC hE x (fun _ => ho.1) hR hD (show RndOk ρ none Fe from hr) h1) ?_)
        rintro e' a' w' ⟨rfl, ds', ρ', S', hD', hR', hE'⟩
        cases e' with
        | normal => exact take_sound hm hO hr hTY hC hE k y ho.2 hR' hD' h fun ρ2 S2 a2 w2 ho2 h2 h3 => hk ρ2 S2 a2 w2 ho2 h2 (hE'.trans h3)
        | exit id => cases h
        | goto l => cases h
        | ret => cases h
        | panic ch => cases h
        | outgrown => cases h
      · cases h
    | _ => (have hx : ∀ (st st' : St) (dl : List Nat), codeO TY call isFn ord none .ret st dl = some (.normal, st', []) → False := fun st st' dl h => (by rw [codeO] at h; cases h)); exact (hx _ _ _ h).elim
theorem rnd_sound (hm : P.follows .mixedOrders = true) (hO : Open Fe) (hr : Fe.round = none) (hTY : TyOk P TY) (hC : CtrOk F P (CO call)) (hE : ∀ g, isFn g = true → Ent P g ∧ Good F P g (KO call g)) {c : Code} (ho : okC ord c = true) {Q : Exit → Act → World → Prop} {j : Nat} : ∀ (k : Nat) {ρ : Nat → Option Nat} {S : Nat → Prop} {w : World} {st st' : St} {a : Act},
    RelX F [] ρ S st a w → rndO (codeO TY call isFn ord none c) k st = some st' → (∀ ρ' S' a' w', RelX F [] ρ' S' st' a' w' → Ext ρ S w ρ' S' w' → Code.roundsIn Fe dn P c Q j a' w') → Code.roundsIn Fe dn P c Q (j + k) a w
  | 0, ρ, S, w, st, st', a, hR, h, hk => by
    cases h
    exact hk ρ S a w hR (Ext.refl _ _ _)
  | k + 1, ρ, S, w, st, st', a, hR, h, hk => by
    rw [rndO] at h
    split at h
    · rename_i st1 h1
      rw [← Nat.add_assoc, roundsIn_succ]
      refine wpIn_mono (piece_sound hm hO hr hTY hC hE ho hR h1) ?_
      rintro e' a' w' ⟨rfl, ρ', S', hR', hE'⟩
      exact rnd_sound hm hO hr hTY hC hE ho k hR' h fun ρ2 S2 a2 w2 h2 h3 => hk ρ2 S2 a2 w2 h2 (hE'.trans h3)
    · cases h
end
end
end Go.Vc

/- BookFull: the table of its functions, contracts in place of some. -/
namespace Go.Vc.F
open Go Go.Vc Go.Proofs
set_option maxRecDepth 100000
noncomputable section
/-! ### Pure calls -/
noncomputable def insA : FuncId → Option (List AV → HM → Option (AV × HM)) := fun g => match Nat.beq g 121 with | true => some cloneT | false => none
noncomputable def insAO : FuncId → Option (List AV → List Blk → Option (AV × List Blk)) := fun g => match Nat.beq g 121 with | true => some cloneO | false => none
noncomputable def run1 : CallT := tabT Y.TY tab.look insA 60
noncomputable def run1O : CallO := tabO Y.TY tab.look insAO 60
theorem insA_ok : InsOk insA insAO := by
  intro g k args h r h' hg hk
  unfold insA at hg
  split at hg
  · rename_i hb
    cases hg
    refine ⟨_, ?_, cloneT_ok hk⟩
    unfold insAO
    rw [hb]
  · cases hg
theorem run1_ok : Sim run1 run1O := tabT_ok insA_ok 60
theorem mixed : Tryz.prog.follows .mixedOrders = true := by kernel_rfl
theorem clone_good (F : Nat → Obj → Prop) : GoodI F Tryz.prog 121 (fun args H Q => ∃ r H', cloneO args H = some (r, H') ∧ Q r H') := goodI_clone Tryz.func121 (by kernel_rfl) (by kernel_rfl) (by kernel_rfl) (by kernel_rfl)
theorem hinsA (F : Nat → Obj → Prop) : ∀ g k, insAO g = some k → (Ent Tryz.prog g ∧ Good F Tryz.prog g (fun args H Q => ∃ r H', k args H = some (r, H') ∧ Q r H')) ∨ GoodI F Tryz.prog g (fun args H Q => ∃ r H', k args H = some (r, H') ∧ Q r H') := by
  intro g k h
  unfold insAO at h
  split at h
  · rename_i hb
    obtain rfl := Nat.eq_of_beq_eq_true hb
    cases h
    exact .inr (clone_good F)
  · cases h
theorem hprogA : ∀ g fn ord, tab.look g = some (fn, ord) → Nat.beq g YF = false ∧ Tryz.prog.funcs[g]? = some fn ∧ Ent Tryz.prog g ∧ ∀ c, fn.body = some c → okC ord c = true := fun g fn ord h => FT.ok tabOk g (fn, ord) h
theorem good1 (F : Nat → Obj → Prop) (g : FuncId) (h : (tab.look g).isSome = true) : Ent Tryz.prog g ∧ Good F Tryz.prog g (KO run1O g) := (tabO_sound (F := F) mixed Y.tyOk hprogA (hinsA F) 60).2 g h
/-! ### The carrier of a number -/
noncomputable def carT (t : Int) : Option Int := match pureT run1 43 [.int .u64 t] noH with
  | some (.int .i64 c, _) => some c
  | _ => none
noncomputable def carO (t : Int) : Option Int := match pureO run1O 43 [.int .u64 t] [] with
  | some (.int .i64 c, _) => some c
  | _ => none
theorem car_ok {t c : Int} (h : carT t = some c) : carO t = some c := by
  unfold carT at h
  split at h
  · rename_i c0 h0 hk
    cases h
    have := pureT_ok run1_ok hk
    rw [noH_eq] at this
    unfold carO
    rw [this]
  · cases h
theorem carO_call {t c : Int} (h : carO t = some c) (H : List Blk) : pureO run1O 43 [.int .u64 t] H = some (.int .i64 c, H) := by
  unfold carO at h
  split at h
  · rename_i c0 H0 hk
    cases h
    have hp : plainL [.int .u64 t] = true := rfl
    unfold pureO at hk ⊢
    rw [hp] at hk ⊢
    simp only at hk ⊢
    split at hk
    · rename_i r H1 hr
      split at hk
      · rename_i hpr
        cases hk
        first | rfl | (rw [hr]; rfl)
      · rename_i hpr
        rw [hr] at hk
        cases hk
        cases hpr
    · cases hk
  · cases h
noncomputable def insP : FuncId → Option (List AV → List Blk → Option (AV × List Blk)) := fun g => match Nat.beq g 43 with | true => some (pureO run1O 43) | false => none
theorem look43 : (tab.look 43).isSome = true := by kernel_rfl
theorem hinsP (F : Nat → Obj → Prop) : ∀ g k, insP g = some k → (Ent Tryz.prog g ∧ Good F Tryz.prog g (fun args H Q => ∃ r H', k args H = some (r, H') ∧ Q r H')) ∨ GoodI F Tryz.prog g (fun args H Q => ∃ r H', k args H = some (r, H') ∧ Q r H') := by
  intro g k h
  unfold insP at h
  split at h
  · rename_i hb
    obtain rfl := Nat.eq_of_beq_eq_true hb
    cases h
    obtain ⟨h1, h2⟩ := good1 F 43 look43
    exact .inl ⟨h1, good_pure h2⟩
  · cases h
theorem asked_good (F : Nat → Obj → Prop) : Good F Tryz.prog 143 (fun args H Q => ∃ r H', askedO carO args H = some (r, H') ∧ Q r H') := by
  have hC := (tabO_sound (F := F) (P := Tryz.prog) mixed Y.tyOk (prog := prog0) (ins := insP) (fun g fn ord h => by cases h) (hinsP F) 1).1
  exact good_asked Y.tyOk hC fun t c H h => carO_call h H
/-! ### Over trees -/
noncomputable def askedT (args : List AV) (h : HM) : Option (AV × HM) := match args with
  | [.ptr id 0, .int .i64 o] => (match getH h id with
    | some (.var [a0, a1, a2, a3, a4, .map i2, .map i3, .map i1, .map i4, .map i5] _) => (match getH h i1 with
      | some (.map es (some (bs, ck))) => guardO (plainL [a0, a1, a2, a3, a4]) (guardO (nodupN [id, i1, i2, i3, i4, i5]) (guardO (bs.all (fun b => Nat.blt b ck)) (guardO (ascN bs) (guardO (Nat.beq bs.length es.length) (guardO (Nat.blt es.length 1000) (match cntN carT o es with
        | some n => natR n fun n => some (.int .i64 (Int.ofNat n), h)
        | none => none))))))
      | _ => none)
    | _ => none)
  | _ => none
theorem entN_ok {o : Int} {p : AV × AV} {n : Nat} (h : entN carT o p = some n) : entN carO o p = some n := by
  unfold entN at h ⊢
  split at h
  · rename_i t q c0 c1 b k3 c3 k4 c4 k5 c5 k6 c6 k7 c7 k8 c8
    cases b with
    | true => exact h
    | false =>
      simp only at h ⊢
      split at h
      · rename_i c hc
        rw [car_ok hc]; exact h
      · cases h
  · cases h
theorem cntN_ok {o : Int} : ∀ {es : List (AV × AV)} {n : Nat}, cntN carT o es = some n → cntN carO o es = some n
  | [], n, h => h
  | p :: es, n, h => by
    rw [cntN] at h ⊢
    split at h
    · rename_i a ha
      rw [entN_ok ha]
      simp only
      split at h
      · rename_i b hb
        rw [cntN_ok hb]; exact h
      · cases h
    · cases h
theorem askedT_ok {args : List AV} {h h' : HM} {r : AV} (hk : askedT args h = some (r, h')) : askedO carO args (toH h) = some (r, toH h') := by
  unfold askedT at hk
  split at hk
  · unfold askedO
    rw [getH_eq] at hk
    simp only
    split at hk
    · rename_i hid
      rw [getH_eq] at hk
      split at hk
      · rename_i hmap
        obtain ⟨g1, hk⟩ := guardO_some hk
        obtain ⟨g2, hk⟩ := guardO_some hk
        obtain ⟨g3, hk⟩ := guardO_some hk
        obtain ⟨g4, hk⟩ := guardO_some hk
        obtain ⟨g5, hk⟩ := guardO_some hk
        obtain ⟨g6, hk⟩ := guardO_some hk
        split at hk
        · rename_i n hn
          rw [natR_eq] at hk
          cases hk
          simp only [hid, hmap, g1, g2, g3, g4, g5, g6, guardO, cntN_ok hn]
        · cases hk
      · cases hk
    · cases hk
  · cases hk
noncomputable def sortLT (args : List AV) (h : HM) : Option (AV × HM) := match args with
  | [.osl id 9 0 n _, .fn 49 []] => (match getH h id with
    | some (.row 9 m get T) => guardO (Nat.ble n m) (guardO (Nat.blt 0 n) (guardO (Nat.blt n 1000000) (guardO (covR get n) (setHT (.row 9 n (fun _ => patL) T) h id fun h => some (.tup [], h)))))
    | _ => none)
  | _ => none
theorem sortLT_ok {args : List AV} {h h' : HM} {r : AV} (hk : sortLT args h = some (r, h')) : sortLO args (toH h) = some (r, toH h') := by
  unfold sortLT at hk
  split at hk
  · unfold sortLO
    rw [getH_eq] at hk
    simp only
    split at hk
    · rename_i hid
      obtain ⟨g1, hk⟩ := guardO_some hk
      obtain ⟨g2, hk⟩ := guardO_some hk
      obtain ⟨g3, hk⟩ := guardO_some hk
      obtain ⟨g4, hk⟩ := guardO_some hk
      obtain ⟨h1, e1, hk⟩ := setHT_some hk
      cases hk
      simp only [hid, g1, g2, g3, g4, guardO, e1]
    · cases hk
  · cases hk
/-! ### The table -/
def pureIds : List Nat := [8, 9, 14, 30, 42, 43, 103, 154]
def isPure (g : Nat) : Bool := pureIds.any (Nat.beq g)
noncomputable def ins2 : FuncId → Option (List AV → HM → Option (AV × HM)) := fun g => match isPure g with
  | true => some (pureT run1 g)
  | false => (match Nat.beq g 143 with
    | true => some askedT
    | false => (match Nat.beq g 109 with
      | true => some sortLT
      | false => insA g))
noncomputable def ins2O : FuncId → Option (List AV → List Blk → Option (AV × List Blk)) := fun g => match isPure g with
  | true => some (pureO run1O g)
  | false => (match Nat.beq g 143 with
    | true => some (askedO carO)
    | false => (match Nat.beq g 109 with
      | true => some sortLO
      | false => insAO g))
noncomputable def prog2 : FuncId → Option (Func × (Nat → Option RO)) := fun g => match isPure g with
  | true => none
  | false => (match Nat.beq g 143 with
    | true => none
    | false => (match Nat.beq g 109 with
      | true => none
      | false => tab.look g))
theorem ins2_ok : InsOk ins2 ins2O := by
  intro g k args h r h' hg hk
  unfold ins2 at hg
  unfold ins2O
  split at hg
  · rename_i hb
    cases hg
    try simp only [hb]
    exact ⟨_, rfl, pureT_ok run1_ok hk⟩
  · rename_i hb
    try simp only [hb]
    split at hg
    · rename_i hb2
      cases hg
      try simp only [hb2]
      exact ⟨_, rfl, askedT_ok hk⟩
    · rename_i hb2
      try simp only [hb2]
      split at hg
      · rename_i hb3
        cases hg
        try simp only [hb3]
        exact ⟨_, rfl, sortLT_ok hk⟩
      · rename_i hb3
        try simp only [hb3]
        exact insA_ok g k args h r h' hg hk
theorem look8 : (tab.look 8).isSome = true := by kernel_rfl
theorem look9 : (tab.look 9).isSome = true := by kernel_rfl
theorem look14 : (tab.look 14).isSome = true := by kernel_rfl
theorem look30 : (tab.look 30).isSome = true := by kernel_rfl
theorem look42 : (tab.look 42).isSome = true := by kernel_rfl
theorem look103 : (tab.look 103).isSome = true := by kernel_rfl
theorem look154 : (tab.look 154).isSome = true := by kernel_rfl
theorem pure_look {g : Nat} (h : isPure g = true) : (tab.look g).isSome = true := by
  have h : (pureIds.any (Nat.beq g)) = true := h
  simp only [pureIds, List.any_cons, List.any_nil, Bool.or_false, Bool.or_eq_true] at h
  rcases h with h | h | h | h | h | h | h | h <;> obtain rfl := Nat.eq_of_beq_eq_true h
  · exact look8
  · exact look9
  · exact look14
  · exact look30
  · exact look42
  · exact look43
  · exact look103
  · exact look154
theorem hins2 (F : Nat → Obj → Prop) : ∀ g k, ins2O g = some k → (Ent Tryz.prog g ∧ Good F Tryz.prog g (fun args H Q => ∃ r H', k args H = some (r, H') ∧ Q r H')) ∨ GoodI F Tryz.prog g (fun args H Q => ∃ r H', k args H = some (r, H') ∧ Q r H') := by
  intro g k h
  unfold ins2O at h
  split at h
  · rename_i hb
    cases h
    obtain ⟨h1, h2⟩ := good1 F g (pure_look hb)
    exact .inl ⟨h1, good_pure h2⟩
  · split at h
    · rename_i hb
      obtain rfl := Nat.eq_of_beq_eq_true hb
      cases h
      exact .inl ⟨Tryz.call143, asked_good F⟩
    · split at h
      · rename_i hb
        obtain rfl := Nat.eq_of_beq_eq_true hb
        cases h
        exact .inl ⟨Tryz.call109, sort109⟩
      · exact hinsA F g k h
theorem hprog2 : ∀ g fn ord, prog2 g = some (fn, ord) → Nat.beq g YF = false ∧ Tryz.prog.funcs[g]? = some fn ∧ Ent Tryz.prog g ∧ ∀ c, fn.body = some c → okC ord c = true := by
  intro g fn ord h
  unfold prog2 at h
  split at h
  · cases h
  · split at h
    · cases h
    · split at h
      · cases h
      · exact hprogA g fn ord h
noncomputable def call2 : CallT := tabT Y.TY prog2 ins2 99
noncomputable def call2O : CallO := tabO Y.TY prog2 ins2O 99
noncomputable def isFn2 : FuncId → Bool := fun g => (prog2 g).isSome
theorem call2_ok : Sim call2 call2O := tabT_ok ins2_ok 99
theorem call2_good (F : Nat → Obj → Prop) : CtrOk F Tryz.prog (CO call2O) ∧ ∀ g, isFn2 g = true → Ent Tryz.prog g ∧ Good F Tryz.prog g (KO call2O g) := tabO_sound (F := F) mixed Y.tyOk hprog2 (hins2 F) 99
end
end Go.Vc.F

/- BookFull: the states at which its run is cut. -/
namespace Go.Vc.F
open Go Go.Vc Go.Proofs
set_option maxRecDepth 1000000
noncomputable section
/-! ### The code's pieces -/
noncomputable def f3 : Code := match Tryz.f3.body with | some c => c | none => .skip
noncomputable def X1 : Code := seqL (dropC 6 f3)
noncomputable def lp1 : Code := inC (inC (seqR X1))
noncomputable def X2 : Code := seqL (dropC 11 f3)
noncomputable def lp2 : Code := inC (inC (seqR X2))
noncomputable def run (c : Code) : FC := codeT Y.TY call2 isFn2 ord3 none c
noncomputable def runO (c : Code) : St → List Nat → Out := codeO Y.TY call2O isFn2 ord3 none c
/-! ### The states -/
def makeN (c i : Nat) : Nat := Nat.add (Nat.mul (Nat.add (Nat.mul c 1000000000) i) 10) (Nat.mod (Nat.add (Nat.mul c 1000000000) i) 7)
def digs : Nat → Nat → List UInt8 → List UInt8
  | 0, _, l => l
  | k + 1, n, l => digs k (Nat.div n 10) (UInt8.ofNat (Nat.add 48 (Nat.mod n 10)) :: l)
def uN (n : Nat) : AV := .int .u64 (.ofNat n)
def iN (n : Nat) : AV := .int .i64 (.ofNat n)
def ups : Nat → Nat → List Nat
  | 0, _ => []
  | k + 1, i => i :: ups k (Nat.succ i)
def loanE (i : Nat) : AV × AV := (.agg [uN (makeN 124 i), iN 1], .agg [uN (makeN 124 i), iN 1, .bool false, iN 0, iN 0, iN 0, iN 0, iN 0, uN 0])
def ansE (i : Nat) : AV × AV := (.str (UInt8.ofNat 97 :: digs 13 (makeN 124 i) []), .any)
def hp (loans answs : List (AV × AV)) (n inn last : Nat) : List Blk := [.var [.ptr 1 0] (some 22), .var [iN 123, iN 0, iN 9, iN 0, iN 0, .map 2, .map 3, .map 4, .map 5, .map 6] none, .map [] none, .map [] none, .map loans (some (ups n 0, n)), .map answs none,
  .map [(iN 124, .agg [uN inn, uN last, .osl 7 11 0 last none])] none, .row 11 last (fun _ => List.replicate 11 (.intu none)) none]
/-- At the first loop's head, the i-th time. -/
def S1 (i : Nat) : St := ⟨[.bool false, .ptr 0 0, .any, .fn 6 [.ptr 0 0], uN (makeN 124 0), .any, uN (makeN 124 999), .any, iN i] ++ List.replicate 129 .any, hp ((ups i 0).map loanE) ((ups i 0).map ansE) i 0 i⟩
def heldE : AV × AV := (.agg [uN (makeN 124 0), iN 1], .agg [uN (makeN 124 0), iN 1, .bool true, iN 1, iN 0, iN 0, iN 1, iN 0, uN 0])
/-- At the second loop's head, the j-th time. -/
def S2 (j : Nat) : St := ⟨[.bool false, .ptr 0 0, .any, .fn 6 [.ptr 0 0], uN (makeN 124 0), .any, uN (makeN 124 999), .any, .any, .any, .any, .any, uN (makeN 123 777), .any, iN j] ++ List.replicate 123 .any,
  hp (heldE :: (ups 99 1).map loanE ++ [loanE 999]) ((ups 100 0).map ansE ++ [(.str [UInt8.ofNat 122], .any)]) 101 (Nat.add 1 j) (Nat.add 101 j)⟩
def St0 : St := ⟨List.replicate 138 .any, []⟩
/-- Where the blocks lie. -/
def sigS (m : TM) (h : HM) : Option (List Nat) := match getT m 1 with
  | .ptr p 0 => (match getH h p with
    | some (.var [.ptr b 0] _) => (match getH h b with
      | some (.var [_, _, _, _, _, .map a1, .map a2, .map a3, .map a4, .map a5] _) => (match getH h a5 with
        | some (.map [(_, .agg [_, _, .osl r _ _ _ _])] _) => some [p, b, a1, a2, a3, a4, a5, r]
        | _ => none)
      | _ => none)
    | _ => none)
  | _ => none
def chk (s : St) : TM → HM → Option R := fun m h => finT sigS s .normal m h []
def isS : Option R → Bool
  | some _ => true
  | none => false
theorem isS_some {r : Option R} (h : isS r = true) : ∃ x, r = some x := by
  cases r with
  | some x => exact ⟨x, rfl⟩
  | none => cases h
def isRet : Exit → Bool
  | .ret => true
  | _ => false
/-- The end: true. -/
def endT : TM → HM → Option R := fun m _ => match getT m 0 with
  | .bool true => some (.bool true, noH)
  | _ => none
/-! ### The parts -/
noncomputable def partA : Option R := startT St0 fun m h => run (takeC 6 f3) m h [] (onE isNo fun m h => run (seqL X1) m h [] (onE isNo fun m h => rndT (run lp1) 25 (chk (S1 25)) m h))
noncomputable def partB (i k : Nat) : Option R := startT (S1 i) fun m h => rndT (run lp1) k (chk (S1 (Nat.add i k))) m h
noncomputable def partC : Option R := startT (S1 100) fun m h => run lp1 m h [] (onE (isEx 0) fun m h => run (takeC 4 (dropC 7 f3)) m h [] (onE isNo fun m h => run (seqL X2) m h [] (onE isNo (chk (S2 0)))))
noncomputable def partD (i k : Nat) : Option R := startT (S2 i) fun m h => rndT (run lp2) k (chk (S2 (Nat.add i k))) m h
noncomputable def partE : Option R := startT (S2 200) fun m h => run lp2 m h [] (onE (isEx 2) fun m h => run (dropC 12 f3) m h [] (onE isRet endT))
end
end Go.Vc.F
