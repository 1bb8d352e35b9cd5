/- Behind a law with no arguments that answers true and leaves what was there as it is. -/
import Derived.Test.YtmfamcjilhjncaaGreatV10
import Derived.Test.YtmfamcjilhjncaaGreatV13
import Derived.Test.YtmfamcjilhjncaaGreatV14
import Derived.Test.YtmfamcjilhjncaaGreatV15
import Derived.Test.YtmfamcjilhjncaaGreatV16
import Derived.Test.YtmfamcjilhjncaaGreatV17
import Derived.Test.YtmfamcjilhjncaaGreatV18
import Derived.Test.YtmfamcjilhjncaaGreatV19
import Derived.ChangeArms
import Derived.ChangeStays
import Derived.ChangeSame
import Derived.ChangeAgain
import Derived.RowKit3
set_option linter.all false
namespace Go.Vc
open Go
noncomputable section
/-- Nothing of what was there is another. -/
structure Kept (W W' : World) : Prop where
  same : ∀ b, b < W.heap.size → W'.heap[b]? = W.heap[b]?
  size : W.heap.size ≤ W'.heap.size
  os : W'.os = W.os
  output : W'.output = W.output
theorem Kept.but {W W' : World} (h : Kept W W') (may : MemPlace → Prop) : W.keptBut W' may := by
  refine ⟨h.os, h.output, fun i hi => ?_⟩
  rw [h.same i hi]
  exact (World.keptBut_refl W may).2.2 i hi
section
variable {P : Program} {H : Type} {enc : TypeId × Value → H} {W W' : World}
theorem post_law0 {f : Func} {s : ChangeSpec} {args : Array Value} {ds gs : List (DataW H)} {before : List MemPlace} {fresh handsOn again : Bool} {t : TypeId}
    (hv0 : s.vars = []) (hp : f.params.toList = []) (hr : f.resultTypes = #[t]) (ht : P.underlying t = some .bool)
    (hW : DataW.Whole enc P f.params.toList s.vars false W args.toList ds gs before) (hfn : s.fn H (ds ++ gs) = { results := [.lit (.bool true)], args := ds, vars := gs })
    (hk : Kept W W') : s.post enc P f false fresh handsOn again W args (.bool true) W' := by
  obtain ⟨p, q, hA, hV, rfl, hfz, _⟩ := id hW
  rw [hv0] at hV
  obtain ⟨rfl, rfl⟩ := ChangeShapes.trodVars_none hV
  have hA0 := hA
  rw [hp] at hA0
  obtain ⟨e1, rfl, rfl⟩ := ChangeShapes.trodAll_nil hA0
  have hargs : ∀ sp : Nat → Bool, DataW.TrodAll enc P W' 0 sp true f.params.toList args.toList [] [] := fun sp => by
    rw [hp, e1]
    exact ChangeShapes.trodAll_mk0
  have hres : ∀ (b : Nat) (sp : Nat → Bool) (hd : Bool), DataW.TrodAll enc P W' b sp hd f.resultTypes.toList ((Value.bool true).resultList f.resultTypes.size) [.lit (.bool true)] [] := by
    intro b sp hd
    rw [hr]
    exact ChangeShapes.trodAll_mk1 (RowKit.shut_bool ht true)
  have hvars : ∀ sp : Nat → Bool, DataW.TrodVars enc P W' sp s.vars [] [] := by
    intro sp
    rw [hv0]
    rfl
  refine ⟨[], [], [] ++ [], [], [], [], hW, ?_, ?_, ?_, ?_, fun _ => ⟨RowKit.ok_one hr rfl (RowKit.okWide_bool_mk ht true), .lit (.bool true) :: [], [], [], ⟨[], [], ?_, hvars _, by simp, ?_, fun h => by cases h⟩, ?_⟩⟩
  · rw [hfn]; exact hres _ _ _
  · rw [hfn]; exact hargs _
  · rw [hfn]; exact hvars _
  · exact World.keptBut_mono (fun _ f => f.elim) (hk.but fun _ => False)
  · exact ChangeShapes.trodAll_append (hargs _) (hres _ _ _)
  · intro b off hb
    simp at hb
  · intro q hq _
    simpa using hq
end
end
end Go.Vc

/- BookFull: its parts, one behind the other. -/
namespace Go.Vc.F
open Go Go.Vc Go.Proofs
set_option maxRecDepth 1000000
noncomputable section
theorem chk_some {s : St} {m : TM} {h : HM} {x : R} (hk : chk s m h = some x) : ∃ σ, LE σ ⟨m.toL, toH h⟩ s := (finT_some hk).2.2
theorem start_at {S : St} {m : TM} {h : HM} (h1 : m.toL = S.tmps) (h2 : toH h = S.heap) : (⟨m.toL, toH h⟩ : St) = S := by
  rw [h1, h2]
theorem partA_ok : ∃ st1 st2 st3 σ, runO (takeC 6 f3) St0 [] = some (.normal, st1, []) ∧ runO (seqL X1) st1 [] = some (.normal, st2, []) ∧ rndO (runO lp1) 25 st2 = some st3 ∧ LE σ st3 (S1 25) := by
  obtain ⟨x, hx⟩ := isS_some runA
  obtain ⟨m, h, e1, e2, hk⟩ := startT_some hx
  obtain ⟨e, m1, h1, he, a1, hk⟩ := piece_ok call2_ok hk
  obtain rfl := isNo_eq he
  obtain ⟨e, m2, h2, he, a2, hk⟩ := piece_ok call2_ok hk
  obtain rfl := isNo_eq he
  obtain ⟨m3, h3, a3, hk⟩ := rndT_ok call2_ok hk
  obtain ⟨σ, hl⟩ := chk_some hk
  rw [start_at e1 e2] at a1
  exact ⟨_, _, _, σ, a1, a2, a3, hl⟩
theorem partB_ok {i k : Nat} (hr : isS (partB i k) = true) : ∃ st σ, rndO (runO lp1) k (S1 i) = some st ∧ LE σ st (S1 (Nat.add i k)) := by
  obtain ⟨x, hx⟩ := isS_some hr
  obtain ⟨m, h, e1, e2, hk⟩ := startT_some hx
  obtain ⟨m3, h3, a3, hk⟩ := rndT_ok call2_ok hk
  obtain ⟨σ, hl⟩ := chk_some hk
  rw [start_at e1 e2] at a3
  exact ⟨_, σ, a3, hl⟩
theorem partC_ok : ∃ st1 st2 st3 σ, runO lp1 (S1 100) [] = some (.exit 0, st1, []) ∧ runO (takeC 4 (dropC 7 f3)) st1 [] = some (.normal, st2, []) ∧ runO (seqL X2) st2 [] = some (.normal, st3, []) ∧ LE σ st3 (S2 0) := by
  obtain ⟨x, hx⟩ := isS_some runC
  obtain ⟨m, h, e1, e2, hk⟩ := startT_some hx
  obtain ⟨e, m1, h1, he, a1, hk⟩ := piece_ok call2_ok hk
  obtain rfl := isEx_eq he
  obtain ⟨e, m2, h2, he, a2, hk⟩ := piece_ok call2_ok hk
  obtain rfl := isNo_eq he
  obtain ⟨e, m3, h3, he, a3, hk⟩ := piece_ok call2_ok hk
  obtain rfl := isNo_eq he
  obtain ⟨σ, hl⟩ := chk_some hk
  rw [start_at e1 e2] at a1
  exact ⟨_, _, _, σ, a1, a2, a3, hl⟩
theorem partD_ok {i k : Nat} (hr : isS (partD i k) = true) : ∃ st σ, rndO (runO lp2) k (S2 i) = some st ∧ LE σ st (S2 (Nat.add i k)) := by
  obtain ⟨x, hx⟩ := isS_some hr
  obtain ⟨m, h, e1, e2, hk⟩ := startT_some hx
  obtain ⟨m3, h3, a3, hk⟩ := rndT_ok call2_ok hk
  obtain ⟨σ, hl⟩ := chk_some hk
  rw [start_at e1 e2] at a3
  exact ⟨_, σ, a3, hl⟩
theorem partE_ok : ∃ st1 l H, runO lp2 (S2 200) [] = some (.exit 2, st1, []) ∧ runO (dropC 12 f3) st1 [] = some (.ret, ⟨.bool true :: l, H⟩, []) := by
  obtain ⟨x, hx⟩ := isS_some runE
  obtain ⟨m, h, e1, e2, hk⟩ := startT_some hx
  obtain ⟨e, m1, h1, he, a1, hk⟩ := piece_ok call2_ok hk
  obtain rfl := isEx_eq he
  obtain ⟨e, m2, h2, he, a2, hk⟩ := piece_ok call2_ok hk
  rw [start_at e1 e2] at a1
  have hret : e = .ret := by cases e <;> first | rfl | cases he
  subst hret
  unfold endT at hk
  split at hk
  · rename_i hb
    rw [getT_eq] at hb
    cases hl : m2.toL with
    | nil => rw [hl] at hb; cases hb
    | cons a l =>
      rw [hl] at hb
      have : a = .bool true := hb
      subst this
      rw [hl] at a2
      exact ⟨_, l, _, a1, a2⟩
  · cases hk
theorem e6 : dropC 6 f3 = .seq (.seq (seqL X1) (.block 0 (.loop lp1))) (dropC 7 f3) := rfl
theorem e11 : dropC 4 (dropC 7 f3) = .seq (.seq (seqL X2) (.block 2 (.loop lp2))) (dropC 12 f3) := rfl
theorem body3 : Tryz.f3.body = some f3 := rfl
theorem walk3 (w : World) : Calls Tryz.prog 3 #[] w fun e w' => e = .returned (.bool true) ∧ Kept w w' := by
  have hs : Sok (fun _ _ => False) (fun b => b < w.heap.size) w := ⟨fun b h => h, fun b o h => h.elim⟩
  have hH : HRel (fun _ => none) (fun b => b < w.heap.size) w [] := ⟨fun i j bi bj b h => by simp at h, fun i b h => by simp at h, fun i b h => by cases h⟩
  have h0 : ∀ i : Nat, (fun _ : Nat => (none : Option Nat)) i = none := fun _ => rfl
  obtain ⟨hC, hE⟩ := call2_good (fun _ _ => False)
  have hO := open_wide
  refine (fnW_sound (F := fun _ _ => False) (cs := []) (vs := #[]) (Q := fun c _ => c = .bool true) Y.tyOk Tryz.func3 body3 hs hH ⟨rfl, fun i c v h => by simp at h⟩ fun a hR => ?_).mono ?_
  · have ho : okC ord3 f3 = true := okf3.2.2.2 f3 body3
    obtain ⟨st1, st2, st3, σ3, a1, a2, a3, le3⟩ := partA_ok
    obtain ⟨st4, σ4, a4, le4⟩ := partB_ok runB1
    obtain ⟨st5, σ5, a5, le5⟩ := partB_ok runB2
    obtain ⟨st6, σ6, a6, le6⟩ := partB_ok runB3
    obtain ⟨st7, st8, st9, σ9, a7, a8, a9, le9⟩ := partC_ok
    obtain ⟨st10, σ10, a10, le10⟩ := partD_ok runD
    obtain ⟨st11, l, H12, a11, a12⟩ := partE_ok
    refine take_sound (dl := []) mixed hO rfl Y.tyOk hC hE 6 f3 ho hR trivial a1 fun ρ1 T1 b1 w1 ho1 hR1 hE1 => ?_
    rw [e6] at ho1 ⊢
    simp only [okC, Bool.and_eq_true] at ho1
    obtain ⟨⟨hoa, hol⟩, hor⟩ := ho1
    refine wpIn_seq (wpIn_seq (wpIn_mono (piece_sound mixed hO rfl Y.tyOk hC hE hoa hR1 a2) ?_))
    rintro e b2 w2 ⟨rfl, ρ2, T2, hR2, hE2⟩
    have hE2 := hE1.trans hE2
    refine wpIn_block (wpIn_loop_rounds (1 + 25 + 25 + 25 + 25) ?_)
    refine rnd_sound mixed hO rfl Y.tyOk hC hE hol 25 hR2 a3 fun ρ3 T3 b3 w3 hR3 hE3 => ?_
    have hR3 := relx_le hR3 le3
    have hE3 := ext_le (n := (S1 25).heap.length) (σ := σ3) (hE2.trans hE3) h0
    refine rnd_sound mixed hO rfl Y.tyOk hC hE hol 25 hR3 a4 fun ρ4 T4 b4 w4 hR4 hE4 => ?_
    have hR4 := relx_le hR4 le4
    have hE4 := ext_le (n := (S1 (Nat.add 25 25)).heap.length) (σ := σ4) (hE3.trans hE4) h0
    refine rnd_sound mixed hO rfl Y.tyOk hC hE hol 25 hR4 a5 fun ρ5 T5 b5 w5 hR5 hE5 => ?_
    have hR5 := relx_le hR5 le5
    have hE5 := ext_le (n := (S1 (Nat.add 50 25)).heap.length) (σ := σ5) (hE4.trans hE5) h0
    refine rnd_sound mixed hO rfl Y.tyOk hC hE hol 25 hR5 a6 fun ρ6 T6 b6 w6 hR6 hE6 => ?_
    have hR6 := relx_le hR6 le6
    have hE6 := ext_le (n := (S1 (Nat.add 75 25)).heap.length) (σ := σ6) (hE5.trans hE6) h0
    show Code.roundsIn _ _ _ _ _ (0 + 1) _ _
    rw [roundsIn_succ]
    refine wpIn_mono (piece_sound mixed hO rfl Y.tyOk hC hE hol hR6 a7) ?_
    rintro e b7 w7 ⟨rfl, ρ7, T7, hR7, hE7⟩
    have hE7 := hE6.trans hE7
    show Code.wpIn _ _ _ (dropC 7 f3) _ _ _
    refine take_sound (dl := []) mixed hO rfl Y.tyOk hC hE 4 (dropC 7 f3) hor hR7 trivial a8 fun ρ8 T8 b8 w8 ho8 hR8 hE8 => ?_
    have hE8 := hE7.trans hE8
    rw [e11] at ho8 ⊢
    simp only [okC, Bool.and_eq_true] at ho8
    obtain ⟨⟨hob, hom⟩, hot⟩ := ho8
    refine wpIn_seq (wpIn_seq (wpIn_mono (piece_sound mixed hO rfl Y.tyOk hC hE hob hR8 a9) ?_))
    rintro e b9 w9 ⟨rfl, ρ9, T9, hR9, hE9⟩
    have hR9 := relx_le hR9 le9
    have hE9 := ext_le (n := (S2 0).heap.length) (σ := σ9) (hE8.trans hE9) h0
    refine wpIn_block (wpIn_loop_rounds (1 + 200) ?_)
    refine rnd_sound mixed hO rfl Y.tyOk hC hE hom 200 hR9 a10 fun ρ10 T10 b10 w10 hR10 hE10 => ?_
    have hR10 := relx_le hR10 le10
    have hE10 := ext_le (n := (S2 (Nat.add 0 200)).heap.length) (σ := σ10) (hE9.trans hE10) h0
    show Code.roundsIn _ _ _ _ _ (0 + 1) _ _
    rw [roundsIn_succ]
    refine wpIn_mono (piece_sound mixed hO rfl Y.tyOk hC hE hom hR10 a11) ?_
    rintro e b11 w11 ⟨rfl, ρ11, T11, hR11, hE11⟩
    have hE11 := hE10.trans hE11
    show Code.wpIn _ _ _ (dropC 12 f3) _ _ _
    refine wpIn_mono (piece_sound mixed hO rfl Y.tyOk hC hE hot hR11 a12) ?_
    rintro e b12 w12 ⟨rfl, ρ12, T12, hR12, hE12⟩
    exact ⟨.inr rfl, ρ12, T12, _, [.bool true], hR12, hE11.trans hE12, rfl, rfl⟩
  · rintro e w' ⟨v, c, H', ρ', S', rfl, rfl, hv, _, h2, _⟩
    obtain rfl := hv.boolR
    exact ⟨rfl, fun b hb => h2.same b hb (.inl hb), h2.size, h2.os, h2.output⟩
end
end Go.Vc.F
