/- maps.clone, which the model stands in for. -/
import Derived.Test.YtmfamcjilhjncaaGreatV7
import Derived.Test.YtmfamcjilhjncaaGreatV10
import Derived.Shelf.SlMaps.Clone
import Derived.ChangeArms
import Derived.ChangeStays
import Derived.ChangeSame
import Derived.ChangeAgain
import Derived.RowKit3
set_option linter.all false
namespace Go.Vc
open Go Go.Proofs
noncomputable section
theorem goodI_clone {F : Nat → Obj → Prop} {P : Program} {g : FuncId} {fn : Func} (hf : P.funcs[g]? = some fn) (hname : (fn.name == "runtime.NumGoroutine") = false)
    (hb : fn.body.isNone = true) (hn : Extern.findNext fn = none) (he : Extern.find fn = some Extern.MapsClone.clone) :
    GoodI F P g (fun args H Q => ∃ r H', cloneO args H = some (r, H') ∧ Q r H') := by
  intro ρ S w H cs vs Q hs hH hv hk
  obtain ⟨r, H', h, hQ⟩ := hk
  unfold cloneO at h
  try simp only [getO_arr] at h
  try simp only [getO_eq, lenU_eq] at h
  split at h
  · rename_i t x
    split at h
    · rename_i id
      split at h
      · rename_i es bk hid
        simp only [natZ_eq, pushZ_eq] at h
        cases h
        obtain ⟨hsz, hv⟩ := hv
        obtain ⟨v, rfl⟩ : ∃ v, vs = #[v] := by
          have : vs.size = 1 := by simpa using hsz.symm
          exact Array.size_eq_one_iff.mp this
        have hv0 := hv 0 _ v rfl rfl
        cases hv0 with
        | iface _ _ u hu =>
          cases hu with
          | map _ b hb' =>
            obtain ⟨h1, es', clock, h2, h3, h4, h5⟩ := hH.blk id _ hid b hb'
            have hE := ext_alloc hH (.map es' clock)
            refine ⟨.iface t (.map (some w.heap.size)), w.alloc (.map es' clock), _, _, newρ ρ H.length w.heap.size, S, ?_, hQ, ?_, ?_, hE, hs.still hE⟩
            · rw [run_callFunc_extern hf hname hb hn he, run_maps_clone_sl w t h2]
              rfl
            · exact .iface _ _ _ (.map _ _ (by simp [newρ]))
            · refine hrel_alloc hH _ ?_
              intro b2 hb2
              have : w.heap.size = b2 := by simpa [newρ] using hb2
              subst this
              refine ⟨fun hS => Nat.lt_irrefl _ (hs.lt _ hS), es', clock, heap_alloc_at w _, h3, h4, fun i k x e hi he => ⟨((h5 i k x e hi he).1).mono hE, ((h5 i k x e hi he).2).mono hE⟩⟩
      · cases h
    · cases h
  · cases h
theorem cloneT_ok {args : List AV} {h h' : HM} {r : AV} (hk : cloneT args h = some (r, h')) : cloneO args (toH h) = some (r, toH h') := by
  unfold cloneT at hk
  unfold cloneO
  split at hk
  · simp only
    split at hk
    · rename_i id
      rw [getH_eq] at hk
      simp only [getO_eq]
      split at hk
      · rename_i es bk hb
        rw [hb]
        simp only [natR_eq] at hk
        obtain ⟨h1, e1, hk⟩ := pushHT_some hk
        cases hk
        simp only [natZ_eq, pushZ_eq, lenU_eq, toH_length, e1]
      · cases hk
    · cases hk
  · cases hk
end
end Go.Vc

/- Behind a law with no arguments that answers true and leaves what was there as it is. -/
namespace Go.Vc
open Go
noncomputable section
/-- Nothing of what was there is another. -/
structure Kept (W W' : World) : Prop where
  same : ∀ b, b < W.heap.size → W'.heap[b]? = W.heap[b]?
  size : W.heap.size ≤ W'.heap.size
  os : W'.os = W.os
  output : W'.output = W.output
theorem Kept.but {W W' : World} (h : Kept W W') (may : MemPlace → Prop) : W.keptBut W' may := by
  refine ⟨h.os, h.output, fun i hi => ?_⟩
  rw [h.same i hi]
  exact (World.keptBut_refl W may).2.2 i hi
section
variable {P : Program} {H : Type} {enc : TypeId × Value → H} {W W' : World}
theorem post_law0 {f : Func} {s : ChangeSpec} {args : Array Value} {ds gs : List (DataW H)} {before : List MemPlace} {fresh handsOn again : Bool} {t : TypeId}
    (hv0 : s.vars = []) (hp : f.params.toList = []) (hr : f.resultTypes = #[t]) (ht : P.underlying t = some .bool)
    (hW : DataW.Whole enc P f.params.toList s.vars false W args.toList ds gs before) (hfn : s.fn H (ds ++ gs) = { results := [.lit (.bool true)], args := ds, vars := gs })
    (hk : Kept W W') : s.post enc P f false fresh handsOn again W args (.bool true) W' := by
  obtain ⟨p, q, hA, hV, rfl, hfz, _⟩ := id hW
  rw [hv0] at hV
  obtain ⟨rfl, rfl⟩ := ChangeShapes.trodVars_none hV
  have hA0 := hA
  rw [hp] at hA0
  obtain ⟨e1, rfl, rfl⟩ := ChangeShapes.trodAll_nil hA0
  have hargs : ∀ sp : Nat → Bool, DataW.TrodAll enc P W' 0 sp true f.params.toList args.toList [] [] := fun sp => by
    rw [hp, e1]
    exact ChangeShapes.trodAll_mk0
  have hres : ∀ (b : Nat) (sp : Nat → Bool) (hd : Bool), DataW.TrodAll enc P W' b sp hd f.resultTypes.toList ((Value.bool true).resultList f.resultTypes.size) [.lit (.bool true)] [] := by
    intro b sp hd
    rw [hr]
    exact ChangeShapes.trodAll_mk1 (RowKit.shut_bool ht true)
  have hvars : ∀ sp : Nat → Bool, DataW.TrodVars enc P W' sp s.vars [] [] := by
    intro sp
    rw [hv0]
    rfl
  refine ⟨[], [], [] ++ [], [], [], [], hW, ?_, ?_, ?_, ?_, fun _ => ⟨RowKit.ok_one hr rfl (RowKit.okWide_bool_mk ht true), .lit (.bool true) :: [], [], [], ⟨[], [], ?_, hvars _, by simp, ?_, fun h => by cases h⟩, ?_⟩⟩
  · rw [hfn]; exact hres _ _ _
  · rw [hfn]; exact hargs _
  · rw [hfn]; exact hvars _
  · exact World.keptBut_mono (fun _ f => f.elim) (hk.but fun _ => False)
  · exact ChangeShapes.trodAll_append (hargs _) (hres _ _ _)
  · intro b off hb
    simp at hb
  · intro q hq _
    simpa using hq
end
/-- A function without arguments that the executor runs to true: its calls. -/
theorem calls_of_good {F : Nat → Obj → Prop} {P : Program} {g : FuncId} {k : List AV → List Blk → Option (AV × List Blk)} {w : World} {H' : List Blk} (hF : ∀ b o, F b o → w.heap[b]? = some o)
    (hG : Good F P g (fun args H Q => ∃ r H', k args H = some (r, H') ∧ Q r H')) (hk : k [] [] = some (.bool true, H')) :
    Calls P g #[] w fun e w' => e = .returned (.bool true) ∧ Kept w w' := by
  have hs : Sok F (fun b => b < w.heap.size) w := ⟨fun b h => h, fun b o h => ⟨lt_of_some (hF b o h), hF b o h⟩⟩
  have hH : HRel (fun _ => none) (fun b => b < w.heap.size) w [] := ⟨fun i j bi bj b h => by simp at h, fun i b h => by simp at h, fun i b h => by cases h⟩
  refine (hG _ _ w [] [] #[] (fun c _ => c = .bool true) hs hH ⟨rfl, fun i c v h => by simp at h⟩ ⟨_, _, hk, rfl⟩).mono ?_
  rintro e w' ⟨v, c, H', ρ', S', rfl, rfl, hv, _, h2, _⟩
  obtain rfl := hv.boolR
  exact ⟨rfl, fun b hb => h2.same b hb (.inl hb), h2.size, h2.os, h2.output⟩
end
end Go.Vc
