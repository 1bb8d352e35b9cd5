/- BookNil: the law answers true, whatever world it is called in. -/
import Derived.Test.YtmfamcjilhjncaaGreatV11
import Derived.Test.YtmfamcjilhjncaaGreatV9
import Derived.Test.YtmfamcjilhjncaaGreatV12
import Derived.Test.YtmfamcjilhjncaaGreatRows
import Derived.WalkKit
import Derived.ProofKit
import Derived.OpenShut
set_option linter.all false
namespace Go.Proofs.YtmfamcjilhjncaaGreat.bookNil
open Go.ChangeShapes Go.WideShapes Go.ChangeAt Go.RowKit
set_option linter.unusedVariables false
noncomputable section
theorem own : ownKnob Tryz.prog.godebug = none := by kernel_rfl
/-! ### The walk: the executor's run -/
theorem of_true {r : Option (Go.Vc.AV × Go.Vc.HM)} (h : Go.Vc.Y.isTrueT r = true) : ∃ h', r = some (.bool true, h') := by
  unfold Go.Vc.Y.isTrueT at h
  split at h
  · exact ⟨_, rfl⟩
  · cases h
theorem hinsT : Go.Vc.InsOk Go.Vc.Y.insT Go.Vc.Y.ins := by
  intro g k args h r h' hg hk
  unfold Go.Vc.Y.insT at hg
  split at hg
  · rename_i hb
    cases hg
    refine ⟨_, ?_, Go.Vc.cloneT_ok hk⟩
    unfold Go.Vc.Y.ins
    rw [hb]
  · cases hg
theorem hins (F : Nat → Obj → Prop) : ∀ g k, Go.Vc.Y.ins g = some k → (Go.Vc.Ent Tryz.prog g ∧ Go.Vc.Good F Tryz.prog g (fun args H Q => ∃ r H', k args H = some (r, H') ∧ Q r H')) ∨ Go.Vc.GoodI F Tryz.prog g (fun args H Q => ∃ r H', k args H = some (r, H') ∧ Q r H') := by
  intro g k h
  unfold Go.Vc.Y.ins at h
  split at h
  · rename_i hb
    obtain rfl := Nat.eq_of_beq_eq_true hb
    cases h
    exact .inr (Go.Vc.goodI_clone Tryz.func121 (by kernel_rfl) (by kernel_rfl) (by kernel_rfl) (by kernel_rfl))
  · cases h
theorem good (F : Nat → Obj → Prop) : Go.Vc.Good F Tryz.prog 4 (Go.Vc.KO (Go.Vc.tabO Go.Vc.Y.TY Go.Vc.Y.tab.look Go.Vc.Y.ins 100) 4) :=
  ((Go.Vc.tabO_sound (F := F) (P := Tryz.prog) (by kernel_rfl) Go.Vc.Y.tyOk (fun g fn ord h => Go.Vc.FT.ok Go.Vc.Y.tabOk g (fn, ord) h) (hins F) 100).2 4 (by kernel_rfl)).2
theorem walk (w : World) : Calls Tryz.prog 4 #[] w fun e w' => e = .returned (.bool true) ∧ Go.Vc.Kept w w' := by
  obtain ⟨h', h⟩ := of_true Go.Vc.Y.runT
  exact Go.Vc.calls_of_good (F := fun _ _ => False) (fun _ _ h => h.elim) (good _) (Go.Vc.tabT_ok hinsT 100 4 [] Go.Vc.noH _ h' h)
set_option maxRecDepth 100000 in
theorem lifted (os : Os) (started : os.Started) (H : Type) (enc : TypeId × Value → H) :
    ReturnsInHanded {} Tryz.checked os 4 .any (Rows.bookNilSpec.pre6 enc Tryz.prog Tryz.f4 Rows.bookNilRow.domain false) (Rows.bookNilSpec.post enc Tryz.prog Tryz.f4 false true false false) := by
  refine returnsInHanded_of_change (C := Tryz.checked) own started (by kernel_rfl) Tryz.func4
    (ChangeSpec.witness6 (enc := enc) (C := Tryz.checked) false ⟨#[], #[], []⟩ 8 (by kernel_rfl) (by kernel_rfl) (by kernel_rfl) (by kernel_rfl)) ?_
  intro W base args ds gs before hval0 hW hcnd _
  have hval : ∀ (j : Nat) t v, Tryz.f4.params[j]? = some t → args[j]? = some v → Value.okWide Tryz.prog W .any base t v := hval0
  have hW' := hW
  obtain ⟨p, q, hA0, hV, rfl, hfz, hnd⟩ := hW
  have hA : DataW.TrodAll enc Tryz.prog W 0 (fun _ => true) true Tryz.f4.params.toList args.toList ds p := hA0
  rw [Tryz.params4] at hA hval
  obtain ⟨rfl, rfl, rfl⟩ := trodAll_none hA
  obtain ⟨rfl, rfl⟩ := trodVars_none hV
  clear hA0 hval0
  simp only [List.append_nil] at hW'
  refine (walk  W).mono fun e W' ⟨he, hg⟩ => ?_
  subst he
  exact ⟨_, rfl, Go.Vc.post_law0 rfl (by kernel_rfl) (by kernel_rfl) Tryz.underlying4 hW' rfl hg⟩
theorem over : Rows.bookNilRow.holds Tryz.pinned (OpenSpec.ofChange Rows.bookNilSpec) :=
  OpenClaim.holds_of_wide 4 Tryz.f4 rfl rfl rfl rfl rfl rfl rfl ⟨rfl, rfl, rfl, rfl, rfl⟩ rfl rfl rfl rfl rfl (by kernel_rfl) Tryz.func4 (by kernel_rfl)
    (of_decide_eq_true (by kernel_rfl)) (by unfold Func.isWrapper; first | (rw [if_pos (by decide +kernel)]; kernel_rfl) | (rw [if_neg (by decide +kernel)]; exact ⟨rfl, rfl⟩))
    (fun os started H enc _ => lifted os started H enc)
theorem proved : Rows.BookNilSaid :=
  over
end
end Go.Proofs.YtmfamcjilhjncaaGreat.bookNil
