/- Setups, read as data. -/
import Derived.Test.YtpmpclbdnakniaaGreatDoorV10
import Derived.Test.YtpmpclbdnakniaaGreatDoorV24
set_option linter.all false
set_option linter.unusedVariables false
set_option linter.unusedSimpArgs false
namespace Go.Vc
open Go
variable {H : Type} {enc : TypeId × Value → H} {P : Program} {W : World}
theorem Af5{r:Go.Reach}{b0:Nat}{t:TypeId}{i:TI}{v:Value}{d:DataW H}{ps:List MemPlace}(h:Aw P t=some i)(hk:i.kind= .bool)
  (hval:Value.okWide P W r b0 t v) (hd:DataW.Trod enc P W 0 (fun _=>true) true t v d ps):∃ s:Bool,V (fun _=>none) (fun b=>b<W.heap.size) W (.bool s) v:=by
 obtain⟨fuel,hf⟩:=hd
 obtain⟨a,ha⟩:=Aet h hk enc W fuel _ _ hf
 have hu:=rM h hk
 have hv:v.cells.toList=[v]:=by
  simp only[Value.okWide,hu,Cell.okWide] at hval
  cases v<;>simp_all[Cell.ok,Value.cells]
 rw[hv] at ha
 exact⟨a,ha.2 0 _ _ rfl rfl⟩
namespace Z
open Go.Proofs
abbrev Aom(s:Int × Int × Int):List AV:=[.int .i64 s.1,.int .i64 s.2.1,.int .i64 s.2.2]
theorem Aon:Dec Tryz.prog 159 Aom:=by
 intro H enc W fuel cs x hx
 obtain⟨hl,hf⟩:=Q5 Aeo rfl hx
 obtain⟨a0,h0⟩:=hf 0 0 1 3 ty3 rfl ok3 rfl (Nb ok3 rfl)
 obtain⟨a1,h1⟩:=hf 1 1 1 3 ty3 rfl ok3 rfl (Nb ok3 rfl)
 obtain⟨a2,h2⟩:=hf 2 2 1 3 ty3 rfl ok3 rfl (Nb ok3 rfl)
 exact⟨(a0,a1,a2),h0.step (h1.step (h2.step (CV.nil hl)))⟩
theorem As7:Dec Tryz.prog 161 Site.enc:=by
 intro H enc W fuel cs x hx
 obtain⟨hl,hf⟩:=Q5 Aep rfl hx
 obtain⟨⟨a,b,c⟩,h0⟩:=hf 0 0 3 159 Aen rfl Aeo rfl Aon
 obtain⟨a1,h1⟩:=hf 1 3 1 3 ty3 rfl ok3 rfl (Nb ok3 rfl)
 obtain⟨a2,h2⟩:=hf 2 4 1 3 ty3 rfl ok3 rfl (Nb ok3 rfl)
 obtain⟨a3,h3⟩:=hf 3 5 1 3 ty3 rfl ok3 rfl (Nb ok3 rfl)
 exact⟨⟨a,b,c,a1,a2,a3⟩,h0.step (h1.step (h2.step (h3.step (CV.nil hl))))⟩
theorem Aoo:Dec Tryz.prog 78 Setup.enc:=by
 intro H enc W fuel cs x hx
 obtain⟨hl,hf⟩:=Q5 Ant rfl hx
 obtain⟨a0,h0⟩:=hf 0 0 1 76 Anr rfl Ans rfl (Acf Ans rfl Aep rfl (by decide) As7)
 obtain⟨a1,h1⟩:=hf 1 1 1 3 ty3 rfl ok3 rfl (Nb ok3 rfl)
 exact⟨⟨a0,a1⟩,h0.step (h1.step (CV.nil hl))⟩
end Z
end Go.Vc
