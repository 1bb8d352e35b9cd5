/- The law ScriptTexts (coupon/couponlaw26.ScriptTexts) answers true whatever its arguments are: whether any text is a script, and whose, is as the document says; and each argument reads behind the call as it read before. On condition that the listed package-level variables read as listed when the call begins, which the card ties to the program's text. -/
import Derived.Test.YtpmpclbdnakniaaGreatDoorV9
import Derived.Test.YtpmpclbdnakniaaGreatDoorV13
import Derived.Test.YtpmpclbdnakniaaGreatDoorV49
import Derived.Test.YtpmpclbdnakniaaGreatDoorCards
import Derived.Test.YtpmpclbdnakniaaGreatDoorTie
import Derived.WalkKit
import Derived.ProofKit
import Derived.OpenShut
import Derived.Deep.DeepHandedRow
import Derived.Lib.LaidTab
import Derived.Stop.LaidErr
import Derived.LaidLaws
set_option linter.all false
set_option maxHeartbeats 8000000
namespace Go.Proofs.YtpmpclbdnakniaaGreatDoor.scriptTexts
open Go.ChangeShapes Go.WideShapes Go.ChangeAt Go.RowKit Go.Vc Go.Vc.Z
set_option maxRecDepth 100000
theorem own:ownKnob Tryz.prog.godebug=none:=by kernel_rfl
theorem kids:Kids Tryz.prog (·<Tryz.prog.types.size):=kids_rows (by kernel_rfl) (by kernel_rfl)
theorem A6z:Pp Tryz.prog=true:=by kernel_rfl
theorem Ath:(Tryz.prog.globals[0]?).map (·.type)=some 281:=by kernel_rfl
theorem Aov : Tryz.prog.globalNamed "internal/strconv.uint64pow10" = some 0 := by kernel_rfl
theorem Aow:Tryz.prog.cellsOf 281=20:=by kernel_rfl
theorem Aox:Tryz.prog.cellsOf 37=1:=by kernel_rfl
theorem A60 : Tryz.prog.globalNamed "strconv.ErrSyntax" = some 2 := by kernel_rfl
theorem A61 : Tryz.prog.globalNamed "strconv.ErrRange" = some 3 := by kernel_rfl
theorem Ati:(Tryz.prog.globals[2]?).map (·.type)=some 154:=by kernel_rfl
theorem Atj:(Tryz.prog.globals[3]?).map (·.type)=some 154:=by kernel_rfl
theorem A62 : Tryz.prog.underlying 154 = some (.interface #[("Error", 162)]) := by kernel_rfl
theorem A63:Tryz.prog.underlying 335=some (.pointer 337):=by kernel_rfl
theorem A64 : Tryz.prog.underlying 337 = some (.struct #[{ name := "s", type := 9, offset := 0, embedded := false, tag := "", pkgPath := "errors", byteOffset := 0 }]) := by kernel_rfl
theorem u9:Tryz.prog.underlying 9=some .string:=by kernel_rfl
theorem Aii:Tryz.prog.cellsOf 337=1:=by kernel_rfl
theorem Atk:Tryz.prog.cellsOf 9=1:=by kernel_rfl
theorem star : "*" ++ "errors.errorString" = "*errors.errorString" := by decide
theorem Atl (u : TypeId) (h : Tryz.prog.typeName? 3 u = some "*errors.errorString") : u = 335 :=
 typeName_ptr_named (nm := "errors.errorString") (by rw [star]; kernel_rfl) (by kernel_rfl) (by decide) u (by rw [star]; exact h)
theorem tabs{W:World}(h:laidMetH Tryz.prog Rows.scriptTextsRow.laid W)(hS:W.ShapedOpen Tryz.prog):Gd W:=by
 have h0:laidMet Tryz.prog Rows.scriptTextsRow.laid W:=h;obtain⟨a,s,hv,_⟩:=laid_sentinel h0.tail.tail.tail.tail A61 Atj A62 Atl A63 A64 rfl rfl u9 Aii Atk;obtain⟨b,t,hw,_⟩:=laid_sentinel h0.tail.tail.tail.tail.tail A60 Ati A62 Atl A63 A64 rfl rfl u9 Aii Atk;refine⟨⟨Lib.tabIs_of_head Aov Ath Tryz.underlying281 Tryz.underlying37 Aox Aow h0.tail.tail,hS⟩,⟨.iface 335 (.pointer (some b)),?_,.inr ⟨_,_,rfl⟩⟩,⟨.iface 335 (.pointer (some a)),?_,.inr ⟨_,_,rfl⟩⟩⟩
 ·simpa using World.var?_cell A60 hw 0
 ·simpa using World.var?_cell A61 hv 0
theorem Atm(H:Type)(enc:TypeId × Value→H)(W:World)(base:Nat)(args:Array Value)(ds gs:List (DataW H))(before:List MemPlace)
  (hval:∀ (j:Nat) t v,Tryz.f10.params[j]? =some t→args[j]? =some v→Value.okWide Tryz.prog W .any base t v)
  (hW:DataW.Whole enc Tryz.prog Tryz.f10.params.toList Rows.scriptTextsSpec.vars false W args.toList ds gs before) (hL:laidMetH Tryz.prog Rows.scriptTextsRow.laid W) (hS:W.ShapedOpen Tryz.prog):
  Calls Tryz.prog 10 args W fun e W'=>∃ v,e= .returned v∧Rows.scriptTextsSpec.post enc Tryz.prog Tryz.f10 false true false false W args v W':=by
 obtain⟨p,q,hA0,hV,hpq,hfz,hnd⟩:=id hW;have hA:DataW.TrodAll enc Tryz.prog W 0 (fun _=>true) true Tryz.f10.params.toList args.toList ds p:=hA0;clear hA0;rw[Tryz.params10] at hA hval;obtain⟨v0,vs0,d0,ds0,p0,q0,hargs,rfl,rfl,h0,r0⟩:=trodAll_cons hA;obtain⟨rfl,rfl,rfl⟩:=trodAll_nil r0;obtain rfl:args=#[v0]:=by cases args;simp_all
 obtain⟨rfl,rfl⟩:=trodVars_none hV;obtain⟨a0,V0⟩:=Aua ok9 rfl (hval 0 9 v0 rfl rfl) h0;refine(Anf (fun b o h=>h) (Awe (tabs hL hS)) (x:=(a0)) trivial (CV.cons V0 CV.none)).mono ?_;rintro e W' ⟨v,S',rfl,hv,hk⟩;have e1:=V.boolR hv;rw[Bt] at e1;subst e1;exact⟨_,rfl,Apu kids A6z rfl (of_decide_eq_true (by kernel_rfl)) (by kernel_rfl) Tryz.underlying4 hW rfl hk⟩
def lay:Nat→DataW Unit→List Value
 |0,_=>[]
 |_+1,.lit (.int k z)=>[.int k z]
 |n+1,.agg xs=>xs.flatMap (lay n)
 |_+1,_=>[]
abbrev A65:ByteArray:={ data:=#[105,110,118,97,108,105,100,32,115,121,110,116,97,120] }
abbrev A66:ByteArray:={ data:=#[118,97,108,117,101,32,111,117,116,32,111,102,32,114,97,110,103,101] }
noncomputable def low:Nat:=(World.holding Tryz.prog default ⟨#[],#[],[]⟩).heap.size
def A67(h:Array Obj)(g b:Nat):Array Obj:=h.modify g fun
 | .cells _ t frozen=>.cells #[.iface 335 (.pointer (some ⟨b,0,none⟩))] t frozen
 |o=>o
def put(h:Array Obj)(g:Nat)(d:DataW Unit):Array Obj:=h.modify g fun
 | .cells _ t frozen=>.cells (lay 4 d).toArray t frozen
 |o=>o
noncomputable def dO(os:Os):World:=
 { World.holding Tryz.prog os ⟨#[.cells #[.string A65] 337,.cells #[.string A66] 337],#[],[]⟩ with heap:=A67 (A67 (put (put (put (put (put (World.holding Tryz.prog os ⟨#[.cells #[.string A65] 337,.cells #[.string A66] 337],#[],[]⟩).heap 4 Rows.laid_math_bits_deBruijn32tab) 5 Rows.laid_math_bits_deBruijn64tab) 0 Rows.laid_internal_strconv_uint64pow10) 7 Rows.laid_unicode_utf8_acceptRanges) 6 Rows.laid_unicode_utf8_first) 2 low) 3 (low+1) }
def Amk:Array Value:=#[(.string ByteArray.empty)]
theorem Atn(os:Os):laidMet Tryz.prog Rows.scriptTextsRow.laid ((dO os).forCall (fun _ _=>0) ⟨#[],Amk,[]⟩).memory:=
 laidMet_of_run' 8 (by kernel_rfl) (by kernel_rfl)
theorem reads(os:Os){H:Type}(enc:TypeId × Value→H):∃ places,DataW.whole enc Tryz.prog ((dO os).forCall (fun _ _=>0) ⟨#[],Amk,[]⟩).memory Tryz.f10.params.toList Rows.scriptTextsSpec.vars false Amk.toList 8=some ([(.lit (.string []))],[],places):=
 ⟨[],by kernel_rfl⟩
theorem lifted(os:Os)(started:os.Started)(H:Type)(enc:TypeId × Value→H)(F:Stop.Interp):
  ReturnsInHanded {} Tryz.checked os 10 .any ((OpenSpec.ofChange Rows.scriptTextsSpec).preRow enc Tryz.prog Tryz.f10 Rows.scriptTextsRow.domain false Rows.scriptTextsRow.laid) (((OpenSpec.ofChange Rows.scriptTextsSpec).at F).post enc Tryz.prog Tryz.f10 false true false false):=by
 obtain⟨places,hx⟩:=reads os enc;refine returnsInHanded_of_row (C:=Tryz.checked) (s:=OpenSpec.ofChange Rows.scriptTextsSpec) own started (by kernel_rfl) Tryz.func10
  (witness_row_at (enc:=enc) (C:=Tryz.checked) false (dO os) Amk rfl (by kernel_rfl) (by kernel_rfl) (by kernel_rfl)
   (OpenSpec.preRow_of_cond 8 hx (by kernel_rfl) (fun k hk=>by cases hk) (by kernel_rfl) (Atn os))) ?_
 intro W base args ds gs before hval hW _ _ _ hL hS _;exact Atm H enc W base args ds gs before hval hW hL hS
theorem both{a b:Bool}(h:a=true)(k:b=true):(a&&b)=true:=by rw[h,k];rfl
theorem j0:(Rows.scriptTextsRow.wf (OpenSpec.ofChange (OpenSpec.ofChange Rows.scriptTextsSpec).bare))=true:=by kernel_rfl
theorem j1:(laidOutB Tryz.prog)=true:=by kernel_rfl
theorem j2:(mapsRowed Tryz.prog)=true:=by kernel_rfl
theorem j3:(Tryz.f10.params.all (Tryz.prog.readableRec ·))=true:=by kernel_rfl
theorem j4:(namedTie Tryz.prog Rows.scriptTextsRow.named (OpenSpec.ofChange Rows.scriptTextsSpec).bare.vars)=true:=by kernel_rfl
theorem j5:((Rows.scriptTextsRow.stops == []))=true:=by kernel_rfl
theorem j6:((Tryz.prog.stops == []))=true:=by kernel_rfl
theorem j7:((Rows.scriptTextsRow.knobs == []))=true:=by kernel_rfl
theorem j8:((Tryz.prog.stopKnobs == []))=true:=by kernel_rfl
theorem j9:((Rows.scriptTextsRow.inPlace == Tryz.prog.inPlace 10))=true:=by kernel_rfl
theorem j10:((Rows.scriptTextsRow.unfollowed == Tryz.prog.unfollowed 10))=true:=by kernel_rfl
theorem j11:((Rows.scriptTextsRow.recurses == Tryz.prog.recurses 10))=true:=by kernel_rfl
theorem j12:((Rows.scriptTextsRow.named == Tryz.prog.varsNamed 10))=true:=by kernel_rfl
theorem j13:((Rows.scriptTextsRow.maps == (Tryz.f10.params.toList++(OpenSpec.ofChange Rows.scriptTextsSpec).bare.plain.varTypes Tryz.prog).any (Tryz.prog.mapsRec ·)))=true:=by kernel_rfl
theorem j14:((Rows.scriptTextsRow.ifaces == (Tryz.f10.params.toList++(OpenSpec.ofChange Rows.scriptTextsSpec).bare.plain.varTypes Tryz.prog).any (Tryz.prog.ifacesRec ·)))=true:=by kernel_rfl
theorem j15:((Rows.scriptTextsRow.mapsOut == Tryz.prog.mapsAmong Tryz.f10.resultTypes.toList))=true:=by kernel_rfl
theorem j16:((Rows.scriptTextsRow.loops == (Tryz.f10.params.toList++(OpenSpec.ofChange Rows.scriptTextsSpec).bare.plain.varTypes Tryz.prog).any (Tryz.prog.loopsFrom ·)))=true:=by kernel_rfl
theorem j17:((Rows.scriptTextsRow.wideKeys == (Tryz.f10.params.toList++(OpenSpec.ofChange Rows.scriptTextsSpec).bare.plain.varTypes Tryz.prog++Tryz.f10.resultTypes.toList).any (Tryz.prog.wideKeysFrom ·)))=true:=by kernel_rfl
theorem j18:((OpenSpec.ofChange Rows.scriptTextsSpec).bare.vars.all (Tryz.prog.varReadable ·))=true:=by kernel_rfl
theorem j19:(Tryz.f10.resultTypes.all (fun t=>Tryz.prog.readableRec t&&decide (t<Tryz.prog.types.size)))=true:=by kernel_rfl
theorem j20:((Rows.scriptTextsRow.ifacesOut == Tryz.f10.resultTypes.toList.any (Tryz.prog.ifacesRec ·)))=true:=by kernel_rfl
theorem j21:((Rows.scriptTextsRow.loopsOut == Tryz.f10.resultTypes.toList.any (Tryz.prog.loopsFrom ·)))=true:=by kernel_rfl
theorem j22:((Rows.scriptTextsRow.plainKeys == Tryz.prog.plainKeys))=true:=by kernel_rfl
theorem j23:(Rows.scriptTextsRow.shortTexts.isNone)=true:=by kernel_rfl
theorem j24:(Tryz.prog.stopsHeard)=true:=by kernel_rfl
theorem j25:(Tryz.prog.mayEnter)=true:=by kernel_rfl
theorem j26:((Rows.scriptTextsRow.lifted == Tryz.prog.liftsFinal))=true:=by kernel_rfl
theorem j27:((Tryz.prog.make == some Rows.scriptTextsRow.make))=true:=by kernel_rfl
theorem j28:((Rows.scriptTextsRow.kinds == (if Rows.scriptTextsRow.domain.isEmpty then [] else Tryz.f10.params.toList.map fun t=>match Tryz.prog.underlying t with|some (.int k)=>some k|_=>none)))=true:=by kernel_rfl
theorem j29:((Rows.scriptTextsRow.pinned == Rows.scriptTextsRow.pinnedBy))=true:=by kernel_rfl
theorem j30:((Rows.scriptTextsRow.veiled == (Tryz.f10.params.toList++(OpenSpec.ofChange Rows.scriptTextsSpec).bare.plain.varTypes Tryz.prog++Tryz.f10.resultTypes.toList).any (Tryz.prog.veiledRec ·)))=true:=by kernel_rfl
theorem j31:(Rows.scriptTextsRow.veiledFits Tryz.prog Tryz.f10.params.toList (Tryz.f10.params.toList++(OpenSpec.ofChange Rows.scriptTextsSpec).bare.plain.varTypes Tryz.prog++Tryz.f10.resultTypes.toList))=true:=by kernel_rfl
theorem joined:joinedFacts Tryz.prog 10 Tryz.f10 (OpenSpec.ofChange Rows.scriptTextsSpec).bare Rows.scriptTextsRow=true:=by
 unfold joinedFacts;exact both (both (both (both (both (both (both (both (both (both (both (both (both (both (both (both (both (both (both (both (both (both (both (both (both (both (both (both (both (both (both j0 j1) j2) j3) j4) j5) j6) j7) j8) j9) j10) j11) j12) j13) j14) j15) j16) j17) j18) j19) j20) j21) j22) j23) j24) j25) j26) j27) j28) j29) j30) j31
theorem said:Rows.ScriptTextsSaid:=
 OpenClaim.holds_of_cond 10 Tryz.f10 rfl rfl rfl rfl rfl rfl rfl ⟨rfl,rfl,rfl,rfl,rfl⟩ rfl rfl rfl rfl rfl (by kernel_rfl) Tryz.func10 joined
  (of_decide_eq_true (by kernel_rfl)) (by unfold Func.isWrapper;first|(rw[if_pos (by decide+kernel)];kernel_rfl)|(rw[if_neg (by decide+kernel)];exact⟨rfl,rfl⟩))
  (fun os started H enc _ F=>by rw[OpenClaim.pre_eq_preRow];exact lifted os started H enc F)
theorem plain (f : FuncId) (fn : Func) (hf : Tryz.pinned.checked.prog.funcNamed "coupon/couponlaw26.ScriptTexts" = some f) (hfn : Tryz.pinned.checked.prog.funcs[f]? = some fn) :
  true=Tryz.pinned.checked.prog.looks []∧∀ (j:Nat) t,fn.params[j]? =some t→Tryz.pinned.checked.prog.wantsStandIn t=false:=by
 obtain rfl : f = 10 := Option.some.inj ((show Tryz.prog.funcNamed "coupon/couponlaw26.ScriptTexts" = some 10 by kernel_rfl).symm.trans hf) |>.symm
 obtain rfl:fn=Tryz.f10:=(Option.some.inj (Tryz.func10.symm.trans hfn)).symm;refine⟨by kernel_rfl,fun j t ht=>?_⟩
 rw[Tryz.params10] at ht;have hm:=Array.mem_of_getElem? ht;simp only[List.mem_toArray,List.mem_cons,List.not_mem_nil,or_false] at hm;rcases hm with rfl
 ·exact(show Tryz.prog.wantsStandIn 9=false by kernel_rfl)
theorem card:Rows.ScriptTextsCardSaid:=
 Claim7.holds_tied_plain_at .later [] _ _ _ _ said (fun _ h=>by cases h) (by kernel_rfl) (fun _ h=>by cases h) scriptTexts_row_tie rfl ⟨rfl,rfl⟩ (by kernel_rfl) rfl plain (by kernel_rfl)
end Go.Proofs.YtpmpclbdnakniaaGreatDoor.scriptTexts
