/- The law ScriptLong (coupon/couponlaw26.ScriptLong) answers true whatever its arguments are: that a script has just so many acts as may be; and each argument reads behind the call as it read before. On condition that the listed package-level variables read as listed when the call begins, which the card ties to the program's text. -/
import Derived.Test.YtpmpclbdnakniaaGreatDoorV10
import Derived.Test.YtpmpclbdnakniaaGreatDoorV25
import Derived.Test.YtpmpclbdnakniaaGreatDoorV47
import Derived.Test.YtpmpclbdnakniaaGreatDoorCards
import Derived.Test.YtpmpclbdnakniaaGreatDoorTie
import Derived.WalkKit
import Derived.ProofKit
import Derived.OpenShut
import Derived.Deep.DeepHandedRow
import Derived.Lib.LaidTab
import Derived.Stop.LaidErr
import Derived.LaidLaws
set_option linter.all false
set_option linter.unusedVariables false
set_option linter.unusedSimpArgs false
namespace Go.Proofs.YtpmpclbdnakniaaGreatDoor.scriptLong
open Go.ChangeShapes Go.WideShapes Go.ChangeAt Go.RowKit Go.Vc Go.Vc.Z
set_option maxRecDepth 100000
theorem own:ownKnob Tryz.prog.godebug=none:=by kernel_rfl
theorem kids:Kids Tryz.prog (·<Tryz.prog.types.size):=kids_rows (by kernel_rfl) (by kernel_rfl)
theorem At8:Lf Tryz.prog=true:=by kernel_rfl
theorem Ahl:(Tryz.prog.globals[0]?).map (·.type)=some 281:=by kernel_rfl
theorem Ads : Tryz.prog.globalNamed "internal/strconv.uint64pow10" = some 0 := by kernel_rfl
theorem Adt:Tryz.prog.cellsOf 281=20:=by kernel_rfl
theorem Adu:Tryz.prog.cellsOf 37=1:=by kernel_rfl
theorem At9 : Tryz.prog.globalNamed "strconv.ErrSyntax" = some 2 := by kernel_rfl
theorem Aua : Tryz.prog.globalNamed "strconv.ErrRange" = some 3 := by kernel_rfl
theorem Ahm:(Tryz.prog.globals[2]?).map (·.type)=some 154:=by kernel_rfl
theorem Ahn:(Tryz.prog.globals[3]?).map (·.type)=some 154:=by kernel_rfl
theorem Aub : Tryz.prog.underlying 154 = some (.interface #[("Error", 162)]) := by kernel_rfl
theorem Auc:Tryz.prog.underlying 335=some (.pointer 337):=by kernel_rfl
theorem Aud : Tryz.prog.underlying 337 = some (.struct #[{ name := "s", type := 9, offset := 0, embedded := false, tag := "", pkgPath := "errors", byteOffset := 0 }]) := by kernel_rfl
theorem u9:Tryz.prog.underlying 9=some .string:=by kernel_rfl
theorem wW:Tryz.prog.cellsOf 337=1:=by kernel_rfl
theorem Aho:Tryz.prog.cellsOf 9=1:=by kernel_rfl
theorem star : "*" ++ "errors.errorString" = "*errors.errorString" := by decide
theorem Ahp (u : TypeId) (h : Tryz.prog.typeName? 3 u = some "*errors.errorString") : u = 335 :=
 typeName_ptr_named (nm := "errors.errorString") (by rw [star]; kernel_rfl) (by kernel_rfl) (by decide) u (by rw [star]; exact h)
theorem tabs{W:World}(h:laidMetH Tryz.prog Rows.scriptLongRow.laid W)(hS:W.ShapedOpen Tryz.prog):Gq W:=by
 have h0:laidMet Tryz.prog Rows.scriptLongRow.laid W:=h
 obtain⟨a,s,hv,_⟩:=laid_sentinel h0.tail.tail.tail.tail Aua Ahn Aub Ahp Auc Aud rfl rfl u9 wW Aho
 obtain⟨b,t,hw,_⟩:=laid_sentinel h0.tail.tail.tail.tail.tail At9 Ahm Aub Ahp Auc Aud rfl rfl u9 wW Aho
 refine⟨⟨Lib.tabIs_of_head Ads Ahl Tryz.underlying281 Tryz.underlying37 Adu Adt h0.tail.tail,hS⟩,⟨.iface 335 (.pointer (some b)),?_,.inr ⟨_,_,rfl⟩⟩,⟨.iface 335 (.pointer (some a)),?_,.inr ⟨_,_,rfl⟩⟩⟩
 ·simpa using World.var?_cell At9 hw 0
 ·simpa using World.var?_cell Aua hv 0
theorem Ahq(H:Type)(enc:TypeId × Value→H)(W:World)(base:Nat)(args:Array Value)(ds gs:List (DataW H))(before:List MemPlace)
  (hval:∀ (j:Nat) t v,Tryz.f9.params[j]? =some t→args[j]? =some v→Value.okWide Tryz.prog W .any base t v)
  (hW:DataW.Whole enc Tryz.prog Tryz.f9.params.toList Rows.scriptLongSpec.vars false W args.toList ds gs before) (hL:laidMetH Tryz.prog Rows.scriptLongRow.laid W) (hS:W.ShapedOpen Tryz.prog):
  Calls Tryz.prog 9 args W fun e W'=>∃ v,e= .returned v∧Rows.scriptLongSpec.post enc Tryz.prog Tryz.f9 false true false false W args v W':=by
 obtain⟨p,q,hA0,hV,hpq,hfz,hnd⟩:=id hW
 have hA:DataW.TrodAll enc Tryz.prog W 0 (fun _=>true) true Tryz.f9.params.toList args.toList ds p:=hA0
 clear hA0
 rw[Tryz.params9] at hA hval
 obtain⟨v0,vs0,d0,ds0,p0,q0,hargs,rfl,rfl,h0,r0⟩:=trodAll_cons hA
 obtain⟨v1,vs1,d1,ds1,p1,q1,rfl,rfl,rfl,h1,r1⟩:=trodAll_cons r0
 obtain⟨v2,vs2,d2,ds2,p2,q2,rfl,rfl,rfl,h2,r2⟩:=trodAll_cons r1
 obtain⟨rfl,rfl,rfl⟩:=trodAll_nil r2
 obtain rfl:args=#[v0,v1,v2]:=by cases args;simp_all
 obtain⟨rfl,rfl⟩:=trodVars_none hV
 obtain⟨a0,V0⟩:=yD Ant rfl Aoo (hval 0 78 v0 rfl rfl) h0
 obtain⟨a1,V1⟩:=Af5 ok4 rfl (hval 1 4 v1 rfl rfl) h1
 obtain⟨a2,V2⟩:=Ah3 ok3 rfl (hval 2 3 v2 rfl rfl) h2
 refine(Ach (fun b o h=>h) (L8 (tabs hL hS)) (x:=(a0,a1,a2)) trivial (CV.cons V0 (CV.cons V1 (CV.cons V2 CV.none)))).mono ?_
 rintro e W' ⟨v,S',rfl,hv,hk⟩
 have e1:=V.boolR hv
 rw[A9] at e1
 subst e1
 exact⟨_,rfl,Aeu kids At8 rfl (of_decide_eq_true (by kernel_rfl)) (by kernel_rfl) Tryz.underlying4 hW rfl hk⟩
def lay:Nat→DataW Unit→List Value
 |0,_=>[]
 |_+1,.lit (.int k z)=>[.int k z]
 |n+1,.agg xs=>xs.flatMap (lay n)
 |_+1,_=>[]
abbrev Aue:ByteArray:={ data:=#[105,110,118,97,108,105,100,32,115,121,110,116,97,120] }
abbrev Auf:ByteArray:={ data:=#[118,97,108,117,101,32,111,117,116,32,111,102,32,114,97,110,103,101] }
noncomputable def low:Nat:=(World.holding Tryz.prog default ⟨#[],#[],[]⟩).heap.size
def Aug(h:Array Obj)(g b:Nat):Array Obj:=h.modify g fun
 | .cells _ t frozen=>.cells #[.iface 335 (.pointer (some ⟨b,0,none⟩))] t frozen
 |o=>o
def put(h:Array Obj)(g:Nat)(d:DataW Unit):Array Obj:=h.modify g fun
 | .cells _ t frozen=>.cells (lay 4 d).toArray t frozen
 |o=>o
noncomputable def Uw(os:Os):World:=
 { World.holding Tryz.prog os ⟨#[.cells #[.string Aue] 337,.cells #[.string Auf] 337],#[],[]⟩ with heap:=Aug (Aug (put (put (put (put (put (World.holding Tryz.prog os ⟨#[.cells #[.string Aue] 337,.cells #[.string Auf] 337],#[],[]⟩).heap 4 Rows.laid_math_bits_deBruijn32tab) 5 Rows.laid_math_bits_deBruijn64tab) 0 Rows.laid_internal_strconv_uint64pow10) 7 Rows.laid_unicode_utf8_acceptRanges) 6 Rows.laid_unicode_utf8_first) 2 low) 3 (low+1) }
def Abo:Array Value:=#[(.agg #[.slice none 0 0,.int .i64 0]),(.bool false),(.int .i64 0)]
theorem Ahr(os:Os):laidMet Tryz.prog Rows.scriptLongRow.laid ((Uw os).forCall (fun _ _=>0) ⟨#[],Abo,[]⟩).memory:=
 laidMet_of_run' 8 (by kernel_rfl) (by kernel_rfl)
theorem reads(os:Os){H:Type}(enc:TypeId × Value→H):∃ places,DataW.whole enc Tryz.prog ((Uw os).forCall (fun _ _=>0) ⟨#[],Abo,[]⟩).memory Tryz.f9.params.toList Rows.scriptLongSpec.vars false Abo.toList 8=some ([(.agg [.nil,.lit (.int .i64 0)]),(.lit (.bool false)),(.lit (.int .i64 0))],[],places):=
 ⟨[],by kernel_rfl⟩
theorem lifted(os:Os)(started:os.Started)(H:Type)(enc:TypeId × Value→H)(F:Stop.Interp):
  ReturnsInHanded {} Tryz.checked os 9 .any ((OpenSpec.ofChange Rows.scriptLongSpec).preRow enc Tryz.prog Tryz.f9 Rows.scriptLongRow.domain false Rows.scriptLongRow.laid) (((OpenSpec.ofChange Rows.scriptLongSpec).at F).post enc Tryz.prog Tryz.f9 false true false false):=by
 obtain⟨places,hx⟩:=reads os enc
 refine returnsInHanded_of_row (C:=Tryz.checked) (s:=OpenSpec.ofChange Rows.scriptLongSpec) own started (by kernel_rfl) Tryz.func9
  (witness_row_at (enc:=enc) (C:=Tryz.checked) false (Uw os) Abo rfl (by kernel_rfl) (by kernel_rfl) (by kernel_rfl)
   (OpenSpec.preRow_of_cond 8 hx (by kernel_rfl) (fun k hk=>by cases hk) (by kernel_rfl) (Ahr os))) ?_
 intro W base args ds gs before hval hW _ _ _ hL hS _
 exact Ahq H enc W base args ds gs before hval hW hL hS
theorem both{a b:Bool}(h:a=true)(k:b=true):(a&&b)=true:=by rw[h,k];rfl
theorem j0:(Rows.scriptLongRow.wf (OpenSpec.ofChange (OpenSpec.ofChange Rows.scriptLongSpec).bare))=true:=by kernel_rfl
theorem j1:(laidOutB Tryz.prog)=true:=by kernel_rfl
theorem j2:(mapsRowed Tryz.prog)=true:=by kernel_rfl
theorem j3:(Tryz.f9.params.all (Tryz.prog.readableRec ·))=true:=by kernel_rfl
theorem j4:(namedTie Tryz.prog Rows.scriptLongRow.named (OpenSpec.ofChange Rows.scriptLongSpec).bare.vars)=true:=by kernel_rfl
theorem j5:((Rows.scriptLongRow.stops == []))=true:=by kernel_rfl
theorem j6:((Tryz.prog.stops == []))=true:=by kernel_rfl
theorem j7:((Rows.scriptLongRow.knobs == []))=true:=by kernel_rfl
theorem j8:((Tryz.prog.stopKnobs == []))=true:=by kernel_rfl
theorem j9:((Rows.scriptLongRow.inPlace == Tryz.prog.inPlace 9))=true:=by kernel_rfl
theorem j10:((Rows.scriptLongRow.unfollowed == Tryz.prog.unfollowed 9))=true:=by kernel_rfl
theorem j11:((Rows.scriptLongRow.recurses == Tryz.prog.recurses 9))=true:=by kernel_rfl
theorem j12:((Rows.scriptLongRow.named == Tryz.prog.varsNamed 9))=true:=by kernel_rfl
theorem j13:((Rows.scriptLongRow.maps == (Tryz.f9.params.toList++(OpenSpec.ofChange Rows.scriptLongSpec).bare.plain.varTypes Tryz.prog).any (Tryz.prog.mapsRec ·)))=true:=by kernel_rfl
theorem j14:((Rows.scriptLongRow.ifaces == (Tryz.f9.params.toList++(OpenSpec.ofChange Rows.scriptLongSpec).bare.plain.varTypes Tryz.prog).any (Tryz.prog.ifacesRec ·)))=true:=by kernel_rfl
theorem j15:((Rows.scriptLongRow.mapsOut == Tryz.prog.mapsAmong Tryz.f9.resultTypes.toList))=true:=by kernel_rfl
theorem j16:((Rows.scriptLongRow.loops == (Tryz.f9.params.toList++(OpenSpec.ofChange Rows.scriptLongSpec).bare.plain.varTypes Tryz.prog).any (Tryz.prog.loopsFrom ·)))=true:=by kernel_rfl
theorem j17:((Rows.scriptLongRow.wideKeys == (Tryz.f9.params.toList++(OpenSpec.ofChange Rows.scriptLongSpec).bare.plain.varTypes Tryz.prog++Tryz.f9.resultTypes.toList).any (Tryz.prog.wideKeysFrom ·)))=true:=by kernel_rfl
theorem j18:((OpenSpec.ofChange Rows.scriptLongSpec).bare.vars.all (Tryz.prog.varReadable ·))=true:=by kernel_rfl
theorem j19:(Tryz.f9.resultTypes.all (fun t=>Tryz.prog.readableRec t&&decide (t<Tryz.prog.types.size)))=true:=by kernel_rfl
theorem j20:((Rows.scriptLongRow.ifacesOut == Tryz.f9.resultTypes.toList.any (Tryz.prog.ifacesRec ·)))=true:=by kernel_rfl
theorem j21:((Rows.scriptLongRow.loopsOut == Tryz.f9.resultTypes.toList.any (Tryz.prog.loopsFrom ·)))=true:=by kernel_rfl
theorem j22:((Rows.scriptLongRow.plainKeys == Tryz.prog.plainKeys))=true:=by kernel_rfl
theorem j23:(Rows.scriptLongRow.shortTexts.isNone)=true:=by kernel_rfl
theorem j24:(Tryz.prog.stopsHeard)=true:=by kernel_rfl
theorem j25:(Tryz.prog.mayEnter)=true:=by kernel_rfl
theorem j26:((Rows.scriptLongRow.lifted == Tryz.prog.liftsFinal))=true:=by kernel_rfl
theorem j27:((Tryz.prog.make == some Rows.scriptLongRow.make))=true:=by kernel_rfl
theorem j28:((Rows.scriptLongRow.kinds == (if Rows.scriptLongRow.domain.isEmpty then [] else Tryz.f9.params.toList.map fun t=>match Tryz.prog.underlying t with|some (.int k)=>some k|_=>none)))=true:=by kernel_rfl
theorem j29:((Rows.scriptLongRow.pinned == Rows.scriptLongRow.pinnedBy))=true:=by kernel_rfl
theorem j30:((Rows.scriptLongRow.veiled == (Tryz.f9.params.toList++(OpenSpec.ofChange Rows.scriptLongSpec).bare.plain.varTypes Tryz.prog++Tryz.f9.resultTypes.toList).any (Tryz.prog.veiledRec ·)))=true:=by kernel_rfl
theorem j31:(Rows.scriptLongRow.veiledFits Tryz.prog Tryz.f9.params.toList (Tryz.f9.params.toList++(OpenSpec.ofChange Rows.scriptLongSpec).bare.plain.varTypes Tryz.prog++Tryz.f9.resultTypes.toList))=true:=by kernel_rfl
theorem joined:joinedFacts Tryz.prog 9 Tryz.f9 (OpenSpec.ofChange Rows.scriptLongSpec).bare Rows.scriptLongRow=true:=by
 unfold joinedFacts
 exact both (both (both (both (both (both (both (both (both (both (both (both (both (both (both (both (both (both (both (both (both (both (both (both (both (both (both (both (both (both (both j0 j1) j2) j3) j4) j5) j6) j7) j8) j9) j10) j11) j12) j13) j14) j15) j16) j17) j18) j19) j20) j21) j22) j23) j24) j25) j26) j27) j28) j29) j30) j31
theorem said:Rows.ScriptLongSaid:=
 OpenClaim.holds_of_cond 9 Tryz.f9 rfl rfl rfl rfl rfl rfl rfl ⟨rfl,rfl,rfl,rfl,rfl⟩ rfl rfl rfl rfl rfl (by kernel_rfl) Tryz.func9 joined
  (of_decide_eq_true (by kernel_rfl)) (by unfold Func.isWrapper;first|(rw[if_pos (by decide+kernel)];kernel_rfl)|(rw[if_neg (by decide+kernel)];exact⟨rfl,rfl⟩))
  (fun os started H enc _ F=>by rw[OpenClaim.pre_eq_preRow];exact lifted os started H enc F)
theorem plain (f : FuncId) (fn : Func) (hf : Tryz.pinned.checked.prog.funcNamed "coupon/couponlaw26.ScriptLong" = some f) (hfn : Tryz.pinned.checked.prog.funcs[f]? = some fn) :
  true=Tryz.pinned.checked.prog.looks []∧∀ (j:Nat) t,fn.params[j]? =some t→Tryz.pinned.checked.prog.wantsStandIn t=false:=by
 obtain rfl : f = 9 := Option.some.inj ((show Tryz.prog.funcNamed "coupon/couponlaw26.ScriptLong" = some 9 by kernel_rfl).symm.trans hf) |>.symm
 obtain rfl:fn=Tryz.f9:=(Option.some.inj (Tryz.func9.symm.trans hfn)).symm
 refine⟨by kernel_rfl,fun j t ht=>?_⟩
 rw[Tryz.params9] at ht
 have hm:=Array.mem_of_getElem? ht
 simp only[List.mem_toArray,List.mem_cons,List.not_mem_nil,or_false] at hm
 rcases hm with rfl|rfl|rfl
 ·exact(show Tryz.prog.wantsStandIn 78=false by kernel_rfl)
 ·exact(show Tryz.prog.wantsStandIn 4=false by kernel_rfl)
 ·exact(show Tryz.prog.wantsStandIn 3=false by kernel_rfl)
theorem card:Rows.ScriptLongCardSaid:=
 Claim7.holds_tied_plain_at .later [] _ _ _ _ said (fun _ h=>by cases h) (by kernel_rfl) (fun _ h=>by cases h) scriptLong_row_tie rfl ⟨rfl,rfl⟩ (by kernel_rfl) rfl plain (by kernel_rfl)
end Go.Proofs.YtpmpclbdnakniaaGreatDoor.scriptLong
