/- What comes al an argument, read as data: of which abstract values its cells are. -/
import Derived.Test.YtpmpclbdnakniaaGreatDoorV9
import Derived.ChangeArms
import Derived.ChangeStays
import Derived.ChangeSame
import Derived.ChangeAgain
import Derived.RowKit3
import Derived.Lib.LaidTab
import Derived.Lib.ItoaNum
import GoSem.Core.Utf8
set_option linter.all false
set_option linter.unusedVariables false
set_option linter.unusedSimpArgs false
namespace Go.Vc
open Go
def CV(W:World)(al:List AV)(cs:List Value):Prop:=
 al.length=cs.length∧∀ (i:Nat) (c:AV) (v:Value),al[i]? =some c→cs[i]? =some v→V (fun _=>none) (fun b=>b<W.heap.size) W c v
theorem CV.nil{W:World}{cs:List Value}{n:Nat}(h:cs.length=n):CV W [] (cs.drop n):=by
 refine⟨by simp[h],fun i c v h1=>by simp at h1⟩
theorem CV.app{W:World}{a b:List AV}{x y:List Value}(h:CV W a x)(k:CV W b y):CV W (a++b) (x++y):=by
 refine⟨by simp[h.1,k.1],fun i c v hc hv=>?_⟩
 by_cases hi:i<a.length
 ·rw[List.getElem?_append_left hi] at hc
  rw[List.getElem?_append_left (by rw[←h.1];exact hi)] at hv
  exact h.2 i c v hc hv
 ·rw[List.getElem?_append_right (by omega)] at hc
  rw[List.getElem?_append_right (by rw[←h.1];omega)] at hv
  rw[←h.1] at hv
  exact k.2 _ c v hc hv
theorem CV.step{W:World}{a b:List AV}{cs:List Value}{o s:Nat}(h:CV W a ((cs.drop o).take s))(k:CV W b (cs.drop (o+s))):CV W (a++b) (cs.drop o):=by
 have:=h.app k
 rw[←List.drop_drop,List.take_append_drop] at this
 exact this
theorem CV.one{W:World}{a:AV}{v:Value}(h:V (fun _=>none) (fun b=>b<W.heap.size) W a v):CV W [a] [v]:=by
 refine⟨rfl,fun i c v' hc hv=>?_⟩
 cases i with
 |zero=>simp at hc hv;rw[←hc,←hv];exact h
 |succ i=>simp at hc
def Dec(P:Program)(t:TypeId){α:Type}(ec:α→List AV):Prop:=
 ∀ {H:Type} (enc:TypeId × Value→H) (W:World) (fuel:Nat) (cs:List Value) (x:DataW H × List MemPlace),DataW.trod enc P W 0 (fun _=>true) true fuel t cs=some x→∃ a,CV W (ec a) cs
section
variable {P : Program}
theorem Q4{t:TypeId}{i:TI}(h:Aw P t=some i):∃ d,P.underlying t=some d∧TK.of d=i.kind∧P.cellsOf t=i.size:=by
 unfold Aw at h
 split at h
 ·rename_i info d h1 h2
  cases h
  exact⟨d,h2,rfl,by simp[Program.cellsOf,h1]⟩
 ·cases h
theorem zU{t:TypeId}{i:TI}{k:IntKind}(h:Aw P t=some i)(hk:i.kind= .int k):P.underlying t=some (.int k):=by
 obtain⟨d,h1,h2,_⟩:=Q4 h
 rw[hk] at h2
 cases d<;>simp[TK.of] at h2
 ·rw[h1,h2]
 ·split at h2<;>cases h2
theorem rM{t:TypeId}{i:TI}(h:Aw P t=some i)(hk:i.kind= .bool):P.underlying t=some .bool:=by
 obtain⟨d,h1,h2,_⟩:=Q4 h
 rw[hk] at h2
 cases d<;>simp[TK.of] at h2
 ·exact h1
 ·split at h2<;>cases h2
theorem Acc{t e:TypeId}{i:TI}(h:Aw P t=some i)(hk:i.kind= .slice e):P.underlying t=some (.slice e):=by
 obtain⟨d,h1,h2,_⟩:=Q4 h
 rw[hk] at h2
 cases d<;>simp[TK.of] at h2
 ·rw[h1,h2]
 ·split at h2<;>cases h2
theorem Xy{t:TypeId}{i:TI}{fs:List (Nat × TypeId)}(h:Aw P t=some i)(hk:i.kind= .struct fs):
  ∃ gs:Array Field,P.underlying t=some (.struct gs)∧(gs.toList.map fun f=>(f.offset,f.type))=fs:=by
 obtain⟨d,h1,h2,_⟩:=Q4 h
 rw[hk] at h2
 cases d<;>simp only[TK.of] at h2<;>try (cases h2;done)
 rename_i gs
 split at h2
 ·cases h2
 ·simp only[TK.struct.injEq] at h2
  exact⟨gs,h1,h2⟩
theorem Nb{t:TypeId}{i:TI}{k:IntKind}(h:Aw P t=some i)(hk:i.kind= .int k):Dec P t (fun n:Int=>[.int k n]):=by
 intro H enc W fuel cs x hx
 obtain⟨n,rfl,_,hw⟩:=DataW.trod_int (zU h hk) hx
 simp only[Lit.wf,Bool.and_eq_true,decide_eq_true_eq] at hw
 exact⟨n,CV.one (.int k n hw.1 hw.2)⟩
theorem Aet{t:TypeId}{i:TI}(h:Aw P t=some i)(hk:i.kind= .bool):Dec P t (fun b:Bool=>[.bool b]):=by
 intro H enc W fuel cs x hx
 obtain⟨b,rfl,_⟩:=DataW.trod_bool (rM h hk) hx
 exact⟨b,CV.one (.bool b)⟩
theorem eH{W:World}{a:Addr}{n:Nat}{cs:List Value}(h:W.cells? 0 a n=some cs):cs.length=n∧∀ j,j<n→W.cell? (a.add j)=cs[j]? :=by
 unfold World.cells? at h
 rw[if_pos (Nat.zero_le _)] at h
 exact⟨by simpa using mapM_some_length h,fun j hj=>mapM_some_get h j j (by simp[hj])⟩
theorem Acd{W:World}{a:Addr}{v:Value}(h:W.cell? a=some v):a.spot=none:=by
 cases hsp:a.spot with
 |none=>rfl
 |some s=>
  simp only[World.cell?] at h
  split at h
  ·simp[hsp] at h
  ·cases h
theorem add_add{b o i j:Nat}:((⟨b,o,none⟩:Addr).add i).add j=⟨b,o+i+j,none⟩:=by
 unfold Addr.add
 by_cases hi:i=0<;>by_cases hj:j=0<;>simp[hi,hj]<;>omega
theorem Ace{l:List AV}{q:Nat}{c:AV}(h:l[q]? =some c):q<l.length:=by
 rcases Nat.lt_or_ge q l.length with h'|h'
 ·exact h'
 ·rw[List.getElem?_eq_none h'] at h;cases h
theorem Acf{t e:TypeId}{i j:TI}{sz:Nat}{α:Type}[Inhabited α]{ec:α→List AV}(h:Aw P t=some i)(hk:i.kind= .slice e)(hj:Aw P e=some j)(hsz:j.size=sz)(h0:0<sz)(hd:Dec P e ec):
  Dec P t (fun l:List α=>[.sl false sz l.length (fun n=>ec (l.getD n default))]):=by
 intro H enc W fuel cs x hx
 obtain⟨_,_,_,hcells⟩:=Q4 hj
 rw[hsz] at hcells
 rcases DataW.trod_slice (Acc h hk) hx with ⟨rfl,_⟩|⟨a,len,cap,elems,rest,n,rfl,rfl,rfl,_,hl,hm,hel,he,hr,_⟩
 ·exact⟨[],CV.one (.sln false sz _ none)⟩
 rw[hcells] at he hr
 have hr:=hr rfl
 rcases Nat.eq_zero_or_pos cap with hc0|hc0
 ·subst hc0
  obtain rfl:len=0:=by omega
  exact⟨[],CV.one (.sln false sz _ (some a))⟩
 have hspot:a.spot=none:=by
  have:∃ y,(W.cells? 0 (a.add (0*sz)) sz).bind (DataW.trod enc P W 0 (fun _=>true) true n e)=some y:=by
   rcases Nat.eq_zero_or_pos len with hl0|hl0
   ·subst hl0
    have h1:=hr.2 0 (by omega)
    rw[Nat.add_zero] at h1
    rw[h1]
    exact⟨_,List.getElem?_eq_getElem (by rw[hr.1];omega)⟩
   ·rw[he 0 hl0]
    exact⟨_,List.getElem?_eq_getElem (by rw[hel];omega)⟩
  obtain⟨y,hy⟩:=this
  rw[Option.bind_eq_some_iff] at hy
  obtain⟨cs',hcs',_⟩:=hy
  obtain⟨h1,h2⟩:=eH hcs'
  have h3:=h2 0 h0
  rw[List.getElem?_eq_getElem (by omega)] at h3
  have h4:=Acd h3
  simpa[Addr.add] using h4
 obtain⟨b,o,sp⟩:=a
 obtain rfl:sp=none:=hspot
 have each:∀ m,∃ a:α,m<len→b<W.heap.size∧∃ csm:List Value,csm.length=sz∧(∀ q,q<sz→W.cell? ⟨b,o+m*sz+q,none⟩=csm[q]?)∧CV W (ec a) csm:=by
  intro m
  by_cases hm:m<len
  ·have h1:=he m hm
   rw[List.getElem?_eq_getElem (by omega)] at h1
   rw[Option.bind_eq_some_iff] at h1
   obtain⟨csm,h2,h3⟩:=h1
   obtain⟨h4,h5⟩:=eH h2
   obtain⟨a,ha⟩:=hd enc W n csm _ h3
   have hb:=World.cells?_block h2 h0
   refine⟨a,fun _=>⟨?_,csm,h4,fun q hq=>?_,ha⟩⟩
   ·unfold Addr.add at hb
    split at hb<;>exact hb
   ·rw[←h5 q hq,add_add]
  ·exact⟨default,fun h=>absurd h hm⟩
 obtain⟨f,hf⟩:=Classical.axiomOfChoice each
 refine⟨(List.range len).map f,CV.one ?_⟩
 have hget:∀ m,m<len→((List.range len).map f).getD m default=f m:=by
  intro m hm
  simp[List.getD,List.getElem?_map,List.getElem?_range hm]
 have hlen:((List.range len).map f).length=len:=by simp
 rw[hlen]
 refine .sl false sz len _ b o cap (fun m q=>(W.cell? ⟨b,o+m*sz+q,none⟩).getD .nilIface) (fun hp=>?_) hl hm (fun h=>by cases h) (fun m hm=>?_) (fun m q hm hq=>?_) (fun m q c hm hc=>?_)
 ·exact⟨(hf 0 hp).1,(hf 0 hp).1⟩
 ·obtain⟨_,csm,h1,_,h2⟩:=hf m hm
  show(ec (((List.range len).map f).getD m default)).length=sz
  rw[hget m hm,h2.1,h1]
 ·obtain⟨_,csm,h1,h2,_⟩:=hf m hm
  rw[h2 q hq,List.getElem?_eq_getElem (by omega)]
  rfl
 ·obtain⟨_,csm,h1,h2,h3⟩:=hf m hm
  have hc:(ec (f m))[q]? =some c:=by rw[←hget m hm];exact hc
  have hq:q<sz:=by
   have:=Ace hc
   rw[h3.1,h1] at this
   exact this
  rw[h2 q hq,List.getElem?_eq_getElem (by omega)]
  exact h3.2 q c _ hc (List.getElem?_eq_getElem (by omega))
theorem Q5{t:TypeId}{i:TI}{fs:List (Nat × TypeId)}(h:Aw P t=some i)(hk:i.kind= .struct fs){H:Type}{enc:TypeId × Value→H}{W:World}{fuel:Nat}{cs:List Value}{x:DataW H × List MemPlace}
  (hx:DataW.trod enc P W 0 (fun _=>true) true fuel t cs=some x):
  cs.length=i.size∧∀ (n o s:Nat) (ft:TypeId) (j:TI) {α:Type} {ec:α→List AV},fs[n]? =some (o,ft)→Aw P ft=some j→j.size=s→Dec P ft ec→∃ a,CV W (ec a) ((cs.drop o).take s):=by
 obtain⟨gs,h1,h2⟩:=Xy h hk
 obtain⟨_,_,_,hcells⟩:=Q4 h
 obtain⟨xs,m,rfl,rfl,hl,hlen,hf⟩:=DataW.trod_struct h1 hx
 refine⟨hl.trans hcells,fun n o s ft j α ec hn hj hs hd=>?_⟩
 obtain⟨_,_,_,hcj⟩:=Q4 hj
 subst h2
 rw[List.getElem?_map,Option.map_eq_some_iff] at hn
 obtain⟨f,hf1,hf2⟩:=hn
 cases hf2
 rw[Array.getElem?_toList] at hf1
 have h3:=hf n f hf1
 have hn:n<gs.size:=by
  rcases Nat.lt_or_ge n gs.size with h'|h'
  ·exact h'
  ·rw[Array.getElem?_eq_none h'] at hf1;cases hf1
 rw[List.getElem?_eq_getElem (by omega),hcj,hs] at h3
 exact hd enc W m _ _ h3
end
structure Kept (W W':World):Prop where
 same:∀ b,b<W.heap.size→W'.heap[b]? =W.heap[b]?
 size:W.heap.size≤W'.heap.size
 os:W'.os=W.os
 output:W'.output=W.output
theorem Kept.but{W W':World}(h:Kept W W')(may:MemPlace→Prop):W.keptBut W' may:=by
 refine⟨h.os,h.output,fun i hi=>?_⟩
 rw[h.same i hi]
 exact(World.keptBut_refl W may).2.2 i hi
theorem Kept.frozen{W W':World}(h:Kept W W'){a:Addr}(ha:a.block<W.heap.size):W'.frozen? a=W.frozen? a:=by
 simp only[World.frozen?,h.same _ ha]
theorem Kept.at_{W W':World}(h:Kept W W'){p:MemPlace}(hp:p.block<W.heap.size):W.sameAt W' p:=by
 cases p with
 |cell b off=>exact Ta (h.same b hp)
 |map b=>exact h.same b hp
def Lf(P:Program):Bool:=(List.range P.types.size).all fun t=>match P.underlying t with
 |some (.slice e)=>decide (0<P.cellsOf e)
 |_=>true
theorem Acg{P:Program}(h:Lf P=true):∀ {t e:TypeId},t<P.types.size→P.underlying t=some (.slice e)→0<P.cellsOf e:=by
 intro t e ht hu
 have:=List.all_eq_true.1 h t (by simpa using ht)
 rw[hu] at this
 simpa using this
section
variable {P : Program} {H : Type} {enc : TypeId × Value → H} {W W' : World}
theorem R5(K:Kids P (·<P.types.size))(hz:Lf P=true)(hk:Kept W W'){sp:Nat→Bool}:
  ∀ {ts:List TypeId} {vs:List Value} {ds:List (DataW H)} {p:List MemPlace},(∀ t ∈ ts,t<P.types.size)→DataW.TrodAll enc P W 0 (fun _=>true) true ts vs ds p→(∀ q ∈ p,sp q.block=true)→
   DataW.TrodAll enc P W' 0 sp true ts vs ds p
 |[],vs,ds,p,_,h,_=>by
  obtain⟨rfl,rfl,rfl⟩:=ChangeShapes.trodAll_nil h
  exact ChangeShapes.trodAll_mk0
 |t::ts,vs,ds,p,ht,h,hs=>by
  obtain⟨v,vs',d,ds',a,b,rfl,rfl,rfl,⟨fuel,h1⟩,h2⟩:=ChangeShapes.trodAll_cons h
  refine⟨a,b,⟨fuel,?_⟩,R5 K hz hk (fun t h=>ht t (List.mem_cons_of_mem _ h)) h2 (fun q hq=>hs q (List.mem_append_right _ hq)),rfl⟩
  exact DataW.trod_stays K (fun h1 h2=>Acg hz h1 h2) (fun h=>by cases h) (ht t (List.mem_cons_self ..)) h1
   (fun q hq=>hk.at_ (DataW.trod_lt fuel t _ _ h1 q hq)) (fun q hq=>hs q (List.mem_append_left _ hq))
theorem Aeu{f:Func}{s:ChangeSpec}{args:Array Value}{ds gs:List (DataW H)}{before:List MemPlace}{fresh handsOn again:Bool}{t:TypeId}
  (K:Kids P (·<P.types.size)) (hz:Lf P=true) (hv0:s.vars=[]) (hp:∀ t ∈ f.params.toList,t<P.types.size) (hr:f.resultTypes=#[t]) (ht:P.underlying t=some .bool)
  (hW:DataW.Whole enc P f.params.toList s.vars false W args.toList ds gs before) (hfn:s.fn H (ds++gs)={ results:=[.lit (.bool true)],args:=ds,vars:=gs })
  (hk:Kept W W'):s.post enc P f false fresh handsOn again W args (.bool true) W':=by
 obtain⟨p,q,hA,hV,rfl,hfz,_⟩:=id hW
 rw[hv0] at hV
 obtain⟨rfl,rfl⟩:=ChangeShapes.trodVars_none hV
 have hlt:=hW.lt
 simp only[List.append_nil] at hlt hfz
 have hargs:∀ sp:Nat→Bool,(∀ q ∈ p,sp q.block=true)→DataW.TrodAll enc P W' 0 sp true f.params.toList args.toList ds p:=fun sp hs=>R5 K hz hk hp hA hs
 have hres:∀ (b:Nat) (sp:Nat→Bool) (hd:Bool),DataW.TrodAll enc P W' b sp hd f.resultTypes.toList ((Value.bool true).resultList f.resultTypes.size) [.lit (.bool true)] []:=by
  intro b sp hd
  rw[hr]
  exact ChangeShapes.trodAll_mk1 (RowKit.shut_bool ht true)
 have hvars:∀ sp:Nat→Bool,DataW.TrodVars enc P W' sp s.vars [] []:=by
  intro sp
  rw[hv0]
  rfl
 have h0:∀ q ∈ p,decide (q.block<W.heap.size)=true:=fun q hq=>by simpa using hlt q hq
 refine⟨ds,[],p++[],[],p,[],hW,?_,?_,?_,?_,fun _=>⟨RowKit.ok_one hr rfl (RowKit.okWide_bool_mk ht true),.lit (.bool true)::ds,[],p,⟨p,[],?_,hvars _,by simp,?_,fun h=>by cases h⟩,?_⟩⟩
 ·rw[hfn];exact hres _ _ _
 ·rw[hfn];exact hargs _ h0
 ·rw[hfn];exact hvars _
 ·exact World.keptBut_mono (fun _ f=>f.elim) (hk.but fun _=>False)
 ·exact ChangeShapes.trodAll_append (hargs _ fun _ _=>rfl) (hres _ _ _)
 ·intro b off hb
  rw[hk.frozen (a:=⟨b,off,none⟩) (hlt _ hb)]
  exact hfz b off hb
 ·intro q hq _
  simpa using hq
theorem Ach{F:Nat→Obj→Prop}{f:FuncId}{α:Type}{args:α→List AV}{pre:α→Prop}{res:α→AV}(hF:∀ b o,F b o→W.heap[b]? =some o)(hG:GoodP F P f (PC.of args pre res)){vs:Array Value}{x:α}(hx:pre x)
  (hv:CV W (args x) vs.toList):Calls P f vs W fun e w'=>∃ v S',e= .returned v∧V (fun _=>none) S' w' (res x) v∧Kept W w':=by
 have hs:Sok F (fun b=>b<W.heap.size) W:=⟨fun b h=>h,fun b o h=>⟨lt_of_some (hF b o h),hF b o h⟩⟩
 have hv':VL (fun _=>none) (fun b=>b<W.heap.size) W (args x) vs:=⟨by simpa using hv.1,fun i c v hc hi=>hv.2 i c v hc (by simpa using hi)⟩
 refine(hG _ W (args x) vs (fun c=>c=res x) hs hv' ⟨x,hx,Aj _,rfl⟩).mono ?_
 rintro e w' ⟨v,c,S',rfl,rfl,h1,h2,_⟩
 exact⟨v,S',rfl,h1,fun b hb=>h2.same b hb (.inl hb),h2.size,h2.os,h2.output⟩
theorem Ah3{r:Go.Reach}{b0:Nat}{t:TypeId}{i:TI}{k:IntKind}{v:Value}{d:DataW H}{ps:List MemPlace}(h:Aw P t=some i)(hk:i.kind= .int k)(hval:Value.okWide P W r b0 t v)(hd:DataW.Trod enc P W 0 (fun _=>true) true t v d ps):
  ∃ n:Int,V (fun _=>none) (fun b=>b<W.heap.size) W (.int k n) v:=by
 obtain⟨n,rfl,_,_,hw⟩:=ChangeShapes.open_int (zU h hk) hval hd
 simp only[Lit.wf,Bool.and_eq_true,decide_eq_true_eq] at hw
 exact⟨n,.int k n hw.1 hw.2⟩
theorem yD{r:Go.Reach}{b0:Nat}{t:TypeId}{i:TI}{fs:List (Nat × TypeId)}{v:Value}{d:DataW H}{ps:List MemPlace}{α:Type}{ec:α→List AV}(h:Aw P t=some i)(hk:i.kind= .struct fs)(hdc:Dec P t ec)
  (hval:Value.okWide P W r b0 t v) (hd:DataW.Trod enc P W 0 (fun _=>true) true t v d ps):∃ a:α,V (fun _=>none) (fun b=>b<W.heap.size) W (.agg (ec a)) v:=by
 obtain⟨gs,h1,_⟩:=Xy h hk
 obtain⟨cs,rfl,_⟩:=WideShapes.okWide_struct h1 hval
 obtain⟨fuel,hf⟩:=hd
 obtain⟨a,ha⟩:=hdc enc W fuel _ _ hf
 exact⟨a,.agg _ cs (by simpa[Value.cells] using ha.1) fun i c v hc hv=>ha.2 i c v hc (by simpa[Value.cells] using hv)⟩
theorem CV.cons{a:AV}{al:List AV}{v:Value}{vs:List Value}(h:V (fun _=>none) (fun b=>b<W.heap.size) W a v)(k:CV W al vs):CV W (a::al) (v::vs):=(CV.one h).app k
theorem CV.none:CV W [] []:=⟨rfl,fun i c v h=>by simp at h⟩
end
end Go.Vc
namespace Go.Vc.Z
open Go Go.Vc Go.Proofs
end Go.Vc.Z
namespace Go.Vc
open Go Go.Proofs
noncomputable def Ah4 : Nat := (Tryz.prog.globalNamed "internal/strconv.uint64pow10").getD 0
def Fw(W:World):Nat→Obj→Prop:=fun b o=>W.heap[b]? =some o
def Tabs (W : World) : Prop := Lib.TabIs Tryz.prog W "internal/strconv.uint64pow10" .u64 Lib.pow10Tab ∧ W.ShapedOpen Tryz.prog
theorem Ah5 : Tryz.prog.globalNamed "internal/strconv.uint64pow10" = some Ah4 := by
 have h : (Tryz.prog.globalNamed "internal/strconv.uint64pow10").isSome = true := by kernel_rfl
 unfold Ah4
 cases hg : Tryz.prog.globalNamed "internal/strconv.uint64pow10" with
 |none=>rw[hg] at h;cases h
 |some g=>rfl
theorem Tabs.pow {W : World} (hW : Tabs W) {S : Nat → Prop} {w : World} (hs : Sok (Fw W) S w) : Lib.TabIs Tryz.prog w "internal/strconv.uint64pow10" .u64 Lib.pow10Tab := by
 replace hW:=hW.1
 unfold Lib.TabIs World.var? at hW
 unfold Lib.TabIs World.var?
 rw[Ah5] at hW ⊢
 simp only[Option.bind_some] at hW ⊢
 cases hg:W.heap[Ah4]? with
 |none=>rw[hg] at hW;cases hW
 |some o=>
  rw[(hs.st Ah4 o hg).2]
  rw[hg] at hW
  exact hW
theorem Fw.cell{W:World}{S:Nat→Prop}{w:World}(hs:Sok (Fw W) S w){b o:Nat}{v:Value}(h:W.cell? ⟨b,o,none⟩=some v):w.cell? ⟨b,o,none⟩=some v:=by
 cases hg:W.heap[b]? with
 |none=>simp only[World.cell?,hg] at h;cases h
 |some ob=>
  have:=(hs.st b ob hg).2
  simp only[World.cell?,this]
  simpa only[World.cell?,hg] using h
end Go.Vc
namespace Go.Pl
open Go Go.Lib
theorem oW{α:Type}{P:List α→Prop}(h0:P [])(h1:∀ s c,P s→P (s++[c]))(s:List α):P s:=by
 have:∀ t:List α,P t.reverse:=by
  intro t
  induction t with
  |nil=>exact h0
  |cons c t ih=>rw[List.reverse_cons];exact h1 _ _ ih
 have h:=this s.reverse
 rwa[List.reverse_reverse] at h
def worth(s:List UInt8):Nat:=s.foldl (fun n c=>10*n+(c.toNat - 48)) 0
def Xz(c:UInt8):Bool:=decide (48≤c.toNat)&&decide (c.toNat≤57)
def allDig(s:List UInt8):Bool:=s.all Xz
theorem Mi{c:UInt8}:Xz c=true↔48≤c.toNat∧c.toNat≤57:=by simp[Xz]
theorem E8{s:List UInt8}:allDig s=true↔∀ c ∈ s,48≤c.toNat∧c.toNat≤57:=by simp[allDig,Xz]
theorem eI:worth []=0:=rfl
theorem Ia(s:List UInt8)(c:UInt8):worth (s++[c])=10*worth s+(c.toNat - 48):=by simp[worth]
theorem yE(s:List UInt8):∀ n,s.foldl (fun n c=>10*n+(c.toNat - 48)) n=n*10 ^ s.length+worth s:=by
 induction s using oW with
 |h0=>intro n;simp[worth]
 |h1 s c ih=>
  intro n
  rw[List.foldl_append,ih,Ia]
  simp only[List.foldl_cons,List.foldl_nil,List.length_append,List.length_singleton,Nat.pow_succ]
  rw[Nat.mul_add,Nat.mul_comm 10 (n*10 ^ s.length),Nat.mul_assoc]
  omega
theorem oX(s t:List UInt8):worth (s++t)=worth s*10 ^ t.length+worth t:=by
 rw[←yE t (worth s)]
 simp[worth]
theorem X0(c:UInt8)(t:List UInt8):worth (c::t)=(c.toNat - 48)*10 ^ t.length+worth t:=by
 have:=oX [c] t
 simpa[worth] using this
theorem rN{s:List UInt8}(h:allDig s=true):worth s<10 ^ s.length:=by
 induction s using oW with
 |h0=>simp[worth]
 |h1 s c ih=>
  simp only[allDig,List.all_append,Bool.and_eq_true] at h
  have h1:=ih h.1
  have h2:=Mi.1 (by simpa using h.2)
  rw[Ia,List.length_append,List.length_singleton,Nat.pow_succ]
  omega
theorem Ib(u:Nat):(UInt8.ofNat (48+u % 10)).toNat=48+u % 10:=by
 rw[UInt8.toNat_ofNat']
 have:u % 10<10:=Nat.mod_lt _ (by omega)
 omega
theorem Ic{u:Nat}(h:u<10):decDigits u=[UInt8.ofNat (48+u % 10)]:=by
 rw[decDigits,dif_pos h,Nat.mod_eq_of_lt h]
theorem R6{u:Nat}(h:10≤u):decDigits u=decDigits (u / 10)++[UInt8.ofNat (48+u % 10)]:=by
 rw[decDigits,dif_neg (by omega)]
theorem oY(u:Nat):decDigits u≠[]:=by
 rw[decDigits];split<;>simp
theorem G3(u:Nat):worth (decDigits u)=u:=by
 induction u using Nat.strongRecOn with
 |_ u ih=>
  by_cases h:u<10
  ·rw[Ic h]
   have:=Ia [] (UInt8.ofNat (48+u % 10))
   rw[List.nil_append] at this
   rw[this,Ib,eI];omega
  ·rw[R6 (by omega),Ia,ih (u / 10) (by omega),Ib];omega
theorem U8(s:List UInt8)(u:Nat):allDig (s++[UInt8.ofNat (48+u % 10)])=allDig s:=by
 simp only[allDig,List.all_append,List.all_cons,List.all_nil,Bool.and_true]
 have:Xz (UInt8.ofNat (48+u % 10))=true:=Mi.2 (by rw[Ib];omega)
 rw[this,Bool.and_true]
theorem E9(u:Nat):allDig (decDigits u)=true:=by
 induction u using Nat.strongRecOn with
 |_ u ih=>
  by_cases h:u<10
  ·rw[Ic h];exact U8 [] u
  ·rw[R6 (by omega),U8];exact ih _ (by omega)
theorem Aev(u:Nat)(h:0<u):∃ c t,decDigits u=c::t∧49≤c.toNat∧c.toNat≤57:=by
 induction u using Nat.strongRecOn with
 |_ u ih=>
  by_cases h1:u<10
  ·rw[Ic h1];exact⟨_,_,rfl,by rw[Ib];omega,by rw[Ib];omega⟩
  ·obtain⟨c,t,h2,h3⟩:=ih (u / 10) (by omega) (by omega)
   rw[R6 (by omega),h2];exact⟨c,_,rfl,h3⟩
theorem Aci{s:List UInt8}(h:allDig s=true):s≠[]→(∀ t,s=48::t→t=[])→decDigits (worth s)=s:=by
 induction s using oW with
 |h0=>intro h;exact absurd rfl h
 |h1 s c ih=>
  intro _ hz
  simp only[allDig,List.all_append,Bool.and_eq_true] at h
  have hc:=Mi.1 (by simpa using h.2)
  have hcc:UInt8.ofNat (48+(c.toNat - 48))=c:=by rw[show 48+(c.toNat - 48)=c.toNat by omega];simp
  rw[Ia]
  by_cases hs:s=[]
  ·subst hs
   rw[eI,Ic (by omega),show(10*0+(c.toNat - 48)) % 10=c.toNat - 48 by omega,hcc];rfl
  ·have hnz:∀ t,s=48::t→False:=fun t ht=>by
    have:=hz (t++[c]) (by rw[ht];rfl)
    simp at this
   have hd:=ih h.1 hs fun t ht=>(hnz t ht).elim
   have hpos:0<worth s:=by
    rcases Nat.eq_zero_or_pos (worth s) with h0|h0
    ·rw[h0] at hd
     exact(hnz [] (by rw[←hd,Ic (by omega)];rfl)).elim
    ·exact h0
   rw[R6 (by omega),show(10*worth s+(c.toNat - 48)) / 10=worth s by omega,show(10*worth s+(c.toNat - 48)) % 10=c.toNat - 48 by omega,hd,hcc]
theorem X1:∀ (k u:Nat),u<10 ^ (k+1)→nDigits u≤k+1
 |0,u,h=>by rw[nDigits_small (by simpa using h)];omega
 |k+1,u,h=>by
  by_cases h1:u<10
  ·rw[nDigits_small h1];omega
  ·rw[nDigits_big h1]
   have:=X1 k (u / 10) (by rw[Nat.pow_succ] at h;omega)
   omega
theorem Q6(u:Nat)(h:u<18446744073709551616):(decDigits u).length≤20:=by
 rw[decDigits_length];exact X1 19 u (by omega)
end Go.Pl
namespace Go.Vc.Z
open Go Go.Vc Go.Proofs Go.RowKit Go.Pl Go.Lib
noncomputable section
set_option maxRecDepth 100000
attribute [local irreducible] inK Utf8.decode Utf8.encode Lib.itoa Pl.worth Pl.allDig
@[irreducible] def checkN(n:Int):Int:=if n<1000000000000∨9999999999999<n then 2 else if n / 10 % 7=n % 10 then 0 else 11
theorem Ot{n:Int}(h:checkN n=0):1000000000000≤n∧n≤9999999999999:=by
 unfold checkN at h
 split at h
 ·cases h
 ·omega
def Wx:PC:=PC.fun fun|[.int .u64 n]=>some (True,.int .i64 (sI (checkN n)))|_=>none
def C4:PT:=D1 []
theorem Db{W:World}(hW:Tabs W):Dj (Fw W) Tryz.prog C4:=A6
def Bm:FuncId→Option Ctr:=Av C4 []
theorem Dm{W:World}(hW:Tabs W):Ad (Fw W) Tryz.prog Bm:=(A7 (Db hW))
theorem Ka{W:World}(hW:Tabs W):GoodP (Fw W) Tryz.prog 127 Wx:=by
 have hD:=Db hW
 have hC0:Ad (Fw W) Tryz.prog Bm:=(Dm hW)
 refine Be (D:=C4) (C:=Bm) (wr:=(fun _=>false)) rfl Aq hD hC0 Tryz.func127 (fun _ _=>none) ?_
 clear hC0 hD hW
 intro cs p r h hf hp
 split at h
 case h_2=>cases h
 rename_i n
 cases h
 try simp only[Bl,Cm,Ar,Go.Vc.lo,Go.Vc.hi,and_true] at hf
 (conv=>whnf)
 (repeat' ((first
  |((with_reducible refine aI ?_ ?_);focus (first|with_reducible rfl|exact tK))
  |(split<;>rename_i hh<;>(try simp only[wS] at hh))
  |fail)<;>(conv=>whnf)))
 all_goals (try (show _=_;simp only[wQ]))
 all_goals (unfold checkN;repeat' split)<;>omega
def Hf:PT:=D1 [(127,Wx)]
theorem Kb{W:World}(hW:Tabs W):Dj (Fw W) Tryz.prog Hf:=(Ae Tryz.call127 (Ka hW) A6)
def Fz:FuncId→Option Ctr:=Av Hf []
theorem Ou{W:World}(hW:Tabs W):Ad (Fw W) Tryz.prog Fz:=(A7 (Kb hW))
@[irreducible] def Q7(c:Int):Bool:=decide (100≤c)&&decide (c≤999)
@[irreducible] def I9(c:Int):Bool:=decide (0≤c)&&decide (c≤999999999)
def Js:PC:=PC.fun fun|[.int .i64 n]=>some (True,.bool (sB (Q7 n)))|_=>none
theorem Qa{W:World}(hW:Tabs W):GoodP (Fw W) Tryz.prog 292 Js:=by
 have hD:=Db hW
 have hC0:Ad (Fw W) Tryz.prog Bm:=(Dm hW)
 refine Be (D:=C4) (C:=Bm) (wr:=(fun _=>false)) rfl Aq hD hC0 Tryz.func292 (fun _ _=>none) ?_
 clear hC0 hD hW
 intro cs p r h hf hp
 split at h
 case h_2=>cases h
 rename_i n
 cases h
 try simp only[Bl,Cm,Ar,Go.Vc.lo,Go.Vc.hi,and_true] at hf
 (conv=>whnf)
 (repeat' ((first
  |(split<;>rename_i hh<;>(try simp only[wS] at hh))
  |fail)<;>(conv=>whnf)))
 all_goals (try (show _=_;simp only[wQ]))
 all_goals (try simp (disch:=omega) only[Int.tdiv_eq_ediv_of_nonneg,Int.tmod_eq_emod_of_nonneg]);all_goals (first|(simp_all[Cs,A9,Ap,Fj,C3,Bw,Q7];done)|(simp_all[Cs,A9,Ap,Fj,C3,Bw,Q7];omega))
def U9:PC:=PC.fun fun|[.int .i64 n]=>some (True,.bool (sB (I9 n)))|_=>none
theorem Q8{W:World}(hW:Tabs W):GoodP (Fw W) Tryz.prog 293 U9:=by
 have hD:=Db hW
 have hC0:Ad (Fw W) Tryz.prog Bm:=(Dm hW)
 refine Be (D:=C4) (C:=Bm) (wr:=(fun _=>false)) rfl Aq hD hC0 Tryz.func293 (fun _ _=>none) ?_
 clear hC0 hD hW
 intro cs p r h hf hp
 split at h
 case h_2=>cases h
 rename_i n
 cases h
 try simp only[Bl,Cm,Ar,Go.Vc.lo,Go.Vc.hi,and_true] at hf
 (conv=>whnf)
 (repeat' ((first
  |(split<;>rename_i hh<;>(try simp only[wS] at hh))
  |fail)<;>(conv=>whnf)))
 all_goals (try (show _=_;simp only[wQ]))
 all_goals (try simp (disch:=omega) only[Int.tdiv_eq_ediv_of_nonneg,Int.tmod_eq_emod_of_nonneg]);all_goals (first|(simp_all[Cs,A9,Ap,Fj,C3,Bw,I9];done)|(simp_all[Cs,A9,Ap,Fj,C3,Bw,I9];omega))
@[irreducible] def Ay(n:Int):List UInt8:=if checkN n=0 then decDigits n.toNat else []
def zV:PC:=PC.fun fun|[.int .u64 n]=>some (True,.str (sS (Ay n)))|_=>none
def As2(n:Int):LoopSpec:={
 α:=Nat
 keep:=[0,3,10,11]
 vals i:=[.int .u64 (n / 10 ^ i),.osl 0 1 0 13 (some 13),.int .i64 13,.int .i64 i]
 heap i:=[.row 1 13 (fun e=>[.int .i32 (if 13≤e+i then 48+n / 10 ^ (12 - e) % 10 else 0)])]
 ok i:=i≤13
 μ i:=13 - i }
theorem eJ(i:Nat):(0:Int)<10 ^ i:=Int.pow_pos (by decide)
theorem Aew(n:Int)(i:Nat):n / 10 ^ i / 10=n / 10 ^ (i+1):=by
 rw[Int.pow_succ,Int.ediv_ediv,if_neg (fun h=>by have:=eJ i;omega),Int.sub_zero]
theorem oZ{n:Int}(h0:0≤n)(h1:n<128):(Utf8.encode n).data.toList=[UInt8.ofNat n.toNat]:=by
 obtain⟨k,rfl⟩:∃ k:Nat,n=k:=⟨n.toNat,by omega⟩
 have v:Utf8.valid (k:Int)=true:=by simp[Utf8.valid];omega
 have c1:k<128:=by omega
 simp[Utf8.encode,v,c1]
theorem cV{n:Int}(h:checkN n=0):((List.range 13).flatMap fun e=>(Utf8.encode (48+n / 10 ^ (12 - e) % 10)).data.toList)=Ay n:=by
 obtain⟨h0,h1⟩:=Ot h
 obtain⟨u,rfl⟩:∃ u:Nat,n=u:=⟨n.toNat,by omega⟩
 have hd:nDigits u=13:=nDigits_unique 12 u (by omega) (by omega)
 rw[Ay,if_pos h,Int.toNat_natCast,decDigits_eq,hd]
 have e:∀ l:List Nat,(l.flatMap fun e=>(Utf8.encode (48+(u:Int) / 10 ^ (12 - e) % 10)).data.toList)=l.map fun t=>dg u (13 - 1 - t):=by
  intro l
  induction l with
  |nil=>rfl
  |cons e l ih=>
   rw[List.flatMap_cons,List.map_cons,ih]
   have h2:(48+(u:Int) / 10 ^ (12 - e) % 10)=((48+u / 10 ^ (12 - e) % 10:Nat):Int):=by simp
   rw[h2,oZ (by omega) (by have:=Nat.mod_lt (u / 10 ^ (12 - e)) (show 10 > 0 by omega);omega)]
   rfl
 exact e _
def cW:List AV→Nat→Option LR:=fun cs i=>match cs with|[.int _ n]=>cond (Nat.beq i 5) (some (.inv (As2 n))) (none)|_=>none
theorem cX{W:World}(hW:Tabs W):GoodP (Fw W) Tryz.prog 54 zV:=by
 have hD:=Kb hW
 have hC0:Ad (Fw W) Tryz.prog Fz:=(Ou hW)
 refine Be (D:=Hf) (C:=Fz) (wr:=(fun _=>false)) rfl Aq hD hC0 Tryz.func54 (cW) ?_
 clear hC0 hD hW
 intro cs p r h hf hp
 split at h
 case h_2=>cases h
 rename_i n
 cases h
 try simp only[Bl,Cm,Ar,Go.Vc.lo,Go.Vc.hi,and_true] at hf
 (conv=>whnf)
 (repeat' ((first
  |((with_reducible refine aI ?_ ?_);focus (first|with_reducible exact⟨⟩|(simp only[Ag,ty2,ty3,ty4,ty5,ty9,Cn,Ch,Co,Ci,Cl,Cp,Cq,Cr,Bf,Bc,Bg,Bd,Bh,Bi,Bj];first|omega|(refine⟨?_,?_⟩<;>omega))))
  |(split<;>rename_i hh<;>(try simp only[wS] at hh))
  |with_reducible refine lnI fun hln=>?_
  |fail)<;>(conv=>whnf)))
 all_goals (try (show _=_;simp only[wQ]))
 ·simp[Ay,hh]
 ·refine⟨?_,fun(i:Nat) (hi:i≤13)=>?_⟩
  ·(conv=>whnf)
   refine⟨(0:Nat),[],?_,⟨⟨rfl,(nB rfl),rfl⟩,?_,?_⟩⟩
   ·exact Nat.zero_le _
   ·exact tL
   ·(conv=>whnf)
    (repeat' ((first|with_reducible exact⟨⟩|((with_reducible refine aI ?_ ?_);focus (exact tA))|with_reducible refine iB ?_ ?_|fail)<;>(conv=>whnf)))
    all_goals (try simp only[wQ])
    intro e he
    refine⟨?_,rfl⟩
    simp only[AV.cells]
    rw[if_neg (by omega)]
  ·have h10:0≤n / 10 ^ i:=Int.ediv_nonneg hf.1 (Int.le_of_lt (eJ i))
   have h11:n / 10 ^ i≤18446744073709551615:=Int.le_trans (Int.ediv_le_self _ hf.1) hf.2
   have hm:=Int.emod_nonneg (n / 10 ^ i) (show(10:Int)≠0 by decide)
   have hm2:=Int.emod_lt_of_pos (n / 10 ^ i) (show(0:Int)<10 by decide)
   (conv=>whnf)
   (repeat' ((first
    |((with_reducible refine aI ?_ ?_);focus (first|omega|exact tK))
    |(split<;>rename_i hh<;>(try simp only[wS] at hh))
    |fail)<;>(conv=>whnf)))
   ·(conv=>whnf)
    refine⟨(i+1:Nat),[],?_,⟨⟨rfl,(nB rfl),rfl⟩,?_,?_⟩⟩
    ·exact⟨show i+1≤13 by omega,show 13 - (i+1)<13 - i by omega⟩
    ·(conv=>whnf)
     (repeat' ((first|with_reducible exact⟨⟩|((with_reducible refine Or.inr ?_);rfl)|((with_reducible refine aI ?_ ?_);focus (exact tA))|with_reducible refine iA ?_ ?_|fail)<;>(conv=>whnf)))
     all_goals (try first|omega)
     ·rw[Aew]
    ·(conv=>whnf)
     (repeat' ((first|with_reducible exact⟨⟩|((with_reducible refine aI ?_ ?_);focus (exact tA))|with_reducible refine iB ?_ ?_|fail)<;>(conv=>whnf)))
     all_goals (try simp only[wQ])
     intro e he
     refine⟨?_,rfl⟩
     simp only[Dq,decide_eq_true_eq]
     by_cases h1:e=12 - i
     ·rw[if_pos (by omega)]
      show [AV.int IntKind.i32 (48+(n / 10 ^ i) % 10)]=[AV.int IntKind.i32 _]
      rw[if_pos (by omega),h1,show 12 - (12 - i)=i by omega]
     ·rw[if_neg (by omega)]
      by_cases h2:13≤e+i
      ·rw[if_pos h2,if_pos (by omega)]
      ·rw[if_neg h2,if_neg (by omega)]
   ·have h13:i=13:=by omega
    subst h13
    have hr:=cV (n:=n) (by assumption)
    have hrr:(Wr 13 fun e=>(fun e=>[AV.int IntKind.i32 (if 13≤e+13 then 48+n / 10 ^ (12 - e) % 10 else 0)]) (0+e))=Ay n:=by
     rw[←hr]
     unfold Wr
     congr 1
     funext e
     simp[Me]
    refine⟨⟨fun e _=>rfl,?_⟩,?_⟩
    ·refine Nat.le_trans (Nat.le_of_eq (congrArg List.length hrr)) ?_
     unfold Ay;rw[if_pos (by assumption)];have:=Q6 n.toNat (by omega);omega
    ·(conv=>whnf)
     all_goals (try (show _=_;simp only[wQ]))
     exact hrr
end
end Go.Vc.Z
namespace Go.Pl
open Go Go.Lib
theorem eK(l:List UInt8)(i:Nat)(h:i<l.length):(ByteArray.get! ⟨l.toArray⟩ i)=l.getD i 0:=by
 show(l.toArray)[i]! =_
 simp[h,List.getD_eq_getElem?_getD]
theorem Acj{l:List UInt8}{p:Nat}(h:p<l.length)(hb:(l.getD p 0).toNat<128):Utf8.decode ⟨l.toArray⟩ p=((l.getD p 0).toNat,1):=by
 unfold Utf8.decode
 simp only[Nat.add_zero,eK l p h]
 rw[if_pos hb]
theorem Ack{l:List UInt8}{p:Nat}(h:p<l.length)(hb: ¬(l.getD p 0).toNat<128):128≤(Utf8.decode ⟨l.toArray⟩ p).1:=by
 unfold Utf8.decode
 simp only[Nat.add_zero,eK l p h]
 rw[if_neg hb]
 have hr:Utf8.runeError=65533:=rfl
 split
 ·split<;>(simp only[] at*;omega)
 ·split
  ·split
   ·rename_i hc;simp only[Bool.and_eq_true,decide_eq_true_eq] at hc;simp only[];omega
   ·simp only[];omega
  ·split
   ·split
    ·rename_i hc;simp only[Bool.and_eq_true,decide_eq_true_eq] at hc;simp only[];omega
    ·simp only[];omega
   ·simp only[];omega
theorem pA{l:List UInt8}{p:Nat}(h:p<l.length):(Utf8.decode ⟨l.toArray⟩ p=((l.getD p 0).toNat,1)∧(l.getD p 0).toNat<128)∨(128≤(Utf8.decode ⟨l.toArray⟩ p).1∧128≤(l.getD p 0).toNat):=by
 by_cases hb:(l.getD p 0).toNat<128
 ·exact .inl ⟨Acj h hb,hb⟩
 ·exact .inr ⟨Ack h hb,by omega⟩
theorem Ov{l:List UInt8}{i:Nat}(h:i<l.length):l.take (i+1)=l.take i++[l.getD i 0]:=by
 rw[List.take_add_one,List.getD_eq_getElem?_getD,List.getElem?_eq_getElem h];rfl
theorem Lt{p:UInt8→Bool}{l:List UInt8}{i:Nat}(h:i<l.length):(l.take (i+1)).all p=((l.take i).all p&&p (l.getD i 0)):=by
 rw[Ov h,List.all_append];simp
theorem Q9{p:UInt8→Bool}{l:List UInt8}{i:Nat}(h:i<l.length)(hp:p (l.getD i 0)=false):l.all p=false:=by
 rw[List.all_eq_false]
 refine⟨l.getD i 0,?_,by rw[hp];decide⟩
 rw[List.getD_eq_getElem?_getD,List.getElem?_eq_getElem h];exact List.getElem_mem h
theorem Ja{l:List UInt8}{i:Nat}(h:i<l.length):worth (l.take (i+1))=10*worth (l.take i)+((l.getD i 0).toNat - 48):=by
 rw[Ov h,Ia]
theorem Anu{l:List UInt8}{i:Nat}(h:i<l.length)(hd:allDig l=true):48≤(l.getD i 0).toNat∧(l.getD i 0).toNat≤57:=by
 refine E8.1 hd _ ?_
 rw[List.getD_eq_getElem?_getD,List.getElem?_eq_getElem h];exact List.getElem_mem h
theorem X2{l:List UInt8}{i n:Nat}(h:allDig (l.take i)=true)(hi:i≤n):worth (l.take i)<10 ^ n:=by
 refine Nat.lt_of_lt_of_le (rN h) (Nat.pow_le_pow_right (by omega) ?_)
 rw[List.length_take];omega
theorem F9{l:List UInt8}{i:Nat}(h:i<l.length)(hd:allDig (l.take i)=true)(h1:48≤(l.getD i 0).toNat)(h2:(l.getD i 0).toNat≤57):allDig (l.take (i+1))=true:=by
 unfold allDig at hd ⊢
 rw[Lt h,hd,Bool.true_and,Mi];exact⟨h1,h2⟩
theorem X3{l:List UInt8}{i:Nat}(h:i<l.length)(h1: ¬(48≤(l.getD i 0).toNat∧(l.getD i 0).toNat≤57)):allDig l=false:=
 Q9 h (by cases hb:Xz (l.getD i 0) with|false=>rfl|true=>exact absurd (Mi.1 hb) h1)
end Go.Pl
namespace Go.Vc.Z
open Go Go.Vc Go.Proofs Go.Pl
theorem D6{l:List UInt8}{p:Nat}(h:p<l.length):(Bb l p=((l.getD p 0).toNat:Int)∧Ai l p=1∧(l.getD p 0).toNat<128)∨(128≤Bb l p∧128≤(l.getD p 0).toNat):=by
 rcases pA h with ⟨h1,h2⟩|⟨h1,h2⟩
 ·exact .inl ⟨by rw[To,h1],by rw[qN,h1],h2⟩
 ·exact .inr ⟨by rw[To];omega,h2⟩
theorem rO(c d:UInt8):eqI (c.toNat:Int) (d.toNat:Int)=(c == d):=by
 rw[Bw,Bool.eq_iff_iff,beq_iff_eq,beq_iff_eq]
 constructor
 ·intro h;exact UInt8.toNat_inj.1 (Int.ofNat.inj h)
 ·rintro rfl;rfl
end Go.Vc.Z
namespace Go.Vc.Z
open Go Go.Vc Go.Proofs Go.RowKit Go.Pl Go.Lib
noncomputable section
set_option maxRecDepth 100000
attribute [local irreducible] inK Utf8.decode Utf8.encode Lib.itoa Pl.worth Pl.allDig
@[irreducible] def numOf(s:List UInt8):Int × Int:=
 if s.length=13∧allDig s=true then(if checkN (worth s)=0 then((worth s:Int),0) else(0,checkN (worth s))) else(0,4)
def Am0:PC:=PC.fun fun|[.str s]=>some (True,.tup [.int .u64 (sI (numOf s).1),.int .i64 (sI (numOf s).2)])|_=>none
def Avq(s:List UInt8):LoopSpec:={
 α:=Nat
 keep:=[4,5,10]
 vals i:=[.int .u64 (worth (s.take i)),.int .i64 i,.iter 0]
 heap i:=[.iter s i]
 ok i:=i≤13∧i≤s.length∧allDig (s.take i)=true
 μ i:=s.length - i }
def rP:List AV→Nat→Option LR:=fun cs i=>match cs with|[.str s]=>cond (Nat.beq i 3) (some (.inv (Avq s))) (none)|_=>none
theorem rQ{W:World}(hW:Tabs W):GoodP (Fw W) Tryz.prog 153 Am0:=by
 have hD:=Kb hW
 have hC0:Ad (Fw W) Tryz.prog Fz:=(Ou hW)
 refine Be (D:=Hf) (C:=Fz) (wr:=(fun _=>false)) rfl Aq hD hC0 Tryz.func153 (rP) ?_
 clear hC0 hD hW
 intro cs p r h hf hp
 split at h
 case h_2=>cases h
 rename_i s
 cases h
 try simp only[Bl,Cm,Ar,Go.Vc.lo,Go.Vc.hi,and_true] at hf
 (conv=>whnf)
 refine⟨?_,fun(i:Nat) (hi:i≤13∧i≤s.length∧allDig (s.take i)=true)=>?_⟩
 ·(conv=>whnf)
  refine⟨(0:Nat),[],?_,⟨⟨rfl,(nB rfl),rfl⟩,?_,?_⟩⟩
  ·exact⟨Nat.zero_le _,Nat.zero_le _,by simp[allDig]⟩
  ·(conv=>whnf)
   (repeat' ((first|with_reducible exact⟨⟩|((with_reducible refine aI ?_ ?_);focus (exact tA))|with_reducible refine iA ?_ ?_|fail)<;>(conv=>whnf)))
   all_goals (try first|omega)
   simp[worth]
  ·exact tL
 ·obtain⟨h1,h2,h3⟩:=hi
  have hw:=X2 h3 h1
  have hbad:i<s.length→13≤i∨¬(48≤Bb s i∧Bb s i≤57)→numOf s=(0,4):=fun h hc=>by
   unfold numOf
   rw[if_neg]
   rintro⟨h4,h5⟩
   have:=Anu h h5
   rcases D6 h with h6|h6<;>omega
  have hlen:s.length≤i→¬(i:Int)=13→numOf s=(0,4):=fun h hc=>by
   unfold numOf
   rw[if_neg]
   rintro⟨h4,h5⟩
   omega
  have hok:s.length≤i→(i:Int)=13→numOf s=if checkN (worth (s.take i))=0 then((worth (s.take i):Int),0) else(0,checkN (worth (s.take i))):=fun h hc=>by
   rw[List.take_of_length_le h] at h3 ⊢
   unfold numOf
   rw[if_pos ⟨by omega,h3⟩]
  (conv=>whnf)
  (repeat' ((first
   |with_reducible exact⟨⟩
   |((with_reducible refine aI ?_ ?_);focus (first|with_reducible exact⟨⟩|with_reducible rfl|exact tK))
   |(split<;>rename_i hh<;>(try simp only[wS] at hh))
   |with_reducible refine iA ?_ ?_
   |fail)<;>(conv=>whnf)))
  all_goals (try (show _=_;simp only[wQ]))
  all_goals try (rw[hbad (by omega) (by omega)];done)
  ·obtain⟨h6,h7,h8⟩:Bb s i=((s.getD i 0).toNat:Int)∧Ai s i=1∧(s.getD i 0).toNat<128:=by
    rcases D6 (l:=s) (p:=i) (by omega) with h6|h6<;>omega
   (conv=>whnf)
   refine⟨(i+1:Nat),[],?_,⟨⟨rfl,(nB rfl),rfl⟩,?_,?_⟩⟩
   ·exact⟨⟨show i+1≤13 by omega,show i+1≤s.length by omega,F9 (by omega) h3 (by omega) (by omega)⟩,show s.length - (i+1)<s.length - i by omega⟩
   ·(conv=>whnf)
    (repeat' ((first|with_reducible exact⟨⟩|((with_reducible refine aI ?_ ?_);focus (exact tA))|with_reducible refine iA ?_ ?_|fail)<;>(conv=>whnf)))
    all_goals (try first|omega)
    rw[Ja (by omega)];omega
   ·exact tL
  all_goals first|(rw[hlen (by omega) (by assumption)];done)|(rw[hok (by omega) (by assumption),if_pos (by assumption)];done)|(rw[hok (by omega) (by assumption),if_neg (by assumption)];done)
end
end Go.Vc.Z
namespace Go.Vc.Z
open Go Go.Vc Go.Proofs Go.RowKit Go.Pl Go.Lib
noncomputable section
set_option maxRecDepth 100000
attribute [local irreducible] inK Utf8.decode Utf8.encode Lib.itoa Pl.worth Pl.allDig
end
end Go.Vc.Z
namespace Go.Vc.Z
open Go Go.Vc Go.Proofs Go.RowKit Go.Pl Go.Lib
noncomputable section
set_option maxRecDepth 100000
attribute [local irreducible] inK Utf8.decode Utf8.encode Lib.itoa Pl.worth Pl.allDig
def X4(c:UInt8):Bool:=(decide (65≤c.toNat)&&decide (c.toNat≤90)) || (decide (50≤c.toNat)&&decide (c.toNat≤57))
@[irreducible] def G4(s:List UInt8):Bool:=s.all X4&&decide (s.length=6)
def T4:PC:=PC.fun fun|[.str s]=>some (True,.bool (sB (G4 s)))|_=>none
def Avr(s:List UInt8):LoopSpec:={
 α:=Nat
 keep:=[0,6]
 vals i:=[.str s,.iter 0]
 heap i:=[.iter s i]
 ok i:=i≤s.length∧(s.take i).all X4=true
 μ i:=s.length - i }
def T5:List AV→Nat→Option LR:=fun cs i=>match cs with|[.str s]=>cond (Nat.beq i 2) (some (.inv (Avr s))) (none)|_=>none
theorem Mj{W:World}(hW:Tabs W):GoodP (Fw W) Tryz.prog 195 T4:=by
 have hD:=Db hW
 have hC0:Ad (Fw W) Tryz.prog Bm:=(Dm hW)
 refine Be (D:=C4) (C:=Bm) (wr:=(fun _=>false)) rfl Aq hD hC0 Tryz.func195 (T5) ?_
 clear hC0 hD hW
 intro cs p r h hf hp
 split at h
 case h_2=>cases h
 rename_i s
 cases h
 try simp only[Bl,Cm,Ar,Go.Vc.lo,Go.Vc.hi,and_true] at hf
 (conv=>whnf)
 refine⟨?_,fun(i:Nat) (hi:i≤s.length∧(s.take i).all X4=true)=>?_⟩
 ·(conv=>whnf)
  refine⟨(0:Nat),[],?_,⟨⟨rfl,(nB rfl),rfl⟩,?_,?_⟩⟩
  ·exact⟨Nat.zero_le _,rfl⟩
  ·exact tL
  ·exact tL
 ·obtain⟨h1,h2⟩:=hi
  have hbad:i<s.length→¬(65≤Bb s i∧Bb s i≤90∨50≤Bb s i∧Bb s i≤57)→G4 s=false:=fun h hc=>by
   have:X4 (s.getD i 0)=false:=by
    simp only[X4,Bool.or_eq_false_iff,Bool.and_eq_false_iff,decide_eq_false_iff_not]
    rcases D6 h with h6|h6<;>omega
   unfold G4;rw[Q9 h this];rfl
  have hgood:i<s.length→(65≤Bb s i∧Bb s i≤90∨50≤Bb s i∧Bb s i≤57)→(s.take (i+1)).all X4=true∧Ai s i=1:=fun h hc=>by
   rcases D6 h with h6|h6
   ·refine⟨?_,h6.2.1⟩
    rw[Lt h,h2,Bool.true_and]
    simp only[X4,Bool.or_eq_true,Bool.and_eq_true,decide_eq_true_eq];omega
   ·omega
  have hfin:s.length≤i→G4 s=decide (s.length=6):=fun h=>by
   rw[List.take_of_length_le h] at h2
   unfold G4;rw[h2];rfl
  (conv=>whnf)
  (repeat' ((first
   |(split<;>rename_i hh<;>(try simp only[wS] at hh))
   |with_reducible refine lnI fun hln=>?_
   |fail)<;>(conv=>whnf)))
  all_goals (try (show _=_;simp only[wQ]))
  all_goals try (rw[hbad (by omega) (by omega)];done)
  all_goals try (
   obtain⟨g1,g2⟩:=hgood (by omega) (by omega)
   (conv=>whnf)
   refine⟨(i+1:Nat),[],?_,⟨⟨rfl,(nB rfl),rfl⟩,?_,?_⟩⟩
   ·exact⟨⟨show i+1≤s.length by omega,g1⟩,show s.length - (i+1)<s.length - i by omega⟩
   ·exact tL
   ·exact tL
   )
  ·rw[hfin (by omega),Bw,Bool.eq_iff_iff,beq_iff_eq,decide_eq_true_eq];omega
def Lu:PT:=D1 [(292,Js),(293,U9)]
theorem Qj{W:World}(hW:Tabs W):Dj (Fw W) Tryz.prog Lu:=(Ae Tryz.call292 (Qa hW) (Ae Tryz.call293 (Q8 hW) A6))
def Lv:FuncId→Option Ctr:=Av Lu []
theorem cY{W:World}(hW:Tabs W):Ad (Fw W) Tryz.prog Lv:=(A7 (Qj hW))
end
end Go.Vc.Z
namespace Go.Vc.Z
open Go Go.Vc Go.Proofs Go.RowKit Go.Pl Go.Lib
noncomputable section
set_option maxRecDepth 100000
attribute [local irreducible] inK Utf8.decode Utf8.encode Lib.itoa Pl.worth Pl.allDig
@[irreducible] def Iz(s:Int):Bool:=decide (1≤s)&&decide (s≤9)
theorem R7{s:Int}:Iz s=true↔1≤s∧s≤9:=by unfold Iz;simp
theorem Ra{s:Int}(h:Iz s=true):s=1∨s=2∨s=3∨s=4∨s=5∨s=6∨s=7∨s=8∨s=9:=by have:=R7.1 h;omega
def Aex:PC:=PC.fun fun|[.int .i64 s]=>some (True,.bool (sB (Iz s)))|_=>none
theorem pB{W:World}(hW:Tabs W):GoodP (Fw W) Tryz.prog 133 Aex:=by
 have hD:=Db hW
 have hC0:Ad (Fw W) Tryz.prog Bm:=(Dm hW)
 refine Be (D:=C4) (C:=Bm) (wr:=(fun _=>false)) rfl Aq hD hC0 Tryz.func133 (fun _ _=>none) ?_
 clear hC0 hD hW
 intro cs p r h hf hp
 split at h
 case h_2=>cases h
 rename_i s
 cases h
 try simp only[Bl,Cm,Ar,Go.Vc.lo,Go.Vc.hi,and_true] at hf
 (conv=>whnf)
 (repeat' ((first
  |(split<;>rename_i hh<;>(try simp only[wS] at hh))
  |fail)<;>(conv=>whnf)))
 all_goals (try (show _=_;simp only[wQ]))
 all_goals (try simp (disch:=omega) only[Int.tdiv_eq_ediv_of_nonneg,Int.tmod_eq_emod_of_nonneg]);all_goals (first|(simp_all[Cs,A9,Ap,Fj,C3,Bw,Iz];done)|(simp_all[Cs,A9,Ap,Fj,C3,Bw,Iz];omega))
def stL:List UInt8:=[79,67,76,70,69,82,86,83,65]
@[irreducible] def Do(s:Int):List UInt8:=if Iz s=true then(stL.drop (s - 1).toNat).take 1 else []
def rR:PC:=PC.fun fun|[.int .i64 s]=>some (True,.str (sS (Do s)))|_=>none
def Jb:PT:=D1 [(133,Aex)]
theorem N0{W:World}(hW:Tabs W):Dj (Fw W) Tryz.prog Jb:=(Ae Tryz.call133 (pB hW) A6)
def Jc:FuncId→Option Ctr:=Av Jb []
theorem Wd{W:World}(hW:Tabs W):Ad (Fw W) Tryz.prog Jc:=(A7 (N0 hW))
theorem We{W:World}(hW:Tabs W):GoodP (Fw W) Tryz.prog 61 rR:=by
 have hD:=N0 hW
 have hC0:Ad (Fw W) Tryz.prog Jc:=(Wd hW)
 refine Be (D:=Jb) (C:=Jc) (wr:=(fun _=>false)) rfl Aq hD hC0 Tryz.func61 (fun _ _=>none) ?_
 clear hC0 hD hW
 intro cs p r h hf hp
 split at h
 case h_2=>cases h
 rename_i s
 cases h
 try simp only[Bl,Cm,Ar,Go.Vc.lo,Go.Vc.hi,and_true] at hf
 have hi:=R7 (s:=s)
 (conv=>whnf)
 (repeat' ((first
  |((with_reducible refine aI ?_ ?_);focus (with_reducible exact⟨⟩))
  |(split<;>rename_i hh<;>(try simp only[wS] at hh))
  |fail)<;>(conv=>whnf)))
 all_goals (try (show _=_;simp only[wQ]))
 ·unfold Do;rw[if_neg (by simp_all)]
 ·have:=hi.1 (by assumption)
  (conv=>whnf)
  (repeat' ((first
   |((with_reducible refine aI ?_ ?_);focus (first|omega|exact tK|(simp only[List.length_append,bytesOf_length,List.toList_toArray,List.length_cons,List.length_nil,List.length_take,List.length_drop,Ap];omega)))
   |fail)<;>(conv=>whnf)))
  all_goals (try (show _=_;simp only[wQ]))
  unfold Do
  rw[if_pos (by assumption)]
  show(stL.drop (s - 1).toNat).take (s.toNat - (s - 1).toNat)=_
  congr 1;omega
theorem yF{s:Int}(h:Iz s=true):∃ c,Do s=[c]∧stL[(s - 1).toNat]? =some c:=by
 unfold Do;rw[if_pos h]
 rcases Ra h with rfl|rfl|rfl|rfl|rfl|rfl|rfl|rfl|rfl<;>exact⟨_,rfl,rfl⟩
end
end Go.Vc.Z
namespace Go.Vc.Z
open Go Go.Vc Go.Proofs Go.RowKit Go.Pl Go.Lib
noncomputable section
set_option maxRecDepth 100000
attribute [local irreducible] inK Utf8.decode Utf8.encode Lib.itoa Pl.worth Pl.allDig
@[irreducible] def Gl(n:Int):Bool:=decide (0≤n)&&decide (n≤1000000)
@[irreducible] def Es(n:Int):Bool:=decide (-1000000000000≤n)&&decide (n≤1000000000000)
@[irreducible] def D2(n:Int):Bool:=decide (0≤n)&&decide (n≤1000000000000)
@[irreducible] def E7(n:Int):Bool:=decide (checkN n=0)
def pC:PC:=PC.fun fun|[.int .i64 n]=>some (True,.bool (sB (Es n)))|_=>none
theorem X5{W:World}(hW:Tabs W):GoodP (Fw W) Tryz.prog 207 pC:=by
 have hD:=Db hW
 have hC0:Ad (Fw W) Tryz.prog Bm:=(Dm hW)
 refine Be (D:=C4) (C:=Bm) (wr:=(fun _=>false)) rfl Aq hD hC0 Tryz.func207 (fun _ _=>none) ?_
 clear hC0 hD hW
 intro cs p r h hf hp
 split at h
 case h_2=>cases h
 rename_i n
 cases h
 try simp only[Bl,Cm,Ar,Go.Vc.lo,Go.Vc.hi,and_true] at hf
 (conv=>whnf)
 (repeat' ((first
  |(split<;>rename_i hh<;>(try simp only[wS] at hh))
  |fail)<;>(conv=>whnf)))
 all_goals (try (show _=_;simp only[wQ]))
 all_goals (try simp (disch:=omega) only[Int.tdiv_eq_ediv_of_nonneg,Int.tmod_eq_emod_of_nonneg]);all_goals (first|(simp_all[Cs,A9,Ap,Fj,C3,Bw,Es];done)|(simp_all[Cs,A9,Ap,Fj,C3,Bw,Es];omega))
def Gm:PT:=D1 [(207,pC)]
theorem Lw{W:World}(hW:Tabs W):Dj (Fw W) Tryz.prog Gm:=(Ae Tryz.call207 (X5 hW) A6)
end
end Go.Vc.Z
namespace Go.Vc.Z
open Go Go.Vc Go.Proofs Go.RowKit Go.Pl Go.Lib
noncomputable section
set_option maxRecDepth 100000
attribute [local irreducible] inK Utf8.decode Utf8.encode Lib.itoa Pl.worth Pl.allDig
def Du:Int→List Tax→Bool
 |_,[]=>true
 |least,x::t=>decide (least≤x.code)&&decide (x.code≤99)&&D2 x.amount&&Du (x.code+1) t
@[irreducible] def Dv(l:List Tax):Bool:=Du 1 l&&decide (l.length≤4)
end
end Go.Vc.Z
namespace Go.Vc.Z
open Go Go.Vc Go.Proofs Go.RowKit Go.Pl Go.Lib
noncomputable section
set_option maxRecDepth 100000
attribute [local irreducible] inK Utf8.decode Utf8.encode Lib.itoa Pl.worth Pl.allDig
end
end Go.Vc.Z
namespace Go.Vc.Z
open Go Go.Vc Go.Proofs Go.RowKit Go.Pl Go.Lib
noncomputable section
set_option maxRecDepth 100000
attribute [local irreducible] inK Utf8.decode Utf8.encode Lib.itoa Pl.worth Pl.allDig
theorem Ef{n:Int}(h:Gl n=true):0≤n∧n≤1000000:=by
 unfold Gl at h;simp at h;omega
end
end Go.Vc.Z
namespace Go.Vc.Z
open Go Go.Vc Go.Proofs Go.RowKit Go.Pl Go.Lib
noncomputable section
set_option maxRecDepth 100000
attribute [local irreducible] inK Utf8.decode Utf8.encode Lib.itoa Pl.worth Pl.allDig
end
end Go.Vc.Z
namespace Go.Vc.Z
open Go Go.Vc Go.Proofs Go.RowKit Go.Pl Go.Lib
noncomputable section
set_option maxRecDepth 100000
attribute [local irreducible] inK Utf8.decode Utf8.encode Lib.itoa Pl.worth Pl.allDig
@[irreducible] def Nc(c:Coupon)(s:Int):Bool:=
 decide (1≤c.flight)&&decide (c.flight≤9999)&&Gl c.day&&D2 c.value&&decide (c.status=s)&&decide (c.holder=0)&&decide (c.next=0)
theorem X6(k:Nat)(f d v s h x f' d' v' s' h' x':Int):eqA TY (k+3) 45 (.agg [.int .i64 f,.int .i64 d,.int .i64 v,.int .i64 s,.int .i64 h,.int .u64 x]) (.agg [.int .i64 f',.int .i64 d',.int .i64 v',.int .i64 s',.int .i64 h',.int .u64 x'])=some (f == f'&&(d == d'&&(v == v'&&(s == s'&&(h == h'&&x == x'))))):=by
 have e45:TY 45=some Cl:=rfl
 have e3:TY 3=some ty3:=rfl
 have e2:TY 2=some ty2:=rfl
 have e43:TY 43=some Ci:=rfl
 have e37:TY 37=some Ch:=rfl
 simp[eqA,xA,e45,e3,e2,e43,e37,Cl,ty3,ty2,Ci,Ch,La,Bw]
theorem Lg{k:Nat}{f d v s h x f' d' v' s' h' x':Int}{N:Bool→Prop}(hN:N (f == f'&&(d == d'&&(v == v'&&(s == s'&&(h == h'&&x == x')))))):Hb (eqA TY (k+3) 45 (.agg [.int .i64 f,.int .i64 d,.int .i64 v,.int .i64 s,.int .i64 h,.int .u64 x]) (.agg [.int .i64 f',.int .i64 d',.int .i64 v',.int .i64 s',.int .i64 h',.int .u64 x'])) N:=by
 rw[X6];exact hN
def cellOf(H:List Blk)(p k:Nat):Option AV:=match H[p]? with|some (.var cs _)=>cs[k]? |_=>none
def Dc(g:Bool)(lo n hi:Int):Bool:=g&&(leI lo n&&leI n hi)
theorem Cy{g:Bool}{lo n hi:Int}(h:n<lo):false=Dc g lo n hi:=by
 unfold Dc;rw[C3,decide_eq_false (by omega)];simp
theorem Cz{lo n hi:Int}(h:lo≤n):leI n hi=Dc true lo n hi:=by
 unfold Dc;rw[C3 lo,decide_eq_true h];simp
theorem rS{TY:TypeId→Option TI}{C:FuncId→Option Ctr}{D:PT}{wr:Tmp→Bool}{L:List AV→List Blk→Nat→Option LR}{fn:Func}{H:List Blk}{Q:AV→List Blk→Prop}{p q j:Nat}{sz lo hi n:Int}{g:Bool}(hg:cellOf H p 2=some (.bool g))(hn:cellOf H q j=some (.int .i64 n))
  (h1:fnE TY C D wr (L [.ptr p 0,.ptr q j,.int .i64 sz,.int .i64 lo,.int .i64 hi] H) fn [.ptr p 0,.ptr q j,.int .i64 sz,.int .i64 lo,.int .i64 hi] H (fun c H'=>c= .tup []∧∃ b,b=Dc g lo n hi∧H'=setCell (setCell H p 2 (.bool b)) q j (.int .i64 0)))
  (h2:Q (.tup []) (setCell (setCell H p 2 (.bool (sB (Dc g lo n hi)))) q j (.int .i64 0))):P9 TY C D wr L fn [.ptr p 0,.ptr q j,.int .i64 sz,.int .i64 lo,.int .i64 hi] H Q:=
 Aes _ p 2 q j _ _ h1 h2
end
end Go.Vc.Z
namespace Go.Vc.Z
open Go Go.Vc Go.Proofs Go.RowKit Go.Pl Go.Lib
noncomputable section
set_option maxRecDepth 100000
attribute [local irreducible] inK Utf8.decode Utf8.encode Lib.itoa Pl.worth Pl.allDig
end
end Go.Vc.Z
namespace Go.Vc.Z
open Go Go.Vc Go.Proofs Go.RowKit Go.Pl Go.Lib
noncomputable section
set_option maxRecDepth 100000
attribute [local irreducible] inK Utf8.decode Utf8.encode Lib.itoa Pl.worth Pl.allDig
end
end Go.Vc.Z
namespace Go.Vc.Z
open Go Go.Vc Go.Proofs Go.RowKit Go.Pl Go.Lib
noncomputable section
set_option maxRecDepth 100000
attribute [local irreducible] inK Utf8.decode Utf8.encode Lib.itoa Pl.worth Pl.allDig
@[irreducible] def Fs(s:List UInt8):Bool:=allDig s&&(s == [48] || (s != []&&s.getD 0 0 != 48))
theorem yG{s:List UInt8}(h:Fs s=true):allDig s=true∧s≠[]∧(∀ t,s=48::t→t=[]):=by
 unfold Fs at h
 simp only[Bool.and_eq_true,Bool.or_eq_true,beq_iff_eq,bne_iff_ne] at h
 obtain⟨h1,h2⟩:=h
 refine⟨h1,?_,?_⟩
 ·rcases h2 with rfl|⟨h2,_⟩
  ·simp
  ·exact h2
 ·rintro t rfl
  rcases h2 with h2|⟨_,h2⟩
  ·simpa using h2
  ·exact absurd rfl h2
@[irreducible] def Ft(s:List UInt8)(m:Int):Int × Int:=if Fs s=true then(if m<(worth s:Int) then(0,5) else((worth s:Int),0)) else(0,4)
def eM:PC:=PC.fun fun|[.str s,.int .u64 m]=>some (True,.tup [.int .u64 (sI (Ft s m).1),.int .i64 (sI (Ft s m).2)])|_=>none
def Rb(c b:Int):Int:=if 48≤c∧c≤57 then(if c - 48≥b then -1 else c - 48) else if 97≤c∧c≤102 then(if c - 87≥b then -1 else c - 87) else -1
def Am1:PC:=PC.fun fun|[.int .i32 c,.int .i64 b]=>some (2≤b,.int .i64 (sI (Rb c b)))|_=>none
theorem pD{W:World}(hW:Tabs W):GoodP (Fw W) Tryz.prog 242 Am1:=by
 have hD:=Db hW
 have hC0:Ad (Fw W) Tryz.prog Bm:=(Dm hW)
 refine Be (D:=C4) (C:=Bm) (wr:=(fun _=>false)) rfl Aq hD hC0 Tryz.func242 (fun _ _=>none) ?_
 clear hC0 hD hW
 intro cs p r h hf hp
 split at h
 case h_2=>cases h
 rename_i c b
 cases h
 try simp only[Bl,Cm,Ar,Go.Vc.lo,Go.Vc.hi,and_true] at hf
 (conv=>whnf)
 (repeat' ((first
  |((with_reducible refine aI ?_ ?_);focus (first|with_reducible rfl|omega|exact tK))
  |(split<;>rename_i hh<;>(try simp only[wS] at hh))
  |fail)<;>(conv=>whnf)))
 all_goals (try (show _=_;simp only[wQ]))
 all_goals (unfold Rb;repeat' split)<;>omega
end
end Go.Vc.Z
