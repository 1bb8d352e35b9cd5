/- What comes al an argument, read as data: of which abstract values its cells are. -/
import Derived.Test.YtpmpclbdnakniaaGreatDoorV9
import Derived.ChangeArms
import Derived.ChangeStays
import Derived.ChangeSame
import Derived.ChangeAgain
import Derived.RowKit3
import Derived.Lib.LaidTab
import Derived.Lib.ItoaNum
import GoSem.Core.Utf8
set_option linter.all false
set_option linter.unusedVariables false
set_option linter.unusedSimpArgs false
namespace Go.Vc
open Go
def CV(W:World)(al:List AV)(cs:List Value):Prop:=
 al.length=cs.length∧∀ (i:Nat) (c:AV) (v:Value),al[i]? =some c→cs[i]? =some v→V (fun _=>none) (fun b=>b<W.heap.size) W c v
theorem CV.nil{W:World}{cs:List Value}{n:Nat}(h:cs.length=n):CV W [] (cs.drop n):=by
 refine⟨by simp[h],fun i c v h1=>by simp at h1⟩
theorem CV.app{W:World}{a b:List AV}{x y:List Value}(h:CV W a x)(k:CV W b y):CV W (a++b) (x++y):=by
 refine⟨by simp[h.1,k.1],fun i c v hc hv=>?_⟩
 by_cases hi:i<a.length
 ·rw[List.getElem?_append_left hi] at hc
  rw[List.getElem?_append_left (by rw[←h.1];exact hi)] at hv
  exact h.2 i c v hc hv
 ·rw[List.getElem?_append_right (by omega)] at hc
  rw[List.getElem?_append_right (by rw[←h.1];omega)] at hv
  rw[←h.1] at hv
  exact k.2 _ c v hc hv
theorem CV.step{W:World}{a b:List AV}{cs:List Value}{o s:Nat}(h:CV W a ((cs.drop o).take s))(k:CV W b (cs.drop (o+s))):CV W (a++b) (cs.drop o):=by
 have:=h.app k
 rw[←List.drop_drop,List.take_append_drop] at this
 exact this
theorem CV.one{W:World}{a:AV}{v:Value}(h:V (fun _=>none) (fun b=>b<W.heap.size) W a v):CV W [a] [v]:=by
 refine⟨rfl,fun i c v' hc hv=>?_⟩
 cases i with
 |zero=>simp at hc hv;rw[←hc,←hv];exact h
 |succ i=>simp at hc
def Dec(P:Program)(t:TypeId){α:Type}(ec:α→List AV):Prop:=
 ∀ {H:Type} (enc:TypeId × Value→H) (W:World) (fuel:Nat) (cs:List Value) (x:DataW H × List MemPlace),DataW.trod enc P W 0 (fun _=>true) true fuel t cs=some x→∃ a,CV W (ec a) cs
section
variable {P : Program}
theorem Si{t:TypeId}{i:TI}(h:A6 P t=some i):∃ d,P.underlying t=some d∧TK.of d=i.kind∧P.cellsOf t=i.size:=by
 unfold A6 at h
 split at h
 ·rename_i info d h1 h2
  cases h
  exact⟨d,h2,rfl,by simp[Program.cellsOf,h1]⟩
 ·cases h
theorem Aqc{t:TypeId}{i:TI}{k:IntKind}(h:A6 P t=some i)(hk:i.kind= .int k):P.underlying t=some (.int k):=by
 obtain⟨d,h1,h2,_⟩:=Si h
 rw[hk] at h2
 cases d<;>simp[TK.of] at h2
 ·rw[h1,h2]
 ·split at h2<;>cases h2
theorem Ami{t:TypeId}{i:TI}(h:A6 P t=some i)(hk:i.kind= .bool):P.underlying t=some .bool:=by
 obtain⟨d,h1,h2,_⟩:=Si h
 rw[hk] at h2
 cases d<;>simp[TK.of] at h2
 ·exact h1
 ·split at h2<;>cases h2
theorem Aqd{t:TypeId}{i:TI}(h:A6 P t=some i)(hk:i.kind= .str):P.underlying t=some .string:=by
 obtain⟨d,h1,h2,_⟩:=Si h
 rw[hk] at h2
 cases d<;>simp[TK.of] at h2
 ·exact h1
 ·split at h2<;>cases h2
theorem pP{t e:TypeId}{i:TI}(h:A6 P t=some i)(hk:i.kind= .slice e):P.underlying t=some (.slice e):=by
 obtain⟨d,h1,h2,_⟩:=Si h
 rw[hk] at h2
 cases d<;>simp[TK.of] at h2
 ·rw[h1,h2]
 ·split at h2<;>cases h2
theorem fB{t:TypeId}{i:TI}{fs:List (Nat × TypeId)}(h:A6 P t=some i)(hk:i.kind= .struct fs):
  ∃ gs:Array Field,P.underlying t=some (.struct gs)∧(gs.toList.map fun f=>(f.offset,f.type))=fs:=by
 obtain⟨d,h1,h2,_⟩:=Si h
 rw[hk] at h2
 cases d<;>simp only[TK.of] at h2<;>try (cases h2;done)
 rename_i gs
 split at h2
 ·cases h2
 ·simp only[TK.struct.injEq] at h2
  exact⟨gs,h1,h2⟩
theorem Db{t:TypeId}{i:TI}{k:IntKind}(h:A6 P t=some i)(hk:i.kind= .int k):Dec P t (fun n:Int=>[.int k n]):=by
 intro H enc W fuel cs x hx
 obtain⟨n,rfl,_,hw⟩:=DataW.trod_int (Aqc h hk) hx
 simp only[Lit.wf,Bool.and_eq_true,decide_eq_true_eq] at hw
 exact⟨n,CV.one (.int k n hw.1 hw.2)⟩
theorem Amj{t:TypeId}{i:TI}(h:A6 P t=some i)(hk:i.kind= .bool):Dec P t (fun b:Bool=>[.bool b]):=by
 intro H enc W fuel cs x hx
 obtain⟨b,rfl,_⟩:=DataW.trod_bool (Ami h hk) hx
 exact⟨b,CV.one (.bool b)⟩
theorem Ahe{t:TypeId}{i:TI}(h:A6 P t=some i)(hk:i.kind= .str):Dec P t (fun s:List UInt8=>[.str s]):=by
 intro H enc W fuel cs x hx
 obtain⟨s,rfl,_,hs⟩:=DataW.trod_string (Aqd h hk) hx
 exact⟨s.data.toList,CV.one (.str _ s rfl (by simpa using hs))⟩
theorem pQ{W:World}{a:Addr}{n:Nat}{cs:List Value}(h:W.cells? 0 a n=some cs):cs.length=n∧∀ j,j<n→W.cell? (a.add j)=cs[j]? :=by
 unfold World.cells? at h
 rw[if_pos (Nat.zero_le _)] at h
 exact⟨by simpa using mapM_some_length h,fun j hj=>mapM_some_get h j j (by simp[hj])⟩
theorem Ajz{W:World}{a:Addr}{v:Value}(h:W.cell? a=some v):a.spot=none:=by
 cases hsp:a.spot with
 |none=>rfl
 |some s=>
  simp only[World.cell?] at h
  split at h
  ·simp[hsp] at h
  ·cases h
theorem add_add{b o i j:Nat}:((⟨b,o,none⟩:Addr).add i).add j=⟨b,o+i+j,none⟩:=by
 unfold Addr.add
 by_cases hi:i=0<;>by_cases hj:j=0<;>simp[hi,hj]<;>omega
theorem Aj0{l:List AV}{q:Nat}{c:AV}(h:l[q]? =some c):q<l.length:=by
 rcases Nat.lt_or_ge q l.length with h'|h'
 ·exact h'
 ·rw[List.getElem?_eq_none h'] at h;cases h
theorem Pr{t e:TypeId}{i j:TI}{sz:Nat}{α:Type}[Inhabited α]{ec:α→List AV}(h:A6 P t=some i)(hk:i.kind= .slice e)(hj:A6 P e=some j)(hsz:j.size=sz)(h0:0<sz)(hd:Dec P e ec):
  Dec P t (fun l:List α=>[.sl false sz l.length (fun n=>ec (l.getD n default))]):=by
 intro H enc W fuel cs x hx
 obtain⟨_,_,_,hcells⟩:=Si hj
 rw[hsz] at hcells
 rcases DataW.trod_slice (pP h hk) hx with ⟨rfl,_⟩|⟨a,len,cap,elems,rest,n,rfl,rfl,rfl,_,hl,hm,hel,he,hr,_⟩
 ·exact⟨[],CV.one (.sln false sz _ none)⟩
 rw[hcells] at he hr
 have hr:=hr rfl
 rcases Nat.eq_zero_or_pos cap with hc0|hc0
 ·subst hc0
  obtain rfl:len=0:=by omega
  exact⟨[],CV.one (.sln false sz _ (some a))⟩
 have hspot:a.spot=none:=by
  have:∃ y,(W.cells? 0 (a.add (0*sz)) sz).bind (DataW.trod enc P W 0 (fun _=>true) true n e)=some y:=by
   rcases Nat.eq_zero_or_pos len with hl0|hl0
   ·subst hl0
    have h1:=hr.2 0 (by omega)
    rw[Nat.add_zero] at h1
    rw[h1]
    exact⟨_,List.getElem?_eq_getElem (by rw[hr.1];omega)⟩
   ·rw[he 0 hl0]
    exact⟨_,List.getElem?_eq_getElem (by rw[hel];omega)⟩
  obtain⟨y,hy⟩:=this
  rw[Option.bind_eq_some_iff] at hy
  obtain⟨cs',hcs',_⟩:=hy
  obtain⟨h1,h2⟩:=pQ hcs'
  have h3:=h2 0 h0
  rw[List.getElem?_eq_getElem (by omega)] at h3
  have h4:=Ajz h3
  simpa[Addr.add] using h4
 obtain⟨b,o,sp⟩:=a
 obtain rfl:sp=none:=hspot
 have each:∀ m,∃ a:α,m<len→b<W.heap.size∧∃ csm:List Value,csm.length=sz∧(∀ q,q<sz→W.cell? ⟨b,o+m*sz+q,none⟩=csm[q]?)∧CV W (ec a) csm:=by
  intro m
  by_cases hm:m<len
  ·have h1:=he m hm
   rw[List.getElem?_eq_getElem (by omega)] at h1
   rw[Option.bind_eq_some_iff] at h1
   obtain⟨csm,h2,h3⟩:=h1
   obtain⟨h4,h5⟩:=pQ h2
   obtain⟨a,ha⟩:=hd enc W n csm _ h3
   have hb:=World.cells?_block h2 h0
   refine⟨a,fun _=>⟨?_,csm,h4,fun q hq=>?_,ha⟩⟩
   ·unfold Addr.add at hb
    split at hb<;>exact hb
   ·rw[←h5 q hq,add_add]
  ·exact⟨default,fun h=>absurd h hm⟩
 obtain⟨f,hf⟩:=Classical.axiomOfChoice each
 refine⟨(List.range len).map f,CV.one ?_⟩
 have hget:∀ m,m<len→((List.range len).map f).getD m default=f m:=by
  intro m hm
  simp[List.getD,List.getElem?_map,List.getElem?_range hm]
 have hlen:((List.range len).map f).length=len:=by simp
 rw[hlen]
 refine .sl false sz len _ b o cap (fun m q=>(W.cell? ⟨b,o+m*sz+q,none⟩).getD .nilIface) (fun hp=>?_) hl hm (fun h=>by cases h) (fun m hm=>?_) (fun m q hm hq=>?_) (fun m q c hm hc=>?_)
 ·exact⟨(hf 0 hp).1,(hf 0 hp).1⟩
 ·obtain⟨_,csm,h1,_,h2⟩:=hf m hm
  show(ec (((List.range len).map f).getD m default)).length=sz
  rw[hget m hm,h2.1,h1]
 ·obtain⟨_,csm,h1,h2,_⟩:=hf m hm
  rw[h2 q hq,List.getElem?_eq_getElem (by omega)]
  rfl
 ·obtain⟨_,csm,h1,h2,h3⟩:=hf m hm
  have hc:(ec (f m))[q]? =some c:=by rw[←hget m hm];exact hc
  have hq:q<sz:=by
   have:=Aj0 hc
   rw[h3.1,h1] at this
   exact this
  rw[h2 q hq,List.getElem?_eq_getElem (by omega)]
  exact h3.2 q c _ hc (List.getElem?_eq_getElem (by omega))
theorem H0{t:TypeId}{i:TI}{fs:List (Nat × TypeId)}(h:A6 P t=some i)(hk:i.kind= .struct fs){H:Type}{enc:TypeId × Value→H}{W:World}{fuel:Nat}{cs:List Value}{x:DataW H × List MemPlace}
  (hx:DataW.trod enc P W 0 (fun _=>true) true fuel t cs=some x):
  cs.length=i.size∧∀ (n o s:Nat) (ft:TypeId) (j:TI) {α:Type} {ec:α→List AV},fs[n]? =some (o,ft)→A6 P ft=some j→j.size=s→Dec P ft ec→∃ a,CV W (ec a) ((cs.drop o).take s):=by
 obtain⟨gs,h1,h2⟩:=fB h hk
 obtain⟨_,_,_,hcells⟩:=Si h
 obtain⟨xs,m,rfl,rfl,hl,hlen,hf⟩:=DataW.trod_struct h1 hx
 refine⟨hl.trans hcells,fun n o s ft j α ec hn hj hs hd=>?_⟩
 obtain⟨_,_,_,hcj⟩:=Si hj
 subst h2
 rw[List.getElem?_map,Option.map_eq_some_iff] at hn
 obtain⟨f,hf1,hf2⟩:=hn
 cases hf2
 rw[Array.getElem?_toList] at hf1
 have h3:=hf n f hf1
 have hn:n<gs.size:=by
  rcases Nat.lt_or_ge n gs.size with h'|h'
  ·exact h'
  ·rw[Array.getElem?_eq_none h'] at hf1;cases hf1
 rw[List.getElem?_eq_getElem (by omega),hcj,hs] at h3
 exact hd enc W m _ _ h3
end
structure Kept (W W':World):Prop where
 same:∀ b,b<W.heap.size→W'.heap[b]? =W.heap[b]?
 size:W.heap.size≤W'.heap.size
 os:W'.os=W.os
 output:W'.output=W.output
theorem Kept.but{W W':World}(h:Kept W W')(may:MemPlace→Prop):W.keptBut W' may:=by
 refine⟨h.os,h.output,fun i hi=>?_⟩
 rw[h.same i hi]
 exact(World.keptBut_refl W may).2.2 i hi
theorem Kept.frozen{W W':World}(h:Kept W W'){a:Addr}(ha:a.block<W.heap.size):W'.frozen? a=W.frozen? a:=by
 simp only[World.frozen?,h.same _ ha]
theorem Kept.at_{W W':World}(h:Kept W W'){p:MemPlace}(hp:p.block<W.heap.size):W.sameAt W' p:=by
 cases p with
 |cell b off=>exact Y0 (h.same b hp)
 |map b=>exact h.same b hp
def Ob(P:Program):Bool:=(List.range P.types.size).all fun t=>match P.underlying t with
 |some (.slice e)=>decide (0<P.cellsOf e)
 |_=>true
theorem Aj1{P:Program}(h:Ob P=true):∀ {t e:TypeId},t<P.types.size→P.underlying t=some (.slice e)→0<P.cellsOf e:=by
 intro t e ht hu
 have:=List.all_eq_true.1 h t (by simpa using ht)
 rw[hu] at this
 simpa using this
section
variable {P : Program} {H : Type} {enc : TypeId × Value → H} {W W' : World}
theorem Xk(K:Kids P (·<P.types.size))(hz:Ob P=true)(hk:Kept W W'){sp:Nat→Bool}:
  ∀ {ts:List TypeId} {vs:List Value} {ds:List (DataW H)} {p:List MemPlace},(∀ t ∈ ts,t<P.types.size)→DataW.TrodAll enc P W 0 (fun _=>true) true ts vs ds p→(∀ q ∈ p,sp q.block=true)→
   DataW.TrodAll enc P W' 0 sp true ts vs ds p
 |[],vs,ds,p,_,h,_=>by
  obtain⟨rfl,rfl,rfl⟩:=ChangeShapes.trodAll_nil h
  exact ChangeShapes.trodAll_mk0
 |t::ts,vs,ds,p,ht,h,hs=>by
  obtain⟨v,vs',d,ds',a,b,rfl,rfl,rfl,⟨fuel,h1⟩,h2⟩:=ChangeShapes.trodAll_cons h
  refine⟨a,b,⟨fuel,?_⟩,Xk K hz hk (fun t h=>ht t (List.mem_cons_of_mem _ h)) h2 (fun q hq=>hs q (List.mem_append_right _ hq)),rfl⟩
  exact DataW.trod_stays K (fun h1 h2=>Aj1 hz h1 h2) (fun h=>by cases h) (ht t (List.mem_cons_self ..)) h1
   (fun q hq=>hk.at_ (DataW.trod_lt fuel t _ _ h1 q hq)) (fun q hq=>hs q (List.mem_append_left _ hq))
theorem Amk{f:Func}{s:ChangeSpec}{args:Array Value}{ds gs:List (DataW H)}{before:List MemPlace}{fresh handsOn again:Bool}{t:TypeId}
  (K:Kids P (·<P.types.size)) (hz:Ob P=true) (hv0:s.vars=[]) (hp:∀ t ∈ f.params.toList,t<P.types.size) (hr:f.resultTypes=#[t]) (ht:P.underlying t=some .bool)
  (hW:DataW.Whole enc P f.params.toList s.vars false W args.toList ds gs before) (hfn:s.fn H (ds++gs)={ results:=[.lit (.bool true)],args:=ds,vars:=gs })
  (hk:Kept W W'):s.post enc P f false fresh handsOn again W args (.bool true) W':=by
 obtain⟨p,q,hA,hV,rfl,hfz,_⟩:=id hW
 rw[hv0] at hV
 obtain⟨rfl,rfl⟩:=ChangeShapes.trodVars_none hV
 have hlt:=hW.lt
 simp only[List.append_nil] at hlt hfz
 have hargs:∀ sp:Nat→Bool,(∀ q ∈ p,sp q.block=true)→DataW.TrodAll enc P W' 0 sp true f.params.toList args.toList ds p:=fun sp hs=>Xk K hz hk hp hA hs
 have hres:∀ (b:Nat) (sp:Nat→Bool) (hd:Bool),DataW.TrodAll enc P W' b sp hd f.resultTypes.toList ((Value.bool true).resultList f.resultTypes.size) [.lit (.bool true)] []:=by
  intro b sp hd
  rw[hr]
  exact ChangeShapes.trodAll_mk1 (RowKit.shut_bool ht true)
 have hvars:∀ sp:Nat→Bool,DataW.TrodVars enc P W' sp s.vars [] []:=by
  intro sp
  rw[hv0]
  rfl
 have h0:∀ q ∈ p,decide (q.block<W.heap.size)=true:=fun q hq=>by simpa using hlt q hq
 refine⟨ds,[],p++[],[],p,[],hW,?_,?_,?_,?_,fun _=>⟨RowKit.ok_one hr rfl (RowKit.okWide_bool_mk ht true),.lit (.bool true)::ds,[],p,⟨p,[],?_,hvars _,by simp,?_,fun h=>by cases h⟩,?_⟩⟩
 ·rw[hfn];exact hres _ _ _
 ·rw[hfn];exact hargs _ h0
 ·rw[hfn];exact hvars _
 ·exact World.keptBut_mono (fun _ f=>f.elim) (hk.but fun _=>False)
 ·exact ChangeShapes.trodAll_append (hargs _ fun _ _=>rfl) (hres _ _ _)
 ·intro b off hb
  rw[hk.frozen (a:=⟨b,off,none⟩) (hlt _ hb)]
  exact hfz b off hb
 ·intro q hq _
  simpa using hq
theorem Aj2{F:Nat→Obj→Prop}{f:FuncId}{α:Type}{args:α→List AV}{pre:α→Prop}{res:α→AV}(hF:∀ b o,F b o→W.heap[b]? =some o)(hG:GoodP F P f (PC.of args pre res)){vs:Array Value}{x:α}(hx:pre x)
  (hv:CV W (args x) vs.toList):Calls P f vs W fun e w'=>∃ v S',e= .returned v∧V (fun _=>none) S' w' (res x) v∧Kept W w':=by
 have hs:Sok F (fun b=>b<W.heap.size) W:=⟨fun b h=>h,fun b o h=>⟨lt_of_some (hF b o h),hF b o h⟩⟩
 have hv':VL (fun _=>none) (fun b=>b<W.heap.size) W (args x) vs:=⟨by simpa using hv.1,fun i c v hc hi=>hv.2 i c v hc (by simpa using hi)⟩
 refine(hG _ W (args x) vs (fun c=>c=res x) hs hv' ⟨x,hx,Ac _,rfl⟩).mono ?_
 rintro e w' ⟨v,c,S',rfl,rfl,h1,h2,_⟩
 exact⟨v,S',rfl,h1,fun b hb=>h2.same b hb (.inl hb),h2.size,h2.os,h2.output⟩
theorem Af2{r:Go.Reach}{b0:Nat}{t:TypeId}{i:TI}{fs:List (Nat × TypeId)}{v:Value}{d:DataW H}{ps:List MemPlace}{α:Type}{ec:α→List AV}(h:A6 P t=some i)(hk:i.kind= .struct fs)(hdc:Dec P t ec)
  (hval:Value.okWide P W r b0 t v) (hd:DataW.Trod enc P W 0 (fun _=>true) true t v d ps):∃ a:α,V (fun _=>none) (fun b=>b<W.heap.size) W (.agg (ec a)) v:=by
 obtain⟨gs,h1,_⟩:=fB h hk
 obtain⟨cs,rfl,_⟩:=WideShapes.okWide_struct h1 hval
 obtain⟨fuel,hf⟩:=hd
 obtain⟨a,ha⟩:=hdc enc W fuel _ _ hf
 exact⟨a,.agg _ cs (by simpa[Value.cells] using ha.1) fun i c v hc hv=>ha.2 i c v hc (by simpa[Value.cells] using hv)⟩
theorem Aj3{r:Go.Reach}{b0:Nat}{t e:TypeId}{i:TI}{v:Value}{d:DataW H}{ps:List MemPlace}{α:Type}{ec:α→AV}(h:A6 P t=some i)(hk:i.kind= .slice e)(hdc:Dec P t (fun a=>[ec a]))
  (hval:Value.okWide P W r b0 t v) (hd:DataW.Trod enc P W 0 (fun _=>true) true t v d ps):∃ a:α,V (fun _=>none) (fun b=>b<W.heap.size) W (ec a) v:=by
 obtain⟨fuel,hf⟩:=hd
 obtain⟨a,ha⟩:=hdc enc W fuel _ _ hf
 have hu:=pP h hk
 have hv:v.cells.toList=[v]:=by
  simp only[Value.okWide,hu,Cell.okWide] at hval
  cases v<;>simp_all[Cell.ok,Value.cells]
 rw[hv] at ha
 exact⟨a,ha.2 0 _ _ rfl rfl⟩
theorem CV.cons{a:AV}{al:List AV}{v:Value}{vs:List Value}(h:V (fun _=>none) (fun b=>b<W.heap.size) W a v)(k:CV W al vs):CV W (a::al) (v::vs):=(CV.one h).app k
theorem CV.none:CV W [] []:=⟨rfl,fun i c v h=>by simp at h⟩
end
end Go.Vc
namespace Go.Vc.Z
open Go Go.Vc Go.Proofs
theorem Aqe:Dec Tryz.prog 45 Coupon.enc:=by
 intro H enc W fuel cs x hx
 obtain⟨hl,hf⟩:=H0 Awm rfl hx
 obtain⟨a0,h0⟩:=hf 0 0 1 3 ty3 rfl ok3 rfl (Db ok3 rfl)
 obtain⟨a1,h1⟩:=hf 1 1 1 3 ty3 rfl ok3 rfl (Db ok3 rfl)
 obtain⟨a2,h2⟩:=hf 2 2 1 2 ty2 rfl ok2 rfl (Db ok2 rfl)
 obtain⟨a3,h3⟩:=hf 3 3 1 43 Cp rfl Ama rfl (Db Ama rfl)
 obtain⟨a4,h4⟩:=hf 4 4 1 3 ty3 rfl ok3 rfl (Db ok3 rfl)
 obtain⟨a5,h5⟩:=hf 5 5 1 37 Co rfl Al9 rfl (Db Al9 rfl)
 exact⟨⟨a0,a1,a2,a3,a4,a5⟩,h0.step (h1.step (h2.step (h3.step (h4.step (h5.step (CV.nil hl))))))⟩
theorem A4i:Dec Tryz.prog 113 Tax.enc:=by
 intro H enc W fuel cs x hx
 obtain⟨hl,hf⟩:=H0 Amc rfl hx
 obtain⟨a0,h0⟩:=hf 0 0 1 3 ty3 rfl ok3 rfl (Db ok3 rfl)
 obtain⟨a1,h1⟩:=hf 1 1 1 2 ty2 rfl ok2 rfl (Db ok2 rfl)
 exact⟨⟨a0,a1⟩,h0.step (h1.step (CV.nil hl))⟩
end Go.Vc.Z
namespace Go.Vc
open Go Go.Proofs
noncomputable def Aqf : Nat := (Tryz.prog.globalNamed "internal/strconv.uint64pow10").getD 0
def Fw(W:World):Nat→Obj→Prop:=fun b o=>W.heap[b]? =some o
def Tabs (W : World) : Prop := Lib.TabIs Tryz.prog W "internal/strconv.uint64pow10" .u64 Lib.pow10Tab ∧ W.ShapedOpen Tryz.prog
theorem Aqg : Tryz.prog.globalNamed "internal/strconv.uint64pow10" = some Aqf := by
 have h : (Tryz.prog.globalNamed "internal/strconv.uint64pow10").isSome = true := by kernel_rfl
 unfold Aqf
 cases hg : Tryz.prog.globalNamed "internal/strconv.uint64pow10" with
 |none=>rw[hg] at h;cases h
 |some g=>rfl
theorem Tabs.pow {W : World} (hW : Tabs W) {S : Nat → Prop} {w : World} (hs : Sok (Fw W) S w) : Lib.TabIs Tryz.prog w "internal/strconv.uint64pow10" .u64 Lib.pow10Tab := by
 replace hW:=hW.1
 unfold Lib.TabIs World.var? at hW
 unfold Lib.TabIs World.var?
 rw[Aqg] at hW ⊢
 simp only[Option.bind_some] at hW ⊢
 cases hg:W.heap[Aqf]? with
 |none=>rw[hg] at hW;cases hW
 |some o=>
  rw[(hs.st Aqf o hg).2]
  rw[hg] at hW
  exact hW
theorem Fw.cell{W:World}{S:Nat→Prop}{w:World}(hs:Sok (Fw W) S w){b o:Nat}{v:Value}(h:W.cell? ⟨b,o,none⟩=some v):w.cell? ⟨b,o,none⟩=some v:=by
 cases hg:W.heap[b]? with
 |none=>simp only[World.cell?,hg] at h;cases h
 |some ob=>
  have:=(hs.st b ob hg).2
  simp only[World.cell?,this]
  simpa only[World.cell?,hg] using h
end Go.Vc
namespace Go.Pl
open Go Go.Lib
theorem yV{α:Type}{P:List α→Prop}(h0:P [])(h1:∀ s c,P s→P (s++[c]))(s:List α):P s:=by
 have:∀ t:List α,P t.reverse:=by
  intro t
  induction t with
  |nil=>exact h0
  |cons c t ih=>rw[List.reverse_cons];exact h1 _ _ ih
 have h:=this s.reverse
 rwa[List.reverse_reverse] at h
def worth(s:List UInt8):Nat:=s.foldl (fun n c=>10*n+(c.toNat - 48)) 0
def fE(c:UInt8):Bool:=decide (48≤c.toNat)&&decide (c.toNat≤57)
def allDig(s:List UInt8):Bool:=s.all fE
theorem Ps{c:UInt8}:fE c=true↔48≤c.toNat∧c.toNat≤57:=by simp[fE]
theorem Dw{s:List UInt8}:allDig s=true↔∀ c ∈ s,48≤c.toNat∧c.toNat≤57:=by simp[allDig,fE]
theorem pR:worth []=0:=rfl
theorem J5(s:List UInt8)(c:UInt8):worth (s++[c])=10*worth s+(c.toNat - 48):=by simp[worth]
theorem Af3(s:List UInt8):∀ n,s.foldl (fun n c=>10*n+(c.toNat - 48)) n=n*10 ^ s.length+worth s:=by
 induction s using yV with
 |h0=>intro n;simp[worth]
 |h1 s c ih=>
  intro n
  rw[List.foldl_append,ih,J5]
  simp only[List.foldl_cons,List.foldl_nil,List.length_append,List.length_singleton,Nat.pow_succ]
  rw[Nat.mul_add,Nat.mul_comm 10 (n*10 ^ s.length),Nat.mul_assoc]
  omega
theorem yW(s t:List UInt8):worth (s++t)=worth s*10 ^ t.length+worth t:=by
 rw[←Af3 t (worth s)]
 simp[worth]
theorem V5(c:UInt8)(t:List UInt8):worth (c::t)=(c.toNat - 48)*10 ^ t.length+worth t:=by
 have:=yW [c] t
 simpa[worth] using this
theorem Pt{s:List UInt8}(h:allDig s=true):worth s<10 ^ s.length:=by
 induction s using yV with
 |h0=>simp[worth]
 |h1 s c ih=>
  simp only[allDig,List.all_append,Bool.and_eq_true] at h
  have h1:=ih h.1
  have h2:=Ps.1 (by simpa using h.2)
  rw[J5,List.length_append,List.length_singleton,Nat.pow_succ]
  omega
theorem J6(u:Nat):(UInt8.ofNat (48+u % 10)).toNat=48+u % 10:=by
 rw[UInt8.toNat_ofNat']
 have:u % 10<10:=Nat.mod_lt _ (by omega)
 omega
theorem Ik{u:Nat}(h:u<10):decDigits u=[UInt8.ofNat (48+u % 10)]:=by
 rw[decDigits,dif_pos h,Nat.mod_eq_of_lt h]
theorem T8{u:Nat}(h:10≤u):decDigits u=decDigits (u / 10)++[UInt8.ofNat (48+u % 10)]:=by
 rw[decDigits,dif_neg (by omega)]
theorem yX(u:Nat):decDigits u≠[]:=by
 rw[decDigits];split<;>simp
theorem F3(u:Nat):worth (decDigits u)=u:=by
 induction u using Nat.strongRecOn with
 |_ u ih=>
  by_cases h:u<10
  ·rw[Ik h]
   have:=J5 [] (UInt8.ofNat (48+u % 10))
   rw[List.nil_append] at this
   rw[this,J6,pR];omega
  ·rw[T8 (by omega),J5,ih (u / 10) (by omega),J6];omega
theorem bD(s:List UInt8)(u:Nat):allDig (s++[UInt8.ofNat (48+u % 10)])=allDig s:=by
 simp only[allDig,List.all_append,List.all_cons,List.all_nil,Bool.and_true]
 have:fE (UInt8.ofNat (48+u % 10))=true:=Ps.2 (by rw[J6];omega)
 rw[this,Bool.and_true]
theorem Ed(u:Nat):allDig (decDigits u)=true:=by
 induction u using Nat.strongRecOn with
 |_ u ih=>
  by_cases h:u<10
  ·rw[Ik h];exact bD [] u
  ·rw[T8 (by omega),bD];exact ih _ (by omega)
theorem Aml(u:Nat)(h:0<u):∃ c t,decDigits u=c::t∧49≤c.toNat∧c.toNat≤57:=by
 induction u using Nat.strongRecOn with
 |_ u ih=>
  by_cases h1:u<10
  ·rw[Ik h1];exact⟨_,_,rfl,by rw[J6];omega,by rw[J6];omega⟩
  ·obtain⟨c,t,h2,h3⟩:=ih (u / 10) (by omega) (by omega)
   rw[T8 (by omega),h2];exact⟨c,_,rfl,h3⟩
theorem Aj4{s:List UInt8}(h:allDig s=true):s≠[]→(∀ t,s=48::t→t=[])→decDigits (worth s)=s:=by
 induction s using yV with
 |h0=>intro h;exact absurd rfl h
 |h1 s c ih=>
  intro _ hz
  simp only[allDig,List.all_append,Bool.and_eq_true] at h
  have hc:=Ps.1 (by simpa using h.2)
  have hcc:UInt8.ofNat (48+(c.toNat - 48))=c:=by rw[show 48+(c.toNat - 48)=c.toNat by omega];simp
  rw[J5]
  by_cases hs:s=[]
  ·subst hs
   rw[pR,Ik (by omega),show(10*0+(c.toNat - 48)) % 10=c.toNat - 48 by omega,hcc];rfl
  ·have hnz:∀ t,s=48::t→False:=fun t ht=>by
    have:=hz (t++[c]) (by rw[ht];rfl)
    simp at this
   have hd:=ih h.1 hs fun t ht=>(hnz t ht).elim
   have hpos:0<worth s:=by
    rcases Nat.eq_zero_or_pos (worth s) with h0|h0
    ·rw[h0] at hd
     exact(hnz [] (by rw[←hd,Ik (by omega)];rfl)).elim
    ·exact h0
   rw[T8 (by omega),show(10*worth s+(c.toNat - 48)) / 10=worth s by omega,show(10*worth s+(c.toNat - 48)) % 10=c.toNat - 48 by omega,hd,hcc]
theorem Abg(u k:Nat)(hk:0<k):(decDigits u).length=k+1↔10 ^ k≤u∧u<10 ^ (k+1):=by
 constructor
 ·intro h
  have h1:=Pt (Ed u)
  rw[F3,h] at h1
  refine⟨?_,h1⟩
  rcases Nat.lt_or_ge u (10 ^ k) with h2|h2
  ·exfalso
   rw[decDigits_length] at h
   have h3:∀ (j v:Nat),v<10 ^ (j+1)→nDigits v≤j+1:=by
    intro j
    induction j with
    |zero=>intro v hv;rw[nDigits_small (by simpa using hv)];omega
    |succ j ih=>
     intro v hv
     by_cases hv1:v<10
     ·rw[nDigits_small hv1];omega
     ·rw[nDigits_big hv1]
      have:=ih (v / 10) (by rw[Nat.pow_succ] at hv;omega)
      omega
   have:=h3 (k - 1) u (by rw[show k - 1+1=k by omega];exact h2)
   omega
  ·exact h2
 ·rintro⟨h1,h2⟩
  rw[decDigits_length,nDigits_unique k u h1 h2]
theorem J7:∀ (k u:Nat),u<10 ^ (k+1)→nDigits u≤k+1
 |0,u,h=>by rw[nDigits_small (by simpa using h)];omega
 |k+1,u,h=>by
  by_cases h1:u<10
  ·rw[nDigits_small h1];omega
  ·rw[nDigits_big h1]
   have:=J7 k (u / 10) (by rw[Nat.pow_succ] at h;omega)
   omega
theorem Mt(u:Nat)(h:u<18446744073709551616):(decDigits u).length≤20:=by
 rw[decDigits_length];exact J7 19 u (by omega)
end Go.Pl
namespace Go.Vc.Z
open Go Go.Vc Go.Proofs Go.RowKit Go.Pl Go.Lib
noncomputable section
set_option maxRecDepth 100000
attribute [local irreducible] inK Utf8.decode Utf8.encode Lib.itoa Pl.worth Pl.allDig
@[irreducible] def checkN(n:Int):Int:=if n<1000000000000∨9999999999999<n then 2 else if n / 10 % 7=n % 10 then 0 else 11
theorem Sj{n:Int}(h:checkN n=0):1000000000000≤n∧n≤9999999999999:=by
 unfold checkN at h
 split at h
 ·cases h
 ·omega
def T9:PC:=PC.fun fun|[.int .u64 n]=>some (True,.int .i64 (sI (checkN n)))|_=>none
def A8:PT:=C2 []
theorem A9{W:World}(hW:Tabs W):Cl (Fw W) Tryz.prog A8:=As
def An:FuncId→Option Ctr:=Aw A8 []
theorem Bc{W:World}(hW:Tabs W):Ad (Fw W) Tryz.prog An:=(Au (A9 hW))
theorem Mu{W:World}(hW:Tabs W):GoodP (Fw W) Tryz.prog 127 T9:=by
 have hD:=A9 hW
 have hC0:Ad (Fw W) Tryz.prog An:=(Bc hW)
 refine Az (D:=A8) (C:=An) (wr:=(fun _=>false)) rfl Ap hD hC0 Tryz.func127 (fun _ _=>none) ?_
 clear hC0 hD hW
 intro cs p r h hf hp
 split at h
 case h_2=>cases h
 rename_i n
 cases h
 try simp only[Ax,Bh,Am,Go.Vc.lo,Go.Vc.hi,and_true] at hf
 (conv=>whnf)
 (repeat' ((first
  |((with_reducible refine aI ?_ ?_);focus (first|with_reducible rfl|exact tK))
  |(split<;>rename_i hh<;>(try simp only[wS] at hh))
  |fail)<;>(conv=>whnf)))
 all_goals (try (show _=_;simp only[wQ]))
 all_goals (unfold checkN;repeat' split)<;>omega
def Iv:PT:=C2 [(127,T9)]
theorem Mv{W:World}(hW:Tabs W):Cl (Fw W) Tryz.prog Iv:=(Ab Tryz.call127 (Mu hW) As)
def Gp:FuncId→Option Ctr:=Aw Iv []
theorem Sk{W:World}(hW:Tabs W):Ad (Fw W) Tryz.prog Gp:=(Au (Mv hW))
@[irreducible] def V6(c:Int):Bool:=decide (100≤c)&&decide (c≤999)
@[irreducible] def Lm(c:Int):Bool:=decide (0≤c)&&decide (c≤999999999)
def L9:PC:=PC.fun fun|[.int .i64 n]=>some (True,.bool (sB (V6 n)))|_=>none
theorem Uv{W:World}(hW:Tabs W):GoodP (Fw W) Tryz.prog 292 L9:=by
 have hD:=A9 hW
 have hC0:Ad (Fw W) Tryz.prog An:=(Bc hW)
 refine Az (D:=A8) (C:=An) (wr:=(fun _=>false)) rfl Ap hD hC0 Tryz.func292 (fun _ _=>none) ?_
 clear hC0 hD hW
 intro cs p r h hf hp
 split at h
 case h_2=>cases h
 rename_i n
 cases h
 try simp only[Ax,Bh,Am,Go.Vc.lo,Go.Vc.hi,and_true] at hf
 (conv=>whnf)
 (repeat' ((first
  |(split<;>rename_i hh<;>(try simp only[wS] at hh))
  |fail)<;>(conv=>whnf)))
 all_goals (try (show _=_;simp only[wQ]))
 all_goals (try simp (disch:=omega) only[Int.tdiv_eq_ediv_of_nonneg,Int.tmod_eq_emod_of_nonneg]);all_goals (first|(simp_all[Cg,Bd,A0,Dr,Ca,Be,V6];done)|(simp_all[Cg,Bd,A0,Dr,Ca,Be,V6];omega))
def bE:PC:=PC.fun fun|[.int .i64 n]=>some (True,.bool (sB (Lm n)))|_=>none
theorem V7{W:World}(hW:Tabs W):GoodP (Fw W) Tryz.prog 293 bE:=by
 have hD:=A9 hW
 have hC0:Ad (Fw W) Tryz.prog An:=(Bc hW)
 refine Az (D:=A8) (C:=An) (wr:=(fun _=>false)) rfl Ap hD hC0 Tryz.func293 (fun _ _=>none) ?_
 clear hC0 hD hW
 intro cs p r h hf hp
 split at h
 case h_2=>cases h
 rename_i n
 cases h
 try simp only[Ax,Bh,Am,Go.Vc.lo,Go.Vc.hi,and_true] at hf
 (conv=>whnf)
 (repeat' ((first
  |(split<;>rename_i hh<;>(try simp only[wS] at hh))
  |fail)<;>(conv=>whnf)))
 all_goals (try (show _=_;simp only[wQ]))
 all_goals (try simp (disch:=omega) only[Int.tdiv_eq_ediv_of_nonneg,Int.tmod_eq_emod_of_nonneg]);all_goals (first|(simp_all[Cg,Bd,A0,Dr,Ca,Be,Lm];done)|(simp_all[Cg,Bd,A0,Dr,Ca,Be,Lm];omega))
@[irreducible] def A7(n:Int):List UInt8:=if checkN n=0 then decDigits n.toNat else []
def Ahf:PC:=PC.fun fun|[.int .u64 n]=>some (True,.str (sS (A7 n)))|_=>none
def A1x(n:Int):LoopSpec:={
 α:=Nat
 keep:=[0,3,10,11]
 vals i:=[.int .u64 (n / 10 ^ i),.osl 0 1 0 13 (some 13),.int .i64 13,.int .i64 i]
 heap i:=[.row 1 13 (fun e=>[.int .i32 (if 13≤e+i then 48+n / 10 ^ (12 - e) % 10 else 0)])]
 ok i:=i≤13
 μ i:=13 - i }
theorem pS(i:Nat):(0:Int)<10 ^ i:=Int.pow_pos (by decide)
theorem Amm(n:Int)(i:Nat):n / 10 ^ i / 10=n / 10 ^ (i+1):=by
 rw[Int.pow_succ,Int.ediv_ediv,if_neg (fun h=>by have:=pS i;omega),Int.sub_zero]
theorem yY{n:Int}(h0:0≤n)(h1:n<128):(Utf8.encode n).data.toList=[UInt8.ofNat n.toNat]:=by
 obtain⟨k,rfl⟩:∃ k:Nat,n=k:=⟨n.toNat,by omega⟩
 have v:Utf8.valid (k:Int)=true:=by simp[Utf8.valid];omega
 have c1:k<128:=by omega
 simp[Utf8.encode,v,c1]
theorem nZ{n:Int}(h:checkN n=0):((List.range 13).flatMap fun e=>(Utf8.encode (48+n / 10 ^ (12 - e) % 10)).data.toList)=A7 n:=by
 obtain⟨h0,h1⟩:=Sj h
 obtain⟨u,rfl⟩:∃ u:Nat,n=u:=⟨n.toNat,by omega⟩
 have hd:nDigits u=13:=nDigits_unique 12 u (by omega) (by omega)
 rw[A7,if_pos h,Int.toNat_natCast,decDigits_eq,hd]
 have e:∀ l:List Nat,(l.flatMap fun e=>(Utf8.encode (48+(u:Int) / 10 ^ (12 - e) % 10)).data.toList)=l.map fun t=>dg u (13 - 1 - t):=by
  intro l
  induction l with
  |nil=>rfl
  |cons e l ih=>
   rw[List.flatMap_cons,List.map_cons,ih]
   have h2:(48+(u:Int) / 10 ^ (12 - e) % 10)=((48+u / 10 ^ (12 - e) % 10:Nat):Int):=by simp
   rw[h2,yY (by omega) (by have:=Nat.mod_lt (u / 10 ^ (12 - e)) (show 10 > 0 by omega);omega)]
   rfl
 exact e _
def oB:List AV→Nat→Option LR:=fun cs i=>match cs with|[.int _ n]=>cond (Nat.beq i 5) (some (.inv (A1x n))) (none)|_=>none
theorem oC{W:World}(hW:Tabs W):GoodP (Fw W) Tryz.prog 54 Ahf:=by
 have hD:=Mv hW
 have hC0:Ad (Fw W) Tryz.prog Gp:=(Sk hW)
 refine Az (D:=Iv) (C:=Gp) (wr:=(fun _=>false)) rfl Ap hD hC0 Tryz.func54 (oB) ?_
 clear hC0 hD hW
 intro cs p r h hf hp
 split at h
 case h_2=>cases h
 rename_i n
 cases h
 try simp only[Ax,Bh,Am,Go.Vc.lo,Go.Vc.hi,and_true] at hf
 (conv=>whnf)
 (repeat' ((first
  |((with_reducible refine aI ?_ ?_);focus (first|with_reducible exact⟨⟩|(simp only[Aq,ty2,ty3,ty4,ty5,ty9,Cw,Co,Cx,Cp,Cu,Cy,Cv,Cz,Bm,Bj,Bn,Bi,Bo,Bp,Bq];first|omega|(refine⟨?_,?_⟩<;>omega))))
  |(split<;>rename_i hh<;>(try simp only[wS] at hh))
  |with_reducible refine lnI fun hln=>?_
  |fail)<;>(conv=>whnf)))
 all_goals (try (show _=_;simp only[wQ]))
 ·simp[A7,hh]
 ·refine⟨?_,fun(i:Nat) (hi:i≤13)=>?_⟩
  ·(conv=>whnf)
   refine⟨(0:Nat),[],?_,⟨⟨rfl,(nB rfl),rfl⟩,?_,?_⟩⟩
   ·exact Nat.zero_le _
   ·exact tL
   ·(conv=>whnf)
    (repeat' ((first|with_reducible exact⟨⟩|((with_reducible refine aI ?_ ?_);focus (exact tA))|with_reducible refine iB ?_ ?_|fail)<;>(conv=>whnf)))
    all_goals (try simp only[wQ])
    intro e he
    refine⟨?_,rfl⟩
    simp only[AV.cells]
    rw[if_neg (by omega)]
  ·have h10:0≤n / 10 ^ i:=Int.ediv_nonneg hf.1 (Int.le_of_lt (pS i))
   have h11:n / 10 ^ i≤18446744073709551615:=Int.le_trans (Int.ediv_le_self _ hf.1) hf.2
   have hm:=Int.emod_nonneg (n / 10 ^ i) (show(10:Int)≠0 by decide)
   have hm2:=Int.emod_lt_of_pos (n / 10 ^ i) (show(0:Int)<10 by decide)
   (conv=>whnf)
   (repeat' ((first
    |((with_reducible refine aI ?_ ?_);focus (first|omega|exact tK))
    |(split<;>rename_i hh<;>(try simp only[wS] at hh))
    |fail)<;>(conv=>whnf)))
   ·(conv=>whnf)
    refine⟨(i+1:Nat),[],?_,⟨⟨rfl,(nB rfl),rfl⟩,?_,?_⟩⟩
    ·exact⟨show i+1≤13 by omega,show 13 - (i+1)<13 - i by omega⟩
    ·(conv=>whnf)
     (repeat' ((first|with_reducible exact⟨⟩|((with_reducible refine Or.inr ?_);rfl)|((with_reducible refine aI ?_ ?_);focus (exact tA))|with_reducible refine iA ?_ ?_|fail)<;>(conv=>whnf)))
     all_goals (try first|omega)
     ·rw[Amm]
    ·(conv=>whnf)
     (repeat' ((first|with_reducible exact⟨⟩|((with_reducible refine aI ?_ ?_);focus (exact tA))|with_reducible refine iB ?_ ?_|fail)<;>(conv=>whnf)))
     all_goals (try simp only[wQ])
     intro e he
     refine⟨?_,rfl⟩
     simp only[Dv,decide_eq_true_eq]
     by_cases h1:e=12 - i
     ·rw[if_pos (by omega)]
      show [AV.int IntKind.i32 (48+(n / 10 ^ i) % 10)]=[AV.int IntKind.i32 _]
      rw[if_pos (by omega),h1,show 12 - (12 - i)=i by omega]
     ·rw[if_neg (by omega)]
      by_cases h2:13≤e+i
      ·rw[if_pos h2,if_pos (by omega)]
      ·rw[if_neg h2,if_neg (by omega)]
   ·have h13:i=13:=by omega
    subst h13
    have hr:=nZ (n:=n) (by assumption)
    have hrr:(dH 13 fun e=>(fun e=>[AV.int IntKind.i32 (if 13≤e+13 then 48+n / 10 ^ (12 - e) % 10 else 0)]) (0+e))=A7 n:=by
     rw[←hr]
     unfold dH
     congr 1
     funext e
     simp[Pn]
    refine⟨⟨fun e _=>rfl,?_⟩,?_⟩
    ·refine Nat.le_trans (Nat.le_of_eq (congrArg List.length hrr)) ?_
     unfold A7;rw[if_pos (by assumption)];have:=Mt n.toNat (by omega);omega
    ·(conv=>whnf)
     all_goals (try (show _=_;simp only[wQ]))
     exact hrr
end
end Go.Vc.Z
namespace Go.Pl
open Go Go.Lib
theorem pT(l:List UInt8)(i:Nat)(h:i<l.length):(ByteArray.get! ⟨l.toArray⟩ i)=l.getD i 0:=by
 show(l.toArray)[i]! =_
 simp[h,List.getD_eq_getElem?_getD]
theorem Aj5{l:List UInt8}{p:Nat}(h:p<l.length)(hb:(l.getD p 0).toNat<128):Utf8.decode ⟨l.toArray⟩ p=((l.getD p 0).toNat,1):=by
 unfold Utf8.decode
 simp only[Nat.add_zero,pT l p h]
 rw[if_pos hb]
theorem Aj6{l:List UInt8}{p:Nat}(h:p<l.length)(hb: ¬(l.getD p 0).toNat<128):128≤(Utf8.decode ⟨l.toArray⟩ p).1:=by
 unfold Utf8.decode
 simp only[Nat.add_zero,pT l p h]
 rw[if_neg hb]
 have hr:Utf8.runeError=65533:=rfl
 split
 ·split<;>(simp only[] at*;omega)
 ·split
  ·split
   ·rename_i hc;simp only[Bool.and_eq_true,decide_eq_true_eq] at hc;simp only[];omega
   ·simp only[];omega
  ·split
   ·split
    ·rename_i hc;simp only[Bool.and_eq_true,decide_eq_true_eq] at hc;simp only[];omega
    ·simp only[];omega
   ·simp only[];omega
theorem yZ{l:List UInt8}{p:Nat}(h:p<l.length):(Utf8.decode ⟨l.toArray⟩ p=((l.getD p 0).toNat,1)∧(l.getD p 0).toNat<128)∨(128≤(Utf8.decode ⟨l.toArray⟩ p).1∧128≤(l.getD p 0).toNat):=by
 by_cases hb:(l.getD p 0).toNat<128
 ·exact .inl ⟨Aj5 h hb,hb⟩
 ·exact .inr ⟨Aj6 h hb,by omega⟩
theorem Sl{l:List UInt8}{i:Nat}(h:i<l.length):l.take (i+1)=l.take i++[l.getD i 0]:=by
 rw[List.take_add_one,List.getD_eq_getElem?_getD,List.getElem?_eq_getElem h];rfl
theorem Ho{p:UInt8→Bool}{l:List UInt8}{i:Nat}(h:i<l.length):(l.take (i+1)).all p=((l.take i).all p&&p (l.getD i 0)):=by
 rw[Sl h,List.all_append];simp
theorem Mw{p:UInt8→Bool}{l:List UInt8}{i:Nat}(h:i<l.length)(hp:p (l.getD i 0)=false):l.all p=false:=by
 rw[List.all_eq_false]
 refine⟨l.getD i 0,?_,by rw[hp];decide⟩
 rw[List.getD_eq_getElem?_getD,List.getElem?_eq_getElem h];exact List.getElem_mem h
theorem Eo{l:List UInt8}{i:Nat}(h:i<l.length):worth (l.take (i+1))=10*worth (l.take i)+((l.getD i 0).toNat - 48):=by
 rw[Sl h,J5]
theorem Zp{l:List UInt8}{i:Nat}(h:i<l.length)(hd:allDig l=true):48≤(l.getD i 0).toNat∧(l.getD i 0).toNat≤57:=by
 refine Dw.1 hd _ ?_
 rw[List.getD_eq_getElem?_getD,List.getElem?_eq_getElem h];exact List.getElem_mem h
theorem bF{l:List UInt8}(h:allDig l=true)(i:Nat):allDig (l.take i)=true:=
 Dw.2 fun c hc=>Dw.1 h c (List.mem_of_mem_take hc)
theorem Abh{l:List UInt8}(h:allDig l=true)(i:Nat):allDig (l.drop i)=true:=
 Dw.2 fun c hc=>Dw.1 h c (List.mem_of_mem_drop hc)
theorem oD{l:List UInt8}(h:allDig l=true)(i:Nat):worth (l.take i)<10 ^ i:=by
 refine Nat.lt_of_lt_of_le (Pt (bF h i)) (Nat.pow_le_pow_right (by omega) ?_)
 rw[List.length_take];omega
theorem Vh{l:List UInt8}(h:allDig l=true){i n:Nat}(hi:i≤n):worth (l.take i)<10 ^ n:=
 Nat.lt_of_lt_of_le (oD h i) (Nat.pow_le_pow_right (by omega) hi)
theorem fG{l:List UInt8}{i n:Nat}(h:allDig (l.take i)=true)(hi:i≤n):worth (l.take i)<10 ^ n:=by
 refine Nat.lt_of_lt_of_le (Pt h) (Nat.pow_le_pow_right (by omega) ?_)
 rw[List.length_take];omega
theorem E4{l:List UInt8}{i:Nat}(h:i<l.length)(hd:allDig (l.take i)=true)(h1:48≤(l.getD i 0).toNat)(h2:(l.getD i 0).toNat≤57):allDig (l.take (i+1))=true:=by
 unfold allDig at hd ⊢
 rw[Ho h,hd,Bool.true_and,Ps];exact⟨h1,h2⟩
theorem fH{l:List UInt8}{i:Nat}(h:i<l.length)(h1: ¬(48≤(l.getD i 0).toNat∧(l.getD i 0).toNat≤57)):allDig l=false:=
 Mw h (by cases hb:fE (l.getD i 0) with|false=>rfl|true=>exact absurd (Ps.1 hb) h1)
end Go.Pl
namespace Go.Vc.Z
open Go Go.Vc Go.Proofs Go.Pl
theorem D4{l:List UInt8}{p:Nat}(h:p<l.length):(Bg l p=((l.getD p 0).toNat:Int)∧Ai l p=1∧(l.getD p 0).toNat<128)∨(128≤Bg l p∧128≤(l.getD p 0).toNat):=by
 rcases yZ h with ⟨h1,h2⟩|⟨h1,h2⟩
 ·exact .inl ⟨by rw[Zd,h1],by rw[Aar,h1],h2⟩
 ·exact .inr ⟨by rw[Zd];omega,h2⟩
theorem Abi(c d:UInt8):eqI (c.toNat:Int) (d.toNat:Int)=(c == d):=by
 rw[Be,Bool.eq_iff_iff,beq_iff_eq,beq_iff_eq]
 constructor
 ·intro h;exact UInt8.toNat_inj.1 (Int.ofNat.inj h)
 ·rintro rfl;rfl
end Go.Vc.Z
namespace Go.Vc.Z
open Go Go.Vc Go.Proofs Go.RowKit Go.Pl Go.Lib
noncomputable section
set_option maxRecDepth 100000
attribute [local irreducible] inK Utf8.decode Utf8.encode Lib.itoa Pl.worth Pl.allDig
@[irreducible] def numOf(s:List UInt8):Int × Int:=
 if s.length=13∧allDig s=true then(if checkN (worth s)=0 then((worth s:Int),0) else(0,checkN (worth s))) else(0,4)
def Avt:PC:=PC.fun fun|[.str s]=>some (True,.tup [.int .u64 (sI (numOf s).1),.int .i64 (sI (numOf s).2)])|_=>none
def A4j(s:List UInt8):LoopSpec:={
 α:=Nat
 keep:=[4,5,10]
 vals i:=[.int .u64 (worth (s.take i)),.int .i64 i,.iter 0]
 heap i:=[.iter s i]
 ok i:=i≤13∧i≤s.length∧allDig (s.take i)=true
 μ i:=s.length - i }
def Abj:List AV→Nat→Option LR:=fun cs i=>match cs with|[.str s]=>cond (Nat.beq i 3) (some (.inv (A4j s))) (none)|_=>none
theorem Abk{W:World}(hW:Tabs W):GoodP (Fw W) Tryz.prog 153 Avt:=by
 have hD:=Mv hW
 have hC0:Ad (Fw W) Tryz.prog Gp:=(Sk hW)
 refine Az (D:=Iv) (C:=Gp) (wr:=(fun _=>false)) rfl Ap hD hC0 Tryz.func153 (Abj) ?_
 clear hC0 hD hW
 intro cs p r h hf hp
 split at h
 case h_2=>cases h
 rename_i s
 cases h
 try simp only[Ax,Bh,Am,Go.Vc.lo,Go.Vc.hi,and_true] at hf
 (conv=>whnf)
 refine⟨?_,fun(i:Nat) (hi:i≤13∧i≤s.length∧allDig (s.take i)=true)=>?_⟩
 ·(conv=>whnf)
  refine⟨(0:Nat),[],?_,⟨⟨rfl,(nB rfl),rfl⟩,?_,?_⟩⟩
  ·exact⟨Nat.zero_le _,Nat.zero_le _,by simp[allDig]⟩
  ·(conv=>whnf)
   (repeat' ((first|with_reducible exact⟨⟩|((with_reducible refine aI ?_ ?_);focus (exact tA))|with_reducible refine iA ?_ ?_|fail)<;>(conv=>whnf)))
   all_goals (try first|omega)
   simp[worth]
  ·exact tL
 ·obtain⟨h1,h2,h3⟩:=hi
  have hw:=fG h3 h1
  have hbad:i<s.length→13≤i∨¬(48≤Bg s i∧Bg s i≤57)→numOf s=(0,4):=fun h hc=>by
   unfold numOf
   rw[if_neg]
   rintro⟨h4,h5⟩
   have:=Zp h h5
   rcases D4 h with h6|h6<;>omega
  have hlen:s.length≤i→¬(i:Int)=13→numOf s=(0,4):=fun h hc=>by
   unfold numOf
   rw[if_neg]
   rintro⟨h4,h5⟩
   omega
  have hok:s.length≤i→(i:Int)=13→numOf s=if checkN (worth (s.take i))=0 then((worth (s.take i):Int),0) else(0,checkN (worth (s.take i))):=fun h hc=>by
   rw[List.take_of_length_le h] at h3 ⊢
   unfold numOf
   rw[if_pos ⟨by omega,h3⟩]
  (conv=>whnf)
  (repeat' ((first
   |with_reducible exact⟨⟩
   |((with_reducible refine aI ?_ ?_);focus (first|with_reducible exact⟨⟩|with_reducible rfl|exact tK))
   |(split<;>rename_i hh<;>(try simp only[wS] at hh))
   |with_reducible refine iA ?_ ?_
   |fail)<;>(conv=>whnf)))
  all_goals (try (show _=_;simp only[wQ]))
  all_goals try (rw[hbad (by omega) (by omega)];done)
  ·obtain⟨h6,h7,h8⟩:Bg s i=((s.getD i 0).toNat:Int)∧Ai s i=1∧(s.getD i 0).toNat<128:=by
    rcases D4 (l:=s) (p:=i) (by omega) with h6|h6<;>omega
   (conv=>whnf)
   refine⟨(i+1:Nat),[],?_,⟨⟨rfl,(nB rfl),rfl⟩,?_,?_⟩⟩
   ·exact⟨⟨show i+1≤13 by omega,show i+1≤s.length by omega,E4 (by omega) h3 (by omega) (by omega)⟩,show s.length - (i+1)<s.length - i by omega⟩
   ·(conv=>whnf)
    (repeat' ((first|with_reducible exact⟨⟩|((with_reducible refine aI ?_ ?_);focus (exact tA))|with_reducible refine iA ?_ ?_|fail)<;>(conv=>whnf)))
    all_goals (try first|omega)
    rw[Eo (by omega)];omega
   ·exact tL
  all_goals first|(rw[hlen (by omega) (by assumption)];done)|(rw[hok (by omega) (by assumption),if_pos (by assumption)];done)|(rw[hok (by omega) (by assumption),if_neg (by assumption)];done)
def Sm:PC:=PC.fun fun|[.int .u64 n]=>some (True,.str (sS (decDigits n.toNat)))|_=>none
def Ahg(n0:Int):LoopSpec:={
 α:=Nat × List UInt8
 keep:=[0,3]
 vals x:=[.int .u64 x.1,.str x.2]
 heap _:=[]
 ok x:=x.1≤n0.toNat∧(if x.1=0∧x.2≠[] then x.2 else decDigits x.1++x.2)=decDigits n0.toNat
 μ x:=2*x.1+if x.2=[] then 1 else 0 }
theorem Il{n:Nat}{s:List UInt8}(h:0<n∨s=[]):(if n / 10=0∧UInt8.ofNat (48+n % 10)::s≠[] then UInt8.ofNat (48+n % 10)::s else decDigits (n / 10)++(UInt8.ofNat (48+n % 10)::s))=if n=0∧s≠[] then s else decDigits n++s:=by
 by_cases hn:n<10
 ·rw[if_pos ⟨by omega,by simp⟩,if_neg,Ik hn]
  ·rfl
  ·rintro⟨h1,h2⟩
   rcases h with h|h
   ·omega
   ·exact h2 h
 ·rw[if_neg (fun h=>by omega),if_neg (fun h=>by omega),T8 (u:=n) (by omega),List.append_assoc];rfl
def Sn:List AV→Nat→Option LR:=fun cs i=>match cs with|[.int .u64 n]=>cond (Nat.beq i 2) (some (.inv (Ahg n))) (none)|_=>none
theorem K2{W:World}(hW:Tabs W):GoodP (Fw W) Tryz.prog 81 Sm:=by
 have hD:=A9 hW
 have hC0:Ad (Fw W) Tryz.prog An:=(Bc hW)
 refine Az (D:=A8) (C:=An) (wr:=(fun _=>false)) rfl Ap hD hC0 Tryz.func81 (Sn) ?_
 clear hC0 hD hW
 intro cs p r h hf hp
 split at h
 case h_2=>cases h
 rename_i n
 cases h
 try simp only[Ax,Bh,Am,Go.Vc.lo,Go.Vc.hi,and_true] at hf
 (conv=>whnf)
 refine⟨?_,fun(x:Nat × List UInt8) (hx:x.1≤n.toNat∧(if x.1=0∧x.2≠[] then x.2 else decDigits x.1++x.2)=decDigits n.toNat)=>?_⟩
 ·(conv=>whnf)
  refine⟨((n.toNat,[]):Nat × List UInt8),[],?_,⟨⟨rfl,(nB rfl),rfl⟩,?_,?_⟩⟩
  ·exact⟨Nat.le_refl _,by simp⟩
  ·exact tL
  ·exact tL
 ·obtain⟨h1,h2⟩:=hx
  have hl:x.2.length≤30:=by
   have:=congrArg List.length h2
   have h20:(decDigits n.toNat).length≤30:=by rw[decDigits_length];exact Nat.le_trans (J7 29 _ (by omega)) (by omega)
   split at this<;>(try simp at this)<;>omega
  (conv=>whnf)
  (repeat' ((first
   |((with_reducible refine aI ?_ ?_);focus (first|omega|(intro e he;rcases(by omega:e=0∨e=1∨e=2) with rfl|rfl|rfl<;>first|rfl|(exfalso;omega))|exact tK|(simp only[List.length_append,bytesOf_length,List.toList_toArray,List.length_cons,List.length_nil,List.length_take,List.length_drop,A0];omega)))
   |(split<;>rename_i hh<;>(try simp only[wS] at hh))
   |fail)<;>(conv=>whnf)))
  all_goals (try (show _=_;simp only[wQ]))
  ·(conv=>whnf)
   refine⟨((x.1 / 10,UInt8.ofNat (48+x.1 % 10)::x.2):Nat × List UInt8),[],?_,⟨⟨rfl,(nB rfl),rfl⟩,?_,?_⟩⟩
   ·refine⟨⟨show x.1 / 10≤n.toNat by omega,(Il (n:=x.1) (s:=x.2) (.inl (by omega))).trans h2⟩,?_⟩
    show 2*(x.1 / 10)+(if UInt8.ofNat (48+x.1 % 10)::x.2=[] then 1 else 0)<2*x.1+(if x.2=[] then 1 else 0)
    rw[if_neg (by simp)];omega
   ·exact Ac _
   ·exact tL
  ·(conv=>whnf)
   refine⟨((x.1 / 10,UInt8.ofNat (48+x.1 % 10)::x.2):Nat × List UInt8),[],?_,⟨⟨rfl,(nB rfl),rfl⟩,?_,?_⟩⟩
   ·refine⟨⟨show x.1 / 10≤n.toNat by omega,(Il (n:=x.1) (s:=x.2) (.inr (by assumption))).trans h2⟩,?_⟩
    show 2*(x.1 / 10)+(if UInt8.ofNat (48+x.1 % 10)::x.2=[] then 1 else 0)<2*x.1+(if x.2=[] then 1 else 0)
    rw[if_neg (by simp),if_pos (by assumption)];omega
   ·exact Ac _
   ·exact tL
  ·have h0:x.1=0:=by omega
   rw[←h2,if_pos ⟨h0,by assumption⟩]
end
end Go.Vc.Z
namespace Go.Vc.Z
open Go Go.Vc Go.Proofs Go.RowKit Go.Pl Go.Lib
noncomputable section
set_option maxRecDepth 100000
attribute [local irreducible] inK Utf8.decode Utf8.encode Lib.itoa Pl.worth Pl.allDig
def Ahh:PC:=PC.fun fun|[.str s]=>some (allDig s=true∧s.length≤19,.int .u64 (sI (worth s)))|_=>none
def Awz(s:List UInt8):LoopSpec:={
 α:=Nat
 keep:=[0,3,4]
 vals i:=[.str s,.int .u64 (sI (worth (s.take i))),.int .i64 i]
 heap _:=[]
 ok i:=i≤s.length
 μ i:=s.length - i }
def Uw:List AV→Nat→Option LR:=fun cs i=>match cs with|[.str s]=>cond (Nat.beq i 3) (some (.inv (Awz s))) (none)|_=>none
theorem Ux{W:World}(hW:Tabs W):GoodP (Fw W) Tryz.prog 174 Ahh:=by
 have hD:=A9 hW
 have hC0:Ad (Fw W) Tryz.prog An:=(Bc hW)
 refine Az (D:=A8) (C:=An) (wr:=(fun _=>false)) rfl Ap hD hC0 Tryz.func174 (Uw) ?_
 clear hC0 hD hW
 intro cs p r h hf hp
 split at h
 case h_2=>cases h
 rename_i s
 cases h
 try simp only[Ax,Bh,Am,Go.Vc.lo,Go.Vc.hi,and_true] at hf
 obtain⟨hd,hl⟩:=hp
 (conv=>whnf)
 refine⟨?_,fun(i:Nat) (hi:i≤s.length)=>?_⟩
 ·(conv=>whnf)
  refine⟨(0:Nat),[],?_,⟨⟨rfl,(nB rfl),rfl⟩,?_,?_⟩⟩
  ·exact Nat.zero_le _
  ·(conv=>whnf)
   (repeat' ((first|with_reducible exact⟨⟩|((with_reducible refine aI ?_ ?_);focus (exact tA))|with_reducible refine iA ?_ ?_|fail)<;>(conv=>whnf)))
   all_goals (try simp only[wQ])
   all_goals (try first|omega)
   simp[worth]
  ·exact tL
 ·have hw:=Vh hd hi
  have hw2:10 ^ s.length≤10 ^ 19:=Nat.pow_le_pow_right (by omega) hl
  have hdig:i<s.length→48≤(s.getD (Int.toNat (i:Int)) 0).toNat∧(s.getD (Int.toNat (i:Int)) 0).toNat≤57:=fun h=>Zp h hd
  have hw3:i<s.length→worth (s.take (i+1))=10*worth (s.take i)+((s.getD (Int.toNat (i:Int)) 0).toNat - 48):=fun h=>Eo h
  have hw5:i<s.length→worth (s.take (i+1))<10 ^ s.length:=fun h=>Vh hd (by omega)
  have hsi:=Cg (worth (s.take i))
  (conv=>whnf)
  (repeat' ((first
   |((with_reducible refine aI ?_ ?_);focus (first|with_reducible rfl|omega|exact tK))
   |(split<;>rename_i hh<;>(try simp only[wS] at hh))
   |with_reducible refine lnI fun hln=>?_
   |fail)<;>(conv=>whnf)))
  all_goals (try (show _=_;simp only[wQ]))
  ·(conv=>whnf)
   refine⟨(i+1:Nat),[],?_,⟨⟨rfl,(nB rfl),rfl⟩,?_,?_⟩⟩
   ·exact⟨show i+1≤s.length by omega,show s.length - (i+1)<s.length - i by omega⟩
   ·exact tL
   ·exact tL
  ·rw[List.take_of_length_le (by omega)]
def Ahi:PC:=PC.fun fun|[.str s]=>some (allDig s=true,.int .u8 (sI ((48+worth s % 7:Nat):Int)))|_=>none
def Aw0(s:List UInt8):LoopSpec:={
 α:=Nat
 keep:=[0,3,4]
 vals i:=[.str s,.int .i64 (sI ((worth (s.take i) % 7:Nat):Int)),.int .i64 i]
 heap _:=[]
 ok i:=i≤s.length
 μ i:=s.length - i }
def Uy:List AV→Nat→Option LR:=fun cs i=>match cs with|[.str s]=>cond (Nat.beq i 3) (some (.inv (Aw0 s))) (none)|_=>none
theorem Uz{W:World}(hW:Tabs W):GoodP (Fw W) Tryz.prog 173 Ahi:=by
 have hD:=A9 hW
 have hC0:Ad (Fw W) Tryz.prog An:=(Bc hW)
 refine Az (D:=A8) (C:=An) (wr:=(fun _=>false)) rfl Ap hD hC0 Tryz.func173 (Uy) ?_
 clear hC0 hD hW
 intro cs p r h hf hp
 split at h
 case h_2=>cases h
 rename_i s
 cases h
 try simp only[Ax,Bh,Am,Go.Vc.lo,Go.Vc.hi,and_true] at hf
 (conv=>whnf)
 refine⟨?_,fun(i:Nat) (hi:i≤s.length)=>?_⟩
 ·(conv=>whnf)
  refine⟨(0:Nat),[],?_,⟨⟨rfl,(nB rfl),rfl⟩,?_,?_⟩⟩
  ·exact Nat.zero_le _
  ·(conv=>whnf)
   (repeat' ((first|with_reducible exact⟨⟩|((with_reducible refine aI ?_ ?_);focus (exact tA))|with_reducible refine iA ?_ ?_|fail)<;>(conv=>whnf)))
   all_goals (try simp only[wQ])
   all_goals (try first|omega)
   simp[worth]
  ·exact tL
 ·have hdig:i<s.length→48≤(s.getD (Int.toNat (i:Int)) 0).toNat∧(s.getD (Int.toNat (i:Int)) 0).toNat≤57:=fun h=>Zp h hp
  have hw3:i<s.length→worth (s.take (i+1))=10*worth (s.take i)+((s.getD (Int.toNat (i:Int)) 0).toNat - 48):=fun h=>Eo h
  have hsi:=Cg ((worth (s.take i) % 7:Nat):Int)
  (conv=>whnf)
  (repeat' ((first
   |((with_reducible refine aI ?_ ?_);focus (first|with_reducible rfl|omega|exact tK))
   |(split<;>rename_i hh<;>(try simp only[wS] at hh))
   |with_reducible refine lnI fun hln=>?_
   |fail)<;>(conv=>whnf)))
  all_goals (try (show _=_;simp only[wQ]))
  ·(conv=>whnf)
   refine⟨(i+1:Nat),[],?_,⟨⟨rfl,(nB rfl),rfl⟩,?_,?_⟩⟩
   ·exact⟨show i+1≤s.length by omega,show s.length - (i+1)<s.length - i by omega⟩
   ·(conv=>whnf)
    (repeat' ((first|with_reducible exact⟨⟩|((with_reducible refine aI ?_ ?_);focus (exact tA))|with_reducible refine iA ?_ ?_|fail)<;>(conv=>whnf)))
    all_goals (try simp only[wQ])
    all_goals (try first|omega)
    rw[hw3 (by omega)]
    rw[Int.tmod_eq_emod_of_nonneg (by omega)]
    omega
   ·exact tL
  ·rw[List.take_of_length_le (by omega)];omega
theorem oE{s:List UInt8}(h:s.length=13):worth s=10*worth (s.take 12)+((s.getD 12 0).toNat - 48):=by
 rw[←Eo (by omega),List.take_of_length_le (by omega)]
theorem fI{n:Int}(h0:1000000000000≤n)(h1:n≤9999999999999):checkN n=if n / 10 % 7=n % 10 then 0 else 11:=by
 unfold checkN;rw[if_neg (by omega)]
theorem Aj7{n:Int}(h0:n<1000000000000):checkN n=2:=by
 unfold checkN;rw[if_pos (.inl h0)]
theorem fJ{s:List UInt8}(h:s.length=13)(hd:allDig s=true):worth s=((s.getD 0 0).toNat - 48)*1000000000000+worth (s.drop 1)∧worth (s.drop 1)<1000000000000:=by
 match s,h with
 |c::t,h=>
  have ht:t.length=12:=by simpa using h
  have h1:=Pt (Abh hd 1)
  have h2:=V5 c t
  simp only[List.drop_succ_cons,List.drop_zero,ht] at h1 ⊢
  rw[ht] at h2
  exact⟨h2,h1⟩
def A4k(s:List UInt8):LoopSpec:={
 α:=Nat
 keep:=[0,4]
 vals i:=[.str s,.int .i64 i]
 heap _:=[]
 ok i:=i≤13∧allDig (s.take i)=true
 μ i:=13 - i }
def Avu:PC:=PC.fun fun|[.str s]=>some (True,.tup [.int .u64 (sI (numOf s).1),.int .i64 (sI (numOf s).2)])|_=>none
def J8:PT:=C2 [(173,Ahi),(174,Ahh)]
theorem Pu{W:World}(hW:Tabs W):Cl (Fw W) Tryz.prog J8:=(Ab Tryz.call173 (Uz hW) (Ab Tryz.call174 (Ux hW) As))
def J9:FuncId→Option Ctr:=Aw J8 []
theorem Zq{W:World}(hW:Tabs W):Ad (Fw W) Tryz.prog J9:=(Au (Pu hW))
def Zr:List AV→Nat→Option LR:=fun cs i=>match cs with|[.str s]=>cond (Nat.beq i 4) (some (.inv (A4k s))) (none)|_=>none
theorem Zs{W:World}(hW:Tabs W):GoodP (Fw W) Tryz.prog 88 Avu:=by
 have hD:=Pu hW
 have hC0:Ad (Fw W) Tryz.prog J9:=(Zq hW)
 refine Az (D:=J8) (C:=J9) (wr:=(fun _=>false)) rfl Ap hD hC0 Tryz.func88 (Zr) ?_
 clear hC0 hD hW
 intro cs p r h hf hp
 split at h
 case h_2=>cases h
 rename_i s
 cases h
 try simp only[Ax,Bh,Am,Go.Vc.lo,Go.Vc.hi,and_true] at hf
 (conv=>whnf)
 (repeat' ((first
  |with_reducible exact⟨⟩
  |((with_reducible refine aI ?_ ?_);focus (with_reducible rfl))
  |(split<;>rename_i hh<;>(try simp only[wS] at hh))
  |with_reducible refine lnI fun hln=>?_
  |with_reducible refine iA ?_ ?_
  |fail)<;>(conv=>whnf)))
 all_goals (try (show _=_;simp only[wQ]))
 ·have hx:numOf s=(0,4):=by
   unfold numOf;rw[if_neg];rintro⟨h1,_⟩;omega
  rw[hx]
 ·have hx:numOf s=(0,4):=by
   unfold numOf;rw[if_neg];rintro⟨h1,_⟩;omega
  rw[hx]
 ·have hl:s.length=13:=by omega
  refine⟨?_,fun(i:Nat) (hi:i≤13∧allDig (s.take i)=true)=>?_⟩
  ·(conv=>whnf)
   refine⟨(0:Nat),[],?_,⟨⟨rfl,(nB rfl),rfl⟩,?_,?_⟩⟩
   ·exact⟨Nat.zero_le _,by simp[allDig]⟩
   ·exact Ac _
   ·exact tL
  ·obtain⟨h1,h2⟩:=hi
   have ei:(s.getD (Int.toNat (i:Int)) 0).toNat=(s.getD i 0).toNat:=rfl
   have hbad:i<13→¬(48≤(s.getD (Int.toNat (i:Int)) 0).toNat∧(s.getD (Int.toNat (i:Int)) 0).toNat≤57)→numOf s=(0,4):=fun h hc=>by
    unfold numOf;rw[if_neg];rintro⟨_,h3⟩
    exact hc (Zp (by omega) h3)
   have hdg:13≤i→allDig s=true:=fun h=>by rwa[List.take_of_length_le (by omega)] at h2
   have hdd:13≤i→allDig ((s.drop 0).take (Int.toNat 12 - 0))=true:=fun h=>bF (hdg h) 12
   have hh0:13≤i→((s.getD (Int.toNat 0) 0).toNat:Int)=48→numOf s=(0,2):=fun h h3=>by
    obtain⟨h4,h5⟩:=fJ hl (hdg h)
    have h3:(s.getD 0 0).toNat=48:=Int.ofNat.inj h3
    have h6:checkN (worth s)=2:=Aj7 (by rw[h3] at h4;omega)
    unfold numOf;rw[if_pos ⟨hl,hdg h⟩,h6];rfl
   have hfin:13≤i→¬((s.getD (Int.toNat 0) 0).toNat:Int)=48→numOf s=if (48+(worth ((s.drop 0).take (Int.toNat 12 - 0)):Int) % 7)=((s.getD (Int.toNat 12) 0).toNat:Int) then((worth s:Int),0) else(0,11):=fun h h3=>by
    obtain⟨h4,h5⟩:=fJ hl (hdg h)
    have h3: ¬(s.getD 0 0).toNat=48:=fun h=>h3 (congrArg Int.ofNat h)
    have h7:=Zp (l:=s) (i:=0) (by omega) (hdg h)
    have h8:=oE hl
    have h9:=Zp (l:=s) (i:=12) (by omega) (hdg h)
    have h10:=Pt (hdg h)
    rw[hl] at h10
    have e:(s.drop 0).take (Int.toNat 12 - 0)=s.take 12:=rfl
    have e2:s.getD (Int.toNat 12) 0=s.getD 12 0:=rfl
    rw[e,e2]
    have a1:(worth s:Int) / 10=worth (s.take 12):=by omega
    have a2:(worth s:Int) % 10=(s.getD 12 0).toNat - 48:=by omega
    unfold numOf;rw[if_pos ⟨hl,hdg h⟩,fI (by omega) (by omega),a1,a2]
    by_cases hc:(48+(worth (s.take 12):Int) % 7)=((s.getD 12 0).toNat:Int)
    ·rw[if_pos (by omega),if_pos hc]
    ·rw[if_neg (by omega),if_neg hc,if_neg (by omega)]
   (conv=>whnf)
   (repeat' ((first
    |with_reducible exact⟨⟩
    |((with_reducible refine aI ?_ ?_);focus (first|with_reducible rfl|omega|exact tK))
    |(split<;>rename_i hh<;>(try simp only[wS] at hh))
    |with_reducible refine iA ?_ ?_
    |fail)<;>(conv=>whnf)))
   all_goals (try (show _=_;simp only[wQ]))
   all_goals try (rw[hbad (by omega) (by omega)];done)
   all_goals try (rw[hh0 (by omega) (by assumption)];done)
   ·(conv=>whnf)
    refine⟨(i+1:Nat),[],?_,⟨⟨rfl,(nB rfl),rfl⟩,?_,?_⟩⟩
    ·exact⟨⟨show i+1≤13 by omega,E4 (by omega) h2 (by omega) (by omega)⟩,show 13 - (i+1)<13 - i by omega⟩
    ·exact Ac _
    ·exact tL
   refine⟨hdd (by omega),?_⟩
   have hda:=hdg (by omega)
   (conv=>whnf)
   (repeat' ((first
    |with_reducible exact⟨⟩
    |((with_reducible refine aI ?_ ?_);focus (first|exact tO|with_reducible rfl|omega|((with_reducible refine⟨?_,?_⟩)<;>first|with_reducible assumption|omega)))
    |(split<;>rename_i hh<;>(try simp only[wS] at hh))
    |with_reducible refine iA ?_ ?_
    |fail)<;>(conv=>whnf)))
   all_goals (try (show _=_;simp only[wQ]))
   all_goals have hfi:=hfin (by omega) (by assumption)
   all_goals first|(rw[hfi,if_neg (by omega)];done)|(rw[hfi,if_pos (by omega)];done)|trace_state
end
end Go.Vc.Z
