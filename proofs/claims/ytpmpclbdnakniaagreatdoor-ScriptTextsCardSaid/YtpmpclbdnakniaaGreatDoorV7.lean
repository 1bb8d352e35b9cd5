/- Regions that draw their order, five: whatever order is drawn. -/
import Derived.Test.YtpmpclbdnakniaaGreatDoorV6
set_option linter.all false
namespace Go.Vc
open Go
structure TE where
 dst:Option Nat
 r:AV
 W:List (Nat × Blk)
 R:List Nat
def TE.T(t:TE):List (Nat × AV):=match t.dst with|some d=>[(d,t.r)]|none=>[]
theorem put_eq(ts:List AV)(t:TE):put ts t.dst t.r=Cm ts t.T:=by
 unfold put TE.T;cases t.dst<;>rfl
def Tn(wr:Tmp→Bool)(o:Oper):Bool:=match o.dst with|some d=>wr d|none=>false
def Qz(TY:TypeId→Option TI)(D:PT)(wr:Tmp→Bool)(ops:Array Oper)(h0:Nat):List Oper→Nat→St→(List TE→St→Prop)→Prop
 |[],_,st,Q=>Q [] st
 |o::rest,j,st,Q=>
  match o.guard with
  |none=>opD TY D (Tn wr o) (h0+j) o.op st.tmps st.heap fun r W R=>Gf st.tmps o.dst r (Cm st.heap W) fun st1=>Qz TY D wr ops h0 rest (j+1) st1 fun tr st'=>Q (⟨o.dst,r,W,R⟩::tr) st'
  |some (g,want)=>match Mx ops g with
   |none=>False
   |some t=>match st.tmps[t]? with
    |some (.bool b)=>(match b with
     |true=>(match want with
      |true=>Ws (fun ts=>opD TY D (Tn wr o) (h0+j) o.op ts st.heap fun r W R=>Gf ts o.dst r (Cm st.heap W) fun st1=>Qz TY D wr ops h0 rest (j+1) st1 fun tr st'=>Q (⟨o.dst,r,W,R⟩::tr) st') (.bool true) st.tmps t
      |false=>Gf (st.tmps.set t (.bool true)) o.dst (.tup []) st.heap fun st1=>Qz TY D wr ops h0 rest (j+1) st1 fun tr st'=>Q (⟨o.dst,.tup [],[],[]⟩::tr) st')
     |false=>(match want with
      |false=>Ws (fun ts=>opD TY D (Tn wr o) (h0+j) o.op ts st.heap fun r W R=>Gf ts o.dst r (Cm st.heap W) fun st1=>Qz TY D wr ops h0 rest (j+1) st1 fun tr st'=>Q (⟨o.dst,r,W,R⟩::tr) st') (.bool false) st.tmps t
      |true=>Gf (st.tmps.set t (.bool false)) o.dst (.tup []) st.heap fun st1=>Qz TY D wr ops h0 rest (j+1) st1 fun tr st'=>Q (⟨o.dst,.tup [],[],[]⟩::tr) st'))
    |some (.tup cs)=>(match cs with
     |[]=>Gf (st.tmps.set t (.tup [])) o.dst (.tup []) st.heap fun st1=>Qz TY D wr ops h0 rest (j+1) st1 fun tr st'=>Q (⟨o.dst,.tup [],[],[]⟩::tr) st'
     |_=>False)
    |_=>False
section
variable {F : Nat → Obj → Prop} {P : Program} {TY : TypeId → Option TI} {C : FuncId → Option Ctr} {D : PT} {wr : Tmp → Bool} {ops : Array Oper} {h0 : Nat}
def A0a(TY:TypeId→Option TI)(D:PT)(wr:Tmp→Bool)(slot:Nat)(o:Oper)(te:TE)(ts:List AV)(H:List Blk):Prop:=
 ∀ (ts':List AV) (H':List Blk),(∀ x ∈ o.op.operands,evO ts' x=evO ts x)→(∀ id ∈ te.R,H'[id]? =H[id]?)→opD TY D (Tn wr o) slot o.op ts' H' (fun r W R=>r=te.r∧W=te.W∧R=te.R)
def Aby(TY:TypeId→Option TI)(D:PT)(wr:Tmp→Bool)(ops:Array Oper)(slot:Nat)(o:Oper)(te:TE)(ts:List AV)(H:List Blk):Prop:=
 te.dst=o.dst∧(match o.guard with
 |none=>A0a TY D wr slot o te ts H
 |some (g,want)=>∃ t c,Mx ops g=some t∧ts[t]? =some c∧((c= .bool want∧A0a TY D wr slot o te ts H)∨((c= .bool (!want)∨c= .tup [])∧te.r= .tup []∧te.W=[]∧te.R=[])))
theorem Sd{α:Type}{Dn:Nat→Bool}:∀ (ws:List (List (Nat × α))) (i:Nat) (b:List α),(∀ m,Dn m=false)→ov Dn i ws b=b
 |[],_,_,_=>rfl
 |w::ws,i,b,h=>by rw[ov,h i];exact Sd ws (i+1) b h
theorem dX:∀ (l:List Oper) (j:Nat) (st:St) (Q:List TE→St→Prop),Qz TY D wr ops h0 l j st Q→
  ∃ tr:List TE,tr.length=l.length∧Q tr ⟨ov (fun _=>true) 0 (tr.map TE.T) st.tmps,ov (fun _=>true) 0 (tr.map TE.W) st.heap⟩∧
   ∀ (m:Nat) o te,l[m]? =some o→tr[m]? =some te→Aby TY D wr ops (h0+(j+m)) o te (ov (fun i=>decide (i<m)) 0 (tr.map TE.T) st.tmps) (ov (fun i=>decide (i<m)) 0 (tr.map TE.W) st.heap)
 |[],j,st,Q,h=>⟨[],rfl,h,fun m o te hm=>by simp at hm⟩
 |o::rest,j,st,Q,h=>by
  have go:∀ te:TE,Aby TY D wr ops (h0+j) o te st.tmps st.heap→Qz TY D wr ops h0 rest (j+1) ⟨put st.tmps o.dst te.r,Cm st.heap te.W⟩ (fun tr st'=>Q (te::tr) st')→
    ∃ tr:List TE,tr.length=(o::rest).length∧Q tr ⟨ov (fun _=>true) 0 (tr.map TE.T) st.tmps,ov (fun _=>true) 0 (tr.map TE.W) st.heap⟩∧
     ∀ (m:Nat) o' te,(o::rest)[m]? =some o'→tr[m]? =some te→Aby TY D wr ops (h0+(j+m)) o' te (ov (fun i=>decide (i<m)) 0 (tr.map TE.T) st.tmps) (ov (fun i=>decide (i<m)) 0 (tr.map TE.W) st.heap):=by
   intro te hs ht;obtain⟨tr,h1,h2,h3⟩:=dX rest (j+1) _ _ ht;have hp:put st.tmps o.dst te.r=Cm st.tmps te.T:=(by rw[←hs.1];exact put_eq _ _);refine⟨te::tr,by simp[h1],?_,fun m o' te' hm htm=>?_⟩
   ·rw[hp] at h2;simp only[List.map_cons,ov];rw[Ls,Ls];exact h2
   ·cases m with
    |zero=>
     simp at hm htm
     subst hm;subst htm;rw[Sd _ _ _ (fun m=>by simp),Sd _ _ _ (fun m=>by simp)]
     exact hs
    |succ m=>
     have:=h3 m o' te' (by simpa using hm) (by simpa using htm)
     rw[hp] at this;simp only[List.map_cons,ov,Nat.zero_lt_succ,decide_true];rw[Ls,Ls];rw[show j+(m+1)=j+1+m by omega]
     have e:(fun i=>decide (i+1<m+1))=fun i=>decide (i<m):=(by funext i;simp);rw[e];exact this
  rw[Qz] at h;simp only[iI,Zf] at h;split at h
  ·rename_i hg;obtain⟨r,W,R,h1,h2⟩:=Abw h;exact go ⟨o.dst,r,W,R⟩ ⟨rfl,by rw[hg];exact h2⟩ h1
  ·rename_i g want hg;split at h
   ·exact h.elim
   ·rename_i t ht;split at h
    ·rename_i b hb;split at h
     ·rw[Ga hb] at h;split at h
      ·obtain⟨r,W,R,h1,h2⟩:=Abw h;exact go ⟨o.dst,r,W,R⟩ ⟨rfl,by rw[hg];exact⟨t,_,ht,hb,.inl ⟨rfl,h2⟩⟩⟩ h1
      ·exact go ⟨o.dst,.tup [],[],[]⟩ ⟨rfl,by rw[hg];exact⟨t,_,ht,hb,.inr ⟨.inl rfl,rfl,rfl,rfl⟩⟩⟩ h
     ·rw[Ga hb] at h;split at h
      ·obtain⟨r,W,R,h1,h2⟩:=Abw h;exact go ⟨o.dst,r,W,R⟩ ⟨rfl,by rw[hg];exact⟨t,_,ht,hb,.inl ⟨rfl,h2⟩⟩⟩ h1
      ·exact go ⟨o.dst,.tup [],[],[]⟩ ⟨rfl,by rw[hg];exact⟨t,_,ht,hb,.inr ⟨.inl rfl,rfl,rfl,rfl⟩⟩⟩ h
    ·rename_i cs hb;split at h
     ·rw[Ga hb] at h;exact go ⟨o.dst,.tup [],[],[]⟩ ⟨rfl,by rw[hg];exact⟨t,_,ht,hb,.inr ⟨.inr rfl,rfl,rfl,rfl⟩⟩⟩ h
     ·exact h.elim
    ·exact h.elim
def Td(ops:Array Oper)(oi oj:Oper)(ti tj:TE):Bool:=
 (match oi.dst with|some d=>(oj.looksAt ops).contains d || oj.dst == some d|none=>false) ||
 (match oj.dst with|some d=>(oi.looksAt ops).contains d|none=>false) ||
 (ti.W.any fun p=>tj.R.contains p.1 || Ec p.1 tj.W) || (ti.R.any fun x=>Ec x tj.W)
def Ake(ops:Array Oper)(tr:List TE)(i j:Nat):Bool:=match ops[i]?,ops[j]?,tr[i]?,tr[j]? with
 |some oi,some oj,some ti,some tj=>Td ops oi oj ti tj
 |_,_,_,_=>false
def Kw(cl:List Nat)(j i:Nat):Bool:=(cl.getD j 0).testBit i
def X5(ops:Array Oper):Bool:=(List.range ops.size).all fun j=>match ops[j]? with|some o=>(direct o).all fun i=>decide (i<j)|none=>true
def Abz(cl:List Nat)(k n:Nat):Bool:=(List.range n).all fun j=>decide (j<k) || (List.range j).all fun i=>Kw cl j i
def Apg(cl:List Nat)(ops:Array Oper)(k:Nat)(tr:List TE):Bool:=(List.range k).all fun j=>(List.range j).all fun i=>Kw cl j i || !Ake ops tr i j
def okB(ops:Array Oper)(k:Nat)(tr:List TE):Bool:=
 X5 ops&&Abz (Nb [] ops.toList) k ops.size&&Apg (Nb [] ops.toList) ops k tr
theorem tO{p:Prop}(h:p:=by((with_reducible show okB _ _ _=true);rfl)):p:=h
def Te(cl:List Nat):Nat→Nat
 |0=>0
 |j+1=>if (List.range j).all (fun i=>Kw cl j i) then Te cl j else j+1
def Ad4(TY:TypeId→Option TI)(C:FuncId→Option Ctr)(D:PT)(wr:Tmp→Bool)(ops:Array Oper)(st:St)(N:St→Prop):Prop:=
 Qz TY D wr ops st.heap.length (ops.toList.take (Te (Nb [] ops.toList) ops.size)) 0 ⟨st.tmps,st.heap++List.replicate (Te (Nb [] ops.toList) ops.size) .dead⟩ fun tr st'=>
  okB ops (Te (Nb [] ops.toList) ops.size) tr=true∧X3 TY C wr ops (ops.toList.drop (Te (Nb [] ops.toList) ops.size)) st' N
theorem Ny{i j:Nat}(h:Kw (Nb [] ops.toList) j i=true):Anc ops i j:=by
 unfold Kw at h;rw[List.getD_eq_getElem?_getD] at h;cases hl:(Nb [] ops.toList)[j]? with
 |none=>rw[hl] at h;simp at h
 |some l=>
  rw[hl] at h;exact sW ops ops.toList [] (fun m _=>by simp) (fun j l h=>by simp at h) j l hl i h
theorem jZ{Q:Exit→Act→World→Prop}{k:Nat}(hback:X5 ops=true)(htail:Abz (Nb [] ops.toList) k ops.size=true):∀ (fuel j:Nat) (listed:Array Bool) (a:Act) (w:World),
  listed.size=ops.size→(∀ m,m<ops.size→listed.getD m false=decide (m<j))→k≤j→fuel+j=ops.size→wpList P ops Q (ops.toList.drop j) a w→wpAny P .any ops Q fuel listed a w:=by
 intro fuel;induction fuel with
 |zero=>
  intro j listed a w hs hD hk hf h;rw[Nat.zero_add] at hf;subst hf;refine⟨?_,?_⟩
  ·rw[List.eq_nil_iff_forall_not_mem];intro i hi;obtain⟨h1,o,h2,_⟩:=mem_ready.1 hi;have hlt:i<ops.size:=(Array.getElem?_eq_some_iff.1 h2).1;have:=hD i hlt;have hls:i<listed.size:=(by omega);simp[hls] at h1 this
   rw[h1] at this;simp at this;omega
  ·rw[List.drop_eq_nil_of_le (by simp)] at h
   exact h
 |succ fuel ih=>
  intro j listed a w hs hD hk hf h;have hj:j<ops.size:=by omega
  have get:∀ i,i<ops.size→listed.getD i true=listed.getD i false:=fun i hi=>by simp[show i<listed.size by omega]
  have hDown:Down ops (fun m=>listed.getD m false):=by
   intro m o ho hd i hi;have hm:m<ops.size:=(Array.getElem?_eq_some_iff.1 ho).1;try simp only at hd ⊢
   rw[hD m hm] at hd;unfold X5 at hback;rw[List.all_eq_true] at hback;have:=hback m (List.mem_range.2 hm);rw[ho] at this;rw[List.all_eq_true] at this;have:=this i hi;simp at this hd
   rw[hD i (by omega)]
   simp;omega
  have only:∀ i,i ∈ Region.ready .any ops listed→i=j:=by
   intro i hi;obtain⟨h1,o,h2,h3⟩:=mem_ready.1 hi;have hlt:i<ops.size:=(Array.getElem?_eq_some_iff.1 h2).1;rw[get i hlt,hD i hlt] at h1;simp at h1
   rcases Nat.eq_or_lt_of_le h1 with h4|h4
   ·exact h4.symm
   ·exfalso;unfold Abz at htail;rw[List.all_eq_true] at htail;have:=htail i (List.mem_range.2 hlt);rw[Bool.or_eq_true] at this;rcases this with h5|h5
    ·simp at h5;omega
    ·rw[List.all_eq_true] at h5;have ha:=Ny (h5 j (List.mem_range.2 h4));have:=hDown.anc ha (fun o' ho' m hm=>by
      rw[h2] at ho';cases ho';unfold direct at hm;simp only[List.mem_map,List.mem_filter] at hm;obtain⟨e,⟨he,hb⟩,rfl⟩:=hm;exact h3 e (by simpa using he) hb)
     try simp only at this
     rw[hD j hj] at this;simp at this
  have hoj:ops[j]? =some ops[j]:=by simp[hj]
  refine⟨fun hr=>?_,fun i hi=>?_⟩
  ·exfalso;have:j ∈ Region.ready .any ops listed:=by
    rw[mem_ready];refine⟨by rw[get j hj,hD j hj];simp,ops[j],hoj,fun e he hb=>?_⟩
    unfold X5 at hback;rw[List.all_eq_true] at hback;have:=hback j (List.mem_range.2 hj);rw[hoj] at this;rw[List.all_eq_true] at this;have:=this e.on (by unfold direct;rw[List.mem_map];exact⟨e,by rw[List.mem_filter];exact⟨by simpa using he,hb⟩,rfl⟩)
    simp at this
    rw[hD e.on (by omega)];simp;omega
   rw[hr] at this;cases this
  ·obtain rfl:=only i hi;rw[List.drop_eq_getElem_cons (by simpa using hj)] at h
   unfold wpList at h;have e:ops.toList[i]'(by simpa using hj)=ops[i]:=by simp
   rw[e] at h;have next:∀ a w,wpList P ops Q (ops.toList.drop (i+1)) a w→wpAny P .any ops Q fuel (listed.setIfInBounds i true) a w:=by
    intro a w h;refine ih (i+1) _ a w (by simp[hs]) (fun m hm=>?_) (by omega) (by omega) h
    by_cases hmi:i=m
    ·subst hmi;simp[show i<listed.size by omega]
    ·rw[getD_set_ne false hmi,hD m hm];simp;omega
   unfold wpOp;rw[hoj];simp only;split at h
   ·rename_i hw;rw[if_pos hw];exact h.imp (Oper.wp_mono next) (fun h=>h)
   ·rename_i hw;rw[if_neg hw];exact next _ _ h
end
end Go.Vc
namespace Go.Vc
open Go
section
variable {F : Nat → Obj → Prop} {P : Program} {TY : TypeId → Option TI} {C : FuncId → Option Ctr} {D : PT} {wr : Tmp → Bool} {ops : Array Oper} {ρ : Nat → Option Nat} {S : Nat → Prop} {w0 : World}
theorem Ad5(cl:List Nat):∀ n,Te cl n≤n
 |0=>Nat.le_refl _
 |n+1=>by
  rw[Te];split
  ·exact Nat.le_succ_of_le (Ad5 cl n)
  ·exact Nat.le_refl _
theorem Xj{o:Oper}{t:Tmp}(h:(.tmp t:Operand) ∈ o.op.operands):(o.looksAt ops).contains t=true:=by
 rw[List.contains_iff_mem];exact List.mem_append_left _ (List.mem_filterMap.2 ⟨.tmp t,by simpa using h,rfl⟩)
theorem Pn{o:Oper}{g:Nat}{want:Bool}{t:Tmp}(h:o.guard=some (g,want))(ht:Mx ops g=some t):(o.looksAt ops).contains t=true:=by
 rw[List.contains_iff_mem];refine List.mem_append_right _ ?_;rw[h];unfold Mx at ht;simp only[ht];simp
theorem Ad6{oi oj:Oper}{ti tj:TE}{d:Nat}(h:oi.dst=some d)(h2:(oj.looksAt ops).contains d=true∨oj.dst=some d):Td ops oi oj ti tj=true:=by
 unfold Td;rw[h];rcases h2 with h2|h2
 ·simp only[h2,Bool.true_or]
 ·rw[h2];simp
theorem Am1{oi oj:Oper}{ti tj:TE}{d:Nat}(h:oj.dst=some d)(h2:(oi.looksAt ops).contains d=true):Td ops oi oj ti tj=true:=by
 unfold Td;rw[h];simp only[h2,Bool.or_true,Bool.true_or]
theorem Aph{oi oj:Oper}{ti tj:TE}{x:Nat}(h:Ec x ti.W=true)(h2:x ∈ tj.R∨Ec x tj.W=true):Td ops oi oj ti tj=true:=by
 unfold Td;have:(ti.W.any fun p=>tj.R.contains p.1 || Ec p.1 tj.W)=true:=by
  unfold Ec at h;rw[List.any_eq_true] at h ⊢;obtain⟨p,hp,he⟩:=h;have he:p.1=x:=by simpa using he
  refine⟨p,hp,?_⟩;rw[he];rcases h2 with h2|h2
  ·simp[h2]
  ·rw[h2];simp
 simp only[this,Bool.or_true,Bool.true_or]
theorem A0b{oi oj:Oper}{ti tj:TE}{x:Nat}(h:x ∈ ti.R)(h2:Ec x tj.W=true):Td ops oi oj ti tj=true:=by
 unfold Td;have:(ti.R.any fun x=>Ec x tj.W)=true:=by
  rw[List.any_eq_true];exact⟨x,h,h2⟩
 simp only[this,Bool.or_true]
theorem V4{t:TE}{k:Nat}(h:Ec k t.T=true):t.dst=some k:=by
 unfold TE.T at h;split at h
 ·rename_i d hd;simp[Ec] at h
  rw[hd,h]
 ·simp[Ec] at h
theorem Am2{H:List Blk}{w:World}(h:HRel ρ S w H)(k:Nat):HRel ρ S w (H++List.replicate k .dead):=by
 have key:∀ (i:Nat) (b:Blk),(H++List.replicate k Blk.dead)[i]? =some b→b.live=true→H[i]? =some b:=by
  intro i b hi hl;by_cases hlt:i<H.length
  ·rwa[List.getElem?_append_left hlt] at hi
  ·rw[List.getElem?_append_right (by omega),List.getElem?_replicate] at hi
   split at hi
   ·cases hi;cases hl
   ·cases hi
 refine⟨fun i j bi bj b hi hj li lj=>h.inj i j bi bj b (key i bi hi li) (key j bj hj lj) li lj,fun i b hi=>?_,fun i b hi=>?_⟩
 ·by_cases hl:b.live=true
  ·exact h.blk i b (key i b hi hl)
  ·cases b<;>first|exact trivial|exact absurd rfl hl
 ·have:=h.out i b hi;simp only[List.length_append,List.length_replicate];omega
theorem Po{listed:Array Bool}{i:Nat}(hi:i<listed.size):(fun m=>(listed.setIfInBounds i true).getD m false)=fun m=>m == 0+i || listed.getD m false:=by
 funext m
 by_cases hm:m=i
 ·subst hm;simp[hi]
 ·have:(m == 0+i)=false:=by simpa using hm
  rw[this,getD_set_ne false (Ne.symm hm)];simp
theorem Ai9(hTY:TyOk P TY)(hD:Cb F P D)(hC:Ad F P C){st:St}{a0:Act}(hR0:RelX F ρ S st a0 w0){N:St→Prop}{Q:Exit→Act→World→Prop}
  (hQ:∀ a' w',Reach F ρ S w0 N a' w'→Q .normal a' w') (h:Ad4 TY C D wr ops st N):wpAny P .any ops Q ops.size (Array.replicate ops.size false) a0 w0:=by
 unfold Ad4 at h;have hkn:=Ad5 (Nb [] ops.toList) ops.size;generalize hk:Te (Nb [] ops.toList) ops.size=k at h hkn
 obtain⟨tr,hlen,⟨hok,htl⟩,hstep⟩:=dX _ _ _ _ h;unfold okB at hok;simp only[Bool.and_eq_true] at hok;obtain⟨⟨hback,htailB⟩,hconf⟩:=hok;have hlen:tr.length=k:=by rw[hlen];simp;omega
 have conf:∀ i j oi oj ti tj,i<j→j<k→ops[i]? =some oi→ops[j]? =some oj→tr[i]? =some ti→tr[j]? =some tj→Td ops oi oj ti tj=true→Anc ops i j:=by
  intro i j oi oj ti tj hij hj hoi hoj hti htj hc;unfold Apg at hconf;rw[List.all_eq_true] at hconf;have:=hconf j (List.mem_range.2 hj);rw[List.all_eq_true] at this;have:=this i (List.mem_range.2 hij);rw[Bool.or_eq_true] at this;rcases this with h1|h1
  ·exact Ny h1
  ·unfold Ake at h1;simp only[hoi,hoj,hti,htj,hc] at h1;cases h1
 have step:∀ m o te,ops[m]? =some o→tr[m]? =some te→Aby TY D wr ops (st.heap.length+m) o te (ov (fun i=>decide (i<m)) 0 (tr.map TE.T) st.tmps) (ov (fun i=>decide (i<m)) 0 (tr.map TE.W) (st.heap++List.replicate k .dead)):=by
  intro m o te ho ht;have hmk:m<k:=by
   rcases Nat.lt_or_ge m k with h1|h1
   ·exact h1
   ·rw[List.getElem?_eq_none (by omega)] at ht;cases ht
  have:=hstep m o te (by rw[List.getElem?_take,if_pos hmk];simpa using ho) ht
  rwa[Nat.zero_add] at this
 have main:∀ (fuel:Nat) (listed:Array Bool) (a:Act) (w:World),listed.size=ops.size→Down ops (fun m=>listed.getD m false)→(∀ m,listed.getD m false=true→m<k)→Hw ops.size listed=fuel→
   (∃ ρ' S',RelX F ρ' S' ⟨ov (fun m=>listed.getD m false) 0 (tr.map TE.T) st.tmps,ov (fun m=>listed.getD m false) 0 (tr.map TE.W) (st.heap++List.replicate k .dead)⟩ a w∧Ext ρ S w0 ρ' S' w∧
    ∀ id b,ρ' id=some b→id<st.heap.length∨∃ m,listed.getD m false=true∧id=st.heap.length+m)→wpAny P .any ops Q fuel listed a w:=by
  intro fuel;induction fuel with
  |zero=>
   intro listed a w hs hdn hlt hf hst;have all:=dW hf;have hkk:k=ops.size:=by
    rcases Nat.eq_or_lt_of_le hkn with h1|h1
    ·exact h1
    ·have:=all k h1;have hls:k<listed.size:=(by omega);have:=hlt k (by simp[hls] at this ⊢;exact this)
     omega
   obtain⟨ρ',S',hR,hE,_⟩:=hst;have e:∀ {α:Type} (f:TE→List (Nat × α)) (b:List α),ov (fun m=>listed.getD m false) 0 (tr.map f) b=ov (fun _=>true) 0 (tr.map f) b:=fun f b=>Ln _ _ _ fun m hm=>by
    have hm:m<ops.size:=(by simp at hm;omega);have h1:=all m hm;have hls:m<listed.size:=(by omega);simp[hls] at h1 ⊢;exact h1
   rw[e,e] at hR;have hw:=Nv hTY hC ops (ops.toList.drop k) (Q:=Q) hR (fun a' w' hr=>hQ a' w' (hr.trans hE)) htl;exact jZ hback htailB 0 k listed a w hs (fun m hm=>by
    have h1:=all m hm;have hls:m<listed.size:=(by omega);simp[hls] at h1 ⊢;rw[h1];simp;omega) (Nat.le_refl _) (by omega) hw
  |succ fuel ih=>
   intro listed a w hs hdn hlt hf hst;have get:∀ i,i<ops.size→listed.getD i true=listed.getD i false:=fun i hi=>by simp[show i<listed.size by omega]
   by_cases hall:∀ m,m<k→listed.getD m false=true
   ·obtain⟨ρ',S',hR,hE,_⟩:=hst;have e:∀ {α:Type} (f:TE→List (Nat × α)) (b:List α),ov (fun m=>listed.getD m false) 0 (tr.map f) b=ov (fun _=>true) 0 (tr.map f) b:=fun f b=>Ln _ _ _ fun m hm=>by
     have hm:m<k:=(by simp at hm;omega);rw[Nat.zero_add];exact hall m hm
    rw[e,e] at hR;have hw:=Nv hTY hC ops (ops.toList.drop k) (Q:=Q) hR (fun a' w' hr=>hQ a' w' (hr.trans hE)) htl;have hDk:∀ m,listed.getD m false=decide (m<k):=fun m=>by
     by_cases hm:m<k
     ·rw[hall m hm];simp[hm]
     ·cases hc:listed.getD m false with
      |true=>exact absurd (hlt m hc) hm
      |false=>simp[hm]
    have hcount:Hw ops.size listed+k=ops.size:=by
     have:∀ n,n≤ops.size→(List.range n).countP (fun i=> !listed.getD i true)=n - k:=by
      intro n;induction n with
      |zero=>intro _;simp
      |succ n ihn=>
       intro hn;rw[List.range_succ,List.countP_append,ihn (by omega),List.countP_singleton,get n (by omega),hDk n]
       by_cases h1:n<k
       ·simp only[h1,decide_true];simp;omega
       ·simp only[h1,decide_false];simp;omega
     unfold Hw;rw[this ops.size (Nat.le_refl _)];omega
    exact jZ hback htailB (fuel+1) k listed a w hs (fun m _=>hDk m) (Nat.le_refl _) (by omega) hw
   ·have hlow:∀ i,i ∈ Region.ready .any ops listed→i<k:=by
     intro i hi;rcases Nat.lt_or_ge i k with h1|h1
     ·exact h1
     ·exfalso;apply hall
      intro m hm;obtain⟨_,o,h2,h3⟩:=mem_ready.1 hi;have hin:i<ops.size:=(Array.getElem?_eq_some_iff.1 h2).1;unfold Abz at htailB;rw[List.all_eq_true] at htailB;have:=htailB i (List.mem_range.2 hin);rw[Bool.or_eq_true] at this;rcases this with h5|h5
      ·simp at h5;omega
      ·rw[List.all_eq_true] at h5;have ha:=Ny (h5 m (List.mem_range.2 (by omega)))
       exact hdn.anc ha (fun o' ho' m hm=>by
        rw[h2] at ho';cases ho';unfold direct at hm;simp only[List.mem_map,List.mem_filter] at hm;obtain⟨e,⟨he,hb⟩,rfl⟩:=hm;exact h3 e (by simpa using he) hb)
    refine⟨fun hr=>?_,fun i hi=>?_⟩
    ·exfalso;have hex:∃ m,m<k∧listed.getD m false=false:=by
      by_cases h1:∃ m,m<k∧listed.getD m false=false
      ·exact h1
      ·exfalso;apply hall;intro m hm;cases hc:listed.getD m false with
       |true=>rfl
       |false=>exact absurd ⟨m,hm,hc⟩ h1
     obtain⟨m,⟨hmk,hmf⟩,hleast⟩:=exists_least hex;have hm:m<ops.size:=(by omega);have hom:ops[m]? =some ops[m]:=(by simp[hm]);have:m ∈ Region.ready .any ops listed:=by
      rw[mem_ready];refine⟨by rw[get m hm,hmf],ops[m],hom,fun e he hb=>?_⟩
      unfold X5 at hback;rw[List.all_eq_true] at hback;have:=hback m (List.mem_range.2 hm);rw[hom] at this;rw[List.all_eq_true] at this;have:=this e.on (by unfold direct;rw[List.mem_map];exact⟨e,by rw[List.mem_filter];exact⟨by simpa using he,hb⟩,rfl⟩)
      simp at this
      cases hc:listed.getD e.on false with
      |true=>rfl
      |false=>have:=hleast e.on ⟨by omega,hc⟩;omega
     rw[hr] at this;cases this
    ·have hik:=hlow i hi;obtain⟨hun,oi,hoi,hrdy⟩:=mem_ready.1 hi;have hin:i<ops.size:=(Array.getElem?_eq_some_iff.1 hoi).1;have hDi:listed.getD i false=false:=(by rw[←get i hin];exact hun);have hrdy':∀ o',ops[i]? =some o'→∀ m ∈ direct o',listed.getD m false=true:=fun o' ho' m hm=>by
      rw[hoi] at ho';cases ho';unfold direct at hm;simp only[List.mem_map,List.mem_filter] at hm;obtain⟨e,⟨he,hb⟩,rfl⟩:=hm;exact hrdy e (by simpa using he) hb
     have hti:tr[i]? =some tr[i]:=(by simp[hlen,hik]);generalize tr[i]=te at hti
     obtain⟨ρ',S',hR,hE,hdom⟩:=hst
     -- the others
     have oth:∀ (m:Nat) tm,tr[m]? =some tm→m≠i→(∀ om,ops[m]? =some om→tm.dst=om.dst→(m<i→Td ops om oi tm te=true)∧(i<m→Td ops oi om te tm=true))→listed.getD m false=decide (m<i):=by
      intro m tm htm hne hc;have hmk:m<k:=by
       rcases Nat.lt_or_ge m k with h1|h1
       ·exact h1
       ·rw[List.getElem?_eq_none (by omega)] at htm;cases htm
      have hom:ops[m]? =some ops[m]:=(by simp[show m<ops.size by omega]);have hs1:=step m _ tm hom htm;obtain⟨h1,h2⟩:=hc _ hom hs1.1;rcases Nat.lt_or_gt_of_ne hne with hlt'|hgt
      ·have ha:=conf m i _ _ _ _ hlt' hik hom hoi htm hti (h1 hlt');have:=hdn.anc ha hrdy';simp only[this,hlt',decide_true]
      ·have ha:=conf i m _ _ _ _ hgt hmk hoi hom hti htm (h2 hgt);have: ¬m<i:=by omega
       simp only[this,decide_false];cases hc:listed.getD m false with
       |false=>rfl
       |true=>
        have:=hdn.anc ha (fun o' ho' x hx=>hdn m o' ho' hc x hx);rw[hDi] at this;cases this
     have agT:∀ t,(oi.looksAt ops).contains t=true→(ov (fun m=>listed.getD m false) 0 (tr.map TE.T) st.tmps)[t]? =(ov (fun m=>decide (m<i)) 0 (tr.map TE.T) st.tmps)[t]? :=by
      intro t ht;refine Zk _ _ _ _ rfl rfl fun m wm hm hkey=>?_;rw[List.getElem?_map] at hm;cases htm:tr[m]? with
      |none=>rw[htm] at hm;cases hm
      |some tm=>
       rw[htm] at hm;cases hm;rw[Nat.zero_add];by_cases hmi:m=i
       ·subst hmi;rw[hDi];simp
       ·have hd:=V4 hkey;exact oth m tm htm hmi fun om _ hdd=>⟨fun _=>Ad6 (by rw[←hdd];exact hd) (.inl ht),fun _=>Am1 (by rw[←hdd];exact hd) ht⟩
     have agH:∀ id ∈ te.R,(ov (fun m=>listed.getD m false) 0 (tr.map TE.W) (st.heap++List.replicate k Blk.dead))[id]? =(ov (fun m=>decide (m<i)) 0 (tr.map TE.W) (st.heap++List.replicate k Blk.dead))[id]? :=by
      intro id hid;refine Zk _ _ _ _ rfl rfl fun m wm hm hkey=>?_;rw[List.getElem?_map] at hm;cases htm:tr[m]? with
      |none=>rw[htm] at hm;cases hm
      |some tm=>
       rw[htm] at hm;cases hm;rw[Nat.zero_add];by_cases hmi:m=i
       ·subst hmi;rw[hDi];simp
       ·exact oth m tm htm hmi fun om _ hdd=>⟨fun _=>Aph hkey (.inl hid),fun _=>A0b hid hkey⟩
     obtain⟨hdst,hgd⟩:=step i oi te hoi hti
     -- what comes
     have newT:put (ov (fun m=>listed.getD m false) 0 (tr.map TE.T) st.tmps) oi.dst te.r=ov (fun m=>(listed.setIfInBounds i true).getD m false) 0 (tr.map TE.T) st.tmps:=by
      rw[←hdst,put_eq,Po (by omega)]
      refine(Ai2 (D:=fun m=>listed.getD m false) (tr.map TE.T) 0 st.tmps (by rw[List.getElem?_map,hti];rfl) (by rw[Nat.zero_add];exact hDi) fun m wm hm hlt' hd key hkey=>?_).symm
      rw[List.getElem?_map] at hm;cases htm:tr[m]? with
      |none=>rw[htm] at hm;cases hm
      |some tm=>
       rw[htm] at hm;cases hm;rw[Nat.zero_add] at hd;cases hc:Ec key tm.T with
       |false=>rfl
       |true=>
        have h1:=V4 hkey;have h2:=V4 hc;have:=oth m tm htm (by omega) fun om _ hdd=>⟨fun h=>by omega,fun _=>Ad6 (d:=key) (by rw[←hdst];exact h1) (.inr (by rw[←hdd];exact h2))⟩
        rw[hd] at this;simp at this;omega
     have newH:Cm (ov (fun m=>listed.getD m false) 0 (tr.map TE.W) (st.heap++List.replicate k Blk.dead)) te.W=ov (fun m=>(listed.setIfInBounds i true).getD m false) 0 (tr.map TE.W) (st.heap++List.replicate k Blk.dead):=by
      rw[Po (by omega)]
      refine(Ai2 (D:=fun m=>listed.getD m false) (tr.map TE.W) 0 _ (by rw[List.getElem?_map,hti];rfl) (by rw[Nat.zero_add];exact hDi) fun m wm hm hlt' hd key hkey=>?_).symm
      rw[List.getElem?_map] at hm;cases htm:tr[m]? with
      |none=>rw[htm] at hm;cases hm
      |some tm=>
       rw[htm] at hm;cases hm;rw[Nat.zero_add] at hd;cases hc:Ec key tm.W with
       |false=>rfl
       |true=>
        have:=oth m tm htm (by omega) fun om _ hdd=>⟨fun h=>by omega,fun _=>Aph hkey (.inr hc)⟩
        rw[hd] at this;simp at this;omega
     have next:∀ a' w' ρ2 S2,RelX F ρ2 S2 ⟨ov (fun m=>(listed.setIfInBounds i true).getD m false) 0 (tr.map TE.T) st.tmps,ov (fun m=>(listed.setIfInBounds i true).getD m false) 0 (tr.map TE.W) (st.heap++List.replicate k .dead)⟩ a' w'→
       Ext ρ' S' w ρ2 S2 w'→(∀ id b,ρ2 id=some b→ρ' id=some b∨id=st.heap.length+i)→wpAny P .any ops Q fuel (listed.setIfInBounds i true) a' w':=by
      intro a' w' ρ2 S2 h1 h2 h3;have gd:∀ m,(listed.setIfInBounds i true).getD m false=true↔m=i∨listed.getD m false=true:=fun m=>by
       have:=congrFun (Po (listed:=listed) (i:=i) (by omega)) m
       try simp only at this
       rw[this];simp
      refine ih _ a' w' (by simp[hs]) ?_ ?_ ?_ ⟨ρ2,S2,h1,hE.trans h2,?_⟩
      ·intro j o ho hd m hm;rw[gd] at hd;rw[gd];rcases hd with rfl|hd
       ·exact .inr (hrdy' o ho m hm)
       ·exact .inr (hdn j o ho hd m hm)
      ·intro m hm;rw[gd] at hm;rcases hm with rfl|hm
       ·exact hik
       ·exact hlt m hm
      ·have:=jT hs hin hun;omega
      ·intro id b hid;rcases h3 id b hid with h4|h4
       ·rcases hdom id b h4 with h5|⟨m,h5,h6⟩
        ·exact .inl h5
        ·exact .inr ⟨m,(gd m).2 (.inr h5),h6⟩
       ·exact .inr ⟨i,(gd i).2 (.inl rfl),h4⟩
     have hsl:ρ' (st.heap.length+i)=none:=by
      cases hc:ρ' (st.heap.length+i) with
      |none=>rfl
      |some b=>
       rcases hdom _ b hc with h5|⟨m,h5,h6⟩
       ·omega
       ·obtain rfl:m=i:=by omega
        rw[hDi] at h5;cases h5
     have run:A0a TY D wr (st.heap.length+i) oi te (ov (fun m=>decide (m<i)) 0 (tr.map TE.T) st.tmps) (ov (fun m=>decide (m<i)) 0 (tr.map TE.W) (st.heap++List.replicate k Blk.dead))→
       oi.wp P a w (wpAny P .any ops Q fuel (listed.setIfInBounds i true)) Q:=by
      intro hruns;have h1:=hruns (ov (fun m=>listed.getD m false) 0 (tr.map TE.T) st.tmps) (ov (fun m=>listed.getD m false) 0 (tr.map TE.W) (st.heap++List.replicate k Blk.dead)) (fun x hx=>by
       cases x with
       |tmp t=>
        show List.getD _ t AV.any=List.getD _ t AV.any;rw[List.getD_eq_getElem?_getD,List.getD_eq_getElem?_getD,agT t (Xj hx)]
       |_=>rfl) agH
      refine Oper.wp_mono ?_ (Am0 hTY hD hR (by rw[sV];simp;omega) hsl oi h1)
      rintro a' w' ⟨r,W,R,ρ2,S2,⟨rfl,rfl,rfl⟩,h2,h3,h4⟩;simp only at h2;rw[newT,newH] at h2;exact next a' w' ρ2 S2 h2 h3 h4
     unfold wpOp;rw[hoi];simp only;cases hg:oi.guard with
     |none=>
      rw[hg] at hgd;rw[if_pos (by simp[Region.wanted,hg])]
      exact .inl (run hgd)
     |some gw=>
      obtain⟨g,want⟩:=gw;rw[hg] at hgd;obtain⟨t,c,ht,hb,hif⟩:=hgd;have hb':=(agT t (Pn hg ht)).trans hb;rcases hif with ⟨rfl,hif⟩|⟨hc,e1,e2,e3⟩
      ·have hy:=G1 ht hR.tmps hb';rw[if_pos (by simp[Region.wanted,hg,hy])]
       exact .inl (run hif)
      ·have hy:yielded ops a.tmps g≠some want:=by
        rcases hc with rfl|rfl
        ·rw[G1 ht hR.tmps hb'];simp
        ·rw[Na ht hR.tmps hb'];simp
       rw[if_neg (by simpa[Region.wanted,hg] using hy)]
       have h2:=Rel.put hR (Ext.refl _ _ _) hR.sok hR.heap (.tup [] #[] rfl (fun i c v hc=>by simp at hc)) oi.dst
       simp only at h2;rw[←e1,newT] at h2;have e4:=newH;rw[e2,Ai0] at e4;rw[e4] at h2;exact next _ _ ρ' S' h2 (Ext.refl _ _ _) (fun _ _ h=>.inl h)
 have hcome:Hw ops.size (Array.replicate ops.size false)=ops.size:=by
  unfold Hw;have:∀ n,n≤ops.size→(List.range n).countP (fun i=> !(Array.replicate ops.size false).getD i true)=n:=by
   intro n;induction n with
   |zero=>intro _;simp
   |succ n ihn=>
    intro hn;rw[List.range_succ,List.countP_append,ihn (by omega),List.countP_singleton]
    simp[show n<ops.size by omega]
  exact this _ (Nat.le_refl _)
 have hfalse:∀ m,(Array.replicate ops.size false).getD m false=false:=fun m=>by
  by_cases h1:m<ops.size
  ·simp[h1]
  ·simp[h1]
 refine main ops.size _ a0 w0 (by simp) (fun j o _ hd=>?_) (fun m hm=>?_) hcome ⟨ρ,S,?_,Ext.refl _ _ _,fun id b hid=>.inl (hR0.heap.out id b hid).1⟩
 ·have hd:(Array.replicate ops.size false).getD j false=true:=hd;rw[hfalse] at hd;cases hd
 ·rw[hfalse] at hm;cases hm
 ·rw[Sd _ _ _ hfalse,Sd _ _ _ hfalse];exact⟨⟨hR0.defers,hR0.tmps,Am2 hR0.heap k⟩,hR0.sok⟩
end
end Go.Vc
namespace Go.Vc
open Go
def bY:Op→Bool
 | .move _=>true
 | .assign _=>true
 | .pick .. =>true
 | .build .. =>true
 | .load .. =>true
 | .nilCheck _=>true
 | .binOp .. =>true
 | .unOp .. =>true
 | .convert .. =>true
 | .makeInterface .. =>true
 | .makeFunc .. =>true
 | .slice .. =>true
 | .fieldAddr .. =>true
 | .field .. =>true
 | .indexAddr .. =>true
 | .index .. =>true
 | .lookup .. =>true
 | .extract .. =>true
 | .call c=>(match c.callee with| .builtin b=>(match b with| .len=>true|_=>false)|_=>false)
 |_=>false
def opQ(TY:TypeId→Option TI)(wr:Bool)(op:Op)(ts:List AV)(H:List Blk)(N:AV→Prop):Prop:=
 match op with
 | .call c=>(match c.callee with
  | .builtin b=>(match b with
   | .len=>(match c.argTypes.toList,c.args.toList.map (evO ts) with|[t],[x]=>Ai5 TY t x N|_,_=>False)
   |_=>False)
  |_=>False)
 |op=>opV TY wr op ts H N
def Ab0(TY:TypeId→Option TI)(C:FuncId→Option Ctr)(wr:Tmp→Bool)(o:Oper)(ts:List AV)(H:List Blk)(M:AV→List Blk→Prop):Prop:=
 match o.op with
 | .call c=>(match c.callee with
  | .value f=>(match evO ts f with
   | .fn g caps=>(match C g with
    |some K=>K (c.args.toList.map (evO ts)++caps) H M
    |none=>False)
   |_=>False)
  | .builtin b=>G0 TY b c.argTypes.toList (c.args.toList.map (evO ts)) H M
  |_=>False)
 |op=>opA TY (match o.dst with|some d=>wr d|none=>false) op ts H M
structure PE where
 i:Nat
 ts:List AV
 r:AV
def X6(TY:TypeId→Option TI)(wr:Tmp→Bool)(ops:Array Oper)(cl:List Nat)(j:Nat)(H:List Blk)(l:List PE):Prop→Prop:=
 List.rec (motive:=fun _=>Prop→Prop) (fun X=>X)
  (fun pe _ ih X=>match pe with
   |⟨pi,pts,pr⟩=>(match Kw cl j pi with
    |true=>ih X
    |false=>(match ops[pi]? with
     |some o=>opQ TY (Tn wr o) o.op pts H (fun r=>r=pr)∧ih X
     |none=>False))) l
def Api(TY:TypeId→Option TI)(C:FuncId→Option Ctr)(wr:Tmp→Bool)(ops:Array Oper)(cl:List Nat)(j:Nat)(ih:List PE→St→(St→Prop)→Prop)(pend:List PE)(st:St)(Q:St→Prop):Prop:=
   match ops[j]? with
   |none=>False
   |some o=>(match bY o.op with
    |true=>(match o.guard with
     |none=>opQ TY (Tn wr o) o.op st.tmps st.heap fun r=>Gf st.tmps o.dst r st.heap fun st1=>ih (⟨j,st.tmps,r⟩::pend) st1 Q
     |some (g,want)=>(match Mx ops g with
      |none=>False
      |some t=>(match st.tmps[t]? with
       |some (.bool b)=>(match b with
        |true=>(match want with
         |true=>Ws (fun ts=>opQ TY (Tn wr o) o.op ts st.heap fun r=>Gf ts o.dst r st.heap fun st1=>ih (⟨j,ts,r⟩::pend) st1 Q) (.bool true) st.tmps t
         |false=>Gf (st.tmps.set t (.bool true)) o.dst (.tup []) st.heap fun st1=>ih pend st1 Q)
        |false=>(match want with
         |false=>Ws (fun ts=>opQ TY (Tn wr o) o.op ts st.heap fun r=>Gf ts o.dst r st.heap fun st1=>ih (⟨j,ts,r⟩::pend) st1 Q) (.bool false) st.tmps t
         |true=>Gf (st.tmps.set t (.bool false)) o.dst (.tup []) st.heap fun st1=>ih pend st1 Q))
       |some (.tup cs)=>(match cs with
        |[]=>Gf (st.tmps.set t (.tup [])) o.dst (.tup []) st.heap fun st1=>ih pend st1 Q
        |_=>False)
       |_=>False)))
    |false=>(match o.guard with
     |none=>Ab0 TY C wr o st.tmps st.heap fun r H'=>Gf st.tmps o.dst r H' fun st1=>X6 TY wr ops cl j st1.heap pend (ih pend st1 Q)
     |some (g,want)=>(match Mx ops g with
      |none=>False
      |some t=>(match st.tmps[t]? with
       |some (.bool b)=>(match b with
        |true=>(match want with
         |true=>Ws (fun ts=>Ab0 TY C wr o ts st.heap fun r H'=>Gf ts o.dst r H' fun st1=>X6 TY wr ops cl j st1.heap pend (ih pend st1 Q)) (.bool true) st.tmps t
         |false=>Gf (st.tmps.set t (.bool true)) o.dst (.tup []) st.heap fun st1=>ih pend st1 Q)
        |false=>(match want with
         |false=>Ws (fun ts=>Ab0 TY C wr o ts st.heap fun r H'=>Gf ts o.dst r H' fun st1=>X6 TY wr ops cl j st1.heap pend (ih pend st1 Q)) (.bool false) st.tmps t
         |true=>Gf (st.tmps.set t (.bool false)) o.dst (.tup []) st.heap fun st1=>ih pend st1 Q))
       |some (.tup cs)=>(match cs with
        |[]=>Gf (st.tmps.set t (.tup [])) o.dst (.tup []) st.heap fun st1=>ih pend st1 Q
        |_=>False)
       |_=>False))))
def gK(TY:TypeId→Option TI)(C:FuncId→Option Ctr)(wr:Tmp→Bool)(ops:Array Oper)(cl:List Nat)(l:List Nat):List PE→St→(St→Prop)→Prop:=
 List.rec (motive:=fun _=>List PE→St→(St→Prop)→Prop) (fun _ st Q=>Q st)
  (fun j _ ih=>Api TY C wr ops cl j ih) l
def bZ(ops:Array Oper)(oi oj:Oper):Bool:=
 (match oi.dst with|some d=>(oj.looksAt ops).contains d || oj.dst == some d|none=>false) ||
 (match oj.dst with|some d=>(oi.looksAt ops).contains d|none=>false)
def dY(ops:Array Oper)(j:Nat):Bool:=match ops[j]? with|some o=> !bY o.op|none=>false
def kA(ops:Array Oper)(cl:List Nat)(i j:Nat):Bool:=
 Kw cl j i || (!dY ops i&&(match ops[i]?,ops[j]? with|some oi,some oj=> !bZ ops oi oj|_,_=>false))
def iO(ops:Array Oper)(cl:List Nat):List Nat→Bool
 |[]=>true
 |i::l=>l.all (fun j=>kA ops cl i j)&&(!l.contains i&&iO ops cl l)
def okQ(ops:Array Oper)(l:List Nat):Bool:=
 X5 ops&&((List.range ops.size).all (fun j=>l.contains j)&&(l.all (fun j=>decide (j<ops.size))&&iO ops (Nb [] ops.toList) l))
def Akf(TY:TypeId→Option TI)(C:FuncId→Option Ctr)(wr:Tmp→Bool)(ops:Array Oper)(l:List Nat)(st:St)(N:St→Prop):Prop:=
 okQ ops l=true∧gK TY C wr ops (Nb [] ops.toList) l [] st N
section
variable {F : Nat → Obj → Prop} {P : Program} {TY : TypeId → Option TI} {C : FuncId → Option Ctr} {D : PT} {wr : Tmp → Bool} {ops : Array Oper} {cl : List Nat} {ρ : Nat → Option Nat} {S : Nat → Prop} {w0 w : World}
theorem Att{wr:Bool}{op:Op}{ts:List AV}{H:List Blk}{N:AV→Prop}(h:opQ TY wr op ts H N):opV TY wr op ts H N:=by
 unfold opQ at h;split at h
 ·rename_i c;unfold opV;split at h
  ·rename_i b hb;split at h
   ·split at h
    ·rename_i t x h1 h2;simp only[hb,h1,h2,bR,G0];exact sZ h
    ·exact h.elim
   ·exact h.elim
  ·exact h.elim
 ·exact h
theorem Atu{wr:Bool}{op:Op}{ts:List AV}{H:List Blk}:Det (opQ TY wr op ts H):=by
 intro N h;unfold opQ at h ⊢;split at h
 ·split at h
  ·split at h
   ·split at h
    ·exact Ad2 N h
    ·exact h.elim
   ·exact h.elim
  ·exact h.elim
 ·rename_i hc;obtain⟨r,h1,h2⟩:=Akd hc N h;exact⟨r,h1,h2⟩
theorem tD{wr:Bool}{op:Op}{ts ts':List AV}{H:List Blk}{N:AV→Prop}(hx:∀ x ∈ op.operands,evO ts' x=evO ts x)(h:opQ TY wr op ts H N):opQ TY wr op ts' H N:=by
 unfold opQ at h ⊢;split at h
 ·rename_i c;rw[Nx (xs:=c.args) (ts:=ts) (ts':=ts') fun x hx'=>hx x (by simp[Op.operands,Call.operands,hx'])]
  exact h
 ·rename_i hc;rw[tB (H':=H) hc hx (fun id _=>rfl)];exact h
theorem Sf{ts ts':List AV}(o:Option Operand)(ho:∀ y,o=some y→evO ts' y=evO ts y):o.map (evO ts')=o.map (evO ts):=by
 cases o with
 |none=>rfl
 |some y=>rw[Option.map_some,Option.map_some,ho y rfl]
theorem Am3{wr:Bool}{op:Op}{ts ts':List AV}{H:List Blk}{N:AV→List Blk→Prop}(hc:∀ c,op≠ .call c)(hx:∀ x ∈ op.operands,evO ts' x=evO ts x):opA TY wr op ts' H N=opA TY wr op ts H N:=by
 cases op<;>simp only[Op.operands] at hx<;>simp only[opA]
 case move x=>rw[hx x (by simp)]
 case assign x=>rw[hx x (by simp)]
 case pick c x y=>rw[hx c (by simp),hx x (by simp),hx y (by simp)]
 case box e x=>rw[hx x (by simp)]
 case build t ps=>rw[Nc fun x h=>hx x (by simpa using h)]
 case buildSlice t n ps=>rw[Nc fun x h=>hx x (by simpa using h)]
 case insert t m k x=>rw[hx m (by simp),hx k (by simp),hx x (by simp)]
 case mapUpdate t m k x=>rw[hx m (by simp),hx k (by simp),hx x (by simp)]
 case load t x=>rw[hx x (by simp)]
 case store t a x=>rw[hx a (by simp),hx x (by simp)]
 case nilCheck x=>rw[hx x (by simp)]
 case binOp op t x y yt=>rw[hx x (by simp),hx y (by simp)]
 case unOp op t x=>rw[hx x (by simp)]
 case convert s d x=>rw[hx x (by simp)]
 case makeInterface t x=>rw[hx x (by simp)]
 case makeFunc fn first caps=>rw[Nx (xs:=caps) fun x h=>hx x (by simp[h])]
 case makeMap t r=>cases r<;>rfl
 case makeSlice t l c=>rw[hx l (by simp),hx c (by simp)]
 case slice t x l h m=>
  rw[hx x (by simp)]
  rw[Sf l fun y hy=>hx y (by subst hy;simp),Sf h fun y hy=>hx y (by subst hy;simp),Sf m fun y hy=>hx y (by subst hy;simp)]
 case fieldAddr t x f=>rw[hx x (by simp)]
 case field t x f=>rw[hx x (by simp)]
 case indexAddr t x i=>rw[hx x (by simp),hx i (by simp)]
 case index t x i=>rw[hx x (by simp),hx i (by simp)]
 case lookup t x i ok=>rw[hx x (by simp),hx i (by simp)]
 case range t x=>rw[hx x (by simp)]
 case next x b=>rw[hx x (by simp)]
 case extract t i=>rw[hx t (by simp)]
 case call c=>exact absurd rfl (hc _)
theorem Aja{o:Oper}{ts ts':List AV}{H:List Blk}{M:AV→List Blk→Prop}(hx:∀ x ∈ o.op.operands,evO ts' x=evO ts x)(h:Ab0 TY C wr o ts H M):Ab0 TY C wr o ts' H M:=by
 unfold Ab0 at h ⊢;split at h
 ·rename_i c hop;rw[hop] at hx;rw[Nx (xs:=c.args) (ts:=ts) (ts':=ts') fun x hx'=>hx x (by simp[Op.operands,Call.operands,hx'])]
  split at h
  ·rename_i f hf;rw[hx f (by simp[Op.operands,Call.operands,hf])]
   exact h
  ·exact h
  ·exact h.elim
 ·rename_i hc;rw[Am3 (fun c e=>hc c e) hx];exact h
theorem Ajb(hTY:TyOk P TY)(hC:Ad F P C)(o:Oper){ts:List AV}{H:List Blk}{a:Act}(hR:RelX F ρ S ⟨ts,H⟩ a w){M:AV→List Blk→Prop}{Q:Exit→Act→World→Prop}(h:Ab0 TY C wr o ts H M):
  o.wp P a w (fun a' w'=>∃ r H' ρ' S',M r H'∧RelX F ρ' S' ⟨put ts o.dst r,H'⟩ a' w'∧Ext ρ S w ρ' S' w') Q:=by
 have plain:OpOk P ρ S w (execOp a.eval o) M→o.wp P a w (fun a' w'=>∃ r H' ρ' S',M r H'∧RelX F ρ' S' ⟨put ts o.dst r,H'⟩ a' w'∧Ext ρ S w ρ' S' w') Q:=by
  intro hok;obtain⟨v,w',c,H',ρ',h1,h2,h3,h4,h5⟩:=hok;have hs':Sok F S w':=hR.sok.still h5;unfold Oper.wp;rcases h1 with h1|⟨h1,rfl⟩
  ·rw[h1];exact⟨c,H',ρ',S,h2,Rel.put hR h5 hs' h4 h3 _,h5⟩
  ·rw[h1];exact⟨c,H',ρ',S,h2,Rel.put hR h5 hs' h4 h3 _,h5⟩
 unfold Ab0 at h;split at h
 ·rename_i c hop;split at h
  ·rename_i f hf;split at h
   ·rename_i g caps hg;split at h
    ·rename_i K hK;obtain⟨hent,hgood⟩:=hC g K hK;have hfv:=hR.tmps.eval f;rw[hg] at hfv;cases hev:a.eval f<;>rw[hev] at hfv<;>cases hfv
     rename_i vs hl hv;have hrun:(execOp a.eval o).run P w= .ok (.enter g (c.args.map a.eval++vs)) w:=by
      unfold execOp;rw[hop];simp only[resolve,hf,hev,Deferred.ofValue,Sem.run_bind,Sem.run_pure,Result.andThen_ok,invoke,Array.empty_append];exact hent _ w
     unfold Oper.wp;rw[hrun,Oper.upon_enter];refine(hgood ρ S w H _ _ _ hR.sok hR.heap ⟨by simp[hl],fun i c' v' hc' hv'=>?_⟩ h).mono ?_
     ·by_cases hlt:i<c.args.size
      ·rw[List.getElem?_append_left (by simpa using hlt),List.getElem?_map] at hc'
       rw[Array.getElem?_append_left (by simpa using hlt),Array.getElem?_map] at hv'
       rw[show c.args.toList[i]? =c.args[i]? by simp] at hc'
       cases hi:c.args[i]? with
       |none=>rw[hi] at hc';cases hc'
       |some x=>
        rw[hi] at hc' hv';cases hc';cases hv';exact hR.tmps.eval x
      ·rw[List.getElem?_append_right (by simp;omega)] at hc'
       rw[Array.getElem?_append_right (by simp;omega)] at hv'
       simp only[List.length_map,Array.length_toList] at hc';simp only[Array.size_map] at hv';exact hv _ _ _ hc' hv'
     ·rintro e w' ⟨v,c',H',ρ',S',rfl,hN,hv',hH',hE,hs'⟩;exact⟨c',H',ρ',S',hN,Rel.put hR hE hs' hH' hv' _,hE⟩
    ·exact h.elim
   ·exact h.elim
  ·rename_i b hb;refine plain (Nm hTY hR.sok.lt hR.heap hR.tmps (wr:=false) o (N:=M) ?_);rw[hop];simp only[opA,hb];exact h
  ·exact h.elim
 ·exact plain (Nm hTY hR.sok.lt hR.heap hR.tmps o (N:=M) h)
def tE(TY:TypeId→Option TI)(wr:Tmp→Bool)(o:Oper)(r:AV)(ts:List AV)(H:List Blk):Prop:=
 ∀ ts':List AV,(∀ x ∈ o.op.operands,evO ts' x=evO ts x)→opQ TY (Tn wr o) o.op ts' H (fun c=>c=r)
def GuardQ(TY:TypeId→Option TI)(wr:Tmp→Bool)(ops:Array Oper)(pend:List PE)(o:Oper)(j:Nat)(te:TE)(ts:List AV)(H:List Blk):Prop:=
 match o.guard with
 |none=>tE TY wr o te.r ts H∧⟨j,ts,te.r⟩ ∈ pend
 |some (g,want)=>∃ t c,Mx ops g=some t∧ts[t]? =some c∧((c= .bool want∧tE TY wr o te.r ts H∧⟨j,ts,te.r⟩ ∈ pend)∨((c= .bool (!want)∨c= .tup [])∧te.r= .tup []))
def A1f(TY:TypeId→Option TI)(wr:Tmp→Bool)(ops:Array Oper)(pend:List PE)(o:Oper)(j:Nat)(te:TE)(ts:List AV)(H:List Blk):Prop:=
 te.dst=o.dst∧GuardQ TY wr ops pend o j te ts H
theorem GuardQ.mono{pend pend':List PE}{o:Oper}{j:Nat}{te:TE}{ts:List AV}{H:List Blk}(hp:∀ pe ∈ pend,pe ∈ pend')(h:GuardQ TY wr ops pend o j te ts H):GuardQ TY wr ops pend' o j te ts H:=by
 unfold GuardQ at h ⊢;split at h
 ·exact⟨h.1,hp _ h.2⟩
 ·obtain⟨t,c,h1,h2,h3⟩:=h;refine⟨t,c,h1,h2,?_⟩;rcases h3 with ⟨h4,h5,h6⟩|h4
  ·exact .inl ⟨h4,h5,hp _ h6⟩
  ·exact .inr h4
theorem Atv{o:Oper}{ts:List AV}{H:List Blk}{N:AV→Prop}(h:opQ TY (Tn wr o) o.op ts H N):∃ r,N r∧tE TY wr o r ts H:=by
 obtain⟨r,h1,h2⟩:=Atu N h;exact⟨r,h1,fun ts' hx=>tD hx h2⟩
theorem kB{α:Type}{Dn:Nat→Bool}:∀ (ws ws':List (List (Nat × α))) (i:Nat) (b:List α),ov Dn i (ws++ws') b=ov Dn (i+ws.length) ws' (ov Dn i ws b)
 |[],ws',i,b=>by simp[ov]
 |w::ws,ws',i,b=>by
  rw[List.cons_append,ov,ov,kB ws ws' (i+1),List.length_cons,show i+1+ws.length=i+(ws.length+1) by omega]
theorem Ab1{α:Type}{Dn:Nat→Bool}:∀ (k:Nat) (ws:List (List (Nat × α))) (b:List α),ov Dn k ws b=ov (fun m=>Dn (k+m)) 0 ws b
 |0,ws,b=>by simp
 |k+1,ws,b=>by
  rw[Ls,Ab1 k];congr 1
  funext m
  rw[show k+m+1=k+1+m by omega]
theorem Apj{α:Type}{Dn:Nat→Bool}:∀ (ws:List (List (Nat × α))) (i:Nat) (b:List α),(∀ m,i≤m→Dn m=false)→ov Dn i ws b=b
 |[],_,_,_=>rfl
 |w::ws,i,b,h=>by rw[ov,h i (Nat.le_refl _)];exact Apj ws (i+1) b fun m hm=>h m (by omega)
theorem tF{j:Nat}{rest:List Nat}{pend:List PE}{st:St}{Q:St→Prop}(h:gK TY C wr ops cl (j::rest) pend st Q):∃ o,ops[j]? =some o∧
  ((bY o.op=true∧∃ te pend',te.dst=o.dst∧(∀ pe ∈ pend,pe ∈ pend')∧GuardQ TY wr ops pend' o j te st.tmps st.heap∧gK TY C wr ops cl rest pend' ⟨put st.tmps o.dst te.r,st.heap⟩ Q)∨
   (bY o.op=false∧
   ((∃ t c g want,o.guard=some (g,want)∧Mx ops g=some t∧st.tmps[t]? =some c∧(c= .bool (!want)∨c= .tup [])∧gK TY C wr ops cl rest pend ⟨put st.tmps o.dst (.tup []),st.heap⟩ Q)∨
    ((o.guard=none∨∃ t g want,o.guard=some (g,want)∧Mx ops g=some t∧st.tmps[t]? =some (.bool want))∧
    Ab0 TY C wr o st.tmps st.heap fun r H'=>X6 TY wr ops cl j H' pend (gK TY C wr ops cl rest pend ⟨put st.tmps o.dst r,H'⟩ Q))))):=by
 change Api TY C wr ops cl j (gK TY C wr ops cl rest) pend st Q at h;unfold Api at h;simp only[iI,Zf] at h;cases ho:ops[j]? with
 |none=>rw[ho] at h;exact h.elim
 |some o=>
  rw[ho] at h;simp only at h;refine⟨o,rfl,?_⟩;cases hp:bY o.op with
  |true=>
   rw[hp] at h;simp only at h;refine .inl ⟨rfl,?_⟩;have run:∀ ts,ts=st.tmps→(opQ TY (Tn wr o) o.op ts st.heap fun r=>gK TY C wr ops cl rest (⟨j,ts,r⟩::pend) ⟨put ts o.dst r,st.heap⟩ Q)→
     ∃ r,tE TY wr o r st.tmps st.heap∧gK TY C wr ops cl rest (⟨j,st.tmps,r⟩::pend) ⟨put st.tmps o.dst r,st.heap⟩ Q:=by
    rintro ts rfl h;obtain⟨r,h1,h2⟩:=Atv h;exact⟨r,h2,h1⟩
   split at h
   ·rename_i hg;obtain⟨r,h1,h2⟩:=run _ rfl h;exact⟨⟨o.dst,r,[],[]⟩,_,rfl,fun pe hpe=>List.mem_cons_of_mem _ hpe,by unfold GuardQ;rw[hg];exact⟨h1,List.mem_cons_self⟩,h2⟩
   ·rename_i g want hg;split at h
    ·exact h.elim
    ·rename_i t ht;split at h
     ·rename_i b hb;split at h
      ·rw[Ga hb] at h;split at h
       ·obtain⟨r,h1,h2⟩:=run _ rfl h;exact⟨⟨o.dst,r,[],[]⟩,_,rfl,fun pe hpe=>List.mem_cons_of_mem _ hpe,by unfold GuardQ;rw[hg];exact⟨t,_,ht,hb,.inl ⟨rfl,h1,List.mem_cons_self⟩⟩,h2⟩
       ·exact⟨⟨o.dst,.tup [],[],[]⟩,pend,rfl,fun _ h=>h,by unfold GuardQ;rw[hg];exact⟨t,_,ht,hb,.inr ⟨.inl rfl,rfl⟩⟩,h⟩
      ·rw[Ga hb] at h;split at h
       ·obtain⟨r,h1,h2⟩:=run _ rfl h;exact⟨⟨o.dst,r,[],[]⟩,_,rfl,fun pe hpe=>List.mem_cons_of_mem _ hpe,by unfold GuardQ;rw[hg];exact⟨t,_,ht,hb,.inl ⟨rfl,h1,List.mem_cons_self⟩⟩,h2⟩
       ·exact⟨⟨o.dst,.tup [],[],[]⟩,pend,rfl,fun _ h=>h,by unfold GuardQ;rw[hg];exact⟨t,_,ht,hb,.inr ⟨.inl rfl,rfl⟩⟩,h⟩
     ·rename_i cs hb;split at h
      ·rw[Ga hb] at h;exact⟨⟨o.dst,.tup [],[],[]⟩,pend,rfl,fun _ h=>h,by unfold GuardQ;rw[hg];exact⟨t,_,ht,hb,.inr ⟨.inr rfl,rfl⟩⟩,h⟩
      ·exact h.elim
     ·exact h.elim
  |false=>
   rw[hp] at h;simp only at h;refine .inr ⟨rfl,?_⟩;split at h
   ·rename_i hg;exact .inr ⟨.inl hg,h⟩
   ·rename_i g want hg;split at h
    ·exact h.elim
    ·rename_i t ht;split at h
     ·rename_i b hb;split at h
      ·rw[Ga hb] at h;split at h
       ·exact .inr ⟨.inr ⟨t,g,_,hg,ht,hb⟩,h⟩
       ·exact .inl ⟨t,_,g,_,hg,ht,hb,.inl rfl,h⟩
      ·rw[Ga hb] at h;split at h
       ·exact .inr ⟨.inr ⟨t,g,_,hg,ht,hb⟩,h⟩
       ·exact .inl ⟨t,_,g,_,hg,ht,hb,.inl rfl,h⟩
     ·rename_i cs hb;split at h
      ·rw[Ga hb] at h;exact .inl ⟨t,_,g,_,hg,ht,hb,.inr rfl,h⟩
      ·exact h.elim
     ·exact h.elim
theorem X7:∀ (rest:List Nat) (pend:List PE) (ts:List AV) (H:List Blk) (Q:St→Prop),gK TY C wr ops cl rest pend ⟨ts,H⟩ Q→
  ∃ (ps rest2:List Nat) (tr2:List TE) (pend2:List PE),rest=ps++rest2∧(∀ j ∈ ps,dY ops j=false)∧(∀ j rr,rest2=j::rr→dY ops j=true)∧tr2.length=ps.length∧
   gK TY C wr ops cl rest2 pend2 ⟨ov (fun _=>true) 0 (tr2.map TE.T) ts,H⟩ Q∧(∀ pe ∈ pend,pe ∈ pend2)∧
   ∀ (p j:Nat) o te,ps[p]? =some j→ops[j]? =some o→tr2[p]? =some te→A1f TY wr ops pend2 o j te (ov (fun m=>decide (m<p)) 0 (tr2.map TE.T) ts) H
 |[],pend,ts,H,Q,h=>⟨[],[],[],pend,rfl,fun _ h=>(by cases h),fun _ _ h=>(by cases h),rfl,h,fun _ h=>h,fun p j o te hp=>by simp at hp⟩
 |j::rest,pend,ts,H,Q,h=>by
  obtain⟨o,ho,hcase⟩:=tF h;rcases hcase with ⟨hp,te,pend',hd,hsub,hg,hr⟩|⟨hp,_⟩
  ·obtain⟨ps,rest2,tr2,pend2,h1,h2,h3,h4,h5,h6,h7⟩:=X7 rest pend' _ _ Q hr;have hput:put ts o.dst te.r=Cm ts te.T:=(by rw[←hd];exact put_eq _ _);simp only at hput h5 h7;rw[hput] at h5 h7;refine⟨j::ps,rest2,te::tr2,pend2,by rw[h1];rfl,fun i hi=>?_,h3,by simp[h4],?_,fun pe hpe=>h6 _ (hsub _ hpe),fun p i o' te' hpi hoi hti=>?_⟩
   ·rcases List.mem_cons.1 hi with rfl|hi
    ·unfold dY;rw[ho];simp[hp]
    ·exact h2 i hi
   ·simp only[List.map_cons,ov];rw[Ls];exact h5
   ·cases p with
    |zero=>
     simp at hpi hti
     subst hpi;subst hti;rw[ho] at hoi;cases hoi;rw[Sd _ _ _ (fun m=>by simp)]
     exact⟨hd,hg.mono h6⟩
    |succ p=>
     have:=h7 p i o' te' (by simpa using hpi) hoi (by simpa using hti)
     simp only[List.map_cons,ov,Nat.zero_lt_succ,decide_true];rw[Ls];have e:(fun i=>decide (i+1<p+1))=fun i=>decide (i<p):=(by funext i;simp);rw[e];exact this
  ·exact⟨[],j::rest,[],pend,rfl,fun _ h=>(by cases h),fun i rr h=>by cases h;unfold dY;rw[ho];simp[hp],rfl,h,fun _ h=>h,fun p j o te hp=>by simp at hp⟩
theorem Uh{j:Nat}{H:List Blk}:∀ {l:List PE} {X:Prop},X6 TY wr ops cl j H l X→X∧∀ pe ∈ l,Kw cl j pe.i=true∨∃ o,ops[pe.i]? =some o∧opQ TY (Tn wr o) o.op pe.ts H (fun r=>r=pe.r)
 |[],X,h=>⟨h,fun _ h=>(by cases h)⟩
 |pe::l,X,h=>by
  change (match Kw cl j pe.i with
   |true=>X6 TY wr ops cl j H l X
   |false=>(match ops[pe.i]? with
    |some o=>opQ TY (Tn wr o) o.op pe.ts H (fun r=>r=pe.r)∧X6 TY wr ops cl j H l X
    |none=>False)) at h
  cases ha:Kw cl j pe.i with
  |true=>
   rw[ha] at h;obtain⟨h1,h2⟩:=Uh h;refine⟨h1,fun q hq=>?_⟩;rcases List.mem_cons.1 hq with rfl|hq
   ·exact .inl ha
   ·exact h2 q hq
  |false=>
   rw[ha] at h;simp only at h;cases ho:ops[pe.i]? with
   |none=>rw[ho] at h;exact h.elim
   |some o=>
    rw[ho] at h;obtain⟨h0,h⟩:=h;obtain⟨h1,h2⟩:=Uh h;refine⟨h1,fun q hq=>?_⟩;rcases List.mem_cons.1 hq with rfl|hq
    ·exact .inr ⟨o,ho,h0⟩
    ·exact h2 q hq
end
end Go.Vc
