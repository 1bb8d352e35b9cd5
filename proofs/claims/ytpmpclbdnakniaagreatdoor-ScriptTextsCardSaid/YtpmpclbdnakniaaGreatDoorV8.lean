/- Regions that draw their order, eight: such a region, whatever order is drawn. -/
import Derived.Test.YtpmpclbdnakniaaGreatDoorV7
set_option linter.all false
namespace Go.Vc
open Go
section
variable {F : Nat → Obj → Prop} {P : Program} {TY : TypeId → Option TI} {C : FuncId → Option Ctr} {D : PT} {wr : Tmp → Bool} {ops : Array Oper} {cl : List Nat} {ρ : Nat → Option Nat} {S : Nat → Prop} {w0 w : World}
theorem Zl:∀ {l:List Nat},iO ops cl l=true→∀ (p q i j:Nat),p<q→l[p]? =some i→l[q]? =some j→kA ops cl i j=true∧i≠j
 |[],_,p,q,i,j,_,hp,_=>by simp at hp
 |x::l,h,p,q,i,j,hpq,hp,hq=>by
  simp only[iO,Bool.and_eq_true,Bool.not_eq_true'] at h;obtain⟨h1,h2,h3⟩:=h;obtain⟨q,rfl⟩:∃ q',q=q'+1:=⟨q - 1,by omega⟩
  simp only[List.getElem?_cons_succ] at hq;cases p with
  |zero=>
   simp at hp
   subst hp;refine⟨List.all_eq_true.1 h1 j (List.mem_of_getElem? hq),?_⟩;rintro rfl;have:=List.mem_of_getElem? hq;rw[←List.contains_iff_mem] at this;rw[this] at h2;cases h2
  |succ p=>exact Zl h3 p q i j (by omega) (by simpa using hp) hq
theorem A0c{α:Type}{Dn Dn':Nat→Bool}(ws ws':List (List (Nat × α)))(b:List α)(h:∀ m,m<ws.length→Dn m=Dn' m)(h2:∀ m,ws.length≤m→Dn m=false):ov Dn 0 (ws++ws') b=ov Dn' 0 ws b:=by
 rw[kB,Apj _ _ _ (fun m hm=>h2 m (by omega))]
 exact Ln _ _ _ fun m hm=>by rw[Nat.zero_add];exact h m hm
theorem Akg{α:Type}{Dn:Nat→Bool}:∀ (ws:List (List (Nat × α))) (i:Nat) (b:List α),(∀ m,i≤m→m<i+ws.length→Dn m=false)→ov Dn i ws b=b
 |[],_,_,_=>rfl
 |w::ws,i,b,h=>by rw[ov,h i (Nat.le_refl _) (by simp)];exact Akg ws (i+1) b fun m hm hl=>h m (by omega) (by simp;omega)
theorem GuardQ.step{pend pend2:List PE}{o:Oper}{j:Nat}{te:TE}{ts:List AV}{H H':List Blk}(ho:ops[j]? =some o)(hp:∀ pe ∈ pend,pe ∈ pend2)
  (hn:H'=H∨∀ pe ∈ pend,pe.i=j→∃ o,ops[pe.i]? =some o∧opQ TY (Tn wr o) o.op pe.ts H' (fun r=>r=pe.r)) (h:GuardQ TY wr ops pend o j te ts H):GuardQ TY wr ops pend2 o j te ts H':=by
 rcases hn with rfl|hn
 ·exact h.mono hp
 ·have runs:⟨j,ts,te.r⟩ ∈ pend→tE TY wr o te.r ts H':=fun hm=>by
   obtain⟨o',h1,h2⟩:=hn _ hm rfl;simp only[ho] at h1;cases h1;exact fun ts' hx=>tD hx h2
  unfold GuardQ at h ⊢;split at h
  ·exact⟨runs h.2,hp _ h.2⟩
  ·obtain⟨t,c,h1,h2,h3⟩:=h;refine⟨t,c,h1,h2,?_⟩;rcases h3 with ⟨h4,h5,h6⟩|h4
   ·exact .inl ⟨h4,runs h6,hp _ h6⟩
   ·exact .inr h4
structure InvQ (F:Nat→Obj→Prop) (TY:TypeId→Option TI) (C:FuncId→Option Ctr) (wr:Tmp→Bool) (ops:Array Oper) (l:List Nat) (ρ:Nat→Option Nat) (S:Nat→Prop) (w0:World) (ts0:List AV) (N:St→Prop) (listed:Array Bool) (a:Act) (w:World)
  (pre rest:List Nat) (tr:List TE) (pend:List PE) (H:List Blk) (ρ':Nat→Option Nat) (S':Nat→Prop):Prop where
 all:l=pre++rest
 len:tr.length=pre.length
 inp:∀ j,listed.getD j false=true→j ∈ pre
 eff:∀ j ∈ pre,dY ops j=true→listed.getD j false=true
 hd:∀ j rr,rest=j::rr→dY ops j=true
 run:gK TY C wr ops (Nb [] ops.toList) rest pend ⟨ov (fun _=>true) 0 (tr.map TE.T) ts0,H⟩ N
 rel:RelX F ρ' S' ⟨ov (fun p=>listed.getD (pre.getD p 0) false) 0 (tr.map TE.T) ts0,H⟩ a w
 ext:Ext ρ S w0 ρ' S' w
 stp:∀ (p j:Nat) o te,pre[p]? =some j→ops[j]? =some o→tr[p]? =some te→te.dst=o.dst∧(listed.getD j false=false→GuardQ TY wr ops pend o j te (ov (fun m=>decide (m<p)) 0 (tr.map TE.T) ts0) H)
theorem Ad7(hTY:TyOk P TY)(hC:Ad F P C){l:List Nat}{st:St}{a0:Act}(hR0:RelX F ρ S st a0 w0){N:St→Prop}{Q:Exit→Act→World→Prop}
  (hQ:∀ a' w',Reach F ρ S w0 N a' w'→Q .normal a' w') (h:Akf TY C wr ops l st N):wpAny P .any ops Q ops.size (Array.replicate ops.size false) a0 w0:=by
 obtain⟨hok,hrun⟩:=h;unfold okQ at hok;simp only[Bool.and_eq_true,decide_eq_true_eq] at hok;obtain⟨hback,hlen,hall,hpairs⟩:=hok;have hlt:∀ j ∈ l,j<ops.size:=fun j hj=>by simpa using List.all_eq_true.1 hall j hj
 have pairs:=Zl hpairs;have nodup:∀ (p q i:Nat),l[p]? =some i→l[q]? =some i→p=q:=fun p q i hp hq=>by
  rcases Nat.lt_trichotomy p q with h1|h1|h1
  ·exact absurd rfl (pairs p q i i h1 hp hq).2
  ·exact h1
  ·exact absurd rfl (pairs q p i i h1 hq hp).2
 have hmem:∀ j,j<ops.size→j ∈ l:=fun j hj=>by
  have:=List.all_eq_true.1 hlen j (List.mem_range.2 hj);rwa[List.contains_iff_mem] at this
 have main:∀ (fuel:Nat) (listed:Array Bool) (a:Act) (w:World),listed.size=ops.size→Down ops (fun m=>listed.getD m false)→Hw ops.size listed=fuel→
   (∃ pre rest tr pend H ρ' S',InvQ F TY C wr ops l ρ S w0 st.tmps N listed a w pre rest tr pend H ρ' S')→wpAny P .any ops Q fuel listed a w:=by
  intro fuel;induction fuel with
  |zero=>
   intro listed a w hs hdn hf hst;have all:=dW hf;have allF:∀ i,i<ops.size→listed.getD i false=true:=fun i hi=>by
    have h1:=all i hi;have hls:i<listed.size:=(by omega);simp[hls] at h1 ⊢;exact h1
   obtain⟨pre,rest,tr,pend,H,ρ',S',I⟩:=hst;have hrest:rest=[]:=by
    cases rest with
    |nil=>rfl
    |cons j rr=>
     exfalso;have hj:j ∈ l:=(by rw[I.all];simp);have hjp:=I.inp j (allF j (hlt j hj));obtain⟨p,hp⟩:=List.getElem?_of_mem hjp;have hpl:p<pre.length:=(List.getElem?_eq_some_iff.1 hp).1;have h1:l[p]? =some j:=(by rw[I.all,List.getElem?_append_left hpl];exact hp);have h2:l[pre.length]? =some j:=(by rw[I.all,List.getElem?_append_right (Nat.le_refl _)];simp);have:=nodup _ _ _ h1 h2;omega
   subst hrest;refine⟨?_,?_⟩
   ·rw[List.eq_nil_iff_forall_not_mem];intro i hi;obtain⟨h1,o,h2,_⟩:=mem_ready.1 hi;have hlt:i<ops.size:=(Array.getElem?_eq_some_iff.1 h2).1;have:=all i hlt;rw[h1] at this;cases this
   ·have hr:=I.rel;have e:ov (fun p=>listed.getD (pre.getD p 0) false) 0 (tr.map TE.T) st.tmps=ov (fun _=>true) 0 (tr.map TE.T) st.tmps:=Ln _ _ _ fun m hm=>by
     rw[Nat.zero_add];have hm:m<pre.length:=(by simp[I.len] at hm;exact hm);have:pre.getD m 0=pre[m]:=by simp[List.getD_eq_getElem?_getD,hm]
     rw[this];exact allF _ (hlt _ (by rw[I.all];simp))
    rw[e] at hr;exact hQ a w ⟨_,ρ',S',I.run,hr,I.ext⟩
  |succ fuel ih=>
   intro listed a w hs hdn hf hst;have get:∀ i,i<ops.size→listed.getD i true=listed.getD i false:=fun i hi=>by simp[show i<listed.size by omega]
   obtain⟨pre,rest,tr,pend,H,ρ',S',I⟩:=hst;refine⟨fun hr=>?_,fun i hi=>?_⟩
   ·exfalso;have hex:∃ m,m<ops.size∧listed.getD m false=false:=by
     by_cases h1:∃ m,m<ops.size∧listed.getD m false=false
     ·exact h1
     ·exfalso;have:Hw ops.size listed=0:=by
       unfold Hw;rw[List.countP_eq_zero];intro m hm;have hm:=List.mem_range.1 hm;rw[get m hm];cases hc:listed.getD m false with
       |true=>simp
       |false=>exact absurd ⟨m,hm,hc⟩ h1
      omega
    obtain⟨m,⟨hm,hmf⟩,hleast⟩:=exists_least hex;have hom:ops[m]? =some ops[m]:=(by simp[hm]);have:m ∈ Region.ready .any ops listed:=by
     rw[mem_ready];refine⟨by rw[get m hm,hmf],ops[m],hom,fun e he hb=>?_⟩
     unfold X5 at hback;rw[List.all_eq_true] at hback;have:=hback m (List.mem_range.2 hm);rw[hom] at this;rw[List.all_eq_true] at this;have:=this e.on (by unfold direct;rw[List.mem_map];exact⟨e,by rw[List.mem_filter];exact⟨by simpa using he,hb⟩,rfl⟩)
     simp at this
     cases hc:listed.getD e.on false with
     |true=>rfl
     |false=>have:=hleast e.on ⟨by omega,hc⟩;omega
    rw[hr] at this;cases this
   ·obtain⟨hun,oi,hoi,hrdy⟩:=mem_ready.1 hi;have hin:i<ops.size:=(Array.getElem?_eq_some_iff.1 hoi).1;have hDi:listed.getD i false=false:=(by rw[←get i hin];exact hun);have hrdy':∀ o',ops[i]? =some o'→∀ m ∈ direct o',listed.getD m false=true:=fun o' ho' m hm=>by
     rw[hoi] at ho';cases ho';unfold direct at hm;simp only[List.mem_map,List.mem_filter] at hm;obtain⟨e,⟨he,hb⟩,rfl⟩:=hm;exact hrdy e (by simpa using he) hb
    have anc:∀ m,Kw (Nb [] ops.toList) i m=true→listed.getD m false=true:=fun m hm=>hdn.anc (Ny hm) hrdy';have anc2:∀ m,Kw (Nb [] ops.toList) m i=true→listed.getD m false=false:=fun m hm=>by
     cases hc:listed.getD m false with
     |false=>rfl
     |true=>
      have:=hdn.anc (Ny hm) (fun o' ho' x hx=>hdn m o' ho' hc x hx);simp only[hDi] at this;cases this
    have gd:∀ m,(listed.setIfInBounds i true).getD m false=(m == i || listed.getD m false):=fun m=>by
     have:=congrFun (Po (listed:=listed) (i:=i) (by omega)) m
     try simp only at this
     rw[this,Nat.zero_add]
    have hdn':Down ops (fun m=>(listed.setIfInBounds i true).getD m false):=by
     intro j o ho hd m hm;simp only[gd,Bool.or_eq_true,beq_iff_eq] at hd ⊢;rcases hd with rfl|hd
     ·exact .inr (hrdy' o ho m hm)
     ·exact .inr (hdn j o ho hd m hm)
    have hcome:Hw ops.size (listed.setIfInBounds i true)=fuel:=by
     have:=jT hs hin hun;omega
    -- where it stands in the order
    have at_pre:∀ {p j:Nat},pre[p]? =some j→l[p]? =some j:=fun {p j} hp=>by
     rw[I.all,List.getElem?_append_left (List.getElem?_eq_some_iff.1 hp).1];exact hp
    have oth:∀ (Pi:Nat),l[Pi]? =some i→∀ (m j:Nat) om,pre[m]? =some j→ops[j]? =some om→(m<Pi→bZ ops om oi=true)→(Pi<m→bZ ops oi om=true)→listed.getD j false=decide (m<Pi):=by
     intro Pi hPi m j om hm hom h1 h2;rcases Nat.lt_trichotomy m Pi with hlt'|rfl|hgt
     ·obtain⟨hp,_⟩:=pairs m Pi j i hlt' (at_pre hm) hPi;unfold kA at hp;rw[Bool.or_eq_true] at hp;rcases hp with hp|hp
      ·rw[anc j hp];simp[hlt']
      ·rw[hom,hoi] at hp;simp only[h1 hlt',Bool.not_true,Bool.and_false] at hp;cases hp
     ·rw[at_pre hm] at hPi;cases hPi;rw[hDi];simp
     ·obtain⟨hp,_⟩:=pairs Pi m i j hgt hPi (at_pre hm);unfold kA at hp;rw[Bool.or_eq_true] at hp;have hng: ¬m<Pi:=(by omega);rcases hp with hp|hp
      ·rw[anc2 j hp];simp[hng]
      ·rw[hom,hoi] at hp;simp only[h2 hgt,Bool.not_true,Bool.and_false] at hp;cases hp
    have agT:∀ (Pi:Nat),l[Pi]? =some i→∀ t,(oi.looksAt ops).contains t=true→(ov (fun p=>listed.getD (pre.getD p 0) false) 0 (tr.map TE.T) st.tmps)[t]? =(ov (fun m=>decide (m<Pi)) 0 (tr.map TE.T) st.tmps)[t]? :=by
     intro Pi hPi t ht;refine Zk _ _ _ _ rfl rfl fun m wm hm hkey=>?_;rw[List.getElem?_map] at hm;cases htm:tr[m]? with
     |none=>rw[htm] at hm;cases hm
     |some tm=>
      rw[htm] at hm;cases hm;rw[Nat.zero_add];have hml:m<pre.length:=(by rw[←I.len];exact(List.getElem?_eq_some_iff.1 htm).1);have hpm:pre[m]? =some pre[m]:=(by simp[hml]);have hg:pre.getD m 0=pre[m]:=(by simp[List.getD_eq_getElem?_getD,hml]);rw[hg];have hjl:pre[m]<ops.size:=hlt _ (by rw[I.all];simp)
      have hom:ops[pre[m]]? =some ops[pre[m]]:=(by simp[hjl]);have hd:=(I.stp m _ _ tm hpm hom htm).1;have hk:=V4 hkey;rw[hd] at hk;refine oth Pi hPi m _ _ hpm hom (fun _=>?_) (fun _=>?_)
      ·unfold bZ;rw[hk];simp only[ht,Bool.true_or]
      ·unfold bZ;rw[hk];simp only[ht,Bool.or_true]
    have agO:∀ (Pi:Nat),l[Pi]? =some i→∀ x ∈ oi.op.operands,evO (ov (fun p=>listed.getD (pre.getD p 0) false) 0 (tr.map TE.T) st.tmps) x=evO (ov (fun m=>decide (m<Pi)) 0 (tr.map TE.T) st.tmps) x:=by
     intro Pi hPi x hx;cases x with
     |tmp t=>
      show List.getD _ t AV.any=List.getD _ t AV.any;rw[List.getD_eq_getElem?_getD,List.getD_eq_getElem?_getD,agT Pi hPi t (Xj hx)]
     |_=>rfl
    by_cases hpre:i ∈ pre
    ·-- one that only looks
     obtain⟨p,hp⟩:=List.getElem?_of_mem hpre;have hpl:p<pre.length:=(List.getElem?_eq_some_iff.1 hp).1;have hPi:=at_pre hp;obtain⟨te,hti⟩:∃ te,tr[p]? =some te:=⟨tr[p]'(by rw[I.len];exact hpl),by simp[I.len,hpl]⟩
     obtain⟨hdst,hgd⟩:=I.stp p i oi te hp hoi hti;have hgd:=hgd hDi;have newT:put (ov (fun p=>listed.getD (pre.getD p 0) false) 0 (tr.map TE.T) st.tmps) oi.dst te.r=ov (fun p=>(listed.setIfInBounds i true).getD (pre.getD p 0) false) 0 (tr.map TE.T) st.tmps:=by
      rw[←hdst,put_eq];have h1:=Ai2 (D:=fun p=>listed.getD (pre.getD p 0) false) (j:=p) (tr.map TE.T) 0 st.tmps (by rw[List.getElem?_map,hti];rfl)
       (by rw[Nat.zero_add];show listed.getD (pre.getD p 0) false=false;rw[show pre.getD p 0=i by rw[List.getD_eq_getElem?_getD,hp];rfl];exact hDi) (fun m wm hm hlt' hd key hkey=>?_)
      ·rw[←h1];refine Ln _ _ _ fun m hm=>?_;have hm:m<pre.length:=(by simp[I.len] at hm;exact hm);rw[Nat.zero_add,gd];have hpm:pre[m]? =some pre[m]:=(by simp[hm]);have hg:pre.getD m 0=pre[m]:=(by simp[List.getD_eq_getElem?_getD,hm]);rw[hg];congr 1
       rw[Bool.eq_iff_iff,beq_iff_eq,beq_iff_eq,Nat.zero_add];constructor
       ·rintro rfl;rw[hpm] at hp;exact Option.some.inj hp
       ·intro he;exact nodup m p i (by rw[at_pre hpm,he]) hPi
      ·rw[List.getElem?_map] at hm;cases htm:tr[m]? with
       |none=>rw[htm] at hm;cases hm
       |some tm=>
        rw[htm] at hm;cases hm;rw[Nat.zero_add] at hd;cases hc:Ec key tm.T with
        |false=>rfl
        |true=>
         have hml:m<pre.length:=(by rw[←I.len];exact(List.getElem?_eq_some_iff.1 htm).1);have hpm:pre[m]? =some pre[m]:=(by simp[hml]);have hg:pre.getD m 0=pre[m]:=(by simp[List.getD_eq_getElem?_getD,hml]);have hjl:pre[m]<ops.size:=hlt _ (by rw[I.all];simp)
         have hom:ops[pre[m]]? =some ops[pre[m]]:=(by simp[hjl]);have k1:=V4 hkey;have k2:=V4 hc;rw[hdst] at k1;rw[(I.stp m _ _ tm hpm hom htm).1] at k2;have:=oth p hPi m _ _ hpm hom (fun h=>by omega) (fun _=>by unfold bZ;rw[k1,k2];simp)
         simp only[hg] at hd;rw[hd] at this;simp at this;omega
     have next:∀ a' ρ2 S2,RelX F ρ2 S2 ⟨put (ov (fun p=>listed.getD (pre.getD p 0) false) 0 (tr.map TE.T) st.tmps) oi.dst te.r,H⟩ a' w→Ext ρ' S' w ρ2 S2 w→wpAny P .any ops Q fuel (listed.setIfInBounds i true) a' w:=by
      intro a' ρ2 S2 h1 h2;rw[newT] at h1;refine ih _ a' w (by simp[hs]) hdn' hcome ⟨pre,rest,tr,pend,H,ρ2,S2,I.all,I.len,fun j hj=>?_,fun j hj he=>?_,I.hd,I.run,h1,I.ext.trans h2,fun q j o te' h3 h4 h5=>⟨(I.stp q j o te' h3 h4 h5).1,fun h6=>(I.stp q j o te' h3 h4 h5).2 ?_⟩⟩
      ·rw[gd,Bool.or_eq_true,beq_iff_eq] at hj;rcases hj with rfl|hj
       ·exact hpre
       ·exact I.inp j hj
      ·rw[gd,I.eff j hj he];simp
      ·rw[gd,Bool.or_eq_false_iff] at h6;exact h6.2
     have run:tE TY wr oi te.r (ov (fun m=>decide (m<p)) 0 (tr.map TE.T) st.tmps) H→oi.wp P a w (wpAny P .any ops Q fuel (listed.setIfInBounds i true)) Q:=by
      intro hruns;have h1:=Att (hruns _ (agO p hPi));obtain⟨v,c,h2,h3,h4⟩:=bS hTY I.rel.heap I.rel.tmps oi h1;unfold Oper.wp;rw[h2];subst h3;exact next _ ρ' S' (Rel.put I.rel (Ext.refl _ _ _) I.rel.sok I.rel.heap h4 _) (Ext.refl _ _ _)
     unfold wpOp;rw[hoi];simp only;unfold GuardQ at hgd;cases hg:oi.guard with
     |none=>
      rw[hg] at hgd;rw[if_pos (by simp[Region.wanted,hg])]
      exact .inl (run hgd.1)
     |some gw=>
      obtain⟨g,want⟩:=gw;rw[hg] at hgd;obtain⟨t,c,ht,hb,hif⟩:=hgd;have hb':=(agT p hPi t (Pn hg ht)).trans hb;rcases hif with ⟨rfl,hif,_⟩|⟨hc,e1⟩
      ·have hy:=G1 ht I.rel.tmps hb';rw[if_pos (by simp[Region.wanted,hg,hy])]
       exact .inl (run hif)
      ·have hy:yielded ops a.tmps g≠some want:=by
        rcases hc with rfl|rfl
        ·rw[G1 ht I.rel.tmps hb'];simp
        ·rw[Na ht I.rel.tmps hb'];simp
       rw[if_neg (by simpa[Region.wanted,hg] using hy)]
       have h2:=Rel.put I.rel (Ext.refl _ _ _) I.rel.sok I.rel.heap (.tup [] #[] rfl (fun i c v hc=>by simp at hc)) oi.dst
       simp only at h2;rw[←e1] at h2;exact next _ ρ' S' h2 (Ext.refl _ _ _)
    ·-- the next one that turns memory
     have hil:i ∈ l:=hmem i hin;have hir:i ∈ rest:=by
      rw[I.all] at hil;rcases List.mem_append.1 hil with h1|h1
      ·exact absurd h1 hpre
      ·exact h1
     obtain⟨e,rr,hre⟩:∃ e rr,rest=e::rr:=by
      cases rest with
      |nil=>cases hir
      |cons e rr=>exact⟨e,rr,rfl⟩
     have hee:=I.hd e rr hre;have he_at:l[pre.length]? =some e:=(by rw[I.all,hre,List.getElem?_append_right (Nat.le_refl _)];simp);have hie:i=e:=by
      rw[hre] at hir;rcases List.mem_cons.1 hir with h1|h1
      ·exact h1
      ·exfalso;obtain⟨q,hq⟩:=List.getElem?_of_mem h1;have hq':l[pre.length+(q+1)]? =some i:=by
        rw[I.all,hre,List.getElem?_append_right (by omega)]
        simp[hq]
       obtain⟨hp,_⟩:=pairs _ _ e i (by omega) he_at hq'
       unfold kA at hp;rw[Bool.or_eq_true] at hp;rcases hp with hp|hp
       ·have h2:=I.inp e (anc e hp);obtain⟨p2,hp2⟩:=List.getElem?_of_mem h2;have:=nodup _ _ _ (at_pre hp2) he_at;have:=(List.getElem?_eq_some_iff.1 hp2).1;omega
       ·rw[hee] at hp;simp at hp
     subst hie;have ag:=agT pre.length he_at;have agx:=agO pre.length he_at;have e0:ov (fun m=>decide (m<pre.length)) 0 (tr.map TE.T) st.tmps=ov (fun _=>true) 0 (tr.map TE.T) st.tmps:=Ln _ _ _ fun m hm=>by
      simp[I.len] at hm;simp[hm]
     rw[e0] at agx;simp only[e0] at ag;have hrun:=I.run;rw[hre] at hrun;obtain⟨o',ho',hcase⟩:=tF hrun;rw[hoi] at ho';cases ho';have hpf:bY oi.op=false:=by
      unfold dY at hee;rw[hoi] at hee;simpa using hee
     -- behind it
     have next:∀ a' w' r H' ρ2 S2 (Hnew:H'=H∨∀ pe ∈ pend,Kw (Nb [] ops.toList) i pe.i=true∨∃ o,ops[pe.i]? =some o∧opQ TY (Tn wr o) o.op pe.ts H' (fun r=>r=pe.r)),
       RelX F ρ2 S2 ⟨put (ov (fun p=>listed.getD (pre.getD p 0) false) 0 (tr.map TE.T) st.tmps) oi.dst r,H'⟩ a' w'→Ext ρ' S' w ρ2 S2 w'→
       gK TY C wr ops (Nb [] ops.toList) rr pend ⟨put (ov (fun _=>true) 0 (tr.map TE.T) st.tmps) oi.dst r,H'⟩ N→wpAny P .any ops Q fuel (listed.setIfInBounds i true) a' w':=by
      intro a' w' r H' ρ2 S2 Hnew h1 h2 h3;obtain⟨ps,rest2,tr2,pend2,q1,q2,q3,q4,q5,q6,q7⟩:=X7 rr pend _ _ N h3;have hT:∀ b:List AV,put b oi.dst r=Cm b (TE.T ⟨oi.dst,r,[],[]⟩):=fun b=>put_eq b ⟨oi.dst,r,[],[]⟩;have hnotin:∀ m,m<pre.length→pre.getD m 0≠i:=fun m hm he=>hpre (by rw[←he];simp[List.getD_eq_getElem?_getD,hm])
      have hpsn:∀ (m j:Nat),ps[m]? =some j→listed.getD j false=false∧j≠i:=by
       intro m j hm;have hj:l[pre.length+(m+1)]? =some j:=by
        rw[I.all,hre,q1,List.getElem?_append_right (by omega)]
        simp[List.getElem?_append_left (List.getElem?_eq_some_iff.1 hm).1,hm]
       refine⟨?_,fun he=>?_⟩
       ·cases hc:listed.getD j false with
        |false=>rfl
        |true=>
         obtain⟨p2,hp2⟩:=List.getElem?_of_mem (I.inp j hc);have:=nodup _ _ _ (at_pre hp2) hj;have:=(List.getElem?_eq_some_iff.1 hp2).1;omega
       ·subst he;have:=nodup _ _ _ he_at hj;omega
      have hpre':∀ m,(pre++i::ps).getD m 0=if m<pre.length then pre.getD m 0 else(i::ps).getD (m - pre.length) 0:=fun m=>by
       simp only[List.getD_eq_getElem?_getD];split
       ·rw[List.getElem?_append_left (by assumption)]
       ·rw[List.getElem?_append_right (by omega)]
      have tmap:(tr++(⟨oi.dst,r,[],[]⟩::tr2)).map TE.T=tr.map TE.T++(TE.T ⟨oi.dst,r,[],[]⟩::tr2.map TE.T):=(by simp);have hnl:(tr.map TE.T).length=pre.length:=(by simp[I.len]);have eTrue:ov (fun _=>true) 0 ((tr++(⟨oi.dst,r,[],[]⟩::tr2)).map TE.T) st.tmps=ov (fun _=>true) 0 (tr2.map TE.T) (put (ov (fun _=>true) 0 (tr.map TE.T) st.tmps) oi.dst r):=by
       rw[tmap,kB,ov,Ab1,hT]
      have eNow:ov (fun p=>(listed.setIfInBounds i true).getD ((pre++i::ps).getD p 0) false) 0 ((tr++(⟨oi.dst,r,[],[]⟩::tr2)).map TE.T) st.tmps=put (ov (fun p=>listed.getD (pre.getD p 0) false) 0 (tr.map TE.T) st.tmps) oi.dst r:=by
       rw[tmap,kB,Nat.zero_add,hnl,ov];have k1:(listed.setIfInBounds i true).getD ((pre++i::ps).getD pre.length 0) false=true:=by
        rw[hpre',if_neg (by omega),Nat.sub_self,gd];simp
       rw[k1];rw[Akg _ _ _ (fun m hm hml=>by
        rw[hpre',if_neg (by omega)]
        obtain⟨q,rfl⟩:∃ q,m=pre.length+(q+1):=⟨m - pre.length - 1,by omega⟩
        have hq:q<ps.length:=(by simp[q4] at hml;omega);have hpq:ps[q]? =some ps[q]:=(by simp[hq]);obtain⟨n1,n2⟩:=hpsn q _ hpq;rw[show pre.length+(q+1) - pre.length=q+1 by omega,show(i::ps).getD (q+1) 0=ps[q] by simp[List.getD_eq_getElem?_getD,hq],gd,n1]
        simpa using n2)]
       rw[hT];refine congrArg (fun b=>Cm b (TE.T ⟨oi.dst,r,[],[]⟩)) (Ln _ _ _ fun m hm=>?_);rw[hnl] at hm;have h1:=hpre' m;rw[if_pos hm] at h1;have h2:=hnotin m hm;simp only[Nat.zero_add,h1,gd];rw[show(pre.getD m 0 == i)=false by simpa using h2,Bool.false_or]
      refine ih _ a' w' (by simp[hs]) hdn' hcome ⟨pre++i::ps,rest2,tr++(⟨oi.dst,r,[],[]⟩::tr2),pend2,H',ρ2,S2,by rw[I.all,hre,q1];simp,by simp[I.len,q4],fun j hj=>?_,fun j hj he=>?_,q3,by rw[eTrue];exact q5,by rw[eNow];exact h1,I.ext.trans h2,fun p j o te hp ho ht=>?_⟩
      ·rw[gd,Bool.or_eq_true,beq_iff_eq] at hj;rcases hj with rfl|hj
       ·simp
       ·exact List.mem_append_left _ (I.inp j hj)
      ·rw[gd];rcases List.mem_append.1 hj with hj|hj
       ·rw[I.eff j hj he];simp
       ·rcases List.mem_cons.1 hj with rfl|hj
        ·simp
        ·rw[q2 j hj] at he;cases he
      ·rcases Nat.lt_trichotomy p pre.length with hlt1|rfl|hgt1
       ·rw[List.getElem?_append_left hlt1] at hp;rw[List.getElem?_append_left (by rw[I.len];exact hlt1)] at ht
        obtain⟨k1,k2⟩:=I.stp p j o te hp ho ht;refine⟨k1,fun hu=>?_⟩;rw[gd,Bool.or_eq_false_iff] at hu;rw[tmap,A0c (Dn':=fun m=>decide (m<p)) _ _ _ (fun m _=>rfl) (fun m hm=>by rw[hnl] at hm;simp;omega)]
        refine(k2 hu.2).step ho q6 ?_;rcases Hnew with h4|h4
        ·exact .inl h4
        ·refine .inr fun pe hpe hpj=>?_;rcases h4 pe hpe with h5|h5
         ·have:=anc _ h5;rw[hpj,hu.2] at this;cases this
         ·exact h5
       ·rw[List.getElem?_append_right (Nat.le_refl _)] at hp;rw[List.getElem?_append_right (by rw[I.len];exact Nat.le_refl _)] at ht
        simp[I.len] at hp ht
        subst hp;subst ht;rw[hoi] at ho;cases ho;refine⟨rfl,fun hu=>?_⟩;rw[gd] at hu;simp at hu
       ·obtain⟨p2,rfl⟩:∃ p2,p=pre.length+(p2+1):=⟨p - pre.length - 1,by omega⟩
        rw[List.getElem?_append_right (by omega)] at hp
        rw[List.getElem?_append_right (by rw[I.len];omega)] at ht
        rw[show pre.length+(p2+1) - pre.length=p2+1 by omega,List.getElem?_cons_succ] at hp
        rw[I.len,show pre.length+(p2+1) - pre.length=p2+1 by omega,List.getElem?_cons_succ] at ht
        obtain⟨k1,k2⟩:=q7 p2 j o te hp ho ht;refine⟨k1,fun _=>?_⟩;have e1:ov (fun m=>decide (m<pre.length+(p2+1))) 0 ((tr++(⟨oi.dst,r,[],[]⟩::tr2)).map TE.T) st.tmps=ov (fun m=>decide (m<p2)) 0 (tr2.map TE.T) (put (ov (fun _=>true) 0 (tr.map TE.T) st.tmps) oi.dst r):=by
         rw[tmap,kB,Nat.zero_add,hnl,ov];rw[show decide (pre.length<pre.length+(p2+1))=true by simp]
         rw[Ab1,hT];have e2:(fun m=>decide (pre.length+1+m<pre.length+(p2+1)))=fun m=>decide (m<p2):=by
          funext m;exact decide_eq_decide.2 ⟨fun h=>by omega,fun h=>by omega⟩
         rw[e2];refine congrArg (fun b=>ov (fun m=>decide (m<p2)) 0 (tr2.map TE.T) (Cm b (TE.T ⟨oi.dst,r,[],[]⟩))) (Ln _ _ _ fun m hm=>?_);rw[hnl] at hm;exact decide_eq_true (by omega)
        rw[e1];exact k2
     unfold wpOp;rw[hoi];simp only;rcases hcase with ⟨h1,_⟩|⟨_,hcase⟩
     ·rw[hpf] at h1;cases h1
     ·rcases hcase with ⟨t,c,g,want,hg,ht,hb,hc,hr⟩|⟨hg,hr⟩
      ·have hb':=(ag t (Pn hg ht)).trans hb;have hy:yielded ops a.tmps g≠some want:=by
        rcases hc with rfl|rfl
        ·rw[G1 ht I.rel.tmps hb'];simp
        ·rw[Na ht I.rel.tmps hb'];simp
       rw[if_neg (by simpa[Region.wanted,hg] using hy)]
       have h2:=Rel.put I.rel (Ext.refl _ _ _) I.rel.sok I.rel.heap (.tup [] #[] rfl (fun i c v hc=>by simp at hc)) oi.dst
       exact next _ _ (.tup []) H ρ' S' (.inl rfl) h2 (Ext.refl _ _ _) hr
      ·have hw:Region.wanted oi (yielded ops a.tmps)=true:=by
        rcases hg with hg|⟨t,g,want,hg,ht,hb⟩
        ·simp[Region.wanted,hg]
        ·have hb':=(ag t (Pn hg ht)).trans hb;have hy:=G1 ht I.rel.tmps hb';simp[Region.wanted,hg,hy]
       rw[if_pos hw];refine .inl (Oper.wp_mono ?_ (Ajb hTY hC oi I.rel (Aja agx hr)));rintro a' w' ⟨r,H',ρ2,S2,hM,h2,h3⟩;obtain⟨h4,h5⟩:=Uh hM;exact next a' w' r H' ρ2 S2 (.inr h5) h2 h3 h4
 have hcome:Hw ops.size (Array.replicate ops.size false)=ops.size:=by
  unfold Hw;have:∀ n,n≤ops.size→(List.range n).countP (fun i=> !(Array.replicate ops.size false).getD i true)=n:=by
   intro n;induction n with
   |zero=>intro _;simp
   |succ n ihn=>
    intro hn;rw[List.range_succ,List.countP_append,ihn (by omega),List.countP_singleton]
    simp[show n<ops.size by omega]
  exact this _ (Nat.le_refl _)
 have hfalse:∀ m,(Array.replicate ops.size false).getD m false=false:=fun m=>by
  by_cases h1:m<ops.size
  ·simp[h1]
  ·simp[h1]
 obtain⟨ps,rest2,tr2,pend2,q1,q2,q3,q4,q5,q6,q7⟩:=X7 l [] st.tmps st.heap N hrun;refine main ops.size _ a0 w0 (by simp) (fun j o _ hd=>?_) hcome ⟨ps,rest2,tr2,pend2,st.heap,ρ,S,q1,q4,fun j hj=>?_,fun j hj he=>?_,q3,q5,?_,Ext.refl _ _ _,fun p j o te h1 h2 h3=>⟨(q7 p j o te h1 h2 h3).1,fun _=>(q7 p j o te h1 h2 h3).2⟩⟩
 ·have hd:(Array.replicate ops.size false).getD j false=true:=hd;rw[hfalse] at hd;cases hd
 ·rw[hfalse] at hj;cases hj
 ·rw[q2 j hj] at he;cases he
 ·rw[Sd _ _ _ (fun m=>hfalse _)];exact hR0
end
end Go.Vc
namespace Go.Vc
open Go
structure LoopSpec where
 α:Type
 keep:List Nat
 vals:α→List AV
 heap:α→List Blk
 ok:α→Prop
 μ:α→Nat
inductive LR where
 |inv (s:LoopSpec)
 |unroll (k:Nat)
 |order (l:List Nat)
def Jl:Code→Option Nat
 | .region id _ _=>some id
 | .seq a b=>(match Jl a with|some i=>some i|none=>Jl b)
 | .cond _ a b=>(match Jl a with|some i=>some i|none=>Jl b)
 | .block _ c=>Jl c
 | .loop c=>Jl c
 | .scope c=>Jl c
 |_=>none
def dZ(f:St→(Exit→St→Prop)→Prop):Nat→St→(Exit→St→Prop)→Prop
 |0,_,_=>False
 |k+1,st,Q=>f st fun e st'=>match e with
  | .normal=>dZ f k st' Q
  |e=>Q e st'
def Ajc(n:Nat)(s:LoopSpec)(x:s.α):St:=⟨sQ n s.keep (s.vals x),s.heap x⟩
def cA(n0 n:Nat)(s:LoopSpec)(st:St)(good:s.α→Prop):Prop:=match decide (st.tmps.length=n) with
 |true=>∃ x l,good x∧Aiz n0 l st s.keep (s.vals x) (s.heap x)
 |false=>False
theorem kC{n0 n:Nat}{s:LoopSpec}{st:St}{good:s.α→Prop}(h:cA n0 n s st good):st.tmps.length=n∧∃ x l,good x∧Aiz n0 l st s.keep (s.vals x) (s.heap x):=by
 unfold cA at h;split at h
 ·rename_i hd;exact⟨by simpa using hd,h⟩
 ·exact h.elim
def vcg(TY:TypeId→Option TI)(C:FuncId→Option Ctr)(D:PT)(wr:Tmp→Bool)(L:Nat→Option LR):Code→St→(Exit→St→Prop)→Prop
 | .skip,st,Q=>Q .normal st
 | .region id ops draw,st,Q=>(match draw with
  |false=>X3 TY C wr ops ops.toList st (Q .normal)
  |true=>(match L id with
   |some (.order l)=>Akf TY C wr ops l st (Q .normal)
   |_=>Ad4 TY C D wr ops st (Q .normal)))
 | .seq x y,st,Q=>vcg TY C D wr L x st fun e st'=>match e with
  | .normal=>vcg TY C D wr L y st' Q
  |e=>Q e st'
 | .cond c x y,st,Q=>(match evO st.tmps c with
  | .bool b=>(match b with
   |true=>vcg TY C D wr L x st Q
   |false=>vcg TY C D wr L y st Q)
  |_=>False)
 | .block id c,st,Q=>vcg TY C D wr L c st fun e st'=>match e with
  | .exit id'=>(match decide (id'=id) with|true=>Q .normal st'|false=>Q (.exit id') st')
  |e=>Q e st'
 | .loop c,st,Q=>(match (Jl c).bind L with
  |some (.inv s)=>cA st.heap.length st.tmps.length s st s.ok∧∀ x,s.ok x→Ads (Ajc st.tmps.length s x) fun st1=>vcg TY C D wr L c st1 fun e st'=>match e with
   | .normal=>cA st.heap.length st.tmps.length s st' fun y=>s.ok y∧s.μ y<s.μ x
   |e=>Q e st'
  |some (.unroll k)=>dZ (vcg TY C D wr L c) k st Q
  |_=>False)
 | .exit id,st,Q=>Q (.exit id) st
 | .ret,st,Q=>Q .ret st
 |_,_,_=>False
section
variable {F : Nat → Obj → Prop} {P : Program} {TY : TypeId → Option TI} {C : FuncId → Option Ctr} {D : PT} {wr : Tmp → Bool} {L : Nat → Option LR}
def ReachX(F:Nat→Obj→Prop)(ρ:Nat→Option Nat)(S:Nat→Prop)(w:World)(Q:Exit→St→Prop)(e:Exit)(a':Act)(w':World):Prop:=∃ st' ρ' S',Q e st'∧RelX F ρ' S' st' a' w'∧Ext ρ S w ρ' S' w'
theorem ReachX.trans{ρ:Nat→Option Nat}{S:Nat→Prop}{w:World}{Q:Exit→St→Prop}{e:Exit}{ρ1:Nat→Option Nat}{S1:Nat→Prop}{w1:World}(hE:Ext ρ S w ρ1 S1 w1){a':Act}{w':World}(h:ReachX F ρ1 S1 w1 Q e a' w'):ReachX F ρ S w Q e a' w':=by
 obtain⟨st',ρ',S',h1,h2,h3⟩:=h;exact⟨st',ρ',S',h1,h2,hE.trans h3⟩
theorem RelX.drew{ρ:Nat→Option Nat}{S:Nat→Prop}{w:World}{st:St}{a:Act}(h:RelX F ρ S st a w):RelX F ρ S st a w.drew:=
 ⟨⟨h.defers,h.tmps.mono (Nu ρ S w),sK h.heap⟩,h.sok.still (Nu ρ S w)⟩
theorem Am4(hm:P.follows .mixedOrders=true)(hTY:TyOk P TY)(hD:Cb F P D)(hC:Ad F P C):∀ (c:Code) {ρ:Nat→Option Nat} {S:Nat→Prop} {w:World} {st:St} {a:Act} {Q:Exit→St→Prop},RelX F ρ S st a w→
  vcg TY C D wr L c st Q→c.wp P (ReachX F ρ S w Q) a w:=by
 intro c;induction c with
 |skip=>exact fun hR h=>wp_skip ⟨_,_,_,h,hR,Ext.refl _ _ _⟩
 |region id ops draw=>
  intro ρ S w st a Q hR h;simp only[vcg] at h;cases draw with
  |false=>
   refine wp_region_list (Nv hTY hC ops ops.toList hR (N:=Q .normal) (fun a' w' hr=>?_) h);obtain⟨st',ρ',S',h1,h2,h3⟩:=hr;exact⟨st',ρ',S',h1,h2,h3⟩
  |true=>
   refine wp_region_any hm ?_;simp only at h;split at h
   ·refine Ad7 hTY hC hR.drew (N:=Q .normal) (fun a' w' hr=>?_) h;obtain⟨st',ρ',S',h1,h2,h3⟩:=hr;exact⟨st',ρ',S',h1,h2,(Nu ρ S w).trans h3⟩
   ·refine Ai9 hTY hD hC hR.drew (N:=Q .normal) (fun a' w' hr=>?_) h;obtain⟨st',ρ',S',h1,h2,h3⟩:=hr;exact⟨st',ρ',S',h1,h2,(Nu ρ S w).trans h3⟩
 |seq x y ihx ihy=>
  intro ρ S w st a Q hR h;simp only[vcg] at h;refine wp_seq (wp_mono (ihx hR h) ?_);rintro e a' w' ⟨st',ρ',S',h1,h2,h3⟩;cases e with
  |normal=>exact wp_mono (ihy h2 h1) (fun e a2 w2 hq=>hq.trans h3)
  |exit id=>exact⟨st',ρ',S',h1,h2,h3⟩
  |goto l=>exact⟨st',ρ',S',h1,h2,h3⟩
  |ret=>exact⟨st',ρ',S',h1,h2,h3⟩
  |panic ch=>exact⟨st',ρ',S',h1,h2,h3⟩
  |outgrown=>exact⟨st',ρ',S',h1,h2,h3⟩
 |cond c x y ihx ihy=>
  intro ρ S w st a Q hR h;simp only[vcg] at h;split at h
  ·rename_i b hb;have hv:=hR.tmps.eval c;rw[hb] at hv;have hv:=hv.boolR;split at h
   ·exact wp_cond_true hv (ihx hR h)
   ·exact wp_cond_false hv (ihy hR h)
  ·exact h.elim
 |block id c ih=>
  intro ρ S w st a Q hR h;simp only[vcg] at h;refine wp_block (wp_mono (ih hR h) ?_);rintro e a' w' ⟨st',ρ',S',h1,h2,h3⟩;cases e with
  |normal=>exact⟨st',ρ',S',h1,h2,h3⟩
  |exit id'=>
   simp only[Exit.inBlock];split at h1
   ·rename_i he;cases he;split at h1
    ·rename_i hd;rw[if_pos (by simpa using hd)];exact⟨st',ρ',S',h1,h2,h3⟩
    ·rename_i hd;rw[if_neg (by simpa using hd)];exact⟨st',ρ',S',h1,h2,h3⟩
   ·rename_i he;exact absurd rfl (he id')
  |goto l=>exact⟨st',ρ',S',h1,h2,h3⟩
  |ret=>exact⟨st',ρ',S',h1,h2,h3⟩
  |panic ch=>exact⟨st',ρ',S',h1,h2,h3⟩
  |outgrown=>exact⟨st',ρ',S',h1,h2,h3⟩
 |loop c ih=>
  intro ρ S w st a Q hR h;simp only[vcg] at h;split at h
  ·rename_i s hs;simp only[Adt] at h;obtain⟨hat,hround⟩:=h;obtain⟨_,x0,l0,hok0,hle0⟩:=kC hat;have hn:∀ i b,ρ i=some b→i<st.heap.length:=fun i b hi=>(hR.heap.out i b hi).1;obtain⟨ρ0,hR0,hE0⟩:=Adz hn (Ext.refl _ _ _) hR hle0;refine wp_loop_ghost (fun n a' w'=>∃ x ρ' S',s.ok x∧s.μ x=n∧RelX F ρ' S' (Ajc st.tmps.length s x) a' w'∧Ext ρ S w ρ' S' w') (s.μ x0) ⟨x0,ρ0,S,hok0,rfl,hR0,hE0⟩ ?_;rintro n a' w' ⟨x,ρ',S',hok,rfl,hR',hE'⟩;refine wp_mono (ih hR' (hround x hok)) ?_;rintro e a2 w2 ⟨st2,ρ2,S2,h1,h2,h3⟩;cases e with
   |normal=>
    obtain⟨hlen,y,l,⟨hoky,hμ⟩,hle⟩:=kC h1;obtain⟨ρ3,hR3,hE3⟩:=Adz hn (hE'.trans h3) h2 hle;rw[hlen] at hR3;exact⟨s.μ y,hμ,y,ρ3,S2,hoky,rfl,hR3,hE3⟩
   |exit id=>exact⟨st2,ρ2,S2,h1,h2,hE'.trans h3⟩
   |goto l=>exact⟨st2,ρ2,S2,h1,h2,hE'.trans h3⟩
   |ret=>exact⟨st2,ρ2,S2,h1,h2,hE'.trans h3⟩
   |panic ch=>exact⟨st2,ρ2,S2,h1,h2,hE'.trans h3⟩
   |outgrown=>exact⟨st2,ρ2,S2,h1,h2,hE'.trans h3⟩
  ·rename_i k hk;have key:∀ (k:Nat) {ρ':Nat→Option Nat} {S':Nat→Prop} {w':World} {st':St} {a':Act},RelX F ρ' S' st' a' w'→dZ (vcg TY C D wr L c) k st' Q→(Code.loop c).wp P (ReachX F ρ' S' w' Q) a' w':=by
    intro k ρ' S' w' st' a' hR' hit;refine wp_loop_ghost (fun n a2 w2=>∃ ρ2 S2 st2,RelX F ρ2 S2 st2 a2 w2∧dZ (vcg TY C D wr L c) n st2 Q∧Ext ρ' S' w' ρ2 S2 w2) k ⟨ρ',S',st',hR',hit,Ext.refl _ _ _⟩ ?_;rintro n a2 w2 ⟨ρ2,S2,st2,hR2,hit2,hE2⟩;cases n with
    |zero=>exact hit2.elim
    |succ n=>
     refine wp_mono (ih hR2 hit2) ?_;rintro e a3 w3 ⟨st3,ρ3,S3,h1,h2,h3⟩;cases e with
     |normal=>exact⟨n,Nat.lt_succ_self _,ρ3,S3,st3,h2,h1,hE2.trans h3⟩
     |exit id=>exact⟨st3,ρ3,S3,h1,h2,hE2.trans h3⟩
     |goto l=>exact⟨st3,ρ3,S3,h1,h2,hE2.trans h3⟩
     |ret=>exact⟨st3,ρ3,S3,h1,h2,hE2.trans h3⟩
     |panic ch=>exact⟨st3,ρ3,S3,h1,h2,hE2.trans h3⟩
     |outgrown=>exact⟨st3,ρ3,S3,h1,h2,hE2.trans h3⟩
   exact key k hR h
  ·exact h.elim
 |exit id=>exact fun hR h=>wp_exit ⟨_,_,_,h,hR,Ext.refl _ _ _⟩
 |ret=>exact fun hR h=>wp_ret ⟨_,_,_,h,hR,Ext.refl _ _ _⟩
 |rangeFunc=>exact fun _ h=>by simp only[vcg] at h
 |scope=>exact fun _ h=>by simp only[vcg] at h
 |label=>exact fun _ h=>by simp only[vcg] at h
 |goto=>exact fun _ h=>by simp only[vcg] at h
 |refuse=>exact fun _ h=>by simp only[vcg] at h
end
end Go.Vc
namespace Go.Vc
open Go
def Atw(TY:TypeId→Option TI)(C:FuncId→Option Ctr)(wr:Tmp→Bool)(ops:Array Oper)(l:List Oper):St→(St→Prop)→Prop:=
 List.rec (motive:=fun _=>St→(St→Prop)→Prop) (fun st Q=>Q st)
  (fun o _ ih st Q=>
   match o.guard with
   |none=>Zg TY C wr o st fun st'=>ih st' Q
   |some (j,want)=>match Mx ops j with
    |none=>False
    |some t=>match st.tmps[t]? with
     |some (.bool b)=>(match b with
      |true=>(match want with
       |true=>Ws (fun ts=>Zg TY C wr o ⟨ts,st.heap⟩ fun st'=>ih st' Q) (.bool true) st.tmps t
       |false=>Gf (st.tmps.set t (.bool true)) o.dst (.tup []) st.heap fun st'=>ih st' Q)
      |false=>(match want with
       |false=>Ws (fun ts=>Zg TY C wr o ⟨ts,st.heap⟩ fun st'=>ih st' Q) (.bool false) st.tmps t
       |true=>Gf (st.tmps.set t (.bool false)) o.dst (.tup []) st.heap fun st'=>ih st' Q))
     |some (.tup cs)=>(match cs with
      |[]=>Gf (st.tmps.set t (.tup [])) o.dst (.tup []) st.heap fun st'=>ih st' Q
      |_=>False)
     |_=>False) l
theorem Ab2{TY:TypeId→Option TI}{C:FuncId→Option Ctr}{wr:Tmp→Bool}{ops:Array Oper}:∀ (l:List Oper),Atw TY C wr ops l=X3 TY C wr ops l
 |[]=>by funext st Q;simp only[X3];rfl
 |o::rest=>by
  funext st Q
  rw[X3,←Ab2 rest];rfl
def Awh(TY:TypeId→Option TI)(D:PT)(wr:Tmp→Bool)(ops:Array Oper)(h0:Nat)(l:List Oper):Nat→St→(List TE→St→Prop)→Prop:=
 List.rec (motive:=fun _=>Nat→St→(List TE→St→Prop)→Prop) (fun _ st Q=>Q [] st)
  (fun o _ ih j st Q=>
   match o.guard with
   |none=>opD TY D (Tn wr o) (h0+j) o.op st.tmps st.heap fun r W R=>Gf st.tmps o.dst r (Cm st.heap W) fun st1=>ih (j+1) st1 fun tr st'=>Q (⟨o.dst,r,W,R⟩::tr) st'
   |some (g,want)=>match Mx ops g with
    |none=>False
    |some t=>match st.tmps[t]? with
     |some (.bool b)=>(match b with
      |true=>(match want with
       |true=>Ws (fun ts=>opD TY D (Tn wr o) (h0+j) o.op ts st.heap fun r W R=>Gf ts o.dst r (Cm st.heap W) fun st1=>ih (j+1) st1 fun tr st'=>Q (⟨o.dst,r,W,R⟩::tr) st') (.bool true) st.tmps t
       |false=>Gf (st.tmps.set t (.bool true)) o.dst (.tup []) st.heap fun st1=>ih (j+1) st1 fun tr st'=>Q (⟨o.dst,.tup [],[],[]⟩::tr) st')
      |false=>(match want with
       |false=>Ws (fun ts=>opD TY D (Tn wr o) (h0+j) o.op ts st.heap fun r W R=>Gf ts o.dst r (Cm st.heap W) fun st1=>ih (j+1) st1 fun tr st'=>Q (⟨o.dst,r,W,R⟩::tr) st') (.bool false) st.tmps t
       |true=>Gf (st.tmps.set t (.bool false)) o.dst (.tup []) st.heap fun st1=>ih (j+1) st1 fun tr st'=>Q (⟨o.dst,.tup [],[],[]⟩::tr) st'))
     |some (.tup cs)=>(match cs with
      |[]=>Gf (st.tmps.set t (.tup [])) o.dst (.tup []) st.heap fun st1=>ih (j+1) st1 fun tr st'=>Q (⟨o.dst,.tup [],[],[]⟩::tr) st'
      |_=>False)
     |_=>False) l
theorem Ad8{TY:TypeId→Option TI}{D:PT}{wr:Tmp→Bool}{ops:Array Oper}{h0:Nat}:∀ (l:List Oper),Awh TY D wr ops h0 l=Qz TY D wr ops h0 l
 |[]=>by funext j st Q;simp only[Qz];rfl
 |o::rest=>by
  funext j st Q
  rw[Qz,←Ad8 rest];rfl
def Akh(TY:TypeId→Option TI)(C:FuncId→Option Ctr)(D:PT)(wr:Tmp→Bool)(ops:Array Oper)(st:St)(N:St→Prop):Prop:=
 Awh TY D wr ops st.heap.length (ops.toList.take (Te (Nb [] ops.toList) ops.size)) 0 ⟨st.tmps,st.heap++List.replicate (Te (Nb [] ops.toList) ops.size) .dead⟩ fun tr st'=>
  okB ops (Te (Nb [] ops.toList) ops.size) tr=true∧Atw TY C wr ops (ops.toList.drop (Te (Nb [] ops.toList) ops.size)) st' N
theorem Apk{TY:TypeId→Option TI}{C:FuncId→Option Ctr}{D:PT}{wr:Tmp→Bool}{ops:Array Oper}{st:St}{N:St→Prop}:Akh TY C D wr ops st N=Ad4 TY C D wr ops st N:=by
 unfold Akh Ad4;rw[Ad8,Ab2]
def Apl(f:St→(Exit→St→Prop)→Prop)(n:Nat):St→(Exit→St→Prop)→Prop:=
 Nat.rec (motive:=fun _=>St→(Exit→St→Prop)→Prop) (fun _ _=>False) (fun _ ih st Q=>f st fun e st'=>match e with
  | .normal=>ih st' Q
  |e=>Q e st') n
theorem Ad9{f:St→(Exit→St→Prop)→Prop}:∀ n,Apl f n=dZ f n
 |0=>by funext st Q;simp only[dZ];rfl
 |n+1=>by
  funext st Q
  rw[dZ,←Ad9 n];rfl
def A1g(TY:TypeId→Option TI)(C:FuncId→Option Ctr)(D:PT)(wr:Tmp→Bool)(L:Nat→Option LR)(c:Code):St→(Exit→St→Prop)→Prop:=
 Code.rec (motive:=fun _=>St→(Exit→St→Prop)→Prop)
  (fun st Q=>Q .normal st)
  (fun id ops draw st Q=>(match draw with
   |false=>Atw TY C wr ops ops.toList st (Q .normal)
   |true=>(match L id with
    |some (.order l)=>Akf TY C wr ops l st (Q .normal)
    |_=>Akh TY C D wr ops st (Q .normal))))
  (fun _ _ ix iy st Q=>ix st fun e st'=>match e with
   | .normal=>iy st' Q
   |e=>Q e st')
  (fun c _ _ ix iy st Q=>(match evO st.tmps c with
   | .bool b=>(match b with
    |true=>ix st Q
    |false=>iy st Q)
   |_=>False))
  (fun id _ ic st Q=>ic st fun e st'=>match e with
   | .exit id'=>(match decide (id'=id) with|true=>Q .normal st'|false=>Q (.exit id') st')
   |e=>Q e st')
  (fun c ic st Q=>(match (Jl c).bind L with
   |some (.inv s)=>cA st.heap.length st.tmps.length s st s.ok∧∀ x,s.ok x→Ads (Ajc st.tmps.length s x) fun st1=>ic st1 fun e st'=>match e with
    | .normal=>cA st.heap.length st.tmps.length s st' fun y=>s.ok y∧s.μ y<s.μ x
    |e=>Q e st'
   |some (.unroll k)=>Apl ic k st Q
   |_=>False))
  (fun _ _ _ _ _ _ _ _=>False)
  (fun id st Q=>Q (.exit id) st)
  (fun _ _ _ _=>False)
  (fun _ _ _=>False)
  (fun _ _ _=>False)
  (fun st Q=>Q .ret st)
  (fun _ _ _=>False) c
theorem Atx{TY:TypeId→Option TI}{C:FuncId→Option Ctr}{D:PT}{wr:Tmp→Bool}{L:Nat→Option LR}:∀ (c:Code),A1g TY C D wr L c=vcg TY C D wr L c:=by
 intro c;induction c with
 |skip=>funext st Q;simp only[vcg];rfl
 |region id ops draw=>
  funext st Q
  simp only[vcg];show(match draw with
   |false=>Atw TY C wr ops ops.toList st (Q .normal)
   |true=>(match L id with
    |some (.order l)=>Akf TY C wr ops l st (Q .normal)
    |_=>Akh TY C D wr ops st (Q .normal)))=_
  cases draw
  ·simp only[Ab2]
  ·simp only[Apk];all_goals (rcases L id with _|(_|_|_)<;>rfl)
 |seq x y ix iy=>funext st Q;rw[vcg,←ix,←iy];rfl
 |cond c x y ix iy=>funext st Q;rw[vcg,←ix,←iy];rfl
 |block id c ic=>funext st Q;rw[vcg,←ic];rfl
 |loop c ic=>
  funext st Q
  rw[vcg,←ic,show @dZ=@Apl from funext fun f=>funext fun n=>(Ad9 n).symm];rfl
 |rangeFunc=>funext st Q;simp only[vcg];rfl
 |exit id=>funext st Q;simp only[vcg];rfl
 |scope=>funext st Q;simp only[vcg];rfl
 |label=>funext st Q;simp only[vcg];rfl
 |goto=>funext st Q;simp only[vcg];rfl
 |ret=>funext st Q;simp only[vcg];rfl
 |refuse=>funext st Q;simp only[vcg];rfl
end Go.Vc
namespace Go.Vc
open Go
mutual
def Bd:AV→Prop
 | .int k n=>inK k n
 | .str l=>l.length≤9223372036854775807
 | .sl _ sz len get=>len≤9223372036854775807∧∀ e,e<len→(get e).length=sz∧Az (get e)
 | .rptr cs _=>Az cs
 | .agg cs=>Az cs
 | .tup cs=>Az cs
 | .fn _ cs=>Az cs
 | .iface _ v=>Bd v
 |_=>True
def Az:List AV→Prop
 |[]=>True
 |c::cs=>Bd c∧Az cs
end
theorem Nz:∀ {cs:List AV},(∀ (i:Nat) (c:AV),cs[i]? =some c→Bd c)→Az cs
 |[],_=>by simp only[Az]
 |c::cs,h=>by
  simp only[Az];exact⟨h 0 c rfl,Nz fun i c hc=>h (i+1) c (by simpa using hc)⟩
section
variable {F : Nat → Obj → Prop} {P : Program} {TY : TypeId → Option TI} {C : FuncId → Option Ctr} {D : PT} {wr : Tmp → Bool} {ρ : Nat → Option Nat} {S : Nat → Prop} {w : World}
theorem V.fact{a:AV}{v:Value}(h:V ρ S w a v):Bd a:=by
 have mx:maxLen=9223372036854775807:=by rw[Ch]
 induction h with
 |int k n h1 h2=>simp only[Bd];exact⟨Aka _ ▸ h1,Akb _ ▸ h2⟩
 |str l s h1 h2=>simp only[Bd];omega
 |sln clip sz get ao=>simp only[Bd];exact⟨Nat.zero_le _,fun e he=>by omega⟩
 |sl clip sz len get b o cap f hs hl hm hcl hz hc hv ih=>
  simp only[Bd];exact⟨by omega,fun e he=>⟨hz e he,Nz fun j c hc'=>ih e j c he hc'⟩⟩
 |rptr cs j b o f hs hb hc hv ih=>simp only[Bd];exact Nz fun i c hc'=>ih i c hc'
 |agg cs vs hl hv ih=>
  simp only[Bd];refine Nz fun i c hc=>?_;have:i<vs.size:=by
   rcases Nat.lt_or_ge i cs.length with h'|h'
   ·omega
   ·rw[List.getElem?_eq_none h'] at hc;cases hc
  exact ih i c vs[i] hc (by simp[this])
 |tup cs vs hl hv ih=>
  simp only[Bd];refine Nz fun i c hc=>?_;have:i<vs.size:=by
   rcases Nat.lt_or_ge i cs.length with h'|h'
   ·omega
   ·rw[List.getElem?_eq_none h'] at hc;cases hc
  exact ih i c vs[i] hc (by simp[this])
 |fn f cs vs hl hv ih=>
  simp only[Bd];refine Nz fun i c hc=>?_;have:i<vs.size:=by
   rcases Nat.lt_or_ge i cs.length with h'|h'
   ·omega
   ·rw[List.getElem?_eq_none h'] at hc;cases hc
  exact ih i c vs[i] hc (by simp[this])
 |iface t a v hv ih=>simp only[Bd];exact ih
 |_=>simp only[Bd]
theorem VL.fact{cs:List AV}{vs:Array Value}(h:VL ρ S w cs vs):Az cs:=
 Nz fun i c hc=>by
  have:i<vs.size:=by
   have:=h.1;rcases Nat.lt_or_ge i cs.length with h'|h'
   ·omega
   ·rw[List.getElem?_eq_none h'] at hc;cases hc
  exact(h.2 i c vs[i] hc (by simp[this])).fact
def Am5(TY:TypeId→Option TI)(st:St):List ResultVar→(List AV→Prop)→Prop
 |[],K=>K []
 | .tmp t::rs,K=>Am5 TY st rs fun cs=>K (st.tmps.getD t .any::cs)
 | .cell a t::rs,K=>Nt TY t (st.tmps.getD a .any) st.heap fun c=>Am5 TY st rs fun cs=>K (c::cs)
def Apm:List AV→AV
 |[c]=>c
 |cs=>.tup cs
def Apn(tmps:Array Value):ResultVar→Sem Value
 | .tmp t=>pure (tmps.getD t undef)
 | .cell a t=>do loadVar t (←asAddr (tmps.getD a undef))
theorem Ab3(hTY:TyOk P TY){st:St}{a:Act}(hR:RelX F ρ S st a w):∀ (rs:List ResultVar) (K:List AV→Prop),Am5 TY st rs K→
  ∃ (vs:List Value) (cs:List AV),(rs.mapM (Apn a.tmps)).run P w= .ok vs w∧K cs∧cs.length=vs.length∧∀ (i:Nat) (c:AV) (v:Value),cs[i]? =some c→vs[i]? =some v→V ρ S w c v
 |[],K,h=>⟨[],[],by simp,h,rfl,fun i c v hc=>by simp at hc⟩
 | .tmp t::rs,K,h=>by
  obtain⟨vs,cs,h1,h2,h3,h4⟩:=Ab3 hTY hR rs _ h;refine⟨a.tmps.getD t undef::vs,st.tmps.getD t .any::cs,by simp only[List.mapM_cons,Apn,Sem.run_bind,Sem.run_pure,Result.andThen_ok,h1],h2,by simp[h3],fun i c v hc hv=>?_⟩
  cases i with
  |zero=>simp only[List.getElem?_cons_zero,Option.some.injEq] at hc hv;subst hc;subst hv;exact hR.tmps.eval (.tmp t)
  |succ i=>exact h4 i c v (by simpa using hc) (by simpa using hv)
 | .cell x t::rs,K,h=>by
  rw[Am5] at h;have hx:V ρ S w (st.tmps.getD x .any) (a.tmps.getD x undef):=hR.tmps.eval (.tmp x);obtain⟨v0,c0,g1,g2,g3⟩:=Y7 hTY hR.heap hx h;have g1':(do loadVar t (←asAddr (a.tmps.getD x undef)):Sem Value).run P w= .ok v0 w:=by
   unfold Instr.loadAt at g1;have e:∀ u:Value,(∃ ad,u= .pointer (some ad))→(do loadVar t (←asAddr u):Sem Value).run P w=(do loadVar t (←Instr.sureAddr u):Sem Value).run P w:=by
    rintro u ⟨ad,rfl⟩;simp[asAddr,Instr.sureAddr]
   rw[e]
   ·exact g1
   ·unfold Nt at h;split at h
    ·exact h.elim
    ·split at h
     ·rename_i heq;rw[heq] at hx;obtain⟨b,he,_⟩:=hx.ptrR;exact⟨_,he⟩
     ·rename_i heq;rw[heq] at hx;obtain⟨b,he,_⟩:=hx.eptrR;exact⟨_,he⟩
     ·rename_i heq;rw[heq] at hx;generalize a.tmps.getD x undef=u at hx
      cases hx;exact⟨_,rfl⟩
     ·exact h.elim
  obtain⟨vs,cs,h1,h2,h3,h4⟩:=Ab3 hTY hR rs _ g2;refine⟨v0::vs,c0::cs,by simp only[List.mapM_cons,Apn,Sem.run_bind,g1',Result.andThen_ok,h1,Sem.run_pure],h2,by simp[h3],fun i c v hc hv=>?_⟩
  cases i with
  |zero=>simp only[List.getElem?_cons_zero,Option.some.injEq] at hc hv;subst hc;subst hv;exact g3
  |succ i=>exact h4 i c v (by simpa using hc) (by simpa using hv)
theorem Ajd(hTY:TyOk P TY){fn:Func}{st:St}{a:Act}(hR:RelX F ρ S st a w){K:List AV→Prop}(h:Am5 TY st fn.results.toList K):
  ∃ v cs,(results fn a.tmps).run P w= .ok v w∧K cs∧V ρ S w (Apm cs) v:=by
 obtain⟨vs,cs,h1,h2,h3,h4⟩:=Ab3 hTY hR _ _ h;have e:results fn a.tmps=(do let vs←fn.results.mapM (Apn a.tmps);pure (if h:vs.size=1 then vs[0] else .tuple vs)):=by
  unfold results;congr 2
 have hm:(fn.results.mapM (Apn a.tmps)).run P w= .ok vs.toArray w:=by
  rw[Array.mapM_eq_mapM_toList];simp[h1]
 refine⟨if h:vs.toArray.size=1 then vs.toArray[0] else .tuple vs.toArray,cs,?_,h2,?_⟩
 ·rw[e,Sem.run_bind,hm];simp
 ·match cs,vs,h3,h4 with
  |[],[],_,_=>exact .tup _ _ (by simp) (fun i c v hc=>by simp at hc)
  |[c],[v],_,h4=>exact h4 0 c v rfl rfl
  |c::c'::cs,v::v'::vs,h3,h4=>
   have: ¬(v::v'::vs).toArray.size=1:=by simp
   rw[dif_neg this];exact .tup _ _ (by simpa using h3) (fun i c v hc hv=>h4 i c v hc (by simpa using hv))
def A0d(TY:TypeId→Option TI)(rs:List ResultVar)(Q:AV→List Blk→Prop)(st:St):Prop:=Am5 TY st rs fun cs=>Q (Apm cs) st.heap
def fnE(TY:TypeId→Option TI)(C:FuncId→Option Ctr)(D:PT)(wr:Tmp→Bool)(L:Nat→Option LR)(fn:Func)(args:List AV)(H:List Blk)(Q:AV→List Blk→Prop):Prop:=
 match fn.body with
 |none=>False
 |some c=>Ads ⟨args++List.replicate (fn.ntmps - args.length) .any,H⟩ fun st0=>A1g TY C D wr L c st0 fun e st=>match e with
  | .normal=>A0d TY fn.results.toList Q st
  | .ret=>A0d TY fn.results.toList Q st
  |_=>False
theorem V5(hm:P.follows .mixedOrders=true)(hTY:TyOk P TY)(hD:Cb F P D)(hC:Ad F P C){L:Nat→Option LR}{f:FuncId}{fn:Func}(hf:P.funcs[f]? =some fn)(hs:Sok F S w){H:List Blk}(hH:HRel ρ S w H)
  {cs:List AV} {vs:Array Value} (hv:VL ρ S w cs vs) {Q:AV→List Blk→Prop} (h:fnE TY C D wr L fn cs H Q):
  Calls P f vs w fun e w'=>∃ v c H' ρ' S',e= .returned v∧Q c H'∧V ρ' S' w' c v∧HRel ρ' S' w' H'∧Ext ρ S w ρ' S' w'∧Sok F S' w':=by
 unfold fnE at h;split at h
 ·exact h.elim
 ·rename_i c hb;rw[Adt,Atx] at h;have hR:RelX F ρ S ⟨cs++List.replicate (fn.ntmps - cs.length) .any,H⟩ { tmps:=vs++Array.replicate (fn.ntmps - vs.size) undef,defers:=[] } w:=by
   refine⟨⟨rfl,⟨by simp[hv.1],fun i c v hc hv'=>?_⟩,hH⟩,hs⟩
   by_cases hlt:i<cs.length
   ·rw[List.getElem?_append_left hlt] at hc;rw[Array.getElem?_append_left (by have:=hv.1;omega)] at hv'
    exact hv.2 i c v hc hv'
   ·rw[List.getElem?_append_right (by omega),List.getElem?_replicate] at hc
    split at hc
    ·cases hc;exact .any _
    ·cases hc
  refine calls_of_wp hf hb (wp_mono (Am4 hm hTY hD hC c hR h) ?_);rintro e a' w' ⟨st',ρ',S',h1,h2,h3⟩;have fin:A0d TY fn.results.toList Q st'→a'.defers=[]∧∃ v,(results fn a'.tmps).run P w'= .ok v w'∧∃ v_1 c H' ρ' S',Ending.returned v= .returned v_1∧Q c H'∧V ρ' S' w' c v_1∧HRel ρ' S' w' H'∧Ext ρ S w ρ' S' w'∧Sok F S' w':=by
   intro h1;obtain⟨v,cs,g1,g2,g3⟩:=Ajd hTY h2 h1;exact⟨h2.defers,v,g1,v,_,_,ρ',S',rfl,g2,g3,h2.heap,h3,h2.sok⟩
  cases e with
  |normal=>exact fin h1
  |ret=>exact fin h1
  |exit id=>exact h1.elim
  |goto l=>exact h1.elim
  |panic ch=>exact h1.elim
  |outgrown=>exact h1.elim
theorem Aea(hm:P.follows .mixedOrders=true)(hTY:TyOk P TY)(hD:Cb F P D)(hC:Ad F P C){f:FuncId}{fn:Func}(hf:P.funcs[f]? =some fn){K:Ctr}(L:List AV→List Blk→Nat→Option LR)
  (h:∀ cs H Q,Az cs→K cs H Q→fnE TY C D wr (L cs H) fn cs H Q):Good F P f K:=
 fun _ _ _ _ _ _ _ hs hH hv hK=>V5 hm hTY hD hC hf hs hH hv (h _ _ _ hv.fact hK)
def A0e(H:List Blk)(c:AV)(Q:AV→Prop):Prop:=Dt H c fun c' _=>Q c'
def isA(r c:AV):Prop:=match r.under 0 with
 |true=>leA (fun i=>i) c r
 |false=>False
theorem Ab4(hm:P.follows .mixedOrders=true)(hTY:TyOk P TY)(hD:Cb F P D)(hC:Ad F P C){f:FuncId}{fn:Func}(hf:P.funcs[f]? =some fn){pc:PC}(L:List AV→Nat→Option LR)
  (h:∀ cs Q,Az cs→pc.T cs Q→∃ r,Q r∧fnE TY C D wr (L cs) fn cs [] (fun c H'=>A0e H' c (isA r))):GoodP F P f pc:=by
 intro S w cs vs Q hs hv hpre;have hH:HRel (fun _=>none) S w []:=⟨fun i j bi bj b hi=>by simp at hi,fun i b hi=>by simp at hi,fun i b hi=>by cases hi⟩
 obtain⟨r,hQ,hfn⟩:=h cs Q hv.fact hpre;refine(V5 hm hTY hD hC hf hs hH hv hfn).mono ?_;rintro e w' ⟨v,c,H',ρ',S',rfl,h1,h2,h3,h4,h5⟩;obtain⟨c',ids,h6,h7,h8⟩:=bW h3 h1 h2;unfold isA at h6;split at h6
 ·rename_i hu;refine⟨v,r,Ug ρ' S' ids,rfl,hQ,h7.le (σ:=fun i=>i) (n:=0) (fun i b hi=>by omega) h6 hu,⟨fun _ _ h=>(by cases h),fun b hb=>.inl (h4.st b hb),h4.same,h4.size,h4.shp,fun _ _ h=>(by cases h),fun b hb=>?_,h4.os,h4.tape,h4.output⟩,Zj h3 h5 ids⟩
  rcases hb with hb|⟨i,_,hb⟩
  ·rcases h4.stf b hb with h9|⟨j,h9⟩|h9
   ·exact .inl h9
   ·cases h9
   ·exact .inr (.inr h9)
  ·rcases h4.fresh i b hb with ⟨j,h9⟩|h9
   ·cases h9
   ·exact .inr (.inr h9)
 ·exact h6.elim
def PC.of{α:Type}(args:α→List AV)(pre:α→Prop)(res:α→AV):PC:={
 T cs Q:=∃ x,pre x∧leL (fun i=>i) cs (args x)∧Q (res x)
 det cs N h:=by obtain⟨x,h1,h2,h3⟩:=h;exact⟨res x,h3,x,h1,h2,rfl⟩ }
end
end Go.Vc
namespace Go.Vc
open Go
inductive TT where
 |leaf (n:Nat) (o:Option TI)
 |node (n:Nat) (l r:TT)
def TT.look:TT→Nat→Option TI
 | .leaf n o,t=>(match Nat.beq t n with|true=>o|false=>none)
 | .node n l r,t=>(match Nat.blt t n with|true=>l.look t|false=>r.look t)
def TT.All(P:Program):TT→Prop
 | .leaf n o=>A7 P n=o
 | .node _ l r=>l.All P∧r.All P
theorem TT.ok{P:Program}{t:TT}(h:t.All P):TyOk P t.look:=by
 induction t with
 |leaf n o=>
  intro x i hi;simp only[TT.look] at hi;split at hi
  ·rename_i hb;have:=Nat.eq_of_beq_eq_true hb;subst this;rw[show A7 P x=o from h,hi]
  ·cases hi
 |node n l r ihl ihr=>
  intro x i hi;simp only[TT.look] at hi;split at hi
  ·exact ihl h.1 x i hi
  ·exact ihr h.2 x i hi
end Go.Vc
namespace Go.Vc
open Go
def Cg:List (FuncId × PC)→PT
 |[],_=>none
 |(g,pc)::l,f=>(match Nat.beq f g with|true=>some pc|false=>Cg l f)
theorem Aq{F:Nat→Obj→Prop}{P:Program}:Cb F P (Cg []):=fun _ _ h=>by cases h
theorem Ab{F:Nat→Obj→Prop}{P:Program}{g:FuncId}{pc:PC}{l:List (FuncId × PC)}(he:Ent P g)(hg:GoodP F P g pc)(h:Cb F P (Cg l)):Cb F P (Cg ((g,pc)::l)):=by
 intro f pc' hf;simp only[Cg] at hf;split at hf
 ·rename_i hb;obtain rfl:=Nat.eq_of_beq_eq_true hb;cases hf;exact⟨he,hg⟩
 ·exact h f pc' hf
def Av(D:PT):List (FuncId × Ctr)→FuncId→Option Ctr
 |[],f=>(match D f with|some pc=>some (Awg pc)|none=>none)
 |(g,K)::l,f=>(match Nat.beq f g with|true=>some K|false=>Av D l f)
theorem Ar{F:Nat→Obj→Prop}{P:Program}{D:PT}(h:Cb F P D):Ad F P (Av D []):=by
 intro f K hf;simp only[Av] at hf;split at hf
 ·rename_i pc hpc;cases hf;obtain⟨h1,h2⟩:=h f pc hpc;exact⟨h1,rH h2⟩
 ·cases hf
theorem Ae{F:Nat→Obj→Prop}{P:Program}{D:PT}{g:FuncId}{K:Ctr}{l:List (FuncId × Ctr)}(he:Ent P g)(hg:Good F P g K)(h:Ad F P (Av D l)):Ad F P (Av D ((g,K)::l)):=by
 intro f K' hf;simp only[Av] at hf;split at hf
 ·rename_i hb;obtain rfl:=Nat.eq_of_beq_eq_true hb;cases hf;exact⟨he,hg⟩
 ·exact h f K' hf
def Apo(TY:TypeId→Option TI)(C:FuncId→Option Ctr)(D:PT)(wr:Tmp→Bool)(L:List AV→List Blk→Nat→Option LR)(fn:Func):Ctr:=fun cs H Q=>fnE TY C D wr (L cs H) fn cs H Q
noncomputable def inl:(TypeId→Option TI)→(FuncId→Option Ctr)→PT→(Tmp→Bool)→(List AV→List Blk→Nat→Option LR)→Func→Ctr:=Classical.choose (⟨Apo,rfl⟩:∃ f,f=Apo)
theorem App:inl=Apo:=Classical.choose_spec (⟨Apo,rfl⟩:∃ f,f=Apo)
attribute [irreducible] inl
theorem Ap{TY:TypeId→Option TI}{C:FuncId→Option Ctr}{D:PT}{wr:Tmp→Bool}{L:List AV→List Blk→Nat→Option LR}{fn:Func}{cs:List AV}{H:List Blk}{Q:AV→List Blk→Prop}(h:fnE TY C D wr (L cs H) fn cs H Q):inl TY C D wr L fn cs H Q:=by
 rw[App];exact h
theorem Ah{F:Nat→Obj→Prop}{P:Program}{TY:TypeId→Option TI}{C:FuncId→Option Ctr}{D:PT}{wr:Tmp→Bool}(hm:P.follows .mixedOrders=true)(hTY:TyOk P TY)(hD:Cb F P D)(hC:Ad F P C){f:FuncId}{fn:Func}(hf:P.funcs[f]? =some fn)(L:List AV→List Blk→Nat→Option LR):
  Good F P f (inl TY C D wr L fn):=Aea hm hTY hD hC hf L fun _ _ _ _ h=>by rw[App] at h;exact h
end Go.Vc
