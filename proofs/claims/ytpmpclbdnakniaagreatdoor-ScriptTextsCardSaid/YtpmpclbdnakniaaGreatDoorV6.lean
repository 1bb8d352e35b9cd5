/- Contracts of functions that change nothing of what was there; own memory handed over to them. -/
import Derived.Test.YtpmpclbdnakniaaGreatDoorV5
set_option linter.all false
namespace Go.Vc
open Go
def Det(F:(AV→Prop)→Prop):Prop:=∀ N,F N→∃ r,N r∧F (fun c=>c=r)
structure PC where
 T:List AV→(AV→Prop)→Prop
 det:∀ cs,Det (T cs)
def GoodP(F:Nat→Obj→Prop)(P:Program)(f:FuncId)(pc:PC):Prop:=
 ∀ S (w:World) cs vs Q,Sok F S w→VL (fun _=>none) S w cs vs→pc.T cs Q→
  Calls P f vs w fun e w'=>∃ v c S',e= .returned v∧Q c∧V (fun _=>none) S' w' c v∧Ext (fun _=>none) S w (fun _=>none) S' w'∧Sok F S' w'
def Awg(pc:PC):Ctr:=fun cs H Q=>bT H cs fun cs' ids=>pc.T cs' fun r=>(match r.flat with
 |true=>Q r H
 |false=>Q r (sR H ids))
theorem V2:∀ (ids:List Nat) (H:List Blk) (i:Nat) (b:Blk),(sR H ids)[i]? =some b→b.live=true→H[i]? =some b∧i ∉ ids
 |[],H,i,b,h,_=>⟨h,by simp⟩
 |id::ids,H,i,b,h,hl=>by
  obtain⟨h1,h2⟩:=V2 ids _ i b h hl;rw[List.getElem?_set] at h1;split at h1
  ·split at h1
   ·cases h1;cases hl
   ·cases h1
  ·rename_i hne;exact⟨h1,by simp;exact⟨fun h=>hne h.symm,h2⟩⟩
theorem Zi:∀ (ids:List Nat) (H:List Blk),(sR H ids).length=H.length
 |[],_=>rfl
 |id::ids,H=>by rw[sR,Zi];simp
section
variable {F : Nat → Obj → Prop} {P : Program} {ρ : Nat → Option Nat} {S : Nat → Prop} {w : World}
theorem dV{H:List Blk}(h:HRel ρ S w H){ids:List Nat}(hl:bU H ids){S':Nat→Prop}{w':World}
  (hE:Ext (fun _=>none) (Ug ρ S ids) w (fun _=>none) S' w'):HRel ρ S' w' (sR H ids)∧Ext ρ S w ρ S' w':=by
 have same:∀ b,b<w.heap.size→w'.heap[b]? =w.heap[b]? :=fun b hb=>hE.same b hb (.inr fun i hi=>by cases hi)
 have back:∀ b,S' b→Ug ρ S ids b∨w.heap.size≤b:=fun b hb=>by
  rcases hE.stf b hb with h|⟨i,h⟩|h
  ·exact .inl h
  ·cases h
  ·exact .inr h
 have ext:Ext ρ S w ρ S' w':=by
  refine⟨fun _ _ h=>h,fun b hb=>hE.st b (.inl hb),fun b hb _=>same b hb,hE.size,hE.shp,fun _ _ h=>.inl ⟨_,h⟩,fun b hb=>?_,hE.os,hE.tape,hE.output⟩;rcases back b hb with (h1|⟨i,_,h1⟩)|h1
  ·exact .inl h1
  ·exact .inr (.inl ⟨i,h1⟩)
  ·exact .inr (.inr h1)
 refine⟨⟨fun i j bi bj b hi hj li lj=>h.inj i j bi bj b (V2 ids H i bi hi li).1 (V2 ids H j bj hj lj).1 li lj,fun i bi hi=>?_,fun i b hi=>?_⟩,ext⟩
 ·by_cases li:bi.live=true
  ·obtain⟨h1,h2⟩:=V2 ids H i bi hi li;refine(h.blk i bi h1).keep ext fun b hb=>⟨hb,same b (h.out _ _ hb).2,fun hs=>?_⟩;have hns:∀ (bi:Blk),bi.live=true→BRel ρ S w i bi→¬S b:=by
    intro bi li hr;cases bi<;>first|(cases li;done)|exact(hr b hb).1
   rcases back b hs with (h3|⟨j,hj,h3⟩)|h3
   ·exact h3
   ·obtain⟨bj,hbj,lj⟩:=hl j hj;have:=h.inj i j bi bj b h1 hbj li lj hb h3;subst this;exact(h2 hj).elim
   ·exact absurd (h.out _ _ hb).2 (Nat.not_lt.2 h3)
  ·cases bi<;>first|exact trivial|exact absurd rfl li
 ·rw[Zi];have:=h.out i b hi;exact⟨this.1,Nat.lt_of_lt_of_le this.2 hE.size⟩
theorem Qx{H:List Blk}(h:HRel ρ S w H){S1:Nat→Prop}{S':Nat→Prop}{w':World}(hE:Ext (fun _=>none) S1 w (fun _=>none) S' w'):HRel ρ S w' H∧Ext ρ S w ρ S w':=by
 have same:∀ b,b<w.heap.size→w'.heap[b]? =w.heap[b]? :=fun b hb=>hE.same b hb (.inr fun i hi=>by cases hi)
 have ext:Ext ρ S w ρ S w':=⟨fun _ _ h=>h,fun b hb=>hb,fun b hb _=>same b hb,hE.size,hE.shp,fun _ _ h=>.inl ⟨_,h⟩,fun b hb=>.inl hb,hE.os,hE.tape,hE.output⟩;exact⟨⟨h.inj,fun i bi hi=>(h.blk i bi hi).keep ext fun b hb=>⟨hb,same b (h.out _ _ hb).2,fun h=>h⟩,fun i b hi=>⟨(h.out i b hi).1,Nat.lt_of_lt_of_le (h.out i b hi).2 hE.size⟩⟩,ext⟩
theorem Ato{H:List Blk}(hH:HRel ρ S w H)(hs:∀ b,S b→b<w.heap.size)(ids:List Nat):∀ b,Ug ρ S ids b→b<w.heap.size
 |b,.inl h=>hs b h
 |b,.inr ⟨i,_,h⟩=>(hH.out i b h).2
theorem Zj{H:List Blk}(hH:HRel ρ S w H)(hs:Sok F S w)(ids:List Nat):Sok F (Ug ρ S ids) w:=
 ⟨Ato hH hs.lt ids,fun b o hf=>⟨.inl (hs.st b o hf).1,(hs.st b o hf).2⟩⟩
theorem rH{f:FuncId}{pc:PC}(h:GoodP F P f pc):Good F P f (Awg pc):=by
 intro ρ S w H cs vs Q hs hH hv hK;obtain⟨cs',ids,hT,hv',hl⟩:=sU hH hK hv;refine(h (Ug ρ S ids) w cs' vs _ (Zj hH hs ids) hv' hT).mono ?_;rintro e w' ⟨v,c,S',rfl,hQ,h1,h2,h3⟩;split at hQ
 ·rename_i hf;obtain⟨k1,k2⟩:=Qx hH h2;exact⟨v,_,H,ρ,S,rfl,hQ,h1.flatR hf,k1,k2,hs.still k2⟩
 ·obtain⟨k1,k2⟩:=dV hH hl h2;exact⟨v,_,_,ρ,S',rfl,hQ,h1.lift,k1,k2,h3⟩
end
end Go.Vc
namespace Go.Vc
open Go
section
variable {α : Type}
def Cm(l:List α)(w:List (Nat × α)):List α:=w.foldl (fun l p=>l.set p.1 p.2) l
def ov(D:Nat→Bool):Nat→List (List (Nat × α))→List α→List α
 |_,[],b=>b
 |i,w::ws,b=>ov D (i+1) ws (match D i with|true=>Cm b w|false=>b)
def Ec(k:Nat)(w:List (Nat × α)):Bool:=w.any fun p=>p.1 == k
theorem Ai0(l:List α):Cm l []=l:=rfl
theorem Pk(l:List α)(p:Nat × α)(w:List (Nat × α)):Cm l (p::w)=Cm (l.set p.1 p.2) w:=rfl
theorem Ic:∀ (w:List (Nat × α)) (l:List α),(Cm l w).length=l.length
 |[],_=>rfl
 |p::w,l=>by rw[Pk,Ic w];simp
theorem Nw{k:Nat}:∀ (w:List (Nat × α)) (l:List α),Ec k w=false→(Cm l w)[k]? =l[k]?
 |[],_,_=>rfl
 |p::w,l,h=>by
  simp only[Ec,List.any_cons,Bool.or_eq_false_iff,beq_eq_false_iff_ne] at h;rw[Pk,Nw w _ h.2,List.getElem?_set_ne h.1]
theorem V3{k:Nat}:∀ (w:List (Nat × α)) (l l':List α),l.length=l'.length→(Ec k w=true∨l[k]? =l'[k]?)→(Cm l w)[k]? =(Cm l' w)[k]?
 |[],l,l',_,h=>by
  rcases h with h|h
  ·cases h
  ·exact h
 |p::w,l,l',hl,h=>by
  rw[Pk,Pk];refine V3 w _ _ (by simpa using hl) ?_
  by_cases hp:p.1=k
  ·refine .inr ?_;rw[List.getElem?_set,List.getElem?_set,if_pos hp,if_pos hp,hl]
  ·rcases h with h|h
   ·simp only[Ec,List.any_cons,Bool.or_eq_true,beq_iff_eq] at h;rcases h with h|h
    ·exact absurd h hp
    ·exact .inl h
   ·exact .inr (by rw[List.getElem?_set_ne hp,List.getElem?_set_ne hp];exact h)
theorem sV(D:Nat→Bool):∀ (ws:List (List (Nat × α))) (i:Nat) (b:List α),(ov D i ws b).length=b.length
 |[],_,_=>rfl
 |w::ws,i,b=>by
  rw[ov,sV D ws];cases D i
  ·rfl
  ·exact Ic _ _
theorem Zk{D D':Nat→Bool}{k:Nat}:∀ (ws:List (List (Nat × α))) (i:Nat) (b b':List α),b.length=b'.length→b[k]? =b'[k]? →
  (∀ (m:Nat) w,ws[m]? =some w→Ec k w=true→D (i+m)=D' (i+m))→(ov D i ws b)[k]? =(ov D' i ws b')[k]?
 |[],_,_,_,_,h,_=>h
 |w::ws,i,b,b',hl,h,hD=>by
  rw[ov,ov];refine Zk ws (i+1) _ _ ?_ ?_ (fun m w hm hk=>by have:=hD (m+1) w (by simpa using hm) hk;rwa[show i+(m+1)=i+1+m by omega] at this)
  ·cases D i<;>cases D' i<;>simp[Ic,hl]
  ·by_cases hk:Ec k w=true
   ·have:=hD 0 w rfl hk;rw[Nat.add_zero] at this;rw[this];cases D' i
    ·exact h
    ·exact V3 w _ _ hl (.inl hk)
   ·have hk:Ec k w=false:=(by simpa using hk);have e:∀ (c:Bool) (b:List α),(match c with|true=>Cm b w|false=>b)[k]? =b[k]? :=by
     intro c b;cases c
     ·rfl
     ·exact Nw w b hk
    rw[e,e];exact h
theorem Ls{D:Nat→Bool}:∀ (ws:List (List (Nat × α))) (i:Nat) (b:List α),ov D (i+1) ws b=ov (fun m=>D (m+1)) i ws b
 |[],_,_=>rfl
 |w::ws,i,b=>by rw[ov,ov,Ls ws (i+1)]
theorem Ln{D D':Nat→Bool}:∀ (ws:List (List (Nat × α))) (i:Nat) (b:List α),(∀ m:Nat,m<ws.length→D (i+m)=D' (i+m))→ov D i ws b=ov D' i ws b
 |[],_,_,_=>rfl
 |w::ws,i,b,h=>by
  rw[ov,ov];have h0:=h 0 (by simp)
  rw[Nat.add_zero] at h0;rw[h0];exact Ln ws (i+1) _ fun m hm=>by have:=h (m+1) (by simpa using hm);rwa[show i+(m+1)=i+1+m by omega] at this
theorem Ad0{w w':List (Nat × α)}(h:∀ k,Ec k w=true→Ec k w'=false)(b:List α):Cm (Cm b w) w'=Cm (Cm b w') w:=by
 apply List.ext_getElem?
 intro k;by_cases hk:Ec k w=true
 ·rw[Nw w' _ (h k hk)];exact V3 w _ _ (by rw[Ic]) (.inl hk)
 ·have hk:Ec k w=false:=by simpa using hk
  rw[Nw w _ hk];exact V3 w' _ _ (by rw[Ic]) (.inr (Nw w b hk))
theorem Ai1{D:Nat→Bool}{w:List (Nat × α)}:∀ (ws:List (List (Nat × α))) (i:Nat) (b:List α),(∀ (m:Nat) w',ws[m]? =some w'→D (i+m)=true→∀ k,Ec k w=true→Ec k w'=false)→
  ov D i ws (Cm b w)=Cm (ov D i ws b) w
 |[],_,_,_=>rfl
 |w'::ws,i,b,h=>by
  rw[ov,ov];have tl:∀ (m:Nat) w'',ws[m]? =some w''→D (i+1+m)=true→∀ k,Ec k w=true→Ec k w''=false:=fun m w'' hm hd=>h (m+1) w'' (by simpa using hm) (by rwa[show i+(m+1)=i+1+m by omega])
  cases hd:D i with
  |false=>exact Ai1 ws (i+1) b tl
  |true=>
   show ov D (i+1) ws (Cm (Cm b w) w')=Cm (ov D (i+1) ws (Cm b w')) w;rw[Ad0 (h 0 w' rfl (by rwa[Nat.add_zero]))]
   exact Ai1 ws (i+1) _ tl
theorem Ai2{D:Nat→Bool}{j:Nat}{wj:List (Nat × α)}:∀ (ws:List (List (Nat × α))) (i:Nat) (b:List α),ws[j]? =some wj→D (i+j)=false→
  (∀ (m:Nat) w,ws[m]? =some w→j<m→D (i+m)=true→∀ k,Ec k wj=true→Ec k w=false)→ov (fun m=>m == i+j || D m) i ws b=Cm (ov D i ws b) wj:=by
 intro ws;induction ws generalizing j with
 |nil=>intro i b h;simp at h
 |cons w ws ih=>
  intro i b hj hD hc;cases j with
  |zero=>
   simp at hj
   subst hj;rw[Nat.add_zero] at hD;rw[ov,ov,hD];simp only[Nat.add_zero,beq_self_eq_true,Bool.true_or];rw[Ln (D':=D) ws (i+1) _ fun m _=>by
    have:(i+1+m == i)=false:=by simpa using (by omega)
    rw[this];rfl]
   exact Ai1 ws (i+1) b fun m w' hm hd=>hc (m+1) w' (by simpa using hm) (by omega) (by rwa[show i+(m+1)=i+1+m by omega])
  |succ j=>
   rw[ov,ov];have:(i == i+(j+1))=false:=by simp
   simp only[this,Bool.false_or];have:=ih (j:=j) (i+1) (match D i with|true=>Cm b w|false=>b) (by simpa using hj) (by rwa[show i+1+j=i+(j+1) by omega])
    (fun m w' hm hlt hd=>hc (m+1) w' (by simpa using hm) (by omega) (by rwa[show i+(m+1)=i+1+m by omega]))
   rw[show i+1+j=i+(j+1) by omega] at this
   exact this
end
def direct(o:Oper):List Nat:=(o.after.toList.filter fun e=>Region.binds .any e).map (·.on)
inductive Anc (ops:Array Oper):Nat→Nat→Prop where
 |one {i j:Nat} {o:Oper} (h:ops[j]? =some o) (hi:i ∈ direct o):Anc ops i j
 |step {i m j:Nat} {o:Oper} (h:Anc ops i m) (hj:ops[j]? =some o) (hm:m ∈ direct o):Anc ops i j
def bX(acc:List Nat):List Nat→Nat
 |[]=>0
 |i::l=>Nat.lor (Nat.lor (2 ^ i) (acc.getD i 0)) (bX acc l)
def A1e(o:Oper)(acc:List Nat):Nat:=bX acc (direct o)
def Nb:List Nat→List Oper→List Nat
 |acc,[]=>acc
 |acc,o::os=>Nb (acc++[A1e o acc]) os
theorem jS{acc:List Nat}{i:Nat}:∀ {l:List Nat},(bX acc l).testBit i=true→i ∈ l∨∃ m ∈ l,(acc.getD m 0).testBit i=true
 |[],h=>by simp[bX] at h
 |x::l,h=>by
  rw[bX] at h;have h:(2 ^ x |||acc.getD x 0 |||bX acc l).testBit i=true:=h
  rw[Nat.testBit_or,Nat.testBit_or,Bool.or_eq_true,Bool.or_eq_true,Nat.testBit_two_pow] at h;rcases h with (h|h)|h
  ·left;simp at h;subst h;simp
  ·exact .inr ⟨x,by simp,h⟩
  ·rcases jS h with h|⟨m,h1,h2⟩
   ·exact .inl (List.mem_cons_of_mem _ h)
   ·exact .inr ⟨m,List.mem_cons_of_mem _ h1,h2⟩
theorem sW(ops:Array Oper):∀ (os:List Oper) (acc:List Nat),(∀ m:Nat,m<os.length→ops[acc.length+m]? =os[m]?)→
  (∀ (j:Nat) l,acc[j]? =some l→∀ i,l.testBit i=true→Anc ops i j)→∀ (j:Nat) l,(Nb acc os)[j]? =some l→∀ i,l.testBit i=true→Anc ops i j
 |[],acc,_,h=>h
 |o::os,acc,ho,h=>by
  have h0:ops[acc.length]? =some o:=by have:=ho 0 (by simp);simpa using this
  refine sW ops os (acc++[A1e o acc]) (fun m hm=>?_) (fun j l hl i hi=>?_)
  ·have:=ho (m+1) (by simpa using hm)
   simp only[List.length_append,List.length_singleton];rw[show acc.length+1+m=acc.length+(m+1) by omega,this]
   simp
  ·by_cases hj:j<acc.length
   ·rw[List.getElem?_append_left hj] at hl;exact h j l hl i hi
   ·rw[List.getElem?_append_right (by omega)] at hl
    have hj':j=acc.length:=by
     rcases Nat.eq_or_lt_of_le (Nat.le_of_not_lt hj) with h1|h1
     ·exact h1.symm
     ·rw[List.getElem?_eq_none (by simp;omega)] at hl;cases hl
    subst hj';simp at hl
    subst hl;rcases jS hi with hi|⟨m,hm,hi⟩
    ·exact .one h0 hi
    ·refine .step (m:=m) ?_ h0 hm;rw[List.getD_eq_getElem?_getD] at hi;cases hm':acc[m]? with
     |none=>rw[hm'] at hi;simp at hi
     |some l=>rw[hm'] at hi;exact h m l hm' i hi
def Down(ops:Array Oper)(D:Nat→Bool):Prop:=∀ (j:Nat) o,ops[j]? =some o→D j=true→∀ i ∈ direct o,D i=true
theorem Down.anc{ops:Array Oper}{D:Nat→Bool}(h:Down ops D){i j:Nat}(ha:Anc ops i j):(∀ o,ops[j]? =some o→∀ m ∈ direct o,D m=true)→D i=true:=by
 induction ha with
 |one hj hi=>exact fun hd=>hd _ hj _ hi
 |step _ hj hm ih=>
  intro hd;exact ih fun o ho k hk=>h _ o ho (hd _ hj _ hm) k hk
def Hw(n:Nat)(listed:Array Bool):Nat:=(List.range n).countP fun i=> !listed.getD i true
theorem Ai3{p q:Nat→Bool}{j:Nat}(hp:p j=true)(hq:q j=false)(h:∀ i,i≠j→p i=q i):∀ n,(List.range n).countP p=(List.range n).countP q+if j<n then 1 else 0:=by
 intro n;induction n with
 |zero=>simp
 |succ n ih=>
  rw[List.range_succ,List.countP_append,List.countP_append,ih];by_cases hj:j=n
  ·subst hj;simp[hp,hq]
  ·simp only[List.countP_singleton,h n (fun e=>hj e.symm)];by_cases hlt:j<n
   ·have h2:j<n+1:=(by omega);simp only[hlt,h2,if_true];omega
   ·have h2: ¬j<n+1:=(by omega);simp only[hlt,h2,if_false];omega
theorem jT{n j:Nat}{listed:Array Bool}(hs:listed.size=n)(hj:j<n)(hl:listed.getD j true=false):Hw n listed=Hw n (listed.setIfInBounds j true)+1:=by
 unfold Hw;have:=Ai3 (p:=fun i=> !listed.getD i true) (q:=fun i=> !(listed.setIfInBounds j true).getD i true) (j:=j) (by simp only[hl];rfl) ?_ (fun i hi=>?_) n
 ·rw[this,if_pos hj]
 ·simp[hs,hj]
 ·show(!listed.getD i true)= !(listed.setIfInBounds j true).getD i true;rw[getD_set_ne true (Ne.symm hi)]
theorem dW{n:Nat}{listed:Array Bool}(h:Hw n listed=0):∀ i,i<n→listed.getD i true=true:=by
 intro i hi;unfold Hw at h;rw[List.countP_eq_zero] at h;have:=h i (List.mem_range.2 hi);simpa using this
end Go.Vc
namespace Go.Vc
open Go
section
variable {TY : TypeId → Option TI}
theorem Apd(c a b:AV):Det (sO c a b):=by
 intro N h;unfold sO at h ⊢;split at h
 ·exact⟨_,h,rfl⟩
 ·split at h
  ·rename_i a b hh _;exact⟨_,h,rfl⟩
  ·exact⟨_,h,rfl⟩
 ·exact h.elim
theorem Ape{o:Option AV}:Det (Io o):=by
 intro N h;obtain⟨x,rfl,hN⟩:=Ci h;exact⟨x,hN,rfl⟩
theorem Amv{t:TypeId}{ps:List (Nat × AV)}:Det (bN TY t ps):=by
 rw[show bN TY t ps=bM TY t ps from funext fun N=>sJ];intro N h;unfold bM at h ⊢;repeat' split at h
 all_goals first
  |exact h.elim
  |(obtain⟨x,hx,hN⟩:=Ci h;exact⟨_,hN,by simp[*,Io]⟩)
theorem Amw{t:TypeId}{p:AV}{H:List Blk}:Det (Nt TY t p H):=by
 intro N h;unfold Nt at h ⊢;repeat' split at h
 all_goals first
  |exact h.elim
  |(obtain⟨x,hx,hN⟩:=Ci h;exact⟨_,hN,by simp[*,Io]⟩)
  |(obtain⟨x,hx,hN⟩:=Ci h.2;exact⟨_,hN,by simp[*,Io,h.1]⟩)
theorem Abt{x:AV}:Det (Qu x):=by
 intro N h;unfold Qu at h ⊢;split at h
 all_goals first|exact h.elim|exact⟨_,h,rfl⟩
theorem Sb{wr:Bool}{k:IntKind}{n:Int}:Det (fitA wr k n):=by
 intro N h;cases wr
 ·exact⟨_,h.2,h.1,rfl⟩
 ·exact⟨_,h,rfl⟩
theorem Atp{wr:Bool}{op:BinOp}{k:IntKind}{a b:Int}:Det (Aoz wr op k a b):=by
 intro N h;unfold Aoz at h ⊢;split at h
 case h_1=>exact Sb N h
 case h_2=>exact Sb N h
 case h_3=>exact Sb N h
 case h_4=>
  cases hb:eqI b 0 with
  |true=>rw[hb] at h;exact h.elim
  |false=>
   rw[hb] at h;cases hu:uns k with
   |true=>rw[hu] at h;exact Sb N h
   |false=>rw[hu] at h;exact Sb N h
 case h_5=>
  cases hb:eqI b 0 with
  |true=>rw[hb] at h;exact h.elim
  |false=>
   rw[hb] at h;cases hu:uns k with
   |true=>rw[hu] at h;exact⟨_,h,rfl⟩
   |false=>rw[hu] at h;exact⟨_,h,rfl⟩
 all_goals first|exact⟨_,h,rfl⟩|exact h.elim
theorem sX{op:BinOp}{k:IntKind}{a b:Int}:Det (bD op k a b):=by
 intro N h;unfold bD at h ⊢;obtain⟨hb,h⟩:=h;split at h
 all_goals first|exact⟨_,h,hb,rfl⟩|exact h.elim
theorem Atq{op:BinOp}{x y:List UInt8}:Det (Ao1 op x y):=by
 intro N h;unfold Ao1 at h ⊢;split at h
 all_goals first|exact⟨_,h,rfl⟩|exact⟨_,h.2,h.1,rfl⟩|exact h.elim
theorem Atr{wr:Bool}{op:BinOp}{t:TypeId}{x y:AV}:Det (Amq TY wr op t x y):=by
 intro N h;unfold Amq at h ⊢;split at h
 ·split at h
  ·exact sX N h
  ·exact sX N h
  ·split at h
   ·rename_i hk;subst hk;simp only[if_true];obtain⟨r,h1,h2⟩:=Atp N h;exact⟨r,h1,h2⟩
   ·exact h.elim
 ·exact Atq N h
 ·rename_i hx1 hx2;split at h
  ·exact h.elim
  ·rename_i i hi;split at h
   ·split at h
    ·exact⟨_,h,by simp[*]⟩
    ·exact⟨_,h,by simp[*]⟩
    ·exact h.elim
   ·split at h
    ·split at h
     ·obtain⟨x,hx,hN⟩:=Ci h;exact⟨_,hN,by simp[*,Io]⟩
     ·obtain⟨x,hx,hN⟩:=Ci h;exact⟨_,hN,by simp[*,Io]⟩
     ·exact h.elim
    ·exact h.elim
   ·split at h
    ·obtain⟨x,hx,hN⟩:=Ci h;exact⟨_,hN,by simp[Io,hx]⟩
    ·obtain⟨x,hx,hN⟩:=Ci h;exact⟨_,hN,by simp[Io,hx]⟩
    ·exact h.elim
theorem Az9{wr:Bool}{op:UnOp}{x:AV}:Det (unA wr op x):=by
 intro N h;unfold unA at h ⊢;split at h
 ·exact Sb N h
 ·exact⟨_,h,rfl⟩
 ·exact h.elim
theorem sY{H:List Blk}{x:AV}{K:Nat→Nat→(Nat→List AV)→Prop}(h:Za H x K):∃ sz len get,K sz len get∧∀ K':Nat→Nat→(Nat→List AV)→Prop,K' sz len get→Za H x K':=by
 unfold Za at h;split at h
 ·exact⟨_,_,_,h,fun K' h'=>h'⟩
 ·split at h
  ·rename_i hcs;split at h
   ·rename_i hsz;exact⟨_,_,_,h.2,fun K' h'=>by unfold Za;simp only[hcs];rw[if_pos hsz];exact⟨h.1,h'⟩⟩
   ·exact h.elim
  ·exact h.elim
 ·exact h.elim
theorem Apf{wr:Bool}{s d:TypeId}{x:AV}{H:List Blk}:Det (Zd TY wr s d x H):=by
 intro N h;unfold Zd at h ⊢;split at h
 ·split at h
  ·obtain⟨r,h1,h2⟩:=Sb N h;exact⟨r,h1,by simp[*]⟩
  ·exact⟨_,h,by simp[*]⟩
  ·split at h
   ·split at h
    ·split at h
     all_goals first|exact⟨_,h,by simp[*]⟩|exact h.elim
    ·exact h.elim
   ·exact h.elim
  ·rename_i hn1 hn2;split at h
   ·split at h
    ·split at h
     ·obtain⟨sz,len,get,h1,h2⟩:=sY h;split at h1
      ·rename_i hsz;refine⟨_,h1.2,h2 _ ?_⟩;rw[if_pos hsz];exact⟨h1.1,rfl⟩
      ·exact h1.elim
     ·obtain⟨sz,len,get,h1,h2⟩:=sY h;split at h1
      ·rename_i hsz;refine⟨_,h1.2,h2 _ ?_⟩;rw[if_pos hsz];exact⟨h1.1,rfl⟩
      ·exact h1.elim
     ·exact h.elim
    ·exact h.elim
   ·exact h.elim
  ·exact h.elim
 ·exact h.elim
theorem rI{t:TypeId}{p:AV}{f:Nat}:Det (Ks TY t p f):=by
 intro N h;unfold Ks at h ⊢;repeat' split at h
 all_goals first|exact h.elim|exact⟨_,h,by simp[*]⟩
theorem Amx{t:TypeId}{p:AV}{f:Nat}:Det (bG TY t p f):=by
 intro N h;unfold bG at h ⊢;repeat' split at h
 all_goals first|exact h.elim|(obtain⟨x,hx,hN⟩:=Ci h;exact⟨_,hN,by simp[*,Io]⟩)
theorem rJ{t:TypeId}{x i:AV}:Det (Kt TY t x i):=by
 intro N h;unfold Kt at h ⊢;split at h
 ·split at h
  ·split at h
   ·repeat' split at h
    all_goals first|exact h.elim|exact⟨_,h.2,by simp[*,h.1.1,h.1.2]⟩
   ·exact h.elim
  ·split at h
   ·obtain⟨h1,h⟩:=h;split at h
    all_goals first|exact h.elim|exact⟨_,h,by simp[*,h1.1,h1.2]⟩
   ·exact h.elim
  ·exact h.elim
 ·exact h.elim
theorem Amy{t:TypeId}{x i:AV}:Det (bJ TY t x i):=by
 intro N h;unfold bJ at h ⊢;repeat' split at h
 all_goals first|exact h.elim|exact⟨_,h.2,by simp[*,h.1.1,h.1.2]⟩
theorem Abu{t:TypeId}{x i:AV}:Det (Nl TY t x i):=by
 intro N h;unfold Nl at h ⊢;repeat' split at h
 all_goals first|exact h.elim|(obtain⟨y,hx,hN⟩:=Ci h.2;exact⟨_,hN,by simp[*,h.1.1,h.1.2,Io]⟩)
theorem I7{x:Option AV}{d:Nat}{K:Nat→Prop}(h:T9 x d K):∃ a,K a∧∀ K':Nat→Prop,K' a→T9 x d K':=by
 unfold T9 at h;split at h
 ·exact⟨_,h,fun K' h'=>h'⟩
 ·exact⟨_,h.2,fun K' h'=>⟨h.1,h'⟩⟩
 ·exact h.elim
theorem Amz{t:TypeId}{x:AV}{l h m:Option AV}:Det (bK TY t x l h m):=by
 intro N h;unfold bK at h ⊢;split at h
 ·exact h.elim
 ·split at h
  ·obtain⟨a,h,ha⟩:=I7 h;obtain⟨b,h,hb⟩:=I7 h;refine⟨_,h.2,?_⟩;simp only[*];exact ha _ (hb _ ⟨h.1,rfl⟩)
  ·split at h
   ·split at h
    ·rename_i hsz;obtain⟨a,h,ha⟩:=I7 h;obtain⟨b,h,hb⟩:=I7 h;refine⟨_,h.2,?_⟩;simp only[*,if_true];exact ha _ (hb _ ⟨h.1,rfl⟩)
    ·exact h.elim
   ·exact h.elim
  ·split at h
   ·split at h
    ·rename_i hsz;obtain⟨a,h,ha⟩:=I7 h;obtain⟨b,h,hb⟩:=I7 h;refine⟨_,h.2,?_⟩;simp only[*,if_true,and_self];try exact ha _ (hb _ ⟨h.1,rfl⟩)
    ·exact h.elim
   ·exact h.elim
  ·split at h
   ·split at h
    ·rename_i hsz;obtain⟨a,h,ha⟩:=I7 h;obtain⟨b,h,hb⟩:=I7 h;refine⟨_,h.2,?_⟩;simp only[*,if_true];exact ha _ (hb _ ⟨h.1,rfl⟩)
    ·exact h.elim
   ·exact h.elim
  ·exact h.elim
theorem jU{kd:TK}{key:AV}:∀ {es:List (AV × AV)} {i:Nat} {K:Option (Nat × AV)→Prop},Xg kd key es i K→∃ r,K r∧∀ K':Option (Nat × AV)→Prop,K' r→Xg kd key es i K'
 |[],i,K,h=>⟨none,h,fun K' h'=>h'⟩
 |(k',v)::es,i,K,h=>by
  rw[Xg] at h;split at h
  ·rename_i b hb;split at h
   ·exact⟨_,h,fun K' h'=>by rw[Xg,hb];exact h'⟩
   ·obtain⟨r,h1,h2⟩:=jU h;exact⟨r,h1,fun K' h'=>by rw[Xg,hb];exact h2 K' h'⟩
  ·exact h.elim
theorem Ai4{t:TypeId}{x i:AV}{ok:Bool}{H:List Blk}:Det (M9 TY t x i ok H):=by
 intro N h;unfold M9 at h ⊢;split at h
 ·exact h.elim
 ·split at h
  ·split at h
   ·split at h
    ·split at h
     ·exact h.elim
     ·obtain⟨r,h1,h2⟩:=jU h;split at h1
      ·refine⟨_,h1,?_⟩;simp only[*,if_true];try exact h2 _ rfl
      ·obtain⟨z,hz,hN⟩:=Ci h1;refine⟨_,hN,?_⟩;simp only[*,if_true];refine h2 _ ?_;simp[Io]
    ·exact h.elim
   ·exact h.elim
  ·exact h.elim
theorem Ad1{x:AV}{i:Nat}:Det (Qv x i):=by
 intro N h;unfold Qv at h ⊢;split at h
 ·exact Ape N h
 ·exact h.elim
theorem Ats{t:TypeId}{x:AV}:Det (Ams TY t x):=by
 intro N h;unfold Ams at h ⊢;repeat' split at h
 all_goals first|exact h.elim|exact⟨_,h,by simp[*]⟩
end
end Go.Vc
namespace Go.Vc
open Go
abbrev PT:=FuncId→Option PC
def Cb(F:Nat→Obj→Prop)(P:Program)(D:PT):Prop:=∀ f pc,D f=some pc→Ent P f∧GoodP F P f pc
def Xi:AV→List Nat
 | .ptr id _=>[id]
 | .eptr id _ _ _=>[id]
 | .osl id _ _ _ _=>[id]
 | .map id=>[id]
 |_=>[]
def Pm(ts:List AV):Op→List Nat
 | .load _ a=>Xi (evO ts a)
 | .convert _ _ x=>Xi (evO ts x)
 | .lookup _ x _ _=>Xi (evO ts x)
 |_=>[]
section
variable {P : Program} {TY : TypeId → Option TI} {D : PT}
def Ai5(TY:TypeId→Option TI)(t:TypeId)(x:AV)(N:AV→Prop):Prop:=
 match TY t with
 |none=>False
 |some i=>match i.kind,x with
  | .str,.str l=>N (.int .i64 l.length)
  | .slice _,.sl _ _ len _=>N (.int .i64 len)
  | .slice _,.osl _ _ _ len _=>N (.int .i64 len)
  | .slice _,.nilsl=>N (.int .i64 0)
  |_,_=>False
theorem sZ{t:TypeId}{x:AV}{N:AV→Prop}(h:Ai5 TY t x N):Ao9 TY t x N:=by
 unfold Ai5 at h;unfold Ao9;split at h
 ·exact h.elim
 ·rename_i i hi;simp only[hi];split at h<;>simp only[*]<;>first|exact fun _=>h|exact h|exact fun _=>trivial|exact trivial|exact h.elim
theorem Ad2{t:TypeId}{x:AV}:Det (Ai5 TY t x):=by
 intro N h;unfold Ai5 at h ⊢;repeat' split at h
 all_goals first|exact h.elim|exact⟨_,h,by simp[*]⟩
def X4(TY:TypeId→Option TI)(t:TypeId)(p x:AV)(H:List Blk)(N:Nat→Blk→Prop):Prop:=
 match TY t with
 |none=>False
 |some i=>if storable i x then match p with
  | .ptr id j=>match H[id]? with
   |some (.var cs T)=>if j+i.size≤cs.length then N id (.var (over cs j x.cells) T) else False
   |_=>False
  | .eptr id sz e j=>match H[id]? with
   |some (.row sz' len get T)=>if sz=sz' then if j+i.size≤sz then e<len∧N id (.row sz len (fun k=>Xv (decide (k=e)) (over (get e) j x.cells) (get k)) T) else False else False
   |_=>False
  |_=>False
  else False
theorem jV{t:TypeId}{p x:AV}{H:List Blk}{N:Nat→Blk→Prop}{M:List Blk→Prop}(h:X4 TY t p x H N)(hM:∀ id b,N id b→M (H.set id b)):Y8 TY t p x H M:=by
 unfold X4 at h;unfold Y8;cases hi:TY t with
 |none=>rw[hi] at h;exact h.elim
 |some i=>
  rw[hi] at h;simp only at h ⊢;by_cases hst:storable i x=true
  ·rw[if_pos hst] at h ⊢;cases p<;>simp only at h ⊢<;>first|exact h.elim|skip
   case ptr id j=>
    split at h
    ·rename_i cs T0 hcs;simp only[hcs];split at h
     ·rename_i hin;rw[if_pos hin];exact hM _ _ h
     ·exact h.elim
    ·exact h.elim
   case eptr id sz e j=>
    split at h
    ·rename_i sz' len get T0 hcs;simp only[hcs];split at h
     ·rename_i hsz;split at h
      ·rename_i hin;rw[if_pos hsz,if_pos hin];exact⟨h.1,hM _ _ h.2⟩
      ·exact h.elim
     ·exact h.elim
    ·exact h.elim
  ·rw[if_neg hst] at h;exact h.elim
theorem Ai6{t:TypeId}{p x:AV}{H:List Blk}{N:Nat→Blk→Prop}(h:X4 TY t p x H N):∃ id b,N id b∧∀ H':List Blk,H'[id]? =H[id]? →X4 TY t p x H' (fun id' b'=>id'=id∧b'=b):=by
 unfold X4 at h;unfold X4;cases hi:TY t with
 |none=>rw[hi] at h;exact h.elim
 |some i=>
  rw[hi] at h;simp only at h ⊢;by_cases hst:storable i x=true
  ·rw[if_pos hst] at h;simp only[if_pos hst];cases p<;>simp only at h ⊢<;>first|exact h.elim|skip
   case ptr id j=>
    split at h
    ·rename_i cs T0 hcs;split at h
     ·rename_i hin;refine⟨_,_,h,fun H' hH'=>?_⟩;simp only[hH',hcs];rw[if_pos hin];first|exact⟨rfl,rfl⟩|exact⟨trivial,trivial⟩
     ·exact h.elim
    ·exact h.elim
   case eptr id sz e j=>
    split at h
    ·rename_i sz' len get T0 hcs;split at h
     ·rename_i hsz;split at h
      ·rename_i hin;refine⟨_,_,h.2,fun H' hH'=>?_⟩;simp only[hH',hcs];rw[if_pos hsz,if_pos hin];first|exact⟨h.1,rfl,rfl⟩|exact⟨h.1,trivial,trivial⟩
      ·exact h.elim
     ·exact h.elim
    ·exact h.elim
  ·rw[if_neg hst] at h;exact h.elim
def opD(TY:TypeId→Option TI)(D:PT)(wr:Bool)(slot:Nat)(op:Op)(ts:List AV)(H:List Blk)(K:AV→List (Nat × Blk)→List Nat→Prop):Prop:=
 match op with
 | .alloc e=>bE TY e [] fun c H'=>(match c,H' with| .ptr _ j,[b]=>K (.ptr slot j) [(slot,b)] []|_,_=>False)
 | .box _ x=>Ao2 (evO ts x) [] fun c H'=>(match c,H' with| .ptr _ j,[b]=>K (.ptr slot j) [(slot,b)] []|_,_=>False)
 | .buildSlice t n ps=>Fy TY t n (partsE ts ps) [] fun c H'=>(match c,H' with| .osl _ sz o l cap,[b]=>K (.osl slot sz o l cap) [(slot,b)] []|_,_=>False)
 | .store t a x=>X4 TY t (evO ts a) (evO ts x) H fun id b=>K .any [(id,b)] [id]
 | .call c=>(match c.callee with
  | .value f=>(match evO ts f with
   | .fn g caps=>(match D g with
    |some pc=>bT H (c.args.toList.map (evO ts)++caps) fun cs' ids=>pc.T cs' fun r=>(match r.flat || ids.isEmpty with|true=>K r [] ids|false=>False)
    |none=>False)
   |_=>False)
  | .builtin .len=>(match c.argTypes.toList,c.args.toList with
   |[t],[x]=>Ai5 TY t (evO ts x) fun r=>K r [] []
   |_,_=>False)
  | .builtin .cap=>(match c.argTypes.toList,c.args.toList with
   |[t],[x]=>Ams TY t (evO ts x) fun r=>K r [] []
   |_,_=>False)
  |_=>False)
 |op=>opV TY wr op ts H fun r=>K r [] (Pm ts op)
theorem Akd{wr:Bool}{op:Op}{ts:List AV}{H:List Blk}(hc:∀ c,op≠ .call c):Det (opV TY wr op ts H):=by
 intro N h;cases op<;>simp only[opV] at h ⊢<;>(try exact h.elim)
 case move=>exact⟨_,h,rfl⟩
 case assign=>exact⟨_,h,rfl⟩
 case pick=>exact Apd _ _ _ N h
 case build=>exact Amv N h
 case load=>exact Amw N h
 case nilCheck=>exact Abt N h
 case binOp=>exact Atr N h
 case unOp=>exact Az9 N h
 case convert=>exact Apf N h
 case makeInterface=>
  split at h
  ·split at h
   ·exact h.elim
   ·exact⟨_,h,rfl⟩
  ·exact h.elim
 case makeFunc=>
  split at h
  ·exact⟨_,h,by simp[*]⟩
  ·exact h.elim
 case slice=>
  split at h
  ·split at h
   ·exact h.elim
   ·obtain⟨r,h1,h2⟩:=Amz N h;exact⟨r,h1,by simp[*]⟩
  ·exact h.elim
 case fieldAddr=>exact rI N h
 case field=>exact Amx N h
 case indexAddr=>exact rJ N h
 case index=>
  split at h
  ·obtain⟨r,h1,h2⟩:=Abu N h;exact⟨r,h1,by simp[*]⟩
  ·obtain⟨r,h1,h2⟩:=Amy N h;exact⟨r,h1,h2⟩
 case lookup=>exact Ai4 N h
 case extract=>exact Ad1 N h
 case call c=>exact absurd rfl (hc c)
theorem Abv{t:TypeId}{p:AV}{H H':List Blk}{N:AV→Prop}(hH:∀ id ∈ Xi p,H'[id]? =H[id]?):Nt TY t p H' N=Nt TY t p H N:=by
 unfold Nt;cases p<;>first|rfl|simp only[hH _ (show _ ∈ Xi _ from List.mem_singleton.2 rfl)]
theorem Ai7{x:AV}{H H':List Blk}{K:Nat→Nat→(Nat→List AV)→Prop}(hH:∀ id ∈ Xi x,H'[id]? =H[id]?):Za H' x K=Za H x K:=by
 unfold Za;cases x<;>first|rfl|simp only[hH _ (show _ ∈ Xi _ from List.mem_singleton.2 rfl)]
theorem Ad3{wr:Bool}{s d:TypeId}{x:AV}{H H':List Blk}{N:AV→Prop}(hH:∀ id ∈ Xi x,H'[id]? =H[id]?):Zd TY wr s d x H' N=Zd TY wr s d x H N:=by
 have e:Za H' x=Za H x:=funext fun K=>Ai7 hH;unfold Zd;cases hs:TY s with
 |none=>rfl
 |some i=>
  cases hd:TY d with
  |none=>rfl
  |some j=>
   simp only;cases hk:j.kind;case str=>cases x<;>simp only[e]
   case int=>cases x<;>rfl
   all_goals rfl
theorem rK{t:TypeId}{x k:AV}{ok:Bool}{H H':List Blk}{N:AV→Prop}(hH:∀ id ∈ Xi x,H'[id]? =H[id]?):M9 TY t x k ok H' N=M9 TY t x k ok H N:=by
 have e:mapOf H' x=mapOf H x:=by
  unfold mapOf;cases x<;>first|rfl|simp only[hH _ (show _ ∈ Xi _ from List.mem_singleton.2 rfl)]
 unfold M9;rw[e]
theorem Nc{ts ts':List AV}{ps:Array (Nat × Operand)}(hx:∀ x ∈ ps.map (·.2),evO ts' x=evO ts x):partsE ts' ps=partsE ts ps:=by
 unfold partsE;refine List.map_congr_left fun p hp=>?_;rw[hx p.2 (Array.mem_map.2 ⟨p,by simpa using hp,rfl⟩)]
theorem Nx{ts ts':List AV}{xs:Array Operand}(hx:∀ x ∈ xs,evO ts' x=evO ts x):xs.toList.map (evO ts')=xs.toList.map (evO ts):=
 List.map_congr_left fun x h=>hx x (by simpa using h)
theorem tB{wr:Bool}{op:Op}{ts ts':List AV}{H H':List Blk}{N:AV→Prop}(hc:∀ c,op≠ .call c)(hx:∀ x ∈ op.operands,evO ts' x=evO ts x)(hH:∀ id ∈ Pm ts op,H'[id]? =H[id]?):
  opV TY wr op ts' H' N=opV TY wr op ts H N:=by
 cases op<;>simp only[Op.operands] at hx<;>simp only[opV]
 case move x=>rw[hx x (by simp)]
 case assign x=>rw[hx x (by simp)]
 case pick c x y=>rw[hx c (by simp),hx x (by simp),hx y (by simp)]
 case build t ps=>rw[Nc fun x h=>hx x (by simpa using h)]
 case load t x=>rw[hx x (by simp)];exact Abv hH
 case nilCheck x=>rw[hx x (by simp)]
 case binOp op t x y yt=>rw[hx x (by simp),hx y (by simp)]
 case unOp op t x=>rw[hx x (by simp)]
 case convert s d x=>rw[hx x (by simp)];exact Ad3 hH
 case makeInterface t x=>rw[hx x (by simp)]
 case makeFunc fn first caps=>rw[Nx (xs:=caps) fun x h=>hx x (by simp[h])]
 case slice t x l h m=>
  rw[hx x (by simp)]
  have e:∀ o:Option Operand,(∀ y,o=some y→evO ts' y=evO ts y)→o.map (evO ts')=o.map (evO ts):=fun o ho=>by
   cases o with
   |none=>rfl
   |some y=>rw[Option.map_some,Option.map_some,ho y rfl]
  rw[e l fun y hy=>hx y (by subst hy;simp),e h fun y hy=>hx y (by subst hy;simp),e m fun y hy=>hx y (by subst hy;simp)]
 case fieldAddr t x f=>rw[hx x (by simp)]
 case field t x f=>rw[hx x (by simp)]
 case indexAddr t x i=>rw[hx x (by simp),hx i (by simp)]
 case index t x i=>rw[hx x (by simp),hx i (by simp)]
 case lookup t x i ok=>rw[hx x (by simp),hx i (by simp)];exact rK hH
 case extract t i=>rw[hx t (by simp)]
 case call c=>exact absurd rfl (hc c)
mutual
theorem tC{H:List Blk}:∀ {c:AV} {K:AV→List Nat→Prop},Dt H c K→∃ c' ids,K c' ids∧∀ (H':List Blk) (K':AV→List Nat→Prop),(∀ id ∈ ids,H'[id]? =H[id]?)→K' c' ids→Dt H' c K'
 | .osl id sz off len cap,K,h=>by
  simp only[Dt] at h;split at h
  ·rename_i sz' L get T0 hcs;split at h
   ·rename_i hsz;refine⟨_,_,h.2,fun H' K' hH hK=>?_⟩;simp only[Dt,hH id (by simp),hcs]
    rw[if_pos hsz];exact⟨h.1,hK⟩
   ·exact h.elim
  ·exact h.elim
 | .ptr id j,K,h=>by
  simp only[Dt] at h;split at h
  ·rename_i cs T0 hcs;split at h
   ·rename_i hu;refine⟨_,_,h,fun H' K' hH hK=>?_⟩;simp only[Dt,hH id (by simp),hcs,hu]
    exact hK
   ·exact h.elim
  ·exact h.elim
 | .eptr id sz e j,K,h=>by
  simp only[Dt] at h;split at h
  ·rename_i sz' L get T0 hcs;split at h
   ·rename_i hsz;refine⟨_,_,h.2,fun H' K' hH hK=>?_⟩;simp only[Dt,hH id (by simp),hcs]
    rw[if_pos hsz];exact⟨h.1,hK⟩
   ·exact h.elim
  ·exact h.elim
 | .agg cs,K,h=>by
  simp only[Dt] at h;obtain⟨cs',ids,h1,h2⟩:=Qy h;exact⟨_,ids,h1,fun H' K' hH hK=>by simp only[Dt];exact h2 H' _ hH hK⟩
 | .tup cs,K,h=>by
  simp only[Dt] at h;obtain⟨cs',ids,h1,h2⟩:=Qy h;exact⟨_,ids,h1,fun H' K' hH hK=>by simp only[Dt];exact h2 H' _ hH hK⟩
 | .fn f cs,K,h=>by
  simp only[Dt] at h;obtain⟨cs',ids,h1,h2⟩:=Qy h;exact⟨_,ids,h1,fun H' K' hH hK=>by simp only[Dt];exact h2 H' _ hH hK⟩
 | .iface t v,K,h=>by
  simp only[Dt] at h;obtain⟨c',ids,h1,h2⟩:=tC h;exact⟨_,ids,h1,fun H' K' hH hK=>by simp only[Dt];exact h2 H' _ hH hK⟩
 | .map _,K,h=>by simp[Dt] at h
 | .iter _,K,h=>by simp[Dt] at h
 | .any,K,h=>⟨_,[],(by simpa only[Dt] using h),fun H' K' hH hK=>by simp only[Dt];exact hK⟩
 | .bool _,K,h=>⟨_,[],(by simpa only[Dt] using h),fun H' K' hH hK=>by simp only[Dt];exact hK⟩
 | .int ..,K,h=>⟨_,[],(by simpa only[Dt] using h),fun H' K' hH hK=>by simp only[Dt];exact hK⟩
 | .str _,K,h=>⟨_,[],(by simpa only[Dt] using h),fun H' K' hH hK=>by simp only[Dt];exact hK⟩
 | .nilp,K,h=>⟨_,[],(by simpa only[Dt] using h),fun H' K' hH hK=>by simp only[Dt];exact hK⟩
 | .rptr ..,K,h=>⟨_,[],(by simpa only[Dt] using h),fun H' K' hH hK=>by simp only[Dt];exact hK⟩
 | .nilsl,K,h=>⟨_,[],(by simpa only[Dt] using h),fun H' K' hH hK=>by simp only[Dt];exact hK⟩
 | .sl ..,K,h=>⟨_,[],(by simpa only[Dt] using h),fun H' K' hH hK=>by simp only[Dt];exact hK⟩
 | .nilfn,K,h=>⟨_,[],(by simpa only[Dt] using h),fun H' K' hH hK=>by simp only[Dt];exact hK⟩
 | .nilmap,K,h=>⟨_,[],(by simpa only[Dt] using h),fun H' K' hH hK=>by simp only[Dt];exact hK⟩
 | .nilif,K,h=>⟨_,[],(by simpa only[Dt] using h),fun H' K' hH hK=>by simp only[Dt];exact hK⟩
theorem Qy{H:List Blk}:∀ {cs:List AV} {K:List AV→List Nat→Prop},bT H cs K→∃ cs' ids,K cs' ids∧∀ (H':List Blk) (K':List AV→List Nat→Prop),(∀ id ∈ ids,H'[id]? =H[id]?)→K' cs' ids→bT H' cs K'
 |[],K,h=>⟨_,_,h,fun H' K' _ hK=>hK⟩
 |c::cs,K,h=>by
  rw[bT] at h;obtain⟨c',ids,h1,h2⟩:=tC h;obtain⟨cs',ids',h3,h4⟩:=Qy h1;refine⟨_,_,h3,fun H' K' hH hK=>?_⟩;rw[bT];exact h2 H' _ (fun id hi=>hH id (List.mem_append_left _ hi)) (h4 H' _ (fun id hi=>hH id (List.mem_append_right _ hi)) hK)
end
theorem Abw{wr:Bool}{slot:Nat}{op:Op}{ts:List AV}{H:List Blk}{K:AV→List (Nat × Blk)→List Nat→Prop}(h:opD TY D wr slot op ts H K):
  ∃ r W R,K r W R∧∀ (ts':List AV) (H':List Blk),(∀ x ∈ op.operands,evO ts' x=evO ts x)→(∀ id ∈ R,H'[id]? =H[id]?)→
   opD TY D wr slot op ts' H' (fun r' W' R'=>r'=r∧W'=W∧R'=R):=by
 have val:(∀ c,op≠ .call c)→(∀ ts H K,opD TY D wr slot op ts H K=opV TY wr op ts H fun r=>K r [] (Pm ts op))→∃ r W R,K r W R∧∀ (ts':List AV) (H':List Blk),(∀ x ∈ op.operands,evO ts' x=evO ts x)→(∀ id ∈ R,H'[id]? =H[id]?)→
   opD TY D wr slot op ts' H' (fun r' W' R'=>r'=r∧W'=W∧R'=R):=by
  intro hc e;rw[e] at h;obtain⟨r,h1,h2⟩:=Akd hc _ h;refine⟨r,_,_,h1,fun ts' H' hx hH=>?_⟩;rw[e,tB (ts:=ts) (H:=H) hc hx hH];have hr:Pm ts' op=Pm ts op:=by
   cases op<;>first|rfl|(simp only[Pm];rw[hx _ (by simp[Op.operands])])
  have e2:(fun r':AV=>r'=r∧([]:List (Nat × Blk))=[]∧Pm ts' op=Pm ts op)=(fun c=>c=r):=by funext c;simp[hr]
  rw[e2];exact h2
 cases op;case alloc e=>
  simp only[opD] at h ⊢;unfold bE at h ⊢;split at h
  ·exact h.elim
  ·rename_i i hi;simp only[hi];split at h
   ·exact h.elim
   ·rename_i z hz;try simp only[hz]
    cases z<;>first|exact h.elim|exact⟨_,_,_,h,fun ts' H' _ _=>⟨rfl,rfl,rfl⟩⟩
 case box e x=>
  simp only[opD] at h ⊢;have hx:∀ ts',(∀ y ∈ (Op.box e x).operands,evO ts' y=evO ts y)→evO ts' x=evO ts x:=fun ts' hx=>hx x (by simp[Op.operands])
  unfold Ao2 at h;split at h
  ·exact h.elim
  ·rename_i hne;refine⟨_,_,_,h,fun ts' H' hxs _=>?_⟩;rw[hx ts' hxs];unfold Ao2;split
   ·rename_i he;exact(hne he).elim
   ·simp
 case buildSlice t n ps=>
  simp only[opD] at h ⊢;have hp:∀ ts',(∀ y ∈ (Op.buildSlice t n ps).operands,evO ts' y=evO ts y)→partsE ts' ps=partsE ts ps:=fun ts' hx=>Nc fun x hx'=>hx x (by simpa[Op.operands] using hx')
  unfold Fy at h;split at h
  ·exact h.elim
  ·rename_i i hi;split at h
   ·rename_i e hk;split at h
    ·rename_i ei hei;split at h
     ·rename_i z hz;split at h
      ·rename_i hcond;refine⟨_,_,_,h,fun ts' H' hx _=>?_⟩;rw[hp ts' hx];unfold Fy;simp only[hi,hk,hei,hz];rw[if_pos hcond];simp
      ·exact h.elim
     ·exact h.elim
    ·exact h.elim
   ·exact h.elim
 case store t a x=>
  simp only[opD] at h ⊢;obtain⟨id,b,h1,h2⟩:=Ai6 h;refine⟨_,_,_,h1,fun ts' H' hx hH=>?_⟩;rw[hx a (by simp[Op.operands]),hx x (by simp[Op.operands])]
  have:=h2 H' (hH id (by simp))
  have e2:(fun(id':Nat) (b':Blk)=>AV.any=AV.any∧[(id',b')]=[(id,b)]∧[id']=[id])=(fun id' b'=>id'=id∧b'=b):=by
   funext id' b'
   simp
   intro h1 _;exact h1
  rw[e2];exact this
 case call c=>
  obtain⟨callee,args,argTypes⟩:=c;have ha:∀ ts',(∀ y ∈ (Op.call ⟨callee,args,argTypes⟩).operands,evO ts' y=evO ts y)→args.toList.map (evO ts')=args.toList.map (evO ts):=fun ts' hx=>Nx fun x hx'=>hx x (by simp[Op.operands,Call.operands,hx'])
  have one:∀ (F:List AV→(AV→Prop)→Prop),(∀ l,Det (F l))→(∀ ts H K,opD TY D wr slot (.call ⟨callee,args,argTypes⟩) ts H K=F (args.toList.map (evO ts)) fun r=>K r [] [])→
    ∃ r W R,K r W R∧∀ (ts':List AV) (H':List Blk),(∀ x ∈ (Op.call ⟨callee,args,argTypes⟩).operands,evO ts' x=evO ts x)→(∀ id ∈ R,H'[id]? =H[id]?)→
     opD TY D wr slot (.call ⟨callee,args,argTypes⟩) ts' H' (fun r' W' R'=>r'=r∧W'=W∧R'=R):=by
   intro F hF e;rw[e] at h;obtain⟨r,h1,h2⟩:=hF _ _ h;refine⟨r,_,_,h1,fun ts' H' hx hH=>?_⟩;rw[e,ha ts' hx];have e2:(fun r':AV=>r'=r∧([]:List (Nat × Blk))=[]∧([]:List Nat)=[])=(fun c=>c=r):=(by funext c;simp);rw[e2];exact h2
  cases callee;case value f=>
   simp only[opD] at h ⊢;have hf:∀ ts',(∀ y ∈ (Op.call ⟨.value f,args,argTypes⟩).operands,evO ts' y=evO ts y)→evO ts' f=evO ts f:=fun ts' hx=>hx f (by simp[Op.operands,Call.operands])
   split at h
   ·rename_i g caps hg;split at h
    ·rename_i pc hpc;obtain⟨cs',ids,h1,h2⟩:=Qy h;obtain⟨r,h1,h3⟩:=pc.det _ _ h1;split at h1
     ·rename_i hfl;refine⟨_,_,_,h1,fun ts' H' hx hH=>?_⟩;rw[hf ts' hx,ha ts' hx,hg];simp only[hpc];refine h2 H' _ hH ?_;refine(congrArg (pc.T cs') (funext fun c=>propext ?_)).mp h3;constructor
      ·rintro rfl;rw[hfl];simp
      ·intro h;split at h
       ·exact h.1
       ·exact h.elim
     ·exact h1.elim
    ·exact h.elim
   ·exact h.elim
  case invoke=>exact(by simp[opD] at h)
  case builtin b=>
   cases b<;>first|(simp[opD] at h;done)|skip
   case len=>
    refine one (fun l N=>match argTypes.toList,l with|[t],[x]=>Ai5 TY t x N|_,_=>False) (fun l=>?_) (fun ts H K=>?_)
    ·intro N h;split at h
     ·exact Ad2 N h
     ·exact h.elim
    ·simp only[opD];cases hl:argTypes.toList with
     |nil=>rfl
     |cons t l=>cases l<;>cases ha:args.toList with
      |nil=>rfl
      |cons x l=>cases l<;>rfl
   case cap=>
    refine one (fun l N=>match argTypes.toList,l with|[t],[x]=>Ams TY t x N|_,_=>False) (fun l=>?_) (fun ts H K=>?_)
    ·intro N h;split at h
     ·exact Ats N h
     ·exact h.elim
    ·simp only[opD];cases hl:argTypes.toList with
     |nil=>rfl
     |cons t l=>cases l<;>cases ha:args.toList with
      |nil=>rfl
      |cons x l=>cases l<;>rfl
 all_goals exact val (fun c hc=>by cases hc) (fun _ _ _=>rfl)
end
end Go.Vc
namespace Go.Vc
open Go
section
variable {F : Nat → Obj → Prop} {P : Program} {TY : TypeId → Option TI} {D : PT} {ρ : Nat → Option Nat} {S : Nat → Prop} {w : World}
theorem I8{n:Nat}(hn:ρ n=none)(o:Obj):Ext ρ S w (E6 ρ n w.heap.size) S (w.alloc o):={
 rho i b hi:=by
  unfold E6;rw[if_neg (by rintro rfl;rw[hn] at hi;cases hi)];exact hi
 st _ hb:=hb
 same b hb _:=Ge w o hb
 size:=by simp
 shp b arr T fr hb:=⟨arr,fr,(Ge w o (lt_of_some hb)).trans hb,rfl⟩
 fresh i b hi:=by
  unfold E6 at hi;split at hi
  ·cases hi;exact .inr (Nat.le_refl _)
  ·exact .inl ⟨_,hi⟩
 stf _ hb:=.inl hb
 os:=rfl
 tape:=rfl
 output:=rfl }
theorem Sc{H:List Blk}(h:HRel ρ S w H){n:Nat}(hn:ρ n=none)(hlt:n<H.length)(o:Obj){blk:Blk}(hb:BRel (E6 ρ n w.heap.size) S (w.alloc o) n blk):
  HRel (E6 ρ n w.heap.size) S (w.alloc o) (H.set n blk):={
 inj i j bi bj b hi hj li lj ri rj:=by
  unfold E6 at ri rj;split at ri<;>split at rj
  ·omega
  ·cases ri;have:=(h.out j _ rj).2;omega
  ·cases rj;have:=(h.out i _ ri).2;omega
  ·rw[List.getElem?_set_ne (by omega)] at hi hj
   exact h.inj i j bi bj b hi hj li lj ri rj
 blk i b hi:=by
  by_cases hin:n=i
  ·subst hin;rw[List.getElem?_set,if_pos rfl,if_pos hlt] at hi;cases hi;exact hb
  ·rw[List.getElem?_set_ne hin] at hi;refine(h.blk i b hi).keep (I8 hn o) fun b' hb'=>?_;unfold E6 at hb';rw[if_neg (fun e=>hin e.symm)] at hb';exact⟨hb',Ge w o (h.out i b' hb').2,fun h=>h⟩
 out i b hi:=by
  unfold E6 at hi;simp only[List.length_set,World.size_alloc];split at hi
  ·cases hi;omega
  ·have:=h.out i b hi;omega }
theorem jY{n:Nat}(hn0:ρ n=none)(hns:∀ b,S b→b<w.heap.size){c:AV}{v:Value}(hn:c≠ .any)(h:V ρ S w c v)(T:TypeId){T1:Option Nat}(hT:Qr T1 T=T):
  BRel (E6 ρ n w.heap.size) S (w.alloc (.cells v.cells T)) n (.var c.cells T1):=by
 intro b hb;rw[Dx] at hb;cases hb;obtain⟨h1,h2⟩:=h.cells hn;exact⟨fun hs=>Nat.lt_irrefl _ (hns _ hs),v.cells,T,(0,0),by rw[hT];exact Cu w _,h1.symm,fun o _=>Hl w _ _ o,fun j c v hc hv=>(h2 j c v hc hv).mono (I8 hn0 _)⟩
theorem Ai8{m:Nat}(hn0:ρ m=none)(hns:∀ b,S b→b<w.heap.size){sz n:Nat}{get:Nat→List AV}{arr:Array Value}(hs:n*sz≤arr.size)(h:Xx ρ S w sz n get arr)(T:TypeId){T1:Option Nat}(hT:Qr T1 T=T):
  BRel (E6 ρ m w.heap.size) S (w.alloc (.cells arr T)) m (.row sz n get T1):=by
 intro b hb;rw[Dx] at hb;cases hb;exact⟨fun hs=>Nat.lt_irrefl _ (hns _ hs),arr,T,(0,0),by rw[hT];exact Cu w _,hs,fun o _=>Hl w _ _ o,h.1,fun e j c v he hc hv=>(h.2 e j c v he hc hv).mono (I8 hn0 _)⟩
theorem Abx{n b0 i b:Nat}(h:E6 ρ n b0 i=some b):ρ i=some b∨i=n:=by
 unfold E6 at h;split at h
 ·exact .inr (by assumption)
 ·exact .inl h
theorem Am0(hTY:TyOk P TY)(hD:Cb F P D){st:St}{a:Act}(hR:RelX F ρ S st a w){slot:Nat}(hslot:slot<st.heap.length)(hρ:ρ slot=none){wr:Bool}(o:Oper)
  {K:AV→List (Nat × Blk)→List Nat→Prop} (h:opD TY D wr slot o.op st.tmps st.heap K) {Q:Exit→Act→World→Prop}:
  o.wp P a w (fun a' w'=>∃ r W R ρ' S',K r W R∧RelX F ρ' S' ⟨put st.tmps o.dst r,Cm st.heap W⟩ a' w'∧Ext ρ S w ρ' S' w'∧∀ id b,ρ' id=some b→ρ id=some b∨id=slot) Q:=by
 have fin:∀ v w' r W R ρ',(execOp a.eval o).run P w= .ok (.value v) w'→K r W R→V ρ' S w' r v→HRel ρ' S w' (Cm st.heap W)→Ext ρ S w ρ' S w'→(∀ id b,ρ' id=some b→ρ id=some b∨id=slot)→
   o.wp P a w (fun a' w'=>∃ r W R ρ' S',K r W R∧RelX F ρ' S' ⟨put st.tmps o.dst r,Cm st.heap W⟩ a' w'∧Ext ρ S w ρ' S' w'∧∀ id b,ρ' id=some b→ρ id=some b∨id=slot) Q:=by
  intro v w' r W R ρ' h1 h2 h3 h4 h5 h6;unfold Oper.wp;rw[h1];exact⟨r,W,R,ρ',S,h2,Rel.put hR h5 (hR.sok.still h5) h4 h3 _,h5,h6⟩
 have finS:∀ w' W R,(execOp a.eval o).run P w= .ok .skip w'→K .any W R→HRel ρ S w' (Cm st.heap W)→Ext ρ S w ρ S w'→
   o.wp P a w (fun a' w'=>∃ r W R ρ' S',K r W R∧RelX F ρ' S' ⟨put st.tmps o.dst r,Cm st.heap W⟩ a' w'∧Ext ρ S w ρ' S' w'∧∀ id b,ρ' id=some b→ρ id=some b∨id=slot) Q:=by
  intro w' W R h1 h2 h4 h5;unfold Oper.wp;rw[h1];exact⟨.any,W,R,ρ,S,h2,Rel.put hR h5 (hR.sok.still h5) h4 (.any _) _,h5,fun _ _ h=>.inl h⟩
 have val:∀ N:AV→Prop,opV TY wr o.op st.tmps st.heap N→(∀ r,N r→∃ R,K r [] R)→o.wp P a w (fun a' w'=>∃ r W R ρ' S',K r W R∧RelX F ρ' S' ⟨put st.tmps o.dst r,Cm st.heap W⟩ a' w'∧Ext ρ S w ρ' S' w'∧∀ id b,ρ' id=some b→ρ id=some b∨id=slot) Q:=by
  intro N hv hN;obtain⟨v,c,h1,h2,h3⟩:=bS hTY hR.heap hR.tmps o hv;obtain⟨R,hK⟩:=hN c h2;exact fin v w c [] R ρ h1 hK h3 hR.heap (Ext.refl _ _ _) (fun _ _ h=>.inl h)
 obtain⟨dst,op,type,pos,after,guard⟩:=o;simp only at h val;cases op;case alloc e=>
  simp only[opD] at h;unfold bE at h;split at h
  ·exact h.elim
  ·rename_i i hi;split at h
   ·exact h.elim
   ·rename_i z hz;obtain⟨v,hv,rfl⟩:=hTY.zero hi hz;have hn:AV.ofC v≠ .any:=(by intro he;rw[he] at h;exact h);have h':K (.ptr slot 0) [(slot,.var (AV.ofC v).cells (some e))] []:=by
     generalize AV.ofC v=z at h hn
     cases z<;>first|exact h|exact absurd rfl hn
    have hrun:(Instr.alloc e true (.tuple #[])).run P w= .ok (.pointer (some ⟨w.heap.size,0,none⟩)) (w.alloc (.cells v.cells e)):=(by simp[Instr.alloc,hv,newVar,newRow]);refine fin _ _ _ _ _ _ (show(do pure (Next.value (←Instr.alloc e true (.tuple #[]))):Sem Next).run P w=_ by simp[hrun]) h' (.ptr _ _ _ (Dx _ _)) (Sc hR.heap hρ hslot _ (jY hρ hR.sok.lt hn (V.ofC v) e rfl)) (I8 hρ _) (fun _ _ h=>Abx h)
 case box e x=>
  simp only[opD] at h;have hn:evO st.tmps x≠ .any:=by intro he;rw[he] at h;exact h
  have h':K (.ptr slot 0) [(slot,.var (evO st.tmps x).cells)] []:=by
   generalize evO st.tmps x=z at h hn
   cases z<;>first|exact h|exact absurd rfl hn
  have hrun:(Instr.box e (a.eval x)).run P w= .ok (.pointer (some ⟨w.heap.size,0,none⟩)) (w.alloc (.cells (a.eval x).cells e)):=by simp[Instr.box,newVar,newRow]
  refine fin _ _ _ _ _ _ (show(do pure (Next.value (←Instr.box e (a.eval x))):Sem Next).run P w=_ by simp[hrun]) h' (.ptr _ _ _ (Dx _ _)) (Sc hR.heap hρ hslot _ (jY hρ hR.sok.lt hn (hR.tmps.eval x) e rfl)) (I8 hρ _) (fun _ _ h=>Abx h)
 case buildSlice t n ps=>
  simp only[opD] at h;obtain⟨sz,get,arr,e,hN,hsz,hn16,hrel,hrun⟩:=Uc hTY hR.tmps h;refine fin _ _ _ _ _ _ (show(do pure (Next.value (←Instr.buildSlice t n (ps.map fun p=>(p.1,a.eval p.2)))):Sem Next).run P w=_ by simp[hrun];rfl) hN ?_ (Sc hR.heap hρ hslot _ (Ai8 hρ hR.sok.lt (by omega) hrel e rfl)) (I8 hρ _) (fun _ _ h=>Abx h)
  exact .osl _ _ _ _ _ _ _ _ (Dx _ _) (Nat.le_refl _) (by rw[Ch];omega) (fun _=>by simp) ⟨arr,e,(0,0),Cu w _,by rw[Nat.zero_add];omega⟩ (fun c hc=>by cases hc;rfl)
 case store t p x=>
  simp only[opD] at h;have:=jV (M:=fun H'=>∃ id b,H'=st.heap.set id b∧K .any [(id,b)] [id]) h (fun id b hN=>⟨id,b,rfl,hN⟩);obtain⟨w',H',h1,⟨id,b,rfl,h2⟩,h3,h4⟩:=Xf hTY hR.heap (hR.tmps.eval p) (hR.tmps.eval x) this;exact finS w' [(id,b)] [id] (show(do Instr.storeAt t (a.eval p) (a.eval x);pure .skip:Sem Next).run P w=_ by simp[h1]) h2 h3 h4
 case call c=>
  obtain⟨callee,args,argTypes⟩:=c;cases callee;case value f=>
   simp only[opD] at h;split at h
   ·rename_i g caps hg;split at h
    ·rename_i pc hpc;obtain⟨hent,hgood⟩:=hD g pc hpc;have hfv:=hR.tmps.eval f;rw[hg] at hfv;cases hev:a.eval f<;>rw[hev] at hfv<;>cases hfv
     rename_i vs hl hv;have hrun:(execOp a.eval ⟨dst,.call ⟨.value f,args,argTypes⟩,type,pos,after,guard⟩).run P w= .ok (.enter g (args.map a.eval++vs)) w:=by
      unfold execOp;simp only[resolve,hev,Deferred.ofValue,Sem.run_bind,Sem.run_pure,Result.andThen_ok,invoke,Array.empty_append];exact hent _ w
     have hVL:VL ρ S w (args.toList.map (evO st.tmps)++caps) (args.map a.eval++vs):=by
      refine⟨by simp[hl],fun i c' v' hc' hv'=>?_⟩
      by_cases hlt:i<args.size
      ·rw[List.getElem?_append_left (by simpa using hlt),List.getElem?_map] at hc'
       rw[Array.getElem?_append_left (by simpa using hlt),Array.getElem?_map] at hv'
       rw[show args.toList[i]? =args[i]? by simp] at hc'
       cases hi:args[i]? with
       |none=>rw[hi] at hc';cases hc'
       |some x=>
        rw[hi] at hc' hv';cases hc';cases hv';exact hR.tmps.eval x
      ·rw[List.getElem?_append_right (by simp;omega)] at hc'
       rw[Array.getElem?_append_right (by simp;omega)] at hv'
       simp only[List.length_map,Array.length_toList] at hc';simp only[Array.size_map] at hv';exact hv _ _ _ hc' hv'
     obtain⟨cs',ids,h1,hv',hlv⟩:=sU hR.heap h hVL;unfold Oper.wp;rw[hrun,Oper.upon_enter];refine(hgood (Ug ρ S ids) w cs' _ _ (Zj hR.heap hR.sok ids) hv' h1).mono ?_;rintro e w' ⟨v,r,S',rfl,h1,k1,k2,k3⟩;split at h1
     ·rename_i hfl;by_cases hf:r.flat=true
      ·obtain⟨m1,m2⟩:=Qx hR.heap k2;exact⟨_,[],ids,ρ,S,h1,Rel.put hR m2 (hR.sok.still m2) m1 (k1.flatR hf) _,m2,fun _ _ h=>.inl h⟩
      ·have he:ids=[]:=by
        rw[Bool.or_eq_true] at hfl;rcases hfl with hfl|hfl
        ·exact absurd hfl hf
        ·simpa using hfl
       subst he;obtain⟨m1,m2⟩:=dV hR.heap hlv k2;exact⟨_,[],[],ρ,S',h1,Rel.put hR m2 k3 m1 k1.lift _,m2,fun _ _ h=>.inl h⟩
     ·exact h1.elim
    ·exact h.elim
   ·exact h.elim
  case invoke=>simp[opD] at h
  case builtin b=>
   cases b<;>first|(simp[opD] at h;done)|skip
   case len=>
    simp only[opD] at h;split at h
    ·rename_i t x ht hx;refine val (fun r=>K r [] []) ?_ (fun r hr=>⟨[],hr⟩);simp only[opV,bR,G0,ht,hx,List.map_cons,List.map_nil];exact sZ h
    ·exact h.elim
   case cap=>
    simp only[opD] at h;split at h
    ·rename_i t x ht hx;refine val (fun r=>K r [] []) ?_ (fun r hr=>⟨[],hr⟩);simp only[opV,bR,G0,ht,hx,List.map_cons,List.map_nil];exact h
    ·exact h.elim
 all_goals (simp only[opD] at h;exact val _ h (fun r hr=>⟨_,hr⟩))
end
end Go.Vc
