/- Contracts of functions that change nothing of what was there; own memory handed over to them. -/
import Derived.Test.YtpmpclbdnakniaaGreatDoorV5
set_option linter.all false
set_option linter.unusedVariables false
set_option linter.unusedSimpArgs false
namespace Go.Vc
open Go
def Det(F:(AV→Prop)→Prop):Prop:=∀ N,F N→∃ r,N r∧F (fun c=>c=r)
structure PC where
 T:List AV→(AV→Prop)→Prop
 det:∀ cs,Det (T cs)
def GoodP(F:Nat→Obj→Prop)(P:Program)(f:FuncId)(pc:PC):Prop:=
 ∀ S (w:World) cs vs Q,Sok F S w→VL (fun _=>none) S w cs vs→pc.T cs Q→
  Calls P f vs w fun e w'=>∃ v c S',e= .returned v∧Q c∧V (fun _=>none) S' w' c v∧Ext (fun _=>none) S w (fun _=>none) S' w'∧Sok F S' w'
def Asz(pc:PC):Ctr:=fun cs H Q=>Zh H cs fun cs' ids=>pc.T cs' fun r=>(match r.flat with
 |true=>Q r H
 |false=>Q r (pC H ids))
theorem Tz:∀ (ids:List Nat) (H:List Blk) (i:Nat) (b:Blk),(pC H ids)[i]? =some b→b.live=true→H[i]? =some b∧i ∉ ids
 |[],H,i,b,h,_=>⟨h,by simp⟩
 |id::ids,H,i,b,h,hl=>by
  obtain⟨h1,h2⟩:=Tz ids _ i b h hl
  rw[List.getElem?_set] at h1
  split at h1
  ·split at h1
   ·cases h1;cases hl
   ·cases h1
  ·rename_i hne
   exact⟨h1,by simp;exact⟨fun h=>hne h.symm,h2⟩⟩
theorem Xg:∀ (ids:List Nat) (H:List Blk),(pC H ids).length=H.length
 |[],_=>rfl
 |id::ids,H=>by rw[pC,Xg];simp
section
variable {F : Nat → Obj → Prop} {P : Program} {ρ : Nat → Option Nat} {S : Nat → Prop} {w : World}
theorem aY{H:List Blk}(h:HRel ρ S w H){ids:List Nat}(hl:Zi H ids){S':Nat→Prop}{w':World}
  (hE:Ext (fun _=>none) (Sf ρ S ids) w (fun _=>none) S' w'):HRel ρ S' w' (pC H ids)∧Ext ρ S w ρ S' w':=by
 have same:∀ b,b<w.heap.size→w'.heap[b]? =w.heap[b]? :=fun b hb=>hE.same b hb (.inr fun i hi=>by cases hi)
 have back:∀ b,S' b→Sf ρ S ids b∨w.heap.size≤b:=fun b hb=>by
  rcases hE.stf b hb with h|⟨i,h⟩|h
  ·exact .inl h
  ·cases h
  ·exact .inr h
 have ext:Ext ρ S w ρ S' w':=by
  refine⟨fun _ _ h=>h,fun b hb=>hE.st b (.inl hb),fun b hb _=>same b hb,hE.size,hE.shp,fun _ _ h=>.inl ⟨_,h⟩,fun b hb=>?_,hE.os,hE.tape,hE.output⟩
  rcases back b hb with (h1|⟨i,_,h1⟩)|h1
  ·exact .inl h1
  ·exact .inr (.inl ⟨i,h1⟩)
  ·exact .inr (.inr h1)
 refine⟨⟨fun i j bi bj b hi hj li lj=>h.inj i j bi bj b (Tz ids H i bi hi li).1 (Tz ids H j bj hj lj).1 li lj,fun i bi hi=>?_,fun i b hi=>?_⟩,ext⟩
 ·by_cases li:bi.live=true
  ·obtain⟨h1,h2⟩:=Tz ids H i bi hi li
   refine(h.blk i bi h1).keep ext fun b hb=>⟨hb,same b (h.out _ _ hb).2,fun hs=>?_⟩
   have hns:∀ (bi:Blk),bi.live=true→BRel ρ S w i bi→¬S b:=by
    intro bi li hr
    cases bi<;>first|(cases li;done)|exact(hr b hb).1
   rcases back b hs with (h3|⟨j,hj,h3⟩)|h3
   ·exact h3
   ·obtain⟨bj,hbj,lj⟩:=hl j hj
    have:=h.inj i j bi bj b h1 hbj li lj hb h3
    subst this
    exact(h2 hj).elim
   ·exact absurd (h.out _ _ hb).2 (Nat.not_lt.2 h3)
  ·cases bi<;>first|exact trivial|exact absurd rfl li
 ·rw[Xg];have:=h.out i b hi;exact⟨this.1,Nat.lt_of_lt_of_le this.2 hE.size⟩
theorem Po{H:List Blk}(h:HRel ρ S w H){S1:Nat→Prop}{S':Nat→Prop}{w':World}(hE:Ext (fun _=>none) S1 w (fun _=>none) S' w'):HRel ρ S w' H∧Ext ρ S w ρ S w':=by
 have same:∀ b,b<w.heap.size→w'.heap[b]? =w.heap[b]? :=fun b hb=>hE.same b hb (.inr fun i hi=>by cases hi)
 have ext:Ext ρ S w ρ S w':=⟨fun _ _ h=>h,fun b hb=>hb,fun b hb _=>same b hb,hE.size,hE.shp,fun _ _ h=>.inl ⟨_,h⟩,fun b hb=>.inl hb,hE.os,hE.tape,hE.output⟩
 exact⟨⟨h.inj,fun i bi hi=>(h.blk i bi hi).keep ext fun b hb=>⟨hb,same b (h.out _ _ hb).2,fun h=>h⟩,fun i b hi=>⟨(h.out i b hi).1,Nat.lt_of_lt_of_le (h.out i b hi).2 hE.size⟩⟩,ext⟩
theorem Ap2{H:List Blk}(hH:HRel ρ S w H)(hs:∀ b,S b→b<w.heap.size)(ids:List Nat):∀ b,Sf ρ S ids b→b<w.heap.size
 |b,.inl h=>hs b h
 |b,.inr ⟨i,_,h⟩=>(hH.out i b h).2
theorem Xh{H:List Blk}(hH:HRel ρ S w H)(hs:Sok F S w)(ids:List Nat):Sok F (Sf ρ S ids) w:=
 ⟨Ap2 hH hs.lt ids,fun b o hf=>⟨.inl (hs.st b o hf).1,(hs.st b o hf).2⟩⟩
theorem nV{f:FuncId}{pc:PC}(h:GoodP F P f pc):Good F P f (Asz pc):=by
 intro ρ S w H cs vs Q hs hH hv hK
 obtain⟨cs',ids,hT,hv',hl⟩:=pE hH hK hv
 refine(h (Sf ρ S ids) w cs' vs _ (Xh hH hs ids) hv' hT).mono ?_
 rintro e w' ⟨v,c,S',rfl,hQ,h1,h2,h3⟩
 split at hQ
 ·rename_i hf
  obtain⟨k1,k2⟩:=Po hH h2
  exact⟨v,_,H,ρ,S,rfl,hQ,h1.flatR hf,k1,k2,hs.still k2⟩
 ·obtain⟨k1,k2⟩:=aY hH hl h2
  exact⟨v,_,_,ρ,S',rfl,hQ,h1.lift,k1,k2,h3⟩
end
end Go.Vc
namespace Go.Vc
open Go
section
variable {α : Type}
def Cr(l:List α)(w:List (Nat × α)):List α:=w.foldl (fun l p=>l.set p.1 p.2) l
def ov(D:Nat→Bool):Nat→List (List (Nat × α))→List α→List α
 |_,[],b=>b
 |i,w::ws,b=>ov D (i+1) ws (match D i with|true=>Cr b w|false=>b)
def Ec(k:Nat)(w:List (Nat × α)):Bool:=w.any fun p=>p.1 == k
theorem Afo(l:List α):Cr l []=l:=rfl
theorem N7(l:List α)(p:Nat × α)(w:List (Nat × α)):Cr l (p::w)=Cr (l.set p.1 p.2) w:=rfl
theorem Hn:∀ (w:List (Nat × α)) (l:List α),(Cr l w).length=l.length
 |[],_=>rfl
 |p::w,l=>by rw[N7,Hn w];simp
theorem Mp{k:Nat}:∀ (w:List (Nat × α)) (l:List α),Ec k w=false→(Cr l w)[k]? =l[k]?
 |[],_,_=>rfl
 |p::w,l,h=>by
  simp only[Ec,List.any_cons,Bool.or_eq_false_iff,beq_eq_false_iff_ne] at h
  rw[N7,Mp w _ h.2,List.getElem?_set_ne h.1]
theorem T4{k:Nat}:∀ (w:List (Nat × α)) (l l':List α),l.length=l'.length→(Ec k w=true∨l[k]? =l'[k]?)→(Cr l w)[k]? =(Cr l' w)[k]?
 |[],l,l',_,h=>by
  rcases h with h|h
  ·cases h
  ·exact h
 |p::w,l,l',hl,h=>by
  rw[N7,N7]
  refine T4 w _ _ (by simpa using hl) ?_
  by_cases hp:p.1=k
  ·refine .inr ?_
   rw[List.getElem?_set,List.getElem?_set,if_pos hp,if_pos hp,hl]
  ·rcases h with h|h
   ·simp only[Ec,List.any_cons,Bool.or_eq_true,beq_iff_eq] at h
    rcases h with h|h
    ·exact absurd h hp
    ·exact .inl h
   ·exact .inr (by rw[List.getElem?_set_ne hp,List.getElem?_set_ne hp];exact h)
theorem pF(D:Nat→Bool):∀ (ws:List (List (Nat × α))) (i:Nat) (b:List α),(ov D i ws b).length=b.length
 |[],_,_=>rfl
 |w::ws,i,b=>by
  rw[ov,pF D ws]
  cases D i
  ·rfl
  ·exact Hn _ _
theorem Xi{D D':Nat→Bool}{k:Nat}:∀ (ws:List (List (Nat × α))) (i:Nat) (b b':List α),b.length=b'.length→b[k]? =b'[k]? →
  (∀ (m:Nat) w,ws[m]? =some w→Ec k w=true→D (i+m)=D' (i+m))→(ov D i ws b)[k]? =(ov D' i ws b')[k]?
 |[],_,_,_,_,h,_=>h
 |w::ws,i,b,b',hl,h,hD=>by
  rw[ov,ov]
  refine Xi ws (i+1) _ _ ?_ ?_ (fun m w hm hk=>by have:=hD (m+1) w (by simpa using hm) hk;rwa[show i+(m+1)=i+1+m by omega] at this)
  ·cases D i<;>cases D' i<;>simp[Hn,hl]
  ·by_cases hk:Ec k w=true
   ·have:=hD 0 w rfl hk
    rw[Nat.add_zero] at this
    rw[this]
    cases D' i
    ·exact h
    ·exact T4 w _ _ hl (.inl hk)
   ·have hk:Ec k w=false:=by simpa using hk
    have e:∀ (c:Bool) (b:List α),(match c with|true=>Cr b w|false=>b)[k]? =b[k]? :=by
     intro c b
     cases c
     ·rfl
     ·exact Mp w b hk
    rw[e,e];exact h
theorem K1{D:Nat→Bool}:∀ (ws:List (List (Nat × α))) (i:Nat) (b:List α),ov D (i+1) ws b=ov (fun m=>D (m+1)) i ws b
 |[],_,_=>rfl
 |w::ws,i,b=>by rw[ov,ov,K1 ws (i+1)]
theorem Ky{D D':Nat→Bool}:∀ (ws:List (List (Nat × α))) (i:Nat) (b:List α),(∀ m:Nat,m<ws.length→D (i+m)=D' (i+m))→ov D i ws b=ov D' i ws b
 |[],_,_,_=>rfl
 |w::ws,i,b,h=>by
  rw[ov,ov]
  have h0:=h 0 (by simp)
  rw[Nat.add_zero] at h0
  rw[h0]
  exact Ky ws (i+1) _ fun m hm=>by have:=h (m+1) (by simpa using hm);rwa[show i+(m+1)=i+1+m by omega] at this
theorem Aa3{w w':List (Nat × α)}(h:∀ k,Ec k w=true→Ec k w'=false)(b:List α):Cr (Cr b w) w'=Cr (Cr b w') w:=by
 apply List.ext_getElem?
 intro k
 by_cases hk:Ec k w=true
 ·rw[Mp w' _ (h k hk)]
  exact T4 w _ _ (by rw[Hn]) (.inl hk)
 ·have hk:Ec k w=false:=by simpa using hk
  rw[Mp w _ hk]
  exact T4 w' _ _ (by rw[Hn]) (.inr (Mp w b hk))
theorem Afp{D:Nat→Bool}{w:List (Nat × α)}:∀ (ws:List (List (Nat × α))) (i:Nat) (b:List α),(∀ (m:Nat) w',ws[m]? =some w'→D (i+m)=true→∀ k,Ec k w=true→Ec k w'=false)→
  ov D i ws (Cr b w)=Cr (ov D i ws b) w
 |[],_,_,_=>rfl
 |w'::ws,i,b,h=>by
  rw[ov,ov]
  have tl:∀ (m:Nat) w'',ws[m]? =some w''→D (i+1+m)=true→∀ k,Ec k w=true→Ec k w''=false:=fun m w'' hm hd=>h (m+1) w'' (by simpa using hm) (by rwa[show i+(m+1)=i+1+m by omega])
  cases hd:D i with
  |false=>exact Afp ws (i+1) b tl
  |true=>
   show ov D (i+1) ws (Cr (Cr b w) w')=Cr (ov D (i+1) ws (Cr b w')) w
   rw[Aa3 (h 0 w' rfl (by rwa[Nat.add_zero]))]
   exact Afp ws (i+1) _ tl
theorem Afq{D:Nat→Bool}{j:Nat}{wj:List (Nat × α)}:∀ (ws:List (List (Nat × α))) (i:Nat) (b:List α),ws[j]? =some wj→D (i+j)=false→
  (∀ (m:Nat) w,ws[m]? =some w→j<m→D (i+m)=true→∀ k,Ec k wj=true→Ec k w=false)→ov (fun m=>m == i+j || D m) i ws b=Cr (ov D i ws b) wj:=by
 intro ws
 induction ws generalizing j with
 |nil=>intro i b h;simp at h
 |cons w ws ih=>
  intro i b hj hD hc
  cases j with
  |zero=>
   simp at hj
   subst hj
   rw[Nat.add_zero] at hD
   rw[ov,ov,hD]
   simp only[Nat.add_zero,beq_self_eq_true,Bool.true_or]
   rw[Ky (D':=D) ws (i+1) _ fun m _=>by
    have:(i+1+m == i)=false:=by simpa using (by omega)
    rw[this];rfl]
   exact Afp ws (i+1) b fun m w' hm hd=>hc (m+1) w' (by simpa using hm) (by omega) (by rwa[show i+(m+1)=i+1+m by omega])
  |succ j=>
   rw[ov,ov]
   have:(i == i+(j+1))=false:=by simp
   simp only[this,Bool.false_or]
   have:=ih (j:=j) (i+1) (match D i with|true=>Cr b w|false=>b) (by simpa using hj) (by rwa[show i+1+j=i+(j+1) by omega])
    (fun m w' hm hlt hd=>hc (m+1) w' (by simpa using hm) (by omega) (by rwa[show i+(m+1)=i+1+m by omega]))
   rw[show i+1+j=i+(j+1) by omega] at this
   exact this
end
def direct(o:Oper):List Nat:=(o.after.toList.filter fun e=>Region.binds .any e).map (·.on)
inductive Anc (ops:Array Oper):Nat→Nat→Prop where
 |one {i j:Nat} {o:Oper} (h:ops[j]? =some o) (hi:i ∈ direct o):Anc ops i j
 |step {i m j:Nat} {o:Oper} (h:Anc ops i m) (hj:ops[j]? =some o) (hm:m ∈ direct o):Anc ops i j
def Zl(acc:List Nat):List Nat→Nat
 |[]=>0
 |i::l=>Nat.lor (Nat.lor (2 ^ i) (acc.getD i 0)) (Zl acc l)
def Axz(o:Oper)(acc:List Nat):Nat:=Zl acc (direct o)
def L6:List Nat→List Oper→List Nat
 |acc,[]=>acc
 |acc,o::os=>L6 (acc++[Axz o acc]) os
theorem eN{acc:List Nat}{i:Nat}:∀ {l:List Nat},(Zl acc l).testBit i=true→i ∈ l∨∃ m ∈ l,(acc.getD m 0).testBit i=true
 |[],h=>by simp[Zl] at h
 |x::l,h=>by
  rw[Zl] at h
  have h:(2 ^ x |||acc.getD x 0 |||Zl acc l).testBit i=true:=h
  rw[Nat.testBit_or,Nat.testBit_or,Bool.or_eq_true,Bool.or_eq_true,Nat.testBit_two_pow] at h
  rcases h with (h|h)|h
  ·left;simp at h;subst h;simp
  ·exact .inr ⟨x,by simp,h⟩
  ·rcases eN h with h|⟨m,h1,h2⟩
   ·exact .inl (List.mem_cons_of_mem _ h)
   ·exact .inr ⟨m,List.mem_cons_of_mem _ h1,h2⟩
theorem pG(ops:Array Oper):∀ (os:List Oper) (acc:List Nat),(∀ m:Nat,m<os.length→ops[acc.length+m]? =os[m]?)→
  (∀ (j:Nat) l,acc[j]? =some l→∀ i,l.testBit i=true→Anc ops i j)→∀ (j:Nat) l,(L6 acc os)[j]? =some l→∀ i,l.testBit i=true→Anc ops i j
 |[],acc,_,h=>h
 |o::os,acc,ho,h=>by
  have h0:ops[acc.length]? =some o:=by have:=ho 0 (by simp);simpa using this
  refine pG ops os (acc++[Axz o acc]) (fun m hm=>?_) (fun j l hl i hi=>?_)
  ·have:=ho (m+1) (by simpa using hm)
   simp only[List.length_append,List.length_singleton]
   rw[show acc.length+1+m=acc.length+(m+1) by omega,this]
   simp
  ·by_cases hj:j<acc.length
   ·rw[List.getElem?_append_left hj] at hl
    exact h j l hl i hi
   ·rw[List.getElem?_append_right (by omega)] at hl
    have hj':j=acc.length:=by
     rcases Nat.eq_or_lt_of_le (Nat.le_of_not_lt hj) with h1|h1
     ·exact h1.symm
     ·rw[List.getElem?_eq_none (by simp;omega)] at hl;cases hl
    subst hj'
    simp at hl
    subst hl
    rcases eN hi with hi|⟨m,hm,hi⟩
    ·exact .one h0 hi
    ·refine .step (m:=m) ?_ h0 hm
     rw[List.getD_eq_getElem?_getD] at hi
     cases hm':acc[m]? with
     |none=>rw[hm'] at hi;simp at hi
     |some l=>rw[hm'] at hi;exact h m l hm' i hi
def Down(ops:Array Oper)(D:Nat→Bool):Prop:=∀ (j:Nat) o,ops[j]? =some o→D j=true→∀ i ∈ direct o,D i=true
theorem Down.anc{ops:Array Oper}{D:Nat→Bool}(h:Down ops D){i j:Nat}(ha:Anc ops i j):(∀ o,ops[j]? =some o→∀ m ∈ direct o,D m=true)→D i=true:=by
 induction ha with
 |one hj hi=>exact fun hd=>hd _ hj _ hi
 |step _ hj hm ih=>
  intro hd
  exact ih fun o ho k hk=>h _ o ho (hd _ hj _ hm) k hk
def Hd(n:Nat)(listed:Array Bool):Nat:=(List.range n).countP fun i=> !listed.getD i true
theorem Afr{p q:Nat→Bool}{j:Nat}(hp:p j=true)(hq:q j=false)(h:∀ i,i≠j→p i=q i):∀ n,(List.range n).countP p=(List.range n).countP q+if j<n then 1 else 0:=by
 intro n
 induction n with
 |zero=>simp
 |succ n ih=>
  rw[List.range_succ,List.countP_append,List.countP_append,ih]
  by_cases hj:j=n
  ·subst hj
   simp[hp,hq]
  ·simp only[List.countP_singleton,h n (fun e=>hj e.symm)]
   by_cases hlt:j<n
   ·have h2:j<n+1:=by omega
    simp only[hlt,h2,if_true];omega
   ·have h2: ¬j<n+1:=by omega
    simp only[hlt,h2,if_false];omega
theorem eO{n j:Nat}{listed:Array Bool}(hs:listed.size=n)(hj:j<n)(hl:listed.getD j true=false):Hd n listed=Hd n (listed.setIfInBounds j true)+1:=by
 unfold Hd
 have:=Afr (p:=fun i=> !listed.getD i true) (q:=fun i=> !(listed.setIfInBounds j true).getD i true) (j:=j) (by simp only[hl];rfl) ?_ (fun i hi=>?_) n
 ·rw[this,if_pos hj]
 ·simp[hs,hj]
 ·show(!listed.getD i true)= !(listed.setIfInBounds j true).getD i true
  rw[getD_set_ne true (Ne.symm hi)]
theorem aZ{n:Nat}{listed:Array Bool}(h:Hd n listed=0):∀ i,i<n→listed.getD i true=true:=by
 intro i hi
 unfold Hd at h
 rw[List.countP_eq_zero] at h
 have:=h i (List.mem_range.2 hi)
 simpa using this
end Go.Vc
namespace Go.Vc
open Go
section
variable {TY : TypeId → Option TI}
theorem Alw(c a b:AV):Det (oZ c a b):=by
 intro N h;unfold oZ at h ⊢
 split at h
 ·exact⟨_,h,rfl⟩
 ·split at h
  ·rename_i a b hh _
   exact⟨_,h,rfl⟩
  ·exact⟨_,h,rfl⟩
 ·exact h.elim
theorem Alx{o:Option AV}:Det (Hz o):=by
 intro N h;obtain⟨x,rfl,hN⟩:=Cn h;exact⟨x,hN,rfl⟩
theorem Ajm{t:TypeId}{ps:List (Nat × AV)}:Det (Zb TY t ps):=by
 rw[show Zb TY t ps=Za TY t ps from funext fun N=>oW]
 intro N h;unfold Za at h ⊢
 repeat' split at h
 all_goals first
  |exact h.elim
  |(obtain⟨x,hx,hN⟩:=Cn h;exact⟨_,hN,by simp[*,Hz]⟩)
theorem Ajn{t:TypeId}{p:AV}{H:List Blk}:Det (Mm TY t p H):=by
 intro N h;unfold Mm at h ⊢
 repeat' split at h
 all_goals first
  |exact h.elim
  |(obtain⟨x,hx,hN⟩:=Cn h;exact⟨_,hN,by simp[*,Hz]⟩)
  |(obtain⟨x,hx,hN⟩:=Cn h.2;exact⟨_,hN,by simp[*,Hz,h.1]⟩)
theorem yJ{x:AV}:Det (Pk x):=by
 intro N h;unfold Pk at h ⊢
 split at h
 all_goals first|exact h.elim|exact⟨_,h,rfl⟩
theorem Qo{wr:Bool}{k:IntKind}{n:Int}:Det (fitA wr k n):=by
 intro N h;cases wr
 ·exact⟨_,h.2,h.1,rfl⟩
 ·exact⟨_,h,rfl⟩
theorem Ap3{wr:Bool}{op:BinOp}{k:IntKind}{a b:Int}:Det (Alh wr op k a b):=by
 intro N h;unfold Alh at h ⊢
 split at h
 case h_1=>exact Qo N h
 case h_2=>exact Qo N h
 case h_3=>exact Qo N h
 case h_4=>
  cases hb:eqI b 0 with
  |true=>rw[hb] at h;exact h.elim
  |false=>
   rw[hb] at h
   cases hu:uns k with
   |true=>rw[hu] at h;exact Qo N h
   |false=>rw[hu] at h;exact Qo N h
 case h_5=>
  cases hb:eqI b 0 with
  |true=>rw[hb] at h;exact h.elim
  |false=>
   rw[hb] at h
   cases hu:uns k with
   |true=>rw[hu] at h;exact⟨_,h,rfl⟩
   |false=>rw[hu] at h;exact⟨_,h,rfl⟩
 all_goals first|exact⟨_,h,rfl⟩|exact h.elim
theorem pH{op:BinOp}{k:IntKind}{a b:Int}:Det (Y1 op k a b):=by
 intro N h;unfold Y1 at h ⊢
 obtain⟨hb,h⟩:=h
 split at h
 all_goals first|exact⟨_,h,hb,rfl⟩|exact h.elim
theorem Ap4{op:BinOp}{x y:List UInt8}:Det (Alj op x y):=by
 intro N h;unfold Alj at h ⊢
 split at h
 all_goals first|exact⟨_,h,rfl⟩|exact⟨_,h.2,h.1,rfl⟩|exact h.elim
theorem Ap5{wr:Bool}{op:BinOp}{t:TypeId}{x y:AV}:Det (Ajh TY wr op t x y):=by
 intro N h;unfold Ajh at h ⊢
 split at h
 ·split at h
  ·exact pH N h
  ·exact pH N h
  ·split at h
   ·rename_i hk;subst hk;simp only[if_true]
    obtain⟨r,h1,h2⟩:=Ap3 N h
    exact⟨r,h1,h2⟩
   ·exact h.elim
 ·exact Ap4 N h
 ·rename_i hx1 hx2
  split at h
  ·exact h.elim
  ·rename_i i hi
   split at h
   ·split at h
    ·exact⟨_,h,by simp[*]⟩
    ·exact⟨_,h,by simp[*]⟩
    ·exact h.elim
   ·split at h
    ·split at h
     ·obtain⟨x,hx,hN⟩:=Cn h;exact⟨_,hN,by simp[*,Hz]⟩
     ·obtain⟨x,hx,hN⟩:=Cn h;exact⟨_,hN,by simp[*,Hz]⟩
     ·exact h.elim
    ·exact h.elim
   ·split at h
    ·obtain⟨x,hx,hN⟩:=Cn h
     exact⟨_,hN,by simp[Hz,hx]⟩
    ·obtain⟨x,hx,hN⟩:=Cn h
     exact⟨_,hN,by simp[Hz,hx]⟩
    ·exact h.elim
theorem Awc{wr:Bool}{op:UnOp}{x:AV}:Det (unA wr op x):=by
 intro N h;unfold unA at h ⊢
 split at h
 ·exact Qo N h
 ·exact⟨_,h,rfl⟩
 ·exact h.elim
theorem pI{H:List Blk}{x:AV}{K:Nat→Nat→(Nat→List AV)→Prop}(h:W8 H x K):∃ sz len get,K sz len get∧∀ K':Nat→Nat→(Nat→List AV)→Prop,K' sz len get→W8 H x K':=by
 unfold W8 at h
 split at h
 ·exact⟨_,_,_,h,fun K' h'=>h'⟩
 ·split at h
  ·rename_i hcs
   split at h
   ·rename_i hsz
    exact⟨_,_,_,h.2,fun K' h'=>by unfold W8;simp only[hcs];rw[if_pos hsz];exact⟨h.1,h'⟩⟩
   ·exact h.elim
  ·exact h.elim
 ·exact h.elim
theorem Aly{wr:Bool}{s d:TypeId}{x:AV}{H:List Blk}:Det (Xb TY wr s d x H):=by
 intro N h;unfold Xb at h ⊢
 split at h
 ·split at h
  ·obtain⟨r,h1,h2⟩:=Qo N h;exact⟨r,h1,by simp[*]⟩
  ·exact⟨_,h,by simp[*]⟩
  ·split at h
   ·split at h
    ·split at h
     all_goals first|exact⟨_,h,by simp[*]⟩|exact h.elim
    ·exact h.elim
   ·exact h.elim
  ·rename_i hn1 hn2
   split at h
   ·split at h
    ·split at h
     ·obtain⟨sz,len,get,h1,h2⟩:=pI h
      split at h1
      ·rename_i hsz
       refine⟨_,h1.2,h2 _ ?_⟩
       rw[if_pos hsz]
       exact⟨h1.1,rfl⟩
      ·exact h1.elim
     ·obtain⟨sz,len,get,h1,h2⟩:=pI h
      split at h1
      ·rename_i hsz
       refine⟨_,h1.2,h2 _ ?_⟩
       rw[if_pos hsz]
       exact⟨h1.1,rfl⟩
      ·exact h1.elim
     ·exact h.elim
    ·exact h.elim
   ·exact h.elim
  ·exact h.elim
 ·exact h.elim
theorem nW{t:TypeId}{p:AV}{f:Nat}:Det (J0 TY t p f):=by
 intro N h;unfold J0 at h ⊢
 repeat' split at h
 all_goals first|exact h.elim|exact⟨_,h,by simp[*]⟩
theorem Ajo{t:TypeId}{p:AV}{f:Nat}:Det (Y4 TY t p f):=by
 intro N h;unfold Y4 at h ⊢
 repeat' split at h
 all_goals first|exact h.elim|(obtain⟨x,hx,hN⟩:=Cn h;exact⟨_,hN,by simp[*,Hz]⟩)
theorem nX{t:TypeId}{x i:AV}:Det (J1 TY t x i):=by
 intro N h;unfold J1 at h ⊢
 split at h
 ·split at h
  ·split at h
   ·repeat' split at h
    all_goals first|exact h.elim|exact⟨_,h.2,by simp[*,h.1.1,h.1.2]⟩
   ·exact h.elim
  ·split at h
   ·obtain⟨h1,h⟩:=h
    split at h
    all_goals first|exact h.elim|exact⟨_,h,by simp[*,h1.1,h1.2]⟩
   ·exact h.elim
  ·exact h.elim
 ·exact h.elim
theorem Ajp{t:TypeId}{x i:AV}:Det (Y7 TY t x i):=by
 intro N h;unfold Y7 at h ⊢
 repeat' split at h
 all_goals first|exact h.elim|exact⟨_,h.2,by simp[*,h.1.1,h.1.2]⟩
theorem yK{t:TypeId}{x i:AV}:Det (Me TY t x i):=by
 intro N h;unfold Me at h ⊢
 repeat' split at h
 all_goals first|exact h.elim|(obtain⟨y,hx,hN⟩:=Cn h.2;exact⟨_,hN,by simp[*,h.1.1,h.1.2,Hz]⟩)
theorem Ii{x:Option AV}{d:Nat}{K:Nat→Prop}(h:R7 x d K):∃ a,K a∧∀ K':Nat→Prop,K' a→R7 x d K':=by
 unfold R7 at h
 split at h
 ·exact⟨_,h,fun K' h'=>h'⟩
 ·exact⟨_,h.2,fun K' h'=>⟨h.1,h'⟩⟩
 ·exact h.elim
theorem Ajq{t:TypeId}{x:AV}{l h m:Option AV}:Det (Y8 TY t x l h m):=by
 intro N h;unfold Y8 at h ⊢
 split at h
 ·exact h.elim
 ·split at h
  ·obtain⟨a,h,ha⟩:=Ii h
   obtain⟨b,h,hb⟩:=Ii h
   refine⟨_,h.2,?_⟩
   simp only[*]
   exact ha _ (hb _ ⟨h.1,rfl⟩)
  ·split at h
   ·split at h
    ·rename_i hsz
     obtain⟨a,h,ha⟩:=Ii h
     obtain⟨b,h,hb⟩:=Ii h
     refine⟨_,h.2,?_⟩
     simp only[*,if_true]
     exact ha _ (hb _ ⟨h.1,rfl⟩)
    ·exact h.elim
   ·exact h.elim
  ·split at h
   ·split at h
    ·rename_i hsz
     obtain⟨a,h,ha⟩:=Ii h
     obtain⟨b,h,hb⟩:=Ii h
     refine⟨_,h.2,?_⟩
     simp only[*,if_true,and_self]
     try exact ha _ (hb _ ⟨h.1,rfl⟩)
    ·exact h.elim
   ·exact h.elim
  ·split at h
   ·split at h
    ·rename_i hsz
     obtain⟨a,h,ha⟩:=Ii h
     obtain⟨b,h,hb⟩:=Ii h
     refine⟨_,h.2,?_⟩
     simp only[*,if_true]
     exact ha _ (hb _ ⟨h.1,rfl⟩)
    ·exact h.elim
   ·exact h.elim
  ·exact h.elim
theorem eP{kd:TK}{key:AV}:∀ {es:List (AV × AV)} {i:Nat} {K:Option (Nat × AV)→Prop},N6 kd key es i K→∃ r,K r∧∀ K':Option (Nat × AV)→Prop,K' r→N6 kd key es i K'
 |[],i,K,h=>⟨none,h,fun K' h'=>h'⟩
 |(k',v)::es,i,K,h=>by
  rw[N6] at h
  split at h
  ·rename_i b hb
   split at h
   ·exact⟨_,h,fun K' h'=>by rw[N6,hb];exact h'⟩
   ·obtain⟨r,h1,h2⟩:=eP h
    exact⟨r,h1,fun K' h'=>by rw[N6,hb];exact h2 K' h'⟩
  ·exact h.elim
theorem Afs{t:TypeId}{x i:AV}{ok:Bool}{H:List Blk}:Det (L4 TY t x i ok H):=by
 intro N h;unfold L4 at h ⊢
 split at h
 ·exact h.elim
 ·split at h
  ·split at h
   ·split at h
    ·split at h
     ·exact h.elim
     ·obtain⟨r,h1,h2⟩:=eP h
      split at h1
      ·refine⟨_,h1,?_⟩
       simp only[*,if_true]
       try exact h2 _ rfl
      ·obtain⟨z,hz,hN⟩:=Cn h1
       refine⟨_,hN,?_⟩
       simp only[*,if_true]
       refine h2 _ ?_
       simp[Hz]
    ·exact h.elim
   ·exact h.elim
  ·exact h.elim
theorem Aa4{x:AV}{i:Nat}:Det (Pm x i):=by
 intro N h;unfold Pm at h ⊢
 split at h
 ·exact Alx N h
 ·exact h.elim
theorem Ap6{t:TypeId}{x:AV}:Det (Ajj TY t x):=by
 intro N h;unfold Ajj at h ⊢
 repeat' split at h
 all_goals first|exact h.elim|exact⟨_,h,by simp[*]⟩
end
end Go.Vc
namespace Go.Vc
open Go
abbrev PT:=FuncId→Option PC
def Cl(F:Nat→Obj→Prop)(P:Program)(D:PT):Prop:=∀ f pc,D f=some pc→Ent P f∧GoodP F P f pc
def Vf:AV→List Nat
 | .ptr id _=>[id]
 | .eptr id _ _ _=>[id]
 | .osl id _ _ _ _=>[id]
 | .map id=>[id]
 |_=>[]
def N8(ts:List AV):Op→List Nat
 | .load _ a=>Vf (evO ts a)
 | .convert _ _ x=>Vf (evO ts x)
 | .lookup _ x _ _=>Vf (evO ts x)
 |_=>[]
section
variable {P : Program} {TY : TypeId → Option TI} {D : PT}
def Aft(TY:TypeId→Option TI)(t:TypeId)(x:AV)(N:AV→Prop):Prop:=
 match TY t with
 |none=>False
 |some i=>match i.kind,x with
  | .str,.str l=>N (.int .i64 l.length)
  | .slice _,.sl _ _ len _=>N (.int .i64 len)
  | .slice _,.osl _ _ _ len _=>N (.int .i64 len)
  | .slice _,.nilsl=>N (.int .i64 0)
  |_,_=>False
theorem pJ{t:TypeId}{x:AV}{N:AV→Prop}(h:Aft TY t x N):Als TY t x N:=by
 unfold Aft at h;unfold Als
 split at h
 ·exact h.elim
 ·rename_i i hi
  simp only[hi]
  split at h<;>simp only[*]<;>first|exact fun _=>h|exact h|exact fun _=>trivial|exact trivial|exact h.elim
theorem Aa5{t:TypeId}{x:AV}:Det (Aft TY t x):=by
 intro N h;unfold Aft at h ⊢
 repeat' split at h
 all_goals first|exact h.elim|exact⟨_,h,by simp[*]⟩
def Vz(TY:TypeId→Option TI)(t:TypeId)(p x:AV)(H:List Blk)(N:Nat→Blk→Prop):Prop:=
 match TY t with
 |none=>False
 |some i=>if storable i x then match p with
  | .ptr id j=>match H[id]? with
   |some (.var cs T)=>if j+i.size≤cs.length then N id (.var (over cs j x.cells) T) else False
   |_=>False
  | .eptr id sz e j=>match H[id]? with
   |some (.row sz' len get T)=>if sz=sz' then if j+i.size≤sz then e<len∧N id (.row sz len (fun k=>Vq (decide (k=e)) (over (get e) j x.cells) (get k)) T) else False else False
   |_=>False
  |_=>False
  else False
theorem eQ{t:TypeId}{p x:AV}{H:List Blk}{N:Nat→Blk→Prop}{M:List Blk→Prop}(h:Vz TY t p x H N)(hM:∀ id b,N id b→M (H.set id b)):W6 TY t p x H M:=by
 unfold Vz at h;unfold W6
 cases hi:TY t with
 |none=>rw[hi] at h;exact h.elim
 |some i=>
  rw[hi] at h
  simp only at h ⊢
  by_cases hst:storable i x=true
  ·rw[if_pos hst] at h ⊢
   cases p<;>simp only at h ⊢<;>first|exact h.elim|skip
   case ptr id j=>
    split at h
    ·rename_i cs T0 hcs
     simp only[hcs]
     split at h
     ·rename_i hin;rw[if_pos hin];exact hM _ _ h
     ·exact h.elim
    ·exact h.elim
   case eptr id sz e j=>
    split at h
    ·rename_i sz' len get T0 hcs
     simp only[hcs]
     split at h
     ·rename_i hsz
      split at h
      ·rename_i hin;rw[if_pos hsz,if_pos hin];exact⟨h.1,hM _ _ h.2⟩
      ·exact h.elim
     ·exact h.elim
    ·exact h.elim
  ·rw[if_neg hst] at h;exact h.elim
theorem Afu{t:TypeId}{p x:AV}{H:List Blk}{N:Nat→Blk→Prop}(h:Vz TY t p x H N):∃ id b,N id b∧∀ H':List Blk,H'[id]? =H[id]? →Vz TY t p x H' (fun id' b'=>id'=id∧b'=b):=by
 unfold Vz at h
 unfold Vz
 cases hi:TY t with
 |none=>rw[hi] at h;exact h.elim
 |some i=>
  rw[hi] at h
  simp only at h ⊢
  by_cases hst:storable i x=true
  ·rw[if_pos hst] at h
   simp only[if_pos hst]
   cases p<;>simp only at h ⊢<;>first|exact h.elim|skip
   case ptr id j=>
    split at h
    ·rename_i cs T0 hcs
     split at h
     ·rename_i hin
      refine⟨_,_,h,fun H' hH'=>?_⟩
      simp only[hH',hcs]
      rw[if_pos hin]
      first|exact⟨rfl,rfl⟩|exact⟨trivial,trivial⟩
     ·exact h.elim
    ·exact h.elim
   case eptr id sz e j=>
    split at h
    ·rename_i sz' len get T0 hcs
     split at h
     ·rename_i hsz
      split at h
      ·rename_i hin
       refine⟨_,_,h.2,fun H' hH'=>?_⟩
       simp only[hH',hcs]
       rw[if_pos hsz,if_pos hin]
       first|exact⟨h.1,rfl,rfl⟩|exact⟨h.1,trivial,trivial⟩
      ·exact h.elim
     ·exact h.elim
    ·exact h.elim
  ·rw[if_neg hst] at h;exact h.elim
def opD(TY:TypeId→Option TI)(D:PT)(wr:Bool)(slot:Nat)(op:Op)(ts:List AV)(H:List Blk)(K:AV→List (Nat × Blk)→List Nat→Prop):Prop:=
 match op with
 | .alloc e=>Y2 TY e [] fun c H'=>(match c,H' with| .ptr _ j,[b]=>K (.ptr slot j) [(slot,b)] []|_,_=>False)
 | .box _ x=>Alk (evO ts x) [] fun c H'=>(match c,H' with| .ptr _ j,[b]=>K (.ptr slot j) [(slot,b)] []|_,_=>False)
 | .buildSlice t n ps=>Fh TY t n (partsE ts ps) [] fun c H'=>(match c,H' with| .osl _ sz o l cap,[b]=>K (.osl slot sz o l cap) [(slot,b)] []|_,_=>False)
 | .store t a x=>Vz TY t (evO ts a) (evO ts x) H fun id b=>K .any [(id,b)] [id]
 | .call c=>(match c.callee with
  | .value f=>(match evO ts f with
   | .fn g caps=>(match D g with
    |some pc=>Zh H (c.args.toList.map (evO ts)++caps) fun cs' ids=>pc.T cs' fun r=>(match r.flat || ids.isEmpty with|true=>K r [] ids|false=>False)
    |none=>False)
   |_=>False)
  | .builtin .len=>(match c.argTypes.toList,c.args.toList with
   |[t],[x]=>Aft TY t (evO ts x) fun r=>K r [] []
   |_,_=>False)
  | .builtin .cap=>(match c.argTypes.toList,c.args.toList with
   |[t],[x]=>Ajj TY t (evO ts x) fun r=>K r [] []
   |_,_=>False)
  |_=>False)
 |op=>opV TY wr op ts H fun r=>K r [] (N8 ts op)
theorem Ag6{wr:Bool}{op:Op}{ts:List AV}{H:List Blk}(hc:∀ c,op≠ .call c):Det (opV TY wr op ts H):=by
 intro N h
 cases op<;>simp only[opV] at h ⊢<;>(try exact h.elim)
 case move=>exact⟨_,h,rfl⟩
 case assign=>exact⟨_,h,rfl⟩
 case pick=>exact Alw _ _ _ N h
 case build=>exact Ajm N h
 case load=>exact Ajn N h
 case nilCheck=>exact yJ N h
 case binOp=>exact Ap5 N h
 case unOp=>exact Awc N h
 case convert=>exact Aly N h
 case makeInterface=>
  split at h
  ·split at h
   ·exact h.elim
   ·exact⟨_,h,rfl⟩
  ·exact h.elim
 case makeFunc=>
  split at h
  ·exact⟨_,h,by simp[*]⟩
  ·exact h.elim
 case slice=>
  split at h
  ·split at h
   ·exact h.elim
   ·obtain⟨r,h1,h2⟩:=Ajq N h
    exact⟨r,h1,by simp[*]⟩
  ·exact h.elim
 case fieldAddr=>exact nW N h
 case field=>exact Ajo N h
 case indexAddr=>exact nX N h
 case index=>
  split at h
  ·obtain⟨r,h1,h2⟩:=yK N h
   exact⟨r,h1,by simp[*]⟩
  ·obtain⟨r,h1,h2⟩:=Ajp N h
   exact⟨r,h1,h2⟩
 case lookup=>exact Afs N h
 case extract=>exact Aa4 N h
 case call c=>exact absurd rfl (hc c)
theorem yL{t:TypeId}{p:AV}{H H':List Blk}{N:AV→Prop}(hH:∀ id ∈ Vf p,H'[id]? =H[id]?):Mm TY t p H' N=Mm TY t p H N:=by
 unfold Mm
 cases p<;>first|rfl|simp only[hH _ (show _ ∈ Vf _ from List.mem_singleton.2 rfl)]
theorem Afv{x:AV}{H H':List Blk}{K:Nat→Nat→(Nat→List AV)→Prop}(hH:∀ id ∈ Vf x,H'[id]? =H[id]?):W8 H' x K=W8 H x K:=by
 unfold W8
 cases x<;>first|rfl|simp only[hH _ (show _ ∈ Vf _ from List.mem_singleton.2 rfl)]
theorem Aa6{wr:Bool}{s d:TypeId}{x:AV}{H H':List Blk}{N:AV→Prop}(hH:∀ id ∈ Vf x,H'[id]? =H[id]?):Xb TY wr s d x H' N=Xb TY wr s d x H N:=by
 have e:W8 H' x=W8 H x:=funext fun K=>Afv hH
 unfold Xb
 cases hs:TY s with
 |none=>rfl
 |some i=>
  cases hd:TY d with
  |none=>rfl
  |some j=>
   simp only
   cases hk:j.kind
   case str=>cases x<;>simp only[e]
   case int=>cases x<;>rfl
   all_goals rfl
theorem nY{t:TypeId}{x k:AV}{ok:Bool}{H H':List Blk}{N:AV→Prop}(hH:∀ id ∈ Vf x,H'[id]? =H[id]?):L4 TY t x k ok H' N=L4 TY t x k ok H N:=by
 have e:mapOf H' x=mapOf H x:=by
  unfold mapOf
  cases x<;>first|rfl|simp only[hH _ (show _ ∈ Vf _ from List.mem_singleton.2 rfl)]
 unfold L4
 rw[e]
theorem L8{ts ts':List AV}{ps:Array (Nat × Operand)}(hx:∀ x ∈ ps.map (·.2),evO ts' x=evO ts x):partsE ts' ps=partsE ts ps:=by
 unfold partsE
 refine List.map_congr_left fun p hp=>?_
 rw[hx p.2 (Array.mem_map.2 ⟨p,by simpa using hp,rfl⟩)]
theorem Mq{ts ts':List AV}{xs:Array Operand}(hx:∀ x ∈ xs,evO ts' x=evO ts x):xs.toList.map (evO ts')=xs.toList.map (evO ts):=
 List.map_congr_left fun x h=>hx x (by simpa using h)
theorem pK{wr:Bool}{op:Op}{ts ts':List AV}{H H':List Blk}{N:AV→Prop}(hc:∀ c,op≠ .call c)(hx:∀ x ∈ op.operands,evO ts' x=evO ts x)(hH:∀ id ∈ N8 ts op,H'[id]? =H[id]?):
  opV TY wr op ts' H' N=opV TY wr op ts H N:=by
 cases op<;>simp only[Op.operands] at hx<;>simp only[opV]
 case move x=>rw[hx x (by simp)]
 case assign x=>rw[hx x (by simp)]
 case pick c x y=>rw[hx c (by simp),hx x (by simp),hx y (by simp)]
 case build t ps=>rw[L8 fun x h=>hx x (by simpa using h)]
 case load t x=>rw[hx x (by simp)];exact yL hH
 case nilCheck x=>rw[hx x (by simp)]
 case binOp op t x y yt=>rw[hx x (by simp),hx y (by simp)]
 case unOp op t x=>rw[hx x (by simp)]
 case convert s d x=>rw[hx x (by simp)];exact Aa6 hH
 case makeInterface t x=>rw[hx x (by simp)]
 case makeFunc fn first caps=>rw[Mq (xs:=caps) fun x h=>hx x (by simp[h])]
 case slice t x l h m=>
  rw[hx x (by simp)]
  have e:∀ o:Option Operand,(∀ y,o=some y→evO ts' y=evO ts y)→o.map (evO ts')=o.map (evO ts):=fun o ho=>by
   cases o with
   |none=>rfl
   |some y=>rw[Option.map_some,Option.map_some,ho y rfl]
  rw[e l fun y hy=>hx y (by subst hy;simp),e h fun y hy=>hx y (by subst hy;simp),e m fun y hy=>hx y (by subst hy;simp)]
 case fieldAddr t x f=>rw[hx x (by simp)]
 case field t x f=>rw[hx x (by simp)]
 case indexAddr t x i=>rw[hx x (by simp),hx i (by simp)]
 case index t x i=>rw[hx x (by simp),hx i (by simp)]
 case lookup t x i ok=>rw[hx x (by simp),hx i (by simp)];exact nY hH
 case extract t i=>rw[hx t (by simp)]
 case call c=>exact absurd rfl (hc c)
mutual
theorem pL{H:List Blk}:∀ {c:AV} {K:AV→List Nat→Prop},Dy H c K→∃ c' ids,K c' ids∧∀ (H':List Blk) (K':AV→List Nat→Prop),(∀ id ∈ ids,H'[id]? =H[id]?)→K' c' ids→Dy H' c K'
 | .osl id sz off len cap,K,h=>by
  simp only[Dy] at h
  split at h
  ·rename_i sz' L get T0 hcs
   split at h
   ·rename_i hsz
    refine⟨_,_,h.2,fun H' K' hH hK=>?_⟩
    simp only[Dy,hH id (by simp),hcs]
    rw[if_pos hsz]
    exact⟨h.1,hK⟩
   ·exact h.elim
  ·exact h.elim
 | .ptr id j,K,h=>by
  simp only[Dy] at h
  split at h
  ·rename_i cs T0 hcs
   split at h
   ·rename_i hu
    refine⟨_,_,h,fun H' K' hH hK=>?_⟩
    simp only[Dy,hH id (by simp),hcs,hu]
    exact hK
   ·exact h.elim
  ·exact h.elim
 | .eptr id sz e j,K,h=>by
  simp only[Dy] at h
  split at h
  ·rename_i sz' L get T0 hcs
   split at h
   ·rename_i hsz
    refine⟨_,_,h.2,fun H' K' hH hK=>?_⟩
    simp only[Dy,hH id (by simp),hcs]
    rw[if_pos hsz]
    exact⟨h.1,hK⟩
   ·exact h.elim
  ·exact h.elim
 | .agg cs,K,h=>by
  simp only[Dy] at h
  obtain⟨cs',ids,h1,h2⟩:=Pp h
  exact⟨_,ids,h1,fun H' K' hH hK=>by simp only[Dy];exact h2 H' _ hH hK⟩
 | .tup cs,K,h=>by
  simp only[Dy] at h
  obtain⟨cs',ids,h1,h2⟩:=Pp h
  exact⟨_,ids,h1,fun H' K' hH hK=>by simp only[Dy];exact h2 H' _ hH hK⟩
 | .fn f cs,K,h=>by
  simp only[Dy] at h
  obtain⟨cs',ids,h1,h2⟩:=Pp h
  exact⟨_,ids,h1,fun H' K' hH hK=>by simp only[Dy];exact h2 H' _ hH hK⟩
 | .iface t v,K,h=>by
  simp only[Dy] at h
  obtain⟨c',ids,h1,h2⟩:=pL h
  exact⟨_,ids,h1,fun H' K' hH hK=>by simp only[Dy];exact h2 H' _ hH hK⟩
 | .map _,K,h=>by simp[Dy] at h
 | .iter _,K,h=>by simp[Dy] at h
 | .any,K,h=>⟨_,[],(by simpa only[Dy] using h),fun H' K' hH hK=>by simp only[Dy];exact hK⟩
 | .bool _,K,h=>⟨_,[],(by simpa only[Dy] using h),fun H' K' hH hK=>by simp only[Dy];exact hK⟩
 | .int ..,K,h=>⟨_,[],(by simpa only[Dy] using h),fun H' K' hH hK=>by simp only[Dy];exact hK⟩
 | .str _,K,h=>⟨_,[],(by simpa only[Dy] using h),fun H' K' hH hK=>by simp only[Dy];exact hK⟩
 | .nilp,K,h=>⟨_,[],(by simpa only[Dy] using h),fun H' K' hH hK=>by simp only[Dy];exact hK⟩
 | .rptr ..,K,h=>⟨_,[],(by simpa only[Dy] using h),fun H' K' hH hK=>by simp only[Dy];exact hK⟩
 | .nilsl,K,h=>⟨_,[],(by simpa only[Dy] using h),fun H' K' hH hK=>by simp only[Dy];exact hK⟩
 | .sl ..,K,h=>⟨_,[],(by simpa only[Dy] using h),fun H' K' hH hK=>by simp only[Dy];exact hK⟩
 | .nilfn,K,h=>⟨_,[],(by simpa only[Dy] using h),fun H' K' hH hK=>by simp only[Dy];exact hK⟩
 | .nilmap,K,h=>⟨_,[],(by simpa only[Dy] using h),fun H' K' hH hK=>by simp only[Dy];exact hK⟩
 | .nilif,K,h=>⟨_,[],(by simpa only[Dy] using h),fun H' K' hH hK=>by simp only[Dy];exact hK⟩
theorem Pp{H:List Blk}:∀ {cs:List AV} {K:List AV→List Nat→Prop},Zh H cs K→∃ cs' ids,K cs' ids∧∀ (H':List Blk) (K':List AV→List Nat→Prop),(∀ id ∈ ids,H'[id]? =H[id]?)→K' cs' ids→Zh H' cs K'
 |[],K,h=>⟨_,_,h,fun H' K' _ hK=>hK⟩
 |c::cs,K,h=>by
  rw[Zh] at h
  obtain⟨c',ids,h1,h2⟩:=pL h
  obtain⟨cs',ids',h3,h4⟩:=Pp h1
  refine⟨_,_,h3,fun H' K' hH hK=>?_⟩
  rw[Zh]
  exact h2 H' _ (fun id hi=>hH id (List.mem_append_left _ hi)) (h4 H' _ (fun id hi=>hH id (List.mem_append_right _ hi)) hK)
end
theorem yM{wr:Bool}{slot:Nat}{op:Op}{ts:List AV}{H:List Blk}{K:AV→List (Nat × Blk)→List Nat→Prop}(h:opD TY D wr slot op ts H K):
  ∃ r W R,K r W R∧∀ (ts':List AV) (H':List Blk),(∀ x ∈ op.operands,evO ts' x=evO ts x)→(∀ id ∈ R,H'[id]? =H[id]?)→
   opD TY D wr slot op ts' H' (fun r' W' R'=>r'=r∧W'=W∧R'=R):=by
 have val:(∀ c,op≠ .call c)→(∀ ts H K,opD TY D wr slot op ts H K=opV TY wr op ts H fun r=>K r [] (N8 ts op))→∃ r W R,K r W R∧∀ (ts':List AV) (H':List Blk),(∀ x ∈ op.operands,evO ts' x=evO ts x)→(∀ id ∈ R,H'[id]? =H[id]?)→
   opD TY D wr slot op ts' H' (fun r' W' R'=>r'=r∧W'=W∧R'=R):=by
  intro hc e
  rw[e] at h
  obtain⟨r,h1,h2⟩:=Ag6 hc _ h
  refine⟨r,_,_,h1,fun ts' H' hx hH=>?_⟩
  rw[e,pK (ts:=ts) (H:=H) hc hx hH]
  have hr:N8 ts' op=N8 ts op:=by
   cases op<;>first|rfl|(simp only[N8];rw[hx _ (by simp[Op.operands])])
  have e2:(fun r':AV=>r'=r∧([]:List (Nat × Blk))=[]∧N8 ts' op=N8 ts op)=(fun c=>c=r):=by funext c;simp[hr]
  rw[e2]
  exact h2
 cases op
 case alloc e=>
  simp only[opD] at h ⊢
  unfold Y2 at h ⊢
  split at h
  ·exact h.elim
  ·rename_i i hi
   simp only[hi]
   split at h
   ·exact h.elim
   ·rename_i z hz
    try simp only[hz]
    cases z<;>first|exact h.elim|exact⟨_,_,_,h,fun ts' H' _ _=>⟨rfl,rfl,rfl⟩⟩
 case box e x=>
  simp only[opD] at h ⊢
  have hx:∀ ts',(∀ y ∈ (Op.box e x).operands,evO ts' y=evO ts y)→evO ts' x=evO ts x:=fun ts' hx=>hx x (by simp[Op.operands])
  unfold Alk at h
  split at h
  ·exact h.elim
  ·rename_i hne
   refine⟨_,_,_,h,fun ts' H' hxs _=>?_⟩
   rw[hx ts' hxs]
   unfold Alk
   split
   ·rename_i he;exact(hne he).elim
   ·simp
 case buildSlice t n ps=>
  simp only[opD] at h ⊢
  have hp:∀ ts',(∀ y ∈ (Op.buildSlice t n ps).operands,evO ts' y=evO ts y)→partsE ts' ps=partsE ts ps:=fun ts' hx=>L8 fun x hx'=>hx x (by simpa[Op.operands] using hx')
  unfold Fh at h
  split at h
  ·exact h.elim
  ·rename_i i hi
   split at h
   ·rename_i e hk
    split at h
    ·rename_i ei hei
     split at h
     ·rename_i z hz
      split at h
      ·rename_i hcond
       refine⟨_,_,_,h,fun ts' H' hx _=>?_⟩
       rw[hp ts' hx]
       unfold Fh
       simp only[hi,hk,hei,hz]
       rw[if_pos hcond]
       simp
      ·exact h.elim
     ·exact h.elim
    ·exact h.elim
   ·exact h.elim
 case store t a x=>
  simp only[opD] at h ⊢
  obtain⟨id,b,h1,h2⟩:=Afu h
  refine⟨_,_,_,h1,fun ts' H' hx hH=>?_⟩
  rw[hx a (by simp[Op.operands]),hx x (by simp[Op.operands])]
  have:=h2 H' (hH id (by simp))
  have e2:(fun(id':Nat) (b':Blk)=>AV.any=AV.any∧[(id',b')]=[(id,b)]∧[id']=[id])=(fun id' b'=>id'=id∧b'=b):=by
   funext id' b'
   simp
   intro h1 _;exact h1
  rw[e2]
  exact this
 case call c=>
  obtain⟨callee,args,argTypes⟩:=c
  have ha:∀ ts',(∀ y ∈ (Op.call ⟨callee,args,argTypes⟩).operands,evO ts' y=evO ts y)→args.toList.map (evO ts')=args.toList.map (evO ts):=fun ts' hx=>Mq fun x hx'=>hx x (by simp[Op.operands,Call.operands,hx'])
  have one:∀ (F:List AV→(AV→Prop)→Prop),(∀ l,Det (F l))→(∀ ts H K,opD TY D wr slot (.call ⟨callee,args,argTypes⟩) ts H K=F (args.toList.map (evO ts)) fun r=>K r [] [])→
    ∃ r W R,K r W R∧∀ (ts':List AV) (H':List Blk),(∀ x ∈ (Op.call ⟨callee,args,argTypes⟩).operands,evO ts' x=evO ts x)→(∀ id ∈ R,H'[id]? =H[id]?)→
     opD TY D wr slot (.call ⟨callee,args,argTypes⟩) ts' H' (fun r' W' R'=>r'=r∧W'=W∧R'=R):=by
   intro F hF e
   rw[e] at h
   obtain⟨r,h1,h2⟩:=hF _ _ h
   refine⟨r,_,_,h1,fun ts' H' hx hH=>?_⟩
   rw[e,ha ts' hx]
   have e2:(fun r':AV=>r'=r∧([]:List (Nat × Blk))=[]∧([]:List Nat)=[])=(fun c=>c=r):=by funext c;simp
   rw[e2]
   exact h2
  cases callee
  case value f=>
   simp only[opD] at h ⊢
   have hf:∀ ts',(∀ y ∈ (Op.call ⟨.value f,args,argTypes⟩).operands,evO ts' y=evO ts y)→evO ts' f=evO ts f:=fun ts' hx=>hx f (by simp[Op.operands,Call.operands])
   split at h
   ·rename_i g caps hg
    split at h
    ·rename_i pc hpc
     obtain⟨cs',ids,h1,h2⟩:=Pp h
     obtain⟨r,h1,h3⟩:=pc.det _ _ h1
     split at h1
     ·rename_i hfl
      refine⟨_,_,_,h1,fun ts' H' hx hH=>?_⟩
      rw[hf ts' hx,ha ts' hx,hg]
      simp only[hpc]
      refine h2 H' _ hH ?_
      refine(congrArg (pc.T cs') (funext fun c=>propext ?_)).mp h3
      constructor
      ·rintro rfl
       rw[hfl]
       simp
      ·intro h
       split at h
       ·exact h.1
       ·exact h.elim
     ·exact h1.elim
    ·exact h.elim
   ·exact h.elim
  case invoke=>exact(by simp[opD] at h)
  case builtin b=>
   cases b<;>first|(simp[opD] at h;done)|skip
   case len=>
    refine one (fun l N=>match argTypes.toList,l with|[t],[x]=>Aft TY t x N|_,_=>False) (fun l=>?_) (fun ts H K=>?_)
    ·intro N h
     split at h
     ·exact Aa5 N h
     ·exact h.elim
    ·simp only[opD]
     cases hl:argTypes.toList with
     |nil=>rfl
     |cons t l=>cases l<;>cases ha:args.toList with
      |nil=>rfl
      |cons x l=>cases l<;>rfl
   case cap=>
    refine one (fun l N=>match argTypes.toList,l with|[t],[x]=>Ajj TY t x N|_,_=>False) (fun l=>?_) (fun ts H K=>?_)
    ·intro N h
     split at h
     ·exact Ap6 N h
     ·exact h.elim
    ·simp only[opD]
     cases hl:argTypes.toList with
     |nil=>rfl
     |cons t l=>cases l<;>cases ha:args.toList with
      |nil=>rfl
      |cons x l=>cases l<;>rfl
 all_goals exact val (fun c hc=>by cases hc) (fun _ _ _=>rfl)
end
end Go.Vc
namespace Go.Vc
open Go
section
variable {F : Nat → Obj → Prop} {P : Program} {TY : TypeId → Option TI} {D : PT} {ρ : Nat → Option Nat} {S : Nat → Prop} {w : World}
theorem Ij{n:Nat}(hn:ρ n=none)(o:Obj):Ext ρ S w (E1 ρ n w.heap.size) S (w.alloc o):={
 rho i b hi:=by
  unfold E1
  rw[if_neg (by rintro rfl;rw[hn] at hi;cases hi)];exact hi
 st _ hb:=hb
 same b hb _:=F2 w o hb
 size:=by simp
 shp b arr T fr hb:=⟨arr,fr,(F2 w o (lt_of_some hb)).trans hb,rfl⟩
 fresh i b hi:=by
  unfold E1 at hi
  split at hi
  ·cases hi;exact .inr (Nat.le_refl _)
  ·exact .inl ⟨_,hi⟩
 stf _ hb:=.inl hb
 os:=rfl
 tape:=rfl
 output:=rfl }
theorem Qp{H:List Blk}(h:HRel ρ S w H){n:Nat}(hn:ρ n=none)(hlt:n<H.length)(o:Obj){blk:Blk}(hb:BRel (E1 ρ n w.heap.size) S (w.alloc o) n blk):
  HRel (E1 ρ n w.heap.size) S (w.alloc o) (H.set n blk):={
 inj i j bi bj b hi hj li lj ri rj:=by
  unfold E1 at ri rj
  split at ri<;>split at rj
  ·omega
  ·cases ri
   have:=(h.out j _ rj).2
   omega
  ·cases rj
   have:=(h.out i _ ri).2
   omega
  ·rw[List.getElem?_set_ne (by omega)] at hi hj
   exact h.inj i j bi bj b hi hj li lj ri rj
 blk i b hi:=by
  by_cases hin:n=i
  ·subst hin
   rw[List.getElem?_set,if_pos rfl,if_pos hlt] at hi
   cases hi
   exact hb
  ·rw[List.getElem?_set_ne hin] at hi
   refine(h.blk i b hi).keep (Ij hn o) fun b' hb'=>?_
   unfold E1 at hb'
   rw[if_neg (fun e=>hin e.symm)] at hb'
   exact⟨hb',F2 w o (h.out i b' hb').2,fun h=>h⟩
 out i b hi:=by
  unfold E1 at hi
  simp only[List.length_set,World.size_alloc]
  split at hi
  ·cases hi;omega
  ·have:=h.out i b hi;omega }
theorem eR{n:Nat}(hn0:ρ n=none)(hns:∀ b,S b→b<w.heap.size){c:AV}{v:Value}(hn:c≠ .any)(h:V ρ S w c v)(T:TypeId){T1:Option Nat}(hT:Pg T1 T=T):
  BRel (E1 ρ n w.heap.size) S (w.alloc (.cells v.cells T)) n (.var c.cells T1):=by
 intro b hb
 rw[D3] at hb
 cases hb
 obtain⟨h1,h2⟩:=h.cells hn
 exact⟨fun hs=>Nat.lt_irrefl _ (hns _ hs),v.cells,T,(0,0),by rw[hT];exact C3 w _,h1.symm,fun o _=>G4 w _ _ o,fun j c v hc hv=>(h2 j c v hc hv).mono (Ij hn0 _)⟩
theorem Afw{m:Nat}(hn0:ρ m=none)(hns:∀ b,S b→b<w.heap.size){sz n:Nat}{get:Nat→List AV}{arr:Array Value}(hs:n*sz≤arr.size)(h:Vs ρ S w sz n get arr)(T:TypeId){T1:Option Nat}(hT:Pg T1 T=T):
  BRel (E1 ρ m w.heap.size) S (w.alloc (.cells arr T)) m (.row sz n get T1):=by
 intro b hb
 rw[D3] at hb
 cases hb
 exact⟨fun hs=>Nat.lt_irrefl _ (hns _ hs),arr,T,(0,0),by rw[hT];exact C3 w _,hs,fun o _=>G4 w _ _ o,h.1,fun e j c v he hc hv=>(h.2 e j c v he hc hv).mono (Ij hn0 _)⟩
theorem yN{n b0 i b:Nat}(h:E1 ρ n b0 i=some b):ρ i=some b∨i=n:=by
 unfold E1 at h
 split at h
 ·exact .inr (by assumption)
 ·exact .inl h
theorem Ajr(hTY:TyOk P TY)(hD:Cl F P D){st:St}{a:Act}(hR:RelX F ρ S st a w){slot:Nat}(hslot:slot<st.heap.length)(hρ:ρ slot=none){wr:Bool}(o:Oper)
  {K:AV→List (Nat × Blk)→List Nat→Prop} (h:opD TY D wr slot o.op st.tmps st.heap K) {Q:Exit→Act→World→Prop}:
  o.wp P a w (fun a' w'=>∃ r W R ρ' S',K r W R∧RelX F ρ' S' ⟨put st.tmps o.dst r,Cr st.heap W⟩ a' w'∧Ext ρ S w ρ' S' w'∧∀ id b,ρ' id=some b→ρ id=some b∨id=slot) Q:=by
 have fin:∀ v w' r W R ρ',(execOp a.eval o).run P w= .ok (.value v) w'→K r W R→V ρ' S w' r v→HRel ρ' S w' (Cr st.heap W)→Ext ρ S w ρ' S w'→(∀ id b,ρ' id=some b→ρ id=some b∨id=slot)→
   o.wp P a w (fun a' w'=>∃ r W R ρ' S',K r W R∧RelX F ρ' S' ⟨put st.tmps o.dst r,Cr st.heap W⟩ a' w'∧Ext ρ S w ρ' S' w'∧∀ id b,ρ' id=some b→ρ id=some b∨id=slot) Q:=by
  intro v w' r W R ρ' h1 h2 h3 h4 h5 h6
  unfold Oper.wp
  rw[h1]
  exact⟨r,W,R,ρ',S,h2,Rel.put hR h5 (hR.sok.still h5) h4 h3 _,h5,h6⟩
 have finS:∀ w' W R,(execOp a.eval o).run P w= .ok .skip w'→K .any W R→HRel ρ S w' (Cr st.heap W)→Ext ρ S w ρ S w'→
   o.wp P a w (fun a' w'=>∃ r W R ρ' S',K r W R∧RelX F ρ' S' ⟨put st.tmps o.dst r,Cr st.heap W⟩ a' w'∧Ext ρ S w ρ' S' w'∧∀ id b,ρ' id=some b→ρ id=some b∨id=slot) Q:=by
  intro w' W R h1 h2 h4 h5
  unfold Oper.wp
  rw[h1]
  exact⟨.any,W,R,ρ,S,h2,Rel.put hR h5 (hR.sok.still h5) h4 (.any _) _,h5,fun _ _ h=>.inl h⟩
 have val:∀ N:AV→Prop,opV TY wr o.op st.tmps st.heap N→(∀ r,N r→∃ R,K r [] R)→o.wp P a w (fun a' w'=>∃ r W R ρ' S',K r W R∧RelX F ρ' S' ⟨put st.tmps o.dst r,Cr st.heap W⟩ a' w'∧Ext ρ S w ρ' S' w'∧∀ id b,ρ' id=some b→ρ id=some b∨id=slot) Q:=by
  intro N hv hN
  obtain⟨v,c,h1,h2,h3⟩:=Zg hTY hR.heap hR.tmps o hv
  obtain⟨R,hK⟩:=hN c h2
  exact fin v w c [] R ρ h1 hK h3 hR.heap (Ext.refl _ _ _) (fun _ _ h=>.inl h)
 obtain⟨dst,op,type,pos,after,guard⟩:=o
 simp only at h val
 cases op
 case alloc e=>
  simp only[opD] at h
  unfold Y2 at h
  split at h
  ·exact h.elim
  ·rename_i i hi
   split at h
   ·exact h.elim
   ·rename_i z hz
    obtain⟨v,hv,rfl⟩:=hTY.zero hi hz
    have hn:AV.ofC v≠ .any:=by intro he;rw[he] at h;exact h
    have h':K (.ptr slot 0) [(slot,.var (AV.ofC v).cells (some e))] []:=by
     generalize AV.ofC v=z at h hn
     cases z<;>first|exact h|exact absurd rfl hn
    have hrun:(Instr.alloc e true (.tuple #[])).run P w= .ok (.pointer (some ⟨w.heap.size,0,none⟩)) (w.alloc (.cells v.cells e)):=by simp[Instr.alloc,hv,newVar,newRow]
    refine fin _ _ _ _ _ _ (show(do pure (Next.value (←Instr.alloc e true (.tuple #[]))):Sem Next).run P w=_ by simp[hrun]) h' (.ptr _ _ _ (D3 _ _)) (Qp hR.heap hρ hslot _ (eR hρ hR.sok.lt hn (V.ofC v) e rfl)) (Ij hρ _) (fun _ _ h=>yN h)
 case box e x=>
  simp only[opD] at h
  have hn:evO st.tmps x≠ .any:=by intro he;rw[he] at h;exact h
  have h':K (.ptr slot 0) [(slot,.var (evO st.tmps x).cells)] []:=by
   generalize evO st.tmps x=z at h hn
   cases z<;>first|exact h|exact absurd rfl hn
  have hrun:(Instr.box e (a.eval x)).run P w= .ok (.pointer (some ⟨w.heap.size,0,none⟩)) (w.alloc (.cells (a.eval x).cells e)):=by simp[Instr.box,newVar,newRow]
  refine fin _ _ _ _ _ _ (show(do pure (Next.value (←Instr.box e (a.eval x))):Sem Next).run P w=_ by simp[hrun]) h' (.ptr _ _ _ (D3 _ _)) (Qp hR.heap hρ hslot _ (eR hρ hR.sok.lt hn (hR.tmps.eval x) e rfl)) (Ij hρ _) (fun _ _ h=>yN h)
 case buildSlice t n ps=>
  simp only[opD] at h
  obtain⟨sz,get,arr,e,hN,hsz,hn16,hrel,hrun⟩:=Sa hTY hR.tmps h
  refine fin _ _ _ _ _ _ (show(do pure (Next.value (←Instr.buildSlice t n (ps.map fun p=>(p.1,a.eval p.2)))):Sem Next).run P w=_ by simp[hrun];rfl) hN ?_ (Qp hR.heap hρ hslot _ (Afw hρ hR.sok.lt (by omega) hrel e rfl)) (Ij hρ _) (fun _ _ h=>yN h)
  exact .osl _ _ _ _ _ _ _ _ (D3 _ _) (Nat.le_refl _) (by rw[Cm];omega) (fun _=>by simp) ⟨arr,e,(0,0),C3 w _,by rw[Nat.zero_add];omega⟩ (fun c hc=>by cases hc;rfl)
 case store t p x=>
  simp only[opD] at h
  have:=eQ (M:=fun H'=>∃ id b,H'=st.heap.set id b∧K .any [(id,b)] [id]) h (fun id b hN=>⟨id,b,rfl,hN⟩)
  obtain⟨w',H',h1,⟨id,b,rfl,h2⟩,h3,h4⟩:=Vd hTY hR.heap (hR.tmps.eval p) (hR.tmps.eval x) this
  exact finS w' [(id,b)] [id] (show(do Instr.storeAt t (a.eval p) (a.eval x);pure .skip:Sem Next).run P w=_ by simp[h1]) h2 h3 h4
 case call c=>
  obtain⟨callee,args,argTypes⟩:=c
  cases callee
  case value f=>
   simp only[opD] at h
   split at h
   ·rename_i g caps hg
    split at h
    ·rename_i pc hpc
     obtain⟨hent,hgood⟩:=hD g pc hpc
     have hfv:=hR.tmps.eval f
     rw[hg] at hfv
     cases hev:a.eval f<;>rw[hev] at hfv<;>cases hfv
     rename_i vs hl hv
     have hrun:(execOp a.eval ⟨dst,.call ⟨.value f,args,argTypes⟩,type,pos,after,guard⟩).run P w= .ok (.enter g (args.map a.eval++vs)) w:=by
      unfold execOp
      simp only[resolve,hev,Deferred.ofValue,Sem.run_bind,Sem.run_pure,Result.andThen_ok,invoke,Array.empty_append]
      exact hent _ w
     have hVL:VL ρ S w (args.toList.map (evO st.tmps)++caps) (args.map a.eval++vs):=by
      refine⟨by simp[hl],fun i c' v' hc' hv'=>?_⟩
      by_cases hlt:i<args.size
      ·rw[List.getElem?_append_left (by simpa using hlt),List.getElem?_map] at hc'
       rw[Array.getElem?_append_left (by simpa using hlt),Array.getElem?_map] at hv'
       rw[show args.toList[i]? =args[i]? by simp] at hc'
       cases hi:args[i]? with
       |none=>rw[hi] at hc';cases hc'
       |some x=>
        rw[hi] at hc' hv'
        cases hc';cases hv'
        exact hR.tmps.eval x
      ·rw[List.getElem?_append_right (by simp;omega)] at hc'
       rw[Array.getElem?_append_right (by simp;omega)] at hv'
       simp only[List.length_map,Array.length_toList] at hc'
       simp only[Array.size_map] at hv'
       exact hv _ _ _ hc' hv'
     obtain⟨cs',ids,h1,hv',hlv⟩:=pE hR.heap h hVL
     unfold Oper.wp
     rw[hrun,Oper.upon_enter]
     refine(hgood (Sf ρ S ids) w cs' _ _ (Xh hR.heap hR.sok ids) hv' h1).mono ?_
     rintro e w' ⟨v,r,S',rfl,h1,k1,k2,k3⟩
     split at h1
     ·rename_i hfl
      by_cases hf:r.flat=true
      ·obtain⟨m1,m2⟩:=Po hR.heap k2
       exact⟨_,[],ids,ρ,S,h1,Rel.put hR m2 (hR.sok.still m2) m1 (k1.flatR hf) _,m2,fun _ _ h=>.inl h⟩
      ·have he:ids=[]:=by
        rw[Bool.or_eq_true] at hfl
        rcases hfl with hfl|hfl
        ·exact absurd hfl hf
        ·simpa using hfl
       subst he
       obtain⟨m1,m2⟩:=aY hR.heap hlv k2
       exact⟨_,[],[],ρ,S',h1,Rel.put hR m2 k3 m1 k1.lift _,m2,fun _ _ h=>.inl h⟩
     ·exact h1.elim
    ·exact h.elim
   ·exact h.elim
  case invoke=>simp[opD] at h
  case builtin b=>
   cases b<;>first|(simp[opD] at h;done)|skip
   case len=>
    simp only[opD] at h
    split at h
    ·rename_i t x ht hx
     refine val (fun r=>K r [] []) ?_ (fun r hr=>⟨[],hr⟩)
     simp only[opV,Zf,Gm,ht,hx,List.map_cons,List.map_nil]
     exact pJ h
    ·exact h.elim
   case cap=>
    simp only[opD] at h
    split at h
    ·rename_i t x ht hx
     refine val (fun r=>K r [] []) ?_ (fun r hr=>⟨[],hr⟩)
     simp only[opV,Zf,Gm,ht,hx,List.map_cons,List.map_nil]
     exact h
    ·exact h.elim
 all_goals (simp only[opD] at h;exact val _ h (fun r hr=>⟨_,hr⟩))
end
end Go.Vc
