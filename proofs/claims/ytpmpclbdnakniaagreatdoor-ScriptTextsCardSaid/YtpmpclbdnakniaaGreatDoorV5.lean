/- Operations, contracts, regions in the order of the text, code. -/
import Derived.Test.YtpmpclbdnakniaaGreatDoorV4
set_option linter.all false
namespace Go.Vc
open Go
section
variable {P : Program} {TY : TypeId → Option TI} {ρ : Nat → Option Nat} {S : Nat → Prop} {w : World}
theorem OpOk.of_unit{s:Sem Unit}{N:AV→List Blk→Prop}{w':World}{H':List Blk}(h:s.run P w= .ok () w')(hN:N .any H')(hH:HRel ρ S w' H')(hE:Ext ρ S w ρ S w'):OpOk P ρ S w (do s;pure .skip) N:=
 ⟨undef,w',.any,H',ρ,.inr ⟨by simp[h],rfl⟩,hN,.any _,hH,hE⟩
theorem OpSt.val{s:Sem Next}{N:AV→Prop}{v:Value}{c:AV}(h:s.run P w= .ok (.value v) w)(hN:N c)(hv:V ρ S w c v):OpSt P ρ S w s N:=
 ⟨v,c,h,hN,hv⟩
def opV(TY:TypeId→Option TI)(wr:Bool)(op:Op)(ts:List AV)(H:List Blk)(N:AV→Prop):Prop:=
 match op with
 | .move x=>N (evO ts x)
 | .assign x=>N (evO ts x)
 | .pick c a b=>sO (evO ts c) (evO ts a) (evO ts b) N
 | .build t ps=>bN TY t (partsE ts ps) N
 | .load t a=>Nt TY t (evO ts a) H N
 | .nilCheck x=>Qu (evO ts x) N
 | .binOp op t x y _=>Amq TY wr op t (evO ts x) (evO ts y) N
 | .unOp op _ x=>unA wr op (evO ts x) N
 | .convert s d x=>Zd TY wr s d (evO ts x) H N
 | .makeInterface t x=>(match TY t with|some i=>(match i.kind with| .iface=>False|_=>N (.iface t (evO ts x)))|none=>False)
 | .makeFunc fn first caps=>(match fn,first.toList with| .func f,[]=>N (.fn f (caps.toList.map (evO ts)))|_,_=>False)
 | .slice t x l h m=>(match TY t with
  |some i=>(match i.kind with
   | .arr _ _=>False
   |_=>bK TY t (evO ts x) (l.map (evO ts)) (h.map (evO ts)) (m.map (evO ts)) N)
  |none=>False)
 | .fieldAddr t x f=>Ks TY t (evO ts x) f N
 | .field t x f=>bG TY t (evO ts x) f N
 | .indexAddr t x i=>Kt TY t (evO ts x) (evO ts i) N
 | .index t x i=>(match evO ts x with
  | .agg cs=>Nl TY t (.agg cs) (evO ts i) N
  |x=>bJ TY t x (evO ts i) N)
 | .lookup t x i ok=>M9 TY t (evO ts x) (evO ts i) ok H N
 | .extract t i=>Qv (evO ts t) i N
 | .call c=>(match c.callee with
  | .builtin b=>(match bR b with
   |true=>G0 TY b c.argTypes.toList (c.args.toList.map (evO ts)) H (fun r _=>N r)
   |false=>False)
  |_=>False)
 |_=>False
theorem bS(hTY:TyOk P TY){H:List Blk}(hH:HRel ρ S w H){ts:List AV}{a:Act}(hT:TRel ρ S w ts a.tmps){wr:Bool}(o:Oper){N:AV→Prop}
  (h:opV TY wr o.op ts H N):OpSt P ρ S w (execOp a.eval o) N:=by
 obtain⟨dst,op,type,pos,after,guard⟩:=o;simp only at h;cases op<;>simp only[opV] at h<;>(try exact h.elim)
 case move x=>exact OpSt.val rfl h (hT.eval x)
 case assign x=>exact OpSt.val rfl h (hT.eval x)
 case pick c x y=>exact Adr (hT.eval c) (hT.eval x) (hT.eval y) h
 case build t ps=>exact(Abj hTY hH hT (sJ ▸ h)).op
 case load t x=>exact(Y7 hTY hH (hT.eval x) h).op
 case nilCheck x=>
  have hx:=hT.eval x;have fin:∀ v,a.eval x=v→(match v with
    | .pointer none| .nilIface| .nilFunc=>False
    | .func (.method _) _ _=>False
    |_=>True)→(execOp a.eval ⟨dst,.nilCheck x,type,pos,after,guard⟩).run P w= .ok (.value v) w:=by
   intro v hv hm;simp only[execOp];rw[hv];split at hm<;>first|exact hm.elim|skip
   split<;>first|rfl|(simp_all;done)
  unfold Qu at h;split at h
  ·rename_i id j heq;rw[heq] at hx;obtain⟨b,he,hb⟩:=hx.ptrR;exact OpSt.val (fin _ he trivial) h (by rw[←he];exact hT.eval x)
  ·rename_i id sz e j heq;rw[heq] at hx;obtain⟨b,he,hb⟩:=hx.eptrR;exact OpSt.val (fin _ he trivial) h (by rw[←he];exact hT.eval x)
  ·rename_i cs j heq;rw[heq] at hx;cases hev:a.eval x<;>rw[hev] at hx<;>cases hx
   exact OpSt.val (fin _ hev trivial) h (by rw[←hev];exact hT.eval x)
  ·rename_i f cs heq;rw[heq] at hx;cases hev:a.eval x<;>rw[hev] at hx<;>cases hx
   exact OpSt.val (fin _ hev trivial) h (by rw[←hev];exact hT.eval x)
  ·exact h.elim
 case binOp op t x y yt=>exact(Aiq hTY hH x y (hT.eval x) (hT.eval y) h).op
 case unOp op t x=>exact(Amr hH (hT.eval x) h).op
 case convert s d x=>exact(Adn hTY hH (hT.eval x) h).op
 case makeInterface t x=>
  split at h
  ·rename_i i hi;obtain⟨_,d,_,h2,_,_,_,h6,_,_⟩:=hTY.get hi;have h':(∀ ms,d≠ .interface ms)∧N (.iface t (evO ts x)):=by
    split at h
    ·exact h.elim
    ·rename_i hk;refine⟨?_,h⟩;rintro ms rfl;exact hk (by rw[←h6];rfl)
   refine(VSt.same hH (v:=.iface t (a.eval x)) ?_ h'.2 (.iface _ _ _ (hT.eval x))).op;unfold Instr.makeInterface;simp only[Sem.run_bind,Al h2,Result.andThen_ok];cases d<;>first|rfl|exact absurd rfl (h'.1 _)
  ·exact h.elim
 case makeFunc fn first caps=>
  split at h
  ·rename_i f hf;obtain⟨first⟩:=first
   simp only at hf;subst hf;refine(VSt.same hH (v:=.func (.func f) #[] (caps.map a.eval)) ?_ h ?_).op
   ·simp[Instr.makeFunc]
   ·refine .fn _ _ _ (by simp) fun i c v hc hv=>?_
    simp only[List.getElem?_map] at hc;simp only[Array.getElem?_map] at hv;cases hi:caps[i]? with
    |none=>rw[hi] at hv;cases hv
    |some o=>
     have hi':caps.toList[i]? =some o:=(by simpa using hi);rw[hi'] at hc;rw[hi] at hv;cases hc;cases hv;exact hT.eval o
  ·exact h.elim
 case slice t x l hh m=>
  split at h
  ·rename_i i hi;obtain⟨_,d,_,h2,_,_,_,h6,_,_⟩:=hTY.get hi;split at h
   ·exact h.elim
   ·rename_i hna0;have hna:∀ n e,d≠ .array n e:=by
     rintro n e rfl;exact hna0 n e (by rw[←h6];rfl)
    obtain⟨v,c,g1,g2⟩:=Abi hTY hH (hT.eval x) (Ue hT l) (Ue hT hh) (Ue hT m) h;refine VSt.op ⟨v,c,?_,g2⟩;rw[jP h2 hna];exact g1
  ·exact h.elim
 case fieldAddr t x f=>exact(bF hTY hH (hT.eval x) h).op
 case field t x f=>exact(Abg hTY hH (hT.eval x) h).op
 case indexAddr t x i=>exact(bI hTY hH (hT.eval x) (hT.eval i) h).op
 case index t x i=>
  split at h
  ·rename_i cs heq;have hx:=hT.eval x;rw[heq] at hx;exact(gI hTY hH hx (hT.eval i) h).op
  ·exact(Abh hTY hH (hT.eval x) (hT.eval i) h).op
 case lookup t x i ok=>exact(rE hTY hH (hT.eval x) (hT.eval i) h).op
 case extract t i=>exact(jO hH (hT.eval t) h).op
 case call c=>
  obtain⟨callee,args,argTypes⟩:=c;simp only at h;split at h
  ·rename_i b;split at h
   ·rename_i hb;obtain⟨v,c,g1,g2⟩:=Uf (ty:=type) (cs:=args.map fun| .const _=>true|_=>false) (N:=fun r _=>N r) hTY hH hT hb h;exact⟨v,c,g1,g2⟩
   ·exact h.elim
  ·exact h.elim
theorem Aiw(hTY:TyOk P TY){t:TypeId}{c:Bool}{z l:Nat}{g:Nat→List AV}{vx vy:Value}(xo yo:Operand){N:Bool→Prop}{M:AV→Prop}(hx:V ρ S w (.sl c z l g) vx)(hy:V ρ S w .nilsl vy)(h:Az7 TY t l N)(hM:∀ b,N b→M (.bool b)):
  VSt P ρ S w (do eqGuard .eql t xo yo vx vy;binOp .eql t vx vy) M:=by
 unfold Az7 at h;split at h
 ·rename_i i hi;obtain⟨info,d,h1,h2,_,_,_,h6,_,h8⟩:=hTY.get hi;obtain⟨_,_,_,ks,_⟩:=B0 h6;split at h
  ·rename_i e hk;have he:P.underlying t=some (.slice e):=(by rw[h2,ks e hk]);cases hy;have gsl:∀ (a b:Option Addr) (l c l' c':Nat),(eqGuard .eql t xo yo (.slice a l c) (.slice b l' c')).run P w= .ok () w:=fun a b l c l' c'=>by simp[eqGuard]
   have fin:∀ (p:Option Addr) (l c:Nat),M (.bool p.isNone)→VSt P ρ S w (do eqGuard .eql t xo yo (.slice p l c) (.slice none 0 0);binOp .eql t (.slice p l c) (.slice none 0 0)) M:=fun p l c hm=>
    ⟨.bool p.isNone,.bool p.isNone,by simp only[Sem.run_bind,gsl,Result.andThen_ok];exact Lib.run_eql_slice_nil w t e p l c 0 0 he,hm,.bool _⟩
   cases hx with
   |sln _ _ _ ao=>cases ao with
    |none=>exact fin none 0 0 (hM true h.1)
    |some a=>exact fin (some a) 0 0 (hM false h.2)
   |sl _ _ _ _ b o cap f hs hl hm hcl hz hc hv=>
    refine fin (some _) l cap (hM false ?_);split at h
    ·exact h.2
    ·exact h
  ·exact h.elim
 ·exact h.elim
theorem Nm(hTY:TyOk P TY)(hns:∀ b,S b→b<w.heap.size){H:List Blk}(hH:HRel ρ S w H){ts:List AV}{a:Act}(hT:TRel ρ S w ts a.tmps){wr:Bool}(o:Oper){N:AV→List Blk→Prop}
  (h:opA TY wr o.op ts H N):OpOk P ρ S w (execOp a.eval o) N:=by
 have val:opV TY wr o.op ts H (fun r=>N r H)→OpOk P ρ S w (execOp a.eval o) N:=fun hv=>(bS hTY hH hT o hv).ok hH;obtain⟨dst,op,type,pos,after,guard⟩:=o;simp only at h;simp only at val;cases op<;>simp only[opA] at h<;>simp only[opV] at val<;>(try exact h.elim)
 case move x=>exact val h
 case assign x=>exact val h
 case pick c x y=>exact val h
 case build t ps=>exact val h
 case load t x=>exact val h
 case nilCheck x=>exact val h
 case binOp op t x y yt=>
  split at h
  ·rename_i c z l g hx hy;have h1:=hT.eval x;have h2:=hT.eval y;rw[hx] at h1;rw[hy] at h2;exact(Aiw (M:=fun r=>N r H) hTY x y h1 h2 h fun b hb=>hb).op.ok hH
  ·exact val h
 case unOp op t x=>exact val h
 case convert s d x=>exact val h
 case makeInterface t x=>exact val h
 case makeFunc fn first caps=>exact val h
 case fieldAddr t x f=>exact val h
 case field t x f=>exact val h
 case indexAddr t x i=>exact val h
 case index t x i=>exact val h
 case lookup t x i ok=>exact val h
 case extract t i=>exact val h
 case alloc e=>exact(Abf hTY hns hH h).op
 case box e x=>exact(Aim hns hH (hT.eval x) h e).op
 case buildSlice t n ps=>exact(Zc hTY hns hH hT h).op
 case insert t m k x=>
  obtain⟨w',H',h1,h2,h3,h4⟩:=Xh hTY hH (hT.eval m) (hT.eval k) (hT.eval x) h;exact OpOk.of_unit h1 h2 h3 h4
 case store t p x=>
  obtain⟨w',H',h1,h2,h3,h4⟩:=Xf hTY hH (hT.eval p) (hT.eval x) h;exact OpOk.of_unit h1 h2 h3 h4
 case makeMap t r=>
  cases r with
  |some _=>exact h.elim
  |none=>
   refine(VOk.new hH (v:=.map (some w.heap.size)) (o:=.map #[] 0) ?_ h (.map _ _ (Dx _ _)) ?_).op
   ·simp[Instr.makeMap,newObj,Sem.run]
   ·intro b hb;rw[Dx] at hb;cases hb;exact⟨fun hs=>Nat.lt_irrefl _ (hns _ hs),#[],0,Cu w _,rfl,fun i k x e hi=>by simp at hi⟩
 case makeSlice t l c=>exact(bO hTY hns hH (hT.eval l) (hT.eval c) h).op
 case slice t x l hh m=>
  split at h
  ·rename_i i hi;split at h
   ·exact(gJ hTY hH (hT.eval x) (Ue hT l) (Ue hT hh) h).op
   ·exact h.elim
   ·rename_i m x0 m0 hna1 hna2;refine val ?_;simp only[hi];split
    ·rename_i n e hk;cases m with
     |none=>first|exact(hna1 n e hk rfl).elim|exact(hna2 n e hk rfl).elim
     |some v=>first|exact(hna1 n e v hk rfl).elim|exact(hna2 n e v hk rfl).elim
    ·exact h
  ·exact h.elim
 case mapUpdate t m k x=>
  obtain⟨w',H',h1,h2,h3,h4⟩:=Xh hTY hH (hT.eval m) (hT.eval k) (hT.eval x) h;exact OpOk.of_unit h1 h2 h3 h4
 case range t x=>exact(Abp hTY hns hH (hT.eval x) h).op
 case next it isS=>exact(Adp hH (hT.eval it) h).op
 case call c=>
  obtain⟨callee,args,argTypes⟩:=c;simp only at h;split at h
  ·rename_i b;have:=jQ (ty:=type) (cs:=args.map fun| .const _=>true|_=>false) hTY hns hH hT h
   obtain⟨v,w',c,H',ρ',g1,g2⟩:=this;refine⟨v,w',c,H',ρ',?_,g2⟩;rcases g1 with g1|g1
   ·exact .inl g1
   ·exact .inr g1
  ·exact h.elim
end
abbrev Ctr:=List AV→List Blk→(AV→List Blk→Prop)→Prop
def VL(ρ:Nat→Option Nat)(S:Nat→Prop)(w:World)(cs:List AV)(vs:Array Value):Prop:=cs.length=vs.size∧∀ (i:Nat) (c:AV) (v:Value),cs[i]? =some c→vs[i]? =some v→V ρ S w c v
structure Sok (F:Nat→Obj→Prop) (S:Nat→Prop) (w:World):Prop where
 lt:∀ b,S b→b<w.heap.size
 st:∀ b o,F b o→S b∧w.heap[b]? =some o
theorem Sok.ext{F:Nat→Obj→Prop}{ρ:Nat→Option Nat}{S:Nat→Prop}{w:World}{ρ':Nat→Option Nat}{S':Nat→Prop}{w':World}(h:Sok F S w)(hE:Ext ρ S w ρ' S' w')(hs:∀ b,S' b→b<w'.heap.size):Sok F S' w':=
 ⟨hs,fun b o hf=>⟨hE.st b (h.st b o hf).1,(hE.same b (h.lt b (h.st b o hf).1) (.inl (h.st b o hf).1)).trans (h.st b o hf).2⟩⟩
theorem Sok.still{F:Nat→Obj→Prop}{ρ:Nat→Option Nat}{S:Nat→Prop}{w:World}{ρ':Nat→Option Nat}{w':World}(h:Sok F S w)(hE:Ext ρ S w ρ' S w'):Sok F S w':=
 h.ext hE fun b hb=>Nat.lt_of_lt_of_le (h.lt b hb) hE.size
def Good(F:Nat→Obj→Prop)(P:Program)(f:FuncId)(K:Ctr):Prop:=
 ∀ ρ S (w:World) H cs vs Q,Sok F S w→HRel ρ S w H→VL ρ S w cs vs→K cs H Q→
  Calls P f vs w fun e w'=>∃ v c H' ρ' S',e= .returned v∧Q c H'∧V ρ' S' w' c v∧HRel ρ' S' w' H'∧Ext ρ S w ρ' S' w'∧Sok F S' w'
def Ent(P:Program)(f:FuncId):Prop:=∀ args w,(callFunc f args).run P w= .ok (.enter f args) w
def Ad(F:Nat→Obj→Prop)(P:Program)(C:FuncId→Option Ctr):Prop:=∀ f K,C f=some K→Ent P f∧Good F P f K
def put(ts:List AV)(dst:Option Tmp)(c:AV):List AV:=match dst with
 |some d=>ts.set d c
 |none=>ts
def Ws(K:List AV→Prop)(v:AV):List AV→Nat→Prop
 |[],_=>K []
 |_::xs,0=>K (v::xs)
 |x::xs,n+1=>Ws (fun ys=>K (x::ys)) v xs n
theorem Zf(v:AV):∀ (l:List AV) (n:Nat) (K:List AV→Prop),Ws K v l n=K (l.set n v)
 |[],_,_=>rfl
 |_::xs,0,_=>rfl
 |x::xs,n+1,K=>by rw[Ws,Zf v xs n];rfl
def fcB:Blk→(Blk→Prop)→Prop
 | .dead,K=>K .dead
 | .var cs T,K=>fcL cs fun cs'=>K (.var cs' T)
 | .row sz len get T,K=>K (.row sz len get T)
 | .iter s p,K=>K (.iter s p)
 | .map es,K=>K (.map es)
def fcP:List (Nat × AV)→(List (Nat × AV)→Prop)→Prop
 |[],K=>K []
 |(k,x)::ps,K=>Abk k (fun k'=>fc x fun v=>fcP ps fun ps'=>K ((k',v)::ps')) k Aio
theorem Apc:∀ (l:List (Nat × AV)) (K:List (Nat × AV)→Prop),fcP l K=K l
 |[],_=>rfl
 |(k,x)::ps,K=>by rw[fcP,Vz,sH,Apc ps]
theorem Az8(b:Blk)(K:Blk→Prop):fcB b K=K b:=by
 cases b<;>simp only[fcB]
 exact Xy _ _
def fcH:List Blk→(List Blk→Prop)→Prop
 |[],K=>K []
 |b::bs,K=>fcB b fun b'=>fcH bs fun bs'=>K (b'::bs')
theorem Aix:∀ (H:List Blk) (K:List Blk→Prop),fcH H K=K H
 |[],_=>rfl
 |b::bs,K=>by rw[fcH,Az8,Aix bs]
def Gf(ts:List AV)(dst:Option Tmp)(r:AV)(H:List Blk)(N:St→Prop):Prop:=fcH H fun H'=>match dst with
 |none=>N ⟨ts,H'⟩
 |some d=>fc r fun r'=>Ws (fun ts'=>N ⟨ts',H'⟩) r' ts d
theorem iI(ts:List AV)(dst:Option Tmp)(r:AV)(H:List Blk)(N:St→Prop):Gf ts dst r H N=N ⟨put ts dst r,H⟩:=by
 unfold Gf;rw[Aix];cases dst with
 |none=>rfl
 |some d=>simp only;rw[sH,Zf];rfl
def Ads(st:St)(N:St→Prop):Prop:=fcL st.tmps fun ts=>fcH st.heap fun H=>N ⟨ts,H⟩
theorem Adt(st:St)(N:St→Prop):Ads st N=N st:=by
 unfold Ads;rw[Xy,Aix]
def Zg(TY:TypeId→Option TI)(C:FuncId→Option Ctr)(wr:Tmp→Bool)(o:Oper)(st:St)(N:St→Prop):Prop:=
 match o.op with
 | .call c=>(match c.callee with
  | .value f=>(match evO st.tmps f with
   | .fn g caps=>(match C g with
    |some K=>K (c.args.toList.map (evO st.tmps)++caps) st.heap fun r H'=>Gf st.tmps o.dst r H' N
    |none=>False)
   |_=>False)
  | .builtin b=>G0 TY b c.argTypes.toList (c.args.toList.map (evO st.tmps)) st.heap fun r H'=>Gf st.tmps o.dst r H' N
  |_=>False)
 | .buildSlice t n ps=>fcP (partsE st.tmps ps) fun parts=>Fy TY t n parts st.heap fun r H'=>Gf st.tmps o.dst r H' N
 | .insert t m k x=>fc (evO st.tmps k) fun k'=>fc (evO st.tmps x) fun x'=>Ze TY t (evO st.tmps m) k' x' st.heap fun H'=>Gf st.tmps o.dst .any H' N
 |op=>opA TY (match o.dst with|some d=>wr d|none=>false) op st.tmps st.heap fun r H'=>Gf st.tmps o.dst r H' N
structure RelX (F:Nat→Obj→Prop) (ρ:Nat→Option Nat) (S:Nat→Prop) (st:St) (a:Act) (w:World):Prop extends Rel ρ S st a w where
 sok:Sok F S w
def Reach(F:Nat→Obj→Prop)(ρ:Nat→Option Nat)(S:Nat→Prop)(w:World)(N:St→Prop)(a':Act)(w':World):Prop:=∃ st' ρ' S',N st'∧RelX F ρ' S' st' a' w'∧Ext ρ S w ρ' S' w'
section
variable {F : Nat → Obj → Prop} {P : Program} {TY : TypeId → Option TI} {C : FuncId → Option Ctr} {wr : Tmp → Bool} {ρ : Nat → Option Nat} {S : Nat → Prop} {w : World}
theorem Rel.put{st:St}{a:Act}{H':List Blk}{ρ':Nat→Option Nat}{S':Nat→Prop}{w':World}(h:RelX F ρ S st a w)(hE:Ext ρ S w ρ' S' w')(hs:Sok F S' w')(hH:HRel ρ' S' w' H'){c:AV}{v:Value}(hv:V ρ' S' w' c v)(dst:Option Tmp):
  RelX F ρ' S' ⟨Vc.put st.tmps dst c,H'⟩ (a.put dst v) w':=by
 cases dst with
 |none=>exact⟨⟨h.defers,h.tmps.mono hE,hH⟩,hs⟩
 |some d=>exact⟨⟨h.defers,(h.tmps.mono hE).set hv d,hH⟩,hs⟩
theorem Adu(hTY:TyOk P TY)(hC:Ad F P C)(o:Oper){st:St}{a:Act}(hR:RelX F ρ S st a w){N:St→Prop}{Q:Exit→Act→World→Prop}(h:Zg TY C wr o st N):
  o.wp P a w (Reach F ρ S w N) Q:=by
 have plain:∀ (M:AV→List Blk→Prop),(∀ r H',M r H'→N ⟨Vc.put st.tmps o.dst r,H'⟩)→OpOk P ρ S w (execOp a.eval o) M→o.wp P a w (Reach F ρ S w N) Q:=by
  intro M hM hok;obtain⟨v,w',c,H',ρ',h1,h2,h3,h4,h5⟩:=hok;have hs':Sok F S w':=hR.sok.still h5;unfold Oper.wp;rcases h1 with h1|⟨h1,rfl⟩
  ·rw[h1];exact⟨_,ρ',S,hM _ _ h2,Rel.put hR h5 hs' h4 h3 _,h5⟩
  ·rw[h1];exact⟨_,ρ',S,hM _ _ h2,Rel.put hR h5 hs' h4 h3 _,h5⟩
 unfold Zg at h;simp only[iI,Apc,sH] at h;split at h
 ·rename_i c hop;split at h
  ·rename_i f hf;split at h
   ·rename_i g caps hg;split at h
    ·rename_i K hK;obtain⟨hent,hgood⟩:=hC g K hK;have hfv:=hR.tmps.eval f;rw[hg] at hfv;cases hev:a.eval f<;>rw[hev] at hfv<;>cases hfv
     rename_i vs hl hv;have hrun:(execOp a.eval o).run P w= .ok (.enter g (c.args.map a.eval++vs)) w:=by
      unfold execOp;rw[hop];simp only[resolve,hf,hev,Deferred.ofValue,Sem.run_bind,Sem.run_pure,Result.andThen_ok,invoke,Array.empty_append];exact hent _ w
     unfold Oper.wp;rw[hrun,Oper.upon_enter];refine(hgood ρ S w st.heap _ _ _ hR.sok hR.heap ⟨by simp[hl],fun i c' v' hc' hv'=>?_⟩ h).mono ?_
     ·by_cases hlt:i<c.args.size
      ·rw[List.getElem?_append_left (by simpa using hlt),List.getElem?_map] at hc'
       rw[Array.getElem?_append_left (by simpa using hlt),Array.getElem?_map] at hv'
       rw[show c.args.toList[i]? =c.args[i]? by simp] at hc'
       cases hi:c.args[i]? with
       |none=>rw[hi] at hc';cases hc'
       |some x=>
        rw[hi] at hc' hv';cases hc';cases hv';exact hR.tmps.eval x
      ·rw[List.getElem?_append_right (by simp;omega)] at hc'
       rw[Array.getElem?_append_right (by simp;omega)] at hv'
       simp only[List.length_map,Array.length_toList] at hc';simp only[Array.size_map] at hv';exact hv _ _ _ hc' hv'
     ·rintro e w' ⟨v,c',H',ρ',S',rfl,hN,hv',hH',hE,hs'⟩;exact⟨_,ρ',S',hN,Rel.put hR hE hs' hH' hv' _,hE⟩
    ·exact h.elim
   ·exact h.elim
  ·rename_i b hb;refine plain _ (fun r H' hh=>hh) (Nm hTY hR.sok.lt hR.heap hR.tmps (wr:=false) o (N:=fun r H'=>N ⟨Vc.put st.tmps o.dst r,H'⟩) ?_);rw[hop];simp only[opA,hb];exact h
  ·exact h.elim
 ·rename_i hop;exact plain _ (fun r H' hh=>hh) (Nm hTY hR.sok.lt hR.heap hR.tmps (wr:=false) o (N:=fun r H'=>N ⟨Vc.put st.tmps o.dst r,H'⟩) (by rw[hop];simp only[opA];exact h))
 ·rename_i hop;exact plain _ (fun r H' hh=>hh) (Nm hTY hR.sok.lt hR.heap hR.tmps (wr:=false) o (N:=fun r H'=>N ⟨Vc.put st.tmps o.dst r,H'⟩) (by rw[hop];simp only[opA];exact h))
 ·exact plain _ (fun r H' hh=>hh) (Nm hTY hR.sok.lt hR.heap hR.tmps o (N:=fun r H'=>N ⟨Vc.put st.tmps o.dst r,H'⟩) h)
def Mx(ops:Array Oper)(j:Nat):Option Tmp:=(ops[j]?).bind (·.dst)
def X3(TY:TypeId→Option TI)(C:FuncId→Option Ctr)(wr:Tmp→Bool)(ops:Array Oper):List Oper→St→(St→Prop)→Prop
 |[],st,Q=>Q st
 |o::rest,st,Q=>
  match o.guard with
  |none=>Zg TY C wr o st fun st'=>X3 TY C wr ops rest st' Q
  |some (j,want)=>match Mx ops j with
   |none=>False
   |some t=>match st.tmps[t]? with
    |some (.bool b)=>(match b with
     |true=>(match want with
      |true=>Ws (fun ts=>Zg TY C wr o ⟨ts,st.heap⟩ fun st'=>X3 TY C wr ops rest st' Q) (.bool true) st.tmps t
      |false=>Gf (st.tmps.set t (.bool true)) o.dst (.tup []) st.heap fun st'=>X3 TY C wr ops rest st' Q)
     |false=>(match want with
      |false=>Ws (fun ts=>Zg TY C wr o ⟨ts,st.heap⟩ fun st'=>X3 TY C wr ops rest st' Q) (.bool false) st.tmps t
      |true=>Gf (st.tmps.set t (.bool false)) o.dst (.tup []) st.heap fun st'=>X3 TY C wr ops rest st' Q))
    |some (.tup cs)=>(match cs with
     |[]=>Gf (st.tmps.set t (.tup [])) o.dst (.tup []) st.heap fun st'=>X3 TY C wr ops rest st' Q
     |_=>False)
    |_=>False
theorem Ga{α:Type}{l:List α}{t:Nat}{x:α}(h:l[t]? =some x):l.set t x=l:=by
 apply List.ext_getElem?
 intro i;rw[List.getElem?_set];split
 ·rename_i hti;subst hti;split
  ·exact h.symm
  ·rename_i hn;rw[List.getElem?_eq_none (by omega)] at h;cases h
 ·rfl
theorem Reach.trans{N:St→Prop}{ρ1:Nat→Option Nat}{S1:Nat→Prop}{w1:World}(hE:Ext ρ S w ρ1 S1 w1){a':Act}{w':World}(h:Reach F ρ1 S1 w1 N a' w'):Reach F ρ S w N a' w':=by
 obtain⟨st',ρ',S',h1,h2,h3⟩:=h;exact⟨st',ρ',S',h1,h2,hE.trans h3⟩
theorem G1{ops:Array Oper}{j t:Nat}{b:Bool}{ts:List AV}{tm:Array Value}(ht:Mx ops j=some t)(h:TRel ρ S w ts tm)(hb:ts[t]? =some (.bool b)):yielded ops tm j=some b:=by
 have hlt:t<tm.size:=by
  rw[←h.1];rcases Nat.lt_or_ge t ts.length with h'|h'
  ·exact h'
  ·rw[List.getElem?_eq_none h'] at hb;cases hb
 have hv:=h.2 t _ tm[t] hb (by simp[hlt])
 have:=hv.boolR;unfold yielded;unfold Mx at ht;rw[ht];simp[hlt,this]
theorem Amt{v:Value}(h:V ρ S w (.tup []) v):v=undef:=by
 cases h with
 |tup _ vs hl _=>
  have:vs.size=0:=by simpa using hl.symm
  rw[Array.eq_empty_of_size_eq_zero this];rfl
theorem Na{ops:Array Oper}{j t:Nat}{ts:List AV}{tm:Array Value}(ht:Mx ops j=some t)(h:TRel ρ S w ts tm)(hb:ts[t]? =some (.tup [])):yielded ops tm j=none:=by
 have hlt:t<tm.size:=by
  rw[←h.1];rcases Nat.lt_or_ge t ts.length with h'|h'
  ·exact h'
  ·rw[List.getElem?_eq_none h'] at hb;cases hb
 have:=Amt (h.2 t _ tm[t] hb (by simp[hlt]))
 unfold yielded;unfold Mx at ht;rw[ht];simp[hlt,this,undef]
theorem Nv(hTY:TyOk P TY)(hC:Ad F P C)(ops:Array Oper){N:St→Prop}{Q:Exit→Act→World→Prop}:∀ (l:List Oper) {ρ:Nat→Option Nat} {S:Nat→Prop} {w:World} {st:St} {a:Act},RelX F ρ S st a w→
  (∀ a' w',Reach F ρ S w N a' w'→Q .normal a' w')→X3 TY C wr ops l st N→wpList P ops Q l a w
 |[],ρ,S,w,st,a,hR,hQ,h=>wpList_nil (hQ a w ⟨st,ρ,S,h,hR,Ext.refl _ _ _⟩)
 |o::rest,ρ,S,w,st,a,hR,hQ,h=>by
  have go:∀ (st1:St),RelX F ρ S st1 a w→Zg TY C wr o st1 (fun st'=>X3 TY C wr ops rest st' N)→o.wp P a w (wpList P ops Q rest) Q:=by
   intro st1 hR1 hs;refine Oper.wp_mono (fun a' w' hr=>?_) (Adu (Q:=Q) hTY hC o hR1 hs);obtain⟨st',ρ',S',h1,h2,h3⟩:=hr;exact Nv hTY hC ops rest h2 (fun a2 w2 h4=>hQ a2 w2 (h4.trans h3)) h1
  have skip:∀ (st1:St),RelX F ρ S st1 a w→X3 TY C wr ops rest ⟨Vc.put st1.tmps o.dst (.tup []),st1.heap⟩ N→wpList P ops Q rest (a.put o.dst undef) w:=by
   intro st1 hR1 hs;exact Nv hTY hC ops rest (Rel.put hR1 (Ext.refl _ _ _) hR1.sok hR1.heap (.tup _ _ rfl (fun i c v hc=>by simp at hc)) _) hQ hs
  rw[X3] at h;simp only[iI,Zf] at h;unfold wpList;cases hg:o.guard with
  |none=>
   rw[hg] at h;rw[if_pos (by simp[Region.wanted,hg])]
   exact .inl (go st hR h)
  |some jw=>
   obtain⟨j,want⟩:=jw;rw[hg] at h;simp only at h;split at h
   ·exact h.elim
   ·rename_i t ht;split at h
    ·rename_i b hb;have hy:=G1 ht hR.tmps hb;split at h
     ·rw[Ga hb] at h;split at h
      ·rw[if_pos (by simp[Region.wanted,hg,hy])]
       exact .inl (go st hR h)
      ·rw[if_neg (by simp[Region.wanted,hg,hy])]
       exact skip st hR h
     ·rw[Ga hb] at h;split at h
      ·rw[if_pos (by simp[Region.wanted,hg,hy])]
       exact .inl (go st hR h)
      ·rw[if_neg (by simp[Region.wanted,hg,hy])]
       exact skip st hR h
    ·rename_i cs hb;split at h
     ·rw[Ga hb] at h;have hy:=Na ht hR.tmps hb;rw[if_neg (by simp[Region.wanted,hg,hy])]
      exact skip st hR h
     ·exact h.elim
    ·exact h.elim
end
end Go.Vc
namespace Go.Vc
open Go
mutual
def AV.under(n:Nat):AV→Bool
 | .ptr id _=>decide (id<n)
 | .eptr id _ _ _=>decide (id<n)
 | .osl id _ _ _ _=>decide (id<n)
 | .map id=>decide (id<n)
 | .iter id=>decide (id<n)
 | .agg cs=>Fa n cs
 | .tup cs=>Fa n cs
 | .fn _ cs=>Fa n cs
 | .iface _ v=>v.under n
 |_=>true
def Fa(n:Nat):List AV→Bool
 |[]=>true
 |c::cs=>c.under n&&Fa n cs
end
mutual
def AV.flat:AV→Bool
 | .ptr .. =>false
 | .eptr .. =>false
 | .rptr .. =>false
 | .sl .. =>false
 | .osl .. =>false
 | .map _=>false
 | .iter _=>false
 | .agg cs=>sP cs
 | .tup cs=>sP cs
 | .fn _ cs=>sP cs
 | .iface _ v=>v.flat
 |_=>true
def sP:List AV→Bool
 |[]=>true
 |c::cs=>c.flat&&sP cs
end
theorem Dh{n:Nat}:∀ {cs:List AV},Fa n cs=true→∀ (i:Nat) (c:AV),cs[i]? =some c→c.under n=true
 |[],_,i,c,h=>by simp at h
 |x::xs,hb,i,c,h=>by
  rw[Fa,Bool.and_eq_true] at hb;cases i with
  |zero=>simp at h;subst h;exact hb.1
  |succ i=>simp at h;exact Dh hb.2 i c h
theorem V1:∀ {cs:List AV},sP cs=true→∀ (i:Nat) (c:AV),cs[i]? =some c→c.flat=true
 |[],_,i,c,h=>by simp at h
 |x::xs,hb,i,c,h=>by
  rw[sP,Bool.and_eq_true] at hb;cases i with
  |zero=>simp at h;subst h;exact hb.1
  |succ i=>simp at h;exact V1 hb.2 i c h
section
variable {ρ : Nat → Option Nat} {S : Nat → Prop} {w : World}
theorem V.other{a:AV}{v:Value}(h:V ρ S w a v):∀ {n:Nat} {ρ':Nat→Option Nat},a.under n=true→(∀ i b,i<n→ρ i=some b→ρ' i=some b)→V ρ' S w a v:=by
 induction h with
 |any v=>exact fun _ _=>.any v
 |bool b=>exact fun _ _=>.bool b
 |int k n h1 h2=>exact fun _ _=>.int k n h1 h2
 |str l s h1 h2=>exact fun _ _=>.str l s h1 h2
 |nilp=>exact fun _ _=>.nilp
 |ptr id j b hb=>exact fun hn h=>.ptr id j b (h _ _ (by simpa[AV.under] using hn) hb)
 |eptr id sz e j b hb=>exact fun hn h=>.eptr id sz e j b (h _ _ (by simpa[AV.under] using hn) hb)
 |rptr cs j b o f hs hb hc hv _=>exact fun _ _=>.rptr cs j b o f hs hb hc hv
 |nilsl=>exact fun _ _=>.nilsl
 |sln clip sz get ao=>exact fun _ _=>.sln clip sz get ao
 |sl clip sz len get b o cap f hs hl hm hcl hz hc hv _=>exact fun _ _=>.sl clip sz len get b o cap f hs hl hm hcl hz hc hv
 |osl id sz off len cap b o cp hb hl hm ho hx hcap=>exact fun hn h=>.osl id sz off len cap b o cp (h _ _ (by simpa[AV.under] using hn) hb) hl hm ho hx hcap
 |agg cs vs hl _ ih=>exact fun hn h=>.agg cs vs hl fun i c v hc hv=>ih i c v hc hv (Dh (by simpa[AV.under] using hn) i c hc) h
 |tup cs vs hl _ ih=>exact fun hn h=>.tup cs vs hl fun i c v hc hv=>ih i c v hc hv (Dh (by simpa[AV.under] using hn) i c hc) h
 |fn f cs vs hl _ ih=>exact fun hn h=>.fn f cs vs hl fun i c v hc hv=>ih i c v hc hv (Dh (by simpa[AV.under] using hn) i c hc) h
 |nilfn=>exact fun _ _=>.nilfn
 |nilmap=>exact fun _ _=>.nilmap
 |map id b hb=>exact fun hn h=>.map id b (h _ _ (by simpa[AV.under] using hn) hb)
 |nilif=>exact fun _ _=>.nilif
 |iface t v a _ ih=>exact fun hn h=>.iface t v a (ih (by simpa[AV.under] using hn) h)
 |iter id b hb=>exact fun hn h=>.iter id b (h _ _ (by simpa[AV.under] using hn) hb)
theorem V.pure{a:AV}{v:Value}(h:V ρ S w a v)(hb:a.under 0=true):V (fun _=>none) S w a v:=h.other hb fun i b hi=>(by omega)
theorem V.flatR{a:AV}{v:Value}(h:V ρ S w a v):∀ {ρ':Nat→Option Nat} {S':Nat→Prop} {w':World},a.flat=true→V ρ' S' w' a v:=by
 induction h with
 |any v=>exact fun _=>.any v
 |bool b=>exact fun _=>.bool b
 |int k n h1 h2=>exact fun _=>.int k n h1 h2
 |str l s h1 h2=>exact fun _=>.str l s h1 h2
 |nilp=>exact fun _=>.nilp
 |ptr id j b hb=>exact fun hn=>(by simp[AV.flat] at hn)
 |eptr id sz e j b hb=>exact fun hn=>(by simp[AV.flat] at hn)
 |rptr cs j b o f hs hb hc hv _=>exact fun hn=>(by simp[AV.flat] at hn)
 |nilsl=>exact fun _=>.nilsl
 |sln clip sz get ao=>exact fun hn=>(by simp[AV.flat] at hn)
 |sl clip sz len get b o cap f hs hl hm hcl hz hc hv _=>exact fun hn=>(by simp[AV.flat] at hn)
 |osl id sz off len cap b o cp hb hl hm ho hx hcap=>exact fun hn=>(by simp[AV.flat] at hn)
 |agg cs vs hl _ ih=>exact fun hn=>.agg cs vs hl fun i c v hc hv=>ih i c v hc hv (V1 (by simpa[AV.flat] using hn) i c hc)
 |tup cs vs hl _ ih=>exact fun hn=>.tup cs vs hl fun i c v hc hv=>ih i c v hc hv (V1 (by simpa[AV.flat] using hn) i c hc)
 |fn f cs vs hl _ ih=>exact fun hn=>.fn f cs vs hl fun i c v hc hv=>ih i c v hc hv (V1 (by simpa[AV.flat] using hn) i c hc)
 |nilfn=>exact fun _=>.nilfn
 |nilmap=>exact fun _=>.nilmap
 |map id b hb=>exact fun hn=>(by simp[AV.flat] at hn)
 |nilif=>exact fun _=>.nilif
 |iface t v a _ ih=>exact fun hn=>.iface t v a (ih (by simpa[AV.flat] using hn))
 |iter id b hb=>exact fun hn=>(by simp[AV.flat] at hn)
end
mutual
def leA(σ:Nat→Nat):AV→AV→Prop
 | .agg cs,y=>(match y with| .any=>True| .agg ds=>leL σ cs ds|_=>False)
 | .tup cs,y=>(match y with| .any=>True| .tup ds=>leL σ cs ds|_=>False)
 | .fn f cs,y=>(match y with| .any=>True| .fn g ds=>f=g∧leL σ cs ds|_=>False)
 | .iface t v,y=>(match y with| .any=>True| .iface t' v'=>t=t'∧leA σ v v'|_=>False)
 | .rptr cs j,y=>(match y with| .any=>True| .rptr ds k=>cs=ds∧j=k|_=>False)
 | .sl c z l g,y=>(match y with| .any=>True| .sl c' z' l' g'=>z=z'∧l=l'∧(c'=true→c=true)∧∀ e,e<l→g e=g' e|_=>False)
 | .nilsl,y=>(match y with| .any=>True| .nilsl=>True| .sl _ _ l _=>l=0|_=>False)
 | .osl id z o l cap,y=>(match y with| .any=>True| .osl id' z' o' l' cap'=>id=σ id'∧z=z'∧o=o'∧l=l'∧(cap'=none∨cap=cap')|_=>False)
 | .ptr id j,y=>(match y with| .any=>True| .ptr id' j'=>id=σ id'∧j=j'|_=>False)
 | .eptr id sz e j,y=>(match y with| .any=>True| .eptr id' sz' e' j'=>id=σ id'∧sz=sz'∧e=e'∧j=j'|_=>False)
 | .map id,y=>(match y with| .any=>True| .map id'=>id=σ id'|_=>False)
 | .iter id,y=>(match y with| .any=>True| .iter id'=>id=σ id'|_=>False)
 | .int k n,y=>(match y with| .any=>True| .int k' n'=>k=k'∧n=n'|_=>False)
 | .str l,y=>(match y with| .any=>True| .str l'=>l=l'|_=>False)
 | .bool b,y=>(match y with| .any=>True| .bool b'=>b=b'|_=>False)
 | .any,y=>(match y with| .any=>True|_=>False)
 | .nilp,y=>(match y with| .any=>True| .nilp=>True|_=>False)
 | .nilfn,y=>(match y with| .any=>True| .nilfn=>True|_=>False)
 | .nilmap,y=>(match y with| .any=>True| .nilmap=>True|_=>False)
 | .nilif,y=>(match y with| .any=>True| .nilif=>True|_=>False)
def leL(σ:Nat→Nat):List AV→List AV→Prop
 |[],ds=>(match ds with|[]=>True|_=>False)
 |c::cs,ds=>(match ds with|d::ds=>leA σ c d∧leL σ cs ds|[]=>False)
end
theorem Kv{σ:Nat→Nat}:∀ {cs ds:List AV},leL σ cs ds→cs.length=ds.length
 |[],[],_=>rfl
 |[],_::_,h=>by simp[leL] at h
 |_::_,[],h=>by simp[leL] at h
 |c::cs,d::ds,h=>by
  simp only[leL] at h;simp[Kv h.2]
theorem Sa{σ:Nat→Nat}:∀ {cs ds:List AV},leL σ cs ds→∀ (i:Nat) (c d:AV),cs[i]? =some c→ds[i]? =some d→leA σ c d
 |[],_,_,i,c,d,h,_=>by simp at h
 |_::_,[],h,_,_,_,_,_=>by simp[leL] at h
 |x::xs,y::ys,h,i,c,d,hc,hd=>by
  simp only[leL] at h;cases i with
  |zero=>simp at hc hd;subst hc;subst hd;exact h.1
  |succ i=>simp at hc hd;exact Sa h.2 i c d hc hd
section
variable {ρ : Nat → Option Nat} {S : Nat → Prop} {w : World}
theorem V.le{σ:Nat→Nat}{n:Nat}{ρ':Nat→Option Nat}(hσ:∀ i b,i<n→ρ (σ i)=some b→ρ' i=some b){x:AV}{v:Value}(h:V ρ S w x v):
  ∀ {y:AV},leA σ x y→y.under n=true→V ρ' S w y v:=by
 have lst:∀ (cs:List AV) (vs:Array Value),cs.length=vs.size→(∀ (i:Nat) (c:AV) (v:Value),cs[i]? =some c→vs[i]? =some v→∀ {y:AV},leA σ c y→y.under n=true→V ρ' S w y v)→
   ∀ ds,leL σ cs ds→Fa n ds=true→ds.length=vs.size∧∀ (i:Nat) (d:AV) (v:Value),ds[i]? =some d→vs[i]? =some v→V ρ' S w d v:=by
  intro cs vs hl ih ds hle hb;have h1:=Kv hle;refine⟨by omega,fun i d v hd hv=>?_⟩
  have hi:i<cs.length:=by
   rcases Nat.lt_or_ge i ds.length with h'|h'
   ·omega
   ·rw[List.getElem?_eq_none h'] at hd;cases hd
  exact ih i cs[i] v (List.getElem?_eq_getElem hi) hv (Sa hle i _ _ (List.getElem?_eq_getElem hi) hd) (Dh hb i d hd)
 induction h<;>intro y hle hb<;>(cases y<;>simp only[leA] at hle<;>first|exact hle.elim|exact .any _|skip)
 case bool.bool=>subst hle;exact .bool _
 case int.int h1 h2 k n=>obtain⟨rfl,rfl⟩:=hle;exact .int _ _ h1 h2
 case str.str h1 h2 l=>subst hle;exact .str _ _ h1 h2
 case nilp.nilp=>exact .nilp
 case ptr.ptr hb' id' j'=>obtain⟨rfl,rfl⟩:=hle;exact .ptr _ _ _ (hσ _ _ (by simpa[AV.under] using hb) hb')
 case eptr.eptr hb' id' sz' e' j'=>obtain⟨rfl,rfl,rfl,rfl⟩:=hle;exact .eptr _ _ _ _ _ (hσ _ _ (by simpa[AV.under] using hb) hb')
 case rptr.rptr hs hb' hc hv _ ds k=>obtain⟨rfl,rfl⟩:=hle;exact .rptr _ _ _ _ _ hs hb' hc hv
 case nilsl.nilsl=>exact .nilsl
 case nilsl.sl c z l g=>subst hle;exact .sln _ _ _ _
 case sln.sl clip sz get c' z' l' g'=>obtain⟨_,rfl,_⟩:=hle;exact .sln _ _ _ _
 case sl.sl hs hl hm hcl hz hc hv _ c' z' l' g'=>
  obtain⟨rfl,rfl,h1,h2⟩:=hle;refine .sl _ _ _ _ _ _ _ _ hs hl hm (fun h=>hcl (h1 h)) (fun e he=>by rw[←h2 e he];exact hz e he) hc (fun e j c he hc'=>hv e j c he (by rw[h2 e he];exact hc'))
 case osl.osl hb' hl hm ho hx hcap id' z' o' l' cap'=>
  obtain⟨rfl,rfl,rfl,rfl,h5⟩:=hle;refine .osl _ _ _ _ _ _ _ _ (hσ _ _ (by simpa[AV.under] using hb) hb') hl hm ho hx (fun c hc=>?_)
  rcases h5 with rfl|rfl
  ·cases hc
  ·exact hcap c hc
 case agg.agg cs vs hl hv ih ds=>
  obtain⟨h1,h2⟩:=lst cs vs hl (fun i c v hc hv=>ih i c v hc hv hσ) ds hle (by simpa[AV.under] using hb)
  exact .agg _ _ h1 h2
 case tup.tup cs vs hl hv ih ds=>
  obtain⟨h1,h2⟩:=lst cs vs hl (fun i c v hc hv=>ih i c v hc hv hσ) ds hle (by simpa[AV.under] using hb)
  exact .tup _ _ h1 h2
 case fn.fn f cs vs hl hv ih g ds=>
  obtain⟨rfl,hle⟩:=hle;obtain⟨h1,h2⟩:=lst cs vs hl (fun i c v hc hv=>ih i c v hc hv hσ) ds hle (by simpa[AV.under] using hb)
  exact .fn _ _ _ h1 h2
 case nilfn.nilfn=>exact .nilfn
 case nilmap.nilmap=>exact .nilmap
 case map.map hb' id'=>subst hle;exact .map _ _ (hσ _ _ (by simpa[AV.under] using hb) hb')
 case nilif.nilif=>exact .nilif
 case iface.iface ih t' v'=>obtain⟨rfl,hle⟩:=hle;exact .iface _ _ _ (ih hσ hle (by simpa[AV.under] using hb))
 case iter.iter hb' id'=>subst hle;exact .iter _ _ (hσ _ _ (by simpa[AV.under] using hb) hb')
end
end Go.Vc
namespace Go.Vc
open Go
def sig(n0:Nat)(l:List Nat)(i:Nat):Nat:=match decide (i<n0) with
 |true=>i
 |false=>l.getD (i - n0) i
def Aiy(σ:Nat→Nat)(n:Nat):List (AV × AV)→List (AV × AV)→Prop
 |[],[]=>True
 |p::es,q::fs=>leA σ p.1 q.1∧(q.1.under n=true∧(leA σ p.2 q.2∧(q.2.under n=true∧Aiy σ n es fs)))
 |_,_=>False
theorem Adv{σ:Nat→Nat}{n:Nat}:∀ {es fs:List (AV × AV)},Aiy σ n es fs→es.length=fs.length∧∀ (i:Nat) (p q:AV × AV),es[i]? =some p→fs[i]? =some q→(leA σ p.1 q.1∧q.1.under n=true)∧(leA σ p.2 q.2∧q.2.under n=true)
 |[],[],_=>⟨rfl,fun i p q h=>by simp at h⟩
 |p::es,q::fs,h=>by
  obtain⟨a1,a2,a3,a4,a5⟩:=h;obtain⟨h1,h2⟩:=Adv a5;refine⟨by simp[h1],fun i p' q' hp hq=>?_⟩
  cases i with
  |zero=>simp at hp hq;subst hp;subst hq;exact⟨⟨a1,a2⟩,a3,a4⟩
  |succ i=>exact h2 i p' q' (by simpa using hp) (by simpa using hq)
 |[],_::_,h=>h.elim
 |_::_,[],h=>h.elim
def dU(σ:Nat→Nat)(n:Nat):Blk→Blk→Prop
 | .var cs T,y=>(match y with| .dead=>True| .var ds T'=>(match T' with|none=>leL σ cs ds∧Fa n ds=true|some t=>leL σ cs ds∧(Fa n ds=true∧T=some t))|_=>False)
 | .row sz len get T,y=>(match y with| .dead=>True| .row sz' len' get' T'=>(match T' with|none=>sz=sz'∧len'≤len∧∀ e,e<len'→get e=get' e∧Fa 0 (get' e)=true|some t=>(sz=sz'∧len'≤len∧∀ e,e<len'→get e=get' e∧Fa 0 (get' e)=true)∧T=some t)|_=>False)
 | .iter s p,y=>(match y with| .dead=>True| .iter s' p'=>s=s'∧p=p'|_=>False)
 | .map es,y=>(match y with| .dead=>True| .map es'=>Aiy σ n es es'|_=>False)
 | .dead,y=>(match y with| .dead=>True|_=>False)
def leH(σ:Nat→Nat)(n:Nat)(H:List Blk):Nat→List Blk→Prop
 |_,[]=>True
 |i,b::bs=>(match b with
  | .dead=>leH σ n H (i+1) bs
  |b=>(match H[σ i]? with|some x=>dU σ n x b∧leH σ n H (i+1) bs|none=>False))
def rF(σ:Nat→Nat):Nat→List Blk→List Nat
 |_,[]=>[]
 |i,b::bs=>(match b with| .dead=>rF σ (i+1) bs|_=>σ i::rF σ (i+1) bs)
def nodupB:List Nat→Bool
 |[]=>true
 |x::xs=> !xs.contains x&&nodupB xs
def sQ(n:Nat)(keep:List Nat)(vs:List AV):List AV:=(keep.zip vs).foldl (fun ts p=>ts.set p.1 p.2) (List.replicate n .any)
def Aiz(n0:Nat)(l:List Nat)(st:St)(keep:List Nat)(vs:List AV)(hp:List Blk):Prop:=
 (nodupB (rF (sig n0 l) 0 hp)=true∧n0≤hp.length∧Fa hp.length vs=true)∧leL (sig n0 l) (keep.map fun t=>st.tmps.getD t .any) vs∧leH (sig n0 l) hp.length st.heap 0 hp
theorem Adw{l:List Nat}(h:nodupB l=true):l.Nodup:=by
 induction l with
 |nil=>exact List.nodup_nil
 |cons x xs ih=>
  rw[nodupB,Bool.and_eq_true] at h;rw[List.nodup_cons];exact⟨by simpa using h.1,ih h.2⟩
theorem iJ{σ:Nat→Nat}{n:Nat}{H:List Blk}:∀ {i:Nat} {bs:List Blk},leH σ n H i bs→∀ (k:Nat) (b:Blk),bs[k]? =some b→b.live=true→∃ x,H[σ (i+k)]? =some x∧dU σ n x b
 |_,[],_,k,b,h,_=>by simp at h
 |i,b0::bs,hle,k,b,h,hl=>by
  cases k with
  |zero=>
   simp at h;subst h
   cases b0<;>simp only[leH] at hle<;>first|(cases hl;done)|(split at hle<;>first|exact⟨_,by assumption,hle.1⟩|exact hle.elim)
  |succ k=>
   have:leH σ n H (i+1) bs:=by
    cases b0<;>simp only[leH] at hle<;>first|exact hle|(split at hle<;>first|exact hle.2|exact hle.elim)
   have:=iJ this k b (by simpa using h) hl
   rw[show i+(k+1)=i+1+k by omega]
   exact this
theorem Adx{σ:Nat→Nat}:∀ {i:Nat} {bs:List Blk} (k:Nat) (b:Blk),bs[k]? =some b→b.live=true→σ (i+k) ∈ rF σ i bs
 |_,[],k,b,h,_=>by simp at h
 |i,b0::bs,k,b,h,hl=>by
  cases k with
  |zero=>
   simp at h;subst h
   cases b0<;>first|(cases hl;done)|simp[rF]
  |succ k=>
   have:=Adx (σ:=σ) (i:=i+1) k b (by simpa using h) hl
   rw[show i+(k+1)=i+1+k by omega]
   cases b0<;>simp only[rF]<;>first|exact this|exact List.mem_cons_of_mem _ this
theorem Ady{σ:Nat→Nat}:∀ {i:Nat} {bs:List Blk},(rF σ i bs).Nodup→∀ (k k':Nat) (b b':Blk),bs[k]? =some b→bs[k']? =some b'→b.live=true→b'.live=true→σ (i+k)=σ (i+k')→k=k'
 |_,[],_,k,_,b,_,h,_,_,_,_=>by simp at h
 |i,b0::bs,hn,k,k',b,b',h,h',hl,hl',he=>by
  have rest:(rF σ (i+1) bs).Nodup:=by
   cases b0<;>simp only[rF] at hn<;>first|exact hn|exact(List.nodup_cons.1 hn).2
  have zero:∀ (k:Nat) (b b':Blk),b0=b→bs[k]? =some b'→b.live=true→b'.live=true→σ i=σ (i+(k+1))→False:=by
   intro k b b' e h' hl hl' he;subst e;have hm:=Adx (σ:=σ) (i:=i+1) k b' h' hl';rw[show i+1+k=i+(k+1) by omega,←he] at hm
   cases b0<;>simp only[rF] at hn<;>first|(cases hl;done)|exact(List.nodup_cons.1 hn).1 hm
  cases k with
  |zero=>cases k' with
   |zero=>rfl
   |succ k'=>exact(zero k' b b' (by simpa using h) (by simpa using h') hl hl' he).elim
  |succ k=>cases k' with
   |zero=>exact(zero k b' b (by simpa using h') (by simpa using h) hl' hl he.symm).elim
   |succ k'=>
    have:=Ady rest k k' b b' (by simpa using h) (by simpa using h') hl hl' (by rw[show i+1+k=i+(k+1) by omega,show i+1+k'=i+(k'+1) by omega];exact he)
    omega
theorem Abs(n:Nat)(keep:List Nat)(vs:List AV):(sQ n keep vs).length=n:=by
 unfold sQ;have:∀ (l:List (Nat × AV)) (ts:List AV),(l.foldl (fun ts p=>ts.set p.1 p.2) ts).length=ts.length:=by
  intro l;induction l with
  |nil=>intro ts;rfl
  |cons p l ih=>intro ts;rw[List.foldl_cons,ih,List.length_set]
 rw[this];simp
theorem Amu{n:Nat}{keep:List Nat}{vs:List AV}{i:Nat}{c:AV}(h:(sQ n keep vs)[i]? =some c):c= .any∨∃ k:Nat,keep[k]? =some i∧vs[k]? =some c:=by
 unfold sQ at h;have:∀ (l:List (Nat × AV)) (ts:List AV),(l.foldl (fun ts p=>ts.set p.1 p.2) ts)[i]? =some c→ts[i]? =some c∨(i,c) ∈ l:=by
  intro l;induction l with
  |nil=>intro ts h;exact .inl h
  |cons p l ih=>
   intro ts h;rw[List.foldl_cons] at h;rcases ih _ h with h1|h1
   ·rw[List.getElem?_set] at h1;split at h1
    ·rename_i hp;split at h1
     ·cases h1;exact .inr (by rw[←hp];exact List.mem_cons_self)
     ·cases h1
    ·exact .inl h1
   ·exact .inr (List.mem_cons_of_mem _ h1)
 rcases this _ _ h with h1|h1
 ·rw[List.getElem?_replicate] at h1;split at h1
  ·cases h1;exact .inl rfl
  ·cases h1
 ·obtain⟨k,hk⟩:=List.getElem?_of_mem h1;rw[List.getElem?_zip_eq_some] at hk;exact .inr ⟨k,hk.1,hk.2⟩
section
variable {F : Nat → Obj → Prop} {P : Program} {TY : TypeId → Option TI} {ρ : Nat → Option Nat} {S : Nat → Prop} {w : World}
def rG(ρ:Nat→Option Nat)(σ:Nat→Nat)(n:Nat):Nat→Option Nat:=fun i=>if i<n then ρ (σ i) else none
theorem BRel.le{σ:Nat→Nat}{n i:Nat}{x y:Blk}(hi:i<n)(h:BRel ρ S w (σ i) x)(hle:dU σ n x y):BRel (rG ρ σ n) S w i y:=by
 have hσ:∀ i b,i<n→ρ (σ i)=some b→rG ρ σ n i=some b:=fun i b hi h=>by unfold rG;rw[if_pos hi];exact h
 have back:∀ b,rG ρ σ n i=some b→ρ (σ i)=some b:=fun b h=>by unfold rG at h;rw[if_pos hi] at h;exact h
 cases x<;>cases y<;>simp only[dU] at hle<;>first|exact hle.elim|exact trivial|skip
 case var.var cs T ds T'=>
  have hT:∀ x,∃ x',Qr T' x'=Qr T x:=fun x=>by
   cases T' with
   |none=>exact⟨_,rfl⟩
   |some t=>rw[hle.2.2];exact⟨0,rfl⟩
  have hle:leL σ cs ds∧Fa n ds=true:=by
   cases T' with
   |none=>exact hle
   |some t=>exact⟨hle.1,hle.2.1⟩
  intro b hb;obtain⟨h1,arr,T1,fr,h2,h3,h4,h5⟩:=h b (back b hb);have hl:=Kv hle.1;obtain⟨x',hx'⟩:=hT T1;refine⟨h1,arr,x',fr,by rw[hx'];exact h2,by omega,h4,fun j c v hc hv=>?_⟩
  have hj:j<cs.length:=by
   rcases Nat.lt_or_ge j ds.length with h'|h'
   ·omega
   ·rw[List.getElem?_eq_none h'] at hc;cases hc
  exact(h5 j cs[j] v (List.getElem?_eq_getElem hj) hv).le hσ (Sa hle.1 j _ _ (List.getElem?_eq_getElem hj) hc) (Dh hle.2 j c hc)
 case row.row sz len get T sz' len' get' T'=>
  have hT:∀ x,∃ x',Qr T' x'=Qr T x:=fun x=>by
   cases T' with
   |none=>exact⟨_,rfl⟩
   |some t=>rw[hle.2];exact⟨0,rfl⟩
  have hle:sz=sz'∧len'≤len∧∀ e,e<len'→get e=get' e∧Fa 0 (get' e)=true:=by
   cases T' with
   |none=>exact hle
   |some t=>exact hle.1
  obtain⟨rfl,hll,hg⟩:=hle;intro b hb;obtain⟨h1,arr,T1,fr,h2,h3,h4,h5,h6⟩:=h b (back b hb);obtain⟨x',hx'⟩:=hT T1;refine⟨h1,arr,x',fr,by rw[hx'];exact h2,Nat.le_trans (Nat.mul_le_mul_right _ hll) h3,h4,fun e he=>by rw[←(hg e he).1];exact h5 e (by omega),fun e j c v he hc hv=>?_⟩
  have h7:=h6 e j c v (by omega) (by rw[(hg e he).1];exact hc) hv
  exact h7.other (Dh (hg e he).2 j c hc) (fun i b hi=>(by omega))
 case iter.iter s p s' p'=>
  obtain⟨rfl,rfl⟩:=hle;exact fun b hb=>h b (back b hb)
 case map.map es fs=>
  obtain⟨hlen,hp⟩:=Adv hle;intro b hb;obtain⟨h1,es',clock,h2,h3,h4⟩:=h b (back b hb);refine⟨h1,es',clock,h2,by omega,fun i k x e hi he=>?_⟩
  have hlt:i<es.length:=by
   have:i<fs.length:=by
    rcases Nat.lt_or_ge i fs.length with h'|h'
    ·exact h'
    ·rw[List.getElem?_eq_none h'] at hi;cases hi
   omega
  obtain⟨⟨g1,g2⟩,g3,g4⟩:=hp i es[i] (k,x) (List.getElem?_eq_getElem hlt) hi;obtain⟨h5,h6⟩:=h4 i es[i].1 es[i].2 e (List.getElem?_eq_getElem hlt) he;exact⟨h5.le hσ g1 g2,h6.le hσ g3 g4⟩
theorem Adz{ρe:Nat→Option Nat}{Se:Nat→Prop}{we:World}{n0:Nat}(hn:∀ i b,ρe i=some b→i<n0){st:St}{a:Act}(hE:Ext ρe Se we ρ S w)(hR:RelX F ρ S st a w)
  {l:List Nat} {keep:List Nat} {vs:List AV} {hp:List Blk} (h:Aiz n0 l st keep vs hp):∃ ρ',RelX F ρ' S ⟨sQ st.tmps.length keep vs,hp⟩ a w∧Ext ρe Se we ρ' S w:=by
 obtain⟨⟨h1,h2,h3⟩,h4,h5⟩:=h;have hnd:=Adw h1;have hσ:∀ i b,i<hp.length→ρ (sig n0 l i)=some b→rG ρ (sig n0 l) hp.length i=some b:=fun i b hi h=>by unfold rG;rw[if_pos hi];exact h
 have back:∀ i b,rG ρ (sig n0 l) hp.length i=some b→i<hp.length∧ρ (sig n0 l i)=some b:=fun i b h=>by
  unfold rG at h;split at h
  ·exact⟨by assumption,h⟩
  ·cases h
 refine⟨rG ρ (sig n0 l) hp.length,⟨⟨hR.defers,⟨by rw[Abs];exact hR.tmps.1,fun i c v hc hv=>?_⟩,⟨fun i j bi bj b hi hj li lj ri rj=>?_,fun i b hi=>?_,fun i b hi=>?_⟩⟩,hR.sok⟩,?_⟩
 ·rcases Amu hc with rfl|⟨k,hk1,hk2⟩
  ·exact .any _
  ·have hkv:k<vs.length:=by
    rcases Nat.lt_or_ge k vs.length with h'|h'
    ·exact h'
    ·rw[List.getElem?_eq_none h'] at hk2;cases hk2
   have hx:(keep.map fun t=>st.tmps.getD t .any)[k]? =some (st.tmps.getD i .any):=(by rw[List.getElem?_map,hk1];rfl);refine V.le (x:=st.tmps.getD i .any) hσ ?_ (Sa h4 k _ _ hx hk2) (Dh h3 k c hk2);have:=hR.tmps.eval (.tmp i);have hev:a.eval (.tmp i)=v:=(by show a.tmps.getD i undef=v;rw[Array.getD_eq_getD_getElem?,hv];rfl);rw[hev] at this;exact this
 ·obtain⟨hlt,ri⟩:=back i b ri;obtain⟨hlt',rj⟩:=back j b rj;obtain⟨x,hx,hlx⟩:=iJ h5 i bi hi li;obtain⟨y,hy,hly⟩:=iJ h5 j bj hj lj;rw[Nat.zero_add] at hx hy;have hlv:∀ (x y:Blk),dU (sig n0 l) hp.length x y→y.live=true→x.live=true:=by
   intro x y hle hl;cases x<;>cases y<;>first|rfl|(cases hl;done)|(simp only[dU] at hle;done)|exact hle.elim
  have:=hR.heap.inj _ _ x y b hx hy (hlv _ _ hlx li) (hlv _ _ hly lj) ri rj;exact Ady hnd i j bi bj hi hj li lj (by rw[Nat.zero_add,Nat.zero_add];exact this)
 ·have hlt:i<hp.length:=by
   rcases Nat.lt_or_ge i hp.length with h'|h'
   ·exact h'
   ·rw[List.getElem?_eq_none h'] at hi;cases hi
  by_cases hl:b.live=true
  ·obtain⟨x,hx,hlx⟩:=iJ h5 i b hi hl;rw[Nat.zero_add] at hx;exact(hR.heap.blk _ _ hx).le hlt hlx
  ·cases b<;>first|exact trivial|exact absurd rfl hl
 ·obtain⟨hlt,ri⟩:=back i b hi;exact⟨hlt,(hR.heap.out _ _ ri).2⟩
 ·refine⟨fun i b hi=>?_,hE.st,hE.same,hE.size,hE.shp,fun i b hi=>hE.fresh _ b (back i b hi).2,hE.stf,hE.os,hE.tape,hE.output⟩;have:=hn i b hi;refine hσ i b (by omega) ?_
  have hs:sig n0 l i=i:=by unfold sig;rw[decide_eq_true this]
  rw[hs];exact hE.rho i b hi
end
end Go.Vc
namespace Go.Vc
open Go
mutual
def Dt(H:List Blk):AV→(AV→List Nat→Prop)→Prop
 | .osl id sz off len cap,K=>(match H[id]? with
  |some (.row sz' L get _)=>if sz=sz' then(off+len≤L∧∀ e,e<len→Fa 0 (get (off+e))=true)∧K (.sl false sz len fun e=>get (off+e)) [id] else False
  |_=>False)
 | .ptr id j,K=>(match H[id]? with
  |some (.var cs _)=>(match Fa 0 cs with|true=>K (.rptr cs j) [id]|false=>False)
  |_=>False)
 | .eptr id sz e j,K=>(match H[id]? with
  |some (.row sz' L get _)=>if sz=sz' then(e<L∧Fa 0 (get e)=true)∧K (.rptr (get e) j) [id] else False
  |_=>False)
 | .agg cs,K=>bT H cs fun cs' ids=>K (.agg cs') ids
 | .tup cs,K=>bT H cs fun cs' ids=>K (.tup cs') ids
 | .fn f cs,K=>bT H cs fun cs' ids=>K (.fn f cs') ids
 | .iface t v,K=>Dt H v fun v' ids=>K (.iface t v') ids
 | .map _,_=>False
 | .iter _,_=>False
 |c,K=>K c []
def bT(H:List Blk):List AV→(List AV→List Nat→Prop)→Prop
 |[],K=>K [] []
 |c::cs,K=>Dt H c fun c' ids=>bT H cs fun cs' ids'=>K (c'::cs') (ids++ids')
end
def Ug(ρ:Nat→Option Nat)(S:Nat→Prop)(ids:List Nat):Nat→Prop:=fun b=>S b∨∃ id,id ∈ ids∧ρ id=some b
def sR(H:List Blk):List Nat→List Blk
 |[]=>H
 |id::ids=>sR (H.set id .dead) ids
def bU(H:List Blk)(ids:List Nat):Prop:=∀ id ∈ ids,∃ b,H[id]? =some b∧b.live=true
section
variable {P : Program} {TY : TypeId → Option TI} {ρ : Nat → Option Nat} {S : Nat → Prop} {w : World}
theorem Ext0.stable{S':Nat→Prop}(h:∀ b,S b→S' b):Ext0 ρ S w ρ S' w:=
 ⟨fun _ _ h=>h,h,fun _ _ _=>rfl,Nat.le_refl _,fun _ arr _ fr h=>⟨arr,fr,h,rfl⟩⟩
theorem V.stable{S':Nat→Prop}(h:∀ b,S b→S' b){c:AV}{v:Value}(hv:V ρ S w c v):V ρ S' w c v:=hv.mono0 (Ext0.stable h)
theorem Zh{ids:List Nat}:∀ b,S b→Ug ρ S ids b:=fun _ h=>.inl h
theorem sT{ids ids':List Nat}(h:∀ i,i ∈ ids→i ∈ ids'):∀ b,Ug ρ S ids b→Ug ρ S ids' b
 |_,.inl h1=>.inl h1
 |_,.inr ⟨i,h1,h2⟩=>.inr ⟨i,h i h1,h2⟩
theorem bV{b:Nat}{arr:Array Value}{T:TypeId}{fr:Nat × Nat}(h:w.heap[b]? =some (.cells arr T fr)){i:Nat}(hi:i<arr.size):w.cell? ⟨b,i,none⟩=some (arr.getD i undef):=by
 simp only[World.cell?,h];simp[hi]
theorem jR{arr:Array Value}{i:Nat}(hi:i<arr.size):arr[i]? =some (arr.getD i undef):=by simp[hi]
theorem iM{H:List Blk}:∀ (cs:List AV) (vs:Array Value),cs.length=vs.size→
   (∀ (i:Nat) (c:AV) (v:Value),cs[i]? =some c→vs[i]? =some v→∀ {K:AV→List Nat→Prop},Dt H c K→∃ c' ids,K c' ids∧V (fun _=>none) (Ug ρ S ids) w c' v∧bU H ids)→
   ∀ {K:List AV→List Nat→Prop},bT H cs K→∃ cs' ids,K cs' ids∧cs'.length=vs.size∧(∀ (i:Nat) (c:AV) (v:Value),cs'[i]? =some c→vs[i]? =some v→V (fun _=>none) (Ug ρ S ids) w c v)∧bU H ids:=by
 intro cs vs hl ih;obtain⟨vs⟩:=vs;simp only[List.size_toArray,List.getElem?_toArray] at*;induction cs generalizing vs with
 |nil=>
  intro K h;exact⟨[],[],h,hl,fun i c v hc=>(by simp at hc),fun _ h=>(by cases h)⟩
 |cons c cs ih2=>
  intro K h;cases vs with
  |nil=>simp at hl
  |cons v vs=>
   rw[bT] at h;obtain⟨c',ids,h1,h2,h3⟩:=ih 0 c v rfl rfl h;obtain⟨cs',ids',k1,k2,k3,k4⟩:=ih2 vs (by simpa using hl) (fun i c v hc hv=>ih (i+1) c v (by simpa using hc) (by simpa using hv)) h1
   refine⟨c'::cs',ids++ids',k1,by simpa using k2,fun i x y hx hy=>?_,fun i hi=>?_⟩
   ·cases i with
    |zero=>simp at hx hy;subst hx;subst hy;exact h2.stable (sT fun i hi=>List.mem_append_left _ hi)
    |succ i=>simp at hx hy;exact(k3 i x y hx hy).stable (sT fun i hi=>List.mem_append_right _ hi)
   ·rcases List.mem_append.1 hi with h|h
    ·exact h3 i h
    ·exact k4 i h
theorem bW{H:List Blk}(hH:HRel ρ S w H):∀ {c:AV} {K:AV→List Nat→Prop} {v:Value},Dt H c K→V ρ S w c v→∃ c' ids,K c' ids∧V (fun _=>none) (Ug ρ S ids) w c' v∧bU H ids:=by
 have flatCase:∀ {c:AV} {K:AV→List Nat→Prop} {v:Value},c.under 0=true→K c []→V ρ S w c v→∃ c' ids,K c' ids∧V (fun _=>none) (Ug ρ S ids) w c' v∧bU H ids:=
  fun hu hK hv=>⟨_,[],hK,(hv.pure hu).stable Zh,fun _ h=>(by cases h)⟩
 intro c K v h hv;induction hv generalizing K
 case any=>exact flatCase rfl h (.any _)
 case bool=>exact flatCase rfl h (.bool _)
 case int h1 h2=>exact flatCase rfl h (.int _ _ h1 h2)
 case str h1 h2=>exact flatCase rfl h (.str _ _ h1 h2)
 case nilp=>exact flatCase rfl h .nilp
 case ptr id j b hb=>
  simp only[Dt] at h;split at h
  ·rename_i cs T0 hcs;split at h
   ·rename_i hu;obtain⟨h1,arr,T,fr,h2,h3,h4,h5⟩:=hH.blk _ _ hcs b hb;refine⟨_,[id],h,?_,fun i hi=>?_⟩
    ·have hr:=VI.rptr (ρ:=fun _=>none) (S:=Ug _ S [id]) (w:=w) cs j b 0 (fun k=>arr.getD k undef) (.inr ⟨id,by simp,hb⟩) (hH.out _ _ hb).2 (fun i hi=>?_) (fun i c hc=>?_)
     ·simpa using hr
     ·rw[Nat.zero_add];exact bV h2 (by omega)
     ·have hi:i<arr.size:=by
       rcases Nat.lt_or_ge i cs.length with h'|h'
       ·omega
       ·rw[List.getElem?_eq_none h'] at hc;cases hc
      exact((h5 i c _ hc (jR hi)).pure (Dh hu i c hc)).stable Zh
    ·simp at hi;subst hi;exact⟨_,hcs,rfl⟩
   ·exact h.elim
  ·exact h.elim
 case eptr id sz e j b hb=>
  simp only[Dt] at h;split at h
  ·rename_i sz' L get T0 hcs;split at h
   ·rename_i hsz;subst hsz;obtain⟨⟨he,hu⟩,hK⟩:=h;obtain⟨h1,arr,T,fr,h2,h3,h4,h5,h6⟩:=hH.blk _ _ hcs b hb;refine⟨_,[id],hK,?_,fun i hi=>?_⟩
    ·refine .rptr (get e) j b (e*sz) (fun k=>arr.getD (e*sz+k) undef) (.inr ⟨id,by simp,hb⟩) (hH.out _ _ hb).2 (fun i hi=>?_) (fun i c hc=>?_)
     ·rw[h5 e he] at hi;have:=row_in he hi;exact bV h2 (by omega)
     ·have hi:i<sz:=by
       rcases Nat.lt_or_ge i sz with h'|h'
       ·exact h'
       ·rw[List.getElem?_eq_none (by rw[h5 e he];exact h')] at hc;cases hc
      have hin:=row_in he hi;exact((h6 e i c _ he hc (jR (by omega))).pure (Dh hu i c hc)).stable Zh
    ·simp at hi;subst hi;exact⟨_,hcs,rfl⟩
   ·exact h.elim
  ·exact h.elim
 case rptr cs j b o f hs hb hc hv _=>exact flatCase rfl h (.rptr cs j b o f hs hb hc hv)
 case nilsl=>exact flatCase rfl h .nilsl
 case sln=>exact flatCase rfl h (.sln _ _ _ _)
 case sl hs hl hm hcl hz hc hv _=>exact flatCase rfl h (.sl _ _ _ _ _ _ _ _ hs hl hm hcl hz hc hv)
 case osl id sz off len cap b o cp hb hl hm ho hx hcap=>
  simp only[Dt] at h;split at h
  ·rename_i sz' L get T0 hcs;split at h
   ·rename_i hsz;subst hsz;obtain⟨⟨hL,hu⟩,hK⟩:=h;obtain⟨h1,arr,T,fr,h2,h3,h4,h5,h6⟩:=hH.blk _ _ hcs b hb;refine⟨_,[id],hK,?_,fun i hi=>?_⟩
    ·refine .sl false sz len _ b o cp (fun e k=>arr.getD ((off+e)*sz+k) undef) (fun _=>⟨.inr ⟨id,by simp,hb⟩,(hH.out _ _ hb).2⟩) hl hm (fun h=>by cases h) (fun e he=>h5 _ (by omega)) (fun e k he hk=>?_) (fun e k c he hc=>?_)
     ·have hin:=row_in (show off+e<L by omega) hk
      rw[ho (by omega),show off*sz+e*sz+k=(off+e)*sz+k by rw[Nat.add_mul]]
      exact bV h2 (by omega)
     ·have hk:k<sz:=by
       rcases Nat.lt_or_ge k sz with h'|h'
       ·exact h'
       ·rw[List.getElem?_eq_none (by rw[h5 (off+e) (by omega)];exact h')] at hc;cases hc
      have hin:=row_in (show off+e<L by omega) hk
      exact((h6 (off+e) k c _ (by omega) hc (jR (by omega))).pure (Dh (hu e he) k c hc)).stable Zh
    ·simp at hi;subst hi;exact⟨_,hcs,rfl⟩
   ·exact h.elim
  ·exact h.elim
 case agg cs vs hl _ ih=>
  simp only[Dt] at h;obtain⟨cs',ids,h1,h2,h3,h4⟩:=iM cs vs hl (fun i c v hc hv {K} h=>ih i c v hc hv hH flatCase h) h;exact⟨_,ids,h1,.agg _ _ h2 h3,h4⟩
 case tup cs vs hl _ ih=>
  simp only[Dt] at h;obtain⟨cs',ids,h1,h2,h3,h4⟩:=iM cs vs hl (fun i c v hc hv {K} h=>ih i c v hc hv hH flatCase h) h;exact⟨_,ids,h1,.tup _ _ h2 h3,h4⟩
 case fn f cs vs hl _ ih=>
  simp only[Dt] at h;obtain⟨cs',ids,h1,h2,h3,h4⟩:=iM cs vs hl (fun i c v hc hv {K} h=>ih i c v hc hv hH flatCase h) h;exact⟨_,ids,h1,.fn _ _ _ h2 h3,h4⟩
 case nilfn=>exact flatCase rfl h .nilfn
 case nilmap=>exact flatCase rfl h .nilmap
 case map=>exact(by simp[Dt] at h)
 case nilif=>exact flatCase rfl h .nilif
 case iface t a v _ ih=>
  simp only[Dt] at h;obtain⟨c',ids,h1,h2,h3⟩:=ih hH flatCase h;exact⟨_,ids,h1,.iface _ _ _ h2,h3⟩
 case iter=>exact(by simp[Dt] at h)
theorem sU{H:List Blk}(hH:HRel ρ S w H):∀ {cs:List AV} {K:List AV→List Nat→Prop} {vs:Array Value},bT H cs K→VL ρ S w cs vs→∃ cs' ids,K cs' ids∧VL (fun _=>none) (Ug ρ S ids) w cs' vs∧bU H ids:=by
 intro cs K vs h hv;obtain⟨cs',ids,h1,h2,h3,h4⟩:=iM (ρ:=ρ) (S:=S) (w:=w) cs vs hv.1 (fun i c v hc hv' {K} h=>bW hH h (hv.2 i c v hc hv')) h;exact⟨cs',ids,h1,⟨h2,h3⟩,h4⟩
end
end Go.Vc
