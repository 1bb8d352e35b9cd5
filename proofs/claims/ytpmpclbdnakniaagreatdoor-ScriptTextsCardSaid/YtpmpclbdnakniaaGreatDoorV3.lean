/- Evaluation that leaves nothing behind; structs out of parts, so. -/
import Derived.Test.YtpmpclbdnakniaaGreatDoorV2
import Derived.Lib.AppendStr
import Derived.WalkSpells
import Derived.Laws.BytesString
import Derived.Laws.Cover4
import Derived.Lib.OthersKept
set_option linter.all false
namespace Go.Vc
open Go
def Abk(n0:Nat)(K:Nat→Prop):Nat→List Nat→Prop
 |0,t::_=>K t
 |n+1,_::ts=>Abk n0 K n ts
 |_,[]=>K n0
def Aio:List Nat:=[0,1,2,3,4,5,6,7,8,9,10,11,12,13,14,15,16,17,18,19,20,21,22,23,24,25,26,27,28,29,30,31,32,33,34,35,36,37,38,39,40,41,42,43,44,45,46,47,48,49,50,51,52,53,54,55,56,57,58,59,60,61,62,63]
theorem jM{n0:Nat}{K:Nat→Prop}:∀ (n i m:Nat),n0=i+n→Abk n0 K n (List.range' i m)=K n0
 |n,i,0,_=>by cases n<;>rfl
 |0,i,m+1,h=>by
  rw[List.range'_succ];show K i=K n0;rw[h,Nat.add_zero]
 |n+1,i,m+1,h=>by
  rw[List.range'_succ];exact jM n (i+1) m (by omega)
theorem Vz(n:Nat)(K:Nat→Prop):Abk n K n Aio=K n:=
 jM n 0 64 (by omega)
mutual
def fc:AV→(AV→Prop)→Prop
 | .agg cs,K=>fcL cs fun cs'=>K (.agg cs')
 | .tup cs,K=>fcL cs fun cs'=>K (.tup cs')
 | .fn f cs,K=>fcL cs fun cs'=>K (.fn f cs')
 | .iface t v,K=>fc v fun v'=>K (.iface t v')
 | .ptr id j,K=>Abk id (fun i=>K (.ptr i j)) id Aio
 | .eptr id sz e j,K=>Abk id (fun i=>K (.eptr i sz e j)) id Aio
 | .osl id sz off len cap,K=>Abk id (fun i=>K (.osl i sz off len cap)) id Aio
 | .map id,K=>Abk id (fun i=>K (.map i)) id Aio
 | .iter id,K=>Abk id (fun i=>K (.iter i)) id Aio
 | .any,K=>K .any
 | .bool b,K=>K (.bool b)
 | .int k n,K=>K (.int k n)
 | .str l,K=>K (.str l)
 | .nilp,K=>K .nilp
 | .rptr cs j,K=>K (.rptr cs j)
 | .nilsl,K=>K .nilsl
 | .sl c z l g,K=>K (.sl c z l g)
 | .nilfn,K=>K .nilfn
 | .nilmap,K=>K .nilmap
 | .nilif,K=>K .nilif
def fcL:List AV→(List AV→Prop)→Prop
 |[],K=>K []
 |c::cs,K=>fc c fun c'=>fcL cs fun cs'=>K (c'::cs')
end
mutual
theorem sH:∀ (c:AV) (K:AV→Prop),fc c K=K c
 | .agg cs,K=>by simp only[fc];exact Xy cs _
 | .tup cs,K=>by simp only[fc];exact Xy cs _
 | .fn f cs,K=>by simp only[fc];exact Xy cs _
 | .iface t v,K=>by simp only[fc];exact sH v _
 | .ptr id j,K=>by simp only[fc];exact Vz id _
 | .eptr id sz e j,K=>by simp only[fc];exact Vz id _
 | .osl id sz off len cap,K=>by simp only[fc];exact Vz id _
 | .map id,K=>by simp only[fc];exact Vz id _
 | .iter id,K=>by simp only[fc];exact Vz id _
 | .any,K=>by simp only[fc]
 | .bool b,K=>by simp only[fc]
 | .int k n,K=>by simp only[fc]
 | .str l,K=>by simp only[fc]
 | .nilp,K=>by simp only[fc]
 | .rptr cs j,K=>by simp only[fc]
 | .nilsl,K=>by simp only[fc]
 | .sl c z l g,K=>by simp only[fc]
 | .nilfn,K=>by simp only[fc]
 | .nilmap,K=>by simp only[fc]
 | .nilif,K=>by simp only[fc]
theorem Xy:∀ (cs:List AV) (K:List AV→Prop),fcL cs K=K cs
 |[],K=>by simp only[fcL]
 |c::cs,K=>by simp only[fcL];rw[sH,Xy]
end
def Add(place:Nat→Option (Nat × Nat))(K:List AV→Prop):List AV→List (Nat × AV)→Prop
 |cs,[]=>K cs
 |cs,(i,x)::rest=>
  match place i with
  |none=>False
  |some (off,size)=>fc x fun x'=>if x'.isAny=false∧x'.cells.length=size∧off+size≤cs.length then fcL (Go.Vc.over cs off x'.cells) fun cs'=>Add place K cs' rest else False
theorem Ade(place:Nat→Option (Nat × Nat))(K:List AV→Prop):∀ (cs:List AV) (ps:List (Nat × AV)),Add place K cs ps=Io (Zb place cs ps) K
 |cs,[]=>rfl
 |cs,(i,x)::rest=>by
  rw[Add,Zb];cases place i with
  |none=>rfl
  |some os=>
   obtain⟨off,size⟩:=os;simp only;rw[sH];split
   ·rw[Xy,Ade place K]
   ·rfl
def bN(TY:TypeId→Option TI)(t:TypeId)(parts:List (Nat × AV))(N:AV→Prop):Prop:=
 match TY t with
 |none=>False
 |some i=>match i.zero with
  |none=>False
  |some z=>if z.isAny=false then(match i.kind with
    | .struct fs=>if fs.all (fun f=>(TY f.2).isSome)=true then
      Add (fun k=>(fs[k]?).bind fun f=>(TY f.2).map fun fi=>(f.1,fi.size)) (fun cs=>N (.agg cs)) z.cells parts else False
    | .arr _ e=>match TY e with
     |some ei=>Add (fun k=>some (k*ei.size,ei.size)) (fun cs=>N (.agg cs)) z.cells parts
     |none=>False
    |_=>False) else False
theorem sJ{TY:TypeId→Option TI}{t:TypeId}{parts:List (Nat × AV)}{N:AV→Prop}:bN TY t parts N=bM TY t parts N:=by
 unfold bN bM;cases TY t with
 |none=>rfl
 |some i=>
  simp only;cases i.zero with
  |none=>rfl
  |some z=>
   simp only[Ade];all_goals (cases i.kind<;>simp only)
   all_goals (rename_i n e;cases TY e<;>rfl)
end Go.Vc
namespace Go.Vc
open Go
section
variable {P : Program} {TY : TypeId → Option TI} {ρ : Nat → Option Nat} {S : Nat → Prop} {w : World}
theorem Nu(ρ:Nat→Option Nat)(S:Nat→Prop)(w:World):Ext ρ S w ρ S w.drew:=
 ⟨fun _ _ h=>h,fun _ h=>h,fun _ _ _=>rfl,Nat.le_refl _,fun _ arr _ fr h=>⟨arr,fr,h,rfl⟩,fun _ _ h=>.inl ⟨_,h⟩,fun _ h=>.inl h,rfl,rfl,rfl⟩
theorem sK{H:List Blk}(h:HRel ρ S w H):HRel ρ S w.drew H:=
 ⟨h.inj,fun i b hi=>(h.blk i b hi).keep (Nu ρ S w) fun b' hb'=>⟨hb',rfl,fun h=>h⟩,h.out⟩
theorem VOk.drew{s:Sem Value}{N:AV→List Blk→Prop}{v:Value}{w':World}{c:AV}{H':List Blk}{ρ':Nat→Option Nat}(h:s.run P w= .ok v w')(hN:N c H')(hv:V ρ' S w' c v)(hH:HRel ρ' S w' H')
  (hE:Ext ρ S w.drew ρ' S w'):VOk P ρ S w s N:=⟨v,w',c,H',ρ',h,hN,hv,hH,(Nu ρ S w).trans hE⟩
def Xz(TY:TypeId→Option TI)(t:TypeId)(l c:AV)(H:List Blk)(N:AV→List Blk→Prop):Prop:=
 match TY t,l,c with
 |some i,.int _ l,.int _ c=>match i.kind with
  | .slice e=>match TY e with
   |some ei=>match ei.zero with
    |some z=>if z.isAny=false∧z.cells.length=ei.size then
      (0≤l∧l≤c∧(ei.bytes:Int)*c≤281474976710656∧c≤9223372036854775807)∧N (.osl H.length ei.size 0 l.toNat (some c.toNat)) (H++[.row ei.size c.toNat (fun _=>z.cells)]) else False
    |none=>False
   |none=>False
  |_=>False
 |_,_,_=>False
theorem bO(hTY:TyOk P TY)(hns:∀ b,S b→b<w.heap.size){H:List Blk}(hH:HRel ρ S w H){t:TypeId}{x y:AV}{v u:Value}{N:AV→List Blk→Prop}(hx:V ρ S w x v)(hy:V ρ S w y u)
  (h:Xz TY t x y H N):VOk P ρ S w (Instr.makeSlice t v u) N:=by
 unfold Xz at h;split at h
 ·rename_i i kl l kc c hi;obtain⟨rfl,_⟩:=hx.intR;obtain⟨rfl,_⟩:=hy.intR;obtain⟨info,d,h1,h2,_,_,_,h6,_,_⟩:=hTY.get hi;obtain⟨_,_,_,ks,_⟩:=B0 h6;split at h
  ·rename_i e hk;obtain rfl:=ks _ hk;split at h
   ·rename_i ei hei;split at h
    ·rename_i z hz;split at h
     ·rename_i hcond;obtain⟨⟨h0,hlc,hby,h63⟩,hN⟩:=h;obtain⟨einfo,_,g1,_,g3,g4,_,_,g7,_⟩:=hTY.get hei;rw[hz] at g7;cases hzi:einfo.zero with
      |none=>rw[hzi] at g7;cases g7
      |some zv=>
       rw[hzi] at g7;simp only[Option.map_some,Option.some.injEq] at g7;have hr:=run_make (P:=P) w t e einfo zv h2 g1 hzi kl kc l c h0 hlc (by rw[g4];exact hby) h63
       rw[g3] at hr;have hsz:(madeCells zv.cells (c.toNat*ei.size)).size=c.toNat*ei.size:=size_madeCells _ _;refine VOk.new hH hr hN ?_ (Ub hH hns (by omega) (sG g7.symm (AV.ne_any hcond.1) hcond.2) e rfl)
       exact .osl _ _ _ _ _ _ _ _ (Dx _ _) (by omega) (by rw[Ch];omega) (fun _=>by simp) ⟨_,e,(0,0),Cu w _,by rw[Nat.zero_add];omega⟩ (fun c' hc'=>by cases hc';rfl)
     ·exact h.elim
    ·exact h.elim
   ·exact h.elim
  ·exact h.elim
 ·exact h.elim
def Bq(n:Nat)(g s:Nat→List AV):Nat→List AV:=fun e=>if e<n then g e else s (e - n)
def Ce(f:Nat→Nat→Value)(m sz:Nat):List Value:=(List.range (m*sz)).map fun k=>f (k / sz) (k % sz)
theorem Bw(f:Nat→Nat→Value)(m sz:Nat):(Ce f m sz).length=m*sz:=by simp[Ce]
theorem Ud{f:Nat→Nat→Value}{m sz e j:Nat}(he:e<m)(hj:j<sz):(Ce f m sz)[e*sz+j]? =some (f e j):=by
 have hlt:=row_in he hj;have hd:(e*sz+j) / sz=e:=by
  rw[Nat.mul_comm,Nat.mul_add_div (by omega),Nat.div_eq_of_lt hj];omega
 have hm:(e*sz+j) % sz=j:=by rw[Nat.add_comm,Nat.add_mul_mod_self_right,Nat.mod_eq_of_lt hj]
 simp only[Ce,List.getElem?_map];rw[List.getElem?_range hlt];simp[hd,hm]
theorem Ku{f:Nat→Nat→Value}{m sz k:Nat}{v:Value}(h:(Ce f m sz)[k]? =some v):∃ e j,e<m∧j<sz∧k=e*sz+j∧v=f e j:=by
 have hk:k<m*sz:=by
  rcases Nat.lt_or_ge k (m*sz) with h'|h'
  ·exact h'
  ·rw[List.getElem?_eq_none (by rw[Bw];exact h')] at h;cases h
 have hsz:0<sz:=by
  rcases Nat.eq_zero_or_pos sz with h0|h0
  ·subst h0;simp at hk
  ·exact h0
 refine⟨k / sz,k % sz,?_,Nat.mod_lt _ hsz,?_,?_⟩
 ·rw[Nat.div_lt_iff_lt_mul hsz];exact hk
 ·have:=Nat.div_add_mod k sz;rw[Nat.mul_comm] at this;exact this.symm
 ·simp only[Ce,List.getElem?_map] at h;rw[List.getElem?_range hk] at h;simpa using h.symm
theorem RowIs.vals{sz m:Nat}{src:Nat→List AV}{ao:Option Addr}(h:RowIs ρ S w sz m src ao)(hm:0<m):
  ∃ (a:Addr) (f:Nat→Nat→Value),ao=some a∧(∀ (j:Nat) v,(Ce f m sz)[j]? =some v→w.cell? (a.add j)=some v)∧(∀ (e j:Nat) (c:AV),e<m→(src e)[j]? =some c→V ρ S w c (f e j)):=by
 cases ao with
 |none=>have:=h.nil rfl;omega
 |some a=>
  obtain⟨hsp,f,hf⟩:=h.at_ a rfl;obtain⟨b,o,sp⟩:=a;simp only at hsp hf;obtain rfl:=hsp hm;refine⟨_,f,rfl,fun k v hv=>?_,fun e j c he hc=>?_⟩
  ·obtain⟨e,j,he,hj,rfl,rfl⟩:=Ku hv;rw[addr_add,←Nat.add_assoc];exact(hf e j he hj).1
  ·have hj:j<sz:=by
    rcases Nat.lt_or_ge j sz with h'|h'
    ·exact h'
    ·rw[List.getElem?_eq_none (by rw[h.size e he];exact h')] at hc;cases hc
   exact(hf e j he hj).2 c hc
theorem Adf{sz n m:Nat}{g s:Nat→List AV}{fg fs:Nat→Nat→Value}(hg:∀ e,e<n→(g e).length=sz)(hs:∀ e,e<m→(s e).length=sz)
  (vg:∀ (e j:Nat) (c:AV),e<n→(g e)[j]? =some c→V ρ S w c (fg e j)) (vs:∀ (e j:Nat) (c:AV),e<m→(s e)[j]? =some c→V ρ S w c (fs e j)) (z:Array Value):
  Xx ρ S w sz (n+m) (Bq n g s) ((Ce fg n sz).toArray++(Ce fs m sz).toArray++z):=by
 have hl:∀ e,e<n+m→(Bq n g s e).length=sz:=fun e he=>by
  unfold Bq;split
  ·exact hg _ (by assumption)
  ·exact hs _ (by omega)
 refine⟨hl,fun e j c v he hc hv=>?_⟩;have hj:j<sz:=by
  rcases Nat.lt_or_ge j sz with h'|h'
  ·exact h'
  ·rw[List.getElem?_eq_none (by rw[hl e he];exact h')] at hc;cases hc
 have hin:=row_in he hj;rw[Nat.add_mul] at hin;rw[Array.getElem?_append_left (by simp[Bw];exact hin)] at hv
 unfold Bq at hc;split at hc
 ·rename_i hen;have h1:=row_in hen hj;rw[Array.getElem?_append_left (by simp[Bw];exact h1)] at hv
  simp only[List.getElem?_toArray,Ud hen hj,Option.some.injEq] at hv;subst hv;exact vg _ _ _ hen hc
 ·rename_i hen;have hge:n*sz≤e*sz:=Nat.mul_le_mul_right _ (by omega)
  rw[Array.getElem?_append_right (by simp[Bw];omega)] at hv
  have heq:e*sz+j - (Ce fg n sz).toArray.size=(e - n)*sz+j:=by
   simp only[List.size_toArray,Bw,Nat.sub_mul];omega
  rw[heq] at hv;simp only[List.getElem?_toArray,Ud (show e - n<m by omega) hj,Option.some.injEq] at hv
  subst hv;exact vs _ _ _ (by omega) hc
def Dc(ei:TI)(n:Nat):Prop:=n*ei.bytes≤140737488355328∧n≤9223372036854775807
def Aip(T:Option Nat)(E:Nat):Option Nat:=match T with
 |some t=>(match Nat.beq t E with|true=>some t|false=>none)
 |none=>none
theorem Ao6(T:Option Nat)(E:Nat):Qr (Aip T E) E=E:=by
 unfold Aip;cases T with
 |none=>rfl
 |some t=>
  simp only;cases h:Nat.beq t E with
  |false=>rfl
  |true=>exact Nat.eq_of_beq_eq_true h
theorem Adg(T:Option Nat)(E x:Nat):Qr (Aip T E) (Qr T x)=Qr T x:=by
 unfold Aip;cases T with
 |none=>rfl
 |some t=>
  simp only;cases h:Nat.beq t E<;>rfl
def X0(E:Nat)(ei:TI)(s:AV)(m:Nat)(src:Nat→List AV)(H:List Blk)(N:AV→List Blk→Prop):Prop:=
 match s with
 | .nilsl=>if m=0 then N .nilsl H else Dc ei m∧N (.osl H.length ei.size 0 m none) (H++[.row ei.size m src (some E)])
 | .sl true sz len get=>if sz=ei.size then
   (if m=0 then N (.sl true sz len get) H else Dc ei (len+m)∧N (.osl H.length ei.size 0 (len+m) none) (H++[.row ei.size (len+m) (Bq len get src)])) else False
 | .osl id sz off len (some c)=>match H[id]? with
  |some (.row sz' L get T)=>if sz=ei.size∧sz'=ei.size then
    (if len+m≤c then(off+(len+m)≤L∧∀ e,e<m→(src e).all AV.one=true)∧
      N (.osl id sz off (len+m) (some c)) (H.set id (.row sz L (fun e=>if off+len≤e∧e<off+len+m then src (e - (off+len)) else get e) T))
     else(off+len≤L∧Dc ei (len+m))∧N (.osl H.length sz 0 (len+m) none) (H++[.row sz (len+m) (Bq len (fun e=>get (off+e)) src)])) else False
  |_=>False
 | .osl id sz 0 len none=>match H[id]? with
  |some (.row sz' L get T)=>if sz=ei.size∧sz'=ei.size then
    (len≤L∧Dc ei (len+m)∧∀ e,e<m→(src e).all AV.one=true)∧N (.osl H.length sz 0 (len+m) none) (H.set id .dead++[.row sz (len+m) (Bq len get src) (Aip T E)]) else False
  |_=>False
 |_=>False
def iE(E:Nat)(ei:TI)(s:AV)(m:Nat)(src:Nat→List AV)(H:List Blk)(N:AV→List Blk→Prop):Prop:=
 match s with
 | .nilsl=>(match Nat.beq m 0 with|true=>N .nilsl H|false=>Dc ei m∧N (.osl H.length ei.size 0 m none) (H++[.row ei.size m src (some E)]))
 | .sl true sz len get=>if sz=ei.size then
   (match Nat.beq m 0 with|true=>N (.sl true sz len get) H|false=>Dc ei (len+m)∧N (.osl H.length ei.size 0 (len+m) none) (H++[.row ei.size (len+m) (Bq len get src)])) else False
 | .osl id sz off len (some c)=>match H[id]? with
  |some (.row sz' L get T)=>if sz=ei.size∧sz'=ei.size then
    (match Nat.ble (len+m) c with
     |true=>(off+(len+m)≤L∧∀ e,e<m→(src e).all AV.one=true)∧
      N (.osl id sz off (len+m) (some c)) (H.set id (.row sz L (fun e=>if off+len≤e∧e<off+len+m then src (e - (off+len)) else get e) T))
     |false=>(off+len≤L∧Dc ei (len+m))∧N (.osl H.length sz 0 (len+m) none) (H++[.row sz (len+m) (Bq len (fun e=>get (off+e)) src)])) else False
  |_=>False
 |s=>X0 E ei s m src H N
theorem dR{E:Nat}{ei:TI}{s:AV}{m:Nat}{src:Nat→List AV}{H:List Blk}{N:AV→List Blk→Prop}(h:iE E ei s m src H N):X0 E ei s m src H N:=by
 have e0:∀ m:Nat,Nat.beq m 0=true↔m=0:=fun m=>by rw[Nat.beq_eq]
 unfold iE at h;unfold X0;split at h
 ·split at h
  ·rename_i hb;rw[e0] at hb;rw[if_pos hb];exact h
  ·rename_i hb;rw[if_neg (fun hc=>by rw[(e0 m).2 hc] at hb;cases hb)];exact h
 ·split at h
  ·rename_i hs;simp only;rw[if_pos hs];split at h
   ·rename_i hb;rw[e0] at hb;rw[if_pos hb];exact h
   ·rename_i hb;rw[if_neg (fun hc=>by rw[(e0 m).2 hc] at hb;cases hb)];exact h
  ·exact h.elim
 ·split at h
  ·rename_i hid;split at h
   ·rename_i hs;simp only[hid];rw[if_pos hs];split at h
    ·rename_i hb;rw[if_pos (Nat.le_of_ble_eq_true hb)];exact h
    ·rename_i hb;rw[if_neg (fun hc=>by rw[Nat.ble_eq_true_of_le hc] at hb;cases hb)];exact h
   ·exact h.elim
  ·exact h.elim
 ·exact h
def Abl(TY:TypeId→Option TI)(t:TypeId)(s x:AV)(H:List Blk)(N:AV→List Blk→Prop):Prop:=
 match TY t with
 |none=>False
 |some i=>match i.kind with
  | .slice e=>match TY e with
   |some ei=>match ei.zero with
    |some z=>if z.isAny=false∧z.cells.length=ei.size∧ei.size≠0 then
      Za H x fun sz m src=>if sz=ei.size then iE e ei s m src H N else False
     else False
    |none=>False
   |none=>False
  |_=>False
theorem sM{w':World}{H:List Blk}(h:HRel ρ S w H){id b:Nat}{old new:Blk}(hid:H[id]? =some old)(hlive:old.live=true)(hr:ρ id=some b)(hE:Ext ρ S w (E6 ρ H.length b) S w')
  (hsz:w'.heap.size=w.heap.size) (hoth:∀ k,k≠b→w'.heap[k]? =w.heap[k]?) (hnew:BRel (E6 ρ H.length b) S w' H.length new):HRel (E6 ρ H.length b) S w' (H.set id .dead++[new]):={
 inj i j bi bj c hi hj li lj ri rj:=by
  have key:∀ (i:Nat) (bi:Blk) (c:Nat),(H.set id .dead++[new])[i]? =some bi→bi.live=true→E6 ρ H.length b i=some c→(i=H.length∧c=b)∨(H[i]? =some bi∧ρ i=some c∧c≠b):=by
   intro i0 b0 c0 hi0 li0 ri0;unfold E6 at ri0;split at ri0
   ·cases ri0;exact .inl ⟨by assumption,rfl⟩
   ·rename_i hne;have hlt:=(h.out i0 c0 ri0).1;rw[List.getElem?_append_left (by simpa using hlt),List.getElem?_set] at hi0
    split at hi0
    ·split at hi0
     ·cases hi0;cases li0
     ·cases hi0
    ·rename_i hidi;refine .inr ⟨hi0,ri0,fun hcb=>hidi ?_⟩;rw[hcb] at ri0;exact h.inj id i0 old b0 b hid hi0 hlive li0 hr ri0
  rcases key i bi c hi li ri with ⟨rfl,rfl⟩|⟨h1,h2,h3⟩<;>rcases key j bj _ hj lj rj with ⟨rfl,h4⟩|⟨h5,h6,h7⟩
  ·rfl
  ·exact absurd rfl h7
  ·exact absurd h4 h3
  ·exact h.inj i j bi bj c h1 h5 li lj h2 h6
 blk i bi hi:=by
  by_cases hlt:i<H.length
  ·rw[List.getElem?_append_left (by simpa using hlt),List.getElem?_set] at hi
   split at hi
   ·split at hi
    ·cases hi;trivial
    ·cases hi
   ·rename_i hidi;by_cases hl:bi.live=true
    ·refine(h.blk i bi hi).keep hE fun b' hb'=>?_;unfold E6 at hb';rw[if_neg (by omega)] at hb'
     refine⟨hb',hoth b' ?_,fun h=>h⟩;rintro rfl;exact hidi (h.inj id i old bi b' hid hi hlive hl hr hb')
    ·cases bi<;>simp[Blk.live] at hl
     trivial
  ·rw[List.getElem?_append_right (by simpa using hlt)] at hi
   have:i=H.length:=by
    rcases Nat.eq_or_lt_of_le (Nat.le_of_not_lt hlt) with h1|h1
    ·exact h1.symm
    ·rw[List.getElem?_eq_none (by simp;omega)] at hi;cases hi
   subst this;simp at hi
   subst hi;exact hnew
 out i c hi:=by
  unfold E6 at hi;simp only[List.length_append,List.length_set,List.length_singleton];split at hi
  ·cases hi;have:=(h.out id _ hr).2;omega
  ·have:=h.out i c hi;omega }
theorem VOk.newDrew(hns:∀ b,S b→b<w.heap.size){s:Sem Value}{N:AV→List Blk→Prop}{H:List Blk}(hH:HRel ρ S w H){sz n cp:Nat}{get:Nat→List AV}{arr:Array Value}{T:TypeId}{T1:Option Nat}(hT:Qr T1 T=T)
  (h:s.run P w= .ok (.slice (some ⟨w.heap.size,0,none⟩) n cp) (w.drew.alloc (.cells arr T))) (hN:N (.osl H.length sz 0 n none) (H++[.row sz n get T1]))
  (hle:n≤cp) (hm:cp≤maxLen) (hs:cp*sz≤arr.size) (hE:Xx ρ S w sz n get arr):VOk P ρ S w s N:=by
 have hH':=sK hH;have hE':Xx ρ S w.drew sz n get arr:=⟨hE.1,fun e j c v he hc hv=>(hE.2 e j c v he hc hv).mono (Nu ρ S w)⟩;have hns':n*sz≤arr.size:=Nat.le_trans (Nat.mul_le_mul_right _ hle) hs;refine VOk.drew (c:=.osl H.length sz 0 n none) h hN ?_ (jG hH' _ (Ub hH' hns hns' hE' T hT)) (Vx hH' _);exact .osl _ _ _ _ _ _ _ _ (Dx _ _) hle hm (fun _=>by simp) ⟨_,T,(0,0),Cu w.drew _,by rw[Nat.zero_add];exact hs⟩ (fun c hc=>by cases hc)
theorem Ao7{sz n m cp:Nat}{fg fs:Nat→Nat→Value}{z:Array Value}(hz:z.size=sz)(hle:n+m≤cp):
  cp*sz≤((Ce fg n sz).toArray++(Ce fs m sz).toArray++Builtin.zeroCells z (cp - (n+m))).size:=by
 simp only[Array.size_append,List.size_toArray,Bw,size_zeroCells,hz];rw[←Nat.add_mul,←Nat.add_mul];exact Nat.mul_le_mul_right _ (by omega)
theorem V.oslR{id sz off len:Nat}{cap:Option Nat}{v:Value}(h:V ρ S w (.osl id sz off len cap) v):∃ b o cp,v= .slice (some ⟨b,o,none⟩) len cp∧ρ id=some b∧len≤cp∧cp≤maxLen∧(0<cp→o=off*sz)∧
  (∃ arr T fr,w.heap[b]? =some (.cells arr T fr)∧(off+cp)*sz≤arr.size)∧(∀ c,cap=some c→cp=c):=by
 cases h with|osl _ _ _ _ _ b o cp h1 h2 h3 h4 h5 h6=>exact⟨b,o,cp,rfl,h1,h2,h3,h4,h5,h6⟩
theorem gH{t ty e:TypeId}{i:TypeInfo}(ht:P.underlying t=some (.slice e))(hi:P.info? e=some i)(b:Option Addr)(len cap c:Nat)(a:Option Addr)(hlc:len≤cap):
  (Builtin.append_ #[t,t] ty #[.slice b len cap,.slice a 0 c]).run P w= .ok (.slice b len cap) w:=by
 have hf:(Builtin.firstCells i.size 0 (.slice a 0 c)).run P w= .ok #[] w:=by
  cases a<;>simp[Builtin.firstCells,loadCells,loadCellsFrom]
 cases b with
 |none=>simp[Builtin.append_,run_underlying ht,sizeOf,typeInfo,hi,Builtin.lenOf,hlc,hf]
 |some b=>simp[Builtin.append_,run_underlying ht,sizeOf,typeInfo,hi,Builtin.lenOf,hlc,hf,storeCells]
end
end Go.Vc
namespace Go.Vc
open Go
section
variable {P : Program} {TY : TypeId → Option TI} {ρ : Nat → Option Nat} {S : Nat → Prop} {w : World}
theorem Ao8{sz m:Nat}{s:Nat→List AV}{fs:Nat→Nat→Value}(hs:∀ e,e<m→(s e).length=sz)(vs:∀ (e j:Nat) (c:AV),e<m→(s e)[j]? =some c→V ρ S w c (fs e j))(z:Array Value):
  Xx ρ S w sz m s ((Ce fs m sz).toArray++z):=by
 have:=Adf (n:=0) (g:=s) (fg:=fs) (fun e he=>absurd he (Nat.not_lt_zero _)) hs (fun e j c he=>absurd he (Nat.not_lt_zero _)) vs z;have e1:Bq 0 s s=s:=funext fun e=>by simp[Bq]
 have e2:(Ce fs 0 sz).toArray=#[]:=by simp[Ce]
 rw[e1,e2,Nat.zero_add,Array.empty_append] at this;exact this
theorem dS{sz m:Nat}{s:Nat→List AV}{fs:Nat→Nat→Value}(hs:∀ e,e<m→(s e).length=sz)(vs:∀ (e j:Nat) (c:AV),e<m→(s e)[j]? =some c→V ρ S w c (fs e j))
  (h1:∀ e,e<m→(s e).all AV.one=true):∀ u ∈ Ce fs m sz,u.oneCell'=true:=by
 intro u hu;obtain⟨k,hk,rfl⟩:=List.getElem_of_mem hu;obtain⟨e,j,he,hj,_,heq⟩:=Ku (List.getElem?_eq_getElem hk);rw[heq];have hj':j<(s e).length:=by rw[hs e he];exact hj
 exact Y3 (vs e j _ he (List.getElem?_eq_getElem hj')) (List.all_eq_true.1 (h1 e he) _ (List.getElem_mem hj'))
theorem Adh{H:List Blk}(hH:HRel ρ S w H){id b sz L:Nat}{get:Nat→List AV}{T0:Option Nat}(hid:H[id]? =some (.row sz L get T0))(hb:ρ id=some b):
  ∃ arr T fr,w.heap[b]? =some (.cells arr (Qr T0 T) fr)∧¬S b∧L*sz≤arr.size∧(∀ o,o<arr.size→w.frozen? ⟨b,o,none⟩=false)∧(∀ e,e<L→(get e).length=sz)∧
   (∀ (e j:Nat) (c:AV),e<L→(get e)[j]? =some c→V ρ S w c (arr.getD (e*sz+j) undef))∧(∀ e j,e<L→j<sz→w.cell? ⟨b,e*sz+j,none⟩=some (arr.getD (e*sz+j) undef)):=by
 obtain⟨hns,arr,T,fr,h1,h2,h3,h4,h5⟩:=hH.blk id _ hid b hb;refine⟨arr,T,fr,h1,hns,h2,h3,h4,fun e j c he hc=>?_,fun e j he hj=>?_⟩
 ·have hj:j<sz:=by
   rcases Nat.lt_or_ge j sz with h'|h'
   ·exact h'
   ·rw[List.getElem?_eq_none (by rw[h4 e he];exact h')] at hc;cases hc
  have:=row_in he hj;exact h5 e j c _ he hc (by rw[Array.getD_eq_getD_getElem?,Array.getElem?_eq_getElem (show e*sz+j<arr.size by omega)];rfl)
 ·have:=row_in he hj;simp only[World.cell?,h1];rw[Array.getD_eq_getD_getElem?,Array.getElem?_eq_getElem (show e*sz+j<arr.size by omega)]
  rfl
theorem dT{ρ':Nat→Option Nat}{H:List Blk}{sz L n m:Nat}{get src:Nat→List AV}{b:Nat}{arr:Array Value}{T:TypeId}{T1:Option Nat}{fr:Nat × Nat}{f:Nat→Nat→Value}{nid:Nat}
  (hE:Ext ρ S w ρ' S (w.setCells b (n*sz) (Ce f m sz))) (hb:∀ b',ρ' nid=some b'→b'=b) (h1:w.heap[b]? =some (.cells arr (Qr T1 T) fr)) (hns: ¬S b) (hL:L*sz≤arr.size) (hfr:∀ o,o<arr.size→w.frozen? ⟨b,o,none⟩=false)
  (hin:n*sz+m*sz≤arr.size)
  (get':Nat→List AV) (L':Nat) (hL':L'*sz≤arr.size) (hz:∀ e,e<L'→(get' e).length=sz)
  (hold:∀ (e j:Nat) (c:AV),e<L'→(e<n∨n+m≤e)→(get' e)[j]? =some c→V ρ S w c (arr.getD (e*sz+j) undef))
  (hnew:∀ (e j:Nat) (c:AV),e<m→n+e<L'→(get' (n+e))[j]? =some c→V ρ S w c (f e j)):
  BRel ρ' S (w.setCells b (n*sz) (Ce f m sz)) nid (.row sz L' get' T1):=by
 intro b' hb';obtain rfl:=hb b' hb';have hvl:n*sz+(Ce f m sz).length≤arr.size:=by rw[Bw];exact hin
 refine⟨hns,_,T,fr,Ds _ _ _ _ _ _ _ h1,by rw[Du];exact hL',fun o ho=>?_,hz,fun e j c v he hc hv=>?_⟩
 ·rw[Du] at ho;rw[World.frozen?_setCells];exact hfr o ho
 ·have hj:j<sz:=by
   rcases Nat.lt_or_ge j sz with h'|h'
   ·exact h'
   ·rw[List.getElem?_eq_none (by rw[hz e he];exact h')] at hc;cases hc
  rw[Vy _ _ _ _ hvl,Bw] at hv;have hsz:0<sz:=by omega
  by_cases h2:n≤e∧e<n+m
  ·have g1:n*sz≤e*sz:=Nat.mul_le_mul_right _ h2.1;have g2:=row_in h2.2 hj;rw[Nat.add_mul] at g2;rw[if_pos (by omega)] at hv
   have heq:e*sz+j - n*sz=(e - n)*sz+j:=(by rw[Nat.sub_mul];omega);rw[heq,Ud (by omega) hj] at hv
   cases hv;have:=hnew (e - n) j c (by omega) (by omega) (by rw[show n+(e - n)=e by omega];exact hc)
   exact this.mono hE
  ·have hcase:e<n∨n+m≤e:=(by omega);rw[if_neg ?_] at hv
   ·have:=hold e j c he hcase hc;rw[Array.getD_eq_getD_getElem?,hv] at this;exact this.mono hE
   ·rintro⟨g1,g2⟩;rcases hcase with h3|h3
    ·have:=row_in h3 hj;omega
    ·have:(n+m)*sz≤e*sz:=Nat.mul_le_mul_right _ h3;rw[Nat.add_mul] at this;omega
theorem X1(hTY:TyOk P TY)(hns:∀ b,S b→b<w.heap.size){H:List Blk}(hH:HRel ρ S w H){t u ty e:TypeId}{ei:TI}{z:AV}{s:AV}{vs X:Value}{m:Nat}{src:Nat→List AV}{f:Nat→Nat→Value}{N:AV→List Blk→Prop}
  (hei:TY e=some ei) (hz:ei.zero=some z) (hzn:z.isAny=false) (hzl:z.cells.length=ei.size) (hsz0:ei.size≠0)
  (hs:V ρ S w s vs) (hsr:∀ e,e<m→(src e).length=ei.size) (hval:∀ (e j:Nat) (c:AV),e<m→(src e)[j]? =some c→V ρ S w c (f e j))
  (hrun0:m=0→∀ (b:Option Addr) (len cap:Nat),len≤cap→(Builtin.append_ #[t,u] ty #[.slice b len cap,X]).run P w= .ok (.slice b len cap) w)
  (hrunN:0<m→∀ (info:TypeInfo) (zv:Value),P.info? e=some info→info.size=ei.size→info.zero=some zv→(m:Int)≤9223372036854775807→m*info.bytes≤281474976710656→
   (Builtin.append_ #[t,u] ty #[.slice none 0 0,X]).run P w= .ok (.slice (some ⟨w.heap.size,0,none⟩) m (grownCap w m 0 e)) (w.drew.alloc (.cells ((Ce f m ei.size).toArray++Builtin.zeroCells zv.cells (grownCap w m 0 e - m)) e)))
  (hrunG:0<m→∀ (info:TypeInfo) (zv:Value),P.info? e=some info→info.size=ei.size→info.zero=some zv→∀ (b:Addr) (len cap:Nat) (olds:List Value),olds.length=len*info.size→(∀ j v,olds[j]? =some v→w.cell? (b.add j)=some v)→
   cap<len+m→((len+m:Nat):Int)≤9223372036854775807→Builtin.nextslicecap (len+m) cap*info.bytes≤281474976710656→
   (Builtin.append_ #[t,u] ty #[.slice (some b) len cap,X]).run P w= .ok (.slice (some ⟨w.heap.size,0,none⟩) (len+m) (grownCap w (len+m) cap e)) (w.drew.alloc (.cells (olds.toArray++(Ce f m ei.size).toArray++Builtin.zeroCells zv.cells (grownCap w (len+m) cap e - (len+m))) e)))
  (hrunR:0<m→(∀ u ∈ Ce f m ei.size,u.oneCell'=true)→∀ (info:TypeInfo),P.info? e=some info→info.size=ei.size→∀ (b off len cap:Nat),len+m≤cap→
   (∀ j,j<(Ce f m ei.size).length→(w.cell? ⟨b,off+len*info.size+j,none⟩).isSome=true)→(∀ j,j<(Ce f m ei.size).length→w.frozen? ⟨b,off+len*info.size+j,none⟩=false)→
   (Builtin.append_ #[t,u] ty #[.slice (some ⟨b,off,none⟩) len cap,X]).run P w= .ok (.slice (some ⟨b,off,none⟩) (len+m) cap) (w.setCells b (off+len*info.size) (Ce f m ei.size)))
  (h:X0 e ei s m src H N):
  VOk P ρ S w (Builtin.append_ #[t,u] ty #[vs,X]) N:=by
 obtain⟨info,d,hi,_,hsize,hbytes,_,_,hzz,_⟩:=hTY.get hei;rw[hz] at hzz;cases hzi:info.zero with
 |none=>rw[hzi] at hzz;cases hzz
 |some zv=>
 rw[hzi] at hzz;simp only[Option.map_some,Option.some.injEq] at hzz;have hzc:zv.cells.size=ei.size:=by
  have:=(bL (ρ:=ρ) (S:=S) (w:=w) hzz.symm (AV.ne_any hzn)).1;omega
 have none_run:=fun(b:Option Addr) (len cap:Nat) (hlc:len≤cap) (hm:m=0)=>hrun0 hm b len cap hlc
 -- a new row behind nothing
 have grow_nil:∀ (T1:Option Nat),Qr T1 e=e→0<m→Dc ei m→N (.osl H.length ei.size 0 m none) (H++[.row ei.size m src T1])→VOk P ρ S w (Builtin.append_ #[t,u] ty #[.slice none 0 0,X]) N:=fun T1 hT1 hm hg hN=>by
  have hr:=hrunN hm info zv hi hsize hzi (by have:=hg.2;omega) (by rw[hbytes];have:=hg.1;omega)
  have hge:=grownCap_ge w m 0 e;refine VOk.newDrew hns hH hT1 hr hN hge (grownCap_le_maxLen w m 0 e (by rw[Ch];exact hg.2)) ?_ (Ao8 hsr hval _)
  simp only[Array.size_append,List.size_toArray,Bw,size_zeroCells,hzc,←Nat.add_mul];exact Nat.mul_le_mul_right _ (by omega)
 -- a new row behind some
 have grow_some:∀ (T1:Option Nat),Qr T1 e=e→∀ (H2:List Blk),HRel ρ S w H2→∀ (b:Addr) (len cap:Nat) (get:Nat→List AV) (fg:Nat→Nat→Value),0<m→cap<len+m→Dc ei (len+m)→
   (∀ e,e<len→(get e).length=ei.size)→(∀ (e j:Nat) (c:AV),e<len→(get e)[j]? =some c→V ρ S w c (fg e j))→
   (∀ (k:Nat) v,(Ce fg len ei.size)[k]? =some v→w.cell? (b.add k)=some v)→N (.osl H2.length ei.size 0 (len+m) none) (H2++[.row ei.size (len+m) (Bq len get src) T1])→
   VOk P ρ S w (Builtin.append_ #[t,u] ty #[.slice (some b) len cap,X]) N:=fun T1 hT1 H2 hH2 b len cap get fg hm hgt hg hz1 hv1 hc1 hN=>by
  have hr:=hrunG hm info zv hi hsize hzi b len cap (Ce fg len ei.size) (by rw[Bw,hsize]) hc1 hgt
   (by have:=hg.2;omega) (growslice_fits hgt (by rw[hbytes];exact hg.1))
  have hge:=grownCap_ge w (len+m) cap e;exact VOk.newDrew hns hH2 hT1 hr hN hge (grownCap_le_maxLen w (len+m) cap e (by rw[Ch];exact hg.2)) (Ao7 hzc hge) (Adf hz1 hsr hv1 hval _)
 unfold X0 at h;split at h
 ·-- nil
  cases hs;split at h
  ·rename_i hm;exact VOk.same hH (none_run none 0 0 (Nat.le_refl _) hm) h .nilsl
  ·rename_i hm;exact grow_nil (some e) rfl (by omega) h.1 h.2
 ·-- clipped
  rename_i sz len get;split at h
  ·rename_i hsz;subst hsz;split at h
   ·rename_i hm;cases hs with
    |sln _ _ _ bo=>exact VOk.same hH (none_run bo 0 0 (Nat.le_refl _) hm) h (.sln _ _ _ _)
    |sl _ _ _ _ b o cap f hst hl hm' hcl hz hc hv=>exact VOk.same hH (none_run _ _ _ hl hm) h (.sl _ _ _ _ b o cap f hst hl hm' hcl hz hc hv)
   ·rename_i hm;cases hs with
    |sln _ _ _ bo=>
     cases bo with
     |none=>
      have e1:Bq 0 get src=src:=funext fun e=>by simp[Bq]
      rw[e1,Nat.zero_add] at h;exact grow_nil none rfl (by omega) h.1 h.2
     |some b=>
      refine grow_some none rfl H hH b 0 0 get (fun _ _=>undef) (by omega) (by omega) h.1 (fun e he=>by omega) (fun e j c he=>by omega) (fun k v hk=>?_) h.2
      obtain⟨e',j,he,_⟩:=Ku hk;omega
    |sl _ _ _ _ b o cap f hst hl hm' hcl hz hc hv=>
     have hcap:=hcl rfl;refine grow_some none rfl H hH ⟨b,o,none⟩ len cap get f (by omega) (by omega) h.1 hz (fun e j c he hc=>(hv e j c he hc).lift) (fun k v hk=>?_) h.2
     obtain⟨e',j,he,hj,rfl,rfl⟩:=Ku hk;rw[addr_add,←Nat.add_assoc];exact hc e' j he hj
  ·exact h.elim
 ·-- an own row of known capacity
  rename_i id sz off len c;split at h
  ·rename_i sz' L get T0 hid;split at h
   ·rename_i hcond;obtain⟨hszA,hszB⟩:=hcond;subst hszA;subst hszB;obtain⟨b,o,cp,rfl,hb,hl,hmx,ho,hx,hcap⟩:=hs.oslR;obtain rfl:=hcap c rfl;obtain⟨arr,T,fr,h1,hnS,h2,h3,h4,h5,h6⟩:=Adh hH hid hb;obtain⟨arr',T',fr',h1',h7⟩:=hx;rw[h1] at h1';cases h1';split at h
    ·rename_i hfit;obtain⟨⟨hLo,hone⟩,hN⟩:=h;by_cases hm:m=0
     ·subst hm;refine⟨_,w,_,_,ρ,none_run _ _ _ hl rfl,hN,?_,?_,Ext.refl _ _ _⟩
      ·exact .osl _ _ _ _ _ b o cp hb hl hmx ho ⟨arr,_,fr,h1,h7⟩ (fun c' hc'=>hcap c' hc')
      ·refine Jj hH hid rfl hb (Ext.refl _ _ _) rfl (fun _ _=>rfl) ?_;have:(fun e=>if off+len≤e∧e<off+len+0 then src (e - (off+len)) else get e)=get:=funext fun e=>by
        rw[if_neg (by omega)]
       rw[this];exact hH.blk id _ hid
     ·have hoff:o=off*ei.size:=ho (by omega)
      subst hoff;have hin:(off+len)*ei.size+m*ei.size≤arr.size:=by
       have:(off+len+m)*ei.size≤(off+cp)*ei.size:=Nat.mul_le_mul_right _ (by omega)
       rw[Nat.add_mul] at this;omega
      have hstart:off*ei.size+len*info.size=(off+len)*ei.size:=(by rw[hsize,Nat.add_mul]);have hr:=hrunR (by omega) (dS hsr hval hone) info hi hsize b (off*ei.size) len cp hfit
       (fun j hj=>by
        rw[Bw] at hj;rw[hstart];simp only[World.cell?,h1];simp;omega)
       (fun j hj=>by
        rw[Bw] at hj;rw[hstart];exact h3 _ (by omega))
      rw[hstart] at hr;have hE:Ext ρ S w ρ S (w.setCells b ((off+len)*ei.size) (Ce f m ei.size)):=Pj hH hb hnS (setCells_size _ _ _ _) (fun k hk=>Cv b _ _ _ k hk)
       (fun a' T' f' h'=>by rw[h1] at h';cases h';exact⟨_,_,Ds _ _ _ _ _ _ _ h1,Du _ _ _⟩) (Cc _ _ _ _).1 (Cc _ _ _ _).2.1 (Cc _ _ _ _).2.2
      refine⟨_,_,_,_,ρ,hr,hN,?_,?_,hE⟩
      ·exact .osl _ _ _ _ _ b _ cp hb hfit hmx ho ⟨_,_,fr,Ds _ _ _ _ _ _ _ h1,by rw[Du];exact h7⟩ (fun c' hc'=>hcap c' hc')
      ·refine Jj hH hid rfl hb hE (setCells_size _ _ _ _) (fun k hk=>Cv b _ _ _ k hk) ?_;refine dT (H:=H) (L:=L) (get:=get) (src:=src) hE (fun b' hb'=>by rw[hb] at hb';cases hb';rfl) h1 hnS h2 h3 hin _ L h2 (fun e he=>?_) (fun e j c he hcase hc=>?_) (fun e j c he hlt hc=>?_)
       ·show(if off+len≤e∧e<off+len+m then _ else _:List AV).length=_
        split
        ·exact hsr _ (by omega)
        ·exact h4 e he
       ·have hc':(if off+len≤e∧e<off+len+m then src (e - (off+len)) else get e)[j]? =some c:=hc
        rw[if_neg (by omega)] at hc'
        exact h5 e j c he hc'
       ·have hc':(if off+len≤off+len+e∧off+len+e<off+len+m then src (off+len+e - (off+len)) else get (off+len+e))[j]? =some c:=hc
        rw[if_pos (by omega),show off+len+e - (off+len)=e by omega] at hc'
        exact hval e j c he hc'
    ·rename_i hfit;obtain⟨⟨hLo,hg⟩,hN⟩:=h;refine grow_some none rfl H hH ⟨b,o,none⟩ len cp (fun e=>get (off+e)) (fun e j=>arr.getD ((off+e)*ei.size+j) undef) (by omega) (by omega) hg (fun e he=>h4 _ (by omega)) (fun e j c he hc=>h5 _ j c (by omega) hc) (fun k v hk=>?_) hN
     obtain⟨e',j,he,hj,rfl,rfl⟩:=Ku hk;rw[addr_add,ho (by omega),←Nat.add_assoc,←Nat.add_mul]
     exact h6 _ j (by omega) hj
   ·exact h.elim
  ·exact h.elim
 ·-- an own row of unknown capacity
  rename_i id sz len;split at h
  ·rename_i sz' L get T0 hid;split at h
   ·rename_i hcond;obtain⟨hszA,hszB⟩:=hcond;subst hszA;subst hszB;obtain⟨b,o,cp,rfl,hb,hl,hmx,ho,hx,_⟩:=hs.oslR;obtain⟨arr,T,fr,h1,hnS,h2,h3,h4,h5,h6⟩:=Adh hH hid hb;obtain⟨arr',T',fr',h1',h7⟩:=hx;rw[h1] at h1';cases h1';obtain⟨⟨hLo,hg,hone⟩,hN⟩:=h;rw[Nat.zero_add] at h7;have hnew:∀ e,e<len+m→(Bq len get src e).length=ei.size:=fun e he=>by
     unfold Bq;split
     ·exact h4 _ (by omega)
     ·exact hsr _ (by omega)
    have hmove:∀ i b',E6 ρ H.length b i=some b'→(∃ j,ρ j=some b')∨w.heap.size≤b':=fun i b' hi'=>by
     unfold E6 at hi';split at hi'
     ·cases hi';exact .inl ⟨id,hb⟩
     ·exact .inl ⟨_,hi'⟩
    have hrho:∀ i b',ρ i=some b'→E6 ρ H.length b i=some b':=fun i b' hi'=>by
     have:=(hH.out i b' hi').1;unfold E6;rw[if_neg (by omega)];exact hi'
    by_cases hm:m=0
    ·subst hm;have hE:Ext ρ S w (E6 ρ H.length b) S w:=⟨hrho,fun _ h=>h,fun _ _ _=>rfl,Nat.le_refl _,fun _ arr _ fr h=>⟨arr,fr,h,rfl⟩,hmove,fun _ h=>.inl h,rfl,rfl,rfl⟩;refine⟨_,w,_,_,E6 ρ H.length b,none_run _ _ _ hl rfl,hN,?_,?_,hE⟩
     ·exact .osl _ _ _ _ _ b o cp (Dx _ _) hl hmx ho ⟨arr,_,fr,h1,by rw[Nat.zero_add];exact h7⟩ (fun c' hc'=>by cases hc')
     ·refine sM hH hid rfl hb hE rfl (fun _ _=>rfl) ?_;intro b' hb';rw[Dx] at hb';cases hb';refine⟨hnS,arr,_,fr,by rw[Adg T0 e T];exact h1,?_,h3,hnew,fun e j c v he hc hv=>?_⟩
      ·have:(len+0)*ei.size≤L*ei.size:=Nat.mul_le_mul_right _ (by omega)
       omega
      ·have hc':(get e)[j]? =some c:=(by simpa[Bq,show e<len by omega] using hc);have:=h5 e j c (by omega) hc'
       rw[Array.getD_eq_getD_getElem?,hv] at this;exact this.mono hE
    ·by_cases hfit:len+m≤cp
     ·have ho0:o=0:=(by rw[ho (by omega)];simp);subst ho0;have hin:len*ei.size+m*ei.size≤arr.size:=by
       have:(len+m)*ei.size≤cp*ei.size:=Nat.mul_le_mul_right _ (by omega)
       rw[Nat.add_mul] at this;omega
      have hr:=hrunR (by omega) (dS hsr hval hone) info hi hsize b 0 len cp hfit
       (fun j hj=>by
        rw[Bw] at hj;simp only[World.cell?,h1];simp[hsize];omega)
       (fun j hj=>by
        rw[Bw] at hj;exact h3 _ (by rw[hsize];omega))
      rw[Nat.zero_add,hsize] at hr;have hE0:Ext ρ S w ρ S (w.setCells b (len*ei.size) (Ce f m ei.size)):=Pj hH hb hnS (setCells_size _ _ _ _) (fun k hk=>Cv b _ _ _ k hk)
       (fun a' T' f' h'=>by rw[h1] at h';cases h';exact⟨_,_,Ds _ _ _ _ _ _ _ h1,Du _ _ _⟩) (Cc _ _ _ _).1 (Cc _ _ _ _).2.1 (Cc _ _ _ _).2.2
      have hE:Ext ρ S w (E6 ρ H.length b) S (w.setCells b (len*ei.size) (Ce f m ei.size)):=
       ⟨hrho,hE0.st,hE0.same,hE0.size,hE0.shp,hmove,hE0.stf,hE0.os,hE0.tape,hE0.output⟩
      refine⟨_,_,_,_,E6 ρ H.length b,hr,hN,?_,?_,hE⟩
      ·exact .osl _ _ _ _ _ b _ cp (Dx _ _) hfit hmx (fun _=>by simp) ⟨_,_,fr,Ds _ _ _ _ _ _ _ h1,by rw[Du,Nat.zero_add];exact h7⟩ (fun c' hc'=>by cases hc')
      ·refine sM hH hid rfl hb hE (setCells_size _ _ _ _) (fun k hk=>Cv b _ _ _ k hk) ?_;refine dT (H:=H) (L:=L) (get:=get) (src:=src) hE (fun b' hb'=>by rw[Dx] at hb';cases hb';rfl) (T1:=Aip T0 e) (T:=Qr T0 T) (by rw[Adg];exact h1) hnS h2 h3 hin _ (len+m) (by rw[Nat.add_mul];exact hin) hnew (fun e j c he hcase hc=>?_) (fun e j c he hlt hc=>?_)
       ·have hc':(get e)[j]? =some c:=(by simpa[Bq,show e<len by omega] using hc);exact h5 e j c (by omega) hc'
       ·have hc':(if len+e<len then get (len+e) else src (len+e - len))[j]? =some c:=hc
        rw[if_neg (by omega),Nat.add_sub_cancel_left] at hc'
        exact hval e j c he hc'
     ·have hlen:(H.set id .dead).length=H.length:=(by simp);refine grow_some (Aip T0 e) (Ao6 _ _) (H.set id .dead) (Aml hH id) ⟨b,o,none⟩ len cp get (fun e j=>arr.getD (e*ei.size+j) undef) (by omega) (by omega) hg (fun e he=>h4 _ (by omega)) (fun e j c he hc=>h5 _ j c (by omega) hc) (fun k v hk=>?_) (by rw[hlen];exact hN)
      obtain⟨e',j,he,hj,rfl,rfl⟩:=Ku hk;rw[addr_add,ho (by omega),Nat.zero_mul,Nat.zero_add]
      exact h6 _ j (by omega) hj
   ·exact h.elim
  ·exact h.elim
 ·exact h.elim
theorem Abm(hTY:TyOk P TY)(hns:∀ b,S b→b<w.heap.size){H:List Blk}(hH:HRel ρ S w H){t ty e:TypeId}{ei:TI}{z:AV}{s:AV}{vs:Value}{m:Nat}{src:Nat→List AV}{ao:Option Addr}{cx:Nat}{N:AV→List Blk→Prop}
  (ht:P.underlying t=some (.slice e)) (hei:TY e=some ei) (hz:ei.zero=some z) (hzn:z.isAny=false) (hzl:z.cells.length=ei.size) (hsz0:ei.size≠0)
  (hs:V ρ S w s vs) (hrow:RowIs ρ S w ei.size m src ao) (h:X0 e ei s m src H N):
  VOk P ρ S w (Builtin.append_ #[t,t] ty #[vs,.slice ao m cx]) N:=by
 obtain⟨info,d,hi,_⟩:=hTY.get hei;have h0:m=0→∀ (b:Option Addr) (len cap:Nat),len≤cap→(Builtin.append_ #[t,t] ty #[.slice b len cap,.slice ao m cx]).run P w= .ok (.slice b len cap) w:=fun hm b len cap hlc=>by
  subst hm;exact gH ht hi b len cap cx ao hlc
 rcases Nat.eq_zero_or_pos m with hm|hm
 ·exact X1 (f:=fun _ _=>undef) hTY hns hH hei hz hzn hzl hsz0 hs hrow.size (fun e j c he=>by omega) h0 (fun h=>by omega) (fun h=>by omega) (fun h=>by omega) h
 ·obtain⟨a,f,rfl,hcell,hval⟩:=hrow.vals hm;refine X1 hTY hns hH hei hz hzn hzl hsz0 hs hrow.size hval h0 (fun _ info zv hi hsize hzi h63 h48=>?_) (fun _ info zv hi hsize hzi b len cap olds hlo hold hg h63 hfit=>?_) (fun _ hone info hi hsize b off len cap hroom hc hf=>?_) h
  ·exact run_append_nil (P:=P) w t ty e info zv ht hi hzi a m cx (Ce f m ei.size) (by rw[Bw,hsize]) hcell hm h63 h48
  ·exact run_append_grow (P:=P) w t ty e info zv ht hi hzi b len cap olds hlo hold a m cx (Ce f m ei.size) (by rw[Bw,hsize]) hcell hg h63 hfit
  ·exact run_append_room_cells (P:=P) w t ty e info ht hi b off len cap a m cx (Ce f m ei.size) (by rw[Bw,hsize]) hcell hone hroom hc hf
def Mh(l:List UInt8):Nat→List AV:=fun e=>[.int .u8 (l.getD e 0).toNat]
theorem Adi(x:ByteArray):Ce (fun e _=>Value.int .u8 ((x.data.toList.getD e 0).toNat:Int)) x.data.toList.length 1=Lib.strCells x:=by
 refine List.ext_getElem? fun k=>?_;unfold Ce Lib.strCells;simp only[Nat.mul_one,List.getElem?_map,Nat.div_one];rcases Nat.lt_or_ge k x.data.toList.length with h|h
 ·rw[List.getElem?_range h,List.getElem?_eq_getElem h];have h':k<x.data.size:=by simpa using h
  simp only[Option.map_some,List.getD_eq_getElem?_getD,Array.getElem?_toList,Array.getElem_toList,Array.getElem?_eq_getElem h',Option.getD_some]
 ·rw[List.getElem?_eq_none (by simpa using h),List.getElem?_eq_none h];rfl
theorem Abn(hTY:TyOk P TY)(hns:∀ b,S b→b<w.heap.size){H:List Blk}(hH:HRel ρ S w H){t u ty e:TypeId}{ei:TI}{z:AV}{s:AV}{vs:Value}{x:ByteArray}{N:AV→List Blk→Prop}
  (ht:P.underlying t=some (.slice e)) (hu:P.underlying u=some .string) (hei:TY e=some ei) (hz:ei.zero=some z) (hzn:z.isAny=false) (hzl:z.cells.length=ei.size) (hsz1:ei.size=1)
  (hs:V ρ S w s vs) (h:X0 e ei s x.data.toList.length (Mh x.data.toList) H N):
  VOk P ρ S w (Builtin.append_ #[t,u] ty #[vs,.string x]) N:=by
 have hxl:x.size=x.data.toList.length:=by rw[Array.length_toList];rfl
 have hrv:Ce (fun e _=>Value.int .u8 ((x.data.toList.getD e 0).toNat:Int)) x.data.toList.length ei.size=Lib.strCells x:=by rw[hsz1];exact Adi x
 refine X1 (f:=fun e _=>Value.int .u8 ((x.data.toList.getD e 0).toNat:Int)) hTY hns hH hei hz hzn hzl (by omega) hs (fun e he=>by rw[hsz1];rfl) (fun e j c he hc=>?_) (fun hm b len cap hlc=>?_) (fun hm info zv hi hsize hzi h63 h48=>?_) (fun hm info zv hi hsize hzi b len cap olds hlo hold hg h63 hfit=>?_) (fun hm hone info hi hsize b off len cap hroom hc hf=>?_) h
 ·cases j with
  |zero=>
   simp only[Mh,List.getElem?_cons_zero,Option.some.injEq] at hc;subst hc;have:=(x.data.toList.getD e 0).toNat_lt;exact .int _ _ (by show(0:Int)≤_;omega) (by show _≤(255:Int);omega)
  |succ j=>simp[Mh] at hc
 ·obtain⟨info,d,hi,_⟩:=hTY.get hei;have hf:(Builtin.firstCells info.size 0 (.string x)).run P w= .ok #[] w:=by simp[Builtin.firstCells]
  have h0:x.size=0:=by omega
  cases b<;>simp[Builtin.append_,run_underlying ht,run_underlying hu,sizeOf,typeInfo,hi,Builtin.lenOf,hlc,h0,hf,storeCells]
 ·have hr:=run_append_nil_string (P:=P) w t u ty e info zv ht hu hi hzi x (by omega) (by rw[hxl];exact h63) (by rw[hxl];exact h48)
  rw[hxl] at hr;rw[hr,hrv];congr 4
  unfold Lib.strCells;apply Array.ext'
  simp
 ·have hr:=Lib.run_append_grow_string (P:=P) w t u ty e info zv ht hu hi hzi b len cap olds hlo hold x (by rw[hxl];exact hg) (by rw[hxl];exact h63) (by rw[hxl];exact hfit)
  rw[hxl] at hr;rw[hr,hrv]
 ·rw[hrv] at hc hf ⊢;have hfc:=Lib.run_firstCells_string (P:=P) w info.size x;have hst:=run_storeCells_cells (P:=P) b (off+len*info.size) (Lib.strCells x) 0 w (by simpa using hc) (by simpa using hf) (Lib.strCells_oneCell x)
  simp only[Nat.add_zero] at hst;have hroom':len+x.size≤cap:=by omega
  rw[←hxl];simp[Builtin.append_,run_underlying ht,run_underlying hu,sizeOf,typeInfo,hi,Builtin.lenOf,hroom',hfc,Addr.add_lit,hst]
theorem rC(hTY:TyOk P TY)(hns:∀ b,S b→b<w.heap.size){H:List Blk}(hH:HRel ρ S w H){t ty:TypeId}{s x:AV}{vs vx:Value}{N:AV→List Blk→Prop}(hs:V ρ S w s vs)(hx:V ρ S w x vx)
  (h:Abl TY t s x H N):VOk P ρ S w (Builtin.append_ #[t,t] ty #[vs,vx]) N:=by
 unfold Abl at h;split at h
 ·exact h.elim
 ·rename_i i hi;obtain⟨info,d,h1,h2,_,_,_,h6,_,_⟩:=hTY.get hi;obtain⟨_,_,_,ks,_⟩:=B0 h6;split at h
  ·rename_i e hk;obtain rfl:=ks _ hk;split at h
   ·rename_i ei hei;split at h
    ·rename_i z hz;split at h
     ·rename_i hcond;obtain⟨sz,m,src,ao,cap,hK,rfl,_,_,hrow⟩:=bH hH hx h;split at hK
      ·rename_i hsz;subst hsz;exact Abm hTY hns hH h2 hei hz hcond.1 hcond.2.1 hcond.2.2 hs hrow (dR hK)
      ·exact hK.elim
     ·exact h.elim
    ·exact h.elim
   ·exact h.elim
  ·exact h.elim
def Abo(TY:TypeId→Option TI)(t u:TypeId)(s x:AV)(H:List Blk)(N:AV→List Blk→Prop):Prop:=
 match TY t,TY u,x with
 |some i,some iu,.str l=>(match i.kind,iu.kind with
  | .slice e,.str=>(match TY e with
   |some ei=>(match ei.zero with
    |some z=>if z.isAny=false∧z.cells.length=ei.size∧ei.size=1 then iE e ei s l.length (Mh l) H N else False
    |none=>False)
   |none=>False)
  |_,_=>False)
 |_,_,_=>False
theorem rD(hTY:TyOk P TY)(hns:∀ b,S b→b<w.heap.size){H:List Blk}(hH:HRel ρ S w H){t u ty:TypeId}{s x:AV}{vs vx:Value}{N:AV→List Blk→Prop}(hs:V ρ S w s vs)(hx:V ρ S w x vx)
  (h:Abo TY t u s x H N):VOk P ρ S w (Builtin.append_ #[t,u] ty #[vs,vx]) N:=by
 unfold Abo at h;split at h
 ·rename_i i iu l hi hu;obtain⟨info,d,h1,h2,_,_,_,h6,_,_⟩:=hTY.get hi;obtain⟨_,_,_,ks,_⟩:=B0 h6;obtain⟨info',d',h1',h2',_,_,_,h6',_,_⟩:=hTY.get hu;obtain⟨_,_,kstr,_⟩:=B0 h6';split at h
  ·rename_i e hk hk';obtain rfl:=ks _ hk;obtain rfl:=kstr hk';split at h
   ·rename_i ei hei;split at h
    ·rename_i z hz;split at h
     ·rename_i hcond;obtain⟨sx,rfl,hl,_⟩:=V.strR hx;subst hl;exact Abn hTY hns hH h2 h2' hei hz hcond.1 hcond.2.1 hcond.2.2 hs (dR h)
     ·exact h.elim
    ·exact h.elim
   ·exact h.elim
  ·exact h.elim
 ·exact h.elim
end
end Go.Vc
namespace Go.Vc
open Go
section
variable {P : Program} {TY : TypeId → Option TI} {ρ : Nat → Option Nat} {S : Nat → Prop} {w : World}
def Akc:TK→AV→AV→Option Bool
 | .ptr _,.nilp,.nilp=>some true
 | .ptr _,.ptr ..,.nilp=>some false
 | .ptr _,.eptr ..,.nilp=>some false
 | .ptr _,.rptr ..,.nilp=>some false
 | .slice _,.nilsl,.nilsl=>some true
 | .slice _,.osl ..,.nilsl=>some false
 |_,_,_=>none
theorem jN{k:TK}{x y:AV}{vx vy:Value}{a:Bool}(h:Akc k x y=some a)(hx:V ρ S w x vx)(hy:V ρ S w y vy):
  (∃ e p,k= .ptr e∧vx= .pointer p∧vy= .pointer none∧a=p.isNone)∨(∃ e p l c,k= .slice e∧vx= .slice p l c∧vy= .slice none 0 0∧a=p.isNone):=by
 unfold Akc at h;split at h<;>(try cases h)<;>cases hx<;>cases hy<;>first|exact .inl ⟨_,_,rfl,rfl,rfl,rfl⟩|exact .inr ⟨_,_,_,_,rfl,rfl,rfl,rfl⟩
def Amq(TY:TypeId→Option TI)(wr:Bool)(op:BinOp)(t:TypeId)(x y:AV)(N:AV→Prop):Prop:=
 match x,y with
 | .int k a,.int k' b=>(match op with
  | .shl=>bD .shl k a b N
  | .shr=>bD .shr k a b N
  |op=>if k=k' then Aoz wr op k a b N else False)
 | .str a,.str b=>Ao1 op a b N
 |x,y=>(match TY t with
  |none=>False
  |some i=>(match i.kind,x,y with
   | .bool,.bool a,.bool b=>(match op with
    | .eql=>N (.bool (a == b))
    | .neq=>N (.bool (!(a == b)))
    |_=>False)
   | .struct _,.agg xs,.agg ys=>if i.eqok=true then(match op with
    | .eql=>Io (eqA TY 12 t (.agg xs) (.agg ys)) fun r=>N (.bool r)
    | .neq=>Io (eqA TY 12 t (.agg xs) (.agg ys)) fun r=>N (.bool (!r))
    |_=>False) else False
   |k,x,y=>(match op with
    | .eql=>Io (Akc k x y) fun r=>N (.bool r)
    | .neq=>Io (Akc k x y) fun r=>N (.bool (!r))
    |_=>False)))
theorem Aiq(hTY:TyOk P TY){H:List Blk}(hH:HRel ρ S w H){wr:Bool}{op:BinOp}{t:TypeId}{x y:AV}{vx vy:Value}(xo yo:Operand){N:AV→Prop}(hx:V ρ S w x vx)(hy:V ρ S w y vy)
  (h:Amq TY wr op t x y N):VSt P ρ S w (do eqGuard op t xo yo vx vy;binOp op t vx vy) N:=by
 have fin:∀ (c:AV) (v:Value),(eqGuard op t xo yo vx vy).run P w= .ok () w→(binOp op t vx vy).run P w= .ok v w→N c→V ρ S w c v→VSt P ρ S w (do eqGuard op t xo yo vx vy;binOp op t vx vy) N:=
  fun c v h1 h2 h3 h4=>VSt.same hH (v:=v) (by simp only[Sem.run_bind,h1,Result.andThen_ok,h2]) h3 h4
 have gi:∀ (k k':IntKind) (a b:Int),(eqGuard op t xo yo (.int k a) (.int k' b)).run P w= .ok () w:=fun k k' a b=>by cases op<;>simp[eqGuard]
 have gs:∀ (a b:ByteArray),(eqGuard op t xo yo (.string a) (.string b)).run P w= .ok () w:=fun a b=>by cases op<;>simp[eqGuard]
 have gb:∀ (a b:Bool),(eqGuard op t xo yo (.bool a) (.bool b)).run P w= .ok () w:=fun a b=>by cases op<;>simp[eqGuard]
 have gp:∀ (a b:Option Addr),(eqGuard op t xo yo (.pointer a) (.pointer b)).run P w= .ok () w:=fun a b=>by cases op<;>simp[eqGuard]
 have gsl:∀ (a b:Option Addr) (l c l' c':Nat),(eqGuard op t xo yo (.slice a l c) (.slice b l' c')).run P w= .ok () w:=fun a b l c l' c'=>by cases op<;>simp[eqGuard]
 unfold Amq at h;split at h
 ·rename_i k a k' b;obtain⟨rfl,ha⟩:=hx.intR;obtain⟨rfl,hb⟩:=hy.intR;split at h
  ·obtain⟨c,v,h1,h2,h3⟩:=Y5 (P:=P) (ρ:=ρ) (S:=S) (w:=w) (k':=k') ha h t;exact fin c v (gi _ _ _ _) h1 h2 h3
  ·obtain⟨c,v,h1,h2,h3⟩:=Y5 (P:=P) (ρ:=ρ) (S:=S) (w:=w) (k':=k') ha h t;exact fin c v (gi _ _ _ _) h1 h2 h3
  ·split at h
   ·rename_i hk;subst hk;obtain⟨c,v,h1,h2,h3⟩:=Aik (P:=P) (ρ:=ρ) (S:=S) (w:=w) ha h t;exact fin c v (gi _ _ _ _) h1 h2 h3
   ·exact h.elim
 ·rename_i a b;obtain⟨s,rfl,rfl,_⟩:=hx.strR;obtain⟨s',rfl,rfl,_⟩:=hy.strR;obtain⟨c,v,h1,h2,h3⟩:=Ail (P:=P) (ρ:=ρ) (S:=S) (w:=w) h t;exact fin c v (gs _ _) h1 h2 h3
 ·split at h
  ·exact h.elim
  ·rename_i i hi;obtain⟨info,d,h1,h2,_,_,_,h6,_,h8⟩:=hTY.get hi;obtain⟨kb,_,_,ks,kp,_,_,kst⟩:=B0 h6;split at h
   ·rename_i a b hk _ _;obtain rfl:=hx.boolR;obtain rfl:=hy.boolR;split at h
    ·exact fin _ _ (gb _ _) (run_eql_bool w t a b (by rw[h2,kb hk])) h (.bool _)
    ·exact fin _ _ (gb _ _) (run_neq_bool w t a b (by rw[h2,kb hk])) h (.bool _)
    ·exact h.elim
   ·rename_i fs xs ys hk _ _;split at h
    ·rename_i hok;obtain⟨vs,rfl,lx,hxs⟩:=hx.aggR;obtain⟨us,rfl,ly,hys⟩:=hy.aggR;have hok':=hok;rw[←h8,Bool.and_eq_true,Bool.not_eq_true',Bool.not_eq_true'] at hok';split at h
     ·obtain⟨r,hr,hN⟩:=Ci h;exact fin _ _ (run_eqGuard_agg w _ t xo yo vs us hok'.1) (by rw[run_eql_struct,sE hTY 12 10000 (by omega) t _ _ r _ _ w hr hx hy];rfl) hN (.bool _)
     ·obtain⟨r,hr,hN⟩:=Ci h;exact fin _ _ (run_eqGuard_agg w _ t xo yo vs us hok'.1) (by rw[run_neq_struct,sE hTY 12 10000 (by omega) t _ _ r _ _ w hr hx hy];rfl) hN (.bool _)
     ·exact h.elim
    ·exact h.elim
   ·rename_i k' x' y' _ _;split at h
    ·obtain⟨r,hr,hN⟩:=Ci h;rcases jN hr hx hy with ⟨e,p,hk,rfl,rfl,rfl⟩|⟨e,p,l,c,hk,rfl,rfl,rfl⟩
     ·have he:P.underlying t=some (.pointer e):=(by rw[h2,kp e hk]);have hp:P.underlying t=some (.pointer (P.pointee t)):=(by simp[Program.pointee,he]);exact fin _ _ (gp _ _) (run_eql_pointer_nil w t p hp) hN (.bool _)
     ·exact fin _ _ (gsl _ _ _ _ _ _) (Lib.run_eql_slice_nil w t e p l c 0 0 (by rw[h2,ks e hk])) hN (.bool _)
    ·obtain⟨r,hr,hN⟩:=Ci h;rcases jN hr hx hy with ⟨e,p,hk,rfl,rfl,rfl⟩|⟨e,p,l,c,hk,rfl,rfl,rfl⟩
     ·have he:P.underlying t=some (.pointer e):=(by rw[h2,kp e hk]);have hp:P.underlying t=some (.pointer (P.pointee t)):=(by simp[Program.pointee,he]);exact fin _ _ (gp _ _) (run_neq_pointer_nil w t p hp) hN (.bool _)
     ·exact fin _ _ (gsl _ _ _ _ _ _) (run_neq_slice_nil_any w t e p l c 0 0 (by rw[h2,ks e hk])) hN (.bool _)
    ·exact h.elim
def unA(wr:Bool)(op:UnOp)(x:AV)(N:AV→Prop):Prop:=
 match op,x with
 | .neg,.int k n=>fitA wr k (-n) N
 | .not,.bool b=>N (.bool (!b))
 |_,_=>False
theorem Amr{H:List Blk}(hH:HRel ρ S w H){wr:Bool}{op:UnOp}{x:AV}{v:Value}{N:AV→Prop}(hx:V ρ S w x v)(h:unA wr op x N):VSt P ρ S w (Op.unary op v) N:=by
 unfold unA at h;split at h
 ·rename_i k n;obtain⟨rfl,_⟩:=hx.intR;obtain⟨c,h1,h2⟩:=Im (ρ:=ρ) (S:=S) (w:=w) h;exact VSt.same hH (v:=.int k (k.wrap (-n))) (by simp[Op.unary,Op.intArith]) h1 h2
 ·obtain rfl:=hx.boolR;rename_i b;exact VSt.same hH (v:=.bool (!b)) (by simp[Op.unary]) h (.bool _)
 ·exact h.elim
def Qu(x:AV)(N:AV→Prop):Prop:=
 match x with
 | .ptr .. =>N x
 | .eptr .. =>N x
 | .rptr .. =>N x
 | .fn .. =>N x
 |_=>False
def Qv(x:AV)(i:Nat)(N:AV→Prop):Prop:=
 match x with
 | .tup cs=>Io cs[i]? N
 |_=>False
theorem jO{H:List Blk}(hH:HRel ρ S w H){x:AV}{v:Value}{i:Nat}{N:AV→Prop}(hx:V ρ S w x v)(h:Qv x i N):VSt P ρ S w (Instr.extract v i) N:=by
 unfold Qv at h;split at h
 ·rename_i cs;cases hx with
  |tup _ vs hl hv=>
   obtain⟨c,hc,hN⟩:=Ci h;have hlt:i<vs.size:=by
    rw[←hl];rcases Nat.lt_or_ge i cs.length with h'|h'
    ·exact h'
    ·rw[List.getElem?_eq_none h'] at hc;cases hc
   exact VSt.same hH (v:=vs[i]) (by simp[Instr.extract,hlt]) hN (hv i c _ hc (by simp[hlt]))
 ·exact h.elim
def Ao9(TY:TypeId→Option TI)(t:TypeId)(x:AV)(N:AV→Prop):Prop:=
 match TY t with
 |none=>False
 |some i=>match i.kind,x with
  | .str,.str l=>((l.length:Int)≤9223372036854775807→N (.int .i64 l.length))
  | .slice _,.sl _ _ len _=>((len:Int)≤9223372036854775807→N (.int .i64 len))
  | .slice _,.osl _ _ _ len _=>((len:Int)≤9223372036854775807→N (.int .i64 len))
  | .slice _,.nilsl=>N (.int .i64 0)
  | .arr n _,_=>(n:Int)≤9223372036854775807∧N (.int .i64 n)
  |_,_=>False
theorem V.sl_len{clip:Bool}{sz len:Nat}{get:Nat→List AV}{v:Value}(h:V ρ S w (.sl clip sz len get) v):∃ a cp,v= .slice a len cp∧len≤cp∧cp≤maxLen:=by
 cases h with
 |sln _ _ _ ao=>exact⟨ao,0,rfl,Nat.le_refl _,Nat.zero_le _⟩
 |sl _ _ _ _ b o cap f hs hl hm=>exact⟨_,cap,rfl,hl,hm⟩
theorem Air(hTY:TyOk P TY){H:List Blk}(hH:HRel ρ S w H){t ty:TypeId}{x:AV}{v:Value}{N:AV→Prop}(hx:V ρ S w x v)(h:Ao9 TY t x N):VSt P ρ S w (Builtin.len_ #[t] ty #[v]) N:=by
 have inl:∀ n:Nat,(n:Int)≤9223372036854775807→V ρ S w (.int .i64 n) (.int .i64 n):=fun n hn=>V.int' (by simp only[inK,lo,hi];omega)
 unfold Ao9 at h;split at h
 ·exact h.elim
 ·rename_i i hi;obtain⟨info,d,h1,h2,_,_,_,h6,_,_⟩:=hTY.get hi;obtain⟨_,_,kstr,ks,_,ka,_⟩:=B0 h6;split at h
  ·rename_i l hk;obtain rfl:=kstr hk;obtain⟨s,rfl,rfl,hm⟩:=hx.strR;have hb:(s.data.toList.length:Int)≤9223372036854775807:=(by rw[Ch] at hm;omega);refine VSt.same hH (v:=goInt s.size) ?_ (h hb) (inl _ hb);simp[Builtin.len_,Al h2]
  ·rename_i e clip sz len get hk;obtain rfl:=ks _ hk;obtain⟨a,cp,rfl,hl,hm⟩:=hx.sl_len;have hb:(len:Int)≤9223372036854775807:=(by rw[Ch] at hm;omega);refine VSt.same hH (v:=goInt len) ?_ (h hb) (inl _ hb);simp[Builtin.len_,Al h2]
  ·rename_i e id sz off len cap hk;obtain rfl:=ks _ hk;obtain⟨b,o,cp,rfl,_,hl,hm,_⟩:=hx.oslR;have hb:(len:Int)≤9223372036854775807:=(by rw[Ch] at hm;omega);refine VSt.same hH (v:=goInt len) ?_ (h hb) (inl _ hb);simp[Builtin.len_,Al h2]
  ·rename_i e hk;obtain rfl:=ks _ hk;cases hx;refine VSt.same hH (v:=goInt 0) ?_ h (inl 0 (by decide))
   simp[Builtin.len_,Al h2]
  ·rename_i n e hk;obtain rfl:=ka _ _ hk;refine VSt.same hH (v:=goInt n) ?_ h.2 (inl _ h.1);simp[Builtin.len_,Al h2]
  ·exact h.elim
end
end Go.Vc
