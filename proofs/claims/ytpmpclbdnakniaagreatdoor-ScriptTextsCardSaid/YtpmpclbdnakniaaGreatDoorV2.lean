/- Operations that look into memory or make it. -/
import Derived.Test.YtpmpclbdnakniaaGreatDoorV1
import Derived.ArgAppend
import Derived.Laws.Tables
import Derived.Laws.MakeOwn
set_option linter.all false
namespace Go.Vc
open Go
section
variable {P : Program} {TY : TypeId → Option TI} {ρ : Nat → Option Nat} {S : Nat → Prop} {w : World}
def OpOk(P:Program)(ρ:Nat→Option Nat)(S:Nat→Prop)(w:World)(s:Sem Next)(N:AV→List Blk→Prop):Prop:=
 ∃ v w' c H' ρ',(s.run P w= .ok (.value v) w'∨(s.run P w= .ok .skip w'∧v=undef))∧N c H'∧V ρ' S w' c v∧HRel ρ' S w' H'∧Ext ρ S w ρ' S w'
def VOk(P:Program)(ρ:Nat→Option Nat)(S:Nat→Prop)(w:World)(s:Sem Value)(N:AV→List Blk→Prop):Prop:=
 ∃ v w' c H' ρ',s.run P w= .ok v w'∧N c H'∧V ρ' S w' c v∧HRel ρ' S w' H'∧Ext ρ S w ρ' S w'
def VSt(P:Program)(ρ:Nat→Option Nat)(S:Nat→Prop)(w:World)(s:Sem Value)(N:AV→Prop):Prop:=
 ∃ v c,s.run P w= .ok v w∧N c∧V ρ S w c v
theorem VSt.same{s:Sem Value}{N:AV→Prop}{H:List Blk}(hH0:HRel ρ S w H){c:AV}{v:Value}(h:s.run P w= .ok v w)(hN:N c)(hv:V ρ S w c v):VSt P ρ S w s N:=
 ⟨v,c,h,hN,hv⟩
theorem VSt.ok{s:Sem Value}{N:AV→List Blk→Prop}{H:List Blk}(h:VSt P ρ S w s (fun c=>N c H))(hH:HRel ρ S w H):VOk P ρ S w s N:=by
 obtain⟨v,c,h1,h2,h3⟩:=h;exact⟨v,w,c,H,ρ,h1,h2,h3,hH,Ext.refl _ _ _⟩
def OpSt(P:Program)(ρ:Nat→Option Nat)(S:Nat→Prop)(w:World)(s:Sem Next)(N:AV→Prop):Prop:=
 ∃ v c,s.run P w= .ok (.value v) w∧N c∧V ρ S w c v
theorem VSt.op{s:Sem Value}{N:AV→Prop}(h:VSt P ρ S w s N):OpSt P ρ S w (do pure (.value (←s))) N:=by
 obtain⟨v,c,h1,h2,h3⟩:=h;exact⟨v,c,by simp[h1],h2,h3⟩
theorem OpSt.ok{s:Sem Next}{N:AV→List Blk→Prop}{H:List Blk}(h:OpSt P ρ S w s (fun c=>N c H))(hH:HRel ρ S w H):OpOk P ρ S w s N:=by
 obtain⟨v,c,h1,h2,h3⟩:=h;exact⟨v,w,c,H,ρ,.inl h1,h2,h3,hH,Ext.refl _ _ _⟩
theorem VOk.op{s:Sem Value}{N:AV→List Blk→Prop}(h:VOk P ρ S w s N):OpOk P ρ S w (do pure (.value (←s))) N:=by
 obtain⟨v,w',c,H',ρ',h1,h2⟩:=h;exact⟨v,w',c,H',ρ',.inl (by simp[h1]),h2⟩
theorem VOk.same{s:Sem Value}{N:AV→List Blk→Prop}{H:List Blk}(hH:HRel ρ S w H){c:AV}{v:Value}(h:s.run P w= .ok v w)(hN:N c H)(hv:V ρ S w c v):VOk P ρ S w s N:=
 ⟨v,w,c,H,ρ,h,hN,hv,hH,Ext.refl _ _ _⟩
theorem VOk.new{s:Sem Value}{N:AV→List Blk→Prop}{H:List Blk}(hH:HRel ρ S w H){c:AV}{v:Value}{o:Obj}{blk:Blk}(h:s.run P w= .ok v (w.alloc o))(hN:N c (H++[blk]))
  (hv:V (E6 ρ H.length w.heap.size) S (w.alloc o) c v) (hb:BRel (E6 ρ H.length w.heap.size) S (w.alloc o) H.length blk):VOk P ρ S w s N:=
 ⟨v,w.alloc o,c,_,_,h,hN,hv,jG hH o hb,Vx hH o⟩
theorem Dx(n b:Nat):E6 ρ n b n=some b:=by simp[E6]
theorem Hl(w:World)(c:Array Value)(t:TypeId)(o:Nat):(w.alloc (.cells c t)).frozen? ⟨w.heap.size,o,none⟩=false:=by
 simp only[World.frozen?,Cu];simp
theorem V.alloc{H:List Blk}(hH:HRel ρ S w H)(o:Obj){c:AV}{v:Value}(h:V ρ S w c v):V (E6 ρ H.length w.heap.size) S (w.alloc o) c v:=h.mono (Vx hH o)
def bE(TY:TypeId→Option TI)(e:TypeId)(H:List Blk)(N:AV→List Blk→Prop):Prop:=
 match TY e with
 |none=>False
 |some i=>match i.zero with
  |none=>False
  |some z=>match z with
   | .any=>False
   |z=>N (.ptr H.length 0) (H++[.var z.cells (some e)])
def Ao2(x:AV)(H:List Blk)(N:AV→List Blk→Prop):Prop:=
 match x with
 | .any=>False
 |x=>N (.ptr H.length 0) (H++[.var x.cells])
theorem dQ{H:List Blk}(hH:HRel ρ S w H)(hns:∀ b,S b→b<w.heap.size){c:AV}{v:Value}(hn:c≠ .any)(h:V ρ S w c v)(T:TypeId){T1:Option Nat}(hT:Qr T1 T=T):
  BRel (E6 ρ H.length w.heap.size) S (w.alloc (.cells v.cells T)) H.length (.var c.cells T1):=by
 intro b hb;rw[Dx] at hb;cases hb;obtain⟨h1,h2⟩:=h.cells hn;exact⟨fun hs=>Nat.lt_irrefl _ (hns _ hs),v.cells,T,(0,0),by rw[hT];exact Cu w _,h1.symm,fun o _=>Hl w _ _ o,fun j c v hc hv=>(h2 j c v hc hv).alloc hH _⟩
theorem Aim(hns:∀ b,S b→b<w.heap.size){H:List Blk}(hH:HRel ρ S w H){x:AV}{v:Value}{N:AV→List Blk→Prop}(hx:V ρ S w x v)(h:Ao2 x H N)(T:TypeId):
  VOk P ρ S w (Instr.box T v) N:=by
 have hn:x≠ .any:=by rintro rfl;exact h
 have h':N (.ptr H.length 0) (H++[.var x.cells]):=by cases x<;>first|exact h|exact absurd rfl hn
 exact VOk.new hH (v:=.pointer (some ⟨w.heap.size,0,none⟩)) (o:=.cells v.cells T) (by simp[Instr.box,newVar,newRow]) h' (.ptr _ _ _ (Dx _ _)) (dQ hH hns hn hx T rfl)
theorem Abf(hTY:TyOk P TY)(hns:∀ b,S b→b<w.heap.size){H:List Blk}(hH:HRel ρ S w H){e:TypeId}{N:AV→List Blk→Prop}(h:bE TY e H N):
  VOk P ρ S w (Instr.alloc e true (.tuple #[])) N:=by
 unfold bE at h;split at h
 ·exact h.elim
 ·rename_i i hi;split at h
  ·exact h.elim
  ·rename_i z hz;obtain⟨v,hv,rfl⟩:=hTY.zero hi hz;have hn:AV.ofC v≠ .any:=(by intro he;rw[he] at h;exact h);have h':N (.ptr H.length 0) (H++[.var (AV.ofC v).cells (some e)]):=by
    generalize AV.ofC v=z at h hn
    cases z<;>first|exact h|exact absurd rfl hn
   exact VOk.new hH (v:=.pointer (some ⟨w.heap.size,0,none⟩)) (o:=.cells v.cells e) (by simp[Instr.alloc,hv,newVar,newRow]) h' (.ptr _ _ _ (Dx _ _)) (dQ hH hns hn (V.ofC v) e rfl)
def Io{α:Type}(o:Option α)(N:α→Prop):Prop:=match o with
 |some x=>N x
 |none=>False
theorem Ci{α:Type}{o:Option α}{N:α→Prop}(h:Io o N):∃ x,o=some x∧N x:=by
 cases o with
 |none=>exact h.elim
 |some x=>exact⟨x,rfl,h⟩
def Nt(TY:TypeId→Option TI)(t:TypeId)(p:AV)(H:List Blk)(N:AV→Prop):Prop:=
 match TY t with
 |none=>False
 |some i=>match p with
  | .ptr id j=>match H[id]? with
   |some (.var cs _)=>Io (Ns i cs j) N
   |_=>False
  | .eptr id sz e j=>match H[id]? with
   |some (.row sz' len get _)=>if sz=sz' then e<len∧Io (Ns i (get e) j) N else False
   |_=>False
  | .rptr cs j=>Io (Ns i cs j) N
  |_=>False
theorem V.ptrR{id j:Nat}{v:Value}(h:V ρ S w (.ptr id j) v):∃ b,v= .pointer (some ⟨b,j,none⟩)∧ρ id=some b:=by
 cases h with|ptr _ _ b h=>exact⟨b,rfl,h⟩
theorem V.eptrR{id sz e j:Nat}{v:Value}(h:V ρ S w (.eptr id sz e j) v):∃ b,v= .pointer (some ⟨b,e*sz+j,none⟩)∧ρ id=some b:=by
 cases h with|eptr _ _ _ _ b h=>exact⟨b,rfl,h⟩
theorem Y7(hTY:TyOk P TY){H:List Blk}(hH:HRel ρ S w H){t:TypeId}{p:AV}{v:Value}{N:AV→Prop}(hp:V ρ S w p v)(h:Nt TY t p H N):
  VSt P ρ S w (Instr.loadAt t v) N:=by
 unfold Nt at h;split at h
 ·exact h.elim
 ·rename_i i hi;split at h
  ·-- a variable
   rename_i id j;obtain⟨b,rfl,hb⟩:=hp.ptrR;split at h
   ·rename_i cs T0 hcs;obtain⟨c,hc,hN⟩:=Ci h;obtain⟨_,arr,T,fr,h1,h2,h3,h4⟩:=hH.blk id _ hcs b hb;have hA:∀ k,k<cs.length→w.cell? ⟨b,0+k,none⟩=some (arr.getD k undef):=fun k hk=>by
     simp only[World.cell?,h1];simp[h2 ▸ hk]
    have hB:∀ (k:Nat) (c:AV),cs[k]? =some c→V ρ S w c (arr.getD k undef):=fun k c' hc'=>by
     have hk:k<cs.length:=by
      rcases Nat.lt_or_ge k cs.length with h|h
      ·exact h
      ·rw[List.getElem?_eq_none h] at hc';cases hc'
     refine h4 k c' _ hc' ?_;simp[h2 ▸ hk]
    obtain⟨x,hx,hvx⟩:=T8 hTY hi hA hB hc;refine VSt.same hH (c:=c) (v:=x) ?_ hN hvx;simpa[Instr.loadAt,Instr.sureAddr] using hx
   ·exact h.elim
  ·rename_i id sz e j;obtain⟨b,rfl,hb⟩:=hp.eptrR;split at h
   ·rename_i sz' len get T0 hcs;split at h
    ·rename_i hsz;subst hsz;obtain⟨he,h⟩:=h;obtain⟨c,hc,hN⟩:=Ci h;obtain⟨_,arr,T,fr,h1,h2,h3,h4,h5⟩:=hH.blk id _ hcs b hb;have hl:=h4 e he;have hle:e*sz+sz≤arr.size:=by
      have:(e+1)*sz≤len*sz:=Nat.mul_le_mul_right _ he;rw[Nat.add_mul] at this;omega
     have hA:∀ k,k<(get e).length→w.cell? ⟨b,e*sz+k,none⟩=some (arr.getD (e*sz+k) undef):=fun k hk=>by
      have hk':e*sz+k<arr.size:=(by omega);simp only[World.cell?,h1];simp[hk']
     have hB:∀ (k:Nat) (c:AV),(get e)[k]? =some c→V ρ S w c (arr.getD (e*sz+k) undef):=fun k c' hc'=>by
      have hk:k<(get e).length:=by
       rcases Nat.lt_or_ge k (get e).length with h|h
       ·exact h
       ·rw[List.getElem?_eq_none h] at hc';cases hc'
      have hk':e*sz+k<arr.size:=(by omega);refine h5 e k c' _ he hc' ?_;simp[hk']
     obtain⟨x,hx,hvx⟩:=T8 hTY hi hA hB hc;refine VSt.same hH (c:=c) (v:=x) ?_ hN hvx;simpa[Instr.loadAt,Instr.sureAddr] using hx
    ·exact h.elim
   ·exact h.elim
  ·rename_i cs j;cases hp with
   |rptr _ _ b o f hs hb hc hv=>
    obtain⟨c,hlc,hN⟩:=Ci h;obtain⟨x,hx,hvx⟩:=T8 (ρ:=ρ) (S:=S) (w:=w) hTY hi hc (fun k c hk=>(hv k c hk).lift) hlc;refine VSt.same hH (c:=c) (v:=x) ?_ hN hvx;simpa[Instr.loadAt,Instr.sureAddr] using hx
  ·exact h.elim
def storable(i:TI)(x:AV):Bool:=(match x with| .any=>false|_=>true)&&x.cells.length == i.size&&x.cells.all AV.one
def Y8(TY:TypeId→Option TI)(t:TypeId)(p x:AV)(H:List Blk)(N:List Blk→Prop):Prop:=
 match TY t with
 |none=>False
 |some i=>if storable i x then match p with
  | .ptr id j=>match H[id]? with
   |some (.var cs T)=>if j+i.size≤cs.length then N (H.set id (.var (over cs j x.cells) T)) else False
   |_=>False
  | .eptr id sz e j=>match H[id]? with
   |some (.row sz' len get T)=>if sz=sz' then if j+i.size≤sz then e<len∧N (H.set id (.row sz len (fun k=>Xv (decide (k=e)) (over (get e) j x.cells) (get k)) T)) else False else False
   |_=>False
  |_=>False
  else False
theorem Xf(hTY:TyOk P TY){H:List Blk}(hH:HRel ρ S w H){t:TypeId}{p x:AV}{v u:Value}{N:List Blk→Prop}(hp:V ρ S w p v)(hx:V ρ S w x u)(h:Y8 TY t p x H N):
  ∃ w' H',(Instr.storeAt t v u).run P w= .ok () w'∧N H'∧HRel ρ S w' H'∧Ext ρ S w ρ S w':=by
 unfold Y8 at h;split at h
 ·exact h.elim
 ·rename_i i hi;split at h
  ·rename_i hst;simp only[storable,Bool.and_eq_true,beq_iff_eq] at hst;obtain⟨⟨hn0,hsz⟩,hone⟩:=hst;have hn:x≠ .any:=(by rintro rfl;simp at hn0);obtain⟨hlen,hcs⟩:=hx.cells hn;split at h
   ·rename_i id j;obtain⟨b,rfl,hb⟩:=hp.ptrR;split at h
    ·rename_i cs T0 hcs';split at h
     ·rename_i hin;obtain⟨hns,arr,T,fr,h1,h2,h3,h4⟩:=hH.blk id _ hcs' b hb;have hrun:=Y4 (P:=P) (o:=j) hTY hi h1 h3 hx hn hsz hone (by omega)
      have hheap:=Ds b u.cells.toList j w arr _ fr h1;have hvl:j+u.cells.toList.length≤arr.size:=(by simp;omega);have hE:Ext ρ S w ρ S (w.setCells b j u.cells.toList):=Pj hH hb hns (setCells_size _ _ _ _) (fun k hk=>Cv b _ _ _ k hk)
       (fun a' T' f' h'=>by rw[h1] at h';cases h';exact⟨_,_,hheap,Du _ _ _⟩) (Cc _ _ _ _).1 (Cc _ _ _ _).2.1 (Cc _ _ _ _).2.2
      refine⟨_,_,?_,h,Jj hH hcs' rfl hb hE (setCells_size _ _ _ _) (fun k hk=>Cv b _ _ _ k hk) ?_,hE⟩
      ·simpa[Instr.storeAt,Instr.sureAddr] using hrun
      ·intro b' hb';rw[hb] at hb';cases hb';refine⟨hns,_,T,fr,hheap,?_,fun o ho=>?_,fun k c v hk hv=>?_⟩
       ·rw[Du,T7 (by omega)];exact h2
       ·rw[Du] at ho;rw[World.frozen?_setCells];exact h3 o ho
       ·rw[jH (by omega)] at hk
        rw[Vy _ _ _ _ hvl] at hv;have hl':u.cells.toList.length=x.cells.length:=(by simp[hlen]);split at hk
        ·rename_i hr;rw[if_pos (by omega)] at hv
         exact(hcs _ _ _ hk (by simpa using hv)).mono hE
        ·rename_i hr;rw[if_neg (by omega)] at hv
         exact(h4 k c v hk hv).mono hE
     ·exact h.elim
    ·exact h.elim
   ·rename_i id sz e j;obtain⟨b,rfl,hb⟩:=hp.eptrR;split at h
    ·rename_i sz' len get T0 hcs';split at h
     ·rename_i hszz;subst hszz;split at h
      ·rename_i hin;obtain⟨he,h⟩:=h;rw[Amn] at h;obtain⟨hns,arr,T,fr,h1,h2,h3,h4,h5⟩:=hH.blk id _ hcs' b hb;have hle:e*sz+sz≤arr.size:=by
        have:(e+1)*sz≤len*sz:=Nat.mul_le_mul_right _ he;rw[Nat.add_mul] at this;omega
       have hrun:=Y4 (P:=P) (o:=e*sz+j) hTY hi h1 h3 hx hn hsz hone (by omega)
       have hheap:=Ds b u.cells.toList (e*sz+j) w arr _ fr h1;have hvl:e*sz+j+u.cells.toList.length≤arr.size:=(by simp;omega);have hE:Ext ρ S w ρ S (w.setCells b (e*sz+j) u.cells.toList):=Pj hH hb hns (setCells_size _ _ _ _) (fun k hk=>Cv b _ _ _ k hk)
        (fun a' T' f' h'=>by rw[h1] at h';cases h';exact⟨_,_,hheap,Du _ _ _⟩) (Cc _ _ _ _).1 (Cc _ _ _ _).2.1 (Cc _ _ _ _).2.2
       refine⟨_,_,?_,h,Jj hH hcs' rfl hb hE (setCells_size _ _ _ _) (fun k hk=>Cv b _ _ _ k hk) ?_,hE⟩
       ·simpa[Instr.storeAt,Instr.sureAddr] using hrun
       ·intro b' hb';rw[hb] at hb';cases hb';refine⟨hns,_,T,fr,hheap,?_,fun o ho=>?_,fun e' he'=>?_,fun e' k c v he' hk hv=>?_⟩
        ·rw[Du];exact h2
        ·rw[Du] at ho;rw[World.frozen?_setCells];exact h3 o ho
        ·show(if e'=e then _ else _:List AV).length=sz
         split
         ·rw[T7 (by have:=h4 e he;omega)];exact h4 e he
         ·exact h4 e' he'
        ·have hk':(if e'=e then over (get e) j x.cells else get e')[k]? =some c:=hk
         rw[Vy _ _ _ _ hvl] at hv;have hl':u.cells.toList.length=x.cells.length:=(by simp[hlen]);by_cases hee:e'=e
         ·subst hee;rw[if_pos rfl,jH (by have:=h4 e' he;omega)] at hk'
          split at hk'
          ·rename_i hr;rw[if_pos (by omega)] at hv
           refine(hcs _ _ _ hk' ?_).mono hE;rw[←hv];simp only[Array.getElem?_toList];congr 1;omega
          ·rename_i hr;rw[if_neg (by omega)] at hv
           exact(h5 e' k c v he hk' hv).mono hE
         ·rw[if_neg hee] at hk';have hkl:k<sz:=by
           rcases Nat.lt_or_ge k sz with h|h
           ·exact h
           ·rw[List.getElem?_eq_none (by rw[h4 e' he'];exact h)] at hk';cases hk'
          rw[if_neg ?_] at hv
          ·exact(h5 e' k c v he' hk' hv).mono hE
          ·rintro⟨g1,g2⟩;rcases Nat.lt_or_gt_of_ne hee with hlt|hgt
           ·have:(e'+1)*sz≤e*sz:=Nat.mul_le_mul_right _ hlt;rw[Nat.add_mul] at this;omega
           ·have:(e+1)*sz≤e'*sz:=Nat.mul_le_mul_right _ hgt;rw[Nat.add_mul] at this;omega
      ·exact h.elim
     ·exact h.elim
    ·exact h.elim
   ·exact h.elim
  ·exact h.elim
end
end Go.Vc
namespace Go.Vc
open Go
section
variable {P : Program} {TY : TypeId → Option TI} {ρ : Nat → Option Nat} {S : Nat → Prop} {w : World}
def Ks(TY:TypeId→Option TI)(t:TypeId)(p:AV)(f:Nat)(N:AV→Prop):Prop:=
 match TY t with
 |none=>False
 |some i=>match i.kind with
  | .struct fs=>match fs[f]? with
   |some (off,ft)=>match TY ft with
    |some fi=>if fi.size=0 then False else match p with
     | .ptr id j=>N (.ptr id (j+off))
     | .eptr id sz e j=>N (.eptr id sz e (j+off))
     | .rptr cs j=>N (.rptr cs (j+off))
     |_=>False
    |none=>False
   |none=>False
  |_=>False
theorem Y9{i:TI}{d:TypeDesc}{fs:List (Nat × TypeId)}(h6:TK.of d=i.kind)(hk:i.kind= .struct fs){f off ft:Nat}(hf:fs[f]? =some (off,ft)):
  ∃ gs g,d= .struct gs∧gs[f]? =some g∧g.offset=off∧g.type=ft:=by
 obtain⟨gs,hd,hl,_⟩:=(B0 h6).2.2.2.2.2.2.2 _ hk;subst hl;rw[List.getElem?_map] at hf;cases hg:gs.toList[f]? with
 |none=>rw[hg] at hf;cases hf
 |some g=>
  rw[hg] at hf;simp at hf
  exact⟨gs,g,hd,by simpa using hg,hf.1,hf.2⟩
theorem bF(hTY:TyOk P TY){H:List Blk}(hH:HRel ρ S w H){t:TypeId}{p:AV}{v:Value}{f:Nat}{N:AV→Prop}(hp:V ρ S w p v)(h:Ks TY t p f N):
  VSt P ρ S w (Instr.fieldAt t v f) N:=by
 unfold Ks at h;split at h
 ·exact h.elim
 ·rename_i i hi;obtain⟨info,d,h1,h2,_,_,_,h6,_,_⟩:=hTY.get hi;split at h
  ·rename_i fs hk;split at h
   ·rename_i off ft hf;split at h
    ·rename_i fi hfi;split at h
     ·exact h.elim
     ·rename_i hsz;obtain⟨gs,g,rfl,hg,rfl,rfl⟩:=Y9 h6 hk hf;have hrun:∀ b o,(Instr.fieldAt t (.pointer (some ⟨b,o,none⟩)) f).run P w= .ok (.pointer (some ⟨b,o+g.offset,none⟩)) w:=by
       intro b o;unfold Instr.fieldAt;simp only[Sem.run_bind,Al h2,Result.andThen_ok,hg];simp[Instr.sureAddr,fieldPlace,hTY.size hfi,hsz,addr_add]
      split at h
      ·obtain⟨b,rfl,hb⟩:=hp.ptrR;exact VSt.same hH (hrun _ _) h (.ptr _ _ _ hb)
      ·obtain⟨b,rfl,hb⟩:=hp.eptrR;exact VSt.same hH (hrun _ _) h (by rw[Nat.add_assoc];exact .eptr _ _ _ _ _ hb)
      ·cases hp with
       |rptr cs j b o f' hs hb hc hv=>exact VSt.same hH (hrun _ _) h (by rw[Nat.add_assoc];exact .rptr _ _ _ _ _ hs hb hc hv)
      ·exact h.elim
    ·exact h.elim
   ·exact h.elim
  ·exact h.elim
def bG(TY:TypeId→Option TI)(t:TypeId)(x:AV)(f:Nat)(N:AV→Prop):Prop:=
 match TY t with
 |none=>False
 |some i=>match i.kind with
  | .struct fs=>match fs[f]? with
   |some (off,ft)=>match TY ft with
    |some fi=>match x with
     | .agg cs=>Io (Ns fi cs off) N
     |_=>False
    |none=>False
   |none=>False
  |_=>False
theorem Abg(hTY:TyOk P TY){H:List Blk}(hH:HRel ρ S w H){t:TypeId}{p:AV}{v:Value}{f:Nat}{N:AV→Prop}(hp:V ρ S w p v)(h:bG TY t p f N):
  VSt P ρ S w (Instr.field t v f) N:=by
 unfold bG at h;split at h
 ·exact h.elim
 ·rename_i i hi;obtain⟨info,d,h1,h2,_,_,_,h6,_,_⟩:=hTY.get hi;split at h
  ·rename_i fs hk;split at h
   ·rename_i off ft hf;split at h
    ·rename_i fi hfi;split at h
     ·rename_i cs;obtain⟨gs,g,rfl,hg,rfl,rfl⟩:=Y9 h6 hk hf;obtain⟨vs,rfl,hl,hv⟩:=hp.aggR;obtain⟨c,hc,hN⟩:=Ci h;obtain⟨x,hx,hvx⟩:=Y6 hTY hfi hl hv hc;refine VSt.same hH (v:=x) ?_ hN hvx;unfold Instr.field;simp[Al h2,hg,asAgg,hx]
     ·exact h.elim
    ·exact h.elim
   ·exact h.elim
  ·exact h.elim
def Za(H:List Blk)(x:AV)(K:Nat→Nat→(Nat→List AV)→Prop):Prop:=
 match x with
 | .sl _ sz len get=>K sz len get
 | .osl id sz off len _=>match H[id]? with
  |some (.row sz' L get _)=>if sz=sz' then off+len≤L∧K sz len (fun e=>get (off+e)) else False
  |_=>False
 |_=>False
structure RowIs (ρ:Nat→Option Nat) (S:Nat→Prop) (w:World) (sz len:Nat) (get:Nat→List AV) (ao:Option Addr):Prop where
 size:∀ e,e<len→(get e).length=sz
 nil:ao=none→len=0
 at_:∀ a,ao=some a→(0<len→a.spot=none)∧∃ f:Nat→Nat→Value,∀ (e j:Nat),e<len→j<sz→w.cell? ⟨a.block,a.off+e*sz+j,none⟩=some (f e j)∧∀ (c:AV),(get e)[j]? =some c→V ρ S w c (f e j)
theorem bH{H:List Blk}(hH:HRel ρ S w H){x:AV}{v:Value}(hx:V ρ S w x v){K:Nat→Nat→(Nat→List AV)→Prop}(h:Za H x K):
  ∃ sz len get ao cap,K sz len get∧v= .slice ao len cap∧len≤cap∧cap≤maxLen∧RowIs ρ S w sz len get ao:=by
 unfold Za at h;split at h
 ·rename_i clip sz len get;cases hx with
  |sln _ _ _ ao=>exact⟨sz,0,get,ao,0,h,rfl,Nat.le_refl _,Nat.zero_le _,fun e he=>by omega,fun _=>rfl,fun a ha=>⟨fun h=>by omega,fun _ _=>undef,fun e j he=>by omega⟩⟩
  |sl _ _ _ _ b o cap f hs hl hm hcl hz hc hv=>
   refine⟨sz,len,get,_,cap,h,rfl,hl,hm,hz,fun ha=>(by cases ha),fun a ha=>?_⟩
   cases ha;exact⟨fun _=>rfl,f,fun e j he hj=>⟨hc e j he hj,fun c hc'=>(hv e j c he hc').lift⟩⟩
 ·rename_i id sz off len cap;split at h
  ·rename_i sz' L get T0 hcs;split at h
   ·rename_i hsz;subst hsz;obtain⟨hle,hK⟩:=h;cases hx with
    |osl _ _ _ _ _ b o cp hb hl hm ho hx hcap=>
     obtain⟨_,arr,T,fr,h1,h2,_,h4,h5⟩:=hH.blk id _ hcs b hb;refine⟨sz,len,_,_,cp,hK,rfl,hl,hm,fun e he=>h4 _ (by omega),fun ha=>(by cases ha),fun a ha=>?_⟩
     cases ha;refine⟨fun _=>rfl,fun e j=>arr.getD ((off+e)*sz+j) undef,fun e j he hj=>?_⟩;have hin:(off+e)*sz+j<arr.size:=by
      have:(off+e+1)*sz≤L*sz:=Nat.mul_le_mul_right _ (by omega)
      rw[Nat.add_mul] at this;omega
     have heq:o+e*sz+j=(off+e)*sz+j:=(by rw[ho (by omega),Nat.add_mul]);refine⟨?_,fun c hc'=>h5 (off+e) j c _ (by omega) hc' (by simp[hin])⟩
     show w.cell? ⟨b,o+e*sz+j,none⟩=_;rw[heq];simp only[World.cell?,h1];simp[hin]
   ·exact h.elim
  ·exact h.elim
 ·exact h.elim
def Kt(TY:TypeId→Option TI)(t:TypeId)(x ix:AV)(N:AV→Prop):Prop:=
 match TY t,ix with
 |some i,.int _ n=>match i.kind with
  | .slice e=>match TY e with
   |some ei=>match x with
    | .sl _ sz len get=>if sz=ei.size then(0≤n∧n<len)∧N (.rptr (get n.toNat) 0) else False
    | .osl id sz off len _=>if sz=ei.size then(0≤n∧n<len)∧N (.eptr id sz (off+n.toNat) 0) else False
    |_=>False
   |none=>False
  | .arr len e=>match TY e with
   |some ei=>(0≤n∧n<len)∧(match x with
    | .ptr id j=>N (.ptr id (j+n.toNat*ei.size))
    | .eptr id sz e j=>N (.eptr id sz e (j+n.toNat*ei.size))
    | .rptr cs j=>N (.rptr cs (j+n.toNat*ei.size))
    |_=>False)
   |none=>False
  |_=>False
 |_,_=>False
theorem bI(hTY:TyOk P TY){H:List Blk}(hH:HRel ρ S w H){t:TypeId}{x ix:AV}{v u:Value}{N:AV→Prop}(hx:V ρ S w x v)(hix:V ρ S w ix u)(h:Kt TY t x ix N):
  VSt P ρ S w (Instr.indexAt t v u) N:=by
 unfold Kt at h;split at h
 ·rename_i i k n hi;obtain⟨rfl,_⟩:=hix.intR;obtain⟨info,d,h1,h2,_,_,_,h6,_,_⟩:=hTY.get hi;obtain⟨_,_,_,ks,_,ka,_,_⟩:=B0 h6;split at h
  ·rename_i e hk;obtain rfl:=ks _ hk;split at h
   ·rename_i ei hei;have hrun:∀ (b o len cap:Nat),0≤n∧n<len→(Instr.indexAt t (.slice (some ⟨b,o,none⟩) len cap) (.int k n)).run P w= .ok (.pointer (some ⟨b,o+n.toNat*ei.size,none⟩)) w:=by
     intro b o len cap hn;unfold Instr.indexAt;simp[asIntOf,Al h2,hn,hTY.size hei,addr_add]
    split at h
    ·rename_i clip sz len get;split at h
     ·rename_i hsz;subst hsz;obtain⟨hn,hN⟩:=h;cases hx with
      |sln=>omega
      |sl _ _ _ _ b o cap f hs hl hm hcl hz hc hv=>
       refine VSt.same hH (hrun _ _ _ _ hn) hN ?_;have:=VI.rptr (ρ:=ρ) (S:=S) (w:=w) (get n.toNat) 0 b (o+n.toNat*ei.size) (f n.toNat) (hs (by omega)).1 (hs (by omega)).2 (fun j hj=>?_) (fun j c hc'=>?_)
       ·simpa using this
       ·exact hc _ _ (by omega) (by rw[hz _ (by omega)] at hj;exact hj)
       ·exact hv _ _ _ (by omega) hc'
     ·exact h.elim
    ·rename_i id sz off len cap;split at h
     ·rename_i hsz;subst hsz;obtain⟨hn,hN⟩:=h;cases hx with
      |osl _ _ _ _ _ b o cp hb hl hm ho hx hcap=>
       refine VSt.same hH (hrun _ _ _ _ hn) hN ?_;have:=VI.eptr (ρ:=ρ) (S:=S) (w:=w) id ei.size (off+n.toNat) 0 b hb;rw[ho (by omega),←Nat.add_mul]
       simpa using this
     ·exact h.elim
    ·exact h.elim
   ·exact h.elim
  ·rename_i len e hk;obtain rfl:=ka _ _ hk;split at h
   ·rename_i ei hei;obtain⟨hn,h⟩:=h;have hrun:∀ b o,(Instr.indexAt t (.pointer (some ⟨b,o,none⟩)) (.int k n)).run P w= .ok (.pointer (some ⟨b,o+n.toNat*ei.size,none⟩)) w:=by
     intro b o;unfold Instr.indexAt;simp[asIntOf,Al h2,hn,hTY.size hei,addr_add,Instr.sureAddr]
    split at h
    ·obtain⟨b,rfl,hb⟩:=hx.ptrR;exact VSt.same hH (hrun _ _) h (.ptr _ _ _ hb)
    ·obtain⟨b,rfl,hb⟩:=hx.eptrR;exact VSt.same hH (hrun _ _) h (by rw[Nat.add_assoc];exact .eptr _ _ _ _ _ hb)
    ·cases hx with
     |rptr cs j b o f' hs hb hc hv=>exact VSt.same hH (hrun _ _) h (by rw[Nat.add_assoc];exact .rptr _ _ _ _ _ hs hb hc hv)
    ·exact h.elim
   ·exact h.elim
  ·exact h.elim
 ·exact h.elim
def bJ(TY:TypeId→Option TI)(t:TypeId)(x ix:AV)(N:AV→Prop):Prop:=
 match TY t,ix,x with
 |some i,.int _ n,.str l=>match i.kind with
  | .str=>(0≤n∧n<l.length)∧N (.int .u8 (l.getD n.toNat 0).toNat)
  |_=>False
 |_,_,_=>False
theorem Ao3(b:UInt8):inK .u8 (b.toNat:Int):=by
 have:=b.toNat_lt;simp only[inK,lo,hi];omega
theorem Abh(hTY:TyOk P TY){H:List Blk}(hH:HRel ρ S w H){t:TypeId}{x ix:AV}{v u:Value}{N:AV→Prop}(hx:V ρ S w x v)(hix:V ρ S w ix u)(h:bJ TY t x ix N):
  VSt P ρ S w (Instr.index t v u) N:=by
 unfold bJ at h;split at h
 ·rename_i i k n l hi;obtain⟨rfl,_⟩:=hix.intR;obtain⟨s,rfl,hs,hl⟩:=hx.strR;obtain⟨info,d,h1,h2,_,_,_,h6,_,_⟩:=hTY.get hi;obtain⟨_,_,kstr,_⟩:=B0 h6;split at h
  ·rename_i hk;obtain rfl:=kstr hk;obtain⟨hn,hN⟩:=h;subst hs;have hlt:n.toNat<s.size:=(by rw[Ada] at hn;omega);refine VSt.same hH (v:=.int .u8 ((s.data.toList.getD n.toNat 0).toNat:Nat)) ?_ hN (V.int' (Ao3 _));unfold Instr.index;have hg:s[n.toNat]? =some (s.data.toList.getD n.toNat 0):=by
    rw[getElem?_pos s n.toNat hlt];have hlt':n.toNat<s.data.toList.length:=hlt;rw[List.getD_eq_getElem?_getD,List.getElem?_eq_getElem hlt'];rfl
   simp[asIntOf,Al h2,hn.1,hg]
  ·exact h.elim
 ·exact h.elim
def Ain(ρ:Nat→Option Nat)(S:Nat→Prop)(w:World)(x:Option AV)(v:Option Value):Prop:=match x,v with|none,none=>True|some a,some v=>V ρ S w a v|_,_=>False
def T9(x:Option AV)(d:Nat)(K:Nat→Prop):Prop:=match x with
 |none=>K d
 |some (.int _ n)=>0≤n∧K n.toNat
 |some _=>False
def bK(TY:TypeId→Option TI)(t:TypeId)(x:AV)(lo hi mx:Option AV)(N:AV→Prop):Prop:=
 match TY t with
 |none=>False
 |some i=>match i.kind,x,mx with
  | .str,.str l,none=>T9 lo 0 fun a=>T9 hi l.length fun b=>(a≤b∧b≤l.length)∧N (.str ((l.drop a).take (b - a)))
  | .slice e,.sl clip sz len get,none=>match TY e with
   |some ei=>if sz=ei.size then T9 lo 0 fun a=>T9 hi len fun b=>(a≤b∧b≤len)∧N (.sl (clip&&hi.isNone) sz (b - a) (fun k=>get (a+k))) else False
   |none=>False
  | .slice e,.sl clip sz len get,some (.int _ n)=>match TY e with
   |some ei=>if sz=ei.size∧hi.isSome=true then T9 lo 0 fun a=>T9 hi len fun b=>(a≤b∧b≤len∧(b:Int)=n)∧N (.sl true sz (b - a) (fun k=>get (a+k))) else False
   |none=>False
  | .slice e,.osl id sz off len cap,none=>match TY e with
   |some ei=>if sz=ei.size then T9 lo 0 fun a=>T9 hi len fun b=>(a≤b∧b≤len)∧N (.osl id sz (off+a) (b - a) (cap.map (· - a))) else False
   |none=>False
  |_,_,_=>False
theorem Eo{x:Option AV}{d:Nat}{K:Nat→Prop}(h:T9 x d K)(xv:Option Value)(hx:Ain ρ S w x xv):
  ∃ n,K n∧((x=none∧xv=none∧n=d)∨∃ k m,xv=some (.int k m)∧0≤m∧n=m.toNat):=by
 unfold T9 at h;split at h
 ·refine⟨d,h,.inl ⟨rfl,?_,rfl⟩⟩;cases xv with
  |none=>rfl
  |some _=>exact hx.elim
 ·rename_i k n;cases xv with
  |none=>exact hx.elim
  |some v=>obtain⟨rfl,_⟩:=V.intR hx;exact⟨_,h.2,.inr ⟨k,n,rfl,h.1,rfl⟩⟩
 ·exact h.elim
theorem run_sliceBound{k:IntKind}{m:Int}{y:Nat}(code:BoundsCode)(h:0≤m∧m.toNat≤y):(Instr.sliceBound (.int k m) y code).run P w= .ok m.toNat w:=by
 unfold Instr.sliceBound;have:m≤y:=by omega
 simp[asIntOf,h.1,this]
theorem Ep{isS:Bool}{len cap a b:Nat}{lo hi:Option Value}(hlo:(lo=none∧a=0)∨∃ k m,lo=some (.int k m)∧0≤m∧a=m.toNat)
  (hhi:(hi=none∧b=len)∨∃ k m,hi=some (.int k m)∧0≤m∧b=m.toNat) (hab:a≤b) (hb:b≤cap):
  (Instr.sliceBounds isS len cap lo hi none).run P w= .ok (a,b,cap) w:=by
 unfold Instr.sliceBounds;rcases hlo with ⟨rfl,rfl⟩|⟨k,m,rfl,h0,rfl⟩<;>rcases hhi with ⟨rfl,rfl⟩|⟨k',m',rfl,h0',rfl⟩
 ·simp
 ·simp[run_sliceBound (P:=P) (w:=w) (k:=k') (m:=m') (y:=cap) (if isS then .sliceAcap else .sliceAlen) ⟨h0',hb⟩]
 ·simp[run_sliceBound (P:=P) (w:=w) (k:=k) (m:=m) .sliceB ⟨h0,hab⟩]
 ·simp[run_sliceBound (P:=P) (w:=w) (k:=k') (m:=m') (y:=cap) (if isS then .sliceAcap else .sliceAlen) ⟨h0',hb⟩,run_sliceBound (P:=P) (w:=w) (k:=k) (m:=m) .sliceB ⟨h0,hab⟩]
theorem Qt{isS:Bool}{len cap a b:Nat}{lo:Option Value}{k':IntKind}{m':Int}{hi:Option Value}{kx:IntKind}{mx:Int}(hlo:(lo=none∧a=0)∨∃ k m,lo=some (.int k m)∧0≤m∧a=m.toNat)
  (hhi:hi=some (.int k' m')) (h0':0≤m') (hbm:b=m'.toNat) (hmx:(b:Int)=mx) (hab:a≤b) (hb:b≤cap):
  (Instr.sliceBounds isS len cap lo hi (some (.int kx mx))).run P w= .ok (a,b,b) w:=by
 subst hhi;have hmx':mx.toNat=b:=by omega
 unfold Instr.sliceBounds;have e1:=run_sliceBound (P:=P) (w:=w) (k:=kx) (m:=mx) (y:=cap) (if isS then .slice3Acap else .slice3Alen) ⟨by omega,by omega⟩
 have e2:=run_sliceBound (P:=P) (w:=w) (k:=k') (m:=m') (y:=b) .slice3B ⟨h0',by omega⟩
 rw[hmx'] at e1;rw[←hbm] at e2;rcases hlo with ⟨rfl,rfl⟩|⟨k,m,rfl,h0,rfl⟩
 ·simp[e1,e2]
 ·simp[e1,e2,run_sliceBound (P:=P) (w:=w) (k:=k) (m:=m) .slice3C ⟨h0,hab⟩]
theorem Ao4{clip:Bool}{sz len:Nat}{get:Nat→List AV}{b o cap:Nat}{f:Nat→Nat→Value}(hs:0<len→S b∧b<w.heap.size)(hm:cap≤maxLen)
  (hz:∀ e,e<len→(get e).length=sz) (hc:∀ e j,e<len→j<sz→w.cell? ⟨b,o+e*sz+j,none⟩=some (f e j)) (hv:∀ (e j:Nat) (c:AV),e<len→(get e)[j]? =some c→VI S w (fun _=>none) c (f e j))
  {x y m:Nat} (hxy:x≤y) (hy:y≤len) (hym:y≤m) (hmc:m≤cap) (hcl:clip=true→m=y):
  V ρ S w (.sl clip sz (y - x) (fun k=>get (x+k))) (.slice (some (if m=x then⟨b,o,none⟩ else(⟨b,o,none⟩:Addr).add (x*sz))) (y - x) (m - x)):=by
 by_cases hmx:m=x
 ·rw[if_pos hmx];obtain rfl:y=x:=by omega
  refine .sl clip sz _ _ b o _ (fun e j=>f (y+e) j) (fun h=>by omega) (by omega) (by omega) (fun h=>by omega) (fun e he=>by omega) (fun e j he=>by omega) (fun e j c he=>by omega)
 ·rw[if_neg hmx,addr_add];refine .sl clip sz _ _ b (o+x*sz) _ (fun e j=>f (x+e) j) (fun h=>hs (by omega)) (by omega) (by omega) (fun h=>by have:=hcl h;omega) (fun e he=>hz _ (by omega)) (fun e j he hj=>?_) (fun e j c he hc'=>hv _ _ _ (by omega) hc')
  have:=hc (x+e) j (by omega) hj
  rw[←this];congr 2
  rw[Nat.add_mul];omega
theorem Abi(hTY:TyOk P TY){H:List Blk}(hH:HRel ρ S w H){t:TypeId}{x:AV}{lo hi mx:Option AV}{v:Value}{lov hiv mxv:Option Value}{N:AV→Prop}(hx:V ρ S w x v)
  (hlo:Ain ρ S w lo lov) (hhi:Ain ρ S w hi hiv) (hmx:Ain ρ S w mx mxv) (h:bK TY t x lo hi mx N):
  VSt P ρ S w (Instr.slice t v lov hiv mxv) N:=by
 unfold bK at h;split at h
 ·exact h.elim
 ·rename_i i hi';obtain⟨info,d,h1,h2,_,_,_,h6,_,_⟩:=hTY.get hi';obtain⟨_,_,kstr,ks,_⟩:=B0 h6;split at h
  ·-- a string
   rename_i l hk;obtain rfl:=kstr hk;obtain⟨s,rfl,rfl,hl⟩:=hx.strR;have hmx':mxv=none:=by cases mxv with|none=>rfl|some _=>exact hmx.elim
   subst hmx';obtain⟨a,h,ha⟩:=Eo h lov hlo;obtain⟨b,⟨⟨hab,hb⟩,hN⟩,hb'⟩:=Eo h hiv hhi;refine VSt.same hH (v:=.string (s.extract a b)) ?_ hN (.str _ _ ?_ ?_)
   ·unfold Instr.slice;have hr:=Ep (P:=P) (w:=w) (isS:=false) (len:=s.size) (cap:=s.size) (a:=a) (b:=b) (lo:=lov) (hi:=hiv) (ha.imp (fun h=>⟨h.2.1,h.2.2⟩) id) (hb'.imp (fun h=>⟨h.2.1,h.2.2⟩) id) hab (by rw[Ada] at hb;exact hb)
    simp[Al h2,hr]
   ·rw[ByteArray.data_extract,Array.toList_extract]
   ·have:=hl;simp only[List.length_take,List.length_drop];omega
  ·rename_i e clip sz len get hk;obtain rfl:=ks _ hk;split at h
   ·rename_i ei hei;split at h
    ·rename_i hsz;subst hsz;have hmx':mxv=none:=by cases mxv with|none=>rfl|some _=>exact hmx.elim
     subst hmx';obtain⟨a,h,ha⟩:=Eo h lov hlo;obtain⟨b,⟨⟨hab,hb⟩,hN⟩,hb'⟩:=Eo h hiv hhi;have hlo':=ha.imp (fun h=>(⟨h.2.1,h.2.2⟩:lov=none∧a=0)) (fun h=>h);have hhi':=hb'.imp (fun h=>(⟨h.2.1,h.2.2⟩:hiv=none∧b=len)) (fun h=>h);cases hx with
     |sln _ _ _ ao=>
      have hr:=Ep (P:=P) (w:=w) (isS:=true) (len:=0) (cap:=0) (a:=a) (b:=b) hlo' hhi' hab hb;obtain rfl:b=0:=by omega
      obtain rfl:a=0:=by omega
      refine VSt.same hH (v:=.slice ao 0 0) ?_ hN (.sln _ _ _ _);unfold Instr.slice;simp[Al h2,hr,hTY.size hei]
     |sl _ _ _ _ bb o cap f hs hl hm hcl hz hc hv=>
      have hr:=Ep (P:=P) (w:=w) (isS:=true) (len:=len) (cap:=cap) (a:=a) (b:=b) hlo' hhi' hab (by omega)
      refine VSt.same hH (v:=.slice (some (if cap=a then⟨bb,o,none⟩ else(⟨bb,o,none⟩:Addr).add (a*ei.size))) (b - a) (cap - a)) ?_ hN
       (Ao4 hs hm hz hc hv hab hb (by omega) (Nat.le_refl _) (fun h=>?_))
      ·unfold Instr.slice;simp[Al h2,hr,hTY.size hei]
       split<;>rfl
      ·rw[Bool.and_eq_true] at h;have:=hcl h.1;rcases hb' with ⟨_,_,rfl⟩|⟨k,m,rfl,_⟩
       ·exact this
       ·exfalso;have hh:=h.2;rw[Option.isNone_iff_eq_none] at hh;subst hh;exact hhi
    ·exact h.elim
   ·exact h.elim
  ·rename_i e clip sz len get kx nx hk;obtain rfl:=ks _ hk;split at h
   ·rename_i ei hei;split at h
    ·rename_i hsz;obtain⟨hsz,hsome⟩:=hsz;subst hsz;cases mxv with
     |none=>exact hmx.elim
     |some mv=>
      obtain⟨rfl,_⟩:=V.intR hmx;obtain⟨a,h,ha⟩:=Eo h lov hlo;obtain⟨b,⟨⟨hab,hb,hbn⟩,hN⟩,hb'⟩:=Eo h hiv hhi;have hlo':=ha.imp (fun h=>(⟨h.2.1,h.2.2⟩:lov=none∧a=0)) (fun h=>h);rcases hb' with ⟨rfl,rfl,rfl⟩|⟨k,m,rfl,hm0,rfl⟩
      ·cases hsome
      ·cases hx with
       |sln _ _ _ ao=>
        have hr:=Qt (P:=P) (w:=w) (isS:=true) (len:=0) (cap:=0) (a:=a) (b:=m.toNat) (k':=k) (kx:=kx) hlo' rfl hm0 rfl hbn hab hb;have e1:m.toNat=0:=(by omega);have e2:a=0:=(by omega);rw[e1,e2] at hr;rw[e1,e2] at hN;refine VSt.same hH (v:=.slice ao 0 0) ?_ hN (.sln _ _ _ _);unfold Instr.slice;simp[Al h2,hr,hTY.size hei]
       |sl _ _ _ _ bb o cap f hs hl hm hcl hz hc hv=>
        have hr:=Qt (P:=P) (w:=w) (isS:=true) (len:=len) (cap:=cap) (a:=a) (b:=m.toNat) (k':=k) (kx:=kx) hlo' rfl hm0 rfl hbn hab (by omega)
        refine VSt.same hH (v:=.slice (some (if m.toNat=a then⟨bb,o,none⟩ else(⟨bb,o,none⟩:Addr).add (a*ei.size))) (m.toNat - a) (m.toNat - a)) ?_ hN
         (Ao4 hs hm hz hc hv hab hb (Nat.le_refl _) (by omega) (fun _=>rfl))
        unfold Instr.slice;simp[Al h2,hr,hTY.size hei]
        split<;>rfl
    ·exact h.elim
   ·exact h.elim
  ·rename_i e id sz off len cap hk;obtain rfl:=ks _ hk;split at h
   ·rename_i ei hei;split at h
    ·rename_i hsz;subst hsz;have hmx':mxv=none:=by cases mxv with|none=>rfl|some _=>exact hmx.elim
     subst hmx';obtain⟨a,h,ha⟩:=Eo h lov hlo;obtain⟨b,⟨⟨hab,hb⟩,hN⟩,hb'⟩:=Eo h hiv hhi;have hlo':=ha.imp (fun h=>(⟨h.2.1,h.2.2⟩:lov=none∧a=0)) (fun h=>h);have hhi':=hb'.imp (fun h=>(⟨h.2.1,h.2.2⟩:hiv=none∧b=len)) (fun h=>h);cases hx with
     |osl _ _ _ _ _ bb o cp hbb hl hm ho hx hcap=>
      have hr:=Ep (P:=P) (w:=w) (isS:=true) (len:=len) (cap:=cp) (a:=a) (b:=b) hlo' hhi' hab (by omega)
      refine VSt.same hH (v:=.slice (some ⟨bb,if cp=a then o else o+a*ei.size,none⟩) (b - a) (cp - a)) ?_ hN ?_
      ·unfold Instr.slice;simp[Al h2,hr,hTY.size hei,addr_add]
       split<;>rfl
      ·refine .osl _ _ _ _ _ bb _ _ hbb (by omega) (by omega) (fun h0=>?_) ?_ (fun c hc=>?_)
       ·rw[if_neg (by omega),ho (by omega),Nat.add_mul]
       ·obtain⟨arr,T,fr,g1,g2⟩:=hx;exact⟨arr,T,fr,g1,by rw[show off+a+(cp - a)=off+cp by omega];exact g2⟩
       ·cases cap with
        |none=>cases hc
        |some c0=>simp at hc;rw[hcap c0 rfl];exact hc
    ·exact h.elim
   ·exact h.elim
  ·exact h.elim
end
end Go.Vc
namespace Go.Vc
open Go
section
variable {P : Program} {TY : TypeId → Option TI} {ρ : Nat → Option Nat} {S : Nat → Prop} {w : World}
theorem Amo:∀ (vs:List Value) (k:Nat) (arr:Array Value) (off:Nat),(vs.zipIdx k).foldl (fun cs (x:Value × Nat)=>cs.setIfInBounds (off+x.2) x.1) arr=spl arr (off+k) vs:=by
 intro vs;induction vs with
 |nil=>intro k arr off;rfl
 |cons v r ih=>
  intro k arr off;rw[List.zipIdx_cons,List.foldl_cons,ih,spl];rfl
theorem sF(place:Nat→Option (Nat × Nat))(cells:Array Value)(i:Nat)(v:Value)(rest:List (Nat × Value)){off size:Nat}(h:place i=some (off,size))
  (h1:v.cells.size=size) (h2:off+v.cells.size≤cells.size):Instr.fill place cells ((i,v)::rest)=Instr.fill place (spl cells off v.cells.toList) rest:=by
 have:v.cells.zipIdx.foldl (fun cs (x:Value × Nat)=>cs.setIfInBounds (off+x.2) x.1) cells=spl cells off v.cells.toList:=by
  rw[←Array.foldl_toList,Array.toList_zipIdx];exact Amo v.cells.toList 0 cells off
 rw[Instr.fill];simp only[h];rw[if_neg (by simp[h1];omega)]
 congr 1
def CRel(ρ:Nat→Option Nat)(S:Nat→Prop)(w:World)(cs:List AV)(arr:Array Value):Prop:=
 cs.length=arr.size∧∀ (j:Nat) (c:AV) (v:Value),cs[j]? =some c→arr[j]? =some v→V ρ S w c v
theorem CRel.over{cs:List AV}{arr:Array Value}(h:CRel ρ S w cs arr){x:AV}{v:Value}(hn:x≠ .any)(hx:V ρ S w x v){off:Nat}(hin:off+x.cells.length≤cs.length):
  CRel ρ S w (over cs off x.cells) (spl arr off v.cells.toList):=by
 obtain⟨hl,hc⟩:=hx.cells hn;have hl':v.cells.toList.length=x.cells.length:=by simp[hl]
 refine⟨by rw[T7 hin,Du];exact h.1,fun j c u hj hu=>?_⟩
 rw[jH hin] at hj;rw[Vy _ _ _ _ (by rw[hl',←h.1];exact hin)] at hu
 split at hj
 ·rw[if_pos (by omega)] at hu
  exact hc _ _ _ hj (by simpa using hu)
 ·rw[if_neg (by omega)] at hu
  exact h.2 _ _ _ hj hu
def AV.isAny:AV→Bool
 | .any=>true
 |_=>false
theorem AV.ne_any{x:AV}(h:x.isAny=false):x≠ .any:=by rintro rfl;cases h
def Zb(place:Nat→Option (Nat × Nat)):List AV→List (Nat × AV)→Option (List AV)
 |cs,[]=>some cs
 |cs,(i,x)::rest=>
  match place i with
  |none=>none
  |some (off,size)=>if x.isAny=false∧x.cells.length=size∧off+size≤cs.length then Zb place (Go.Vc.over cs off x.cells) rest else none
theorem Adc(place:Nat→Option (Nat × Nat)):∀ (parts:List (Nat × AV)) (vparts:List (Nat × Value)) (cs:List AV) (arr:Array Value) (out:List AV),
  CRel ρ S w cs arr→(parts.length=vparts.length∧∀ (k i:Nat) (x:AV) (i':Nat) (v:Value),parts[k]? =some (i,x)→vparts[k]? =some (i',v)→i=i'∧V ρ S w x v)→Zb place cs parts=some out→
  ∃ arr',Instr.fill place arr vparts=some arr'∧CRel ρ S w out arr':=by
 intro parts;induction parts with
 |nil=>
  intro vparts cs arr out hc hp h;cases vparts with
  |nil=>simp[Zb] at h;subst h;exact⟨arr,by simp[Instr.fill],hc⟩
  |cons _ _=>simp at hp
 |cons p parts ih=>
  intro vparts cs arr out hc hp h;cases vparts with
  |nil=>simp at hp
  |cons vp vparts=>
   obtain⟨i,x⟩:=p;obtain⟨i',v⟩:=vp;obtain⟨rfl,hx⟩:=hp.2 0 i x i' v rfl rfl;rw[Zb] at h;cases hpl:place i with
   |none=>simp only[hpl] at h;cases h
   |some os=>
    obtain⟨off,size⟩:=os;simp only[hpl] at h;split at h
    ·rename_i hcond;have hn:=AV.ne_any hcond.1;have hl:=(hx.cells hn).1;rw[sF place arr i v vparts hpl (by omega) (by rw[←hc.1];omega)]
     exact ih vparts _ _ out (hc.over hn hx (by omega)) ⟨by simpa using hp.1,fun k a b c d h1 h2=>hp.2 (k+1) a b c d (by simpa using h1) (by simpa using h2)⟩ h
    ·cases h
theorem Ua{α β:Type}{f:α→Option β}{g:α→β}:∀ (l:List α),(∀ x ∈ l,f x=some (g x))→l.mapM f=some (l.map g)
 |[],_=>rfl
 |x::l,h=>by
  rw[List.mapM_cons,h x (List.mem_cons_self ..),Ua l fun y hy=>h y (List.mem_cons_of_mem _ hy)];rfl
def partsE(ts:List AV)(parts:Array (Nat × Operand)):List (Nat × AV):=parts.toList.map fun p=>(p.1,evO ts p.2)
theorem jK{ts:List AV}{a:Act}(hT:TRel ρ S w ts a.tmps)(parts:Array (Nat × Operand)):
  (partsE ts parts).length=((parts.map fun p=>(p.1,a.eval p.2)).toList).length∧∀ (k i:Nat) (x:AV) (i':Nat) (v:Value),(partsE ts parts)[k]? =some (i,x)→
   (parts.map fun p=>(p.1,a.eval p.2)).toList[k]? =some (i',v)→i=i'∧V ρ S w x v:=by
 refine⟨by simp[partsE],fun k i x i' v h1 h2=>?_⟩
 simp only[partsE,List.getElem?_map] at h1;simp only[Array.toList_map,List.getElem?_map] at h2;cases hk:parts.toList[k]? with
 |none=>rw[hk] at h1;cases h1
 |some p=>
  rw[hk] at h1 h2;simp at h1 h2
  obtain⟨rfl,rfl⟩:=h1;obtain⟨rfl,rfl⟩:=h2;exact⟨rfl,hT.eval _⟩
theorem bL{z:AV}{v:Value}(hz:z=AV.ofC v)(hn:z≠ .any):CRel ρ S w z.cells v.cells:=by
 subst hz;exact(V.ofC v).cells hn
def bM(TY:TypeId→Option TI)(t:TypeId)(parts:List (Nat × AV))(N:AV→Prop):Prop:=
 match TY t with
 |none=>False
 |some i=>match i.zero with
  |none=>False
  |some z=>if z.isAny=false then(match i.kind with
    | .struct fs=>if fs.all (fun f=>(TY f.2).isSome)=true then
      Io (Zb (fun k=>(fs[k]?).bind fun f=>(TY f.2).map fun fi=>(f.1,fi.size)) z.cells parts) fun cs=>N (.agg cs) else False
    | .arr _ e=>match TY e with
     |some ei=>Io (Zb (fun k=>some (k*ei.size,ei.size)) z.cells parts) fun cs=>N (.agg cs)
     |none=>False
    |_=>False) else False
theorem Abj(hTY:TyOk P TY){H:List Blk}(hH:HRel ρ S w H){ts:List AV}{a:Act}(hT:TRel ρ S w ts a.tmps){t:TypeId}{parts:Array (Nat × Operand)}{N:AV→Prop}(h:bM TY t (partsE ts parts) N):
  VSt P ρ S w (Instr.build t (parts.map fun p=>(p.1,a.eval p.2))) N:=by
 unfold bM at h;split at h
 ·exact h.elim
 ·rename_i i hi;obtain⟨info,d,h1,h2,_,_,_,h6,hzz,_⟩:=hTY.get hi;obtain⟨_,_,_,_,_,ka,_,kstruct⟩:=B0 h6;split at h
  ·exact h.elim
  ·rename_i z hz;split at h
   case isFalse=>exact h.elim
   rename_i hany;have hn:z≠ .any:=AV.ne_any hany;have h':=h;clear h;rw[hz] at hzz;cases hzi:info.zero with
   |none=>rw[hzi] at hzz;cases hzz
   |some zv=>
    rw[hzi] at hzz;simp only[Option.map_some,Option.some.injEq] at hzz;have hcz:CRel ρ S w z.cells zv.cells:=bL hzz.symm hn;have fin:∀ (place:Nat→Option (Nat × Nat)) (cs:List AV),Zb place z.cells (partsE ts parts)=some cs→N (.agg cs)→
      (∀ arr,Instr.fill place zv.cells (parts.map fun p=>(p.1,a.eval p.2)).toList=some arr→P.built t (parts.map fun p=>(p.1,a.eval p.2)).toList=some arr)→
      VSt P ρ S w (Instr.build t (parts.map fun p=>(p.1,a.eval p.2))) N:=by
     intro place cs hcs hN hb;obtain⟨arr,harr,hrel⟩:=Adc place _ _ _ _ _ hcz (jK hT parts) hcs;exact VSt.same hH (run_build w t _ arr (hb arr harr)) hN (.agg _ _ hrel.1 hrel.2)
    split at h'
    ·rename_i fs hk;split at h'
     ·rename_i hall;obtain⟨cs,hcs,hN⟩:=Ci h';refine fin _ cs hcs hN fun arr harr=>?_;obtain⟨gs,rfl,rfl,_⟩:=kstruct _ hk;have hpl:gs.toList.mapM (fun f=>(P.info? f.type).map fun i=>(f.offset,i.size))=some (gs.toList.map fun f=>(f.offset,((TY f.type).map (·.size)).getD 0)):=by
       refine Ua (β:=Nat × Nat) gs.toList fun f hf=>?_;have hsome:=List.all_eq_true.1 hall (f.offset,f.type) (List.mem_map.2 ⟨f,hf,rfl⟩);obtain⟨fi,hfi⟩:=Option.isSome_iff_exists.1 hsome;simp only at hfi;obtain⟨finfo,_,g1,_,g3,_⟩:=hTY.get hfi;simp[g1,g3,hfi]
      unfold Program.built;simp only[h1,h2,hzi,hpl];rw[←harr];congr 1
      funext k
      simp only[List.getElem?_toArray,List.getElem?_map];cases hg:gs.toList[k]? with
      |none=>rfl
      |some g=>
       have hsome:=List.all_eq_true.1 hall (g.offset,g.type) (List.mem_map.2 ⟨g,List.mem_of_getElem? hg,rfl⟩);obtain⟨fi,hfi⟩:=Option.isSome_iff_exists.1 hsome;simp only at hfi;simp[hfi]
     ·exact h'.elim
    ·rename_i n e hk;obtain rfl:=ka _ _ hk;split at h'
     ·rename_i ei hei;obtain⟨cs,hcs,hN⟩:=Ci h';refine fin _ cs hcs hN fun arr harr=>?_;obtain⟨einfo,_,g1,_,g3,_⟩:=hTY.get hei;unfold Program.built;simp only[h1,h2,hzi,g1];rw[←harr,g3]
     ·exact h'.elim
    ·exact h'.elim
def Xw(z:List AV):List (Nat × AV)→Nat→List AV
 |[]=>fun _=>z
 |(k,x)::rest=>fun j=>if j=k∧rest.all (fun p=>p.1≠k) then x.cells else Xw z rest j
def jL(n sz:Nat)(p:Nat × AV):Bool:=decide (p.1<n)&& !p.2.isAny&&p.2.cells.length == sz
def Fy(TY:TypeId→Option TI)(t:TypeId)(n:Nat)(parts:List (Nat × AV))(H:List Blk)(N:AV→List Blk→Prop):Prop:=
 match TY t with
 |none=>False
 |some i=>match i.kind with
  | .slice e=>match TY e with
   |some ei=>match ei.zero with
    |some z=>if z.isAny=false∧z.cells.length=ei.size∧(n*ei.size≤16777216∧n≤16777216)∧parts.all (jL n ei.size)=true then
       N (.osl H.length ei.size 0 n (some n)) (H++[.row ei.size n (Xw z.cells parts)]) else False
    |none=>False
   |none=>False
  |_=>False
def Xx(ρ:Nat→Option Nat)(S:Nat→Prop)(w:World)(sz n:Nat)(get:Nat→List AV)(arr:Array Value):Prop:=
 (∀ e,e<n→(get e).length=sz)∧∀ (e j:Nat) (c:AV) (v:Value),e<n→(get e)[j]? =some c→arr[e*sz+j]? =some v→V ρ S w c v
theorem row_in{e n sz j:Nat}(he:e<n)(hj:j<sz):e*sz+j<n*sz:=by
 have:(e+1)*sz≤n*sz:=Nat.mul_le_mul_right _ he;rw[Nat.add_mul] at this;omega
theorem Ao5(n sz:Nat):∀ (parts:List (Nat × AV)) (vparts:List (Nat × Value)) (g:Nat→List AV) (arr:Array Value),arr.size=n*sz→Xx ρ S w sz n g arr→
  (parts.length=vparts.length∧∀ (k i:Nat) (x:AV) (i':Nat) (v:Value),parts[k]? =some (i,x)→vparts[k]? =some (i',v)→i=i'∧V ρ S w x v)→parts.all (jL n sz)=true→
  ∃ arr',Instr.fill (fun i=>some (i*sz,sz)) arr vparts=some arr'∧arr'.size=n*sz∧
   Xx ρ S w sz n (fun j=>match (parts.reverse.find? (fun p=>p.1 == j)) with|some p=>p.2.cells|none=>g j) arr':=by
 intro parts;induction parts with
 |nil=>
  intro vparts g arr hs hg hp _;cases vparts with
  |nil=>exact⟨arr,by simp[Instr.fill],hs,hg⟩
  |cons _ _=>simp at hp
 |cons p parts ih=>
  intro vparts g arr hs hg hp hall;cases vparts with
  |nil=>simp at hp
  |cons vp vparts=>
   obtain⟨i,x⟩:=p;obtain⟨i',v⟩:=vp;obtain⟨rfl,hx⟩:=hp.2 0 i x i' v rfl rfl;simp only[List.all_cons,Bool.and_eq_true] at hall;obtain⟨hgood,hall⟩:=hall;simp only[jL,Bool.and_eq_true,decide_eq_true_eq,beq_iff_eq] at hgood;obtain⟨⟨hlt,hn0⟩,hlen⟩:=hgood;have hn:x≠ .any:=AV.ne_any (by simpa using hn0)
   obtain⟨hl,hc⟩:=hx.cells hn;have hle:i*sz+sz≤n*sz:=by
    have:(i+1)*sz≤n*sz:=Nat.mul_le_mul_right _ hlt;rw[Nat.add_mul] at this;omega
   have hl':v.cells.toList.length=sz:=(by simp;omega);rw[sF _ arr i v vparts rfl (by omega) (by omega)]
   have hE:Xx ρ S w sz n (fun j=>if j=i then x.cells else g j) (spl arr (i*sz) v.cells.toList):=by
    refine⟨fun e he=>?_,fun e j c u he hj hu=>?_⟩
    ·show(if e=i then x.cells else g e).length=sz
     split
     ·exact hlen
     ·exact hg.1 e he
    ·have hj':(if e=i then x.cells else g e)[j]? =some c:=hj
     rw[Vy _ _ _ _ (by rw[hl',hs];exact hle),hl'] at hu
     by_cases hei:e=i
     ·subst hei;rw[if_pos rfl] at hj';have hjl:j<sz:=by
       rcases Nat.lt_or_ge j sz with h|h
       ·exact h
       ·rw[List.getElem?_eq_none (by omega)] at hj';cases hj'
      rw[if_pos (by omega),show e*sz+j - e*sz=j by omega] at hu
      exact hc _ _ _ hj' (by simpa using hu)
     ·rw[if_neg hei] at hj';have hjl:j<sz:=by
       rcases Nat.lt_or_ge j sz with h|h
       ·exact h
       ·rw[List.getElem?_eq_none (by rw[hg.1 e he];exact h)] at hj';cases hj'
      rw[if_neg ?_] at hu
      ·exact hg.2 e j c u he hj' hu
      ·rintro⟨g1,g2⟩;rcases Nat.lt_or_gt_of_ne hei with hlt'|hgt
       ·have:=row_in hlt' hjl;omega
       ·have:(i+1)*sz≤e*sz:=Nat.mul_le_mul_right _ hgt;rw[Nat.add_mul] at this;omega
   obtain⟨arr',h1,h2,h3⟩:=ih vparts (fun j=>if j=i then x.cells else g j) (spl arr (i*sz) v.cells.toList) (by rw[Du];exact hs) hE
    ⟨by simpa using hp.1,fun k a b c d h1 h2=>hp.2 (k+1) a b c d (by simpa using h1) (by simpa using h2)⟩ hall
   refine⟨arr',h1,h2,?_⟩;have:(fun j=>match ((i,x)::parts).reverse.find? (fun p=>p.1 == j) with|some p=>p.2.cells|none=>g j)=
     (fun j=>match parts.reverse.find? (fun p=>p.1 == j) with|some p=>p.2.cells|none=>if j=i then x.cells else g j):=by
    funext j
    rw[List.reverse_cons,List.find?_append];cases parts.reverse.find? (fun p=>p.1 == j) with
    |some p=>rfl
    |none=>
     simp only[Option.none_or,List.find?_singleton];by_cases hji:j=i
     ·subst hji;simp
     ·have:(i == j)=false:=by simpa using fun h=>hji h.symm
      simp[this,hji]
   rw[this];exact h3
theorem Amp(z:List AV):∀ (parts:List (Nat × AV)) (j:Nat),Xw z parts j=(match parts.reverse.find? (fun p=>p.1 == j) with|some p=>p.2.cells|none=>z):=by
 intro parts;induction parts with
 |nil=>intro j;rfl
 |cons p parts ih=>
  intro j;obtain⟨k,x⟩:=p;simp only[Xw];rw[List.reverse_cons,List.find?_append,ih j];by_cases hjk:j=k
  ·subst hjk;by_cases hr:parts.all (fun p=>decide (p.1≠j))=true
   ·rw[if_pos ⟨rfl,hr⟩];have:parts.reverse.find? (fun p=>p.1 == j)=none:=by
     rw[List.find?_eq_none];intro p hp;have:=List.all_eq_true.1 hr p (List.mem_reverse.1 hp);simpa using this
    rw[this];simp
   ·rw[if_neg (fun h=>hr h.2)];cases hf:parts.reverse.find? (fun p=>p.1 == j) with
    |some p=>rfl
    |none=>
     exfalso;apply hr
     rw[List.all_eq_true];intro p hp;have:=List.find?_eq_none.1 hf p (List.mem_reverse.2 hp);simpa using this
  ·rw[if_neg (fun h=>hjk h.1)];have:(k == j)=false:=by simpa using fun h=>hjk h.symm
   simp[this]
theorem rB{z:Array Value}{n sz e j:Nat}(hz:z.size=sz)(he:e<n)(hj:j<sz):(madeCells z (n*sz))[e*sz+j]? =z[j]? :=by
 have hlt:=row_in he hj;unfold madeCells;rw[Array.getElem?_map,Array.getElem?_range];rw[if_pos hlt];simp only[Option.map_some];have hm:(e*sz+j) % z.size=j:=by
  rw[hz,Nat.add_comm,Nat.add_mul_mod_self_right,Nat.mod_eq_of_lt hj]
 rw[hm];rw[getElem!_pos z j (by omega),Array.getElem?_eq_getElem (by omega)]
theorem sG{z:AV}{v:Value}(hz:z=AV.ofC v)(hn:z≠ .any){sz n:Nat}(hsz:z.cells.length=sz):Xx ρ S w sz n (fun _=>z.cells) (madeCells v.cells (n*sz)):=by
 have hc:=bL (ρ:=ρ) (S:=S) (w:=w) hz hn;refine⟨fun _ _=>hsz,fun e j c u he hj hu=>?_⟩;have hjl:j<sz:=by
  rcases Nat.lt_or_ge j sz with h|h
  ·exact h
  ·rw[List.getElem?_eq_none (by show z.cells.length≤j;omega)] at hj;cases hj
 rw[rB (by rw[←hc.1];exact hsz) he hjl] at hu
 exact hc.2 j c u hj hu
theorem Ub{H:List Blk}(hH:HRel ρ S w H)(hns:∀ b,S b→b<w.heap.size){sz n:Nat}{get:Nat→List AV}{arr:Array Value}(hs:n*sz≤arr.size)(h:Xx ρ S w sz n get arr)(T:TypeId){T1:Option Nat}(hT:Qr T1 T=T):
  BRel (E6 ρ H.length w.heap.size) S (w.alloc (.cells arr T)) H.length (.row sz n get T1):=by
 intro b hb;rw[Dx] at hb;cases hb;exact⟨fun hs=>Nat.lt_irrefl _ (hns _ hs),arr,T,(0,0),by rw[hT];exact Cu w _,hs,fun o _=>Hl w _ _ o,h.1,fun e j c v he hc hv=>(h.2 e j c v he hc hv).alloc hH _⟩
theorem Uc(hTY:TyOk P TY){H:List Blk}{ts:List AV}{a:Act}(hT:TRel ρ S w ts a.tmps){t:TypeId}{n:Nat}{parts:Array (Nat × Operand)}
  {N:AV→List Blk→Prop} (h:Fy TY t n (partsE ts parts) H N):∃ sz get arr e,N (.osl H.length sz 0 n (some n)) (H++[.row sz n get])∧arr.size=n*sz∧n≤16777216∧Xx ρ S w sz n get arr∧
   (Instr.buildSlice t n (parts.map fun p=>(p.1,a.eval p.2))).run P w= .ok (.slice (some ⟨w.heap.size,0,none⟩) n n) (w.alloc (.cells arr e)):=by
 unfold Fy at h;split at h
 ·exact h.elim
 ·rename_i i hi;obtain⟨info,d,h1,h2,_,_,_,h6,_,_⟩:=hTY.get hi;obtain⟨_,_,_,ks,_⟩:=B0 h6;split at h
  ·rename_i e hk;obtain rfl:=ks _ hk;split at h
   ·rename_i ei hei;split at h
    ·rename_i z hz;obtain⟨zv,hzv,hzc⟩:=hTY.zero hei hz;split at h
     case isFalse=>exact h.elim
     rename_i hcond;obtain⟨hany,hzl,⟨hsmall,hn16⟩,hall⟩:=hcond;have hn:z≠ .any:=AV.ne_any hany;have hN:=h;have key:∀ zz:Array Value,(n*ei.size=0∨zz=zv.cells)→∃ arr,Instr.fill (fun i=>some (i*ei.size,ei.size)) ((Array.range (n*ei.size)).map (zz[· % zz.size]!)) (parts.map fun p=>(p.1,a.eval p.2)).toList=some arr∧
       arr.size=n*ei.size∧Xx ρ S w ei.size n (Xw z.cells (partsE ts parts)) arr:=by
      intro zz hzz;have hbe:Xx ρ S w ei.size n (fun _=>z.cells) ((Array.range (n*ei.size)).map (zz[· % zz.size]!)):=by
       rcases hzz with h0|rfl
       ·refine⟨fun _ _=>hzl,fun e j c u he hj hu=>?_⟩;have hjl:j<ei.size:=by
         rcases Nat.lt_or_ge j ei.size with h|h
         ·exact h
         ·rw[List.getElem?_eq_none (by show z.cells.length≤j;omega)] at hj;cases hj
        have:=row_in he hjl;omega
       ·exact sG hzc hn hzl
      obtain⟨arr,harr,hsz,hrel⟩:=Ao5 n ei.size (partsE ts parts) _ _ _ (by simp) hbe (jK hT parts) hall
      have:Xw z.cells (partsE ts parts)=(fun j=>match ((partsE ts parts).reverse.find? (fun p=>p.1 == j)) with|some p=>p.2.cells|none=>z.cells):=funext (Amp _ _)
      exact⟨arr,harr,hsz,by rw[this];exact hrel⟩
     have fin:∀ arr,arr.size=n*ei.size→Xx ρ S w ei.size n (Xw z.cells (partsE ts parts)) arr→
       (Instr.buildSlice t n (parts.map fun p=>(p.1,a.eval p.2))).run P w= .ok (.slice (some ⟨w.heap.size,0,none⟩) n n) (w.alloc (.cells arr e))→
       ∃ sz get arr e,N (.osl H.length sz 0 n (some n)) (H++[.row sz n get])∧arr.size=n*sz∧n≤16777216∧Xx ρ S w sz n get arr∧
   (Instr.buildSlice t n (parts.map fun p=>(p.1,a.eval p.2))).run P w= .ok (.slice (some ⟨w.heap.size,0,none⟩) n n) (w.alloc (.cells arr e)):=fun arr hsz hrel hrun=>
      ⟨_,_,arr,e,hN,hsz,hn16,hrel,hrun⟩
     by_cases h0:n*ei.size=0
     ·obtain⟨arr,harr,hsz,hrel⟩:=key #[] (.inl h0);refine fin arr hsz hrel ?_;unfold Instr.buildSlice;simp only[Sem.run_bind,Al h2,Result.andThen_ok,hTY.size hei];rw[if_neg (by simpa using hsmall)]
      rw[if_pos h0];simp only[Sem.run_bind,Sem.run_pure,Result.andThen_ok,harr];simp[newRow]
     ·obtain⟨arr,harr,hsz,hrel⟩:=key zv.cells (.inr rfl);refine fin arr hsz hrel ?_;unfold Instr.buildSlice;simp only[Sem.run_bind,Al h2,Result.andThen_ok,hTY.size hei];rw[if_neg (by simpa using hsmall)]
      rw[if_neg h0];simp only[Sem.run_bind,Sem.run_pure,Result.andThen_ok,hzv,harr];simp[newRow]
    ·exact h.elim
   ·exact h.elim
  ·exact h.elim
theorem Zc(hTY:TyOk P TY)(hns:∀ b,S b→b<w.heap.size){H:List Blk}(hH:HRel ρ S w H){ts:List AV}{a:Act}(hT:TRel ρ S w ts a.tmps){t:TypeId}{n:Nat}{parts:Array (Nat × Operand)}
  {N:AV→List Blk→Prop} (h:Fy TY t n (partsE ts parts) H N):VOk P ρ S w (Instr.buildSlice t n (parts.map fun p=>(p.1,a.eval p.2))) N:=by
 obtain⟨sz,get,arr,e,hN,hsz,hn16,hrel,hrun⟩:=Uc hTY hT h;exact VOk.new hH (v:=.slice (some ⟨w.heap.size,0,none⟩) n n) (o:=.cells arr e) hrun hN
  (.osl _ _ _ _ _ _ _ _ (Dx _ _) (Nat.le_refl _) (by rw[Ch];omega) (fun _=>by simp) ⟨arr,e,(0,0),Cu w _,by rw[Nat.zero_add];omega⟩ (fun c hc=>by cases hc;rfl))
  (Ub hH hns (by omega) hrel e rfl)
end
end Go.Vc
