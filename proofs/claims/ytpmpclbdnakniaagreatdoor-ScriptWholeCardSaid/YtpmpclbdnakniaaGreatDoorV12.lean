/- strings.Builder in own memory: copyCheck, String. -/
import Derived.Test.YtpmpclbdnakniaaGreatDoorV11
import Derived.Test.YtpmpclbdnakniaaGreatDoorV9
set_option linter.all false
set_option linter.unusedVariables false
set_option linter.unusedSimpArgs false
namespace Go.Proofs
open Go.Shelf Go.RowKit
set_option maxRecDepth 1000000
theorem Tryz.laysCopyCheck:Lays.n240 Tryz.prog Tryz.laysJoin_ren:={ Tryz.laysJoin with }
theorem Tryz.laysBString:Lays.n169 Tryz.prog Tryz.laysJoin_ren:={ Tryz.laysJoin with }
theorem Tryz.x72:Builder.X72 Tryz.prog Tryz.laysJoin_ren:={
 sizeBuilder:=by kernel_rfl
 liesBuilder:=by kernel_rfl }
section
variable {P : Program} {ρ : Ren}
set_option maxHeartbeats 2000000 in
theorem zE(L:Lays.n169 P ρ)(X:Builder.Extra P ρ)(b g n cap:Nat)(p:Value)(cs cur:Array Value)(T:TypeId)(fr fr':Nat × Nat)(l:List UInt8)(w:World)
  (hbk:w.heap[b]? =some (.cells cs T fr)) (hcs:cs[1]? =some (.slice (some ⟨g,0,none⟩) l.length cap)) (hg:w.heap[g]? =some (.cells cur (ρ.t 5) fr')) (h0:0<l.length) (hcap:l.length≤cap) (hm:cap≤maxLen) (hle:l.length≤cur.size)
  (hcell:∀ (j:Nat) (x:UInt8),l[j]? =some x→w.cell? ⟨g,j,none⟩=some (.int .u8 x.toNat)):
  Calls P (ρ.f 169) #[.pointer (some ⟨b,0,none⟩)] w fun e w'=>e= .returned (.string ⟨l.toArray⟩)∧w'=w.drew.freeze ⟨g,0,none⟩ l.length:=by
 have hl0:l≠[]:=by rintro rfl;simp at h0
 have c1:w.drew.cell? ⟨b,1,none⟩=some (.slice (some ⟨g,0,none⟩) l.length cap):=by
  have:w.drew.heap[b]? =some (.cells cs T fr):=hbk
  rw[Lib.cell_of_heap this];exact hcs
 have hSD:(Builtin.unsafeSliceData_ #[(ρ.t 37)] (ρ.t 127) #[.slice (some ⟨g,0,none⟩) l.length cap]).run P w.drew= .ok (.pointer (some ⟨g,0,none⟩)) w.drew:=
  Lib.run_unsafeSliceData_row _ _ _ _ _ _ (by omega)
 have hUS:(Builtin.unsafeString_ #[(ρ.t 127),(ρ.t 3)] (ρ.t 9) #[.pointer (some ⟨g,0,none⟩),.int .i64 l.length]).run P w.drew= .ok (.string ⟨l.toArray⟩) (w.drew.freeze ⟨g,0,none⟩ l.length):=by
  refine Lib.run_unsafeString_row w.drew (ρ.t 127) (ρ.t 3) (ρ.t 9) (ρ.t 5) L.t127 X.cellsByte g cur.size (by have hg':w.drew.heap[g]? =some (.cells cur (ρ.t 5) fr'):=hg;simp[World.shape?,hg']) l hl0 (by omega) (by unfold maxLen at hm;omega) ?_
  intro j x hx
  rw[Go.Vc.addr_add,Nat.zero_add]
  exact hcell j x hx
 have mixed:=L.mixed
 have t72:=L.t72;have a72:=L.a72;have z72:=L.z72;have v72:=L.v72;have u72:=run_underlying L.t72
 have t70:=L.t70;have a70:=L.a70;have z70:=L.z70;have v70:=L.v70;have u70:=run_underlying L.t70
 have t37:=L.t37;have a37:=L.a37;have z37:=L.z37;have v37:=L.v37;have u37:=run_underlying L.t37
 have t127:=L.t127;have a127:=L.a127;have z127:=L.z127;have v127:=L.v127;have u127:=run_underlying L.t127
 have t3:=L.t3;have a3:=L.a3;have z3:=L.z3;have v3:=L.v3;have u3:=run_underlying L.t3
 have t9:=L.t9;have a9:=L.a9;have z9:=L.z9;have v9:=L.v9;have u9:=run_underlying L.t9
 have t5:=X.t5;have a5:=X.a5;have z5:=X.z5;have v5:=X.v5;have u5:=run_underlying X.t5
 go_enter L.f169,Body.n169_ntmps ρ
 go_wp2
 go_region_o
 all_goals (go_wp2;go_ret;exact⟨rfl,rfl⟩)
end
end Go.Proofs
namespace Go.Vc
open Go Go.Proofs Go.RowKit
def Aqh:Nat:=152
def Avw:Nat:=5
def Ka:Ctr:=fun cs H Q=>match cs with
 |[.ptr id 0]=>(match H[id]? with
  |some (.var [p,buf] (some T))=>T=Aqh∧(match p with
   | .nilp=>Q (.tup []) (H.set id (.var [.ptr id 0,buf] (some T)))
   | .ptr id' 0=>id'=id∧Q (.tup []) H
   |_=>False)
  |_=>False)
 |_=>False
theorem Vj{F:Nat→Obj→Prop}:Good F Tryz.prog 182 Ka:=by
 intro ρ S w H cs vs Q hs hH hv hK
 unfold Ka at hK
 split at hK
 ·rename_i id
  split at hK
  ·rename_i p buf T hid
   obtain⟨rfl,hK⟩:=hK
   obtain⟨vs⟩:=vs
   match vs,hv with
   |[a],hv=>
    obtain⟨b,rfl,hb⟩:=(hv.2 0 _ _ rfl rfl).ptrR
    obtain⟨hns,arr,T',fr,h1,h2,h3,h4⟩:=hH.blk _ _ hid b hb
    have h1:w.heap[b]? =some (.cells arr Aqh fr):=h1
    have h2:arr.size=2:=h2
    have e0:arr[0]? =some (arr.getD 0 undef):=by simp[h2]
    have hsh:w.shape? b=some (Aqh,2):=by simp[World.shape?,h1,h2]
    have hc:w.cell? ⟨b,0,none⟩=some (arr.getD 0 undef):=by simp only[World.cell?,h1];exact e0
    have v0:=h4 0 p _ rfl e0
    split at hK
    ·cases hv0:arr.getD 0 undef<;>rw[hv0] at v0<;>cases v0
     rw[hv0] at hc
     refine(Any.Builder_copyCheck_fresh Tryz.laysCopyCheck Tryz.x72 b w hc hsh (h3 0 (by omega))).mono ?_
     rintro e w' ⟨rfl,rfl⟩
     have hw:w.setCell ⟨b,0,none⟩ (.pointer (some ⟨b,0,none⟩))=w.setCells b 0 [.pointer (some ⟨b,0,none⟩)]:=rfl
     rw[hw]
     have hheap:=Dx b [.pointer (some ⟨b,0,none⟩)] 0 w arr Aqh fr h1
     have hE:Ext ρ S w ρ S (w.setCells b 0 [.pointer (some ⟨b,0,none⟩)]):=N5 hH hb hns (setCells_size _ _ _ _) (fun k hk=>C7 b _ _ _ k hk)
      (fun a' T2 f' h'=>by rw[h1] at h';cases h';exact⟨_,_,hheap,Dz _ _ _⟩) (Ch _ _ _ _).1 (Ch _ _ _ _).2.1 (Ch _ _ _ _).2.2
     refine⟨_,.tup [],_,ρ,S,rfl,hK,.tup _ _ rfl (fun i c v hc=>by simp at hc),Is hH hid rfl hb hE (setCells_size _ _ _ _) (fun k hk=>C7 b _ _ _ k hk) ?_,hE,hs.still hE⟩
     intro b' hb'
     rw[hb] at hb';cases hb'
     refine⟨hns,_,T',fr,hheap,by rw[Dz];exact h2,fun o ho=>?_,fun k c v hk hv=>?_⟩
     ·rw[Dz] at ho
      rw[World.frozen?_setCells];exact h3 o ho
     ·rw[Tw _ _ _ _ (by simp;omega)] at hv
      cases k with
      |zero=>simp at hk hv;subst hk;subst hv;exact .ptr _ _ _ hb
      |succ k=>
       rw[if_neg (by simp)] at hv
       exact(h4 (k+1) c v hk hv).mono hE
    ·obtain⟨rfl,hK⟩:=hK
     obtain⟨b',hb',hb''⟩:=v0.ptrR
     rw[hb] at hb'';cases hb''
     rw[hb'] at hc
     refine(Any.Builder_copyCheck_used Tryz.laysCopyCheck Tryz.x72 b w hc).mono ?_
     rintro e w' ⟨rfl,rfl⟩
     exact⟨_,.tup [],_,ρ,S,rfl,hK,.tup _ _ rfl (fun i c v hc=>by simp at hc),hH,Ext.refl _ _ _,hs⟩
    ·exact hK.elim
   |[],hv=>simp[VL] at hv
   |_::_::_,hv=>have:=hv.1;simp at this
  ·exact hK.elim
 ·exact hK.elim
def M2:Ctr:=fun cs H Q=>match cs with
 |[.ptr id 0]=>(match H[id]? with
  |some (.var [_,.osl r 1 0 n _] (some _))=>(match H[r]? with
   |some (.row 1 L get (some E))=>(E=Avw∧0<n∧n≤L∧∀ e,e<n→(It (get e)).isSome=true)∧Q (.str (bytesOf n get)) (H.set r .dead)
   |_=>False)
  |_=>False)
 |_=>False
theorem Sv{F:Nat→Obj→Prop}:Good F Tryz.prog 102 M2:=by
 intro ρ S w H cs vs Q hs hH hv hK
 unfold M2 at hK
 split at hK
 ·rename_i id
  split at hK
  ·rename_i p r n cap T hid
   split at hK
   ·rename_i L get E hr
    obtain⟨⟨rfl,h0,hnL,hby⟩,hK⟩:=hK
    obtain⟨vs⟩:=vs
    match vs,hv with
    |[a],hv=>
     obtain⟨b,rfl,hb⟩:=(hv.2 0 _ _ rfl rfl).ptrR
     obtain⟨hns,arr,T',fr,h1,h2,h3,h4⟩:=hH.blk _ _ hid b hb
     have h2:arr.size=2:=h2
     have e1:arr[1]? =some (arr.getD 1 undef):=by simp[h2]
     obtain⟨g,o,cp,hsl,hg,hl,hm,ho,_,_⟩:=(h4 1 _ _ rfl e1).oslR
     have ho:o=0:=by rw[ho (by omega)]
     subst ho
     obtain⟨hgs,cur,T2,fr2,g1,g2,g3,g4,g5⟩:=hH.blk _ _ hr g hg
     have g1:w.heap[g]? =some (.cells cur Avw fr2):=g1
     rw[Nat.mul_one] at g2
     have hbl:(bytesOf n get).length=n:=by simp[bytesOf]
     have hcell:∀ (j:Nat) (x:UInt8),(bytesOf n get)[j]? =some x→w.cell? ⟨g,j,none⟩=some (.int .u8 x.toNat):=fun j x hx=>by
      have hj:j<n:=by
       rcases Nat.lt_or_ge j n with h|h
       ·exact h
       ·rw[List.getElem?_eq_none (by rw[hbl];exact h)] at hx;cases hx
      obtain⟨k,hk1,hk2,hk3⟩:∃ k:Int,get j=[.int .u8 k]∧True∧True:=by
       have:=hby j hj
       unfold It at this
       split at this
       ·rename_i k hk;exact⟨k,hk,trivial,trivial⟩
       ·cases this
      have hlt:j<cur.size:=by omega
      have hv:=g5 j 0 (.int .u8 k) cur[j] (by omega) (by rw[hk1];rfl) (by simp[hlt])
      obtain⟨hv1,hv2⟩:=hv.intR
      simp only[bytesOf,List.getElem?_map,List.getElem?_range hj,Option.map_some,Option.some.injEq,hk1,It,Option.getD_some] at hx
      simp only[World.cell?,g1]
      rw[Array.getElem?_eq_getElem hlt,hv1,←hx]
      have:0≤k∧k≤255:=hv2
      congr 2
      simp[UInt8.toNat_ofNat];omega
     have call:=zE Tryz.laysBString Tryz.extra b g n cp (arr.getD 0 undef) arr cur _ fr fr2 (bytesOf n get) w h1 (by rw[e1,hsl,hbl]) g1 (by omega) (by omega) hm (by omega) hcell
     rw[hbl] at call
     refine call.mono ?_
     rintro e w' ⟨rfl,rfl⟩
     have hn0: ¬n=0:=by omega
     have hoth:∀ k,k≠g→(w.drew.freeze ⟨g,0,none⟩ n).heap[k]? =w.heap[k]? :=fun k hk=>by
      unfold World.freeze
      rw[if_neg hn0]
      show(w.heap.modify g _)[k]? =_
      rw[Array.getElem?_modify,if_neg (Ne.symm hk)]
     have hsz:(w.drew.freeze ⟨g,0,none⟩ n).heap.size=w.heap.size:=by
      unfold World.freeze
      rw[if_neg hn0]
      show(w.heap.modify g _).size=_
      simp
     have hE:Ext ρ S w ρ S (w.drew.freeze ⟨g,0,none⟩ n):=
      N5 hH hg hgs hsz hoth (fun arr2 T3 fr3 h=>by
       obtain⟨lo,hi⟩:=fr3
       refine⟨arr2,(if lo == hi then(0,0+n) else(min lo 0,max hi (0+n))),?_,rfl⟩
       unfold World.freeze
       rw[if_neg hn0]
       show(w.heap.modify g _)[g]? =_
       rw[Array.getElem?_modify,if_pos rfl,h];rfl)
       (by unfold World.freeze;rw[if_neg hn0];rfl) (by unfold World.freeze;rw[if_neg hn0];rfl) (by unfold World.freeze;rw[if_neg hn0];rfl)
     exact⟨_,.str _,_,ρ,S,rfl,hK,.str _ _ (by simp) (by rw[hbl];omega),Is hH hr rfl hg hE hsz hoth trivial,hE,hs.still hE⟩
    |[],hv=>simp[VL] at hv
    |_::_::_,hv=>have:=hv.1;simp at this
   ·exact hK.elim
  ·exact hK.elim
 ·exact hK.elim
end Go.Vc
namespace Go.Vc
open Go Go.Proofs Go.RowKit
theorem GoodP.imp{F:Nat→Obj→Prop}{P:Program}{f:FuncId}{pc pc':PC}(h:GoodP F P f pc)(hi:∀ cs Q,pc'.T cs Q→pc.T cs Q):GoodP F P f pc':=
 fun S w cs vs Q hs hv hT=>h S w cs vs Q hs hv (hi cs Q hT)
namespace Z
noncomputable section
def Kz:PC:=PC.fun fun|[.int .i64 n]=>some (True,.str (sS (Lib.itoa n)))|_=>none
theorem Aj9{W:World}(hW:Tabs W):GoodP (Fw W) Tryz.prog 111 Kz:=by
 refine(Amt hW).imp fun cs Q h=>?_
 simp only[Kz,PC.fun] at h
 split at h
 ·rename_i p r hf
  split at hf
  ·cases hf
   rename_i n
   rw[A0] at h
   exact⟨n,trivial,⟨⟨rfl,rfl⟩,trivial⟩,h.2⟩
  ·cases hf
 ·exact h.elim
def Qv:PC:=PC.of (fun x:List (List UInt8) × List UInt8=>[slS x.1,.str x.2]) (fun x=>(Lib.join x.1 x.2).length≤140737488355328∧x.1.length≤140737488355328) (fun x=>.str (sS (Lib.join x.1 x.2)))
theorem Mg{W:World}(_:Tabs W):GoodP (Fw W) Tryz.prog 62 Qv:=by
 refine Ams.imp fun cs Q h=>?_
 obtain⟨x,h1,h2,h3⟩:=h
 simp only[A0] at h3
 exact⟨x,h1,h2,h3⟩
end
end Z
end Go.Vc
namespace Go.Vc.Z
open Go Go.Vc Go.Proofs Go.RowKit Go.Pl Go.Lib
noncomputable section
set_option maxRecDepth 100000
attribute [local irreducible] inK Utf8.decode Utf8.encode Lib.itoa Pl.worth Pl.allDig
attribute [local irreducible] Lib.join
theorem Ahn{L:List (List UInt8)}{w:List UInt8}{b:Nat→List AV}(hb:b 0=[.str w]){e:Nat}(he:e<(L++[w]).length):B0 L.length (fun e=>[AV.str (L.getD e [])]) b e=[AV.str ((L++[w]).getD e [])]:=by
 unfold B0
 rw[List.length_append,List.length_singleton] at he
 rcases Nat.lt_or_ge e L.length with h|h
 ·rw[if_pos h]
  simp[List.getD_eq_getElem?_getD,List.getElem?_append_left h]
 ·obtain rfl:e=L.length:=by omega
  rw[if_neg (by omega),Nat.sub_self,hb]
  simp[List.getD_eq_getElem?_getD]
theorem Aho(m:Nat):∀ (L:List (List UInt8)),(∀ s ∈ L,s.length≤m)→Lib.lens L≤L.length*m
 |[],_=>by simp[Lib.lens]
 |x::r,h=>by
  have h1:=Aho m r fun s hs=>h s (List.mem_cons_of_mem _ hs)
  have h2:=h x List.mem_cons_self
  simp only[Lib.lens,List.map_cons,List.sum_cons,List.length_cons] at h1 ⊢
  rw[Nat.add_mul];omega
theorem K0(sep:List UInt8)(m:Nat)(L:List (List UInt8))(h:∀ s ∈ L,s.length≤m):(Lib.join L sep).length≤L.length*(m+sep.length):=by
 cases L with
 |nil=>simp[Lib.join_nil]
 |cons x r=>
  rw[Lib.join_length]
  have:=Aho m (x::r) h
  rw[Nat.mul_add]
  have:sep.length*r.length≤(x::r).length*sep.length:=by
   rw[Nat.mul_comm];exact Nat.mul_le_mul_right _ (by simp)
  omega
theorem Fi(n:Int):(A7 n).length≤20:=by
 unfold A7
 split
 ·have:=Sj (by assumption)
  exact Mt _ (by omega)
 ·simp
end
end Go.Vc.Z
namespace Go.Vc.Z
open Go Go.Vc Go.Proofs Go.RowKit Go.Pl Go.Lib
noncomputable section
set_option maxRecDepth 100000
attribute [local irreducible] inK Utf8.decode Utf8.encode Lib.itoa Pl.worth Pl.allDig
attribute [local irreducible] Lib.join
theorem Zu{L:List (List UInt8)}(h:L≠[])(w sep:List UInt8):Lib.join (L++[w]) sep=Lib.join L sep++(sep++w):=by
 cases L with
 |nil=>exact absurd rfl h
 |cons x r=>
  rw[List.cons_append,Lib.join_cons,Lib.join_cons,List.append_assoc]
  simp[Lib.joinTail]
end
end Go.Vc.Z
namespace Go.Vc.Z
open Go Go.Vc Go.Proofs Go.RowKit Go.Pl Go.Lib
noncomputable section
set_option maxRecDepth 100000
attribute [local irreducible] inK Utf8.decode Utf8.encode Lib.itoa Pl.worth Pl.allDig
abbrev Gt(n:Int):UInt8:=UInt8.ofNat (48+n % 10).toNat
@[irreducible] def Ce(n:Int):List UInt8:=decDigits (n / 10 / 10).toNat++[46,Gt (n / 10),Gt n]
@[irreducible] def Gu(n:Int):List UInt8:=if n<0 then 45::Ce (-n) else Ce n
@[irreducible] def Du(n:Int):List UInt8:=if Do n=true then Gu n else []
def Vk(n least:Int):List UInt8:=if least=1 then decDigits n.toNat else [Gt (n / 10),Gt n]
def zF:PC:=PC.fun fun|[.int .i64 n,.int .i64 least]=>some (0≤n∧(least=1∨(least=2∧n<100)),.str (sS (Vk n least)))|_=>none
def Aw3(n:Int):LoopSpec:={
 α:=Nat × List UInt8
 keep:=[0,1,5]
 vals x:=[.int .i64 (x.1:Int),.int .i64 1,.str x.2]
 heap _:=[]
 ok x:=x.1≤n.toNat∧(if x.1=0∧x.2≠[] then x.2 else decDigits x.1++x.2)=decDigits n.toNat
 μ x:=2*x.1+(if x.2=[] then 1 else 0) }
def Sw:List AV→Nat→Option LR:=fun cs i=>match cs with|[.int _ n,.int _ least]=>cond (Nat.beq i 2) (some ((match decide (least=1) with|true=>.inv (Aw3 n)|false=>.unroll 3))) (none)|_=>none
theorem K5{W:World}(hW:Tabs W):GoodP (Fw W) Tryz.prog 170 zF:=by
 have hD:=A9 hW
 have hC0:Ad (Fw W) Tryz.prog An:=(Bc hW)
 refine Az (D:=A8) (C:=An) (wr:=(fun _=>false)) rfl Ap hD hC0 Tryz.func170 (Sw) ?_
 clear hC0 hD hW
 intro cs p r h hf hp
 split at h
 case h_2=>cases h
 rename_i n least
 cases h
 try simp only[Ax,Bh,Am,Go.Vc.lo,Go.Vc.hi,and_true] at hf
 obtain⟨h0,hl⟩:=hp
 rcases hl with rfl|⟨rfl,h100⟩
 ·(conv=>whnf)
  refine⟨?_,fun(x:Nat × List UInt8) (hx:x.1≤n.toNat∧(if x.1=0∧x.2≠[] then x.2 else decDigits x.1++x.2)=decDigits n.toNat)=>?_⟩
  ·(conv=>whnf)
   refine⟨((n.toNat,[]):Nat × List UInt8),[],?_,⟨⟨rfl,(nB rfl),rfl⟩,?_,?_⟩⟩
   ·exact⟨Nat.le_refl _,by simp⟩
   ·exact tL
   ·exact tL
  ·obtain⟨h1,h2⟩:=hx
   have hl:x.2.length≤30:=by
    have:=congrArg List.length h2
    have h20:(decDigits n.toNat).length≤30:=by rw[decDigits_length];exact Nat.le_trans (J7 29 _ (by omega)) (by omega)
    split at this<;>(try simp at this)<;>omega
   have hz:x.2.length<1↔x.2=[]:=by rw[←List.length_eq_zero_iff];omega
   (conv=>whnf)
   (repeat' ((first
    |((with_reducible refine aI ?_ ?_);focus (first|omega|(intro e he;rcases(by omega:e=0∨e=1∨e=2) with rfl|rfl|rfl<;>first|rfl|(exfalso;omega))|(simp only[Am,Go.Vc.lo,Go.Vc.hi];simp (disch:=omega) only[Int.tdiv_eq_ediv_of_nonneg,Int.tmod_eq_emod_of_nonneg,Cg,eY];omega)|(simp only[List.length_append,bytesOf_length,List.toList_toArray,List.length_cons,List.length_nil,List.length_take,List.length_drop,A0];omega)))
    |(split<;>rename_i hh<;>(try simp only[wS] at hh))
    |with_reducible refine lnI fun hln=>?_
    |fail)<;>(conv=>whnf)))
   all_goals (try (show _=_;simp only[wQ]))
   ·(conv=>whnf)
    refine⟨((x.1 / 10,UInt8.ofNat (48+x.1 % 10)::x.2):Nat × List UInt8),[],?_,⟨⟨rfl,(nB rfl),rfl⟩,?_,?_⟩⟩
    ·refine⟨⟨show x.1 / 10≤n.toNat by omega,(Il (n:=x.1) (s:=x.2) (.inl (by omega))).trans h2⟩,?_⟩
     show 2*(x.1 / 10)+(if UInt8.ofNat (48+x.1 % 10)::x.2=[] then 1 else 0)<2*x.1+(if x.2=[] then 1 else 0)
     rw[if_neg (by simp)];omega
    ·exact Ac _
    ·exact tL
   ·have hs:x.2=[]:=hz.1 (by omega)
    (conv=>whnf)
    refine⟨((x.1 / 10,UInt8.ofNat (48+x.1 % 10)::x.2):Nat × List UInt8),[],?_,⟨⟨rfl,(nB rfl),rfl⟩,?_,?_⟩⟩
    ·refine⟨⟨show x.1 / 10≤n.toNat by omega,(Il (n:=x.1) (s:=x.2) (.inr hs)).trans h2⟩,?_⟩
     show 2*(x.1 / 10)+(if UInt8.ofNat (48+x.1 % 10)::x.2=[] then 1 else 0)<2*x.1+(if x.2=[] then 1 else 0)
     rw[if_neg (by simp),if_pos hs];omega
    ·exact Ac _
    ·exact tL
   ·have hs:x.2≠[]:=fun h=>by have:=hz.2 h;omega
    have h0:x.1=0:=by omega
    rw[if_pos ⟨h0,hs⟩] at h2
    exact h2
 ·(conv=>whnf)
  (repeat' ((first
   |((with_reducible refine aI ?_ ?_);focus (first|omega|(intro e he;rcases(by omega:e=0∨e=1∨e=2) with rfl|rfl|rfl<;>first|rfl|(exfalso;omega))|(simp only[Am,Go.Vc.lo,Go.Vc.hi];simp (disch:=omega) only[Int.tdiv_eq_ediv_of_nonneg,Int.tmod_eq_emod_of_nonneg,Cg,eY];omega)|(simp only[List.length_append,bytesOf_length,List.toList_toArray,List.length_cons,List.length_nil,List.length_take,List.length_drop,A0];omega)))
   |(split<;>rename_i hh<;>(try simp only[wS] at hh)<;>(try simp (disch:=omega) only[wT] at hh))
   |with_reducible refine lnI fun hln=>?_
   |fail)<;>(conv=>whnf)))
  all_goals (try (show _=_;simp only[wQ]))
  all_goals try (exfalso;omega)
  all_goals (
   show [UInt8.ofNat (48+(n.tdiv 10).tmod 10).toNat,UInt8.ofNat (48+n.tmod 10).toNat]=_
   rw[Int.tdiv_eq_ediv_of_nonneg h0,Int.tmod_eq_emod_of_nonneg h0,Int.tmod_eq_emod_of_nonneg (by omega)]
   rfl)
theorem Kb{n:Int}(h0:0≤n)(h:n≤9223372036854775807):(Ce n).length≤30:=by
 unfold Ce
 have:=Mt (n / 10 / 10).toNat (by omega)
 simp only[List.length_append,List.length_cons,List.length_nil];omega
theorem Af6{n:Int}(h: -9223372036854775807≤n∧n≤9223372036854775807):(Gu n).length≤31:=by
 unfold Gu
 split
 ·have:=Kb (n:= -n) (by omega) (by omega)
  simp only[List.length_cons];omega
 ·have:=Kb (n:=n) (by omega) (by omega)
  omega
def pX:PC:=PC.fun fun|[.int .i64 n]=>some (0≤n,.str (sS (Ce n)))|_=>none
def fY:PC:=PC.fun fun|[.int .i64 n]=>some (-9223372036854775807≤n,.str (sS (Gu n)))|_=>none
theorem fZ{n:Int}(h:0≤n):Vk (n.tdiv 100) 1++[46]++Vk (n.tmod 100) 2=Ce n:=by
 have e1:n.tdiv 100=n / 100:=Int.tdiv_eq_ediv_of_nonneg (by omega)
 have e2:n.tmod 100=n % 100:=Int.tmod_eq_emod_of_nonneg (by omega)
 unfold Vk Ce
 rw[if_pos rfl,if_neg (by omega),e1,e2,show n / 100=n / 10 / 10 by omega]
 unfold Gt
 rw[show n % 100 / 10 % 10=n / 10 % 10 by omega,show n % 100 % 10=n % 10 by omega]
 simp
def Zv:PT:=C2 [(170,zF)]
theorem pY{W:World}(hW:Tabs W):Cl (Fw W) Tryz.prog Zv:=(Ab Tryz.call170 (K5 hW) As)
def Zw:FuncId→Option Ctr:=Aw Zv []
theorem Aka{W:World}(hW:Tabs W):Ad (Fw W) Tryz.prog Zw:=(Au (pY hW))
theorem Akb{W:World}(hW:Tabs W):GoodP (Fw W) Tryz.prog 83 pX:=by
 have hD:=pY hW
 have hC0:Ad (Fw W) Tryz.prog Zw:=(Aka hW)
 refine Az (D:=Zv) (C:=Zw) (wr:=(fun _=>false)) rfl Ap hD hC0 Tryz.func83 (fun _ _=>none) ?_
 clear hC0 hD hW
 intro cs p r h hf hp
 split at h
 case h_2=>cases h
 rename_i n
 cases h
 try simp only[Ax,Bh,Am,Go.Vc.lo,Go.Vc.hi,and_true] at hf
 have e1:n.tdiv 100=n / 100:=Int.tdiv_eq_ediv_of_nonneg (by omega)
 have e2:n.tmod 100=n % 100:=Int.tmod_eq_emod_of_nonneg (by omega)
 have d1:(Vk (n.tdiv 100) 1).length≤20:=by unfold Vk;rw[if_pos rfl];exact Mt _ (by omega)
 have d2:(Vk (n.tmod 100) 2).length=2:=rfl
 have hex: ¬n<0:=by omega
 (conv=>whnf)
 (repeat' ((first
  |(exact absurd (by with_reducible assumption) hex)
  |((with_reducible refine aI ?_ ?_);focus (first|omega|exact tK|(simp only[List.length_append,bytesOf_length,List.toList_toArray,List.length_cons,List.length_nil,List.length_take,List.length_drop,A0];omega)))
  |(split<;>rename_i hh<;>(try simp only[wS] at hh))
  |fail)<;>(conv=>whnf)))
 all_goals (try (show _=_;simp only[wQ]))
 exact fZ hp
def H3:PT:=C2 [(83,pX),(170,zF)]
theorem M3{W:World}(hW:Tabs W):Cl (Fw W) Tryz.prog H3:=(Ab Tryz.call83 (Akb hW) (Ab Tryz.call170 (K5 hW) As))
def H4:FuncId→Option Ctr:=Aw H3 []
theorem Wc{W:World}(hW:Tabs W):Ad (Fw W) Tryz.prog H4:=(Au (M3 hW))
theorem M4{W:World}(hW:Tabs W):GoodP (Fw W) Tryz.prog 83 fY:=by
 have hD:=M3 hW
 have hC0:Ad (Fw W) Tryz.prog H4:=(Wc hW)
 refine Az (D:=H3) (C:=H4) (wr:=(fun _=>false)) rfl Ap hD hC0 Tryz.func83 (fun _ _=>none) ?_
 clear hC0 hD hW
 intro cs p r h hf hp
 split at h
 case h_2=>cases h
 rename_i n
 cases h
 try simp only[Ax,Bh,Am,Go.Vc.lo,Go.Vc.hi,and_true] at hf
 by_cases h0:0≤n
 ·have e1:n.tdiv 100=n / 100:=Int.tdiv_eq_ediv_of_nonneg (by omega)
  have e2:n.tmod 100=n % 100:=Int.tmod_eq_emod_of_nonneg (by omega)
  have d1:(Vk (n.tdiv 100) 1).length≤20:=by unfold Vk;rw[if_pos rfl];exact Mt _ (by omega)
  have d2:(Vk (n.tmod 100) 2).length=2:=rfl
  have hex: ¬n<0:=by omega
  (conv=>whnf)
  (repeat' ((first
   |(exact absurd (by with_reducible assumption) hex)
   |((with_reducible refine aI ?_ ?_);focus (first|omega|exact tK|(simp only[List.length_append,bytesOf_length,List.toList_toArray,List.length_cons,List.length_nil,List.length_take,List.length_drop,A0];omega)))
   |(split<;>rename_i hh<;>(try simp only[wS] at hh))
   |fail)<;>(conv=>whnf)))
  all_goals (try (show _=_;simp only[wQ]))
  unfold Gu;rw[if_neg hex];exact fZ h0
 ·have hex: ¬0≤n:=by omega
  have h1:=Kb (n:= -n) (by omega) (by omega)
  (conv=>whnf)
  (repeat' ((first
   |(exact absurd (by with_reducible assumption) hex)
   |((with_reducible refine aI ?_ ?_);focus (first|omega|exact tK|(simp only[List.length_append,bytesOf_length,List.toList_toArray,List.length_cons,List.length_nil,List.length_take,List.length_drop,A0];omega)))
   |(split<;>rename_i hh<;>(try simp only[wS] at hh))
   |fail)<;>(conv=>whnf)))
  all_goals (try (show _=_;simp only[wQ]))
  unfold Gu;rw[if_pos (by omega)];rfl
def Iz(m:Int):Nat→List UInt8
 |0=>Ce m
 |1=>decDigits (m / 10).toNat++[46,Gt m]
 |2=>decDigits m.toNat++[46]
 |_+3=>if m=0 then [] else decDigits m.toNat
theorem Amu{m:Int}(h:0≤m):(if m / 10=0 then [] else decDigits (m / 10).toNat)++[Gt m]=decDigits m.toNat:=by
 obtain⟨u,rfl⟩:∃ u:Nat,m=u:=⟨m.toNat,by omega⟩
 have e:Gt (u:Int)=UInt8.ofNat (48+u % 10):=by unfold Gt;congr 1
 rw[e,show((u:Int) / 10).toNat=u / 10 by omega,Int.toNat_natCast]
 split
 ·rw[Ik (by omega)];rfl
 ·rw[T8 (u:=u) (by omega)]
theorem rest_step{m:Int}{i:Nat}(h:0≤m)(hi:i<3∨0<m):Iz (m / 10) (i+1)++(if i=2 then [Gt m,46] else [Gt m])=Iz m i:=by
 rcases Nat.lt_or_ge i 3 with h3|h3
 rcases(by omega:i=0∨i=1∨i=2) with rfl|rfl|rfl
 ·simp[Iz,Ce]
 ·simp[Iz]
 ·have:=Amu h
  simp only[Iz]
  rw[if_pos True.intro,show [Gt m,46]=[Gt m]++[46] from rfl,←List.append_assoc,this]
 ·obtain⟨k,rfl⟩:∃ k,i=k+3:=⟨i - 3,by omega⟩
  have:=Amu h
  rw[if_neg (by omega)]
  show(if m / 10=0 then [] else decDigits (m / 10).toNat)++[Gt m]=if m=0 then [] else decDigits m.toNat
  rw[this,if_neg (by omega)]
def A4m(l:List UInt8):Blk:=match l with
 |[]=>.dead
 |c::l=>.row 1 (l.length+1) (fun e=>[.int .u8 ((c::l).getD e 0).toNat])
def A4n(id:Nat):List UInt8→AV
 |[]=>.nilsl
 |_::l=>.osl id 1 0 (l.length+1) none
abbrev FS:=Nat × List UInt8 × Int
def Aw4(n:Int):LoopSpec:={
 α:=FS
 keep:=[0,3,4]
 vals x:=[.int .i64 x.2.2,A4n 0 x.2.1,.int .i64 x.1]
 heap x:=[A4m x.2.1]
 ok x:=0≤x.2.2∧x.2.2≤n∧((x.1=0↔x.2.1=[])∧x.1≤x.2.1.length)∧Iz x.2.2 x.1++x.2.1.reverse=Ce n
 μ x:=(3 - x.1)+2*x.2.2.toNat }
def Aw5(T:List UInt8)(k:Nat):Blk:=.row 1 k (fun e=>[.int .u8 (T.getD e 0).toNat]) (some 5)
def Aqi(n:Int):LoopSpec:={
 α:=Nat
 keep:=[3,5,41,42]
 vals k:=[.osl 0 1 0 (Ce n).length none,.ptr 1 0,.int .i64 (Ce n).length,.int .i64 k]
 heap k:=match k with
  |0=>[.row 1 (Ce n).length (fun e=>[.int .u8 ((Ce n).reverse.getD e 0).toNat]),.var [.nilp,.nilsl] (some 152),.dead]
  |k+1=>[.row 1 (Ce n).length (fun e=>[.int .u8 ((Ce n).reverse.getD e 0).toNat]),.var [.ptr 1 0,.osl 2 1 0 (k+1) none] (some 152),Aw5 (Ce n) (k+1)]
 ok k:=k≤(Ce n).length
 μ k:=(Ce n).length - k }
def Abn:PC:=PC.fun fun|[.int .i64 n]=>some (0≤n∧Do n=true,.str (sS (Ce n)))|_=>none
theorem Amv{m:Int}(h:0≤m):(((Gt m).toNat:Nat):Int)=48+m.tmod 10:=by
 rw[Int.tmod_eq_emod_of_nonneg h]
 unfold Gt
 have:(UInt8.ofNat (48+m % 10).toNat).toNat=(48+m % 10).toNat % 256:=UInt8.toNat_ofNat'
 omega
theorem zG{m:Int}{i:Nat}(h:0≤m)(hi:i<3∨0<m)(h2:i≠2):Iz (m / 10) (i+1)++[Gt m]=Iz m i:=by
 have:=rest_step h hi
 rw[if_neg h2] at this;exact this
theorem Amw{m:Int}(h:0≤m):Iz (m / 10) 3++[Gt m,46]=Iz m 2:=rest_step h (.inl (by omega))
theorem Amx{T:List UInt8}{j:Nat}(h:j<T.length):T.reverse.getD (0+((T.length:Int) - 1 - (j:Int)).toNat) 0=T.getD j 0:=by
 rw[show 0+((T.length:Int) - 1 - (j:Int)).toNat=T.length - 1 - j by omega]
 simp only[List.getD_eq_getElem?_getD]
 rw[List.getElem?_reverse (by omega),show T.length - 1 - (T.length - 1 - j)=j by omega]
theorem Aqj{T:List UInt8}{k:Nat}{b:Nat→List AV}(hb:b 0=[.int .u8 (T.getD k 0).toNat]){e:Nat}(he:e<k+1):B0 k (fun e=>[AV.int .u8 (T.getD e 0).toNat]) b e=[AV.int .u8 (T.getD e 0).toNat]:=by
 unfold B0
 rcases Nat.lt_or_ge e k with h|h
 ·rw[if_pos h]
 ·obtain rfl:e=k:=by omega
  rw[if_neg (by omega),Nat.sub_self,hb]
theorem bG(T:List UInt8):bytesOf T.length (fun e=>[AV.int .u8 (T.getD e 0).toNat])=T:=by
 refine List.ext_getElem? fun j=>?_
 simp only[bytesOf,List.getElem?_map]
 rcases Nat.lt_or_ge j T.length with h|h
 ·rw[List.getElem?_range h,List.getElem?_eq_getElem h]
  simp[It,List.getD_eq_getElem?_getD,h]
 ·rw[List.getElem?_eq_none (by simpa using h),List.getElem?_eq_none h];rfl
theorem Aw6{l:List UInt8}{d:UInt8}{b:Nat→List AV}(hb:b 0=[.int .u8 d.toNat]){e:Nat}(he:e<l.length+1):B0 l.length (fun e=>[AV.int .u8 (l.getD e 0).toNat]) b e=[AV.int .u8 ((l++[d]).getD e 0).toNat]:=by
 unfold B0
 rcases Nat.lt_or_ge e l.length with h|h
 ·rw[if_pos h]
  simp[List.getD_eq_getElem?_getD,List.getElem?_append_left h]
 ·obtain rfl:e=l.length:=by omega
  rw[if_neg (by omega),Nat.sub_self,hb]
  simp[List.getD_eq_getElem?_getD]
theorem dN{l:List UInt8}{n:Nat}{d:UInt8}{g b:Nat→List AV}(hn:n=l.length)(hg:∀ e,e<l.length→g e=[.int .u8 (l.getD e 0).toNat])(hb:b 0=[.int .u8 d.toNat]){e:Nat}(he:e<n+1):B0 n g b e=[AV.int .u8 ((l++[d]).getD e 0).toNat]:=by
 subst hn
 rw[←Aw6 (l:=l) (b:=b) hb he]
 unfold B0
 split
 ·exact hg e (by assumption)
 ·rfl
theorem Af7(n:Int):0<(Ce n).length:=by unfold Ce;simp
def Abo:FuncId→Option Ctr:=Aw Hp [(102,M2),(182,Ka)]
theorem Abp{W:World}(hW:Tabs W):Ad (Fw W) Tryz.prog Abo:=(Ae Tryz.call102 Sv (Ae Tryz.call182 Vj (Au (O2 hW))))
def Akc:List (FuncId × Ctr):=(208,inl TY Abo Hp (fun _=>false) (fun _ _ _=>none) Tryz.f208)::[(102,M2),(182,Ka)]
def Zx:FuncId→Option Ctr:=Aw Hp Akc
theorem Akd{W:World}(hW:Tabs W):Ad (Fw W) Tryz.prog Zx:=Ae Tryz.call208 (Ag rfl Ap (O2 hW) (Abp hW) Tryz.func208 (fun _ _ _=>none)) (Abp hW)
def Amy:List AV→Nat→Option LR:=fun cs i=>match cs with|[.int _ n]=>cond (Nat.beq i 7) (some (.inv (Aw4 n))) (cond (Nat.beq i 15) (some (.inv (Aqi n))) (none))|_=>none
set_option maxHeartbeats 2000000 in
theorem Abq{W:World}(hW:Tabs W):GoodP (Fw W) Tryz.prog 132 Abn:=by
 have hD:=O2 hW
 have hC0:Ad (Fw W) Tryz.prog Zx:=(Akd hW)
 refine Az (D:=Hp) (C:=Zx) (wr:=(fun _=>false)) rfl Ap hD hC0 Tryz.func132 (Amy) ?_
 clear hC0 hD hW
 intro cs p r h hf hp
 split at h
 case h_2=>cases h
 rename_i n
 cases h
 try simp only[Ax,Bh,Am,Go.Vc.lo,Go.Vc.hi,and_true] at hf
 obtain⟨h0,hm⟩:=hp
 have hb:0≤n∧n≤1000000000000:=by have:=hm;unfold Do at this;simp at this;omega
 have hex: ¬Do n=false:=by rw[hm];simp
 (conv=>whnf)
 (repeat' ((first
  |(exact absurd (by with_reducible assumption) hex)
  |((with_reducible refine aI ?_ ?_);focus (first|with_reducible exact⟨⟩|omega))
  |(split<;>rename_i hh<;>(try simp only[wS] at hh))
  |fail)<;>(conv=>whnf)))
 ·exfalso;omega
 refine⟨?_,fun(x:FS) hx=>?_⟩
 ·(conv=>whnf)
  refine⟨((0,[],n):FS),[0],?_,⟨⟨rfl,(nB rfl),rfl⟩,?_,?_⟩⟩
  ·exact⟨h0,Int.le_refl _,⟨by simp,Nat.le_refl _⟩,by simp[Iz]⟩
  ·exact tL
  ·exact tL
 ·obtain⟨i,back,m⟩:=x
  obtain⟨h1,h2,⟨h3,h5⟩,h4⟩:=hx
  change i≤back.length at h5
  change 0≤m at h1
  change m≤n at h2
  change i=0↔back=[] at h3
  change Iz m i++back.reverse=Ce n at h4
  have hd:=Amv h1
  have htd:m.tdiv 10=m / 10:=Int.tdiv_eq_ediv_of_nonneg h1
  have hl:back.length≤40:=by
   have:=congrArg List.length h4
   have:=Kb h0 (by omega)
   simp at*;omega
  rcases back with _|⟨c,l⟩
  ·have hi:=h3.2 rfl
   subst hi
   (conv=>whnf)
   (repeat' ((first
    |((with_reducible refine aI ?_ ?_);focus (first|omega|exact tK|(simp only[Am,Go.Vc.lo,Go.Vc.hi];simp (disch:=omega) only[Int.tdiv_eq_ediv_of_nonneg,Int.tmod_eq_emod_of_nonneg,Cg,eY];omega)|(simp only[Aq,ty2,ty3,ty4,ty5,ty9,Cw,Co,Cx,Cp,Cu,Cy,Cv,Cz,Bm,Bj,Bn,Bi,Bo,Bp,Bq];first|omega|(refine⟨?_,?_⟩<;>omega))))
    |fail)<;>(conv=>whnf)))
   ·(conv=>whnf)
    refine⟨((1,[Gt m],m / 10):FS),[2],?_,⟨⟨rfl,(nB rfl),rfl⟩,?_,?_⟩⟩
    ·refine⟨⟨show 0≤m / 10 by omega,show m / 10≤n by omega,⟨by simp,Nat.le_refl _⟩,?_⟩,show(3 - 1)+2*(m / 10).toNat<(3 - 0)+2*m.toNat by omega⟩
     rw[←h4]
     have:=zG (i:=0) h1 (.inl (by omega)) (by omega)
     simpa using this
    ·exact tL
    ·(conv=>whnf)
     (repeat' ((first|with_reducible exact⟨⟩|((with_reducible refine aI ?_ ?_);focus (exact tA))|with_reducible refine iB ?_ ?_|fail)<;>(conv=>whnf)))
     all_goals (try simp only[wQ])
     intro e he
     have he:e<1:=he
     obtain rfl:e=0:=by omega
     refine⟨?_,rfl⟩
     show [AV.int .u8 (48+m.tmod 10)]=[AV.int .u8 ((Gt m).toNat:Int)]
     rw[hd]
  ·have hi:i≠0:=fun h=>by have:=h3.1 h;cases this
   have hl2:l.length≤39:=by simp at hl;omega
   have h6:i≤l.length+1:=h5
   clear hl
   have hdr:[AV.int .u8 (48+m.tmod 10)]=[AV.int .u8 ((Gt m).toNat:Int)]:=by rw[hd]
   have hfin: ¬0<m→3≤i→c::l=(Ce n).reverse:=fun hm0 hi3=>by
    obtain⟨k,rfl⟩:∃ k,i=k+3:=⟨i - 3,by omega⟩
    have hz:m=0:=by omega
    simp only[Iz] at h4
    rw[if_pos hz,List.nil_append] at h4
    rw[←h4,List.reverse_reverse]
   (conv=>whnf)
   (repeat' ((first
    |((with_reducible refine aI ?_ ?_);focus (first|((with_reducible refine⟨?_,?_,?_⟩)<;>first|(intro e he;rcases(by omega:e=0∨e=1∨e=2∨e=3∨e=4∨e=5) with rfl|rfl|rfl|rfl|rfl|rfl<;>first|rfl|(exfalso;omega))|(with_reducible assumption)|omega|((with_reducible show Aq _ _);simp only[Aq,ty2,ty3,ty4,ty5,ty9,Cw,Co,Cx,Cp,Cu,Cy,Cv,Cz,Bm,Bj,Bn,Bi,Bo,Bp,Bq,List.length_cons,List.length_nil];first|omega|(refine⟨?_,?_⟩<;>omega)))|omega|exact tK|(simp only[Am,Go.Vc.lo,Go.Vc.hi];simp (disch:=omega) only[Int.tdiv_eq_ediv_of_nonneg,Int.tmod_eq_emod_of_nonneg,Cg,eY];omega)))
    |(split<;>rename_i hh<;>(try simp only[wS] at hh))
    |with_reducible refine lnI fun hln=>?_
    |fail)<;>(conv=>whnf)))
   ·(conv=>whnf)
    refine⟨((i+1,c::l++[46]++[Gt m],m / 10):FS),[4],?_,⟨⟨rfl,(nB rfl),rfl⟩,?_,?_⟩⟩
    ·refine⟨⟨show 0≤m / 10 by omega,show m / 10≤n by omega,⟨by simp,by simp;omega⟩,?_⟩,show(3 - (i+1))+2*(m / 10).toNat<(3 - i)+2*m.toNat by omega⟩
     rw[←h4]
     obtain rfl:i=2:=by omega
     have:=Amw h1
     show Iz (m / 10) 3++_=Iz m 2++_
     rw[←this];simp
    ·exact tL
    ·(conv=>whnf)
     (repeat' ((first|with_reducible exact⟨⟩|((with_reducible refine aI ?_ ?_);focus (exact tA))|with_reducible refine iB ?_ ?_|fail)<;>(conv=>whnf)))
     all_goals (try simp only[wQ])
     exact⟨by simp,fun e he=>⟨dN (l:=c::l++[46]) (by simp) (fun e he=>dN (l:=c::l) rfl (fun _ _=>rfl) rfl (by simpa using he)) hdr (by simpa using he),rfl⟩⟩
   ·(conv=>whnf)
    refine⟨((i+1,c::l++[Gt m],m / 10):FS),[2],?_,⟨⟨rfl,(nB rfl),rfl⟩,?_,?_⟩⟩
    ·refine⟨⟨show 0≤m / 10 by omega,show m / 10≤n by omega,⟨by simp,by simp;omega⟩,?_⟩,show(3 - (i+1))+2*(m / 10).toNat<(3 - i)+2*m.toNat by omega⟩
     rw[←h4]
     have:=zG (i:=i) h1 (.inl (by omega)) (by omega)
     show Iz (m / 10) (i+1)++_=Iz m i++_
     rw[←this];simp
    ·exact tL
    ·(conv=>whnf)
     (repeat' ((first|with_reducible exact⟨⟩|((with_reducible refine aI ?_ ?_);focus (exact tA))|with_reducible refine iB ?_ ?_|fail)<;>(conv=>whnf)))
     all_goals (try simp only[wQ])
     exact⟨by simp,fun e he=>⟨dN (l:=c::l) rfl (fun _ _=>rfl) hdr (by simpa using he),rfl⟩⟩
   ·exfalso;omega
   ·(conv=>whnf)
    refine⟨((i+1,c::l++[Gt m],m / 10):FS),[2],?_,⟨⟨rfl,(nB rfl),rfl⟩,?_,?_⟩⟩
    ·refine⟨⟨show 0≤m / 10 by omega,show m / 10≤n by omega,⟨by simp,by simp;omega⟩,?_⟩,show(3 - (i+1))+2*(m / 10).toNat<(3 - i)+2*m.toNat by omega⟩
     rw[←h4]
     have:=zG (i:=i) h1 (.inr (by omega)) (by omega)
     show Iz (m / 10) (i+1)++_=Iz m i++_
     rw[←this];simp
    ·exact tL
    ·(conv=>whnf)
     (repeat' ((first|with_reducible exact⟨⟩|((with_reducible refine aI ?_ ?_);focus (exact tA))|with_reducible refine iB ?_ ?_|fail)<;>(conv=>whnf)))
     all_goals (try simp only[wQ])
     exact⟨by simp,fun e he=>⟨dN (l:=c::l) rfl (fun _ _=>rfl) hdr (by simpa using he),rfl⟩⟩
   ·have hcl:=hfin (by omega) (by omega)
    have hll:l.length+1=(Ce n).length:=by have:=congrArg List.length hcl;simpa using this
    refine⟨?_,fun(k:Nat) (hk:k≤(Ce n).length)=>?_⟩
    ·(conv=>whnf)
     refine⟨(0:Nat),[],?_,⟨⟨rfl,(nB rfl),rfl⟩,?_,?_⟩⟩
     ·exact Nat.zero_le _
     ·exact tL
     ·(conv=>whnf)
      (repeat' ((first|with_reducible exact⟨⟩|((with_reducible refine aI ?_ ?_);focus (exact tA))|with_reducible refine iA ?_ ?_|with_reducible refine iL ?_ ?_|with_reducible refine iB ?_ ?_|fail)<;>(conv=>whnf)))
      all_goals (try simp only[wQ])
      intro e he
      rw[hcl];exact⟨rfl,rfl⟩
    ·have hr:∀ k:Nat,k<(Ce n).length→[AV.int .u8 (((Ce n).reverse.getD (0+(((Ce n).length:Int) - 1 - (k:Int)).toNat) 0).toNat:Int)]=[AV.int .u8 ((Ce n).getD k 0).toNat]:=fun k hk=>by rw[Amx hk]
     have hpos:=Af7 n
     have h30:=Kb h0 (by omega)
     rcases k with _|k
     ·(conv=>whnf)
      (repeat' ((first
       |(with_reducible refine Ao ?_)
       |((with_reducible refine aI ?_ ?_);focus (first|omega|exact tK|(simp only[Aq,ty2,ty3,ty4,ty5,ty9,Cw,Co,Cx,Cp,Cu,Cy,Cv,Cz,Bm,Bj,Bn,Bi,Bo,Bp,Bq];first|omega|(refine⟨?_,?_⟩<;>omega))|decide))
       |(split<;>rename_i hh<;>(try simp only[wS] at hh))
       |with_reducible refine lnI fun hln=>?_
       |fail)<;>(conv=>whnf)))
      ·(conv=>whnf)
       refine⟨(1:Nat),[4],?_,⟨⟨rfl,(nB rfl),rfl⟩,?_,?_⟩⟩
       ·exact⟨show 1≤(Ce n).length by omega,show(Ce n).length - 1<(Ce n).length - 0 by omega⟩
       ·exact tL
       ·(conv=>whnf)
        (repeat' ((first|with_reducible exact⟨⟩|((with_reducible refine Or.inr ?_);rfl)|((with_reducible refine aI ?_ ?_);focus (exact tA))|with_reducible refine iA ?_ ?_|with_reducible refine iL ?_ ?_|with_reducible refine iB ?_ ?_|fail)<;>(conv=>whnf)))
        all_goals (try simp only[wQ])
        all_goals (try first|exact fun _ _=>⟨True.intro,rfl⟩)
        refine⟨⟨rfl,Nat.le_refl _,fun e he=>?_⟩,trivial⟩
        have he:e<1:=he
        obtain rfl:e=0:=by omega
        exact⟨hr 0 (by omega),rfl⟩
      ·exfalso;omega
     ·(conv=>whnf)
      (repeat' ((first
       |(with_reducible refine Ao ?_)
       |((with_reducible refine aI ?_ ?_);focus (first|((with_reducible refine⟨?_,?_,?_⟩)<;>first|(intro e he;rcases(by omega:e=0∨e=1∨e=2∨e=3∨e=4∨e=5) with rfl|rfl|rfl|rfl|rfl|rfl<;>first|rfl|(exfalso;omega))|(with_reducible assumption)|omega|((with_reducible show Aq _ _);simp only[Aq,ty2,ty3,ty4,ty5,ty9,Cw,Co,Cx,Cp,Cu,Cy,Cv,Cz,Bm,Bj,Bn,Bi,Bo,Bp,Bq,List.length_cons,List.length_nil];first|omega|(refine⟨?_,?_⟩<;>omega)))|with_reducible rfl|omega|exact tK|decide))
       |(split<;>rename_i hh<;>(try simp only[wS] at hh))
       |with_reducible refine lnI fun hln=>?_
       |fail)<;>(conv=>whnf)))
      ·(conv=>whnf)
       refine⟨(k+2:Nat),[4],?_,⟨⟨rfl,(nB rfl),rfl⟩,?_,?_⟩⟩
       ·exact⟨show k+2≤(Ce n).length by omega,show(Ce n).length - (k+2)<(Ce n).length - (k+1) by omega⟩
       ·exact tL
       ·(conv=>whnf)
        (repeat' ((first|with_reducible exact⟨⟩|((with_reducible refine Or.inr ?_);rfl)|((with_reducible refine aI ?_ ?_);focus (exact tA))|with_reducible refine iA ?_ ?_|with_reducible refine iL ?_ ?_|with_reducible refine iB ?_ ?_|fail)<;>(conv=>whnf)))
        all_goals (try simp only[wQ])
        all_goals (try first|exact fun _ _=>⟨True.intro,rfl⟩)
        exact⟨⟨trivial,Nat.le_refl _,fun e he=>⟨Aqj (hr (k+1) (by omega)) (by simpa using he),rfl⟩⟩,rfl⟩
      ·refine⟨⟨rfl,by omega,Nat.le_refl _,fun e he=>rfl⟩,?_⟩
       (conv=>whnf)
       all_goals (try (show _=_;simp only[wQ]))
       have hk1:k+1=(Ce n).length:=by omega
       rw[hk1];exact bG _
def Amz:PC:=PC.fun fun|[.int .i64 n]=>some (n<0∨Do n=false,.str (sS (Du n)))|_=>none
def gB:PT:=C2 [(132,Abn),(207,zB)]
theorem Abr{W:World}(hW:Tabs W):Cl (Fw W) Tryz.prog gB:=(Ab Tryz.call132 (Abq hW) (Ab Tryz.call207 (fL hW) As))
def gE:FuncId→Option Ctr:=Aw gB [(102,M2)]
theorem Am0{W:World}(hW:Tabs W):Ad (Fw W) Tryz.prog gE:=(Ae Tryz.call102 Sv (Au (Abr hW)))
theorem Am1{W:World}(hW:Tabs W):GoodP (Fw W) Tryz.prog 132 Amz:=by
 have hD:=Abr hW
 have hC0:Ad (Fw W) Tryz.prog gE:=(Am0 hW)
 refine Az (D:=gB) (C:=gE) (wr:=(fun _=>false)) rfl Ap hD hC0 Tryz.func132 (fun _ _=>none) ?_
 clear hC0 hD hW
 intro cs p r h hf hp
 split at h
 case h_2=>cases h
 rename_i n
 cases h
 try simp only[Ax,Bh,Am,Go.Vc.lo,Go.Vc.hi,and_true] at hf
 have hbd:Do n=true→ -1000000000000≤n∧n≤1000000000000:=fun h=>by have:=h;unfold Do at this;simp at this;omega
 by_cases hm:Do n=true
 ·have hn:n<0:=by rcases hp with h|h;exact h;rw[hm] at h;cases h
  have hb:=hbd hm
  have hex: ¬0≤n:=by omega
  have h1:=Kb (n:= -n) (by omega) (by omega)
  have hm2:0≤ -n∧Do (-n)=true:=⟨by omega,by unfold Do;simp;omega⟩
  (conv=>whnf)
  (repeat' ((first
   |(exact absurd (by with_reducible assumption) hex)
   |((with_reducible refine aI ?_ ?_);focus (first|with_reducible exact⟨⟩|with_reducible assumption|exact tK|(simp only[List.length_append,bytesOf_length,List.toList_toArray,List.length_cons,List.length_nil,List.length_take,List.length_drop,A0];omega)))
   |(split<;>rename_i hh<;>(try simp only[wS] at hh))
   |fail)<;>(conv=>whnf)))
  all_goals (try (show _=_;simp only[wQ]))
  all_goals try (rename_i hh;exact absurd hm hh)
  all_goals try (rename_i hh;rw[hm] at hh;cases hh;done)
  all_goals (unfold Du Gu;rw[if_pos hm,if_pos hn];rfl)
 ·have hex: ¬Do n=true:=hm
  (conv=>whnf)
  (repeat' ((first
   |(exact absurd (by with_reducible assumption) hex)
   |((with_reducible refine aI ?_ ?_);focus (with_reducible exact⟨⟩))
   |(split<;>rename_i hh<;>(try simp only[wS] at hh))
   |fail)<;>(conv=>whnf)))
  all_goals (try (show _=_;simp only[wQ]))
  unfold Du;rw[if_neg hm]
theorem PC.split{F:Nat→Obj→Prop}{P:Program}{i:FuncId}{f f1 f2:List AV→Option (Prop × AV)}(h1:GoodP F P i (PC.fun f1))(h2:GoodP F P i (PC.fun f2))
  (h:∀ cs p r,f cs=some (p,r)→p→(∃ p1,f1 cs=some (p1,r)∧p1)∨(∃ p2,f2 cs=some (p2,r)∧p2)):GoodP F P i (PC.fun f):=by
 intro S w cs vs Q hs hv hT
 simp only[PC.fun] at hT
 cases hf:f cs with
 |none=>rw[hf] at hT;exact hT.elim
 |some pr=>
  obtain⟨p,r⟩:=pr
  rw[hf] at hT
  rcases h cs p r hf hT.1 with ⟨p1,hc,hp⟩|⟨p1,hc,hp⟩
  ·refine h1 S w cs vs Q hs hv ?_
   simp only[PC.fun];rw[hc];exact⟨hp,hT.2⟩
  ·refine h2 S w cs vs Q hs hv ?_
   simp only[PC.fun];rw[hc];exact⟨hp,hT.2⟩
def zH:PC:=PC.fun fun|[.int .i64 n]=>some (True,.str (sS (Du n)))|_=>none
theorem Ahp{W:World}(hW:Tabs W):GoodP (Fw W) Tryz.prog 132 zH:=by
 refine PC.split (Abq hW) (Am1 hW) fun cs p r h hp=>?_
 split at h
 ·rename_i n
  cases h
  by_cases hc:0≤n∧Do n=true
  ·refine .inl ⟨_,?_,hc⟩
   have:Du n=Ce n:=by unfold Du Gu;rw[if_pos hc.2,if_neg (by omega)]
   rw[this]
  ·exact .inr ⟨_,rfl,by
    by_cases h1:n<0
    ·exact .inl h1
    ·exact .inr (Bool.eq_false_iff.2 fun h2=>hc ⟨by omega,h2⟩)⟩
 ·cases h
end
end Go.Vc.Z
namespace Go.Vc.Z
open Go Go.Vc Go.Proofs Go.RowKit Go.Pl Go.Lib
noncomputable section
set_option maxRecDepth 100000
attribute [local irreducible] inK Utf8.decode Utf8.encode Lib.itoa Pl.worth Pl.allDig
attribute [local irreducible] Lib.join
def Aw7(l:List (List UInt8)):Blk:=match l with
 |[]=>.dead
 |c::l=>.row 1 (l.length+1) (fun e=>[.str ((c::l).getD e [])])
def Aw8(id:Nat):List (List UInt8)→AV
 |[]=>.nilsl
 |_::l=>.osl id 1 0 (l.length+1) none
theorem Xn{l:List (List UInt8)}{n:Nat}{d:List UInt8}{g b:Nat→List AV}(hn:n=l.length)(hg:∀ e,e<l.length→g e=[.str (l.getD e [])])(hb:b 0=[.str d]){e:Nat}(he:e<n+1):B0 n g b e=[AV.str ((l++[d]).getD e [])]:=by
 subst hn
 rw[←Ahn (L:=l) (b:=b) hb (by simpa using he)]
 unfold B0
 split
 ·exact hg e (by assumption)
 ·rfl
def Lp:PT:=C2 [(111,Kz)]
theorem Rk{W:World}(hW:Tabs W):Cl (Fw W) Tryz.prog Lp:=(Ab Tryz.call111 (Aj9 hW) As)
def Lq:FuncId→Option Ctr:=Aw Lp []
theorem cV{W:World}(hW:Tabs W):Ad (Fw W) Tryz.prog Lq:=(Au (Rk hW))
theorem Ep{W:World}(hW:Tabs W):GoodP (Fw W) Tryz.prog 46 Kz:=by
 have hD:=Rk hW
 have hC0:Ad (Fw W) Tryz.prog Lq:=(cV hW)
 refine Az (D:=Lp) (C:=Lq) (wr:=(fun _=>false)) rfl Ap hD hC0 Tryz.func46 (fun _ _=>none) ?_
 clear hC0 hD hW
 intro cs p r h hf hp
 split at h
 case h_2=>cases h
 rename_i n
 cases h
 try simp only[Ax,Bh,Am,Go.Vc.lo,Go.Vc.hi,and_true] at hf
 (conv=>whnf)
 (repeat' ((first
  |((with_reducible refine aI ?_ ?_);focus (with_reducible exact⟨⟩))
  |fail)<;>(conv=>whnf)))
theorem G5(n:Int):(Du n).length≤31:=by
 unfold Du
 split
 ·rename_i h
  unfold Do at h;simp at h
  exact Af6 (by omega)
 ·simp
@[irreducible] def Fo(x:Tax):List UInt8:=Lib.itoa x.code++[61]++Du x.amount
theorem Abs{x:Tax}(h: -9223372036854775808≤x.code∧x.code≤9223372036854775807):(Fo x).length≤70:=by
 unfold Fo
 have:=Bl x.code h.1 h.2
 have:=G5 x.amount
 simp only[List.length_append,List.length_cons,List.length_nil];omega
def Af8:PC:=PC.fun fun|[.agg [.int .i64 c,.int .i64 a]]=>some (True,.str (sS (Fo ⟨c,a⟩)))|_=>none
def G6:PT:=C2 [(46,Kz),(132,zH)]
theorem Kc{W:World}(hW:Tabs W):Cl (Fw W) Tryz.prog G6:=(Ab Tryz.call46 (Ep hW) (Ab Tryz.call132 (Ahp hW) As))
def E5:FuncId→Option Ctr:=Aw G6 []
theorem Py{W:World}(hW:Tabs W):Ad (Fw W) Tryz.prog E5:=(Au (Kc hW))
theorem Pz{W:World}(hW:Tabs W):GoodP (Fw W) Tryz.prog 131 Af8:=by
 have hD:=Kc hW
 have hC0:Ad (Fw W) Tryz.prog E5:=(Py hW)
 refine Az (D:=G6) (C:=E5) (wr:=(fun _=>false)) rfl Ap hD hC0 Tryz.func131 (fun _ _=>none) ?_
 clear hC0 hD hW
 intro cs p r h hf hp
 split at h
 case h_2=>cases h
 rename_i c a
 cases h
 try simp only[Ax,Bh,Am,Go.Vc.lo,Go.Vc.hi,and_true] at hf
 have l1:=Bl c (by omega) (by omega)
 have l2:=G5 a
 have l3:=Abs (x:=⟨c,a⟩) (by simp;omega)
 (conv=>whnf)
 (repeat' ((first
  |((with_reducible refine aI ?_ ?_);focus (first|with_reducible exact⟨⟩|exact tO|(simp only[List.length_append,bytesOf_length,List.toList_toArray,List.length_cons,List.length_nil,List.length_take,List.length_drop,A0];omega)))
  |fail)<;>(conv=>whnf)))
 all_goals (try (show _=_;simp only[wQ]))
 unfold Fo;rfl
theorem P0{l:List Tax}{r:List AV}(h:Ax (slE 2 Tax.enc l::r)):∀ s ∈ l.map Fo,s.length≤200:=by
 intro s hs
 obtain⟨x,hx,rfl⟩:=List.mem_map.1 hs
 obtain⟨i,hi,rfl⟩:=List.getElem_of_mem hx
 simp only[Ax,Bh] at h
 have h1:=(h.1.2 i hi).2.1
 have hx:l.getD i default=l[i]:=by simp[List.getD_eq_getElem?_getD,hi]
 rw[hx] at h1
 have h2: -9223372036854775808≤l[i].code∧l[i].code≤9223372036854775807:=Am.1 h1
 exact Nat.le_trans (Abs h2) (by omega)
def A1z(l:List Tax):LoopSpec:={
 α:=Nat × List (List UInt8)
 keep:=[1,5,8,9,10]
 vals x:=[.fn 131 [],Aw8 0 x.2,slE 2 Tax.enc l,.int .i64 l.length,.int .i64 x.1]
 heap x:=[Aw7 x.2]
 ok x:=x.1≤l.length∧x.2=(l.take x.1).map Fo
 μ x:=l.length - x.1 }
def Am2:PC:=PC.of (fun l:List Tax=>[slE 2 Tax.enc l,.fn 131 []]) (fun l=>0<l.length∧l.length≤1000000) (fun l=>.str (sS (Lib.join (l.map Fo) [44])))
def E6:PT:=C2 [(62,Qv),(131,Af8)]
theorem Im{W:World}(hW:Tabs W):Cl (Fw W) Tryz.prog E6:=(Ab Tryz.call62 (Mg hW) (Ab Tryz.call131 (Pz hW) As))
def E7:FuncId→Option Ctr:=Aw E6 []
theorem P1{W:World}(hW:Tabs W):Ad (Fw W) Tryz.prog E7:=(Au (Im hW))
def P2:List Tax→Nat→Option LR:=fun l i=>cond (Nat.beq i 3) (some (.inv (A1z l))) (none)
set_option maxHeartbeats 2000000 in
theorem P3{W:World}(hW:Tabs W):GoodP (Fw W) Tryz.prog 130 Am2:=by
 have hD:=Im hW
 have hC0:∀ l:List Tax,Ad (Fw W) Tryz.prog E7:=fun l=>(P1 hW)
 refine Ar (D:=E6) (C:=fun l=>E7) (wr:=(fun _=>false)) rfl Ap hD hC0 Tryz.func130 (P2) (fun _=>rfl) ?_
 intro l hf hp
 obtain⟨hp0,hp1⟩:=hp
 have hw:∀ s ∈ l.map Fo,s.length≤200:=(P0 hf)
 clear hf
 (conv=>whnf)
 (repeat' ((first
  |with_reducible refine lnI fun hln=>?_
  |fail)<;>(conv=>whnf)))
 refine⟨?_,fun(x:Nat × List (List UInt8)) hx=>?_⟩
 ·(conv=>whnf)
  refine⟨((0,[]):Nat × List (List UInt8)),[],?_,⟨⟨rfl,(nB rfl),rfl⟩,?_,?_⟩⟩
  ·exact⟨Nat.zero_le _,rfl⟩
  ·exact Ac _
  ·exact tL
 ·obtain⟨i,L⟩:=x
  obtain⟨h1,h2⟩:=hx
  change i≤l.length at h1
  change L=(l.take i).map Fo at h2
  have hlen:L.length=i:=by rw[h2];simp;omega
  have hstep:i<l.length→L++[Fo (l.getD (Int.toNat (i:Int)) default)]=(l.take (i+1)).map Fo:=fun h=>by
   rw[h2,List.take_add_one,List.map_append,List.getElem?_eq_getElem h]
   have:l.getD (Int.toNat (i:Int)) default=l[i]:=by
    rw[show Int.toNat (i:Int)=i from rfl,List.getD_eq_getElem?_getD,List.getElem?_eq_getElem h];rfl
   rw[this];rfl
  rcases L with _|⟨s,L⟩
  ·have hi:i=0:=by simpa using hlen.symm
   subst hi
   (conv=>whnf)
   (repeat' ((first
    |((with_reducible refine aI ?_ ?_);focus (first|with_reducible exact⟨⟩|omega|exact tK|(simp only[Aq,ty2,ty3,ty4,ty5,ty9,Cw,Co,Cx,Cp,Cu,Cy,Cv,Cz,Bm,Bj,Bn,Bi,Bo,Bp,Bq];first|omega|(refine⟨?_,?_⟩<;>omega))))
    |(split<;>rename_i hh<;>(try simp only[wS] at hh))
    |fail)<;>(conv=>whnf)))
   ·(conv=>whnf)
    refine⟨((1,[Fo (l.getD (Int.toNat ((0:Nat):Int)) default)]):Nat × List (List UInt8)),[3],?_,⟨⟨rfl,(nB rfl),rfl⟩,?_,?_⟩⟩
    ·exact⟨⟨show 1≤l.length by omega,hstep (by omega)⟩,show l.length - 1<l.length - 0 by omega⟩
    ·exact tL
    ·(conv=>whnf)
     (repeat' ((first|with_reducible exact⟨⟩|((with_reducible refine aI ?_ ?_);focus (exact tA))|with_reducible refine iB ?_ ?_|fail)<;>(conv=>whnf)))
     all_goals (try simp only[wQ])
     intro e he
     have he:e<1:=he
     obtain rfl:e=0:=by omega
     exact⟨rfl,rfl⟩
   ·exfalso;omega
  ·have hlen2:L.length+1=i:=hlen
   (conv=>whnf)
   (repeat' ((first
    |((with_reducible refine aI ?_ ?_);focus (first|with_reducible exact⟨⟩|((with_reducible refine⟨?_,?_,?_⟩)<;>first|(intro e he;rcases(by omega:e=0∨e=1∨e=2∨e=3∨e=4∨e=5) with rfl|rfl|rfl|rfl|rfl|rfl<;>first|rfl|(exfalso;omega))|(with_reducible assumption)|omega|((with_reducible show Aq _ _);simp only[Aq,ty2,ty3,ty4,ty5,ty9,Cw,Co,Cx,Cp,Cu,Cy,Cv,Cz,Bm,Bj,Bn,Bi,Bo,Bp,Bq,List.length_cons,List.length_nil];first|omega|(refine⟨?_,?_⟩<;>omega)))|omega|exact tK))
    |(split<;>rename_i hh<;>(try simp only[wS] at hh))
    |fail)<;>(conv=>whnf)))
   ·(conv=>whnf)
    refine⟨((i+1,s::L++[Fo (l.getD (Int.toNat (i:Int)) default)]):Nat × List (List UInt8)),[3],?_,⟨⟨rfl,(nB rfl),rfl⟩,?_,?_⟩⟩
    ·exact⟨⟨show i+1≤l.length by omega,hstep (by omega)⟩,show l.length - (i+1)<l.length - i by omega⟩
    ·exact tL
    ·(conv=>whnf)
     (repeat' ((first|with_reducible exact⟨⟩|((with_reducible refine aI ?_ ?_);focus (exact tA))|with_reducible refine iB ?_ ?_|fail)<;>(conv=>whnf)))
     all_goals (try simp only[wQ])
     exact⟨by simp,fun e he=>⟨Xn (l:=s::L) rfl (fun _ _=>rfl) rfl (by simpa using he),rfl⟩⟩
   ·have hi:i=l.length:=by omega
    rw[hi,List.take_length] at h2
    refine⟨⟨by omega,fun e he=>rfl⟩,?_⟩
    refine⟨((s::L,[44]):List (List UInt8) × List UInt8),⟨by have:=K0 [44] 200 (s::L) (by rw[h2];exact hw);simp at this;show(Lib.join (s::L) [44]).length≤_;omega,by show(s::L).length≤_;simp;omega⟩,?_,?_⟩
    ·exact tL
    (conv=>whnf)
    all_goals (try (show _=_;simp only[wQ]))
    rw[h2]
@[irreducible] def B7(l:List Tax):List UInt8:=if l.length=0 then [45] else Lib.join (l.map Fo) [44]
def Abt:PC:=PC.of (fun l:List Tax=>[slE 2 Tax.enc l]) (fun l=>l.length≤1000000) (fun l=>.str (sS (B7 l)))
def M5:PT:=C2 [(130,Am2),(131,Af8)]
theorem Sx{W:World}(hW:Tabs W):Cl (Fw W) Tryz.prog M5:=(Ab Tryz.call130 (P3 hW) (Ab Tryz.call131 (Pz hW) As))
def M6:FuncId→Option Ctr:=Aw M5 []
theorem gG{W:World}(hW:Tabs W):Ad (Fw W) Tryz.prog M6:=(Au (Sx hW))
theorem gH{W:World}(hW:Tabs W):GoodP (Fw W) Tryz.prog 58 Abt:=by
 have hD:=Sx hW
 have hC0:∀ l:List Tax,Ad (Fw W) Tryz.prog M6:=fun l=>(gG hW)
 refine Ar (D:=M5) (C:=fun l=>M6) (wr:=(fun _=>false)) rfl Ap hD hC0 Tryz.func58 (fun _ _=>none) (fun _=>rfl) ?_
 intro l hf hp
 clear hf
 (conv=>whnf)
 (repeat' ((first
  |(split<;>rename_i hh<;>(try simp only[wS] at hh))
  |with_reducible refine lnI fun hln=>?_
  |fail)<;>(conv=>whnf)))
 all_goals (try (show _=_;simp only[wQ]))
 ·unfold B7;rw[if_pos (by omega)]
 ·refine⟨l,⟨by omega,hp⟩,?_,?_⟩
  ·exact Ac _
  (conv=>whnf)
  all_goals (try (show _=_;simp only[wQ]))
  unfold B7;rw[if_neg (by omega)]
@[irreducible] def Bv(c:Coupon):List UInt8:=Lib.itoa c.flight++[64]++Lib.itoa c.day++[61]++Du c.value
@[irreducible] def Aqk(c:Coupon):List UInt8:=Bv c++[58]++Dg c.status++(if c.holder=0 then [] else 47::Lib.itoa c.holder)++(if c.next=0 then [] else 62::A7 c.next)
theorem bH(s:Int):(Dg s).length≤1:=by
 by_cases h:Ir s=true
 ·obtain⟨c,hc,_⟩:=Af4 h;rw[hc];exact Nat.le_refl 1
 ·unfold Dg;rw[if_neg h];simp
theorem Abu{c:Coupon}(h1: -9223372036854775808≤c.flight∧c.flight≤9223372036854775807)(h2: -9223372036854775808≤c.day∧c.day≤9223372036854775807):(Bv c).length≤100:=by
 unfold Bv
 have:=Bl c.flight h1.1 h1.2
 have:=Bl c.day h2.1 h2.2
 have:=G5 c.value
 simp only[List.length_append,List.length_cons,List.length_nil];omega
def Zy:PC:=PC.fun fun|[.agg [.int .i64 cf,.int .i64 cd,.int .i64 cv,.int .i64 cs,.int .i64 ch,.int .u64 cx]]=>some (True,.str (sS (Bv (Coupon.mk cf cd cv cs ch cx))))|_=>none
theorem Rl{W:World}(hW:Tabs W):GoodP (Fw W) Tryz.prog 129 Zy:=by
 have hD:=Kc hW
 have hC0:Ad (Fw W) Tryz.prog E5:=(Py hW)
 refine Az (D:=G6) (C:=E5) (wr:=(fun _=>false)) rfl Ap hD hC0 Tryz.func129 (fun _ _=>none) ?_
 clear hC0 hD hW
 intro cs p r h hf hp
 split at h
 case h_2=>cases h
 rename_i cf cd cv cs ch cx
 cases h
 try simp only[Ax,Bh,Am,Go.Vc.lo,Go.Vc.hi,and_true] at hf
 have l1:=Bl cf (by omega) (by omega)
 have l2:=Bl cd (by omega) (by omega)
 have l3:=G5 cv
 clear hf
 (conv=>whnf)
 (repeat' ((first
  |((with_reducible refine aI ?_ ?_);focus (first|with_reducible exact⟨⟩|exact tO|(simp only[List.length_append,bytesOf_length,List.toList_toArray,List.length_cons,List.length_nil,List.length_take,List.length_drop,A0];omega)))
  |fail)<;>(conv=>whnf)))
 all_goals (try (show _=_;simp only[wQ]))
 unfold Bv;rfl
@[irreducible] def Aw9(x:Event):List UInt8:=Lib.itoa x.day++[46]++Lib.itoa x.coupon++[46]++Dg x.src++Dg x.dst
end
end Go.Vc.Z
namespace Go.Vc.Z
open Go Go.Vc Go.Proofs Go.RowKit Go.Pl Go.Lib
noncomputable section
set_option maxRecDepth 100000
attribute [local irreducible] inK Utf8.decode Utf8.encode Lib.itoa Pl.worth Pl.allDig
attribute [local irreducible] Lib.join
abbrev numsL(t:Ticket):List Int:=[t.prev,t.origin,t.first,t.voucher,t.posts]
abbrev A4o(n:Int):List UInt8:=decDigits n.toNat
def Axa(t:Ticket):List (List UInt8):=[[116,105,99,107,101,116],A7 t.number,t.locator,Lib.itoa t.issued]
theorem Ub{s:List UInt8}(h:Fx s=true):s.length=6:=by
 unfold Fx at h;simp at h;exact h.2
theorem Wd{l:List Tax}(h:l.length≤4)(hf:∀ s ∈ l.map Fo,s.length≤200):(B7 l).length≤1000:=by
 unfold B7
 split
 ·simp
 ·have:=K0 [44] 200 _ hf
  simp at this;omega
end
end Go.Vc.Z
namespace Go.Vc.Z
open Go Go.Vc Go.Proofs Go.RowKit Go.Pl Go.Lib
noncomputable section
set_option maxRecDepth 100000
attribute [local irreducible] inK Utf8.decode Utf8.encode Lib.itoa Pl.worth Pl.allDig
end
end Go.Vc.Z
