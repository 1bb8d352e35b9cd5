/- Postings' texts. -/
import Derived.Test.YtpmpclbdnakniaaGreatDoorV11
set_option linter.all false
namespace Go.Vc.Z
open Go Go.Vc Go.Proofs Go.RowKit Go.Pl Go.Lib
noncomputable section
set_option maxRecDepth 100000
attribute [local irreducible] inK Utf8.decode Utf8.encode Lib.itoa Pl.worth Pl.allDig
attribute [local irreducible] Lib.join
theorem Akv{L:List (List UInt8)}{w:List UInt8}{b:Nat→List AV}(hb:b 0=[.str w]){e:Nat}(he:e<(L++[w]).length):Bq L.length (fun e=>[AV.str (L.getD e [])]) b e=[AV.str ((L++[w]).getD e [])]:=by
 unfold Bq;rw[List.length_append,List.length_singleton] at he;rcases Nat.lt_or_ge e L.length with h|h
 ·rw[if_pos h];simp[List.getD_eq_getElem?_getD,List.getElem?_append_left h]
 ·obtain rfl:e=L.length:=by omega
  rw[if_neg (by omega),Nat.sub_self,hb]
  simp[List.getD_eq_getElem?_getD]
theorem Akw(m:Nat):∀ (L:List (List UInt8)),(∀ s ∈ L,s.length≤m)→Lib.lens L≤L.length*m
 |[],_=>by simp[Lib.lens]
 |x::r,h=>by
  have h1:=Akw m r fun s hs=>h s (List.mem_cons_of_mem _ hs);have h2:=h x List.mem_cons_self;simp only[Lib.lens,List.map_cons,List.sum_cons,List.length_cons] at h1 ⊢;rw[Nat.add_mul];omega
theorem Lp(sep:List UInt8)(m:Nat)(L:List (List UInt8))(h:∀ s ∈ L,s.length≤m):(Lib.join L sep).length≤L.length*(m+sep.length):=by
 cases L with
 |nil=>simp[Lib.join_nil]
 |cons x r=>
  rw[Lib.join_length];have:=Akw m (x::r) h;rw[Nat.mul_add];have:sep.length*r.length≤(x::r).length*sep.length:=by
   rw[Nat.mul_comm];exact Nat.mul_le_mul_right _ (by simp)
  omega
theorem Fz(n:Int):(A6 n).length≤20:=by
 unfold A6;split
 ·have:=Ui (by assumption)
  exact N1 _ (by omega)
 ·simp
end
end Go.Vc.Z
namespace Go.Vc.Z
open Go Go.Vc Go.Proofs Go.RowKit Go.Pl Go.Lib
noncomputable section
set_option maxRecDepth 100000
attribute [local irreducible] inK Utf8.decode Utf8.encode Lib.itoa Pl.worth Pl.allDig
attribute [local irreducible] Lib.join
theorem cE{L:List (List UInt8)}(h:L≠[])(w sep:List UInt8):Lib.join (L++[w]) sep=Lib.join L sep++(sep++w):=by
 cases L with
 |nil=>exact absurd rfl h
 |cons x r=>
  rw[List.cons_append,Lib.join_cons,Lib.join_cons,List.append_assoc];simp[Lib.joinTail]
end
end Go.Vc.Z
namespace Go.Vc.Z
open Go Go.Vc Go.Proofs Go.RowKit Go.Pl Go.Lib
noncomputable section
set_option maxRecDepth 100000
attribute [local irreducible] inK Utf8.decode Utf8.encode Lib.itoa Pl.worth Pl.allDig
abbrev Dz(n:Int):UInt8:=UInt8.ofNat (48+n % 10).toNat
@[irreducible] def Bl(n:Int):List UInt8:=decDigits (n / 10 / 10).toNat++[46,Dz (n / 10),Dz n]
@[irreducible] def Gj(n:Int):List UInt8:=if n<0 then 45::Bl (-n) else Bl n
@[irreducible] def Cp(n:Int):List UInt8:=if C4 n=true then Gj n else []
def Xo(n least:Int):List UInt8:=if least=1 then decDigits n.toNat else [Dz (n / 10),Dz n]
def Acf:PC:=PC.fun fun|[.int .i64 n,.int .i64 least]=>some (0≤n∧(least=1∨(least=2∧n<100)),.str (sS (Xo n least)))|_=>none
def A0k(n:Int):LoopSpec:={
 α:=Nat × List UInt8
 keep:=[0,1,5]
 vals x:=[.int .i64 (x.1:Int),.int .i64 1,.str x.2]
 heap _:=[]
 ok x:=x.1≤n.toNat∧(if x.1=0∧x.2≠[] then x.2 else decDigits x.1++x.2)=decDigits n.toNat
 μ x:=2*x.1+(if x.2=[] then 1 else 0) }
def Us:List AV→Nat→Option LR:=fun cs i=>match cs with|[.int _ n,.int _ least]=>cond (Nat.beq i 2) (some ((match decide (least=1) with|true=>.inv (A0k n)|false=>.unroll 3))) (none)|_=>none
theorem Ly{W:World}(hW:Tabs W):GoodP (Fw W) Tryz.prog 170 Acf:=by
 have hD:=A9 hW;have hC0:Ad (Fw W) Tryz.prog Am:=(Ba hW);refine Au (D:=A8) (C:=Am) (wr:=(fun _=>false)) rfl Ao hD hC0 Tryz.func170 (Us) ?_;clear hC0 hD hW;intro cs p r h hf hp;split at h
 case h_2=>cases h
 rename_i n least;cases h;try simp only[Az,Bd,Aw,Go.Vc.lo,Go.Vc.hi,and_true] at hf
 obtain⟨h0,hl⟩:=hp;rcases hl with rfl|⟨rfl,h100⟩
 ·(conv=>whnf)
  refine⟨?_,fun(x:Nat × List UInt8) (hx:x.1≤n.toNat∧(if x.1=0∧x.2≠[] then x.2 else decDigits x.1++x.2)=decDigits n.toNat)=>?_⟩
  ·(conv=>whnf)
   refine⟨((n.toNat,[]):Nat × List UInt8),[],?_,⟨⟨rfl,(nB rfl),rfl⟩,?_,?_⟩⟩
   ·exact⟨Nat.le_refl _,by simp⟩
   ·exact tL
   ·exact tL
  ·obtain⟨h1,h2⟩:=hx;have hl:x.2.length≤30:=by
    have:=congrArg List.length h2;have h20:(decDigits n.toNat).length≤30:=(by rw[decDigits_length];exact Nat.le_trans (Ip 29 _ (by omega)) (by omega));split at this<;>(try simp at this)<;>omega
   have hz:x.2.length<1↔x.2=[]:=by rw[←List.length_eq_zero_iff];omega
   (conv=>whnf)
   (repeat' (first|refine tuU ?_|split<;>rename_i hh<;>try simp only[wS] at hh|with_reducible refine lnI fun hln=>?_)<;>conv=>whnf)
   all_goals try(show _=_;simp only[wQ])
   ·(conv=>whnf)
    refine⟨((x.1 / 10,UInt8.ofNat (48+x.1 % 10)::x.2):Nat × List UInt8),[],?_,⟨⟨rfl,(nB rfl),rfl⟩,?_,?_⟩⟩
    ·refine⟨⟨show x.1 / 10≤n.toNat by omega,(Ja (n:=x.1) (s:=x.2) (.inl (by omega))).trans h2⟩,?_⟩
     show 2*(x.1 / 10)+(if UInt8.ofNat (48+x.1 % 10)::x.2=[] then 1 else 0)<2*x.1+(if x.2=[] then 1 else 0)
     rw[if_neg (by simp)];omega
    ·exact Ac _
    ·exact tL
   ·have hs:x.2=[]:=hz.1 (by omega)
    (conv=>whnf)
    refine⟨((x.1 / 10,UInt8.ofNat (48+x.1 % 10)::x.2):Nat × List UInt8),[],?_,⟨⟨rfl,(nB rfl),rfl⟩,?_,?_⟩⟩
    ·refine⟨⟨show x.1 / 10≤n.toNat by omega,(Ja (n:=x.1) (s:=x.2) (.inr hs)).trans h2⟩,?_⟩
     show 2*(x.1 / 10)+(if UInt8.ofNat (48+x.1 % 10)::x.2=[] then 1 else 0)<2*x.1+(if x.2=[] then 1 else 0)
     rw[if_neg (by simp),if_pos hs];omega
    ·exact Ac _
    ·exact tL
   ·have hs:x.2≠[]:=fun h=>by have:=hz.2 h;omega
    have h0:x.1=0:=(by omega);rw[if_pos ⟨h0,hs⟩] at h2;exact h2
 ·(conv=>whnf)
  (repeat' (first|refine tuU ?_|(split<;>rename_i hh<;>(try simp only[wS] at hh)<;>(try simp (disch:=omega) only[wT] at hh))|with_reducible refine lnI fun hln=>?_)<;>conv=>whnf)
  all_goals try(show _=_;simp only[wQ])
  all_goals try (exfalso;omega)
  all_goals (
   show [UInt8.ofNat (48+(n.tdiv 10).tmod 10).toNat,UInt8.ofNat (48+n.tmod 10).toNat]=_;rw[Int.tdiv_eq_ediv_of_nonneg h0,Int.tmod_eq_emod_of_nonneg h0,Int.tmod_eq_emod_of_nonneg (by omega)]
   rfl)
theorem K4{n:Int}(h0:0≤n)(h:n≤9223372036854775807):(Bl n).length≤30:=by
 unfold Bl;have:=N1 (n / 10 / 10).toNat (by omega)
 simp only[List.length_append,List.length_cons,List.length_nil];omega
theorem Ajh{n:Int}(h: -9223372036854775807≤n∧n≤9223372036854775807):(Gj n).length≤31:=by
 unfold Gj;split
 ·have:=K4 (n:= -n) (by omega) (by omega)
  simp only[List.length_cons];omega
 ·have:=K4 (n:=n) (by omega) (by omega)
  omega
def tX:PC:=PC.fun fun|[.int .i64 n]=>some (0≤n,.str (sS (Bl n)))|_=>none
def kU:PC:=PC.fun fun|[.int .i64 n]=>some (-9223372036854775807≤n,.str (sS (Gj n)))|_=>none
theorem kV{n:Int}(h:0≤n):Xo (n.tdiv 100) 1++[46]++Xo (n.tmod 100) 2=Bl n:=by
 have e1:n.tdiv 100=n / 100:=Int.tdiv_eq_ediv_of_nonneg (by omega)
 have e2:n.tmod 100=n % 100:=Int.tmod_eq_emod_of_nonneg (by omega)
 unfold Xo Bl;rw[if_pos rfl,if_neg (by omega),e1,e2,show n / 100=n / 10 / 10 by omega]
 unfold Dz;rw[show n % 100 / 10 % 10=n / 10 % 10 by omega,show n % 100 % 10=n % 10 by omega]
 simp
def cF:PT:=Cg [(170,Acf)]
theorem tY{W:World}(hW:Tabs W):Cb (Fw W) Tryz.prog cF:=(Ab Tryz.call170 (Ly hW) Aq)
def cG:FuncId→Option Ctr:=Av cF []
theorem Anl{W:World}(hW:Tabs W):Ad (Fw W) Tryz.prog cG:=(Ar (tY hW))
theorem Anm{W:World}(hW:Tabs W):GoodP (Fw W) Tryz.prog 83 tX:=by
 have hD:=tY hW;have hC0:Ad (Fw W) Tryz.prog cG:=(Anl hW);refine Au (D:=cF) (C:=cG) (wr:=(fun _=>false)) rfl Ao hD hC0 Tryz.func83 (fun _ _=>none) ?_;clear hC0 hD hW;intro cs p r h hf hp;split at h
 case h_2=>cases h
 rename_i n;cases h;try simp only[Az,Bd,Aw,Go.Vc.lo,Go.Vc.hi,and_true] at hf
 have e1:n.tdiv 100=n / 100:=Int.tdiv_eq_ediv_of_nonneg (by omega)
 have e2:n.tmod 100=n % 100:=Int.tmod_eq_emod_of_nonneg (by omega)
 have d1:(Xo (n.tdiv 100) 1).length≤20:=by unfold Xo;rw[if_pos rfl];exact N1 _ (by omega)
 have d2:(Xo (n.tmod 100) 2).length=2:=rfl;have hex: ¬n<0:=by omega
 (conv=>whnf)
 (repeat' (first|(exact absurd (by with_reducible assumption) hex)|refine tuU ?_|split<;>rename_i hh<;>try simp only[wS] at hh)<;>conv=>whnf)
 all_goals try(show _=_;simp only[wQ])
 exact kV hp
def Ir:PT:=Cg [(83,tX),(170,Acf)]
theorem Ob{W:World}(hW:Tabs W):Cb (Fw W) Tryz.prog Ir:=(Ab Tryz.call83 (Anm hW) (Ab Tryz.call170 (Ly hW) Aq))
def Is:FuncId→Option Ctr:=Av Ir []
theorem Yf{W:World}(hW:Tabs W):Ad (Fw W) Tryz.prog Is:=(Ar (Ob hW))
theorem Oc{W:World}(hW:Tabs W):GoodP (Fw W) Tryz.prog 83 kU:=by
 have hD:=Ob hW;have hC0:Ad (Fw W) Tryz.prog Is:=(Yf hW);refine Au (D:=Ir) (C:=Is) (wr:=(fun _=>false)) rfl Ao hD hC0 Tryz.func83 (fun _ _=>none) ?_;clear hC0 hD hW;intro cs p r h hf hp;split at h
 case h_2=>cases h
 rename_i n;cases h;try simp only[Az,Bd,Aw,Go.Vc.lo,Go.Vc.hi,and_true] at hf
 by_cases h0:0≤n
 ·have e1:n.tdiv 100=n / 100:=Int.tdiv_eq_ediv_of_nonneg (by omega)
  have e2:n.tmod 100=n % 100:=Int.tmod_eq_emod_of_nonneg (by omega)
  have d1:(Xo (n.tdiv 100) 1).length≤20:=by unfold Xo;rw[if_pos rfl];exact N1 _ (by omega)
  have d2:(Xo (n.tmod 100) 2).length=2:=rfl;have hex: ¬n<0:=by omega
  (conv=>whnf)
  (repeat' (first|(exact absurd (by with_reducible assumption) hex)|refine tuU ?_|split<;>rename_i hh<;>try simp only[wS] at hh)<;>conv=>whnf)
  all_goals try(show _=_;simp only[wQ])
  unfold Gj;rw[if_neg hex];exact kV h0
 ·have hex: ¬0≤n:=by omega
  have h1:=K4 (n:= -n) (by omega) (by omega)
  (conv=>whnf)
  (repeat' (first|(exact absurd (by with_reducible assumption) hex)|refine tuU ?_|split<;>rename_i hh<;>try simp only[wS] at hh)<;>conv=>whnf)
  all_goals try(show _=_;simp only[wQ])
  unfold Gj;rw[if_pos (by omega)];rfl
def Jq(m:Int):Nat→List UInt8
 |0=>Bl m
 |1=>decDigits (m / 10).toNat++[46,Dz m]
 |2=>decDigits m.toNat++[46]
 |_+3=>if m=0 then [] else decDigits m.toNat
theorem Ap4{m:Int}(h:0≤m):(if m / 10=0 then [] else decDigits (m / 10).toNat)++[Dz m]=decDigits m.toNat:=by
 obtain⟨u,rfl⟩:∃ u:Nat,m=u:=⟨m.toNat,by omega⟩
 have e:Dz (u:Int)=UInt8.ofNat (48+u % 10):=by unfold Dz;congr 1
 rw[e,show((u:Int) / 10).toNat=u / 10 by omega,Int.toNat_natCast]
 split
 ·rw[I9 (by omega)];rfl
 ·rw[V7 (u:=u) (by omega)]
theorem rest_step{m:Int}{i:Nat}(h:0≤m)(hi:i<3∨0<m):Jq (m / 10) (i+1)++(if i=2 then [Dz m,46] else [Dz m])=Jq m i:=by
 rcases Nat.lt_or_ge i 3 with h3|h3;rcases(by omega:i=0∨i=1∨i=2) with rfl|rfl|rfl
 ·simp[Jq,Bl]
 ·simp[Jq]
 ·have:=Ap4 h;simp only[Jq];rw[if_pos True.intro,show [Dz m,46]=[Dz m]++[46] from rfl,←List.append_assoc,this]
 ·obtain⟨k,rfl⟩:∃ k,i=k+3:=⟨i - 3,by omega⟩
  have:=Ap4 h;rw[if_neg (by omega)]
  show(if m / 10=0 then [] else decDigits (m / 10).toNat)++[Dz m]=if m=0 then [] else decDigits m.toNat
  rw[this,if_neg (by omega)]
def A8m(l:List UInt8):Blk:=match l with
 |[]=>.dead
 |c::l=>.row 1 (l.length+1) (fun e=>[.int .u8 ((c::l).getD e 0).toNat])
def A8n(id:Nat):List UInt8→AV
 |[]=>.nilsl
 |_::l=>.osl id 1 0 (l.length+1) none
abbrev FS:=Nat × List UInt8 × Int
def A0l(n:Int):LoopSpec:={
 α:=FS
 keep:=[0,3,4]
 vals x:=[.int .i64 x.2.2,A8n 0 x.2.1,.int .i64 x.1]
 heap x:=[A8m x.2.1]
 ok x:=0≤x.2.2∧x.2.2≤n∧((x.1=0↔x.2.1=[])∧x.1≤x.2.1.length)∧Jq x.2.2 x.1++x.2.1.reverse=Bl n
 μ x:=(3 - x.1)+2*x.2.2.toNat }
def A0m(T:List UInt8)(k:Nat):Blk:=.row 1 k (fun e=>[.int .u8 (T.getD e 0).toNat]) (some 5)
def At5(n:Int):LoopSpec:={
 α:=Nat
 keep:=[3,5,41,42]
 vals k:=[.osl 0 1 0 (Bl n).length none,.ptr 1 0,.int .i64 (Bl n).length,.int .i64 k]
 heap k:=match k with
  |0=>[.row 1 (Bl n).length (fun e=>[.int .u8 ((Bl n).reverse.getD e 0).toNat]),.var [.nilp,.nilsl] (some 152),.dead]
  |k+1=>[.row 1 (Bl n).length (fun e=>[.int .u8 ((Bl n).reverse.getD e 0).toNat]),.var [.ptr 1 0,.osl 2 1 0 (k+1) none] (some 152),A0m (Bl n) (k+1)]
 ok k:=k≤(Bl n).length
 μ k:=(Bl n).length - k }
def Aeo:PC:=PC.fun fun|[.int .i64 n]=>some (0≤n∧C4 n=true,.str (sS (Bl n)))|_=>none
theorem Ap5{m:Int}(h:0≤m):(((Dz m).toNat:Nat):Int)=48+m.tmod 10:=by
 rw[Int.tmod_eq_emod_of_nonneg h];unfold Dz;have:(UInt8.ofNat (48+m % 10).toNat).toNat=(48+m % 10).toNat % 256:=UInt8.toNat_ofNat';omega
theorem Acg{m:Int}{i:Nat}(h:0≤m)(hi:i<3∨0<m)(h2:i≠2):Jq (m / 10) (i+1)++[Dz m]=Jq m i:=by
 have:=rest_step h hi;rw[if_neg h2] at this;exact this
theorem Ap6{m:Int}(h:0≤m):Jq (m / 10) 3++[Dz m,46]=Jq m 2:=rest_step h (.inl (by omega))
theorem Ap7{T:List UInt8}{j:Nat}(h:j<T.length):T.reverse.getD (0+((T.length:Int) - 1 - (j:Int)).toNat) 0=T.getD j 0:=by
 rw[show 0+((T.length:Int) - 1 - (j:Int)).toNat=T.length - 1 - j by omega]
 simp only[List.getD_eq_getElem?_getD];rw[List.getElem?_reverse (by omega),show T.length - 1 - (T.length - 1 - j)=j by omega]
theorem At6{T:List UInt8}{k:Nat}{b:Nat→List AV}(hb:b 0=[.int .u8 (T.getD k 0).toNat]){e:Nat}(he:e<k+1):Bq k (fun e=>[AV.int .u8 (T.getD e 0).toNat]) b e=[AV.int .u8 (T.getD e 0).toNat]:=by
 unfold Bq;rcases Nat.lt_or_ge e k with h|h
 ·rw[if_pos h]
 ·obtain rfl:e=k:=by omega
  rw[if_neg (by omega),Nat.sub_self,hb]
theorem eF(T:List UInt8):bytesOf T.length (fun e=>[AV.int .u8 (T.getD e 0).toNat])=T:=by
 refine List.ext_getElem? fun j=>?_;simp only[bytesOf,List.getElem?_map];rcases Nat.lt_or_ge j T.length with h|h
 ·rw[List.getElem?_range h,List.getElem?_eq_getElem h];simp[Jk,List.getD_eq_getElem?_getD,h]
 ·rw[List.getElem?_eq_none (by simpa using h),List.getElem?_eq_none h];rfl
theorem A0n{l:List UInt8}{d:UInt8}{b:Nat→List AV}(hb:b 0=[.int .u8 d.toNat]){e:Nat}(he:e<l.length+1):Bq l.length (fun e=>[AV.int .u8 (l.getD e 0).toNat]) b e=[AV.int .u8 ((l++[d]).getD e 0).toNat]:=by
 unfold Bq;rcases Nat.lt_or_ge e l.length with h|h
 ·rw[if_pos h];simp[List.getD_eq_getElem?_getD,List.getElem?_append_left h]
 ·obtain rfl:e=l.length:=by omega
  rw[if_neg (by omega),Nat.sub_self,hb]
  simp[List.getD_eq_getElem?_getD]
theorem iP{l:List UInt8}{n:Nat}{d:UInt8}{g b:Nat→List AV}(hn:n=l.length)(hg:∀ e,e<l.length→g e=[.int .u8 (l.getD e 0).toNat])(hb:b 0=[.int .u8 d.toNat]){e:Nat}(he:e<n+1):Bq n g b e=[AV.int .u8 ((l++[d]).getD e 0).toNat]:=by
 subst hn;rw[←A0n (l:=l) (b:=b) hb he];unfold Bq;split
 ·exact hg e (by assumption)
 ·rfl
theorem Aji(n:Int):0<(Bl n).length:=by unfold Bl;simp
def Aep:FuncId→Option Ctr:=Av If [(102,Oa),(182,K3)]
theorem Aeq{W:World}(hW:Tabs W):Ad (Fw W) Tryz.prog Aep:=(Ae Tryz.call102 Ur (Ae Tryz.call182 Xn (Ar (Qf hW))))
def Ann:List (FuncId × Ctr):=(208,inl TY Aep If (fun _=>false) (fun _ _ _=>none) Tryz.f208)::[(102,Oa),(182,K3)]
def cH:FuncId→Option Ctr:=Av If Ann
theorem Ano{W:World}(hW:Tabs W):Ad (Fw W) Tryz.prog cH:=Ae Tryz.call208 (Ah rfl Ao (Qf hW) (Aeq hW) Tryz.func208 (fun _ _ _=>none)) (Aeq hW)
def Ap8:List AV→Nat→Option LR:=fun cs i=>match cs with|[.int _ n]=>cond (Nat.beq i 7) (some (.inv (A0l n))) (cond (Nat.beq i 15) (some (.inv (At5 n))) (none))|_=>none
set_option maxHeartbeats 2000000 in
theorem Aer{W:World}(hW:Tabs W):GoodP (Fw W) Tryz.prog 132 Aeo:=by
 have hD:=Qf hW;have hC0:Ad (Fw W) Tryz.prog cH:=(Ano hW);refine Au (D:=If) (C:=cH) (wr:=(fun _=>false)) rfl Ao hD hC0 Tryz.func132 (Ap8) ?_;clear hC0 hD hW;intro cs p r h hf hp;split at h
 case h_2=>cases h
 rename_i n;cases h;try simp only[Az,Bd,Aw,Go.Vc.lo,Go.Vc.hi,and_true] at hf
 obtain⟨h0,hm⟩:=hp;have hb:0≤n∧n≤1000000000000:=by have:=hm;unfold C4 at this;simp at this;omega
 have hex: ¬C4 n=false:=by rw[hm];simp
 (conv=>whnf)
 (repeat' (first|(exact absurd (by with_reducible assumption) hex)|refine tuU ?_|split<;>rename_i hh<;>try simp only[wS] at hh)<;>conv=>whnf)
 ·exfalso;omega
 refine⟨?_,fun(x:FS) hx=>?_⟩
 ·(conv=>whnf)
  refine⟨((0,[],n):FS),[0],?_,⟨⟨rfl,(nB rfl),rfl⟩,?_,?_⟩⟩
  ·exact⟨h0,Int.le_refl _,⟨by simp,Nat.le_refl _⟩,by simp[Jq]⟩
  ·exact tL
  ·exact tL
 ·obtain⟨i,back,m⟩:=x;obtain⟨h1,h2,⟨h3,h5⟩,h4⟩:=hx;change i≤back.length at h5;change 0≤m at h1;change m≤n at h2;change i=0↔back=[] at h3;change Jq m i++back.reverse=Bl n at h4;have hd:=Ap5 h1;have htd:m.tdiv 10=m / 10:=Int.tdiv_eq_ediv_of_nonneg h1;have hl:back.length≤40:=by
   have:=congrArg List.length h4;have:=K4 h0 (by omega)
   simp at*;omega
  rcases back with _|⟨c,l⟩
  ·have hi:=h3.2 rfl;subst hi
   (conv=>whnf)
   (repeat' (first|refine tuU ?_)<;>conv=>whnf)
   ·(conv=>whnf)
    refine⟨((1,[Dz m],m / 10):FS),[2],?_,⟨⟨rfl,(nB rfl),rfl⟩,?_,?_⟩⟩
    ·refine⟨⟨show 0≤m / 10 by omega,show m / 10≤n by omega,⟨by simp,Nat.le_refl _⟩,?_⟩,show(3 - 1)+2*(m / 10).toNat<(3 - 0)+2*m.toNat by omega⟩
     rw[←h4];have:=Acg (i:=0) h1 (.inl (by omega)) (by omega)
     simpa using this
    ·exact tL
    ·(conv=>whnf)
     (repeat' (first|with_reducible exact⟨⟩|refine tuA ?_|with_reducible refine iB ?_ ?_)<;>conv=>whnf)
     all_goals try simp only[wQ]
     intro e he;have he:e<1:=he;obtain rfl:e=0:=by omega
     refine⟨?_,rfl⟩;show [AV.int .u8 (48+m.tmod 10)]=[AV.int .u8 ((Dz m).toNat:Int)];rw[hd]
  ·have hi:i≠0:=fun h=>by have:=h3.1 h;cases this
   have hl2:l.length≤39:=(by simp at hl;omega);have h6:i≤l.length+1:=h5;clear hl;have hdr:[AV.int .u8 (48+m.tmod 10)]=[AV.int .u8 ((Dz m).toNat:Int)]:=(by rw[hd]);have hfin: ¬0<m→3≤i→c::l=(Bl n).reverse:=fun hm0 hi3=>by
    obtain⟨k,rfl⟩:∃ k,i=k+3:=⟨i - 3,by omega⟩
    have hz:m=0:=(by omega);simp only[Jq] at h4;rw[if_pos hz,List.nil_append] at h4;rw[←h4,List.reverse_reverse]
   (conv=>whnf)
   (repeat' (first|refine tuU ?_|split<;>rename_i hh<;>try simp only[wS] at hh|with_reducible refine lnI fun hln=>?_)<;>conv=>whnf)
   ·(conv=>whnf)
    refine⟨((i+1,c::l++[46]++[Dz m],m / 10):FS),[4],?_,⟨⟨rfl,(nB rfl),rfl⟩,?_,?_⟩⟩
    ·refine⟨⟨show 0≤m / 10 by omega,show m / 10≤n by omega,⟨by simp,by simp;omega⟩,?_⟩,show(3 - (i+1))+2*(m / 10).toNat<(3 - i)+2*m.toNat by omega⟩
     rw[←h4];obtain rfl:i=2:=by omega
     have:=Ap6 h1;show Jq (m / 10) 3++_=Jq m 2++_;rw[←this];simp
    ·exact tL
    ·(conv=>whnf)
     (repeat' (first|with_reducible exact⟨⟩|refine tuA ?_|with_reducible refine iB ?_ ?_)<;>conv=>whnf)
     all_goals try simp only[wQ]
     exact⟨by simp,fun e he=>⟨iP (l:=c::l++[46]) (by simp) (fun e he=>iP (l:=c::l) rfl (fun _ _=>rfl) rfl (by simpa using he)) hdr (by simpa using he),rfl⟩⟩
   ·(conv=>whnf)
    refine⟨((i+1,c::l++[Dz m],m / 10):FS),[2],?_,⟨⟨rfl,(nB rfl),rfl⟩,?_,?_⟩⟩
    ·refine⟨⟨show 0≤m / 10 by omega,show m / 10≤n by omega,⟨by simp,by simp;omega⟩,?_⟩,show(3 - (i+1))+2*(m / 10).toNat<(3 - i)+2*m.toNat by omega⟩
     rw[←h4];have:=Acg (i:=i) h1 (.inl (by omega)) (by omega)
     show Jq (m / 10) (i+1)++_=Jq m i++_;rw[←this];simp
    ·exact tL
    ·(conv=>whnf)
     (repeat' (first|with_reducible exact⟨⟩|refine tuA ?_|with_reducible refine iB ?_ ?_)<;>conv=>whnf)
     all_goals try simp only[wQ]
     exact⟨by simp,fun e he=>⟨iP (l:=c::l) rfl (fun _ _=>rfl) hdr (by simpa using he),rfl⟩⟩
   ·exfalso;omega
   ·(conv=>whnf)
    refine⟨((i+1,c::l++[Dz m],m / 10):FS),[2],?_,⟨⟨rfl,(nB rfl),rfl⟩,?_,?_⟩⟩
    ·refine⟨⟨show 0≤m / 10 by omega,show m / 10≤n by omega,⟨by simp,by simp;omega⟩,?_⟩,show(3 - (i+1))+2*(m / 10).toNat<(3 - i)+2*m.toNat by omega⟩
     rw[←h4];have:=Acg (i:=i) h1 (.inr (by omega)) (by omega)
     show Jq (m / 10) (i+1)++_=Jq m i++_;rw[←this];simp
    ·exact tL
    ·(conv=>whnf)
     (repeat' (first|with_reducible exact⟨⟩|refine tuA ?_|with_reducible refine iB ?_ ?_)<;>conv=>whnf)
     all_goals try simp only[wQ]
     exact⟨by simp,fun e he=>⟨iP (l:=c::l) rfl (fun _ _=>rfl) hdr (by simpa using he),rfl⟩⟩
   ·have hcl:=hfin (by omega) (by omega)
    have hll:l.length+1=(Bl n).length:=(by have:=congrArg List.length hcl;simpa using this);refine⟨?_,fun(k:Nat) (hk:k≤(Bl n).length)=>?_⟩
    ·(conv=>whnf)
     refine⟨(0:Nat),[],?_,⟨⟨rfl,(nB rfl),rfl⟩,?_,?_⟩⟩
     ·exact Nat.zero_le _
     ·exact tL
     ·(conv=>whnf)
      (repeat' (first|with_reducible exact⟨⟩|refine tuA ?_|with_reducible refine iA ?_ ?_|with_reducible refine iL ?_ ?_|with_reducible refine iB ?_ ?_)<;>conv=>whnf)
      all_goals try simp only[wQ]
      intro e he;rw[hcl];exact⟨rfl,rfl⟩
    ·have hr:∀ k:Nat,k<(Bl n).length→[AV.int .u8 (((Bl n).reverse.getD (0+(((Bl n).length:Int) - 1 - (k:Int)).toNat) 0).toNat:Int)]=[AV.int .u8 ((Bl n).getD k 0).toNat]:=fun k hk=>by rw[Ap7 hk]
     have hpos:=Aji n;have h30:=K4 h0 (by omega)
     rcases k with _|k
     ·(conv=>whnf)
      (repeat' (first|(with_reducible refine Ap ?_)|refine tuU ?_|split<;>rename_i hh<;>try simp only[wS] at hh|with_reducible refine lnI fun hln=>?_)<;>conv=>whnf)
      ·(conv=>whnf)
       refine⟨(1:Nat),[4],?_,⟨⟨rfl,(nB rfl),rfl⟩,?_,?_⟩⟩
       ·exact⟨show 1≤(Bl n).length by omega,show(Bl n).length - 1<(Bl n).length - 0 by omega⟩
       ·exact tL
       ·(conv=>whnf)
        (repeat' (first|with_reducible exact⟨⟩|((with_reducible refine Or.inr ?_);rfl)|refine tuA ?_|with_reducible refine iA ?_ ?_|with_reducible refine iL ?_ ?_|with_reducible refine iB ?_ ?_)<;>conv=>whnf)
        all_goals try simp only[wQ]
        all_goals (try first|exact fun _ _=>⟨True.intro,rfl⟩)
        refine⟨⟨rfl,Nat.le_refl _,fun e he=>?_⟩,trivial⟩;have he:e<1:=he;obtain rfl:e=0:=by omega
        exact⟨hr 0 (by omega),rfl⟩
      ·exfalso;omega
     ·(conv=>whnf)
      (repeat' (first|(with_reducible refine Ap ?_)|refine tuU ?_|split<;>rename_i hh<;>try simp only[wS] at hh|with_reducible refine lnI fun hln=>?_)<;>conv=>whnf)
      ·(conv=>whnf)
       refine⟨(k+2:Nat),[4],?_,⟨⟨rfl,(nB rfl),rfl⟩,?_,?_⟩⟩
       ·exact⟨show k+2≤(Bl n).length by omega,show(Bl n).length - (k+2)<(Bl n).length - (k+1) by omega⟩
       ·exact tL
       ·(conv=>whnf)
        (repeat' (first|with_reducible exact⟨⟩|((with_reducible refine Or.inr ?_);rfl)|refine tuA ?_|with_reducible refine iA ?_ ?_|with_reducible refine iL ?_ ?_|with_reducible refine iB ?_ ?_)<;>conv=>whnf)
        all_goals try simp only[wQ]
        all_goals (try first|exact fun _ _=>⟨True.intro,rfl⟩)
        exact⟨⟨trivial,Nat.le_refl _,fun e he=>⟨At6 (hr (k+1) (by omega)) (by simpa using he),rfl⟩⟩,rfl⟩
      ·refine⟨⟨rfl,by omega,Nat.le_refl _,fun e he=>rfl⟩,?_⟩
       (conv=>whnf)
       all_goals try(show _=_;simp only[wQ])
       have hk1:k+1=(Bl n).length:=(by omega);rw[hk1];exact eF _
def Ap9:PC:=PC.fun fun|[.int .i64 n]=>some (n<0∨C4 n=false,.str (sS (Cp n)))|_=>none
def kW:PT:=Cg [(132,Aeo),(207,Aca)]
theorem Aes{W:World}(hW:Tabs W):Cb (Fw W) Tryz.prog kW:=(Ab Tryz.call132 (Aer hW) (Ab Tryz.call207 (kJ hW) Aq))
def kX:FuncId→Option Ctr:=Av kW [(102,Oa)]
theorem Aqa{W:World}(hW:Tabs W):Ad (Fw W) Tryz.prog kX:=(Ae Tryz.call102 Ur (Ar (Aes hW)))
theorem Aqb{W:World}(hW:Tabs W):GoodP (Fw W) Tryz.prog 132 Ap9:=by
 have hD:=Aes hW;have hC0:Ad (Fw W) Tryz.prog kX:=(Aqa hW);refine Au (D:=kW) (C:=kX) (wr:=(fun _=>false)) rfl Ao hD hC0 Tryz.func132 (fun _ _=>none) ?_;clear hC0 hD hW;intro cs p r h hf hp;split at h
 case h_2=>cases h
 rename_i n;cases h;try simp only[Az,Bd,Aw,Go.Vc.lo,Go.Vc.hi,and_true] at hf
 have hbd:C4 n=true→ -1000000000000≤n∧n≤1000000000000:=fun h=>by have:=h;unfold C4 at this;simp at this;omega
 by_cases hm:C4 n=true
 ·have hn:n<0:=by rcases hp with h|h;exact h;rw[hm] at h;cases h
  have hb:=hbd hm;have hex: ¬0≤n:=by omega
  have h1:=K4 (n:= -n) (by omega) (by omega)
  have hm2:0≤ -n∧C4 (-n)=true:=⟨by omega,by unfold C4;simp;omega⟩
  (conv=>whnf)
  (repeat' (first|(exact absurd (by with_reducible assumption) hex)|refine tuU ?_|split<;>rename_i hh<;>try simp only[wS] at hh)<;>conv=>whnf)
  all_goals try(show _=_;simp only[wQ])
  all_goals try (rename_i hh;exact absurd hm hh)
  all_goals try (rename_i hh;rw[hm] at hh;cases hh;done)
  all_goals (unfold Cp Gj;rw[if_pos hm,if_pos hn];rfl)
 ·have hex: ¬C4 n=true:=hm
  (conv=>whnf)
  (repeat' (first|(exact absurd (by with_reducible assumption) hex)|refine tuU ?_|split<;>rename_i hh<;>try simp only[wS] at hh)<;>conv=>whnf)
  all_goals try(show _=_;simp only[wQ])
  unfold Cp;rw[if_neg hm]
theorem PC.split{F:Nat→Obj→Prop}{P:Program}{i:FuncId}{f f1 f2:List AV→Option (Prop × AV)}(h1:GoodP F P i (PC.fun f1))(h2:GoodP F P i (PC.fun f2))
  (h:∀ cs p r,f cs=some (p,r)→p→(∃ p1,f1 cs=some (p1,r)∧p1)∨(∃ p2,f2 cs=some (p2,r)∧p2)):GoodP F P i (PC.fun f):=by
 intro S w cs vs Q hs hv hT;simp only[PC.fun] at hT;cases hf:f cs with
 |none=>rw[hf] at hT;exact hT.elim
 |some pr=>
  obtain⟨p,r⟩:=pr;rw[hf] at hT;rcases h cs p r hf hT.1 with ⟨p1,hc,hp⟩|⟨p1,hc,hp⟩
  ·refine h1 S w cs vs Q hs hv ?_;simp only[PC.fun];rw[hc];exact⟨hp,hT.2⟩
  ·refine h2 S w cs vs Q hs hv ?_;simp only[PC.fun];rw[hc];exact⟨hp,hT.2⟩
def Ach:PC:=PC.fun fun|[.int .i64 n]=>some (True,.str (sS (Cp n)))|_=>none
theorem Akx{W:World}(hW:Tabs W):GoodP (Fw W) Tryz.prog 132 Ach:=by
 refine PC.split (Aer hW) (Aqb hW) fun cs p r h hp=>?_;split at h
 ·rename_i n;cases h;by_cases hc:0≤n∧C4 n=true
  ·refine .inl ⟨_,?_,hc⟩;have:Cp n=Bl n:=by unfold Cp Gj;rw[if_pos hc.2,if_neg (by omega)]
   rw[this]
  ·exact .inr ⟨_,rfl,by
    by_cases h1:n<0
    ·exact .inl h1
    ·exact .inr (Bool.eq_false_iff.2 fun h2=>hc ⟨by omega,h2⟩)⟩
 ·cases h
end
end Go.Vc.Z
namespace Go.Vc.Z
open Go Go.Vc Go.Proofs Go.RowKit Go.Pl Go.Lib
noncomputable section
set_option maxRecDepth 100000
attribute [local irreducible] inK Utf8.decode Utf8.encode Lib.itoa Pl.worth Pl.allDig
attribute [local irreducible] Lib.join
def A0o(l:List (List UInt8)):Blk:=match l with
 |[]=>.dead
 |c::l=>.row 1 (l.length+1) (fun e=>[.str ((c::l).getD e [])])
def A0p(id:Nat):List (List UInt8)→AV
 |[]=>.nilsl
 |_::l=>.osl id 1 0 (l.length+1) none
theorem Zr{l:List (List UInt8)}{n:Nat}{d:List UInt8}{g b:Nat→List AV}(hn:n=l.length)(hg:∀ e,e<l.length→g e=[.str (l.getD e [])])(hb:b 0=[.str d]){e:Nat}(he:e<n+1):Bq n g b e=[AV.str ((l++[d]).getD e [])]:=by
 subst hn;rw[←Akv (L:=l) (b:=b) hb (by simpa using he)]
 unfold Bq;split
 ·exact hg e (by assumption)
 ·rfl
def Mm:PT:=Cg [(111,Lo)]
theorem Tg{W:World}(hW:Tabs W):Cb (Fw W) Tryz.prog Mm:=(Ab Tryz.call111 (Ank hW) Aq)
def Mn:FuncId→Option Ctr:=Av Mm []
theorem gO{W:World}(hW:Tabs W):Ad (Fw W) Tryz.prog Mn:=(Ar (Tg hW))
theorem Er{W:World}(hW:Tabs W):GoodP (Fw W) Tryz.prog 46 Lo:=by
 have hD:=Tg hW;have hC0:Ad (Fw W) Tryz.prog Mn:=(gO hW);refine Au (D:=Mm) (C:=Mn) (wr:=(fun _=>false)) rfl Ao hD hC0 Tryz.func46 (fun _ _=>none) ?_;clear hC0 hD hW;intro cs p r h hf hp;split at h
 case h_2=>cases h
 rename_i n;cases h;try simp only[Az,Bd,Aw,Go.Vc.lo,Go.Vc.hi,and_true] at hf
 (conv=>whnf)
 (repeat' (first|refine tuU ?_)<;>conv=>whnf)
theorem Hm(n:Int):(Cp n).length≤31:=by
 unfold Cp;split
 ·rename_i h;unfold C4 at h;simp at h;exact Ajh (by omega)
 ·simp
@[irreducible] def E7(x:Tax):List UInt8:=Lib.itoa x.code++[61]++Cp x.amount
theorem Aet{x:Tax}(h: -9223372036854775808≤x.code∧x.code≤9223372036854775807):(E7 x).length≤70:=by
 unfold E7;have:=Bj x.code h.1 h.2;have:=Hm x.amount;simp only[List.length_append,List.length_cons,List.length_nil];omega
def Ajj:PC:=PC.fun fun|[.agg [.int .i64 c,.int .i64 a]]=>some (True,.str (sS (E7 ⟨c,a⟩)))|_=>none
def Hn:PT:=Cg [(46,Lo),(132,Ach)]
theorem K5{W:World}(hW:Tabs W):Cb (Fw W) Tryz.prog Hn:=(Ab Tryz.call46 (Er hW) (Ab Tryz.call132 (Akx hW) Aq))
def Fb:FuncId→Option Ctr:=Av Hn []
theorem Q6{W:World}(hW:Tabs W):Ad (Fw W) Tryz.prog Fb:=(Ar (K5 hW))
theorem Q7{W:World}(hW:Tabs W):GoodP (Fw W) Tryz.prog 131 Ajj:=by
 have hD:=K5 hW;have hC0:Ad (Fw W) Tryz.prog Fb:=(Q6 hW);refine Au (D:=Hn) (C:=Fb) (wr:=(fun _=>false)) rfl Ao hD hC0 Tryz.func131 (fun _ _=>none) ?_;clear hC0 hD hW;intro cs p r h hf hp;split at h
 case h_2=>cases h
 rename_i c a;cases h;try simp only[Az,Bd,Aw,Go.Vc.lo,Go.Vc.hi,and_true] at hf
 have l1:=Bj c (by omega) (by omega)
 have l2:=Hm a;have l3:=Aet (x:=⟨c,a⟩) (by simp;omega)
 (conv=>whnf)
 (repeat' (first|refine tuU ?_)<;>conv=>whnf)
 all_goals try(show _=_;simp only[wQ])
 unfold E7;rfl
theorem Q8{l:List Tax}{r:List AV}(h:Az (slE 2 Tax.enc l::r)):∀ s ∈ l.map E7,s.length≤200:=by
 intro s hs;obtain⟨x,hx,rfl⟩:=List.mem_map.1 hs;obtain⟨i,hi,rfl⟩:=List.getElem_of_mem hx;simp only[Az,Bd] at h;have h1:=(h.1.2 i hi).2.1;have hx:l.getD i default=l[i]:=by simp[List.getD_eq_getElem?_getD,hi]
 rw[hx] at h1;have h2: -9223372036854775808≤l[i].code∧l[i].code≤9223372036854775807:=Aw.1 h1;exact Nat.le_trans (Aet h2) (by omega)
def A5n(l:List Tax):LoopSpec:={
 α:=Nat × List (List UInt8)
 keep:=[1,5,8,9,10]
 vals x:=[.fn 131 [],A0p 0 x.2,slE 2 Tax.enc l,.int .i64 l.length,.int .i64 x.1]
 heap x:=[A0o x.2]
 ok x:=x.1≤l.length∧x.2=(l.take x.1).map E7
 μ x:=l.length - x.1 }
def Aqc:PC:=PC.of (fun l:List Tax=>[slE 2 Tax.enc l,.fn 131 []]) (fun l=>0<l.length∧l.length≤1000000) (fun l=>.str (sS (Lib.join (l.map E7) [44])))
def Fc:PT:=Cg [(62,Sl),(131,Ajj)]
theorem Jb{W:World}(hW:Tabs W):Cb (Fw W) Tryz.prog Fc:=(Ab Tryz.call62 (Nn hW) (Ab Tryz.call131 (Q7 hW) Aq))
def Fe:FuncId→Option Ctr:=Av Fc []
theorem Q9{W:World}(hW:Tabs W):Ad (Fw W) Tryz.prog Fe:=(Ar (Jb hW))
def Ra:List Tax→Nat→Option LR:=fun l i=>cond (Nat.beq i 3) (some (.inv (A5n l))) (none)
set_option maxHeartbeats 2000000 in
theorem Rb{W:World}(hW:Tabs W):GoodP (Fw W) Tryz.prog 130 Aqc:=by
 have hD:=Jb hW;have hC0:∀ l:List Tax,Ad (Fw W) Tryz.prog Fe:=fun l=>(Q9 hW);refine As (D:=Fc) (C:=fun l=>Fe) (wr:=(fun _=>false)) rfl Ao hD hC0 Tryz.func130 (Ra) (fun _=>rfl) ?_;intro l hf hp;obtain⟨hp0,hp1⟩:=hp;have hw:∀ s ∈ l.map E7,s.length≤200:=(Q8 hf);clear hf
 (conv=>whnf)
 (repeat' (first|with_reducible refine lnI fun hln=>?_)<;>conv=>whnf)
 refine⟨?_,fun(x:Nat × List (List UInt8)) hx=>?_⟩
 ·(conv=>whnf)
  refine⟨((0,[]):Nat × List (List UInt8)),[],?_,⟨⟨rfl,(nB rfl),rfl⟩,?_,?_⟩⟩
  ·exact⟨Nat.zero_le _,rfl⟩
  ·exact Ac _
  ·exact tL
 ·obtain⟨i,L⟩:=x;obtain⟨h1,h2⟩:=hx;change i≤l.length at h1;change L=(l.take i).map E7 at h2;have hlen:L.length=i:=by rw[h2];simp;omega
  have hstep:i<l.length→L++[E7 (l.getD (Int.toNat (i:Int)) default)]=(l.take (i+1)).map E7:=fun h=>by
   rw[h2,List.take_add_one,List.map_append,List.getElem?_eq_getElem h];have:l.getD (Int.toNat (i:Int)) default=l[i]:=by
    rw[show Int.toNat (i:Int)=i from rfl,List.getD_eq_getElem?_getD,List.getElem?_eq_getElem h];rfl
   rw[this];rfl
  rcases L with _|⟨s,L⟩
  ·have hi:i=0:=(by simpa using hlen.symm);subst hi
   (conv=>whnf)
   (repeat' (first|refine tuU ?_|split<;>rename_i hh<;>try simp only[wS] at hh)<;>conv=>whnf)
   ·(conv=>whnf)
    refine⟨((1,[E7 (l.getD (Int.toNat ((0:Nat):Int)) default)]):Nat × List (List UInt8)),[3],?_,⟨⟨rfl,(nB rfl),rfl⟩,?_,?_⟩⟩
    ·exact⟨⟨show 1≤l.length by omega,hstep (by omega)⟩,show l.length - 1<l.length - 0 by omega⟩
    ·exact tL
    ·(conv=>whnf)
     (repeat' (first|with_reducible exact⟨⟩|refine tuA ?_|with_reducible refine iB ?_ ?_)<;>conv=>whnf)
     all_goals try simp only[wQ]
     intro e he;have he:e<1:=he;obtain rfl:e=0:=by omega
     exact⟨rfl,rfl⟩
   ·exfalso;omega
  ·have hlen2:L.length+1=i:=hlen
   (conv=>whnf)
   (repeat' (first|refine tuU ?_|split<;>rename_i hh<;>try simp only[wS] at hh)<;>conv=>whnf)
   ·(conv=>whnf)
    refine⟨((i+1,s::L++[E7 (l.getD (Int.toNat (i:Int)) default)]):Nat × List (List UInt8)),[3],?_,⟨⟨rfl,(nB rfl),rfl⟩,?_,?_⟩⟩
    ·exact⟨⟨show i+1≤l.length by omega,hstep (by omega)⟩,show l.length - (i+1)<l.length - i by omega⟩
    ·exact tL
    ·(conv=>whnf)
     (repeat' (first|with_reducible exact⟨⟩|refine tuA ?_|with_reducible refine iB ?_ ?_)<;>conv=>whnf)
     all_goals try simp only[wQ]
     exact⟨by simp,fun e he=>⟨Zr (l:=s::L) rfl (fun _ _=>rfl) rfl (by simpa using he),rfl⟩⟩
   ·have hi:i=l.length:=(by omega);rw[hi,List.take_length] at h2;refine⟨⟨by omega,fun e he=>rfl⟩,?_⟩
    refine⟨((s::L,[44]):List (List UInt8) × List UInt8),⟨by have:=Lp [44] 200 (s::L) (by rw[h2];exact hw);simp at this;show(Lib.join (s::L) [44]).length≤_;omega,by show(s::L).length≤_;simp;omega⟩,?_,?_⟩
    ·exact tL
    (conv=>whnf)
    all_goals try(show _=_;simp only[wQ])
    rw[h2]
@[irreducible] def Bm(l:List Tax):List UInt8:=if l.length=0 then [45] else Lib.join (l.map E7) [44]
def Aeu:PC:=PC.of (fun l:List Tax=>[slE 2 Tax.enc l]) (fun l=>l.length≤1000000) (fun l=>.str (sS (Bm l)))
def Od:PT:=Cg [(130,Aqc),(131,Ajj)]
theorem Ut{W:World}(hW:Tabs W):Cb (Fw W) Tryz.prog Od:=(Ab Tryz.call130 (Rb hW) (Ab Tryz.call131 (Q7 hW) Aq))
def Oe:FuncId→Option Ctr:=Av Od []
theorem kY{W:World}(hW:Tabs W):Ad (Fw W) Tryz.prog Oe:=(Ar (Ut hW))
theorem kZ{W:World}(hW:Tabs W):GoodP (Fw W) Tryz.prog 58 Aeu:=by
 have hD:=Ut hW;have hC0:∀ l:List Tax,Ad (Fw W) Tryz.prog Oe:=fun l=>(kY hW);refine As (D:=Od) (C:=fun l=>Oe) (wr:=(fun _=>false)) rfl Ao hD hC0 Tryz.func58 (fun _ _=>none) (fun _=>rfl) ?_;intro l hf hp;clear hf
 (conv=>whnf)
 (repeat' (first|split<;>rename_i hh<;>try simp only[wS] at hh|with_reducible refine lnI fun hln=>?_)<;>conv=>whnf)
 all_goals try(show _=_;simp only[wQ])
 ·unfold Bm;rw[if_pos (by omega)]
 ·refine⟨l,⟨by omega,hp⟩,?_,?_⟩
  ·exact Ac _
  (conv=>whnf)
  all_goals try(show _=_;simp only[wQ])
  unfold Bm;rw[if_neg (by omega)]
@[irreducible] def Bi(c:Coupon):List UInt8:=Lib.itoa c.flight++[64]++Lib.itoa c.day++[61]++Cp c.value
@[irreducible] def At7(c:Coupon):List UInt8:=Bi c++[58]++Cr c.status++(if c.holder=0 then [] else 47::Lib.itoa c.holder)++(if c.next=0 then [] else 62::A6 c.next)
theorem eG(s:Int):(Cr s).length≤1:=by
 by_cases h:Ji s=true
 ·obtain⟨c,hc,_⟩:=Ajf h;rw[hc];exact Nat.le_refl 1
 ·unfold Cr;rw[if_neg h];simp
theorem Aev{c:Coupon}(h1: -9223372036854775808≤c.flight∧c.flight≤9223372036854775807)(h2: -9223372036854775808≤c.day∧c.day≤9223372036854775807):(Bi c).length≤100:=by
 unfold Bi;have:=Bj c.flight h1.1 h1.2;have:=Bj c.day h2.1 h2.2;have:=Hm c.value;simp only[List.length_append,List.length_cons,List.length_nil];omega
def cI:PC:=PC.fun fun|[.agg [.int .i64 cf,.int .i64 cd,.int .i64 cv,.int .i64 cs,.int .i64 ch,.int .u64 cx]]=>some (True,.str (sS (Bi (Coupon.mk cf cd cv cs ch cx))))|_=>none
theorem Ti{W:World}(hW:Tabs W):GoodP (Fw W) Tryz.prog 129 cI:=by
 have hD:=K5 hW;have hC0:Ad (Fw W) Tryz.prog Fb:=(Q6 hW);refine Au (D:=Hn) (C:=Fb) (wr:=(fun _=>false)) rfl Ao hD hC0 Tryz.func129 (fun _ _=>none) ?_;clear hC0 hD hW;intro cs p r h hf hp;split at h
 case h_2=>cases h
 rename_i cf cd cv cs ch cx;cases h;try simp only[Az,Bd,Aw,Go.Vc.lo,Go.Vc.hi,and_true] at hf
 have l1:=Bj cf (by omega) (by omega)
 have l2:=Bj cd (by omega) (by omega)
 have l3:=Hm cv;clear hf
 (conv=>whnf)
 (repeat' (first|refine tuU ?_)<;>conv=>whnf)
 all_goals try(show _=_;simp only[wQ])
 unfold Bi;rfl
@[irreducible] def A0q(x:Event):List UInt8:=Lib.itoa x.day++[46]++Lib.itoa x.coupon++[46]++Cr x.src++Cr x.dst
end
end Go.Vc.Z
namespace Go.Vc.Z
open Go Go.Vc Go.Proofs Go.RowKit Go.Pl Go.Lib
noncomputable section
set_option maxRecDepth 100000
attribute [local irreducible] inK Utf8.decode Utf8.encode Lib.itoa Pl.worth Pl.allDig
attribute [local irreducible] Lib.join
abbrev numsL(t:Ticket):List Int:=[t.prev,t.origin,t.first,t.voucher,t.posts]
abbrev A8o(n:Int):List UInt8:=decDigits n.toNat
def A0r(t:Ticket):List (List UInt8):=[[116,105,99,107,101,116],A6 t.number,t.locator,Lib.itoa t.issued]
theorem Wb{s:List UInt8}(h:Gb s=true):s.length=6:=by
 unfold Gb at h;simp at h;exact h.2
theorem Yg{l:List Tax}(h:l.length≤4)(hf:∀ s ∈ l.map E7,s.length≤200):(Bm l).length≤1000:=by
 unfold Bm;split
 ·simp
 ·have:=Lp [44] 200 _ hf;simp at this;omega
end
end Go.Vc.Z
namespace Go.Vc.Z
open Go Go.Vc Go.Proofs Go.RowKit Go.Pl Go.Lib
noncomputable section
set_option maxRecDepth 100000
attribute [local irreducible] inK Utf8.decode Utf8.encode Lib.itoa Pl.worth Pl.allDig
end
end Go.Vc.Z
namespace Go.Vc.Z
open Go Go.Vc Go.Proofs Go.RowKit Go.Pl Go.Lib
noncomputable section
set_option maxRecDepth 100000
attribute [local irreducible] inK Utf8.decode Utf8.encode Lib.itoa Pl.worth Pl.allDig
attribute [local irreducible] Lib.join
def A0s:List (List UInt8):=[[111,107],[110,105,108],[97,114,103],[108,111,110,103],[98,121,116,101,115],[114,97,110,103,101],[110,111,110,101],[101,120,105,115,116,115],[102,117,108,108],[115,116,97,116,101],[100,101,97,100],[100,105,103,105,116],[115,116,111,99,107],[99,111,110,116,114,111,108],[109,111,110,101,121],[100,97,121],[107,101,121],[98,117,115,121]]
@[irreducible] def Of(e:Int):List UInt8:=if 0≤e∧e≤17 then A0s.getD e.toNat [] else []
def Aqd:PC:=PC.fun fun|[.int .i64 e]=>some (True,.str (sS (Of e)))|_=>none
theorem Aqe{e:Int}(h:0≤e∧e≤17):Of e≠[]∧(Of e).length≤10:=by
 unfold Of;rw[if_pos h];rcases(by omega:e=0∨e=1∨e=2∨e=3∨e=4∨e=5∨e=6∨e=7∨e=8∨e=9∨e=10∨e=11∨e=12∨e=13∨e=14∨e=15∨e=16∨e=17) with rfl|rfl|rfl|rfl|rfl|rfl|rfl|rfl|rfl|rfl|rfl|rfl|rfl|rfl|rfl|rfl|rfl|rfl<;>decide
theorem tZ{e:Int}(h: ¬(0≤e∧e≤17)):Of e=[]:=by
 unfold Of;rw[if_neg h]
theorem uA(e:Int):(Of e).length≤10:=by
 by_cases h:0≤e∧e≤17
 ·exact(Aqe h).2
 ·rw[tZ h];simp
theorem rT{W:World}(hW:Tabs W):GoodP (Fw W) Tryz.prog 16 Aqd:=by
 have hD:=A9 hW;have hC0:Ad (Fw W) Tryz.prog Am:=(Ba hW);refine Au (D:=A8) (C:=Am) (wr:=(fun _=>false)) rfl Ao hD hC0 Tryz.func16 (fun _ _=>none) ?_;clear hC0 hD hW;intro cs p r h hf hp;split at h
 case h_2=>cases h
 rename_i e;cases h;try simp only[Az,Bd,Aw,Go.Vc.lo,Go.Vc.hi,and_true] at hf
 by_cases h:0≤e∧e≤17
 ·rcases(by omega:e=0∨e=1∨e=2∨e=3∨e=4∨e=5∨e=6∨e=7∨e=8∨e=9∨e=10∨e=11∨e=12∨e=13∨e=14∨e=15∨e=16∨e=17) with rfl|rfl|rfl|rfl|rfl|rfl|rfl|rfl|rfl|rfl|rfl|rfl|rfl|rfl|rfl|rfl|rfl|rfl
  all_goals (
   (conv=>whnf)
   (repeat' (first|refine tuU ?_|with_reducible refine lnI fun hln=>?_)<;>conv=>whnf)
   all_goals try(show _=_;simp only[wQ])
   )
  all_goals (unfold Of;rfl)
 ·clear hf
  (conv=>whnf)
  (repeat' (first|refine tuU ?_|split<;>rename_i hh<;>try simp only[wS] at hh|with_reducible refine lnI fun hln=>?_)<;>conv=>whnf)
  all_goals try(show _=_;simp only[wQ])
  all_goals try (rw[tZ h];done)
  all_goals (exfalso;omega)
end
end Go.Vc.Z
namespace Go.Vc.Z
open Go Go.Vc Go.Proofs Go.RowKit Go.Pl Go.Lib
noncomputable section
set_option maxRecDepth 100000
attribute [local irreducible] inK Utf8.decode Utf8.encode Lib.itoa Pl.worth Pl.allDig
attribute [local irreducible] Lib.join
theorem Aqf{α:Type}[Inhabited α]{f:α→List UInt8}{l:List α}{i:Nat}{B:List (List UInt8)}(h:i<l.length):(B++(l.take i).map f)++[f (l.getD (Int.toNat (i:Int)) default)]=B++(l.take (i+1)).map f:=by
 rw[List.append_assoc,List.take_add_one,List.map_append,List.getElem?_eq_getElem h];have:l.getD (Int.toNat (i:Int)) default=l[i]:=by
  rw[show Int.toNat (i:Int)=i from rfl,List.getD_eq_getElem?_getD,List.getElem?_eq_getElem h];rfl
 rw[this];rfl
end
end Go.Vc.Z
namespace Go.Vc.Z
open Go Go.Vc Go.Proofs Go.RowKit Go.Pl Go.Lib
noncomputable section
set_option maxRecDepth 100000
attribute [local irreducible] inK Utf8.decode Utf8.encode Lib.itoa Pl.worth Pl.allDig
attribute [local irreducible] Lib.join
theorem Wc{α:Type}[Inhabited α]{f:α→List UInt8}{l:List α}{i:Nat}(h:i<l.length)(sep:List UInt8):Lib.join ((l.take (i+1)).map f) sep=(if i=0 then [] else Lib.join ((l.take i).map f) sep++sep)++f (l.getD (Int.toNat (i:Int)) default):=by
 have:=Aqf (f:=f) (l:=l) (i:=i) (B:=[]) h;simp only[List.nil_append] at this;rw[←this];split
 ·rename_i h0;subst h0;simp[Lib.join_one]
 ·rw[cE (by rw[ne_eq,List.map_eq_nil_iff,List.take_eq_nil_iff];intro hc;rcases hc with hc|hc<;>first|omega|(rw[hc] at h;simp at h)),List.append_assoc]
theorem Ho{n:Int}(h:C4 n=true):Gj n=Cp n:=by unfold Cp;rw[if_pos h]
theorem cJ{n:Int}(h:C2 n=true):C4 n=true∧ -9223372036854775807≤n:=by
 unfold C2 at h;simp at h;exact⟨by unfold C4;simp;omega,by omega⟩
theorem cK{n:Int}(h:C4 n=true): -9223372036854775807≤n:=by
 unfold C4 at h;simp at h;omega
def uB:PC:=PC.fun fun|[.agg [.int .i64 cf,.int .i64 cd,.int .i64 cv,.int .i64 cs,.int .i64 ch,.int .u64 cx]]=>some (C4 cv=true,.str (sS (Bi (Coupon.mk cf cd cv cs ch cx))))|_=>none
def Et:PT:=Cg [(49,kL),(83,kU)]
theorem G6{W:World}(hW:Tabs W):Cb (Fw W) Tryz.prog Et:=(Ab Tryz.call49 (Gu hW) (Ab Tryz.call83 (Oc hW) Aq))
def Dv:FuncId→Option Ctr:=Av Et []
theorem Lz{W:World}(hW:Tabs W):Ad (Fw W) Tryz.prog Dv:=(Ar (G6 hW))
theorem Uu{W:World}(hW:Tabs W):GoodP (Fw W) Tryz.prog 171 uB:=by
 have hD:=G6 hW;have hC0:Ad (Fw W) Tryz.prog Dv:=(Lz hW);refine Au (D:=Et) (C:=Dv) (wr:=(fun _=>false)) rfl Ao hD hC0 Tryz.func171 (fun _ _=>none) ?_;clear hC0 hD hW;intro cs p r h hf hp;split at h
 case h_2=>cases h
 rename_i cf cd cv cs ch cx;cases h;try simp only[Az,Bd,Aw,Go.Vc.lo,Go.Vc.hi,and_true] at hf
 have l1:=Bj cf (by omega) (by omega)
 have l2:=Bj cd (by omega) (by omega)
 have hlo:=cK hp;have l3:(Gj cv).length≤31:=by rw[Ho hp];exact Hm cv
 clear hf
 (conv=>whnf)
 (repeat' (first|refine tuU ?_)<;>conv=>whnf)
 all_goals try(show _=_;simp only[wQ])
 unfold Bi;rw[Ho hp]
def Aew:PC:=PC.of (fun l:List Tax=>[slE 2 Tax.enc l]) (fun l=>C0 l=true) (fun l=>.str (sS (Bm l)))
def A5o(l:List Tax):LoopSpec:={
 α:=Nat
 keep:=[0,3,4]
 vals i:=[slE 2 Tax.enc l,.str (sS (Lib.join ((l.take i).map E7) [44])),.int .i64 i]
 heap _:=[]
 ok i:=i≤l.length
 μ i:=l.length - i }
theorem Ajk{l:List Tax}:∀ {k:Int},Co k l=true→∀ x ∈ l,C2 x.amount=true:=by
 induction l with
 |nil=>intro k _ x hx;cases hx
 |cons y l ih=>
  intro k h x hx;simp only[Co,Bool.and_eq_true] at h;rcases List.mem_cons.1 hx with rfl|hx
  ·exact h.1.2
  ·exact ih h.2 x hx
theorem Hp{l:List Tax}(h:C0 l=true):l.length≤4∧∀ i,i<l.length→C2 (l.getD (Int.toNat (i:Int)) default).amount=true:=by
 unfold C0 at h;simp only[Bool.and_eq_true,decide_eq_true_eq] at h;refine⟨h.2,fun i hi=>Ajk h.1 _ ?_⟩;rw[show Int.toNat (i:Int)=i from rfl,List.getD_eq_getElem?_getD,List.getElem?_eq_getElem hi];exact List.getElem_mem hi
def W7:List Tax→Nat→Option LR:=fun l i=>cond (Nat.beq i 5) (some (.inv (A5o l))) (none)
set_option maxHeartbeats 2000000 in
theorem W8{W:World}(hW:Tabs W):GoodP (Fw W) Tryz.prog 85 Aew:=by
 have hD:=G6 hW;have hC0:∀ l:List Tax,Ad (Fw W) Tryz.prog Dv:=fun l=>(Lz hW);refine As (D:=Et) (C:=fun l=>Dv) (wr:=(fun _=>false)) rfl Ao hD hC0 Tryz.func85 (W7) (fun _=>rfl) ?_;intro l hf hp;obtain⟨p1,p2⟩:=Hp hp;have hw:=Q8 hf;have hx:∀ i,i<l.length→ -9223372036854775808≤(l.getD (Int.toNat (i:Int)) default).code∧(l.getD (Int.toNat (i:Int)) default).code≤9223372036854775807:=fun i hi=>by
  simp only[Az,Bd] at hf;exact Aw.1 (hf.1.2 i hi).2.1
 clear hf
 (conv=>whnf)
 (repeat' (first|split<;>rename_i hh<;>try simp only[wS] at hh|with_reducible refine lnI fun hln=>?_)<;>conv=>whnf)
 all_goals try(show _=_;simp only[wQ])
 ·unfold Bm;rw[if_pos (by omega)]
 ·refine⟨?_,fun(i:Nat) (hi:i≤l.length)=>?_⟩
  ·(conv=>whnf)
   refine⟨(0:Nat),[],?_,⟨⟨rfl,(nB rfl),rfl⟩,?_,?_⟩⟩
   ·exact Nat.zero_le _
   ·(conv=>whnf)
    (repeat' (first|with_reducible exact⟨⟩|refine tuA ?_|with_reducible refine iA ?_ ?_)<;>conv=>whnf)
    all_goals try simp only[wQ]
    all_goals (try first|omega|exact⟨fun h=>h,fun _ _=>True.intro⟩)
    simp[Lib.join_nil]
   ·exact tL
  ·have hj:=Lp [44] 200 ((l.take i).map E7) (fun s hs=>hw s (List.mem_of_mem_take (by rwa[List.map_take] at hs)))
   have hj2:(Lib.join ((l.take i).map E7) [44]).length≤1000:=by
    have h4:((l.take i).map E7).length≤4:=(by simp;omega);have:=Nat.mul_le_mul_right (200+[(44:UInt8)].length) h4;simp only[List.length_cons,List.length_nil] at this hj;omega
   have q1:i<l.length→(Lib.itoa (l.getD (Int.toNat (i:Int)) default).code).length≤32:=fun h=>Bj _ (hx i h).1 (hx i h).2;have q2:i<l.length→(Gj (l.getD (Int.toNat (i:Int)) default).amount).length≤31:=fun h=>by rw[Ho (cJ (p2 i h)).1];exact Hm _
   have q3:i<l.length→ -9223372036854775807≤(l.getD (Int.toNat (i:Int)) default).amount:=fun h=>(cJ (p2 i h)).2;have q4:i<l.length→E7 (l.getD (Int.toNat (i:Int)) default)=Lib.itoa (l.getD (Int.toNat (i:Int)) default).code++[61]++Gj (l.getD (Int.toNat (i:Int)) default).amount:=fun h=>by unfold E7;rw[Ho (cJ (p2 i h)).1]
   (conv=>whnf)
   (repeat' (first|refine tuU ?_|split<;>rename_i hh<;>try simp only[wS] at hh|with_reducible refine lnI fun hln=>?_)<;>conv=>whnf)
   all_goals try(show _=_;simp only[wQ])
   ·(conv=>whnf)
    refine⟨(i+1:Nat),[],?_,⟨⟨rfl,(nB rfl),rfl⟩,?_,?_⟩⟩
    ·exact⟨show i+1≤l.length by omega,show l.length - (i+1)<l.length - i by omega⟩
    ·(conv=>whnf)
     (repeat' (first|with_reducible exact⟨⟩|refine tuA ?_|with_reducible refine iA ?_ ?_)<;>conv=>whnf)
     all_goals try simp only[wQ]
     all_goals (try first|omega|exact⟨fun h=>h,fun _ _=>True.intro⟩)
     rw[Wc (by omega),if_neg (by omega),q4 (by omega)];simp
    ·exact tL
   ·(conv=>whnf)
    refine⟨(i+1:Nat),[],?_,⟨⟨rfl,(nB rfl),rfl⟩,?_,?_⟩⟩
    ·exact⟨show i+1≤l.length by omega,show l.length - (i+1)<l.length - i by omega⟩
    ·(conv=>whnf)
     (repeat' (first|with_reducible exact⟨⟩|refine tuA ?_|with_reducible refine iA ?_ ?_)<;>conv=>whnf)
     all_goals try simp only[wQ]
     all_goals (try first|omega|exact⟨fun h=>h,fun _ _=>True.intro⟩)
     obtain rfl:i=0:=by omega
     rw[Wc (by omega),if_pos rfl,q4 (by omega)];simp[Lib.join_nil]
    ·exact tL
   ·unfold Bm;rw[if_neg (by omega),List.take_of_length_le (by omega)]
end
end Go.Vc.Z
namespace Go.Vc.Z
open Go Go.Vc Go.Proofs Go.RowKit Go.Pl Go.Lib
noncomputable section
set_option maxRecDepth 100000
attribute [local irreducible] inK Utf8.decode Utf8.encode Lib.itoa Pl.worth Pl.allDig
attribute [local irreducible] Lib.join
def S1(t:Ticket)(i:Nat):List UInt8:=Lib.join (A0r t++((numsL t).take i).map A8o) [32]
def S2(t:Ticket)(i:Nat):List UInt8:=S1 t 5++(if i=0 then [] else 32::Lib.join ((t.coupons.take i).map At7) [44])
def S3(t:Ticket)(i:Nat):List UInt8:=S2 t t.coupons.length++[32]++Bm t.taxes++[32]++Lib.join ((t.history.take i).map A0q) [44]
end
end Go.Vc.Z
namespace Go.Vc.Z
open Go Go.Vc Go.Proofs Go.RowKit Go.Pl Go.Lib
noncomputable section
set_option maxRecDepth 100000
attribute [local irreducible] inK Utf8.decode Utf8.encode Lib.itoa Pl.worth Pl.allDig
attribute [local irreducible] Lib.join
end
end Go.Vc.Z
namespace Go.Vc.Z
open Go Go.Vc Go.Proofs Go.RowKit Go.Pl Go.Lib
noncomputable section
set_option maxRecDepth 100000
attribute [local irreducible] inK Utf8.decode Utf8.encode Lib.itoa Pl.worth Pl.allDig
end
end Go.Vc.Z
