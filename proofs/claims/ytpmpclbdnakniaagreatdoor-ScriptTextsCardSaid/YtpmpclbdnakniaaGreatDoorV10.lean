/- Plain laws of digits. -/
import Derived.Test.YtpmpclbdnakniaaGreatDoorV9
import Derived.Lib.ItoaNum
import GoSem.Core.Utf8
set_option linter.all false
namespace Go.Pl
open Go Go.Lib
theorem Ab5{α:Type}{P:List α→Prop}(h0:P [])(h1:∀ s c,P s→P (s++[c]))(s:List α):P s:=by
 have:∀ t:List α,P t.reverse:=by
  intro t;induction t with
  |nil=>exact h0
  |cons c t ih=>rw[List.reverse_cons];exact h1 _ _ ih
 have h:=this s.reverse;rwa[List.reverse_reverse] at h
def worth(s:List UInt8):Nat:=s.foldl (fun n c=>10*n+(c.toNat - 48)) 0
def Zn(c:UInt8):Bool:=decide (48≤c.toNat)&&decide (c.toNat≤57)
def allDig(s:List UInt8):Bool:=s.all Zn
theorem Kx{c:UInt8}:Zn c=true↔48≤c.toNat∧c.toNat≤57:=by simp[Zn]
theorem Dp{s:List UInt8}:allDig s=true↔∀ c ∈ s,48≤c.toNat∧c.toNat≤57:=by simp[allDig,Zn]
theorem tQ:worth []=0:=rfl
theorem Ky(s:List UInt8)(c:UInt8):worth (s++[c])=10*worth s+(c.toNat - 48):=by simp[worth]
theorem Aje(s:List UInt8):∀ n,s.foldl (fun n c=>10*n+(c.toNat - 48)) n=n*10 ^ s.length+worth s:=by
 induction s using Ab5 with
 |h0=>intro n;simp[worth]
 |h1 s c ih=>
  intro n;rw[List.foldl_append,ih,Ky];simp only[List.foldl_cons,List.foldl_nil,List.length_append,List.length_singleton,Nat.pow_succ];rw[Nat.mul_add,Nat.mul_comm 10 (n*10 ^ s.length),Nat.mul_assoc];omega
theorem Zo(s t:List UInt8):worth (s++t)=worth s*10 ^ t.length+worth t:=by
 rw[←Aje t (worth s)];simp[worth]
theorem N0(c:UInt8)(t:List UInt8):worth (c::t)=(c.toNat - 48)*10 ^ t.length+worth t:=by
 have:=Zo [c] t;simpa[worth] using this
theorem Lt{s:List UInt8}(h:allDig s=true):worth s<10 ^ s.length:=by
 induction s using Ab5 with
 |h0=>simp[worth]
 |h1 s c ih=>
  simp only[allDig,List.all_append,Bool.and_eq_true] at h;have h1:=ih h.1;have h2:=Kx.1 (by simpa using h.2)
  rw[Ky,List.length_append,List.length_singleton,Nat.pow_succ];omega
theorem Kz(u:Nat):(UInt8.ofNat (48+u % 10)).toNat=48+u % 10:=by
 rw[UInt8.toNat_ofNat'];have:u % 10<10:=Nat.mod_lt _ (by omega)
 omega
theorem I9{u:Nat}(h:u<10):decDigits u=[UInt8.ofNat (48+u % 10)]:=by
 rw[decDigits,dif_pos h,Nat.mod_eq_of_lt h]
theorem V7{u:Nat}(h:10≤u):decDigits u=decDigits (u / 10)++[UInt8.ofNat (48+u % 10)]:=by
 rw[decDigits,dif_neg (by omega)]
theorem Ab6(u:Nat):decDigits u≠[]:=by
 rw[decDigits];split<;>simp
theorem Ea(u:Nat):worth (decDigits u)=u:=by
 induction u using Nat.strongRecOn with
 |_ u ih=>
  by_cases h:u<10
  ·rw[I9 h];have:=Ky [] (UInt8.ofNat (48+u % 10));rw[List.nil_append] at this;rw[this,Kz,tQ];omega
  ·rw[V7 (by omega),Ky,ih (u / 10) (by omega),Kz];omega
theorem eC(s:List UInt8)(u:Nat):allDig (s++[UInt8.ofNat (48+u % 10)])=allDig s:=by
 simp only[allDig,List.all_append,List.all_cons,List.all_nil,Bool.and_true];have:Zn (UInt8.ofNat (48+u % 10))=true:=Kx.2 (by rw[Kz];omega)
 rw[this,Bool.and_true]
theorem Dq(u:Nat):allDig (decDigits u)=true:=by
 induction u using Nat.strongRecOn with
 |_ u ih=>
  by_cases h:u<10
  ·rw[I9 h];exact eC [] u
  ·rw[V7 (by omega),eC];exact ih _ (by omega)
theorem Apv(u:Nat)(h:0<u):∃ c t,decDigits u=c::t∧49≤c.toNat∧c.toNat≤57:=by
 induction u using Nat.strongRecOn with
 |_ u ih=>
  by_cases h1:u<10
  ·rw[I9 h1];exact⟨_,_,rfl,by rw[Kz];omega,by rw[Kz];omega⟩
  ·obtain⟨c,t,h2,h3⟩:=ih (u / 10) (by omega) (by omega)
   rw[V7 (by omega),h2];exact⟨c,_,rfl,h3⟩
theorem tR{s:List UInt8}(h:allDig s=true):s≠[]→(∀ t,s=48::t→t=[])→decDigits (worth s)=s:=by
 induction s using Ab5 with
 |h0=>intro h;exact absurd rfl h
 |h1 s c ih=>
  intro _ hz;simp only[allDig,List.all_append,Bool.and_eq_true] at h;have hc:=Kx.1 (by simpa using h.2)
  have hcc:UInt8.ofNat (48+(c.toNat - 48))=c:=by rw[show 48+(c.toNat - 48)=c.toNat by omega];simp
  rw[Ky];by_cases hs:s=[]
  ·subst hs;rw[tQ,I9 (by omega),show(10*0+(c.toNat - 48)) % 10=c.toNat - 48 by omega,hcc];rfl
  ·have hnz:∀ t,s=48::t→False:=fun t ht=>by
    have:=hz (t++[c]) (by rw[ht];rfl)
    simp at this
   have hd:=ih h.1 hs fun t ht=>(hnz t ht).elim;have hpos:0<worth s:=by
    rcases Nat.eq_zero_or_pos (worth s) with h0|h0
    ·rw[h0] at hd;exact(hnz [] (by rw[←hd,I9 (by omega)];rfl)).elim
    ·exact h0
   rw[V7 (by omega),show(10*worth s+(c.toNat - 48)) / 10=worth s by omega,show(10*worth s+(c.toNat - 48)) % 10=c.toNat - 48 by omega,hd,hcc]
theorem Aee(u k:Nat)(hk:0<k):(decDigits u).length=k+1↔10 ^ k≤u∧u<10 ^ (k+1):=by
 constructor
 ·intro h;have h1:=Lt (Dq u);rw[Ea,h] at h1;refine⟨?_,h1⟩;rcases Nat.lt_or_ge u (10 ^ k) with h2|h2
  ·exfalso;rw[decDigits_length] at h;have h3:∀ (j v:Nat),v<10 ^ (j+1)→nDigits v≤j+1:=by
    intro j;induction j with
    |zero=>intro v hv;rw[nDigits_small (by simpa using hv)];omega
    |succ j ih=>
     intro v hv;by_cases hv1:v<10
     ·rw[nDigits_small hv1];omega
     ·rw[nDigits_big hv1];have:=ih (v / 10) (by rw[Nat.pow_succ] at hv;omega)
      omega
   have:=h3 (k - 1) u (by rw[show k - 1+1=k by omega];exact h2)
   omega
  ·exact h2
 ·rintro⟨h1,h2⟩;rw[decDigits_length,nDigits_unique k u h1 h2]
theorem Ip:∀ (k u:Nat),u<10 ^ (k+1)→nDigits u≤k+1
 |0,u,h=>by rw[nDigits_small (by simpa using h)];omega
 |k+1,u,h=>by
  by_cases h1:u<10
  ·rw[nDigits_small h1];omega
  ·rw[nDigits_big h1];have:=Ip k (u / 10) (by rw[Nat.pow_succ] at h;omega)
   omega
theorem N1(u:Nat)(h:u<18446744073709551616):(decDigits u).length≤20:=by
 rw[decDigits_length];exact Ip 19 u (by omega)
end Go.Pl
namespace Go.Vc.Z
open Go Go.Vc Go.Proofs Go.RowKit Go.Pl Go.Lib
noncomputable section
set_option maxRecDepth 100000
attribute [local irreducible] inK Utf8.decode Utf8.encode Lib.itoa Pl.worth Pl.allDig
@[irreducible] def checkN(n:Int):Int:=if n<1000000000000∨9999999999999<n then 2 else if n / 10 % 7=n % 10 then 0 else 11
theorem Ui{n:Int}(h:checkN n=0):1000000000000≤n∧n≤9999999999999:=by
 unfold checkN at h;split at h
 ·cases h
 ·omega
def V8:PC:=PC.fun fun|[.int .u64 n]=>some (True,.int .i64 (sI (checkN n)))|_=>none
def A8:PT:=Cg []
theorem A9{W:World}(hW:Tabs W):Cb (Fw W) Tryz.prog A8:=Aq
def Am:FuncId→Option Ctr:=Av A8 []
theorem Ba{W:World}(hW:Tabs W):Ad (Fw W) Tryz.prog Am:=(Ar (A9 hW))
theorem N2{W:World}(hW:Tabs W):GoodP (Fw W) Tryz.prog 127 V8:=by
 have hD:=A9 hW;have hC0:Ad (Fw W) Tryz.prog Am:=(Ba hW);refine Au (D:=A8) (C:=Am) (wr:=(fun _=>false)) rfl Ao hD hC0 Tryz.func127 (fun _ _=>none) ?_;clear hC0 hD hW;intro cs p r h hf hp;split at h
 case h_2=>cases h
 rename_i n;cases h;try simp only[Az,Bd,Aw,Go.Vc.lo,Go.Vc.hi,and_true] at hf
 (conv=>whnf)
 (repeat' (first|refine tuU ?_|split<;>rename_i hh<;>try simp only[wS] at hh)<;>conv=>whnf)
 all_goals try(show _=_;simp only[wQ])
 all_goals (unfold checkN;repeat' split)<;>omega
def Jm:PT:=Cg [(127,V8)]
theorem N3{W:World}(hW:Tabs W):Cb (Fw W) Tryz.prog Jm:=(Ab Tryz.call127 (N2 hW) Aq)
def G2:FuncId→Option Ctr:=Av Jm []
theorem Uj{W:World}(hW:Tabs W):Ad (Fw W) Tryz.prog G2:=(Ar (N3 hW))
@[irreducible] def X8(c:Int):Bool:=decide (100≤c)&&decide (c≤999)
@[irreducible] def Mi(c:Int):Bool:=decide (0≤c)&&decide (c≤999999999)
def Nf:PC:=PC.fun fun|[.int .i64 n]=>some (True,.bool (sB (X8 n)))|_=>none
theorem Wu{W:World}(hW:Tabs W):GoodP (Fw W) Tryz.prog 292 Nf:=by
 have hD:=A9 hW;have hC0:Ad (Fw W) Tryz.prog Am:=(Ba hW);refine Au (D:=A8) (C:=Am) (wr:=(fun _=>false)) rfl Ao hD hC0 Tryz.func292 (fun _ _=>none) ?_;clear hC0 hD hW;intro cs p r h hf hp;split at h
 case h_2=>cases h
 rename_i n;cases h;try simp only[Az,Bd,Aw,Go.Vc.lo,Go.Vc.hi,and_true] at hf
 (conv=>whnf)
 (repeat' (first|split<;>rename_i hh<;>try simp only[wS] at hh)<;>conv=>whnf)
 all_goals try(show _=_;simp only[wQ])
 all_goals (try simp (disch:=omega) only[Int.tdiv_eq_ediv_of_nonneg,Int.tmod_eq_emod_of_nonneg]);all_goals (first|(simp_all[De,Bt,Cn,Dm,B7,Ca,X8];done)|(simp_all[De,Bt,Cn,Dm,B7,Ca,X8];omega))
def eD:PC:=PC.fun fun|[.int .i64 n]=>some (True,.bool (sB (Mi n)))|_=>none
theorem X9{W:World}(hW:Tabs W):GoodP (Fw W) Tryz.prog 293 eD:=by
 have hD:=A9 hW;have hC0:Ad (Fw W) Tryz.prog Am:=(Ba hW);refine Au (D:=A8) (C:=Am) (wr:=(fun _=>false)) rfl Ao hD hC0 Tryz.func293 (fun _ _=>none) ?_;clear hC0 hD hW;intro cs p r h hf hp;split at h
 case h_2=>cases h
 rename_i n;cases h;try simp only[Az,Bd,Aw,Go.Vc.lo,Go.Vc.hi,and_true] at hf
 (conv=>whnf)
 (repeat' (first|split<;>rename_i hh<;>try simp only[wS] at hh)<;>conv=>whnf)
 all_goals try(show _=_;simp only[wQ])
 all_goals (try simp (disch:=omega) only[Int.tdiv_eq_ediv_of_nonneg,Int.tmod_eq_emod_of_nonneg]);all_goals (first|(simp_all[De,Bt,Cn,Dm,B7,Ca,Mi];done)|(simp_all[De,Bt,Cn,Dm,B7,Ca,Mi];omega))
@[irreducible] def A6(n:Int):List UInt8:=if checkN n=0 then decDigits n.toNat else []
def Akn:PC:=PC.fun fun|[.int .u64 n]=>some (True,.str (sS (A6 n)))|_=>none
def A5l(n:Int):LoopSpec:={
 α:=Nat
 keep:=[0,3,10,11]
 vals i:=[.int .u64 (n / 10 ^ i),.osl 0 1 0 13 (some 13),.int .i64 13,.int .i64 i]
 heap i:=[.row 1 13 (fun e=>[.int .i32 (if 13≤e+i then 48+n / 10 ^ (12 - e) % 10 else 0)])]
 ok i:=i≤13
 μ i:=13 - i }
theorem tS(i:Nat):(0:Int)<10 ^ i:=Int.pow_pos (by decide)
theorem Apw(n:Int)(i:Nat):n / 10 ^ i / 10=n / 10 ^ (i+1):=by
 rw[Int.pow_succ,Int.ediv_ediv,if_neg (fun h=>by have:=tS i;omega),Int.sub_zero]
theorem Ab7{n:Int}(h0:0≤n)(h1:n<128):(Utf8.encode n).data.toList=[UInt8.ofNat n.toNat]:=by
 obtain⟨k,rfl⟩:∃ k:Nat,n=k:=⟨n.toNat,by omega⟩
 have v:Utf8.valid (k:Int)=true:=by simp[Utf8.valid];omega
 have c1:k<128:=by omega
 simp[Utf8.encode,v,c1]
theorem rN{n:Int}(h:checkN n=0):((List.range 13).flatMap fun e=>(Utf8.encode (48+n / 10 ^ (12 - e) % 10)).data.toList)=A6 n:=by
 obtain⟨h0,h1⟩:=Ui h;obtain⟨u,rfl⟩:∃ u:Nat,n=u:=⟨n.toNat,by omega⟩
 have hd:nDigits u=13:=nDigits_unique 12 u (by omega) (by omega)
 rw[A6,if_pos h,Int.toNat_natCast,decDigits_eq,hd];have e:∀ l:List Nat,(l.flatMap fun e=>(Utf8.encode (48+(u:Int) / 10 ^ (12 - e) % 10)).data.toList)=l.map fun t=>dg u (13 - 1 - t):=by
  intro l;induction l with
  |nil=>rfl
  |cons e l ih=>
   rw[List.flatMap_cons,List.map_cons,ih];have h2:(48+(u:Int) / 10 ^ (12 - e) % 10)=((48+u / 10 ^ (12 - e) % 10:Nat):Int):=(by simp);rw[h2,Ab7 (by omega) (by have:=Nat.mod_lt (u / 10 ^ (12 - e)) (show 10 > 0 by omega);omega)]
   rfl
 exact e _
def rO:List AV→Nat→Option LR:=fun cs i=>match cs with|[.int _ n]=>cond (Nat.beq i 5) (some (.inv (A5l n))) (none)|_=>none
theorem rP{W:World}(hW:Tabs W):GoodP (Fw W) Tryz.prog 54 Akn:=by
 have hD:=N3 hW;have hC0:Ad (Fw W) Tryz.prog G2:=(Uj hW);refine Au (D:=Jm) (C:=G2) (wr:=(fun _=>false)) rfl Ao hD hC0 Tryz.func54 (rO) ?_;clear hC0 hD hW;intro cs p r h hf hp;split at h
 case h_2=>cases h
 rename_i n;cases h;try simp only[Az,Bd,Aw,Go.Vc.lo,Go.Vc.hi,and_true] at hf
 (conv=>whnf)
 (repeat' (first|refine tuU ?_|split<;>rename_i hh<;>try simp only[wS] at hh|with_reducible refine lnI fun hln=>?_)<;>conv=>whnf)
 all_goals try(show _=_;simp only[wQ])
 ·simp[A6,hh]
 ·refine⟨?_,fun(i:Nat) (hi:i≤13)=>?_⟩
  ·(conv=>whnf)
   refine⟨(0:Nat),[],?_,⟨⟨rfl,(nB rfl),rfl⟩,?_,?_⟩⟩
   ·exact Nat.zero_le _
   ·exact tL
   ·(conv=>whnf)
    (repeat' (first|with_reducible exact⟨⟩|refine tuA ?_|with_reducible refine iB ?_ ?_)<;>conv=>whnf)
    all_goals try simp only[wQ]
    intro e he;refine⟨?_,rfl⟩;simp only[AV.cells];rw[if_neg (by omega)]
  ·have h10:0≤n / 10 ^ i:=Int.ediv_nonneg hf.1 (Int.le_of_lt (tS i));have h11:n / 10 ^ i≤18446744073709551615:=Int.le_trans (Int.ediv_le_self _ hf.1) hf.2;have hm:=Int.emod_nonneg (n / 10 ^ i) (show(10:Int)≠0 by decide)
   have hm2:=Int.emod_lt_of_pos (n / 10 ^ i) (show(0:Int)<10 by decide)
   (conv=>whnf)
   (repeat' (first|refine tuU ?_|split<;>rename_i hh<;>try simp only[wS] at hh)<;>conv=>whnf)
   ·(conv=>whnf)
    refine⟨(i+1:Nat),[],?_,⟨⟨rfl,(nB rfl),rfl⟩,?_,?_⟩⟩
    ·exact⟨show i+1≤13 by omega,show 13 - (i+1)<13 - i by omega⟩
    ·(conv=>whnf)
     (repeat' (first|with_reducible exact⟨⟩|((with_reducible refine Or.inr ?_);rfl)|refine tuA ?_|with_reducible refine iA ?_ ?_)<;>conv=>whnf)
     all_goals (try first|omega)
     ·rw[Apw]
    ·(conv=>whnf)
     (repeat' (first|with_reducible exact⟨⟩|refine tuA ?_|with_reducible refine iB ?_ ?_)<;>conv=>whnf)
     all_goals try simp only[wQ]
     intro e he;refine⟨?_,rfl⟩;simp only[Dk,decide_eq_true_eq];by_cases h1:e=12 - i
     ·rw[if_pos (by omega)]
      show [AV.int IntKind.i32 (48+(n / 10 ^ i) % 10)]=[AV.int IntKind.i32 _];rw[if_pos (by omega),h1,show 12 - (12 - i)=i by omega]
     ·rw[if_neg (by omega)]
      by_cases h2:13≤e+i
      ·rw[if_pos h2,if_pos (by omega)]
      ·rw[if_neg h2,if_neg (by omega)]
   ·have h13:i=13:=(by omega);subst h13;have hr:=rN (n:=n) (by assumption)
    have hrr:(iG 13 fun e=>(fun e=>[AV.int IntKind.i32 (if 13≤e+13 then 48+n / 10 ^ (12 - e) % 10 else 0)]) (0+e))=A6 n:=by
     rw[←hr];unfold iG;congr 1
     funext e
     simp[Qw]
    refine⟨⟨fun e _=>rfl,?_⟩,?_⟩
    ·refine Nat.le_trans (Nat.le_of_eq (congrArg List.length hrr)) ?_;unfold A6;rw[if_pos (by assumption)];have:=N1 n.toNat (by omega);omega
    ·(conv=>whnf)
     all_goals try(show _=_;simp only[wQ])
     exact hrr
end
end Go.Vc.Z
namespace Go.Pl
open Go Go.Lib
theorem tT(l:List UInt8)(i:Nat)(h:i<l.length):(ByteArray.get! ⟨l.toArray⟩ i)=l.getD i 0:=by
 show(l.toArray)[i]! =_;simp[h,List.getD_eq_getElem?_getD]
theorem Ang{l:List UInt8}{p:Nat}(h:p<l.length)(hb:(l.getD p 0).toNat<128):Utf8.decode ⟨l.toArray⟩ p=((l.getD p 0).toNat,1):=by
 unfold Utf8.decode;simp only[Nat.add_zero,tT l p h];rw[if_pos hb]
theorem Anh{l:List UInt8}{p:Nat}(h:p<l.length)(hb: ¬(l.getD p 0).toNat<128):128≤(Utf8.decode ⟨l.toArray⟩ p).1:=by
 unfold Utf8.decode;simp only[Nat.add_zero,tT l p h];rw[if_neg hb];have hr:Utf8.runeError=65533:=rfl;split
 ·split<;>(simp only[] at*;omega)
 ·split
  ·split
   ·rename_i hc;simp only[Bool.and_eq_true,decide_eq_true_eq] at hc;simp only[];omega
   ·simp only[];omega
  ·split
   ·split
    ·rename_i hc;simp only[Bool.and_eq_true,decide_eq_true_eq] at hc;simp only[];omega
    ·simp only[];omega
   ·simp only[];omega
theorem Ab8{l:List UInt8}{p:Nat}(h:p<l.length):(Utf8.decode ⟨l.toArray⟩ p=((l.getD p 0).toNat,1)∧(l.getD p 0).toNat<128)∨(128≤(Utf8.decode ⟨l.toArray⟩ p).1∧128≤(l.getD p 0).toNat):=by
 by_cases hb:(l.getD p 0).toNat<128
 ·exact .inl ⟨Ang h hb,hb⟩
 ·exact .inr ⟨Anh h hb,by omega⟩
theorem Uk{l:List UInt8}{i:Nat}(h:i<l.length):l.take (i+1)=l.take i++[l.getD i 0]:=by
 rw[List.take_add_one,List.getD_eq_getElem?_getD,List.getElem?_eq_getElem h];rfl
theorem Ie{p:UInt8→Bool}{l:List UInt8}{i:Nat}(h:i<l.length):(l.take (i+1)).all p=((l.take i).all p&&p (l.getD i 0)):=by
 rw[Uk h,List.all_append];simp
theorem N4{p:UInt8→Bool}{l:List UInt8}{i:Nat}(h:i<l.length)(hp:p (l.getD i 0)=false):l.all p=false:=by
 rw[List.all_eq_false];refine⟨l.getD i 0,?_,by rw[hp];decide⟩
 rw[List.getD_eq_getElem?_getD,List.getElem?_eq_getElem h];exact List.getElem_mem h
theorem Dl{l:List UInt8}{i:Nat}(h:i<l.length):worth (l.take (i+1))=10*worth (l.take i)+((l.getD i 0).toNat - 48):=by
 rw[Uk h,Ky]
theorem Sg{l:List UInt8}{i:Nat}(h:i<l.length)(hd:allDig l=true):48≤(l.getD i 0).toNat∧(l.getD i 0).toNat≤57:=by
 refine Dp.1 hd _ ?_;rw[List.getD_eq_getElem?_getD,List.getElem?_eq_getElem h];exact List.getElem_mem h
theorem eE{l:List UInt8}(h:allDig l=true)(i:Nat):allDig (l.take i)=true:=
 Dp.2 fun c hc=>Dp.1 h c (List.mem_of_mem_take hc)
theorem Aef{l:List UInt8}(h:allDig l=true)(i:Nat):allDig (l.drop i)=true:=
 Dp.2 fun c hc=>Dp.1 h c (List.mem_of_mem_drop hc)
theorem rQ{l:List UInt8}(h:allDig l=true)(i:Nat):worth (l.take i)<10 ^ i:=by
 refine Nat.lt_of_lt_of_le (Lt (eE h i)) (Nat.pow_le_pow_right (by omega) ?_)
 rw[List.length_take];omega
theorem Xl{l:List UInt8}(h:allDig l=true){i n:Nat}(hi:i≤n):worth (l.take i)<10 ^ n:=
 Nat.lt_of_lt_of_le (rQ h i) (Nat.pow_le_pow_right (by omega) hi)
theorem kE{l:List UInt8}{i n:Nat}(h:allDig (l.take i)=true)(hi:i≤n):worth (l.take i)<10 ^ n:=by
 refine Nat.lt_of_lt_of_le (Lt h) (Nat.pow_le_pow_right (by omega) ?_)
 rw[List.length_take];omega
theorem Eb{l:List UInt8}{i:Nat}(h:i<l.length)(hd:allDig (l.take i)=true)(h1:48≤(l.getD i 0).toNat)(h2:(l.getD i 0).toNat≤57):allDig (l.take (i+1))=true:=by
 unfold allDig at hd ⊢;rw[Ie h,hd,Bool.true_and,Kx];exact⟨h1,h2⟩
theorem Ya{l:List UInt8}{i:Nat}(h:i<l.length)(h1: ¬(48≤(l.getD i 0).toNat∧(l.getD i 0).toNat≤57)):allDig l=false:=
 N4 h (by cases hb:Zn (l.getD i 0) with|false=>rfl|true=>exact absurd (Kx.1 hb) h1)
end Go.Pl
namespace Go.Vc.Z
open Go Go.Vc Go.Proofs Go.Pl
theorem Dy{l:List UInt8}{p:Nat}(h:p<l.length):(Bg l p=((l.getD p 0).toNat:Int)∧Ai l p=1∧(l.getD p 0).toNat<128)∨(128≤Bg l p∧128≤(l.getD p 0).toNat):=by
 rcases Ab8 h with ⟨h1,h2⟩|⟨h1,h2⟩
 ·exact .inl ⟨by rw[bP,h1],by rw[Ado,h1],h2⟩
 ·exact .inr ⟨by rw[bP];omega,h2⟩
theorem kF(c d:UInt8):eqI (c.toNat:Int) (d.toNat:Int)=(c == d):=by
 rw[Ca,Bool.eq_iff_iff,beq_iff_eq,beq_iff_eq];constructor
 ·intro h;exact UInt8.toNat_inj.1 (Int.ofNat.inj h)
 ·rintro rfl;rfl
end Go.Vc.Z
namespace Go.Vc.Z
open Go Go.Vc Go.Proofs Go.RowKit Go.Pl Go.Lib
noncomputable section
set_option maxRecDepth 100000
attribute [local irreducible] inK Utf8.decode Utf8.encode Lib.itoa Pl.worth Pl.allDig
@[irreducible] def numOf(s:List UInt8):Int × Int:=
 if s.length=13∧allDig s=true then(if checkN (worth s)=0 then((worth s:Int),0) else(0,checkN (worth s))) else(0,4)
def Aza:PC:=PC.fun fun|[.str s]=>some (True,.tup [.int .u64 (sI (numOf s).1),.int .i64 (sI (numOf s).2)])|_=>none
def A8j(s:List UInt8):LoopSpec:={
 α:=Nat
 keep:=[4,5,10]
 vals i:=[.int .u64 (worth (s.take i)),.int .i64 i,.iter 0]
 heap i:=[.iter s i]
 ok i:=i≤13∧i≤s.length∧allDig (s.take i)=true
 μ i:=s.length - i }
def Aeg:List AV→Nat→Option LR:=fun cs i=>match cs with|[.str s]=>cond (Nat.beq i 3) (some (.inv (A8j s))) (none)|_=>none
theorem Aeh{W:World}(hW:Tabs W):GoodP (Fw W) Tryz.prog 153 Aza:=by
 have hD:=N3 hW;have hC0:Ad (Fw W) Tryz.prog G2:=(Uj hW);refine Au (D:=Jm) (C:=G2) (wr:=(fun _=>false)) rfl Ao hD hC0 Tryz.func153 (Aeg) ?_;clear hC0 hD hW;intro cs p r h hf hp;split at h
 case h_2=>cases h
 rename_i s;cases h;try simp only[Az,Bd,Aw,Go.Vc.lo,Go.Vc.hi,and_true] at hf
 (conv=>whnf)
 refine⟨?_,fun(i:Nat) (hi:i≤13∧i≤s.length∧allDig (s.take i)=true)=>?_⟩
 ·(conv=>whnf)
  refine⟨(0:Nat),[],?_,⟨⟨rfl,(nB rfl),rfl⟩,?_,?_⟩⟩
  ·exact⟨Nat.zero_le _,Nat.zero_le _,by simp[allDig]⟩
  ·(conv=>whnf)
   (repeat' (first|with_reducible exact⟨⟩|refine tuA ?_|with_reducible refine iA ?_ ?_)<;>conv=>whnf)
   all_goals (try first|omega)
   simp[worth]
  ·exact tL
 ·obtain⟨h1,h2,h3⟩:=hi;have hw:=kE h3 h1;have hbad:i<s.length→13≤i∨¬(48≤Bg s i∧Bg s i≤57)→numOf s=(0,4):=fun h hc=>by
   unfold numOf;rw[if_neg];rintro⟨h4,h5⟩;have:=Sg h h5;rcases Dy h with h6|h6<;>omega
  have hlen:s.length≤i→¬(i:Int)=13→numOf s=(0,4):=fun h hc=>by
   unfold numOf;rw[if_neg];rintro⟨h4,h5⟩;omega
  have hok:s.length≤i→(i:Int)=13→numOf s=if checkN (worth (s.take i))=0 then((worth (s.take i):Int),0) else(0,checkN (worth (s.take i))):=fun h hc=>by
   rw[List.take_of_length_le h] at h3 ⊢;unfold numOf;rw[if_pos ⟨by omega,h3⟩]
  (conv=>whnf)
  (repeat' (first|with_reducible exact⟨⟩|refine tuU ?_|split<;>rename_i hh<;>try simp only[wS] at hh|with_reducible refine iA ?_ ?_)<;>conv=>whnf)
  all_goals try(show _=_;simp only[wQ])
  all_goals try (rw[hbad (by omega) (by omega)];done)
  ·obtain⟨h6,h7,h8⟩:Bg s i=((s.getD i 0).toNat:Int)∧Ai s i=1∧(s.getD i 0).toNat<128:=by
    rcases Dy (l:=s) (p:=i) (by omega) with h6|h6<;>omega
   (conv=>whnf)
   refine⟨(i+1:Nat),[],?_,⟨⟨rfl,(nB rfl),rfl⟩,?_,?_⟩⟩
   ·exact⟨⟨show i+1≤13 by omega,show i+1≤s.length by omega,Eb (by omega) h3 (by omega) (by omega)⟩,show s.length - (i+1)<s.length - i by omega⟩
   ·(conv=>whnf)
    (repeat' (first|with_reducible exact⟨⟩|refine tuA ?_|with_reducible refine iA ?_ ?_)<;>conv=>whnf)
    all_goals (try first|omega)
    rw[Dl (by omega)];omega
   ·exact tL
  all_goals first|(rw[hlen (by omega) (by assumption)];done)|(rw[hok (by omega) (by assumption),if_pos (by assumption)];done)|(rw[hok (by omega) (by assumption),if_neg (by assumption)];done)
def Ul:PC:=PC.fun fun|[.int .u64 n]=>some (True,.str (sS (decDigits n.toNat)))|_=>none
def Ako(n0:Int):LoopSpec:={
 α:=Nat × List UInt8
 keep:=[0,3]
 vals x:=[.int .u64 x.1,.str x.2]
 heap _:=[]
 ok x:=x.1≤n0.toNat∧(if x.1=0∧x.2≠[] then x.2 else decDigits x.1++x.2)=decDigits n0.toNat
 μ x:=2*x.1+if x.2=[] then 1 else 0 }
theorem Ja{n:Nat}{s:List UInt8}(h:0<n∨s=[]):(if n / 10=0∧UInt8.ofNat (48+n % 10)::s≠[] then UInt8.ofNat (48+n % 10)::s else decDigits (n / 10)++(UInt8.ofNat (48+n % 10)::s))=if n=0∧s≠[] then s else decDigits n++s:=by
 by_cases hn:n<10
 ·rw[if_pos ⟨by omega,by simp⟩,if_neg,I9 hn]
  ·rfl
  ·rintro⟨h1,h2⟩;rcases h with h|h
   ·omega
   ·exact h2 h
 ·rw[if_neg (fun h=>by omega),if_neg (fun h=>by omega),V7 (u:=n) (by omega),List.append_assoc];rfl
def Um:List AV→Nat→Option LR:=fun cs i=>match cs with|[.int .u64 n]=>cond (Nat.beq i 2) (some (.inv (Ako n))) (none)|_=>none
theorem Lu{W:World}(hW:Tabs W):GoodP (Fw W) Tryz.prog 81 Ul:=by
 have hD:=A9 hW;have hC0:Ad (Fw W) Tryz.prog Am:=(Ba hW);refine Au (D:=A8) (C:=Am) (wr:=(fun _=>false)) rfl Ao hD hC0 Tryz.func81 (Um) ?_;clear hC0 hD hW;intro cs p r h hf hp;split at h
 case h_2=>cases h
 rename_i n;cases h;try simp only[Az,Bd,Aw,Go.Vc.lo,Go.Vc.hi,and_true] at hf
 (conv=>whnf)
 refine⟨?_,fun(x:Nat × List UInt8) (hx:x.1≤n.toNat∧(if x.1=0∧x.2≠[] then x.2 else decDigits x.1++x.2)=decDigits n.toNat)=>?_⟩
 ·(conv=>whnf)
  refine⟨((n.toNat,[]):Nat × List UInt8),[],?_,⟨⟨rfl,(nB rfl),rfl⟩,?_,?_⟩⟩
  ·exact⟨Nat.le_refl _,by simp⟩
  ·exact tL
  ·exact tL
 ·obtain⟨h1,h2⟩:=hx;have hl:x.2.length≤30:=by
   have:=congrArg List.length h2;have h20:(decDigits n.toNat).length≤30:=(by rw[decDigits_length];exact Nat.le_trans (Ip 29 _ (by omega)) (by omega));split at this<;>(try simp at this)<;>omega
  (conv=>whnf)
  (repeat' (first|refine tuU ?_|split<;>rename_i hh<;>try simp only[wS] at hh)<;>conv=>whnf)
  all_goals try(show _=_;simp only[wQ])
  ·(conv=>whnf)
   refine⟨((x.1 / 10,UInt8.ofNat (48+x.1 % 10)::x.2):Nat × List UInt8),[],?_,⟨⟨rfl,(nB rfl),rfl⟩,?_,?_⟩⟩
   ·refine⟨⟨show x.1 / 10≤n.toNat by omega,(Ja (n:=x.1) (s:=x.2) (.inl (by omega))).trans h2⟩,?_⟩
    show 2*(x.1 / 10)+(if UInt8.ofNat (48+x.1 % 10)::x.2=[] then 1 else 0)<2*x.1+(if x.2=[] then 1 else 0)
    rw[if_neg (by simp)];omega
   ·exact Ac _
   ·exact tL
  ·(conv=>whnf)
   refine⟨((x.1 / 10,UInt8.ofNat (48+x.1 % 10)::x.2):Nat × List UInt8),[],?_,⟨⟨rfl,(nB rfl),rfl⟩,?_,?_⟩⟩
   ·refine⟨⟨show x.1 / 10≤n.toNat by omega,(Ja (n:=x.1) (s:=x.2) (.inr (by assumption))).trans h2⟩,?_⟩
    show 2*(x.1 / 10)+(if UInt8.ofNat (48+x.1 % 10)::x.2=[] then 1 else 0)<2*x.1+(if x.2=[] then 1 else 0)
    rw[if_neg (by simp),if_pos (by assumption)];omega
   ·exact Ac _
   ·exact tL
  ·have h0:x.1=0:=(by omega);rw[←h2,if_pos ⟨h0,by assumption⟩]
end
end Go.Vc.Z
namespace Go.Vc.Z
open Go Go.Vc Go.Proofs Go.RowKit Go.Pl Go.Lib
noncomputable section
set_option maxRecDepth 100000
attribute [local irreducible] inK Utf8.decode Utf8.encode Lib.itoa Pl.worth Pl.allDig
def Akp:PC:=PC.fun fun|[.str s]=>some (allDig s=true∧s.length≤19,.int .u64 (sI (worth s)))|_=>none
def A0g(s:List UInt8):LoopSpec:={
 α:=Nat
 keep:=[0,3,4]
 vals i:=[.str s,.int .u64 (sI (worth (s.take i))),.int .i64 i]
 heap _:=[]
 ok i:=i≤s.length
 μ i:=s.length - i }
def Wv:List AV→Nat→Option LR:=fun cs i=>match cs with|[.str s]=>cond (Nat.beq i 3) (some (.inv (A0g s))) (none)|_=>none
theorem Ww{W:World}(hW:Tabs W):GoodP (Fw W) Tryz.prog 174 Akp:=by
 have hD:=A9 hW;have hC0:Ad (Fw W) Tryz.prog Am:=(Ba hW);refine Au (D:=A8) (C:=Am) (wr:=(fun _=>false)) rfl Ao hD hC0 Tryz.func174 (Wv) ?_;clear hC0 hD hW;intro cs p r h hf hp;split at h
 case h_2=>cases h
 rename_i s;cases h;try simp only[Az,Bd,Aw,Go.Vc.lo,Go.Vc.hi,and_true] at hf
 obtain⟨hd,hl⟩:=hp
 (conv=>whnf)
 refine⟨?_,fun(i:Nat) (hi:i≤s.length)=>?_⟩
 ·(conv=>whnf)
  refine⟨(0:Nat),[],?_,⟨⟨rfl,(nB rfl),rfl⟩,?_,?_⟩⟩
  ·exact Nat.zero_le _
  ·(conv=>whnf)
   (repeat' (first|with_reducible exact⟨⟩|refine tuA ?_|with_reducible refine iA ?_ ?_)<;>conv=>whnf)
   all_goals try simp only[wQ]
   all_goals (try first|omega)
   simp[worth]
  ·exact tL
 ·have hw:=Xl hd hi;have hw2:10 ^ s.length≤10 ^ 19:=Nat.pow_le_pow_right (by omega) hl
  have hdig:i<s.length→48≤(s.getD (Int.toNat (i:Int)) 0).toNat∧(s.getD (Int.toNat (i:Int)) 0).toNat≤57:=fun h=>Sg h hd;have hw3:i<s.length→worth (s.take (i+1))=10*worth (s.take i)+((s.getD (Int.toNat (i:Int)) 0).toNat - 48):=fun h=>Dl h;have hw5:i<s.length→worth (s.take (i+1))<10 ^ s.length:=fun h=>Xl hd (by omega)
  have hsi:=De (worth (s.take i))
  (conv=>whnf)
  (repeat' (first|refine tuU ?_|split<;>rename_i hh<;>try simp only[wS] at hh|with_reducible refine lnI fun hln=>?_)<;>conv=>whnf)
  all_goals try(show _=_;simp only[wQ])
  ·(conv=>whnf)
   refine⟨(i+1:Nat),[],?_,⟨⟨rfl,(nB rfl),rfl⟩,?_,?_⟩⟩
   ·exact⟨show i+1≤s.length by omega,show s.length - (i+1)<s.length - i by omega⟩
   ·exact tL
   ·exact tL
  ·rw[List.take_of_length_le (by omega)]
def Akq:PC:=PC.fun fun|[.str s]=>some (allDig s=true,.int .u8 (sI ((48+worth s % 7:Nat):Int)))|_=>none
def A0h(s:List UInt8):LoopSpec:={
 α:=Nat
 keep:=[0,3,4]
 vals i:=[.str s,.int .i64 (sI ((worth (s.take i) % 7:Nat):Int)),.int .i64 i]
 heap _:=[]
 ok i:=i≤s.length
 μ i:=s.length - i }
def Wx:List AV→Nat→Option LR:=fun cs i=>match cs with|[.str s]=>cond (Nat.beq i 3) (some (.inv (A0h s))) (none)|_=>none
theorem Wy{W:World}(hW:Tabs W):GoodP (Fw W) Tryz.prog 173 Akq:=by
 have hD:=A9 hW;have hC0:Ad (Fw W) Tryz.prog Am:=(Ba hW);refine Au (D:=A8) (C:=Am) (wr:=(fun _=>false)) rfl Ao hD hC0 Tryz.func173 (Wx) ?_;clear hC0 hD hW;intro cs p r h hf hp;split at h
 case h_2=>cases h
 rename_i s;cases h;try simp only[Az,Bd,Aw,Go.Vc.lo,Go.Vc.hi,and_true] at hf
 (conv=>whnf)
 refine⟨?_,fun(i:Nat) (hi:i≤s.length)=>?_⟩
 ·(conv=>whnf)
  refine⟨(0:Nat),[],?_,⟨⟨rfl,(nB rfl),rfl⟩,?_,?_⟩⟩
  ·exact Nat.zero_le _
  ·(conv=>whnf)
   (repeat' (first|with_reducible exact⟨⟩|refine tuA ?_|with_reducible refine iA ?_ ?_)<;>conv=>whnf)
   all_goals try simp only[wQ]
   all_goals (try first|omega)
   simp[worth]
  ·exact tL
 ·have hdig:i<s.length→48≤(s.getD (Int.toNat (i:Int)) 0).toNat∧(s.getD (Int.toNat (i:Int)) 0).toNat≤57:=fun h=>Sg h hp;have hw3:i<s.length→worth (s.take (i+1))=10*worth (s.take i)+((s.getD (Int.toNat (i:Int)) 0).toNat - 48):=fun h=>Dl h;have hsi:=De ((worth (s.take i) % 7:Nat):Int)
  (conv=>whnf)
  (repeat' (first|refine tuU ?_|split<;>rename_i hh<;>try simp only[wS] at hh|with_reducible refine lnI fun hln=>?_)<;>conv=>whnf)
  all_goals try(show _=_;simp only[wQ])
  ·(conv=>whnf)
   refine⟨(i+1:Nat),[],?_,⟨⟨rfl,(nB rfl),rfl⟩,?_,?_⟩⟩
   ·exact⟨show i+1≤s.length by omega,show s.length - (i+1)<s.length - i by omega⟩
   ·(conv=>whnf)
    (repeat' (first|with_reducible exact⟨⟩|refine tuA ?_|with_reducible refine iA ?_ ?_)<;>conv=>whnf)
    all_goals try simp only[wQ]
    all_goals (try first|omega)
    rw[hw3 (by omega)]
    rw[Int.tmod_eq_emod_of_nonneg (by omega)]
    omega
   ·exact tL
  ·rw[List.take_of_length_le (by omega)];omega
theorem rR{s:List UInt8}(h:s.length=13):worth s=10*worth (s.take 12)+((s.getD 12 0).toNat - 48):=by
 rw[←Dl (by omega),List.take_of_length_le (by omega)]
theorem kG{n:Int}(h0:1000000000000≤n)(h1:n≤9999999999999):checkN n=if n / 10 % 7=n % 10 then 0 else 11:=by
 unfold checkN;rw[if_neg (by omega)]
theorem Ani{n:Int}(h0:n<1000000000000):checkN n=2:=by
 unfold checkN;rw[if_pos (.inl h0)]
theorem kH{s:List UInt8}(h:s.length=13)(hd:allDig s=true):worth s=((s.getD 0 0).toNat - 48)*1000000000000+worth (s.drop 1)∧worth (s.drop 1)<1000000000000:=by
 match s,h with
 |c::t,h=>
  have ht:t.length=12:=by simpa using h
  have h1:=Lt (Aef hd 1);have h2:=N0 c t;simp only[List.drop_succ_cons,List.drop_zero,ht] at h1 ⊢;rw[ht] at h2;exact⟨h2,h1⟩
def A8k(s:List UInt8):LoopSpec:={
 α:=Nat
 keep:=[0,4]
 vals i:=[.str s,.int .i64 i]
 heap _:=[]
 ok i:=i≤13∧allDig (s.take i)=true
 μ i:=13 - i }
def Apx:PC:=PC.fun fun|[.str s]=>some (True,.tup [.int .u64 (sI (numOf s).1),.int .i64 (sI (numOf s).2)])|_=>none
def K0:PT:=Cg [(173,Akq),(174,Akp)]
theorem Q1{W:World}(hW:Tabs W):Cb (Fw W) Tryz.prog K0:=(Ab Tryz.call173 (Wy hW) (Ab Tryz.call174 (Ww hW) Aq))
def K1:FuncId→Option Ctr:=Av K0 []
theorem cB{W:World}(hW:Tabs W):Ad (Fw W) Tryz.prog K1:=(Ar (Q1 hW))
def cC:List AV→Nat→Option LR:=fun cs i=>match cs with|[.str s]=>cond (Nat.beq i 4) (some (.inv (A8k s))) (none)|_=>none
theorem Q2{W:World}(hW:Tabs W):GoodP (Fw W) Tryz.prog 88 Apx:=by
 have hD:=Q1 hW;have hC0:Ad (Fw W) Tryz.prog K1:=(cB hW);refine Au (D:=K0) (C:=K1) (wr:=(fun _=>false)) rfl Ao hD hC0 Tryz.func88 (cC) ?_;clear hC0 hD hW;intro cs p r h hf hp;split at h
 case h_2=>cases h
 rename_i s;cases h;try simp only[Az,Bd,Aw,Go.Vc.lo,Go.Vc.hi,and_true] at hf
 (conv=>whnf)
 (repeat' (first|with_reducible exact⟨⟩|refine tuU ?_|split<;>rename_i hh<;>try simp only[wS] at hh|with_reducible refine lnI fun hln=>?_|with_reducible refine iA ?_ ?_)<;>conv=>whnf)
 all_goals try(show _=_;simp only[wQ])
 ·have hx:numOf s=(0,4):=by
   unfold numOf;rw[if_neg];rintro⟨h1,_⟩;omega
  rw[hx]
 ·have hx:numOf s=(0,4):=by
   unfold numOf;rw[if_neg];rintro⟨h1,_⟩;omega
  rw[hx]
 ·have hl:s.length=13:=by omega
  refine⟨?_,fun(i:Nat) (hi:i≤13∧allDig (s.take i)=true)=>?_⟩
  ·(conv=>whnf)
   refine⟨(0:Nat),[],?_,⟨⟨rfl,(nB rfl),rfl⟩,?_,?_⟩⟩
   ·exact⟨Nat.zero_le _,by simp[allDig]⟩
   ·exact Ac _
   ·exact tL
  ·obtain⟨h1,h2⟩:=hi;have ei:(s.getD (Int.toNat (i:Int)) 0).toNat=(s.getD i 0).toNat:=rfl;have hbad:i<13→¬(48≤(s.getD (Int.toNat (i:Int)) 0).toNat∧(s.getD (Int.toNat (i:Int)) 0).toNat≤57)→numOf s=(0,4):=fun h hc=>by
    unfold numOf;rw[if_neg];rintro⟨_,h3⟩;exact hc (Sg (by omega) h3)
   have hdg:13≤i→allDig s=true:=fun h=>by rwa[List.take_of_length_le (by omega)] at h2
   have hdd:13≤i→allDig ((s.drop 0).take (Int.toNat 12 - 0))=true:=fun h=>eE (hdg h) 12;have hh0:13≤i→((s.getD (Int.toNat 0) 0).toNat:Int)=48→numOf s=(0,2):=fun h h3=>by
    obtain⟨h4,h5⟩:=kH hl (hdg h);have h3:(s.getD 0 0).toNat=48:=Int.ofNat.inj h3;have h6:checkN (worth s)=2:=Ani (by rw[h3] at h4;omega)
    unfold numOf;rw[if_pos ⟨hl,hdg h⟩,h6];rfl
   have hfin:13≤i→¬((s.getD (Int.toNat 0) 0).toNat:Int)=48→numOf s=if (48+(worth ((s.drop 0).take (Int.toNat 12 - 0)):Int) % 7)=((s.getD (Int.toNat 12) 0).toNat:Int) then((worth s:Int),0) else(0,11):=fun h h3=>by
    obtain⟨h4,h5⟩:=kH hl (hdg h);have h3: ¬(s.getD 0 0).toNat=48:=fun h=>h3 (congrArg Int.ofNat h);have h7:=Sg (l:=s) (i:=0) (by omega) (hdg h)
    have h8:=rR hl;have h9:=Sg (l:=s) (i:=12) (by omega) (hdg h)
    have h10:=Lt (hdg h);rw[hl] at h10;have e:(s.drop 0).take (Int.toNat 12 - 0)=s.take 12:=rfl;have e2:s.getD (Int.toNat 12) 0=s.getD 12 0:=rfl;rw[e,e2];have a1:(worth s:Int) / 10=worth (s.take 12):=(by omega);have a2:(worth s:Int) % 10=(s.getD 12 0).toNat - 48:=(by omega);unfold numOf;rw[if_pos ⟨hl,hdg h⟩,kG (by omega) (by omega),a1,a2]
    by_cases hc:(48+(worth (s.take 12):Int) % 7)=((s.getD 12 0).toNat:Int)
    ·rw[if_pos (by omega),if_pos hc]
    ·rw[if_neg (by omega),if_neg hc,if_neg (by omega)]
   (conv=>whnf)
   (repeat' (first|with_reducible exact⟨⟩|refine tuU ?_|split<;>rename_i hh<;>try simp only[wS] at hh|with_reducible refine iA ?_ ?_)<;>conv=>whnf)
   all_goals try(show _=_;simp only[wQ])
   all_goals try (rw[hbad (by omega) (by omega)];done)
   all_goals try (rw[hh0 (by omega) (by assumption)];done)
   ·(conv=>whnf)
    refine⟨(i+1:Nat),[],?_,⟨⟨rfl,(nB rfl),rfl⟩,?_,?_⟩⟩
    ·exact⟨⟨show i+1≤13 by omega,Eb (by omega) h2 (by omega) (by omega)⟩,show 13 - (i+1)<13 - i by omega⟩
    ·exact Ac _
    ·exact tL
   refine⟨hdd (by omega),?_⟩
   have hda:=hdg (by omega)
   (conv=>whnf)
   (repeat' (first|with_reducible exact⟨⟩|refine tuU ?_|split<;>rename_i hh<;>try simp only[wS] at hh|with_reducible refine iA ?_ ?_)<;>conv=>whnf)
   all_goals try(show _=_;simp only[wQ])
   all_goals have hfi:=hfin (by omega) (by assumption)
   all_goals first|(rw[hfi,if_neg (by omega)];done)|(rw[hfi,if_pos (by omega)];done)|trace_state
end
end Go.Vc.Z
namespace Go.Vc.Z
open Go Go.Vc Go.Proofs Go.RowKit Go.Pl Go.Lib
noncomputable section
set_option maxRecDepth 100000
attribute [local irreducible] inK Utf8.decode Utf8.encode Lib.itoa Pl.worth Pl.allDig
theorem Anj{n:Int}(h0:0≤n)(h1:n≤18446744073709551615):numOf (decDigits n.toNat)=if 1000000000000≤n∧n≤9999999999999 then(if checkN n=0 then(n,0) else(0,checkN n)) else(0,4):=by
 unfold numOf;have hw:=Ea n.toNat;have hl:=Aee n.toNat 12 (by omega)
 by_cases h:1000000000000≤n∧n≤9999999999999
 ·rw[if_pos ⟨hl.2 (by omega),Dq _⟩,if_pos h,hw,show((n.toNat:Nat):Int)=n by omega]
 ·rw[if_neg (fun hh=>h (by have:=hl.1 hh.1;omega)),if_neg h]
def Hy:PT:=Cg [(81,Ul),(88,Apx)]
theorem My{W:World}(hW:Tabs W):Cb (Fw W) Tryz.prog Hy:=(Ab Tryz.call81 (Lu hW) (Ab Tryz.call88 (Q2 hW) Aq))
def Hz:FuncId→Option Ctr:=Av Hy []
theorem Wz{W:World}(hW:Tabs W):Ad (Fw W) Tryz.prog Hz:=(Ar (My hW))
theorem W1{W:World}(hW:Tabs W):GoodP (Fw W) Tryz.prog 135 V8:=by
 have hD:=My hW;have hC0:Ad (Fw W) Tryz.prog Hz:=(Wz hW);refine Au (D:=Hy) (C:=Hz) (wr:=(fun _=>false)) rfl Ao hD hC0 Tryz.func135 (fun _ _=>none) ?_;clear hC0 hD hW;intro cs p r h hf hp;split at h
 case h_2=>cases h
 rename_i n;cases h;try simp only[Az,Bd,Aw,Go.Vc.lo,Go.Vc.hi,and_true] at hf
 have hx:=Anj hf.1 hf.2;have h2: ¬(1000000000000≤n∧n≤9999999999999)→checkN n=2:=fun h=>by unfold checkN;rw[if_pos (by omega)]
 have h3:(1000000000000≤n∧n≤9999999999999)→checkN n≠4:=fun h=>by rw[kG h.1 h.2];split<;>omega
 have h4:(numOf (decDigits n.toNat)).2=4→checkN n=2:=fun h=>by
  rw[hx] at h;by_cases hc:1000000000000≤n∧n≤9999999999999
  ·rw[if_pos hc] at h;split at h
   ·cases h
   ·exact absurd h (h3 hc)
  ·exact h2 hc
 have h5: ¬(numOf (decDigits n.toNat)).2=4→(numOf (decDigits n.toNat)).2=checkN n:=fun h=>by
  rw[hx] at h ⊢;by_cases hc:1000000000000≤n∧n≤9999999999999
  ·rw[if_pos hc];split
   ·rename_i h6;exact h6.symm
   ·rfl
  ·rw[if_neg hc] at h;exact absurd rfl h
 (conv=>whnf)
 (repeat' (first|refine tuU ?_|split<;>rename_i hh<;>try simp only[wS] at hh)<;>conv=>whnf)
 all_goals try(show _=_;simp only[wQ])
 ·exact h5 (by assumption)
 ·rw[h4 (by assumption)]
def Q3(c:UInt8):Bool:=(decide (65≤c.toNat)&&decide (c.toNat≤90)) || (decide (50≤c.toNat)&&decide (c.toNat≤57))
@[irreducible] def Gb(s:List UInt8):Bool:=s.all Q3&&decide (s.length=6)
def Q4:PC:=PC.fun fun|[.str s]=>some (True,.bool (sB (Gb s)))|_=>none
def A8l(s:List UInt8):LoopSpec:={
 α:=Nat
 keep:=[0,6]
 vals i:=[.str s,.iter 0]
 heap i:=[.iter s i]
 ok i:=i≤s.length∧(s.take i).all Q3=true
 μ i:=s.length - i }
def cD:List AV→Nat→Option LR:=fun cs i=>match cs with|[.str s]=>cond (Nat.beq i 2) (some (.inv (A8l s))) (none)|_=>none
theorem Q5{W:World}(hW:Tabs W):GoodP (Fw W) Tryz.prog 195 Q4:=by
 have hD:=A9 hW;have hC0:Ad (Fw W) Tryz.prog Am:=(Ba hW);refine Au (D:=A8) (C:=Am) (wr:=(fun _=>false)) rfl Ao hD hC0 Tryz.func195 (cD) ?_;clear hC0 hD hW;intro cs p r h hf hp;split at h
 case h_2=>cases h
 rename_i s;cases h;try simp only[Az,Bd,Aw,Go.Vc.lo,Go.Vc.hi,and_true] at hf
 (conv=>whnf)
 refine⟨?_,fun(i:Nat) (hi:i≤s.length∧(s.take i).all Q3=true)=>?_⟩
 ·(conv=>whnf)
  refine⟨(0:Nat),[],?_,⟨⟨rfl,(nB rfl),rfl⟩,?_,?_⟩⟩
  ·exact⟨Nat.zero_le _,rfl⟩
  ·exact tL
  ·exact tL
 ·obtain⟨h1,h2⟩:=hi;have hbad:i<s.length→¬(65≤Bg s i∧Bg s i≤90∨50≤Bg s i∧Bg s i≤57)→Gb s=false:=fun h hc=>by
   have:Q3 (s.getD i 0)=false:=by
    simp only[Q3,Bool.or_eq_false_iff,Bool.and_eq_false_iff,decide_eq_false_iff_not];rcases Dy h with h6|h6<;>omega
   unfold Gb;rw[N4 h this];rfl
  have hgood:i<s.length→(65≤Bg s i∧Bg s i≤90∨50≤Bg s i∧Bg s i≤57)→(s.take (i+1)).all Q3=true∧Ai s i=1:=fun h hc=>by
   rcases Dy h with h6|h6
   ·refine⟨?_,h6.2.1⟩;rw[Ie h,h2,Bool.true_and];simp only[Q3,Bool.or_eq_true,Bool.and_eq_true,decide_eq_true_eq];omega
   ·omega
  have hfin:s.length≤i→Gb s=decide (s.length=6):=fun h=>by
   rw[List.take_of_length_le h] at h2;unfold Gb;rw[h2];rfl
  (conv=>whnf)
  (repeat' (first|split<;>rename_i hh<;>try simp only[wS] at hh|with_reducible refine lnI fun hln=>?_)<;>conv=>whnf)
  all_goals try(show _=_;simp only[wQ])
  all_goals try (rw[hbad (by omega) (by omega)];done)
  all_goals try (
   obtain⟨g1,g2⟩:=hgood (by omega) (by omega)
   (conv=>whnf)
   refine⟨(i+1:Nat),[],?_,⟨⟨rfl,(nB rfl),rfl⟩,?_,?_⟩⟩
   ·exact⟨⟨show i+1≤s.length by omega,g1⟩,show s.length - (i+1)<s.length - i by omega⟩
   ·exact tL
   ·exact tL
   )
  ·rw[hfin (by omega),Ca,Bool.eq_iff_iff,beq_iff_eq,decide_eq_true_eq];omega
def A5m(s:List UInt8):LoopSpec:={
 α:=Nat
 keep:=[0,3]
 vals i:=[.str s,.int .i64 i]
 heap _:=[]
 ok i:=i≤s.length∧(s.take i).all Q3=true
 μ i:=s.length - i }
def To:List AV→Nat→Option LR:=fun cs i=>match cs with|[.str s]=>cond (Nat.beq i 2) (some (.inv (A5m s))) (none)|_=>none
theorem Tp{W:World}(hW:Tabs W):GoodP (Fw W) Tryz.prog 64 Q4:=by
 have hD:=A9 hW;have hC0:Ad (Fw W) Tryz.prog Am:=(Ba hW);refine Au (D:=A8) (C:=Am) (wr:=(fun _=>false)) rfl Ao hD hC0 Tryz.func64 (To) ?_;clear hC0 hD hW;intro cs p r h hf hp;split at h
 case h_2=>cases h
 rename_i s;cases h;try simp only[Az,Bd,Aw,Go.Vc.lo,Go.Vc.hi,and_true] at hf
 (conv=>whnf)
 refine⟨?_,fun(i:Nat) (hi:i≤s.length∧(s.take i).all Q3=true)=>?_⟩
 ·(conv=>whnf)
  refine⟨(0:Nat),[],?_,⟨⟨rfl,(nB rfl),rfl⟩,?_,?_⟩⟩
  ·exact⟨Nat.zero_le _,rfl⟩
  ·exact Ac _
  ·exact tL
 ·obtain⟨h1,h2⟩:=hi;have ei:(s.getD (Int.toNat (i:Int)) 0).toNat=(s.getD i 0).toNat:=rfl;have hbad:i<s.length→¬(65≤(s.getD i 0).toNat∧(s.getD i 0).toNat≤90∨50≤(s.getD i 0).toNat∧(s.getD i 0).toNat≤57)→Gb s=false:=fun h hc=>by
   have:Q3 (s.getD i 0)=false:=by
    simp only[Q3,Bool.or_eq_false_iff,Bool.and_eq_false_iff,decide_eq_false_iff_not];omega
   unfold Gb;rw[N4 h this];rfl
  have hgood:i<s.length→(65≤(s.getD i 0).toNat∧(s.getD i 0).toNat≤90∨50≤(s.getD i 0).toNat∧(s.getD i 0).toNat≤57)→(s.take (i+1)).all Q3=true:=fun h hc=>by
   rw[Ie h,h2,Bool.true_and];simp only[Q3,Bool.or_eq_true,Bool.and_eq_true,decide_eq_true_eq];omega
  have hfin:s.length≤i→Gb s=decide (s.length=6):=fun h=>by
   rw[List.take_of_length_le h] at h2;unfold Gb;rw[h2];rfl
  (conv=>whnf)
  (repeat' (first|refine tuU ?_|split<;>rename_i hh<;>try simp only[wS] at hh|with_reducible refine lnI fun hln=>?_)<;>conv=>whnf)
  all_goals try(show _=_;simp only[wQ])
  all_goals try (rw[hbad (by omega) (by omega)];done)
  all_goals try (
   have g1:=hgood (by omega) (by omega)
   (conv=>whnf)
   refine⟨(i+1:Nat),[],?_,⟨⟨rfl,(nB rfl),rfl⟩,?_,?_⟩⟩
   ·exact⟨⟨show i+1≤s.length by omega,g1⟩,show s.length - (i+1)<s.length - i by omega⟩
   ·exact Ac _
   ·exact tL
   )
  ·rw[hfin (by omega),Ca,Bool.eq_iff_iff,beq_iff_eq,decide_eq_true_eq];omega
def Qd:PT:=Cg [(292,Nf),(293,eD)]
theorem Xm{W:World}(hW:Tabs W):Cb (Fw W) Tryz.prog Qd:=(Ab Tryz.call292 (Wu hW) (Ab Tryz.call293 (X9 hW) Aq))
def Qe:FuncId→Option Ctr:=Av Qd []
theorem rS{W:World}(hW:Tabs W):Ad (Fw W) Tryz.prog Qe:=(Ar (Xm hW))
end
end Go.Vc.Z
namespace Go.Vc.Z
open Go Go.Vc Go.Proofs Go.RowKit Go.Pl Go.Lib
noncomputable section
set_option maxRecDepth 100000
attribute [local irreducible] inK Utf8.decode Utf8.encode Lib.itoa Pl.worth Pl.allDig
@[irreducible] def Ji(s:Int):Bool:=decide (1≤s)&&decide (s≤9)
theorem N5{s:Int}:Ji s=true↔1≤s∧s≤9:=by unfold Ji;simp
theorem Si{s:Int}(h:Ji s=true):s=1∨s=2∨s=3∨s=4∨s=5∨s=6∨s=7∨s=8∨s=9:=by have:=N5.1 h;omega
def kI:PC:=PC.fun fun|[.int .i64 s]=>some (True,.bool (sB (Ji s)))|_=>none
theorem Ab9{W:World}(hW:Tabs W):GoodP (Fw W) Tryz.prog 133 kI:=by
 have hD:=A9 hW;have hC0:Ad (Fw W) Tryz.prog Am:=(Ba hW);refine Au (D:=A8) (C:=Am) (wr:=(fun _=>false)) rfl Ao hD hC0 Tryz.func133 (fun _ _=>none) ?_;clear hC0 hD hW;intro cs p r h hf hp;split at h
 case h_2=>cases h
 rename_i s;cases h;try simp only[Az,Bd,Aw,Go.Vc.lo,Go.Vc.hi,and_true] at hf
 (conv=>whnf)
 (repeat' (first|split<;>rename_i hh<;>try simp only[wS] at hh)<;>conv=>whnf)
 all_goals try(show _=_;simp only[wQ])
 all_goals (try simp (disch:=omega) only[Int.tdiv_eq_ediv_of_nonneg,Int.tmod_eq_emod_of_nonneg]);all_goals (first|(simp_all[De,Bt,Cn,Dm,B7,Ca,Ji];done)|(simp_all[De,Bt,Cn,Dm,B7,Ca,Ji];omega))
theorem Pq{W:World}(hW:Tabs W):GoodP (Fw W) Tryz.prog 69 kI:=by
 have hD:=A9 hW;have hC0:Ad (Fw W) Tryz.prog Am:=(Ba hW);refine Au (D:=A8) (C:=Am) (wr:=(fun _=>false)) rfl Ao hD hC0 Tryz.func69 (fun _ _=>none) ?_;clear hC0 hD hW;intro cs p r h hf hp;split at h
 case h_2=>cases h
 rename_i s;cases h;try simp only[Az,Bd,Aw,Go.Vc.lo,Go.Vc.hi,and_true] at hf
 (conv=>whnf)
 (repeat' (first|split<;>rename_i hh<;>try simp only[wS] at hh)<;>conv=>whnf)
 all_goals try(show _=_;simp only[wQ])
 all_goals (try simp (disch:=omega) only[Int.tdiv_eq_ediv_of_nonneg,Int.tmod_eq_emod_of_nonneg]);all_goals (first|(simp_all[De,Bt,Cn,Dm,B7,Ca,Ji];done)|(simp_all[De,Bt,Cn,Dm,B7,Ca,Ji];omega))
def stL:List UInt8:=[79,67,76,70,69,82,86,83,65]
@[irreducible] def Cr(s:Int):List UInt8:=if Ji s=true then(stL.drop (s - 1).toNat).take 1 else []
def Un:PC:=PC.fun fun|[.int .i64 s]=>some (True,.str (sS (Cr s)))|_=>none
def Mj:PT:=Cg [(133,kI)]
theorem Tf{W:World}(hW:Tabs W):Cb (Fw W) Tryz.prog Mj:=(Ab Tryz.call133 (Ab9 hW) Aq)
def Mk:FuncId→Option Ctr:=Av Mj []
theorem gL{W:World}(hW:Tabs W):Ad (Fw W) Tryz.prog Mk:=(Ar (Tf hW))
theorem gM{W:World}(hW:Tabs W):GoodP (Fw W) Tryz.prog 61 Un:=by
 have hD:=Tf hW;have hC0:Ad (Fw W) Tryz.prog Mk:=(gL hW);refine Au (D:=Mj) (C:=Mk) (wr:=(fun _=>false)) rfl Ao hD hC0 Tryz.func61 (fun _ _=>none) ?_;clear hC0 hD hW;intro cs p r h hf hp;split at h
 case h_2=>cases h
 rename_i s;cases h;try simp only[Az,Bd,Aw,Go.Vc.lo,Go.Vc.hi,and_true] at hf
 have hi:=N5 (s:=s)
 (conv=>whnf)
 (repeat' (first|refine tuU ?_|split<;>rename_i hh<;>try simp only[wS] at hh)<;>conv=>whnf)
 all_goals try(show _=_;simp only[wQ])
 ·unfold Cr;rw[if_neg (by simp_all)]
 ·have:=hi.1 (by assumption)
  (conv=>whnf)
  (repeat' (first|refine tuU ?_)<;>conv=>whnf)
  all_goals try(show _=_;simp only[wQ])
  unfold Cr;rw[if_pos (by assumption)]
  show(stL.drop (s - 1).toNat).take (s.toNat - (s - 1).toNat)=_;congr 1;omega
def Akr:List (List UInt8):=[[79,67,69,82,86,83,65],[67,79,76],[76,67,70],[70],[69],[82],[86],[83,79,82],[65,79,70]]
def Apy:PC:=PC.fun fun|[]=>some (True,.sl false 1 9 (fun e=>[.str (Akr.getD e [])]))|_=>none
theorem Yb{W:World}(hW:Tabs W):GoodP (Fw W) Tryz.prog 169 Apy:=by
 have hD:=A9 hW;have hC0:Ad (Fw W) Tryz.prog Am:=(Ba hW);refine Au (D:=A8) (C:=Am) (wr:=(fun _=>false)) rfl Ao hD hC0 Tryz.func169 (fun _ _=>none) ?_;clear hC0 hD hW;intro cs p r h hf hp;split at h
 case h_2=>cases h
 skip
 cases h;try simp only[Az,Bd,Aw,Go.Vc.lo,Go.Vc.hi,and_true] at hf
 (conv=>whnf)
 (repeat' (first|refine tuU ?_)<;>conv=>whnf)
 intro e he;match e,he with
 |0,_=>first|rfl|exact⟨rfl,rfl⟩
 |1,_=>first|rfl|exact⟨rfl,rfl⟩
 |2,_=>first|rfl|exact⟨rfl,rfl⟩
 |3,_=>first|rfl|exact⟨rfl,rfl⟩
 |4,_=>first|rfl|exact⟨rfl,rfl⟩
 |5,_=>first|rfl|exact⟨rfl,rfl⟩
 |6,_=>first|rfl|exact⟨rfl,rfl⟩
 |7,_=>first|rfl|exact⟨rfl,rfl⟩
 |8,_=>first|rfl|exact⟨rfl,rfl⟩
 |e+9,he=>exact absurd he (by omega)
theorem Aei{s:Int}(h:Ji s=true):(Akr.getD (s - 1).toNat []).take 1=Cr s∧1≤(Akr.getD (s - 1).toNat []).length:=by
 unfold Cr;rw[if_pos h];rcases Si h with rfl|rfl|rfl|rfl|rfl|rfl|rfl|rfl|rfl<;>exact⟨rfl,by decide⟩
def G3:PT:=Cg [(69,kI),(169,Apy)]
theorem Lv{W:World}(hW:Tabs W):Cb (Fw W) Tryz.prog G3:=(Ab Tryz.call69 (Pq hW) (Ab Tryz.call169 (Yb hW) Aq))
def G4:FuncId→Option Ctr:=Av G3 []
theorem Uo{W:World}(hW:Tabs W):Ad (Fw W) Tryz.prog G4:=(Ar (Lv hW))
theorem Lw{W:World}(hW:Tabs W):GoodP (Fw W) Tryz.prog 82 Un:=by
 have hD:=Lv hW;have hC0:Ad (Fw W) Tryz.prog G4:=(Uo hW);refine Au (D:=G3) (C:=G4) (wr:=(fun _=>false)) rfl Ao hD hC0 Tryz.func82 (fun _ _=>none) ?_;clear hC0 hD hW;intro cs p r h hf hp;split at h
 case h_2=>cases h
 rename_i s;cases h;try simp only[Az,Bd,Aw,Go.Vc.lo,Go.Vc.hi,and_true] at hf
 have hi:=N5 (s:=s);have hr:=Aei (s:=s)
 (conv=>whnf)
 (repeat' (first|refine tuU ?_|split<;>rename_i hh<;>try simp only[wS] at hh)<;>conv=>whnf)
 all_goals try(show _=_;simp only[wQ])
 ·unfold Cr;rw[if_neg (by simp_all)]
 ·have h1:=hi.1 (by assumption)
  have h2:=hr (by assumption)
  have h3:Int.toNat 1≤(Akr.getD (s - 1).toNat []).length:=h2.2
  (conv=>whnf)
  (repeat' (first|refine tuU ?_)<;>conv=>whnf)
  all_goals try(show _=_;simp only[wQ])
  exact h2.1
theorem Ajf{s:Int}(h:Ji s=true):∃ c,Cr s=[c]∧stL[(s - 1).toNat]? =some c:=by
 unfold Cr;rw[if_pos h];rcases Si h with rfl|rfl|rfl|rfl|rfl|rfl|rfl|rfl|rfl<;>exact⟨_,rfl,rfl⟩
end
end Go.Vc.Z
namespace Go.Vc.Z
open Go Go.Vc Go.Proofs Go.RowKit Go.Pl Go.Lib
noncomputable section
set_option maxRecDepth 100000
attribute [local irreducible] inK Utf8.decode Utf8.encode Lib.itoa Pl.worth Pl.allDig
@[irreducible] def F0(n:Int):Bool:=decide (0≤n)&&decide (n≤1000000)
@[irreducible] def C4(n:Int):Bool:=decide (-1000000000000≤n)&&decide (n≤1000000000000)
@[irreducible] def C2(n:Int):Bool:=decide (0≤n)&&decide (n≤1000000000000)
@[irreducible] def Ed(n:Int):Bool:=decide (checkN n=0)
def Apz:PC:=PC.fun fun|[.int .i64 n]=>some (True,.bool (sB (F0 n)))|_=>none
def Aca:PC:=PC.fun fun|[.int .i64 n]=>some (True,.bool (sB (C4 n)))|_=>none
def Acb:PC:=PC.fun fun|[.int .i64 n]=>some (True,.bool (sB (C2 n)))|_=>none
def Ap0:PC:=PC.fun fun|[.int .u64 n]=>some (True,.bool (sB (Ed n)))|_=>none
theorem Pr{W:World}(hW:Tabs W):GoodP (Fw W) Tryz.prog 138 Apz:=by
 have hD:=A9 hW;have hC0:Ad (Fw W) Tryz.prog Am:=(Ba hW);refine Au (D:=A8) (C:=Am) (wr:=(fun _=>false)) rfl Ao hD hC0 Tryz.func138 (fun _ _=>none) ?_;clear hC0 hD hW;intro cs p r h hf hp;split at h
 case h_2=>cases h
 rename_i n;cases h;try simp only[Az,Bd,Aw,Go.Vc.lo,Go.Vc.hi,and_true] at hf
 (conv=>whnf)
 (repeat' (first|split<;>rename_i hh<;>try simp only[wS] at hh)<;>conv=>whnf)
 all_goals try(show _=_;simp only[wQ])
 all_goals (try simp (disch:=omega) only[Int.tdiv_eq_ediv_of_nonneg,Int.tmod_eq_emod_of_nonneg]);all_goals (first|(simp_all[De,Bt,Cn,Dm,B7,Ca,F0];done)|(simp_all[De,Bt,Cn,Dm,B7,Ca,F0];omega))
theorem kJ{W:World}(hW:Tabs W):GoodP (Fw W) Tryz.prog 207 Aca:=by
 have hD:=A9 hW;have hC0:Ad (Fw W) Tryz.prog Am:=(Ba hW);refine Au (D:=A8) (C:=Am) (wr:=(fun _=>false)) rfl Ao hD hC0 Tryz.func207 (fun _ _=>none) ?_;clear hC0 hD hW;intro cs p r h hf hp;split at h
 case h_2=>cases h
 rename_i n;cases h;try simp only[Az,Bd,Aw,Go.Vc.lo,Go.Vc.hi,and_true] at hf
 (conv=>whnf)
 (repeat' (first|split<;>rename_i hh<;>try simp only[wS] at hh)<;>conv=>whnf)
 all_goals try(show _=_;simp only[wQ])
 all_goals (try simp (disch:=omega) only[Int.tdiv_eq_ediv_of_nonneg,Int.tmod_eq_emod_of_nonneg]);all_goals (first|(simp_all[De,Bt,Cn,Dm,B7,Ca,C4];done)|(simp_all[De,Bt,Cn,Dm,B7,Ca,C4];omega))
def If:PT:=Cg [(207,Aca)]
theorem Qf{W:World}(hW:Tabs W):Cb (Fw W) Tryz.prog If:=(Ab Tryz.call207 (kJ hW) Aq)
theorem Iq{W:World}(hW:Tabs W):GoodP (Fw W) Tryz.prog 139 Acb:=by
 have hD:=A9 hW;have hC0:Ad (Fw W) Tryz.prog Am:=(Ba hW);refine Au (D:=A8) (C:=Am) (wr:=(fun _=>false)) rfl Ao hD hC0 Tryz.func139 (fun _ _=>none) ?_;clear hC0 hD hW;intro cs p r h hf hp;split at h
 case h_2=>cases h
 rename_i n;cases h;try simp only[Az,Bd,Aw,Go.Vc.lo,Go.Vc.hi,and_true] at hf
 (conv=>whnf)
 (repeat' (first|split<;>rename_i hh<;>try simp only[wS] at hh)<;>conv=>whnf)
 all_goals try(show _=_;simp only[wQ])
 all_goals (try simp (disch:=omega) only[Int.tdiv_eq_ediv_of_nonneg,Int.tmod_eq_emod_of_nonneg]);all_goals (first|(simp_all[De,Bt,Cn,Dm,B7,Ca,C2];done)|(simp_all[De,Bt,Cn,Dm,B7,Ca,C2];omega))
def F1:PT:=Cg [(135,V8)]
theorem Jn{W:World}(hW:Tabs W):Cb (Fw W) Tryz.prog F1:=(Ab Tryz.call135 (W1 hW) Aq)
def F2:FuncId→Option Ctr:=Av F1 []
theorem Sj{W:World}(hW:Tabs W):Ad (Fw W) Tryz.prog F2:=(Ar (Jn hW))
theorem Sk{W:World}(hW:Tabs W):GoodP (Fw W) Tryz.prog 63 Ap0:=by
 have hD:=Jn hW;have hC0:Ad (Fw W) Tryz.prog F2:=(Sj hW);refine Au (D:=F1) (C:=F2) (wr:=(fun _=>false)) rfl Ao hD hC0 Tryz.func63 (fun _ _=>none) ?_;clear hC0 hD hW;intro cs p r h hf hp;split at h
 case h_2=>cases h
 rename_i n;cases h;try simp only[Az,Bd,Aw,Go.Vc.lo,Go.Vc.hi,and_true] at hf
 (conv=>whnf)
 (repeat' (first|refine tuU ?_)<;>conv=>whnf)
 all_goals try(show _=_;simp only[wQ])
 all_goals (try simp (disch:=omega) only[Int.tdiv_eq_ediv_of_nonneg,Int.tmod_eq_emod_of_nonneg]);all_goals (first|(rw[Bool.eq_iff_iff];simp[De,Bt,Cn,Dm,B7,Ca,Ed];done))
end
end Go.Vc.Z
namespace Go.Vc.Z
open Go Go.Vc Go.Proofs Go.RowKit Go.Pl Go.Lib
noncomputable section
set_option maxRecDepth 100000
attribute [local irreducible] inK Utf8.decode Utf8.encode Lib.itoa Pl.worth Pl.allDig
def Co:Int→List Tax→Bool
 |_,[]=>true
 |least,x::t=>decide (least≤x.code)&&decide (x.code≤99)&&C2 x.amount&&Co (x.code+1) t
@[irreducible] def C0(l:List Tax):Bool:=Co 1 l&&decide (l.length≤4)
def Aks:PC:=PC.of (fun l:List Tax=>[slE 2 Tax.enc l]) (fun _=>True) (fun l=>.bool (sB (C0 l)))
theorem tV{α:Type}[Inhabited α]{l:List α}{i:Nat}(h:i<l.length):l.drop i=l.getD i default::l.drop (i+1):=by
 rw[List.drop_eq_getElem_cons h,List.getD_eq_getElem?_getD,List.getElem?_eq_getElem h];rfl
end
end Go.Vc.Z
