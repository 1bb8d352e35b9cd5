/- Tickets: what a history tells. -/
import Derived.Test.YtpmpclbdnakniaaGreatDoorV10
import Derived.Test.YtpmpclbdnakniaaGreatDoorV8
import Derived.Test.YtpmpclbdnakniaaGreatDoorV9
import Derived.Test.YtpmpclbdnakniaaGreatDoorProg
import Derived.Ground.NamesProg
import Derived.Shelf.Strings.OnBuilder
import Derived.Shelf.Strings.Builder1
import Derived.Shelf.Strconv.Itoa4
set_option linter.all false
namespace Go.Vc.Z
open Go Go.Vc Go.Proofs Go.RowKit Go.Pl Go.Lib
noncomputable section
set_option maxRecDepth 100000
attribute [local irreducible] inK Utf8.decode Utf8.encode Lib.itoa Pl.worth Pl.allDig
end
end Go.Vc.Z
namespace Go.Vc.Z
open Go Go.Vc Go.Proofs Go.RowKit Go.Pl Go.Lib
noncomputable section
set_option maxRecDepth 100000
attribute [local irreducible] inK Utf8.decode Utf8.encode Lib.itoa Pl.worth Pl.allDig
theorem Cf{n:Int}(h:F0 n=true):0≤n∧n≤1000000:=by
 unfold F0 at h;simp at h;omega
end
end Go.Vc.Z
namespace Go.Vc.Z
open Go Go.Vc Go.Proofs Go.RowKit Go.Pl Go.Lib
noncomputable section
set_option maxRecDepth 100000
attribute [local irreducible] inK Utf8.decode Utf8.encode Lib.itoa Pl.worth Pl.allDig
end
end Go.Vc.Z
namespace Go.Vc.Z
open Go Go.Vc Go.Proofs Go.RowKit Go.Pl Go.Lib
noncomputable section
set_option maxRecDepth 100000
attribute [local irreducible] inK Utf8.decode Utf8.encode Lib.itoa Pl.worth Pl.allDig
@[irreducible] def Gg(c:Coupon)(s:Int):Bool:=
 decide (1≤c.flight)&&decide (c.flight≤9999)&&F0 c.day&&C2 c.value&&decide (c.status=s)&&decide (c.holder=0)&&decide (c.next=0)
theorem kK(k:Nat)(f d v s h x f' d' v' s' h' x':Int):eqA TY (k+3) 45 (.agg [.int .i64 f,.int .i64 d,.int .i64 v,.int .i64 s,.int .i64 h,.int .u64 x]) (.agg [.int .i64 f',.int .i64 d',.int .i64 v',.int .i64 s',.int .i64 h',.int .u64 x'])=some (f == f'&&(d == d'&&(v == v'&&(s == s'&&(h == h'&&x == x'))))):=by
 have e45:TY 45=some Aeb:=rfl;have e3:TY 3=some ty3:=rfl;have e2:TY 2=some ty2:=rfl;have e43:TY 43=some rM:=rfl;have e37:TY 37=some rL:=rfl;simp[eqA,Adb,e45,e3,e2,e43,e37,Aeb,ty3,ty2,rM,rL,Ns,Ca]
theorem Ps{k:Nat}{f d v s h x f' d' v' s' h' x':Int}{N:Bool→Prop}(hN:N (f == f'&&(d == d'&&(v == v'&&(s == s'&&(h == h'&&x == x')))))):Io (eqA TY (k+3) 45 (.agg [.int .i64 f,.int .i64 d,.int .i64 v,.int .i64 s,.int .i64 h,.int .u64 x]) (.agg [.int .i64 f',.int .i64 d',.int .i64 v',.int .i64 s',.int .i64 h',.int .u64 x'])) N:=by
 rw[kK];exact hN
def Akt:PC:=PC.of (fun x:Coupon × Int=>[.agg x.1.enc,.int .i64 x.2]) (fun _=>True) (fun x=>.bool (sB (Gg x.1 x.2)))
def H0:PT:=Cg [(138,Apz),(139,Acb)]
theorem Mz{W:World}(hW:Tabs W):Cb (Fw W) Tryz.prog H0:=(Ab Tryz.call138 (Pr hW) (Ab Tryz.call139 (Iq hW) Aq))
def H1:FuncId→Option Ctr:=Av H0 []
theorem W2{W:World}(hW:Tabs W):Ad (Fw W) Tryz.prog H1:=(Ar (Mz hW))
set_option maxHeartbeats 2000000 in
theorem W3{W:World}(hW:Tabs W):GoodP (Fw W) Tryz.prog 70 Akt:=by
 have hD:=Mz hW;have hC0:∀ x:Coupon × Int,Ad (Fw W) Tryz.prog H1:=fun x=>(W2 hW);refine As (D:=H0) (C:=fun x=>H1) (wr:=(fun _=>false)) rfl Ao hD hC0 Tryz.func70 (fun _ _=>none) (fun _=>rfl) ?_;rintro⟨c,s⟩ hf hp;clear hf
 (conv=>whnf)
 (repeat' (first|refine tuU ?_|split<;>rename_i hh<;>try simp only[wS] at hh)<;>conv=>whnf)
 all_goals try(show _=_;simp only[wQ])
 all_goals (unfold Gg;first|(simp_all[Dm,B7,Ca];done)|(rw[Bool.eq_iff_iff];simp_all[Dm,B7,Ca];done)|(rw[Bool.eq_iff_iff];simp_all[Dm,B7,Ca];omega))
def cellOf(H:List Blk)(p k:Nat):Option AV:=match H[p]? with|some (.var cs _)=>cs[k]? |_=>none
def C6(g:Bool)(lo n hi:Int):Bool:=g&&(leI lo n&&leI n hi)
theorem Aej{g:Bool}{lo n hi:Int}(h:n<lo):false=C6 g lo n hi:=by
 unfold C6;rw[B7,decide_eq_false (by omega)];simp
theorem Aek{lo n hi:Int}(h:lo≤n):leI n hi=C6 true lo n hi:=by
 unfold C6;rw[B7 lo,decide_eq_true h];simp
theorem Ael{TY:TypeId→Option TI}{C:FuncId→Option Ctr}{D:PT}{wr:Tmp→Bool}{L:List AV→List Blk→Nat→Option LR}{fn:Func}{H:List Blk}{Q:AV→List Blk→Prop}{p q j:Nat}{sz lo hi n:Int}{g:Bool}(hg:cellOf H p 2=some (.bool g))(hn:cellOf H q j=some (.int .i64 n))
  (h1:fnE TY C D wr (L [.ptr p 0,.ptr q j,.int .i64 sz,.int .i64 lo,.int .i64 hi] H) fn [.ptr p 0,.ptr q j,.int .i64 sz,.int .i64 lo,.int .i64 hi] H (fun c H'=>c= .tup []∧∃ b,b=C6 g lo n hi∧H'=setCell (setCell H p 2 (.bool b)) q j (.int .i64 0)))
  (h2:Q (.tup []) (setCell (setCell H p 2 (.bool (sB (C6 g lo n hi)))) q j (.int .i64 0))):Wt TY C D wr L fn [.ptr p 0,.ptr q j,.int .i64 sz,.int .i64 lo,.int .i64 hi] H Q:=
 Apt _ p 2 q j _ _ h1 h2
end
end Go.Vc.Z
namespace Go.Vc.Z
open Go Go.Vc Go.Proofs Go.RowKit Go.Pl Go.Lib
noncomputable section
set_option maxRecDepth 100000
attribute [local irreducible] inK Utf8.decode Utf8.encode Lib.itoa Pl.worth Pl.allDig
end
end Go.Vc.Z
namespace Go.Vc.Z
open Go Go.Vc Go.Proofs Go.RowKit Go.Pl Go.Lib
noncomputable section
set_option maxRecDepth 100000
attribute [local irreducible] inK Utf8.decode Utf8.encode Lib.itoa Pl.worth Pl.allDig
end
end Go.Vc.Z
namespace Go.Vc.Z
open Go Go.Vc Go.Proofs Go.RowKit Go.Pl Go.Lib
noncomputable section
set_option maxRecDepth 100000
attribute [local irreducible] inK Utf8.decode Utf8.encode Lib.itoa Pl.worth Pl.allDig
def Yc:List AV→Nat→Option LR:=fun cs i=>match cs with|[.int .u64 n]=>cond (Nat.beq i 2) (some (.inv (Ako n))) (none)|_=>none
theorem Yd{W:World}(hW:Tabs W):GoodP (Fw W) Tryz.prog 192 Ul:=by
 have hD:=A9 hW;have hC0:Ad (Fw W) Tryz.prog Am:=(Ba hW);refine Au (D:=A8) (C:=Am) (wr:=(fun _=>false)) rfl Ao hD hC0 Tryz.func192 (Yc) ?_;clear hC0 hD hW;intro cs p r h hf hp;split at h
 case h_2=>cases h
 rename_i n;cases h;try simp only[Az,Bd,Aw,Go.Vc.lo,Go.Vc.hi,and_true] at hf
 (conv=>whnf)
 refine⟨?_,fun(x:Nat × List UInt8) (hx:x.1≤n.toNat∧(if x.1=0∧x.2≠[] then x.2 else decDigits x.1++x.2)=decDigits n.toNat)=>?_⟩
 ·(conv=>whnf)
  refine⟨((n.toNat,[]):Nat × List UInt8),[],?_,⟨⟨rfl,(nB rfl),rfl⟩,?_,?_⟩⟩
  ·exact⟨Nat.le_refl _,by simp⟩
  ·exact tL
  ·exact tL
 ·obtain⟨h1,h2⟩:=hx;have hl:x.2.length≤30:=by
   have:=congrArg List.length h2;have h20:(decDigits n.toNat).length≤30:=(by rw[decDigits_length];exact Nat.le_trans (Ip 29 _ (by omega)) (by omega));split at this<;>(try simp at this)<;>omega
  (conv=>whnf)
  (repeat' (first|refine tuU ?_|split<;>rename_i hh<;>try simp only[wS] at hh)<;>conv=>whnf)
  all_goals try(show _=_;simp only[wQ])
  ·(conv=>whnf)
   refine⟨((x.1 / 10,UInt8.ofNat (48+x.1 % 10)::x.2):Nat × List UInt8),[],?_,⟨⟨rfl,(nB rfl),rfl⟩,?_,?_⟩⟩
   ·refine⟨⟨show x.1 / 10≤n.toNat by omega,(Ja (n:=x.1) (s:=x.2) (.inl (by omega))).trans h2⟩,?_⟩
    show 2*(x.1 / 10)+(if UInt8.ofNat (48+x.1 % 10)::x.2=[] then 1 else 0)<2*x.1+(if x.2=[] then 1 else 0)
    rw[if_neg (by simp)];omega
   ·exact Ac _
   ·exact tL
  ·(conv=>whnf)
   refine⟨((x.1 / 10,UInt8.ofNat (48+x.1 % 10)::x.2):Nat × List UInt8),[],?_,⟨⟨rfl,(nB rfl),rfl⟩,?_,?_⟩⟩
   ·refine⟨⟨show x.1 / 10≤n.toNat by omega,(Ja (n:=x.1) (s:=x.2) (.inr (by assumption))).trans h2⟩,?_⟩
    show 2*(x.1 / 10)+(if UInt8.ofNat (48+x.1 % 10)::x.2=[] then 1 else 0)<2*x.1+(if x.2=[] then 1 else 0)
    rw[if_neg (by simp),if_pos (by assumption)];omega
   ·exact Ac _
   ·exact tL
  ·have h0:x.1=0:=(by omega);rw[←h2,if_pos ⟨h0,by assumption⟩]
def kL:PC:=PC.fun fun|[.int .i64 n]=>some (True,.str (sS (Lib.itoa n)))|_=>none
def E8:PT:=Cg [(192,Ul)]
theorem H3{W:World}(hW:Tabs W):Cb (Fw W) Tryz.prog E8:=(Ab Tryz.call192 (Yd hW) Aq)
def D2:FuncId→Option Ctr:=Av E8 []
theorem M0{W:World}(hW:Tabs W):Ad (Fw W) Tryz.prog D2:=(Ar (H3 hW))
theorem W4{W:World}(hW:Tabs W):GoodP (Fw W) Tryz.prog 117 kL:=by
 have hD:=H3 hW;have hC0:Ad (Fw W) Tryz.prog D2:=(M0 hW);refine Au (D:=E8) (C:=D2) (wr:=(fun _=>false)) rfl Ao hD hC0 Tryz.func117 (fun _ _=>none) ?_;clear hC0 hD hW;intro cs p r h hf hp;split at h
 case h_2=>cases h
 rename_i n;cases h;try simp only[Az,Bd,Aw,Go.Vc.lo,Go.Vc.hi,and_true] at hf
 have e1:0≤n→Lib.itoa n=decDigits n.toNat:=fun h=>by unfold Lib.itoa;rw[if_neg (by omega)]
 have e2:n<0→Lib.itoa n=45::decDigits (-(n+1)+1).toNat:=fun h=>by unfold Lib.itoa;rw[if_pos h];congr 2;omega
 have h20:(decDigits (-(n+1)+1).toNat).length≤30:=by
  rw[decDigits_length];exact Nat.le_trans (Ip 29 _ (by omega)) (by omega)
 (conv=>whnf)
 (repeat' (first|refine tuU ?_|split<;>rename_i hh<;>try simp only[wS] at hh)<;>conv=>whnf)
 all_goals try(show _=_;simp only[wQ])
 ·rw[e1 (by assumption)]
 ·rw[e2 (by assumption)];rfl
def Jo:PT:=Cg [(117,kL)]
theorem Pt{W:World}(hW:Tabs W):Cb (Fw W) Tryz.prog Jo:=(Ab Tryz.call117 (W4 hW) Aq)
def Jp:FuncId→Option Ctr:=Av Jo []
theorem Zp{W:World}(hW:Tabs W):Ad (Fw W) Tryz.prog Jp:=(Ar (Pt hW))
theorem Gu{W:World}(hW:Tabs W):GoodP (Fw W) Tryz.prog 49 kL:=by
 have hD:=Pt hW;have hC0:Ad (Fw W) Tryz.prog Jp:=(Zp hW);refine Au (D:=Jo) (C:=Jp) (wr:=(fun _=>false)) rfl Ao hD hC0 Tryz.func49 (fun _ _=>none) ?_;clear hC0 hD hW;intro cs p r h hf hp;split at h
 case h_2=>cases h
 rename_i n;cases h;try simp only[Az,Bd,Aw,Go.Vc.lo,Go.Vc.hi,and_true] at hf
 (conv=>whnf)
 (repeat' (first|refine tuU ?_)<;>conv=>whnf)
@[irreducible] def Dr(s:List UInt8):Bool:=allDig s&&(s == [48] || (s != []&&s.getD 0 0 != 48))
def kM:PC:=PC.fun fun|[.str s]=>some (True,.bool (sB (Dr s)))|_=>none
def At2(s:List UInt8):LoopSpec:={
 α:=Nat
 keep:=[0,3]
 vals i:=[.str s,.int .i64 i]
 heap _:=[]
 ok i:=i≤s.length∧allDig (s.take i)=true
 μ i:=s.length - i }
def Qg:List AV→Nat→Option LR:=fun cs i=>match cs with|[.str s]=>cond (Nat.beq i 2) (some (.inv (At2 s))) (none)|_=>none
theorem Ig{W:World}(hW:Tabs W):GoodP (Fw W) Tryz.prog 238 kM:=by
 have hD:=A9 hW;have hC0:Ad (Fw W) Tryz.prog Am:=(Ba hW);refine Au (D:=A8) (C:=Am) (wr:=(fun _=>false)) rfl Ao hD hC0 Tryz.func238 (Qg) ?_;clear hC0 hD hW;intro cs p r h hf hp;split at h
 case h_2=>cases h
 rename_i s;cases h;try simp only[Az,Bd,Aw,Go.Vc.lo,Go.Vc.hi,and_true] at hf
 (conv=>whnf)
 refine⟨?_,fun(i:Nat) (hi:i≤s.length∧allDig (s.take i)=true)=>?_⟩
 ·(conv=>whnf)
  refine⟨(0:Nat),[],?_,⟨⟨rfl,(nB rfl),rfl⟩,?_,?_⟩⟩
  ·exact⟨Nat.zero_le _,by simp[allDig]⟩
  ·exact Ac _
  ·exact tL
 ·obtain⟨h1,h2⟩:=hi;have ei:(s.getD (Int.toNat (i:Int)) 0).toNat=(s.getD i 0).toNat:=rfl;have hbad:i<s.length→¬(48≤(s.getD i 0).toNat∧(s.getD i 0).toNat≤57)→Dr s=false:=fun h hc=>by
   unfold Dr;rw[Ya h hc];rfl
  have hfin:s.length≤i→Dr s=(s == [48] || (s != []&&s.getD 0 0 != 48)):=fun h=>by
   rw[List.take_of_length_le h] at h2;unfold Dr;rw[h2];rfl
  by_cases hs:s=[]
  ·subst hs
   (conv=>whnf)
   (repeat' (first|with_reducible refine lnI fun hln=>?_)<;>conv=>whnf)
   all_goals try(show _=_;simp only[wQ])
   simp[Dr,allDig]
  ·have hpos:0<s.length:=List.length_pos_iff.2 hs;have e0:s.getD (Int.toNat 0) 0=s.getD 0 0:=rfl
   (conv=>whnf)
   (repeat' (first|refine tuU ?_|split<;>rename_i hh<;>try simp only[wS] at hh|with_reducible refine lnI fun hln=>?_)<;>conv=>whnf)
   all_goals try(show _=_;simp only[wQ])
   all_goals try (rw[hbad (by omega) (by omega)];done)
   ·(conv=>whnf)
    refine⟨(i+1:Nat),[],?_,⟨⟨rfl,(nB rfl),rfl⟩,?_,?_⟩⟩
    ·exact⟨⟨show i+1≤s.length by omega,Eb (by omega) h2 (by omega) (by omega)⟩,show s.length - (i+1)<s.length - i by omega⟩
    ·exact Ac _
    ·exact tL
   ·have h:s=[48]:=(by assumption);rw[hfin (by omega),h];rfl
   ·rw[hfin (by omega),show eqI ((s.getD (Int.toNat 0) 0).toNat:Int) 48=(s.getD 0 0 == 48) from kF _ 48]
    have a1:(s == [48])=false:=(by rw[beq_eq_false_iff_ne];assumption);have a2:(s != [])=true:=(by rw[bne_iff_ne];assumption);rw[a1,a2];rfl
   ·exact absurd (by assumption) hs
theorem K2{s:List UInt8}(h:Dr s=true):allDig s=true∧s≠[]∧(∀ t,s=48::t→t=[]):=by
 unfold Dr at h;simp only[Bool.and_eq_true,Bool.or_eq_true,beq_iff_eq,bne_iff_ne] at h;obtain⟨h1,h2⟩:=h;refine⟨h1,?_,?_⟩
 ·rcases h2 with rfl|⟨h2,_⟩
  ·simp
  ·exact h2
 ·rintro t rfl;rcases h2 with h2|⟨_,h2⟩
  ·simpa using h2
  ·exact absurd rfl h2
theorem kN:∀ (s t:List UInt8),s.length=t.length→allDig s=true→allDig t=true→Op.bytesLess s t=decide (worth s<worth t)
 |[],[],_,_,_=>by simp[Op.bytesLess,worth]
 |[],_::_,h,_,_=>by simp at h
 |_::_,[],h,_,_=>by simp at h
 |a::s,b::t,h,hs,ht=>by
  have hl:s.length=t.length:=by simpa using h
  have h1:=Kx.1 (show Zn a=true by simp[allDig] at hs;exact hs.1)
  have h2:=Kx.1 (show Zn b=true by simp[allDig] at ht;exact ht.1)
  have h3:allDig s=true:=by simp[allDig] at hs ⊢;exact hs.2
  have h4:allDig t=true:=by simp[allDig] at ht ⊢;exact ht.2
  have ih:=kN s t hl h3 h4;have w1:=Lt h3;have w2:=Lt h4;rw[N0,N0,hl];rw[hl] at w1;unfold Op.bytesLess;rw[ih];have hp:0<10 ^ t.length:=Nat.pow_pos (by omega)
  generalize 10 ^ t.length=p at*
  rcases Nat.lt_trichotomy a.toNat b.toNat with hlt|heq|hgt
  ·have e1:decide (a<b)=true:=decide_eq_true (UInt8.lt_iff_toNat_lt.2 hlt);rw[e1,Bool.true_or];symm;rw[decide_eq_true_eq];have:(a.toNat - 48+1)*p≤(b.toNat - 48)*p:=Nat.mul_le_mul_right _ (by omega)
   rw[Nat.add_mul] at this;omega
  ·have e2:a=b:=UInt8.toNat_inj.1 heq;subst e2;have e1:decide (a<a)=false:=decide_eq_false (fun h=>by have:=UInt8.lt_iff_toNat_lt.1 h;omega)
   rw[e1,Bool.false_or,beq_self_eq_true,Bool.true_and];rw[Bool.eq_iff_iff,decide_eq_true_eq,decide_eq_true_eq];omega
  ·have e1:decide (a<b)=false:=decide_eq_false (fun h=>by have:=UInt8.lt_iff_toNat_lt.1 h;omega)
   have e2:(a == b)=false:=(by rw[beq_eq_false_iff_ne];rintro rfl;omega);rw[e1,e2,Bool.false_or,Bool.false_and];symm;rw[decide_eq_false_iff_not];have:(b.toNat - 48+1)*p≤(a.toNat - 48)*p:=Nat.mul_le_mul_right _ (by omega)
   rw[Nat.add_mul] at this;omega
theorem Aem(a b:Nat)(hab:a≤b):(decDigits a).length≤(decDigits b).length:=by
 rw[decDigits_length,decDigits_length];have:=lt_pow_nDigits b;have:=nDigits_pos b;exact Nat.le_trans (Ip (nDigits b - 1) a (by rw[show nDigits b - 1+1=nDigits b by omega];omega)) (by omega)
theorem Ajg{s:List UInt8}(h:Dr s=true)(m:Nat):((decDigits m).length<s.length→m<worth s)∧(s.length<(decDigits m).length→worth s<m)∧
  (s.length=(decDigits m).length→(!(Op.bytesLess s (decDigits m) || s == decDigits m))=decide (m<worth s)):=by
 obtain⟨hd,hn,hz⟩:=K2 h;have hw:=tR hd hn hz;have hs:(decDigits (worth s)).length=s.length:=by rw[hw]
 refine⟨fun hlt=>Nat.lt_of_not_le fun hle=>by have:=Aem _ _ hle;omega,fun hlt=>Nat.lt_of_not_le fun hle=>by have:=Aem _ _ hle;omega,fun heq=>?_⟩
 rw[kN _ _ heq hd (Dq m),Ea];by_cases he:worth s=m
 ·have:(s == decDigits m)=true:=by rw[beq_iff_eq,←he,hw]
  rw[this,Bool.or_true];symm;simp;omega
 ·have:(s == decDigits m)=false:=by rw[beq_eq_false_iff_ne];rintro hc;exact he (by rw[hc,Ea])
  rw[this,Bool.or_false,Bool.eq_iff_iff];simp;omega
def Acc:PC:=PC.fun fun|[.str s,.int .u64 m]=>some (Dr s=true,.bool (sB (decide (m<worth s))))|_=>none
theorem M1{W:World}(hW:Tabs W):GoodP (Fw W) Tryz.prog 239 Acc:=by
 have hD:=H3 hW;have hC0:Ad (Fw W) Tryz.prog D2:=(M0 hW);refine Au (D:=E8) (C:=D2) (wr:=(fun _=>false)) rfl Ao hD hC0 Tryz.func239 (fun _ _=>none) ?_;clear hC0 hD hW;intro cs p r h hf hp;split at h
 case h_2=>cases h
 rename_i s m;cases h;try simp only[Az,Bd,Aw,Go.Vc.lo,Go.Vc.hi,and_true] at hf
 obtain⟨a1,a2,a3⟩:=Ajg hp m.toNat;have hm:decide (m.toNat<worth s)=decide (m<(worth s:Int)):=by rw[Bool.eq_iff_iff,decide_eq_true_eq,decide_eq_true_eq];omega
 (conv=>whnf)
 (repeat' (first|refine tuU ?_|split<;>rename_i hh<;>try simp only[wS] at hh|with_reducible refine lnI fun hln=>?_)<;>conv=>whnf)
 all_goals try(show _=_;simp only[wQ])
 ·symm;rw[decide_eq_true_eq];have:=a1 (by omega);omega
 ·rw[←hm,←a3 (by omega)];rfl
 ·show false=_;symm;rw[decide_eq_false_iff_not];have:=a2 (by omega);omega
def At3(s:List UInt8):LoopSpec:={
 α:=Nat
 keep:=[0,3,4]
 vals i:=[.str s,.int .u64 (sI (worth (s.take i))),.int .i64 i]
 heap _:=[]
 ok i:=i≤s.length
 μ i:=s.length - i }
def kO:PC:=PC.fun fun|[.str s]=>some (allDig s=true∧worth s≤18446744073709551615,.int .u64 (sI (worth s)))|_=>none
theorem Ml{s:List UInt8}{i:Nat}(h:i≤s.length):worth (s.take i)≤worth s:=by
 have:=Zo (s.take i) (s.drop i);rw[List.take_append_drop] at this;have hp:1≤10 ^ (s.drop i).length:=Nat.one_le_pow _ _ (by decide)
 have:=Nat.mul_le_mul_left (worth (s.take i)) hp;omega
def W5:List AV→Nat→Option LR:=fun cs i=>match cs with|[.str s]=>cond (Nat.beq i 3) (some (.inv (At3 s))) (none)|_=>none
theorem M2{W:World}(hW:Tabs W):GoodP (Fw W) Tryz.prog 240 kO:=by
 have hD:=A9 hW;have hC0:Ad (Fw W) Tryz.prog Am:=(Ba hW);refine Au (D:=A8) (C:=Am) (wr:=(fun _=>false)) rfl Ao hD hC0 Tryz.func240 (W5) ?_;clear hC0 hD hW;intro cs p r h hf hp;split at h
 case h_2=>cases h
 rename_i s;cases h;try simp only[Az,Bd,Aw,Go.Vc.lo,Go.Vc.hi,and_true] at hf
 obtain⟨hd,hl⟩:=hp
 (conv=>whnf)
 refine⟨?_,fun(i:Nat) (hi:i≤s.length)=>?_⟩
 ·(conv=>whnf)
  refine⟨(0:Nat),[],?_,⟨⟨rfl,(nB rfl),rfl⟩,?_,?_⟩⟩
  ·exact Nat.zero_le _
  ·(conv=>whnf)
   (repeat' (first|with_reducible exact⟨⟩|refine tuA ?_|with_reducible refine iA ?_ ?_)<;>conv=>whnf)
   all_goals try simp only[wQ]
   all_goals (try first|omega)
   simp[worth]
  ·exact tL
 ·have hw:=Ml hi;have hdig:i<s.length→48≤(s.getD (Int.toNat (i:Int)) 0).toNat∧(s.getD (Int.toNat (i:Int)) 0).toNat≤57:=fun h=>Sg h hd;have hw3:i<s.length→worth (s.take (i+1))=10*worth (s.take i)+((s.getD (Int.toNat (i:Int)) 0).toNat - 48):=fun h=>Dl h;have hw5:i<s.length→worth (s.take (i+1))≤worth s:=fun h=>Ml (by omega)
  have hsi:=De (worth (s.take i))
  (conv=>whnf)
  (repeat' (first|refine tuU ?_|split<;>rename_i hh<;>try simp only[wS] at hh|with_reducible refine lnI fun hln=>?_)<;>conv=>whnf)
  all_goals try(show _=_;simp only[wQ])
  ·(conv=>whnf)
   refine⟨(i+1:Nat),[],?_,⟨⟨rfl,(nB rfl),rfl⟩,?_,?_⟩⟩
   ·exact⟨show i+1≤s.length by omega,show s.length - (i+1)<s.length - i by omega⟩
   ·exact tL
   ·exact tL
  ·rw[List.take_of_length_le (by omega)]
@[irreducible] def Ee(s:List UInt8)(m:Int):Int × Int:=if Dr s=true then(if m<(worth s:Int) then(0,5) else((worth s:Int),0)) else(0,4)
def V9:PC:=PC.fun fun|[.str s,.int .u64 m]=>some (True,.tup [.int .u64 (sI (Ee s m).1),.int .i64 (sI (Ee s m).2)])|_=>none
def Gh:PT:=Cg [(238,kM),(239,Acc),(240,kO)]
theorem Ki{W:World}(hW:Tabs W):Cb (Fw W) Tryz.prog Gh:=(Ab Tryz.call238 (Ig hW) (Ab Tryz.call239 (M1 hW) (Ab Tryz.call240 (M2 hW) Aq)))
def Gi:FuncId→Option Ctr:=Av Gh []
theorem Tq{W:World}(hW:Tabs W):Ad (Fw W) Tryz.prog Gi:=(Ar (Ki hW))
theorem Tr{W:World}(hW:Tabs W):GoodP (Fw W) Tryz.prog 172 V9:=by
 have hD:=Ki hW;have hC0:Ad (Fw W) Tryz.prog Gi:=(Tq hW);refine Au (D:=Gh) (C:=Gi) (wr:=(fun _=>false)) rfl Ao hD hC0 Tryz.func172 (fun _ _=>none) ?_;clear hC0 hD hW;intro cs p r h hf hp;split at h
 case h_2=>cases h
 rename_i s m;cases h;try simp only[Az,Bd,Aw,Go.Vc.lo,Go.Vc.hi,and_true] at hf
 by_cases h1:Dr s=true
 ·by_cases h2:m<(worth s:Int)
  ·have e:Ee s m=(0,5):=by unfold Ee;rw[if_pos h1,if_pos h2]
   (conv=>whnf)
   (repeat' (first|with_reducible exact⟨⟩|refine tuU ?_|split<;>rename_i hh<;>try simp only[wS] at hh|with_reducible refine iA ?_ ?_)<;>conv=>whnf)
   all_goals try(show _=_;simp only[wQ])
   all_goals first|(rw[e];done)|(simp_all;done)|skip
  ·have e:Ee s m=((worth s:Int),0):=(by unfold Ee;rw[if_pos h1,if_neg h2]);have h3:allDig s=true∧worth s≤18446744073709551615:=⟨(K2 h1).1,by omega⟩
   (conv=>whnf)
   (repeat' (first|with_reducible exact⟨⟩|refine tuU ?_|split<;>rename_i hh<;>try simp only[wS] at hh|with_reducible refine iA ?_ ?_)<;>conv=>whnf)
   all_goals try(show _=_;simp only[wQ])
   all_goals first|(rw[e];done)|(simp_all;done)|skip
 ·have e:Ee s m=(0,4):=by unfold Ee;rw[if_neg h1]
  (conv=>whnf)
  (repeat' (first|with_reducible exact⟨⟩|refine tuU ?_|split<;>rename_i hh<;>try simp only[wS] at hh|with_reducible refine iA ?_ ?_)<;>conv=>whnf)
  all_goals try(show _=_;simp only[wQ])
  all_goals first|(rw[e];done)|(simp_all;done)|skip
def Ye(c b:Int):Int:=if 48≤c∧c≤57 then(if c - 48≥b then -1 else c - 48) else if 97≤c∧c≤102 then(if c - 87≥b then -1 else c - 87) else -1
def Azb:PC:=PC.fun fun|[.int .i32 c,.int .i64 b]=>some (2≤b,.int .i64 (sI (Ye c b)))|_=>none
theorem Acd{W:World}(hW:Tabs W):GoodP (Fw W) Tryz.prog 242 Azb:=by
 have hD:=A9 hW;have hC0:Ad (Fw W) Tryz.prog Am:=(Ba hW);refine Au (D:=A8) (C:=Am) (wr:=(fun _=>false)) rfl Ao hD hC0 Tryz.func242 (fun _ _=>none) ?_;clear hC0 hD hW;intro cs p r h hf hp;split at h
 case h_2=>cases h
 rename_i c b;cases h;try simp only[Az,Bd,Aw,Go.Vc.lo,Go.Vc.hi,and_true] at hf
 (conv=>whnf)
 (repeat' (first|refine tuU ?_|split<;>rename_i hh<;>try simp only[wS] at hh)<;>conv=>whnf)
 all_goals try(show _=_;simp only[wQ])
 all_goals (unfold Ye;repeat' split)<;>omega
end
end Go.Vc.Z
namespace Go.Vc.Z
open Go Go.Vc Go.Proofs Go.RowKit Go.Pl Go.Lib
noncomputable section
set_option maxRecDepth 100000
attribute [local irreducible] inK Utf8.decode Utf8.encode Lib.itoa Pl.worth Pl.allDig
theorem wrap_u64(n:Int):IntKind.u64.wrap n=n % 18446744073709551616:=by simp[IntKind.wrap,IntKind.bits,IntKind.signed]
def Ap1(s:List UInt8)(m:Int):LoopSpec:={
 α:=Nat
 keep:=[1,6,7,23]
 vals i:=[.int .u64 m,.int .u64 (sI ((worth (s.take i) % 18446744073709551616:Nat):Int)),.bool (sB (decide (18446744073709551615<worth (s.take i)))),.iter 0]
 heap i:=[.iter s i]
 ok i:=i≤s.length∧allDig (s.take i)=true
 μ i:=s.length - i }
def N6:PT:=Cg [(242,Azb)]
theorem Up{W:World}(hW:Tabs W):Cb (Fw W) Tryz.prog N6:=(Ab Tryz.call242 (Acd hW) Aq)
def N7:FuncId→Option Ctr:=Av N6 []
theorem kP{W:World}(hW:Tabs W):Ad (Fw W) Tryz.prog N7:=(Ar (Up hW))
def kQ:List AV→Nat→Option LR:=fun cs i=>match cs with|[.str s,.int _ m]=>cond (Nat.beq i 5) (some (.inv (Ap1 s m))) (none)|_=>none
set_option maxHeartbeats 2000000 in
theorem kR{W:World}(hW:Tabs W):GoodP (Fw W) Tryz.prog 176 V9:=by
 have hD:=Up hW;have hC0:Ad (Fw W) Tryz.prog N7:=(kP hW);refine Au (D:=N6) (C:=N7) (wr:=(fun t=>Nat.beq t 41 || Nat.beq t 44)) rfl Ao hD hC0 Tryz.func176 (kQ) ?_
 clear hC0 hD hW;intro cs p r h hf hp;split at h
 case h_2=>cases h
 rename_i s m;cases h;try simp only[Az,Bd,Aw,Go.Vc.lo,Go.Vc.hi,and_true] at hf
 have e0:s.getD (Int.toNat 0) 0=s.getD 0 0:=rfl;have hbyte:∀ c:UInt8,eqI (c.toNat:Int) 48=(c == 48):=fun c=>kF c 48;by_cases hs:s=[]
 ·subst hs;have e:Ee [] m=(0,4):=by unfold Ee;rw[if_neg (by simp[Dr])]
  (conv=>whnf)
  (repeat' (first|with_reducible exact⟨⟩|refine tuU ?_|with_reducible refine iA ?_ ?_)<;>conv=>whnf)
  all_goals try(show _=_;simp only[wQ])
  all_goals first|(rw[e];done)|skip
 ·have hpos:0<s.length:=List.length_pos_iff.2 hs;by_cases hz:((s.getD (Int.toNat 0) 0).toNat:Int)=48∧¬s=[48]
  ·have e:Ee s m=(0,4):=by
    unfold Ee;rw[if_neg];unfold Dr;have a1:(s == [48])=false:=(by rw[beq_eq_false_iff_ne];exact hz.2);have a2:s.getD 0 0=48:=UInt8.toNat_inj.1 (Int.ofNat.inj hz.1);rw[a1,a2];simp
   (conv=>whnf)
   (repeat' (first|with_reducible exact⟨⟩|refine tuU ?_|split<;>rename_i hh<;>try simp only[wS] at hh|with_reducible refine iA ?_ ?_)<;>conv=>whnf)
   all_goals try(show _=_;simp only[wQ])
   all_goals first|(rw[e];done)|(simp_all;done)|skip
  ·have hdec:allDig s=true→Dr s=true:=fun h=>by
    unfold Dr;rw[h,Bool.true_and,Bool.or_eq_true,Bool.and_eq_true,beq_iff_eq,bne_iff_ne,bne_iff_ne];by_cases h1:s=[48]
    ·exact .inl h1
    ·refine .inr ⟨hs,fun h2=>hz ⟨?_,h1⟩⟩;rw[e0,h2];rfl
   (conv=>whnf)
   (repeat' (first|with_reducible exact⟨⟩|refine tuU ?_|split<;>rename_i hh<;>try simp only[wS] at hh|with_reducible refine iA ?_ ?_)<;>conv=>whnf)
   all_goals try(show _=_;simp only[wQ])
   all_goals first|exact absurd (by assumption) hs|exact absurd ⟨by assumption,by assumption⟩ hz|skip
   all_goals (
    refine⟨?_,fun(i:Nat) (hi:i≤s.length∧allDig (s.take i)=true)=>?_⟩
    ·(conv=>whnf)
     refine⟨(0:Nat),[],?_,⟨⟨rfl,(nB rfl),rfl⟩,?_,?_⟩⟩
     ·exact⟨Nat.zero_le _,by simp[allDig]⟩
     ·(conv=>whnf)
      (repeat' (first|with_reducible exact⟨⟩|refine tuA ?_|with_reducible refine iA ?_ ?_)<;>conv=>whnf)
      all_goals try simp only[wQ]
      all_goals simp[worth]
     ·exact tL
    ·obtain⟨h1,h2⟩:=hi;have hdw:sI (Ye (Bg s i) 10)=Ye (Bg s i) 10:=De _;have hcase:(48≤Bg s i∧Bg s i≤57∧Ye (Bg s i) 10=Bg s i - 48)∨(¬(48≤Bg s i∧Bg s i≤57)∧Ye (Bg s i) 10= -1):=by
      unfold Ye;repeat' split
      all_goals omega
     have hbad:i<s.length→¬(48≤Bg s i∧Bg s i≤57)→Ee s m=(0,4):=fun h hc=>by
      have:allDig s=false:=Ya h (by rcases Dy h with h6|h6<;>omega)
      unfold Ee;rw[if_neg];unfold Dr;rw[this];simp
     have hsi:=De ((worth (s.take i) % 18446744073709551616:Nat):Int);have hE:s.length≤i→Ee s m=if m<(worth (s.take i):Int) then(0,5) else((worth (s.take i):Int),0):=fun h=>by
      rw[List.take_of_length_le h] at h2 ⊢;unfold Ee;rw[if_pos (hdec h2)]
     have hE1:s.length≤i→(18446744073709551615<worth (s.take i)∨m<(worth (s.take i):Int))→Ee s m=(0,5):=fun h hc=>by rw[hE h,if_pos (by omega)]
     have hE2:s.length≤i→(worth (s.take i):Int)≤m→Ee s m=((worth (s.take i):Int),0):=fun h hc=>by rw[hE h,if_neg (by omega)]
     (conv=>whnf)
     (repeat' (first|with_reducible exact⟨⟩|refine tuU ?_|split<;>rename_i hh<;>try simp only[wS] at hh|with_reducible refine iA ?_ ?_)<;>conv=>whnf)
     all_goals try(show _=_;simp only[wQ])
     all_goals first|(rw[hbad (by omega) (by omega)];done)|(rw[hE1 (by omega) (by omega)];done)|(rw[hE2 (by omega) (by omega)];done)|(rw[hE2 (by omega) (by omega)];omega)|skip
     all_goals (
      obtain⟨h6,h7,h8⟩:Bg s i=((s.getD i 0).toNat:Int)∧Ai s i=1∧(s.getD i 0).toNat<128:=by
       rcases Dy (l:=s) (p:=i) (by omega) with h6|h6<;>omega
      have hst:=Dl (l:=s) (i:=i) (by omega)
      (conv=>whnf)
      refine⟨(i+1:Nat),[],?_,⟨⟨rfl,(nB rfl),rfl⟩,?_,?_⟩⟩
      ·exact⟨⟨show i+1≤s.length by omega,Eb (by omega) h2 (by omega) (by omega)⟩,show s.length - (i+1)<s.length - i by omega⟩
      ·(conv=>whnf)
       (repeat' (first|with_reducible exact⟨⟩|refine tuA ?_|with_reducible refine iA ?_ ?_)<;>conv=>whnf)
       all_goals try simp only[wQ]
       all_goals first|(rw[jI,jI,wrap_u64,wrap_u64];omega)|(symm;rw[decide_eq_true_eq];omega)|(show ltI _ _=_;rw[Dm,Bool.eq_iff_iff,decide_eq_true_eq,decide_eq_true_eq];omega)
      ·exact tL
      )
    )
@[irreducible] def Aj(s:List UInt8):Int × Bool:=((Ee s 9223372036854775807).1,decide ((Ee s 9223372036854775807).2=0))
theorem Aen(s:List UInt8)(m:Int)(hm:0≤m):0≤(Ee s m).1∧(Ee s m).1≤m:=by
 unfold Ee;repeat' split
 all_goals (simp only[];omega)
def Wa:PC:=PC.fun fun|[.str s]=>some (True,.tup [.int .i64 (sI (Aj s).1),.bool (sB (Aj s).2)])|_=>none
def N8:PT:=Cg [(176,V9)]
theorem Uq{W:World}(hW:Tabs W):Cb (Fw W) Tryz.prog N8:=(Ab Tryz.call176 (kR hW) Aq)
def N9:FuncId→Option Ctr:=Av N8 []
theorem kS{W:World}(hW:Tabs W):Ad (Fw W) Tryz.prog N9:=(Ar (Uq hW))
theorem G5{W:World}(hW:Tabs W):GoodP (Fw W) Tryz.prog 93 Wa:=by
 have hD:=Uq hW;have hC0:Ad (Fw W) Tryz.prog N9:=(kS hW);refine Au (D:=N8) (C:=N9) (wr:=(fun _=>false)) rfl Ao hD hC0 Tryz.func93 (fun _ _=>none) ?_;clear hC0 hD hW;intro cs p r h hf hp;split at h
 case h_2=>cases h
 rename_i s;cases h;try simp only[Az,Bd,Aw,Go.Vc.lo,Go.Vc.hi,and_true] at hf
 have h1:=Aen s 9223372036854775807 (by decide)
 have h2:=De (Ee s 9223372036854775807).1;have h3:(Aj s).1=(Ee s 9223372036854775807).1:=by unfold Aj;rfl
 have h4:(Aj s).2=decide ((Ee s 9223372036854775807).2=0):=by unfold Aj;rfl
 (conv=>whnf)
 (repeat' (first|with_reducible exact⟨⟩|refine tuU ?_|with_reducible refine iA ?_ ?_)<;>conv=>whnf)
 all_goals try(show _=_;simp only[wQ])
 ·rw[h3]
 ·rw[h4,Ca,Bool.eq_iff_iff,beq_iff_eq,decide_eq_true_eq]
@[irreducible] def Ay(s:List UInt8):Int:=if (Ee s 4611686018427387904).2=0 then(Ee s 4611686018427387904).1 else -1
def Zq:PC:=PC.fun fun|[.str s]=>some (True,.int .i64 (sI (Ay s)))|_=>none
def H4:PT:=Cg [(172,V9)]
theorem M3{W:World}(hW:Tabs W):Cb (Fw W) Tryz.prog H4:=(Ab Tryz.call172 (Tr hW) Aq)
def H5:FuncId→Option Ctr:=Av H4 []
theorem W6{W:World}(hW:Tabs W):Ad (Fw W) Tryz.prog H5:=(Ar (M3 hW))
theorem E9{W:World}(hW:Tabs W):GoodP (Fw W) Tryz.prog 87 Zq:=by
 have hD:=M3 hW;have hC0:Ad (Fw W) Tryz.prog H5:=(W6 hW);refine Au (D:=H4) (C:=H5) (wr:=(fun _=>false)) rfl Ao hD hC0 Tryz.func87 (fun _ _=>none) ?_;clear hC0 hD hW;intro cs p r h hf hp;split at h
 case h_2=>cases h
 rename_i s;cases h;try simp only[Az,Bd,Aw,Go.Vc.lo,Go.Vc.hi,and_true] at hf
 have h1:=Aen s 4611686018427387904 (by decide)
 have h2:=De (Ee s 4611686018427387904).1
 (conv=>whnf)
 (repeat' (first|refine tuU ?_|split<;>rename_i hh<;>try simp only[wS] at hh)<;>conv=>whnf)
 all_goals try(show _=_;simp only[wQ])
 ·unfold Ay;rw[if_neg (by assumption)]
 ·unfold Ay;rw[if_pos (by assumption)]
end
end Go.Vc.Z
namespace Go.Proofs
open Go.Shelf Go.RowKit
set_option maxRecDepth 1000000
def Tryz.laysJoin_ren:Go.Shelf.Ren:=⟨fun|156=>62|165=>134|166=>101|169=>102|240=>182|241=>209|276=>249|277=>271|n=>n,fun|31=>32|9=>9|3=>3|4=>4|0=>0|20=>20|72=>152|76=>155|70=>149|37=>150|75=>154|127=>221|164=>264|5=>5|80=>162|n=>n,fun|n=>n⟩
theorem Tryz.laysJoin:Go.Proofs.Lays.n156 Tryz.prog Tryz.laysJoin_ren:={
 mixed:=by kernel_rfl
 f156:=Tryz.func62.trans (congrArg some (by kernel_rfl))
 f165:=Tryz.func134.trans (congrArg some (by kernel_rfl))
 f166:=Tryz.func101.trans (congrArg some (by kernel_rfl))
 f169:=Tryz.func102.trans (congrArg some (by kernel_rfl))
 f240:=Tryz.func182.trans (congrArg some (by kernel_rfl))
 f241:=Tryz.func209.trans (congrArg some (by kernel_rfl))
 f276:=Tryz.func249.trans (congrArg some (by kernel_rfl))
 f277:=Tryz.func271.trans (congrArg some (by kernel_rfl))
 t0:=Tryz.underlying0
 a0:=Tryz.isAgg0
 z0:=Tryz.sizeOf0
 v0:=Tryz.zeroValue0
 t3:=Tryz.underlying3
 a3:=Tryz.isAgg3
 z3:=Tryz.sizeOf3
 v3:=Tryz.zeroValue3
 t4:=Tryz.underlying4
 a4:=Tryz.isAgg4
 z4:=Tryz.sizeOf4
 v4:=Tryz.zeroValue4
 t9:=Tryz.underlying9
 a9:=Tryz.isAgg9
 z9:=Tryz.sizeOf9
 v9:=Tryz.zeroValue9
 t20:=Tryz.underlying20
 a20:=Tryz.isAgg20
 z20:=Tryz.sizeOf20
 v20:=Tryz.zeroValue20
 t31:=Tryz.underlying32
 a31:=Tryz.isAgg32
 z31:=Tryz.sizeOf32
 v31:=Tryz.zeroValue32
 t37:=Tryz.underlying150
 a37:=Tryz.isAgg150
 z37:=Tryz.sizeOf150
 v37:=Tryz.zeroValue150
 t70:=Tryz.underlying149
 a70:=Tryz.isAgg149
 z70:=Tryz.sizeOf149
 v70:=Tryz.zeroValue149
 t72:=Tryz.underlying152
 a72:=Tryz.isAgg152
 z72:=Tryz.sizeOf152
 v72:=Tryz.zeroValue152
 t75:=Tryz.underlying154
 a75:=Tryz.isAgg154
 z75:=Tryz.sizeOf154
 v75:=Tryz.zeroValue154
 t76:=Tryz.underlying155
 a76:=Tryz.isAgg155
 z76:=Tryz.sizeOf155
 v76:=Tryz.zeroValue155
 t127:=Tryz.underlying221
 a127:=Tryz.isAgg221
 z127:=Tryz.sizeOf221
 v127:=Tryz.zeroValue221
 t164:=Tryz.underlying264
 a164:=Tryz.isAgg264
 z164:=Tryz.sizeOf264
 v164:=Tryz.zeroValue264 }
def Tryz.laysItoa_ren:Go.Shelf.Ren:=⟨fun|171=>111|243=>189|246=>190|283=>203|284=>204|285=>205|286=>206|129=>267|317=>266|318=>268|319=>269|320=>270|337=>301|338=>302|n=>n,fun|3=>3|9=>9|2=>2|4=>4|171=>233|0=>0|53=>37|37=>150|5=>5|173=>235|212=>281|51=>282|20=>20|213=>283|46=>284|232=>323|233=>324|n=>n,fun|17=>0|18=>4|19=>5|n=>n⟩
theorem Tryz.laysItoa:Go.Proofs.LaysM.n171 Tryz.prog Tryz.laysItoa_ren:={
 mixed:=by kernel_rfl
 f129:=Tryz.func267.trans (congrArg some (by kernel_rfl))
 f171:=Tryz.func111.trans (congrArg some (by kernel_rfl))
 f243:=Tryz.func189.trans (congrArg some (by kernel_rfl))
 f246:=Tryz.func190.trans (congrArg some (by kernel_rfl))
 f283:=Tryz.func203.trans (congrArg some (by kernel_rfl))
 f284:=Tryz.func204.trans (congrArg some (by kernel_rfl))
 f285:=Tryz.func205.trans (congrArg some (by kernel_rfl))
 f286:=Tryz.func206.trans (congrArg some (by kernel_rfl))
 f317:=Tryz.func266.trans (congrArg some (by kernel_rfl))
 f318:=Tryz.func268.trans (congrArg some (by kernel_rfl))
 f319:=Tryz.func269.trans (congrArg some (by kernel_rfl))
 f320:=Tryz.func270.trans (congrArg some (by kernel_rfl))
 f337:=Tryz.func301.trans (congrArg some (by kernel_rfl))
 f338:=Tryz.func302.trans (congrArg some (by kernel_rfl))
 t0:=Tryz.underlying0
 a0:=Tryz.isAgg0
 z0:=Tryz.sizeOf0
 v0:=Tryz.zeroValue0
 t2:=Tryz.underlying2
 a2:=Tryz.isAgg2
 z2:=Tryz.sizeOf2
 v2:=Tryz.zeroValue2
 t3:=Tryz.underlying3
 a3:=Tryz.isAgg3
 z3:=Tryz.sizeOf3
 v3:=Tryz.zeroValue3
 t4:=Tryz.underlying4
 a4:=Tryz.isAgg4
 z4:=Tryz.sizeOf4
 v4:=Tryz.zeroValue4
 t5:=Tryz.underlying5
 a5:=Tryz.isAgg5
 z5:=Tryz.sizeOf5
 v5:=Tryz.zeroValue5
 t9:=Tryz.underlying9
 a9:=Tryz.isAgg9
 z9:=Tryz.sizeOf9
 v9:=Tryz.zeroValue9
 t20:=Tryz.underlying20
 a20:=Tryz.isAgg20
 z20:=Tryz.sizeOf20
 v20:=Tryz.zeroValue20
 t37:=Tryz.underlying150
 a37:=Tryz.isAgg150
 z37:=Tryz.sizeOf150
 v37:=Tryz.zeroValue150
 t46:=Tryz.underlying284
 a46:=Tryz.isAgg284
 z46:=Tryz.sizeOf284
 v46:=Tryz.zeroValue284
 t51:=Tryz.underlying282
 a51:=Tryz.isAgg282
 z51:=Tryz.sizeOf282
 v51:=Tryz.zeroValue282
 t53:=Tryz.underlying37
 a53:=Tryz.isAgg37
 z53:=Tryz.sizeOf37
 v53:=Tryz.zeroValue37
 t171:=Tryz.underlying233
 a171:=Tryz.isAgg233
 z171:=Tryz.sizeOf233
 v171:=Tryz.zeroValue233
 t173:=Tryz.underlying235
 a173:=Tryz.isAgg235
 z173:=Tryz.sizeOf235
 v173:=Tryz.zeroValue235
 t212:=Tryz.underlying281
 a212:=Tryz.isAgg281
 z212:=Tryz.sizeOf281
 v212:=Tryz.zeroValue281
 t213:=Tryz.underlying283
 a213:=Tryz.isAgg283
 z213:=Tryz.sizeOf283
 t232:=Tryz.underlying323
 a232:=Tryz.isAgg323
 z232:=Tryz.sizeOf323
 v232:=Tryz.zeroValue323
 t233:=Tryz.underlying324
 a233:=Tryz.isAgg324
 z233:=Tryz.sizeOf324
 v233:=Tryz.zeroValue324
 g17:=by kernel_rfl
 g18:=by kernel_rfl
 g19:=by kernel_rfl
 i0:=by kernel_rfl
 i2:=by kernel_rfl
 i3:=by kernel_rfl
 i4:=by kernel_rfl
 i5:=by kernel_rfl
 i9:=by kernel_rfl
 i20:=by kernel_rfl
 i37:=by kernel_rfl
 i46:=by kernel_rfl
 i51:=by kernel_rfl
 i53:=by kernel_rfl
 i171:=by kernel_rfl
 i173:=by kernel_rfl
 i212:=by kernel_rfl
 i232:=by kernel_rfl
 i233:=by kernel_rfl
 m17:=by kernel_rfl
 m18:=by kernel_rfl
 m19:=by kernel_rfl }
end Go.Proofs
namespace Go.Proofs
open Go.Shelf Go.RowKit
theorem Tryz.extra:Builder.Extra Tryz.prog Tryz.laysJoin_ren:={
 sizeBuilder:=by kernel_rfl
 liesBuilder:=by kernel_rfl
 t5:=by kernel_rfl
 a5:=fun w=>Tryz.isAgg5 w
 z5:=fun w=>Tryz.sizeOf5 w
 v5:=fun w=>Tryz.zeroValue5 w
 infoByte:=by kernel_rfl
 cellsByte:=by kernel_rfl
 sizeByte:=by kernel_rfl
 neB5:=by decide }
end Go.Proofs
namespace Go.Vc
open Go Go.Proofs Go.RowKit
theorem tW{S:Nat→Prop}{w w':World}(h:Below w.heap.size w w'):Ext (fun _=>none) S w (fun _=>none) S w':=
 ⟨fun _ _ h=>(by cases h),fun _ h=>h,fun b hb _=>h.block b hb,h.size,fun b arr T fr hb=>⟨arr,fr,(h.block b (lt_of_some hb)).trans hb,rfl⟩,fun _ _ h=>(by cases h),fun _ h=>.inl h,h.os,h.tape,h.output⟩
theorem Lx{F:Nat→Obj→Prop}{P:Program}{f:FuncId}{α:Type}{args:α→List AV}{pre:α→Prop}{res:α→AV}(hflat:∀ x,(res x).flat=true)(hu:∀ x,Fa 0 (args x)=true)
  (h:∀ x S w vs,pre x→Az (args x)→Sok F S w→VL (fun _=>none) S w (args x) vs→Calls P f vs w fun e w'=>∃ v,e= .returned v∧(∀ S' w',V (fun _=>none) S' w' (res x) v)∧Below w.heap.size w w'):GoodP F P f (PC.of args pre res):=by
 intro S w cs vs Q hs hv hpre;obtain⟨x,h1,h2,h3⟩:=hpre;have hl:=Kv h2;have hv':VL (fun _=>none) S w (args x) vs:=by
  refine⟨by rw[←hl];exact hv.1,fun i c v hc hv'=>?_⟩
  have hi:i<cs.length:=by
   rcases Nat.lt_or_ge i (args x).length with h'|h'
   ·omega
   ·rw[List.getElem?_eq_none h'] at hc;cases hc
  exact(hv.2 i cs[i] v (List.getElem?_eq_getElem hi) hv').le (σ:=fun i=>i) (n:=0) (fun i b hi=>by omega) (Sa h2 i _ _ (List.getElem?_eq_getElem hi) hc) (Dh (hu x) i c hc)
 refine(h x S w vs h1 hv'.fact hs hv').mono ?_;rintro e w' ⟨v,rfl,hV,hb⟩;exact⟨v,res x,S,rfl,h3,hV S w',tW hb,hs.still (tW hb)⟩
theorem V.slR{ρ:Nat→Option Nat}{S:Nat→Prop}{w:World}{clip:Bool}{sz len:Nat}{get:Nat→List AV}{v:Value}(h:V ρ S w (.sl clip sz len get) v):
  (len=0∧∃ ao,v= .slice ao 0 0)∨∃ b o cap,∃ f:Nat→Nat→Value,v= .slice (some ⟨b,o,none⟩) len cap∧(0<len→S b∧b<w.heap.size)∧len≤cap∧cap≤maxLen∧(∀ e,e<len→(get e).length=sz)∧
   (∀ e j,e<len→j<sz→w.cell? ⟨b,o+e*sz+j,none⟩=some (f e j))∧(∀ (e j:Nat) (c:AV),e<len→(get e)[j]? =some c→VI S w (fun _=>none) c (f e j)):=by
 cases h with
 |sln=>exact .inl ⟨rfl,_,rfl⟩
 |sl _ _ _ _ b o cap f hs hl hm hcl hz hc hv=>exact .inr ⟨b,o,cap,f,rfl,hs,hl,hm,hz,hc,hv⟩
theorem V.strR'{ρ:Nat→Option Nat}{S:Nat→Prop}{w:World}{l:List UInt8}{v:Value}(h:V ρ S w (.str l) v):∃ s:ByteArray,v= .string s∧s.data.toList=l∧l.length≤maxLen:=by
 cases h with|str _ s h1 h2=>exact⟨s,rfl,h1,h2⟩
abbrev slS(l:List (List UInt8)):AV:=.sl false 1 l.length (fun e=>[.str (l.getD e [])])
def A0i:PC:=PC.of (fun x:List (List UInt8) × List UInt8=>[slS x.1,.str x.2]) (fun x=>(Lib.join x.1 x.2).length≤140737488355328∧x.1.length≤140737488355328) (fun x=>.str (Lib.join x.1 x.2))
theorem Ap2{F:Nat→Obj→Prop}:GoodP F Tryz.prog 62 A0i:=by
 refine Lx (fun _=>rfl) (fun _=>rfl) ?_;rintro⟨l,sep⟩ S w vs ⟨hpre,hlen⟩ hf hs hv;simp only at hpre hlen hv;obtain⟨vs⟩:=vs;match vs,hv with
 |[a,b],hv=>
  have ha:=hv.2 0 _ _ rfl rfl;have hb:=hv.2 1 _ _ rfl rfl;obtain⟨sb,rfl,hsb,h2⟩:=V.strR' hb;have fin:∀ r:List UInt8,r.length≤140737488355328→∀ S' w',V (fun _=>none) S' w' (.str r) (.string ⟨r.toArray⟩):=fun r hr S' w'=>.str _ _ (by simp) (by rw[Ch];omega)
  rcases ha.slR with ⟨h0,ao,rfl⟩|⟨b,o,cap,f,rfl,hst,hl,hm,hz,hc,hv'⟩
  ·obtain rfl:l=[]:=List.length_eq_zero_iff.1 h0;refine(Any.strings_Join_none Tryz.laysJoin Tryz.extra ao 0 sb w).mono ?_;rintro e w' ⟨rfl,rfl⟩;exact⟨_,rfl,fin [] (by simp),Below.refl _ _⟩
  ·have hstr:∀ (j:Nat),j<l.length→∃ s:ByteArray,f j 0= .string s∧s.data.toList=l.getD j []:=fun j hj=>by
    obtain⟨s,h1,h3,_⟩:=V.strR' (hv' j 0 _ hj rfl);exact⟨s,h1,h3⟩
   have hxs:∃ xs:List ByteArray,xs.map (·.data.toList)=l∧∀ (j:Nat) x,xs[j]? =some x→w.cell? ⟨b,o+j,none⟩=some (.string x):=by
    refine⟨l.map fun s=>⟨s.toArray⟩,by simp[Function.comp_def],fun j x hx=>?_⟩
    rw[List.getElem?_map] at hx;cases hj:l[j]? with
    |none=>rw[hj] at hx;cases hx
    |some s=>
     rw[hj] at hx;cases hx;have hlt:j<l.length:=(List.getElem?_eq_some_iff.1 hj).1;obtain⟨s',h1,h3⟩:=hstr j hlt;have:=hc j 0 hlt (by omega)
     rw[Nat.mul_one,Nat.add_zero] at this;rw[this,h1];have e:l.getD j []=s:=(by rw[List.getD_eq_getElem?_getD,hj];rfl);rw[e] at h3;rw[←h3]
   obtain⟨xs,hx1,hx2⟩:=hxs;have hxl:xs.length=l.length:=(by rw[←hx1];simp);by_cases h0:l.length=0
   ·obtain rfl:l=[]:=List.length_eq_zero_iff.1 h0;refine(Any.strings_Join_none Tryz.laysJoin Tryz.extra (some ⟨b,o,none⟩) cap sb w).mono ?_;rintro e w' ⟨rfl,rfl⟩;exact⟨_,rfl,fin [] (by simp),Below.refl _ _⟩
   ·have:=Any.strings_Join Tryz.laysJoin Tryz.extra b o cap xs sb w hx2 (hst (by omega)).2 (by omega) (by omega) (by rw[hx1,hsb];exact hpre)
    rw[hx1,hsb,hxl] at this;refine this.mono ?_;rintro e w' ⟨rfl,hb⟩;exact⟨_,rfl,fin _ hpre,hb⟩
 |[],hv=>simp[VL] at hv
 |[_],hv=>simp[VL] at hv
 |_::_::_::_,hv=>have:=hv.1;simp at this
end Go.Vc
namespace Go.Vc
open Go Go.Proofs Go.RowKit Go.Sort
theorem below_grow{w:World}(k:Nat)(os:Array Obj):Below w.heap.size w (grow (w.drewN k) os):=by
 refine⟨rfl,rfl,rfl,?_,fun b hb=>?_⟩
 ·show w.heap.size≤(w.heap++os).size;simp
 ·show(w.heap++os)[b]? =w.heap[b]?;rw[Array.getElem?_append_left hb]
def A0j:PC:=PC.of (fun n:Int=>[.int .i64 n]) (fun _=>True) (fun n=>.str (Lib.itoa n))
theorem kT:∀ (k u:Nat),u<10 ^ (k+1)→Lib.nDigits u≤k+1
 |0,u,h=>by rw[Lib.nDigits_small (by simpa using h)];omega
 |k+1,u,h=>by
  by_cases h1:u<10
  ·rw[Lib.nDigits_small h1];omega
  ·rw[Lib.nDigits_big h1];have:=kT k (u / 10) (by rw[Nat.pow_succ] at h;omega)
   omega
theorem Aku{u:Nat}(h:u<10000000000000000000000000000000):(Lib.decDigits u).length≤31:=by
 rw[Lib.decDigits_length];exact kT 30 u h
theorem Bj(n:Int)(h0: -9223372036854775808≤n)(h1:n≤9223372036854775807):(Lib.itoa n).length≤32:=by
 unfold Lib.itoa;split
 ·have:=Aku (u:=n.natAbs) (by omega)
  simp;omega
 ·have:=Aku (u:=n.toNat) (by omega)
  omega
theorem Ap3{W:World}(hW:Tabs W):GoodP (Fw W) Tryz.prog 111 A0j:=by
 refine Lx (fun _=>rfl) (fun _=>rfl) ?_;intro n S w vs _ hf hs hv;obtain⟨vs⟩:=vs;match vs,hv with
 |[a],hv=>
  obtain⟨rfl,hn⟩:=(hv.2 0 _ _ rfl rfl).intR;obtain⟨h0,h1⟩:=hn;refine(Any.strconv_Itoa Tryz.laysItoa n h0 h1 w (hW.pow hs)).mono ?_;rintro e w' ⟨rfl,k,os,rfl⟩;exact⟨_,rfl,fun S' w'=>.str _ _ (by simp) (by rw[Ch];have:=Bj n h0 h1;omega),below_grow k os⟩
 |[],hv=>simp[VL] at hv
 |_::_::_,hv=>have:=hv.1;simp at this
end Go.Vc
namespace Go.Vc
open Go Go.Proofs Go.RowKit Go.Sort
end Go.Vc
namespace Go.Vc
open Go Go.Proofs Go.RowKit Go.Sort
end Go.Vc
namespace Go.Vc.Z
open Go Go.Vc Go.Proofs Go.RowKit
set_option maxRecDepth 100000
attribute [local irreducible] inK
end Go.Vc.Z
namespace Go.Vc.Z
open Go Go.Vc Go.Proofs Go.RowKit
set_option maxRecDepth 100000
attribute [local irreducible] inK
end Go.Vc.Z
namespace Go.Proofs
open Go.Shelf Go.RowKit
set_option maxRecDepth 1000000
theorem Tryz.laysCopyCheck:Lays.n240 Tryz.prog Tryz.laysJoin_ren:={ Tryz.laysJoin with }
theorem Tryz.laysBString:Lays.n169 Tryz.prog Tryz.laysJoin_ren:={ Tryz.laysJoin with }
theorem Tryz.x72:Builder.X72 Tryz.prog Tryz.laysJoin_ren:={
 sizeBuilder:=by kernel_rfl
 liesBuilder:=by kernel_rfl }
section
variable {P : Program} {ρ : Ren}
set_option maxHeartbeats 2000000 in
theorem Ace(L:Lays.n169 P ρ)(X:Builder.Extra P ρ)(b g n cap:Nat)(p:Value)(cs cur:Array Value)(T:TypeId)(fr fr':Nat × Nat)(l:List UInt8)(w:World)
  (hbk:w.heap[b]? =some (.cells cs T fr)) (hcs:cs[1]? =some (.slice (some ⟨g,0,none⟩) l.length cap)) (hg:w.heap[g]? =some (.cells cur (ρ.t 5) fr')) (h0:0<l.length) (hcap:l.length≤cap) (hm:cap≤maxLen) (hle:l.length≤cur.size)
  (hcell:∀ (j:Nat) (x:UInt8),l[j]? =some x→w.cell? ⟨g,j,none⟩=some (.int .u8 x.toNat)):
  Calls P (ρ.f 169) #[.pointer (some ⟨b,0,none⟩)] w fun e w'=>e= .returned (.string ⟨l.toArray⟩)∧w'=w.drew.freeze ⟨g,0,none⟩ l.length:=by
 have hl0:l≠[]:=by rintro rfl;simp at h0
 have c1:w.drew.cell? ⟨b,1,none⟩=some (.slice (some ⟨g,0,none⟩) l.length cap):=by
  have:w.drew.heap[b]? =some (.cells cs T fr):=hbk;rw[Lib.cell_of_heap this];exact hcs
 have hSD:(Builtin.unsafeSliceData_ #[(ρ.t 37)] (ρ.t 127) #[.slice (some ⟨g,0,none⟩) l.length cap]).run P w.drew= .ok (.pointer (some ⟨g,0,none⟩)) w.drew:=
  Lib.run_unsafeSliceData_row _ _ _ _ _ _ (by omega)
 have hUS:(Builtin.unsafeString_ #[(ρ.t 127),(ρ.t 3)] (ρ.t 9) #[.pointer (some ⟨g,0,none⟩),.int .i64 l.length]).run P w.drew= .ok (.string ⟨l.toArray⟩) (w.drew.freeze ⟨g,0,none⟩ l.length):=by
  refine Lib.run_unsafeString_row w.drew (ρ.t 127) (ρ.t 3) (ρ.t 9) (ρ.t 5) L.t127 X.cellsByte g cur.size (by have hg':w.drew.heap[g]? =some (.cells cur (ρ.t 5) fr'):=hg;simp[World.shape?,hg']) l hl0 (by omega) (by unfold maxLen at hm;omega) ?_
  intro j x hx;rw[Go.Vc.addr_add,Nat.zero_add];exact hcell j x hx
 have mixed:=L.mixed;have t72:=L.t72;have a72:=L.a72;have z72:=L.z72;have v72:=L.v72;have u72:=run_underlying L.t72;have t70:=L.t70;have a70:=L.a70;have z70:=L.z70;have v70:=L.v70;have u70:=run_underlying L.t70;have t37:=L.t37;have a37:=L.a37;have z37:=L.z37;have v37:=L.v37;have u37:=run_underlying L.t37;have t127:=L.t127;have a127:=L.a127;have z127:=L.z127;have v127:=L.v127;have u127:=run_underlying L.t127;have t3:=L.t3;have a3:=L.a3;have z3:=L.z3;have v3:=L.v3;have u3:=run_underlying L.t3;have t9:=L.t9;have a9:=L.a9;have z9:=L.z9;have v9:=L.v9;have u9:=run_underlying L.t9;have t5:=X.t5;have a5:=X.a5;have z5:=X.z5;have v5:=X.v5;have u5:=run_underlying X.t5
 go_enter L.f169,Body.n169_ntmps ρ
 go_wp2
 go_region_o
 all_goals (go_wp2;go_ret;exact⟨rfl,rfl⟩)
end
end Go.Proofs
namespace Go.Vc
open Go Go.Proofs Go.RowKit
def At4:Nat:=152
def Azc:Nat:=5
def K3:Ctr:=fun cs H Q=>match cs with
 |[.ptr id 0]=>(match H[id]? with
  |some (.var [p,buf] (some T))=>T=At4∧(match p with
   | .nilp=>Q (.tup []) (H.set id (.var [.ptr id 0,buf] (some T)))
   | .ptr id' 0=>id'=id∧Q (.tup []) H
   |_=>False)
  |_=>False)
 |_=>False
theorem Xn{F:Nat→Obj→Prop}:Good F Tryz.prog 182 K3:=by
 intro ρ S w H cs vs Q hs hH hv hK;unfold K3 at hK;split at hK
 ·rename_i id;split at hK
  ·rename_i p buf T hid;obtain⟨rfl,hK⟩:=hK;obtain⟨vs⟩:=vs;match vs,hv with
   |[a],hv=>
    obtain⟨b,rfl,hb⟩:=(hv.2 0 _ _ rfl rfl).ptrR;obtain⟨hns,arr,T',fr,h1,h2,h3,h4⟩:=hH.blk _ _ hid b hb;have h1:w.heap[b]? =some (.cells arr At4 fr):=h1;have h2:arr.size=2:=h2;have e0:arr[0]? =some (arr.getD 0 undef):=(by simp[h2]);have hsh:w.shape? b=some (At4,2):=(by simp[World.shape?,h1,h2]);have hc:w.cell? ⟨b,0,none⟩=some (arr.getD 0 undef):=(by simp only[World.cell?,h1];exact e0);have v0:=h4 0 p _ rfl e0;split at hK
    ·cases hv0:arr.getD 0 undef<;>rw[hv0] at v0<;>cases v0
     rw[hv0] at hc;refine(Any.Builder_copyCheck_fresh Tryz.laysCopyCheck Tryz.x72 b w hc hsh (h3 0 (by omega))).mono ?_
     rintro e w' ⟨rfl,rfl⟩;have hw:w.setCell ⟨b,0,none⟩ (.pointer (some ⟨b,0,none⟩))=w.setCells b 0 [.pointer (some ⟨b,0,none⟩)]:=rfl;rw[hw];have hheap:=Ds b [.pointer (some ⟨b,0,none⟩)] 0 w arr At4 fr h1;have hE:Ext ρ S w ρ S (w.setCells b 0 [.pointer (some ⟨b,0,none⟩)]):=Pj hH hb hns (setCells_size _ _ _ _) (fun k hk=>Cv b _ _ _ k hk)
      (fun a' T2 f' h'=>by rw[h1] at h';cases h';exact⟨_,_,hheap,Du _ _ _⟩) (Cc _ _ _ _).1 (Cc _ _ _ _).2.1 (Cc _ _ _ _).2.2
     refine⟨_,.tup [],_,ρ,S,rfl,hK,.tup _ _ rfl (fun i c v hc=>by simp at hc),Jj hH hid rfl hb hE (setCells_size _ _ _ _) (fun k hk=>Cv b _ _ _ k hk) ?_,hE,hs.still hE⟩
     intro b' hb';rw[hb] at hb';cases hb';refine⟨hns,_,T',fr,hheap,by rw[Du];exact h2,fun o ho=>?_,fun k c v hk hv=>?_⟩
     ·rw[Du] at ho;rw[World.frozen?_setCells];exact h3 o ho
     ·rw[Vy _ _ _ _ (by simp;omega)] at hv
      cases k with
      |zero=>simp at hk hv;subst hk;subst hv;exact .ptr _ _ _ hb
      |succ k=>
       rw[if_neg (by simp)] at hv
       exact(h4 (k+1) c v hk hv).mono hE
    ·obtain⟨rfl,hK⟩:=hK;obtain⟨b',hb',hb''⟩:=v0.ptrR;rw[hb] at hb'';cases hb'';rw[hb'] at hc;refine(Any.Builder_copyCheck_used Tryz.laysCopyCheck Tryz.x72 b w hc).mono ?_;rintro e w' ⟨rfl,rfl⟩;exact⟨_,.tup [],_,ρ,S,rfl,hK,.tup _ _ rfl (fun i c v hc=>by simp at hc),hH,Ext.refl _ _ _,hs⟩
    ·exact hK.elim
   |[],hv=>simp[VL] at hv
   |_::_::_,hv=>have:=hv.1;simp at this
  ·exact hK.elim
 ·exact hK.elim
def Oa:Ctr:=fun cs H Q=>match cs with
 |[.ptr id 0]=>(match H[id]? with
  |some (.var [_,.osl r 1 0 n _] (some _))=>(match H[r]? with
   |some (.row 1 L get (some E))=>(E=Azc∧0<n∧n≤L∧∀ e,e<n→(Jk (get e)).isSome=true)∧Q (.str (bytesOf n get)) (H.set r .dead)
   |_=>False)
  |_=>False)
 |_=>False
theorem Ur{F:Nat→Obj→Prop}:Good F Tryz.prog 102 Oa:=by
 intro ρ S w H cs vs Q hs hH hv hK;unfold Oa at hK;split at hK
 ·rename_i id;split at hK
  ·rename_i p r n cap T hid;split at hK
   ·rename_i L get E hr;obtain⟨⟨rfl,h0,hnL,hby⟩,hK⟩:=hK;obtain⟨vs⟩:=vs;match vs,hv with
    |[a],hv=>
     obtain⟨b,rfl,hb⟩:=(hv.2 0 _ _ rfl rfl).ptrR;obtain⟨hns,arr,T',fr,h1,h2,h3,h4⟩:=hH.blk _ _ hid b hb;have h2:arr.size=2:=h2;have e1:arr[1]? =some (arr.getD 1 undef):=(by simp[h2]);obtain⟨g,o,cp,hsl,hg,hl,hm,ho,_,_⟩:=(h4 1 _ _ rfl e1).oslR;have ho:o=0:=(by rw[ho (by omega)]);subst ho;obtain⟨hgs,cur,T2,fr2,g1,g2,g3,g4,g5⟩:=hH.blk _ _ hr g hg;have g1:w.heap[g]? =some (.cells cur Azc fr2):=g1;rw[Nat.mul_one] at g2;have hbl:(bytesOf n get).length=n:=(by simp[bytesOf]);have hcell:∀ (j:Nat) (x:UInt8),(bytesOf n get)[j]? =some x→w.cell? ⟨g,j,none⟩=some (.int .u8 x.toNat):=fun j x hx=>by
      have hj:j<n:=by
       rcases Nat.lt_or_ge j n with h|h
       ·exact h
       ·rw[List.getElem?_eq_none (by rw[hbl];exact h)] at hx;cases hx
      obtain⟨k,hk1,hk2,hk3⟩:∃ k:Int,get j=[.int .u8 k]∧True∧True:=by
       have:=hby j hj;unfold Jk at this;split at this
       ·rename_i k hk;exact⟨k,hk,trivial,trivial⟩
       ·cases this
      have hlt:j<cur.size:=(by omega);have hv:=g5 j 0 (.int .u8 k) cur[j] (by omega) (by rw[hk1];rfl) (by simp[hlt])
      obtain⟨hv1,hv2⟩:=hv.intR;simp only[bytesOf,List.getElem?_map,List.getElem?_range hj,Option.map_some,Option.some.injEq,hk1,Jk,Option.getD_some] at hx;simp only[World.cell?,g1];rw[Array.getElem?_eq_getElem hlt,hv1,←hx];have:0≤k∧k≤255:=hv2;congr 2
      simp[UInt8.toNat_ofNat];omega
     have call:=Ace Tryz.laysBString Tryz.extra b g n cp (arr.getD 0 undef) arr cur _ fr fr2 (bytesOf n get) w h1 (by rw[e1,hsl,hbl]) g1 (by omega) (by omega) hm (by omega) hcell
     rw[hbl] at call;refine call.mono ?_;rintro e w' ⟨rfl,rfl⟩;have hn0: ¬n=0:=(by omega);have hoth:∀ k,k≠g→(w.drew.freeze ⟨g,0,none⟩ n).heap[k]? =w.heap[k]? :=fun k hk=>by
      unfold World.freeze;rw[if_neg hn0];show(w.heap.modify g _)[k]? =_;rw[Array.getElem?_modify,if_neg (Ne.symm hk)]
     have hsz:(w.drew.freeze ⟨g,0,none⟩ n).heap.size=w.heap.size:=by
      unfold World.freeze;rw[if_neg hn0];show(w.heap.modify g _).size=_;simp
     have hE:Ext ρ S w ρ S (w.drew.freeze ⟨g,0,none⟩ n):=
      Pj hH hg hgs hsz hoth (fun arr2 T3 fr3 h=>by
       obtain⟨lo,hi⟩:=fr3;refine⟨arr2,(if lo == hi then(0,0+n) else(min lo 0,max hi (0+n))),?_,rfl⟩
       unfold World.freeze;rw[if_neg hn0];show(w.heap.modify g _)[g]? =_;rw[Array.getElem?_modify,if_pos rfl,h];rfl)
       (by unfold World.freeze;rw[if_neg hn0];rfl) (by unfold World.freeze;rw[if_neg hn0];rfl) (by unfold World.freeze;rw[if_neg hn0];rfl)
     exact⟨_,.str _,_,ρ,S,rfl,hK,.str _ _ (by simp) (by rw[hbl];omega),Jj hH hr rfl hg hE hsz hoth trivial,hE,hs.still hE⟩
    |[],hv=>simp[VL] at hv
    |_::_::_,hv=>have:=hv.1;simp at this
   ·exact hK.elim
  ·exact hK.elim
 ·exact hK.elim
end Go.Vc
namespace Go.Vc
open Go Go.Proofs Go.RowKit
theorem GoodP.imp{F:Nat→Obj→Prop}{P:Program}{f:FuncId}{pc pc':PC}(h:GoodP F P f pc)(hi:∀ cs Q,pc'.T cs Q→pc.T cs Q):GoodP F P f pc':=
 fun S w cs vs Q hs hv hT=>h S w cs vs Q hs hv (hi cs Q hT)
namespace Z
noncomputable section
def Lo:PC:=PC.fun fun|[.int .i64 n]=>some (True,.str (sS (Lib.itoa n)))|_=>none
theorem Ank{W:World}(hW:Tabs W):GoodP (Fw W) Tryz.prog 111 Lo:=by
 refine(Ap3 hW).imp fun cs Q h=>?_;simp only[Lo,PC.fun] at h;split at h
 ·rename_i p r hf;split at hf
  ·cases hf;rename_i n;rw[Cn] at h;exact⟨n,trivial,⟨⟨rfl,rfl⟩,trivial⟩,h.2⟩
  ·cases hf
 ·exact h.elim
def Sl:PC:=PC.of (fun x:List (List UInt8) × List UInt8=>[slS x.1,.str x.2]) (fun x=>(Lib.join x.1 x.2).length≤140737488355328∧x.1.length≤140737488355328) (fun x=>.str (sS (Lib.join x.1 x.2)))
theorem Nn{W:World}(_:Tabs W):GoodP (Fw W) Tryz.prog 62 Sl:=by
 refine Ap2.imp fun cs Q h=>?_;obtain⟨x,h1,h2,h3⟩:=h;simp only[Cn] at h3;exact⟨x,h1,h2,h3⟩
end
end Z
end Go.Vc
