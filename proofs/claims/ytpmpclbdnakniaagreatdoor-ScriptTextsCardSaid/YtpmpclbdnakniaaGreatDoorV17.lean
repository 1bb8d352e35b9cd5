/- Texts cut at a byte, and joined: the plain law. -/
import Derived.Test.YtpmpclbdnakniaaGreatDoorV12
import Derived.Test.YtpmpclbdnakniaaGreatDoorV11
import Derived.Test.YtpmpclbdnakniaaGreatDoorV15
import Derived.Test.YtpmpclbdnakniaaGreatDoorV16
import Derived.Lib.Split
import Derived.Lib.Join
import Derived.Lib.CountLaws
set_option linter.all false
namespace Go.Pl
open Go Go.Lib
def Ew(c:UInt8)(o:List (List UInt8))(x:UInt8):List (List UInt8):=if x=c then o++[[]] else o.dropLast++[o.getLastD []++[x]]
def Aa(c:UInt8)(s:List UInt8):List (List UInt8):=s.foldl (Ew c) [[]]
theorem lG(c:UInt8)(o:List (List UInt8))(x:UInt8):Ew c o x≠[]:=by
 unfold Ew;split<;>simp
theorem Ae4(c:UInt8)(p o:List (List UInt8))(ho:o≠[])(x:UInt8):Ew c (p++o) x=p++Ew c o x:=by
 unfold Ew;split
 ·simp
 ·rw[List.dropLast_append_of_ne_nil ho,List.append_assoc];congr 2
  rw[List.getLastD_eq_getLast?,List.getLastD_eq_getLast?,List.getLast?_append];cases h:o.getLast? with
  |none=>exact absurd (List.getLast?_eq_none_iff.1 h) ho
  |some y=>rfl
theorem Ak3(c:UInt8):∀ (s:List UInt8) (p o:List (List UInt8)),o≠[]→s.foldl (Ew c) (p++o)=p++s.foldl (Ew c) o
 |[],_,_,_=>rfl
 |x::s,p,o,ho=>by
  rw[List.foldl_cons,List.foldl_cons,Ae4 c p o ho,Ak3 c s _ _ (lG c o x)]
theorem Ajp(c:UInt8):∀ (s:List UInt8) (w:List UInt8),c ∉ s→s.foldl (Ew c) [w]=[w++s]
 |[],w,_=>by simp
 |x::s,w,h=>by
  rw[List.foldl_cons];have hx: ¬x=c:=fun e=>h (by rw[e];simp)
  have:Ew c [w] x=[w++[x]]:=by unfold Ew;rw[if_neg hx];rfl
  rw[this,Ajp c s _ (fun hm=>h (List.mem_cons_of_mem _ hm))];simp
theorem Lq{c:UInt8}{s:List UInt8}(h:c ∉ s):Aa c s=[s]:=by
 unfold Aa;rw[Ajp c s [] h];simp
theorem Jv{c:UInt8}{a:List UInt8}(h:c ∉ a)(b:List UInt8):Aa c (a++c::b)=a::Aa c b:=by
 unfold Aa;rw[List.foldl_append,Ajp c a [] h,List.nil_append,List.foldl_cons];have:Ew c [a] c=[a]++[[]]:=by unfold Ew;rw[if_pos rfl]
 rw[this,Ak3 c b [a] [[]] (by simp)];rfl
theorem Ae5(c:UInt8):Aa c []=[[]]:=rfl
theorem uE(c:UInt8)(s:List UInt8)(x:UInt8):Aa c (s++[x])=Ew c (Aa c s) x:=by
 unfold Aa;rw[List.foldl_append];rfl
theorem Ak4(c:UInt8)(s:List UInt8):Aa c s≠[]:=by
 rcases List.eq_nil_or_concat s with rfl|⟨t,x,rfl⟩
 ·simp[Aa]
 ·rw[List.concat_eq_append,uE];exact lG _ _ _
theorem Di(c:UInt8)(s:List UInt8):1≤(Aa c s).length:=List.length_pos_iff.2 (Ak4 c s)
theorem Ym{c:UInt8}{P:List UInt8→Prop}(h0:∀ s,c ∉ s→P s)(h1:∀ a b,c ∉ a→P b→P (a++c::b)):∀ (n:Nat) (s:List UInt8),s.length≤n→P s
 |0,s,h=>h0 s (by obtain rfl:=List.length_eq_zero_iff.1 (Nat.le_zero.1 h);simp)
 |n+1,s,h=>by
  by_cases hc:c ∈ s
  ·obtain⟨a,b,rfl,ha⟩:=List.eq_append_cons_of_mem hc;exact h1 a b ha (Ym h0 h1 n b (by simp at h;omega))
  ·exact h0 s hc
theorem U1(c:UInt8)(s:List UInt8):(Aa c s).length=s.count c+1:=by
 refine Ym (c:=c) (P:=fun s=>(Aa c s).length=s.count c+1) (fun s h=>?_) (fun a b ha ih=>?_) s.length s (Nat.le_refl _)
 ·rw[Lq h,List.count_eq_zero_of_not_mem h];rfl
 ·rw[Jv ha,List.length_cons,ih,List.count_append,List.count_cons_self,List.count_eq_zero_of_not_mem ha];omega
theorem Gw(c:UInt8)(s:List UInt8):(Aa c s).length≤s.length+1:=by
 rw[U1];have:=List.count_le_length (a:=c) (l:=s);omega
theorem Ri{c:UInt8}(s:List UInt8):∀ w ∈ Aa c s,w.length≤s.length∧c ∉ w:=by
 refine Ym (c:=c) (P:=fun s=>∀ w ∈ Aa c s,w.length≤s.length∧c ∉ w) (fun s h=>?_) (fun a b ha ih=>?_) s.length s (Nat.le_refl _)
 ·rw[Lq h];intro w hw;rw[List.mem_singleton] at hw;subst hw;exact⟨Nat.le_refl _,h⟩
 ·rw[Jv ha];intro w hw;rcases List.mem_cons.1 hw with rfl|hw
  ·exact⟨by simp,ha⟩
  ·have:=ih w hw;exact⟨by simp;omega,this.2⟩
theorem Anp(c:UInt8)(s:List UInt8):Lib.join (Aa c s) [c]=s:=by
 refine Ym (c:=c) (P:=fun s=>Lib.join (Aa c s) [c]=s) (fun s h=>?_) (fun a b ha ih=>?_) s.length s (Nat.le_refl _)
 ·rw[Lq h,Lib.join_one]
 ·rw[Jv ha];cases hb:Aa c b with
  |nil=>exact absurd hb (Ak4 c b)
  |cons x r=>
   rw[hb] at ih;have:Lib.join (a::x::r) [c]=a++c::Lib.join (x::r) [c]:=by simp[Lib.join_cons,Lib.joinTail]
   rw[this,ih]
theorem Ff{c:UInt8}:∀ {L:List (List UInt8)},L≠[]→(∀ w ∈ L,c ∉ w)→Aa c (Lib.join L [c])=L
 |[],h,_=>absurd rfl h
 |[x],_,h=>by rw[Lib.join_one,Lq (h x (by simp))]
 |x::y::r,_,h=>by
  have:Lib.join (x::y::r) [c]=x++c::Lib.join (y::r) [c]:=by simp[Lib.join_cons,Lib.joinTail]
  rw[this,Jv (h x (by simp)),Ff (by simp) (fun w hw=>h w (List.mem_cons_of_mem _ hw))]
theorem cN{s:List UInt8}{c:UInt8}{j:Nat}:occAt s [c] j=(s[j]? == some c):=by
 unfold occAt;induction s generalizing j with
 |nil=>simp
 |cons x s ih=>
  cases j with
  |zero=>simp[List.isPrefixOf,Bool.beq_comm (a:=x)]
  |succ j=>simpa using ih (j:=j)
theorem Ss{c:UInt8}{s:List UInt8}(h:c ∉ s):index s [c]= -1:=by
 refine index_none fun j _=>?_;rw[cN,beq_eq_false_iff_ne];exact fun e=>h (List.mem_of_getElem? e)
theorem Nh{c:UInt8}{a:List UInt8}(h:c ∉ a)(b:List UInt8):index (a++c::b) [c]=a.length:=by
 refine index_first (by simp) ?_ fun j hj=>?_
 ·rw[cN];simp
 ·rw[cN,beq_eq_false_iff_ne,List.getElem?_append_left hj];exact fun e=>h (List.mem_of_getElem? e)
theorem uF(c:UInt8)(s:List UInt8):Lib.split s [c]=Aa c s:=by
 refine Ym (c:=c) (P:=fun s=>Lib.split s [c]=Aa c s) (fun s h=>?_) (fun a b ha ih=>?_) s.length s (Nat.le_refl _)
 ·unfold Lib.split;rw[count_miss (Ss h),Lq h];rfl
 ·have hi:=Nh ha b;have hd:(a++c::b).drop (a.length+1)=b:=by simp
  unfold Lib.split at ih ⊢;rw[count_hit (by simp) hi,Nat.add_comm,Jv ha,←ih]
  rw[splitK,hi,if_neg (by simp)]
  simp only[Int.toNat_natCast,Nat.add_zero,List.length_singleton,hd,List.take_left']
def Bp(c:UInt8)(s:List UInt8):List UInt8 × List UInt8 × Bool:=Lib.cut s [c]
theorem We{c:UInt8}{a:List UInt8}(h:c ∉ a)(b:List UInt8):Bp c (a++c::b)=(a,b,true):=by
 unfold Bp Lib.cut;rw[Nh h,if_pos (by omega)];simp
theorem Wg(c:UInt8)(s:List UInt8):(Bp c s).1.length≤s.length∧(Bp c s).2.1.length≤s.length:=by
 unfold Bp Lib.cut;split<;>simp;exact Nat.min_le_right _ _
end Go.Pl
namespace Go.Vc.Z
open Go Go.Vc Go.Proofs Go.RowKit Go.Pl Go.Lib
theorem Rj(u:Nat):Dr (decDigits u)=true:=by
 unfold Dr;rw[Dq,Bool.true_and];rcases Nat.eq_zero_or_pos u with rfl|h
 ·rw[show decDigits 0=[48] by rw[I9 (by decide)];rfl];rfl
 ·obtain⟨c,t,he,h1,h2⟩:=Apv u h;rw[he];have: ¬c=48:=fun e=>by rw[e] at h1;exact absurd h1 (by decide)
  simp[this]
theorem uG{u:Nat}{m:Int}(h:(u:Int)≤m):Ee (decDigits u) m=((u:Int),0):=by
 unfold Ee;rw[if_pos (Rj u),Ea,if_neg (by omega)]
theorem Ae6{n:Int}(h:0≤n):Lib.itoa n=decDigits n.toNat:=by unfold Lib.itoa;rw[if_neg (by omega)]
theorem By{n:Int}(h0:0≤n)(h1:n≤9223372036854775807):Aj (Lib.itoa n)=(n,true):=by
 have:((n.toNat:Nat):Int)=n:=by omega
 unfold Aj;rw[Ae6 h0,uG (by omega),this];rfl
theorem Bz{n:Int}(h0:0≤n)(h1:n≤4611686018427387904):Ay (Lib.itoa n)=n:=by
 have:((n.toNat:Nat):Int)=n:=by omega
 unfold Ay;rw[Ae6 h0,uG (by omega),this,if_pos rfl]
theorem I2{t:Int}(h:checkN t=0):numOf (A6 t)=(t,0):=by
 obtain⟨h0,h1⟩:=Ui h;have e:((t.toNat:Nat):Int)=t:=by omega
 have hl:(decDigits t.toNat).length=13:=by
  rw[decDigits_length];exact nDigits_unique 12 t.toNat (by omega) (by omega)
 unfold A6 numOf;rw[if_pos h,if_pos ⟨hl,Dq _⟩,Ea,e,if_pos h]
@[irreducible] def statOf(s:List UInt8):Int:=if s=[79] then 1 else if s=[67] then 2 else if s=[76] then 3 else if s=[70] then 4 else if s=[69] then 5 else if s=[82] then 6 else if s=[86] then 7 else if s=[83] then 8 else if s=[65] then 9 else 0
theorem Xp{k:Int}(h:Ji k=true):statOf (Cr k)=k:=by
 rw[lF h];rcases Si h with rfl|rfl|rfl|rfl|rfl|rfl|rfl|rfl|rfl<;>(unfold statOf;rfl)
theorem Yn{s:List UInt8}:statOf s=0∨Ji (statOf s)=true:=by
 unfold statOf Ji;repeat' split
 all_goals first|exact .inl rfl|exact .inr rfl
def Jd(s:List UInt8):Int:=100*worth (Bp 46 s).1+worth (Bp 46 s).2.1
def Rk(s:List UInt8):Bool:=(Bp 46 s).2.2&&Dr (Bp 46 s).1&&allDig (Bp 46 s).2.1&&decide ((Bp 46 s).2.1.length=2)
@[irreducible] def Da(s:List UInt8):Int × Int:=
 if Lib.hasPrefix s [45]=true then
  (if Rk (s.drop 1)=true∧Jd (s.drop 1)≠0 then(if 1000000000000<Jd (s.drop 1) then(0,14) else(-Jd (s.drop 1),0)) else(0,4))
 else if Rk s=true then(if 1000000000000<Jd s then(0,14) else(Jd s,0)) else(0,4)
theorem Ae7(a b:Int):allDig [Dz a,Dz b]=true∧worth [Dz a,Dz b]=10*(a % 10).toNat+(b % 10).toNat:=by
 refine⟨?_,?_⟩
 ·rw[Dp];intro c hc;simp only[List.mem_cons,List.not_mem_nil,or_false] at hc;rcases hc with rfl|rfl<;>exact Oh _
 ·simp only[worth,List.foldl_cons,List.foldl_nil,lE];omega
theorem uH{n:Int}:Bp 46 (Bl n)=(decDigits (n / 10 / 10).toNat,[Dz (n / 10),Dz n],true):=by
 unfold Bl;exact We (lC (by decide) _) _
theorem eI{n:Int}:Rk (Bl n)=true:=by
 unfold Rk;rw[uH];simp only[Bool.true_and,Rj,(Ae7 _ _).1];rfl
theorem U2{n:Int}(h:0≤n):Jd (Bl n)=n:=by
 unfold Jd;rw[uH];simp only[Ea,(Ae7 _ _).2];omega
theorem Yo{n:Int}:Lib.hasPrefix (Bl n) [45]=false:=by
 unfold Bl;have h1:=Dq (n / 10 / 10).toNat;have h2:=Ab6 (n / 10 / 10).toNat;cases hd:decDigits (n / 10 / 10).toNat with
 |nil=>exact absurd hd h2
 |cons c t=>
  rw[hd,Dp] at h1;have:=h1 c (by simp)
  have hc: ¬(45:UInt8)=c:=fun e=>by rw[←e] at this;exact absurd this (by decide)
  simp[Lib.hasPrefix,List.isPrefixOf,hc]
theorem Py{n:Int}(h:C4 n=true):Da (Cp n)=(n,0):=by
 have hb: -1000000000000≤n∧n≤1000000000000:=by unfold C4 at h;simpa using h
 unfold Cp Da Gj;rw[if_pos h];split
 ·rename_i hn;rw[if_pos (by simp[Lib.hasPrefix,List.isPrefixOf])]
  rw[show(45::Bl (-n)).drop 1=Bl (-n) from rfl,U2 (by omega),if_pos ⟨eI,by omega⟩,if_neg (by omega),Int.neg_neg]
 ·rw[if_neg (by rw[Yo];simp),if_pos eI,U2 (by omega),if_neg (by omega)]
@[irreducible] def D8(s:List UInt8):List UInt8 × Int × Bool:=((Bp 61 s).1,(Da (Bp 61 s).2.1).1,(Bp 61 s).2.2&&decide ((Da (Bp 61 s).2.1).2=0))
@[irreducible] def Ef(s:List UInt8):Coupon × Bool:=
 (⟨(Aj (Bp 64 (D8 s).1).1).1,(Aj (Bp 64 (D8 s).1).2.1).1,(D8 s).2.1,0,0,0⟩,(D8 s).2.2&&(Bp 64 (D8 s).1).2.2&&(Aj (Bp 64 (D8 s).1).1).2&&(Aj (Bp 64 (D8 s).1).2.1).2)
theorem Anq{c:Coupon}(h:Gg c 0=true):Ef (Bi c)=(c,true):=by
 unfold Gg F0 at h;simp only[Bool.and_eq_true,decide_eq_true_eq] at h;obtain⟨⟨⟨⟨⟨⟨h1,h2⟩,h3,h4⟩,h5⟩,h6⟩,h7⟩,h8⟩:=h;have e1:Bp 61 (Bi c)=(Lib.itoa c.flight++[64]++Lib.itoa c.day,Cp c.value,true):=by
  unfold Bi;rw[show Lib.itoa c.flight++[64]++Lib.itoa c.day++[61]++Cp c.value=(Lib.itoa c.flight++[64]++Lib.itoa c.day)++61::Cp c.value by simp]
  refine We ?_ _;simp only[List.mem_append,List.mem_singleton,not_or];exact⟨⟨D5 (by decide) (by decide) _,by decide⟩,D5 (by decide) (by decide) _⟩
 have e2:D8 (Bi c)=(Lib.itoa c.flight++[64]++Lib.itoa c.day,c.value,true):=by
  unfold D8;rw[e1];simp only[Py (Db h5)];rfl
 have e3:Bp 64 (Lib.itoa c.flight++[64]++Lib.itoa c.day)=(Lib.itoa c.flight,Lib.itoa c.day,true):=by
  rw[show Lib.itoa c.flight++[64]++Lib.itoa c.day=Lib.itoa c.flight++64::Lib.itoa c.day by simp]
  exact We (D5 (by decide) (by decide) _) _
 unfold Ef;rw[e2];simp only[e3,By (n:=c.flight) (by omega) (by omega),By (n:=c.day) (by omega) (by omega),Bool.true_and]
 cases c;simp_all
@[irreducible] def C7(s:List UInt8):Tax × Bool:=(⟨(Aj (D8 s).1).1,(D8 s).2.1⟩,(D8 s).2.2&&(Aj (D8 s).1).2)
theorem Anr{x:Tax}(h1:1≤x.code∧x.code≤99)(h2:C2 x.amount=true):C7 (E7 x)=(x,true):=by
 have e1:Bp 61 (E7 x)=(Lib.itoa x.code,Cp x.amount,true):=by
  unfold E7;rw[show Lib.itoa x.code++[61]++Cp x.amount=Lib.itoa x.code++61::Cp x.amount by simp]
  exact We (D5 (by decide) (by decide) _) _
 unfold C7 D8;rw[e1];simp only[Py (Db h2),By (n:=x.code) (by omega) (by omega),Bool.true_and];rfl
theorem Xq:∀ {l:List Tax} {n:Int},Co n l=true→1≤n→∀ x ∈ l,(1≤x.code∧x.code≤99)∧C2 x.amount=true
 |[],_,_,_,x,hx=>by cases hx
 |y::l,n,h,hn,x,hx=>by
  simp only[Co,Bool.and_eq_true,decide_eq_true_eq] at h;rcases List.mem_cons.1 hx with rfl|hx
  ·exact⟨⟨by omega,h.1.1.2⟩,h.1.2⟩
  ·exact Xq h.2 (by omega) x hx
theorem Su{l:List Tax}(h:C0 l=true):∀ x ∈ l,(1≤x.code∧x.code≤99)∧C2 x.amount=true:=by
 unfold C0 at h;simp only[Bool.and_eq_true] at h;exact Xq h.1 (by omega)
theorem uI{l:List Tax}(h:l≠[]):Aa 44 (Bm l)=l.map E7:=by
 have hl: ¬l.length=0:=fun e=>h (List.length_eq_zero_iff.1 e);unfold Bm;rw[if_neg hl];refine Ff (by simpa using h) fun w hw=>?_
 obtain⟨c,_,rfl⟩:=List.mem_map.1 hw;exact Aqn (by decide) (by decide) (by decide) (by decide) c
theorem eJ{l:List Tax}(h:l≠[]):Bm l≠[45]:=by
 have hl: ¬l.length=0:=fun e=>h (List.length_eq_zero_iff.1 e);intro e;have:(61:UInt8) ∈ Bm l:=by
  unfold Bm;rw[if_neg hl];cases l with
  |nil=>exact absurd rfl h
  |cons x l=>rw[List.map_cons,Lib.join_cons];exact List.mem_append_left _ (by unfold E7;simp)
 rw[e] at this;exact absurd this (by decide)
end Go.Vc.Z
namespace Go.Vc.Z
open Go Go.Vc Go.Proofs Go.RowKit Go.Pl Go.Lib
theorem eK{l:List Coupon}(h:l≠[]):Aa 44 (Bu l)=l.map Bi:=by
 unfold Bu;refine Ff (by simpa using h) fun w hw=>?_
 obtain⟨c,_,rfl⟩:=List.mem_map.1 hw;intro hm;unfold Bi at hm;simp only[List.mem_append,List.mem_singleton] at hm;rcases hm with (((hm|hm)|hm)|hm)|hm
 ·exact D5 (by decide) (by decide) _ hm
 ·exact absurd hm (by decide)
 ·exact D5 (by decide) (by decide) _ hm
 ·exact absurd hm (by decide)
 ·exact Ng (by decide) (by decide) (by decide) _ hm
theorem Yp{s:List UInt8}(h:F3 s=true):(32:UInt8) ∉ s:=by
 unfold F3 at h;simp only[Bool.and_eq_true,List.all_eq_true] at h;intro hm;exact absurd (h.1.1 32 hm) (by decide)
theorem lH(l:List Coupon):(32:UInt8) ∉ Bu l:=by
 unfold Bu;intro hm;rcases Rh hm with h|⟨s,hs,h⟩
 ·exact absurd h (by decide)
 ·obtain⟨x,_,rfl⟩:=List.mem_map.1 hs;unfold Bi at h;simp only[List.mem_append,List.mem_singleton] at h;rcases h with (((hm|hm)|hm)|hm)|hm
  ·exact D5 (by decide) (by decide) _ hm
  ·exact absurd hm (by decide)
  ·exact D5 (by decide) (by decide) _ hm
  ·exact absurd hm (by decide)
  ·exact Ng (by decide) (by decide) (by decide) _ hm
theorem Fg{r:Request}(h:Af r=true):r.kind=1∨r.kind=2∨r.kind=3∨r.kind=4∨r.kind=5∨r.kind=6∨r.kind=7∨r.kind=8∨r.kind=9∨r.kind=10:=
 kinds (Decidable.byContradiction fun hn=>by rw[Rf hn] at h;cases h)
theorem Ae8{r:Request}(h:Af r=true):Bn r≠[]∧∀ w ∈ Bn r,(32:UInt8) ∉ w:=by
 have hD:=fun n:Int=>D5 (k:=32) (by decide) (by decide) n
 have hT:=fun n:Int=>Aqm (k:=32) (by decide) n
 have hA:=fun n:Int=>Ng (k:=32) (by decide) (by decide) (by decide) n
 have hS:=fun n:Int=>uC (k:=32) (by decide) n
 rcases Fg h with k|k|k|k|k|k|k|k|k|k
 ·obtain⟨h1,_,h3,_⟩:=Ha k h;rw[K7 k];simp[hD,Yp h1,Aqo h3,lH,Ae2]
 ·obtain⟨h1,_⟩:=Iw k h;rw[K8 k];simp[hD,hT,hS,Yp h1]
 ·obtain⟨h1,_⟩:=Ix k h;rw[K9 k];simp[hD,hT,Yp h1]
 ·obtain⟨h1,_⟩:=Iy k h;rw[La k];simp[hD,hT,hA,Yp h1]
 ·obtain⟨h1,_⟩:=Hb k h;rw[Lb k];simp[hD,hT,hA,Yp h1,lH,Ae2]
 ·obtain⟨h1,_⟩:=Iz k h;rw[Lc k];simp[hD,hT,Yp h1]
 ·obtain⟨h1,_⟩:=I0 k h;rw[Ld k];simp[hD,hT,Yp h1]
 ·rw[Le k];simp[hT]
 ·have h1:=I1 k h;rw[Lf k];simp[Aqo h1]
 ·rw[Jc k];simp[hD]
theorem Ae9{r:Request}(h:Af r=true)(hf:Az [.agg r.enc]):(Lib.join (Bn r) [32]).length≤20000:=by
 have hc:Az [slE 6 Coupon.enc r.coupons]:=⟨hf.1.2.2.2.2.2.2.2.1,True.intro⟩;have ht:Az [slE 2 Tax.enc r.taxes]:=⟨hf.1.2.2.2.2.2.2.2.2.1,True.intro⟩;simp only[Az,Bd,Aw,Go.Vc.lo,Go.Vc.hi,and_true] at hf;have lT:=Fz r.ticket;have lS:=eG r.status;have lA:=Hm r.amount;have lD:=Bj r.day (by omega) (by omega)
 have lN:=Bj r.coupon (by omega) (by omega)
 have lR:=Bj r.frm (by omega) (by omega)
 have lQ:=Bj r.til (by omega) (by omega)
 have jW:∀ m:Int,m≤12→E5 m r.coupons=true→(Bu r.coupons).length≤3000:=fun m hm hj=>by
  obtain⟨j1,j2,j3⟩:=D7 hj;unfold Bu;have:=Z5 (l:=r.coupons) hc (by omega) r.coupons.length;rwa[List.take_length] at this
 have jX:C0 r.taxes=true→(Bm r.taxes).length≤1000:=fun hx=>Yg (Hp hx).1 (Q8 ht);have hW:Lib.join (Bn r) [32]=Be r:=by unfold Be;rw[if_pos h]
 rw[hW];rcases Fg h with k|k|k|k|k|k|k|k|k|k
 ·obtain⟨h1,_,h3,h4,h5⟩:=Ha k h;have:=Ev h1;have:=Wb h3;have:=jW 12 (by decide) h4;have:=jX h5
  rw[Ajo k h];simp;omega
 ·obtain⟨h1,_⟩:=Iw k h;have:=Ev h1;rw[Aqp k h];simp;omega
 ·obtain⟨h1,_⟩:=Ix k h;have:=Ev h1;rw[Aqq k h];simp;omega
 ·obtain⟨h1,_⟩:=Iy k h;have:=Ev h1;rw[Aqr k h];simp;omega
 ·obtain⟨h1,_,_,_,h4,h5⟩:=Hb k h;have:=Ev h1;have:=jW 4 (by decide) h4;have:=jX h5
  rw[Aqs k h];simp;omega
 ·obtain⟨h1,_⟩:=Iz k h;have:=Ev h1;rw[Aqt k h];simp;omega
 ·obtain⟨h1,_⟩:=I0 k h;have:=Ev h1;rw[Aqu k h];simp;omega
 ·rw[Aqv k h];simp;omega
 ·have h1:=I1 k h;have:=Wb h1;rw[Aqw k h];simp;omega
 ·rw[Ak2 k h];simp;omega
theorem Jw{r:Request}(h:Af r=true):Aa 32 (Be r)=Bn r:=by
 obtain⟨h1,h2⟩:=Ae8 h;unfold Be;rw[if_pos h];exact Ff h1 h2
end Go.Vc.Z
