/- Texts cut at a byte, and joined: the plain law. -/
import Derived.Test.YtpmpclbdnakniaaGreatDoorV12
import Derived.Test.YtpmpclbdnakniaaGreatDoorV10
import Derived.Test.YtpmpclbdnakniaaGreatDoorV14
import Derived.Test.YtpmpclbdnakniaaGreatDoorV15
import Derived.Lib.Split
import Derived.Lib.Join
import Derived.Lib.CountLaws
set_option linter.all false
set_option linter.unusedVariables false
set_option linter.unusedSimpArgs false
namespace Go.Pl
open Go Go.Lib
def Fv(c:UInt8)(o:List (List UInt8))(x:UInt8):List (List UInt8):=if x=c then o++[[]] else o.dropLast++[o.getLastD []++[x]]
def Aa(c:UInt8)(s:List UInt8):List (List UInt8):=s.foldl (Fv c) [[]]
theorem Ys(c:UInt8)(o:List (List UInt8))(x:UInt8):Fv c o x≠[]:=by
 unfold Fv;split<;>simp
theorem sJ(c:UInt8)(p o:List (List UInt8))(ho:o≠[])(x:UInt8):Fv c (p++o) x=p++Fv c o x:=by
 unfold Fv
 split
 ·simp
 ·rw[List.dropLast_append_of_ne_nil ho,List.append_assoc]
  congr 2
  rw[List.getLastD_eq_getLast?,List.getLastD_eq_getLast?,List.getLast?_append]
  cases h:o.getLast? with
  |none=>exact absurd (List.getLast?_eq_none_iff.1 h) ho
  |some y=>rfl
theorem Aac(c:UInt8):∀ (s:List UInt8) (p o:List (List UInt8)),o≠[]→s.foldl (Fv c) (p++o)=p++s.foldl (Fv c) o
 |[],_,_,_=>rfl
 |x::s,p,o,ho=>by
  rw[List.foldl_cons,List.foldl_cons,sJ c p o ho,Aac c s _ _ (Ys c o x)]
theorem yP(c:UInt8):∀ (s:List UInt8) (w:List UInt8),c ∉ s→s.foldl (Fv c) [w]=[w++s]
 |[],w,_=>by simp
 |x::s,w,h=>by
  rw[List.foldl_cons]
  have hx: ¬x=c:=fun e=>h (by rw[e];simp)
  have:Fv c [w] x=[w++[x]]:=by unfold Fv;rw[if_neg hx];rfl
  rw[this,yP c s _ (fun hm=>h (List.mem_cons_of_mem _ hm))]
  simp
theorem Px{c:UInt8}{s:List UInt8}(h:c ∉ s):Aa c s=[s]:=by
 unfold Aa;rw[yP c s [] h];simp
theorem Nk{c:UInt8}{a:List UInt8}(h:c ∉ a)(b:List UInt8):Aa c (a++c::b)=a::Aa c b:=by
 unfold Aa
 rw[List.foldl_append,yP c a [] h,List.nil_append,List.foldl_cons]
 have:Fv c [a] c=[a]++[[]]:=by unfold Fv;rw[if_pos rfl]
 rw[this,Aac c b [a] [[]] (by simp)];rfl
theorem Aco(c:UInt8)(s:List UInt8)(x:UInt8):Aa c (s++[x])=Fv c (Aa c s) x:=by
 unfold Aa;rw[List.foldl_append];rfl
theorem Aie(c:UInt8)(s:List UInt8):Aa c s≠[]:=by
 rcases List.eq_nil_or_concat s with rfl|⟨t,x,rfl⟩
 ·simp[Aa]
 ·rw[List.concat_eq_append,Aco];exact Ys _ _ _
theorem Gp(c:UInt8)(s:List UInt8):1≤(Aa c s).length:=List.length_pos_iff.2 (Aie c s)
theorem Ud{c:UInt8}{P:List UInt8→Prop}(h0:∀ s,c ∉ s→P s)(h1:∀ a b,c ∉ a→P b→P (a++c::b)):∀ (n:Nat) (s:List UInt8),s.length≤n→P s
 |0,s,h=>h0 s (by obtain rfl:=List.length_eq_zero_iff.1 (Nat.le_zero.1 h);simp)
 |n+1,s,h=>by
  by_cases hc:c ∈ s
  ·obtain⟨a,b,rfl,ha⟩:=List.eq_append_cons_of_mem hc
   exact h1 a b ha (Ud h0 h1 n b (by simp at h;omega))
  ·exact h0 s hc
theorem O1(c:UInt8)(s:List UInt8):(Aa c s).length=s.count c+1:=by
 refine Ud (c:=c) (P:=fun s=>(Aa c s).length=s.count c+1) (fun s h=>?_) (fun a b ha ih=>?_) s.length s (Nat.le_refl _)
 ·rw[Px h,List.count_eq_zero_of_not_mem h];rfl
 ·rw[Nk ha,List.length_cons,ih,List.count_append,List.count_cons_self,List.count_eq_zero_of_not_mem ha];omega
theorem Li(c:UInt8)(s:List UInt8):(Aa c s).length≤s.length+1:=by
 rw[O1];have:=List.count_le_length (a:=c) (l:=s);omega
theorem Ms{c:UInt8}(s:List UInt8):∀ w ∈ Aa c s,w.length≤s.length∧c ∉ w:=by
 refine Ud (c:=c) (P:=fun s=>∀ w ∈ Aa c s,w.length≤s.length∧c ∉ w) (fun s h=>?_) (fun a b ha ih=>?_) s.length s (Nat.le_refl _)
 ·rw[Px h];intro w hw;rw[List.mem_singleton] at hw;subst hw;exact⟨Nat.le_refl _,h⟩
 ·rw[Nk ha];intro w hw
  rcases List.mem_cons.1 hw with rfl|hw
  ·exact⟨by simp,ha⟩
  ·have:=ih w hw;exact⟨by simp;omega,this.2⟩
theorem Fg{c:UInt8}:∀ {L:List (List UInt8)},L≠[]→(∀ w ∈ L,c ∉ w)→Aa c (Lib.join L [c])=L
 |[],h,_=>absurd rfl h
 |[x],_,h=>by rw[Lib.join_one,Px (h x (by simp))]
 |x::y::r,_,h=>by
  have:Lib.join (x::y::r) [c]=x++c::Lib.join (y::r) [c]:=by simp[Lib.join_cons,Lib.joinTail]
  rw[this,Nk (h x (by simp)),Fg (by simp) (fun w hw=>h w (List.mem_cons_of_mem _ hw))]
theorem Ue{s:List UInt8}{c:UInt8}{j:Nat}:occAt s [c] j=(s[j]? == some c):=by
 unfold occAt
 induction s generalizing j with
 |nil=>simp
 |cons x s ih=>
  cases j with
  |zero=>simp[List.isPrefixOf,Bool.beq_comm (a:=x)]
  |succ j=>simpa using ih (j:=j)
theorem Nl{c:UInt8}{s:List UInt8}(h:c ∉ s):index s [c]= -1:=by
 refine index_none fun j _=>?_
 rw[Ue,beq_eq_false_iff_ne]
 exact fun e=>h (List.mem_of_getElem? e)
theorem Jt{c:UInt8}{a:List UInt8}(h:c ∉ a)(b:List UInt8):index (a++c::b) [c]=a.length:=by
 refine index_first (by simp) ?_ fun j hj=>?_
 ·rw[Ue];simp
 ·rw[Ue,beq_eq_false_iff_ne,List.getElem?_append_left hj]
  exact fun e=>h (List.mem_of_getElem? e)
theorem eT(c:UInt8)(s:List UInt8):Lib.split s [c]=Aa c s:=by
 refine Ud (c:=c) (P:=fun s=>Lib.split s [c]=Aa c s) (fun s h=>?_) (fun a b ha ih=>?_) s.length s (Nat.le_refl _)
 ·unfold Lib.split;rw[count_miss (Nl h),Px h];rfl
 ·have hi:=Jt ha b
  have hd:(a++c::b).drop (a.length+1)=b:=by simp
  unfold Lib.split at ih ⊢
  rw[count_hit (by simp) hi,Nat.add_comm,Nk ha,←ih]
  rw[splitK,hi,if_neg (by simp)]
  simp only[Int.toNat_natCast,Nat.add_zero,List.length_singleton,hd,List.take_left']
def Br(c:UInt8)(s:List UInt8):List UInt8 × List UInt8 × Bool:=Lib.cut s [c]
theorem Sa{c:UInt8}{a:List UInt8}(h:c ∉ a)(b:List UInt8):Br c (a++c::b)=(a,b,true):=by
 unfold Br Lib.cut;rw[Jt h,if_pos (by omega)];simp
theorem Py(c:UInt8)(s:List UInt8):(Br c s).1.length≤s.length∧(Br c s).2.1.length≤s.length:=by
 unfold Br Lib.cut;split<;>simp;exact Nat.min_le_right _ _
end Go.Pl
namespace Go.Vc.Z
open Go Go.Vc Go.Proofs Go.RowKit Go.Pl Go.Lib
theorem Pz(u:Nat):Fs (decDigits u)=true:=by
 unfold Fs
 rw[E9,Bool.true_and]
 rcases Nat.eq_zero_or_pos u with rfl|h
 ·rw[show decDigits 0=[48] by rw[Ic (by decide)];rfl];rfl
 ·obtain⟨c,t,he,h1,h2⟩:=Aev u h
  rw[he]
  have: ¬c=48:=fun e=>by rw[e] at h1;exact absurd h1 (by decide)
  simp[this]
theorem eU{u:Nat}{m:Int}(h:(u:Int)≤m):Ft (decDigits u) m=((u:Int),0):=by
 unfold Ft
 rw[if_pos (Pz u),G3,if_neg (by omega)]
theorem sK{n:Int}(h:0≤n):Lib.itoa n=decDigits n.toNat:=by unfold Lib.itoa;rw[if_neg (by omega)]
theorem Bz{n:Int}(h0:0≤n)(h1:n≤9223372036854775807):An (Lib.itoa n)=(n,true):=by
 have:((n.toNat:Nat):Int)=n:=by omega
 unfold An
 rw[sK h0,eU (by omega),this];rfl
theorem Nm{n:Int}(h0:0≤n)(h1:n≤4611686018427387904):Lx (Lib.itoa n)=n:=by
 have:((n.toNat:Nat):Int)=n:=by omega
 unfold Lx
 rw[sK h0,eU (by omega),this,if_pos rfl]
theorem Gy{t:Int}(h:checkN t=0):numOf (Ay t)=(t,0):=by
 obtain⟨h0,h1⟩:=Ot h
 have e:((t.toNat:Nat):Int)=t:=by omega
 have hl:(decDigits t.toNat).length=13:=by
  rw[decDigits_length];exact nDigits_unique 12 t.toNat (by omega) (by omega)
 unfold Ay numOf
 rw[if_pos h,if_pos ⟨hl,E9 _⟩,G3,e,if_pos h]
@[irreducible] def statOf(s:List UInt8):Int:=if s=[79] then 1 else if s=[67] then 2 else if s=[76] then 3 else if s=[70] then 4 else if s=[69] then 5 else if s=[82] then 6 else if s=[86] then 7 else if s=[83] then 8 else if s=[65] then 9 else 0
theorem dA{k:Int}(h:Iz k=true):statOf (Do k)=k:=by
 rw[yO h]
 rcases Ra h with rfl|rfl|rfl|rfl|rfl|rfl|rfl|rfl|rfl<;>(unfold statOf;rfl)
theorem yQ{s:List UInt8}:statOf s=0∨Iz (statOf s)=true:=by
 unfold statOf Iz
 repeat' split
 all_goals first|exact .inl rfl|exact .inr rfl
def Hv(s:List UInt8):Int:=100*worth (Br 46 s).1+worth (Br 46 s).2.1
def Mt(s:List UInt8):Bool:=(Br 46 s).2.2&&Fs (Br 46 s).1&&allDig (Br 46 s).2.1&&decide ((Br 46 s).2.1.length=2)
@[irreducible] def Di(s:List UInt8):Int × Int:=
 if Lib.hasPrefix s [45]=true then
  (if Mt (s.drop 1)=true∧Hv (s.drop 1)≠0 then(if 1000000000000<Hv (s.drop 1) then(0,14) else(-Hv (s.drop 1),0)) else(0,4))
 else if Mt s=true then(if 1000000000000<Hv s then(0,14) else(Hv s,0)) else(0,4)
theorem sM(a b:Int):allDig [Gn a,Gn b]=true∧worth [Gn a,Gn b]=10*(a % 10).toNat+(b % 10).toNat:=by
 refine⟨?_,?_⟩
 ·rw[E8];intro c hc
  simp only[List.mem_cons,List.not_mem_nil,or_false] at hc
  rcases hc with rfl|rfl<;>exact Yq _
 ·simp only[worth,List.foldl_cons,List.foldl_nil,Afk];omega
theorem eV{n:Int}:Br 46 (Ca n)=(decDigits (n / 10 / 10).toNat,[Gn (n / 10),Gn n],true):=by
 unfold Ca
 exact Sa (Yp (by decide) _) _
theorem Vd{n:Int}:Mt (Ca n)=true:=by
 unfold Mt
 rw[eV]
 simp only[Bool.true_and,Pz,(sM _ _).1];rfl
theorem Ve{n:Int}(h:0≤n):Hv (Ca n)=n:=by
 unfold Hv
 rw[eV]
 simp only[G3,(sM _ _).2];omega
theorem yR{n:Int}:Lib.hasPrefix (Ca n) [45]=false:=by
 unfold Ca
 have h1:=E9 (n / 10 / 10).toNat
 have h2:=oY (n / 10 / 10).toNat
 cases hd:decDigits (n / 10 / 10).toNat with
 |nil=>exact absurd hd h2
 |cons c t=>
  rw[hd,E8] at h1
  have:=h1 c (by simp)
  have hc: ¬(45:UInt8)=c:=fun e=>by rw[←e] at this;exact absurd this (by decide)
  simp[Lib.hasPrefix,List.isPrefixOf,hc]
theorem Lj{n:Int}(h:Es n=true):Di (D3 n)=(n,0):=by
 have hb: -1000000000000≤n∧n≤1000000000000:=by unfold Es at h;simpa using h
 unfold D3 Di Oz
 rw[if_pos h]
 split
 ·rename_i hn
  rw[if_pos (by simp[Lib.hasPrefix,List.isPrefixOf])]
  rw[show(45::Ca (-n)).drop 1=Ca (-n) from rfl,Ve (by omega),if_pos ⟨Vd,by omega⟩,if_neg (by omega),Int.neg_neg]
 ·rw[if_neg (by rw[yR];simp),if_pos Vd,Ve (by omega),if_neg (by omega)]
@[irreducible] def Ea(s:List UInt8):List UInt8 × Int × Bool:=((Br 61 s).1,(Di (Br 61 s).2.1).1,(Br 61 s).2.2&&decide ((Di (Br 61 s).2.1).2=0))
@[irreducible] def Ed(s:List UInt8):Coupon × Bool:=
 (⟨(An (Br 64 (Ea s).1).1).1,(An (Br 64 (Ea s).1).2.1).1,(Ea s).2.1,0,0,0⟩,(Ea s).2.2&&(Br 64 (Ea s).1).2.2&&(An (Br 64 (Ea s).1).1).2&&(An (Br 64 (Ea s).1).2.1).2)
theorem Acp{c:Coupon}(h:Nc c 0=true):Ed (B0 c)=(c,true):=by
 unfold Nc Gl at h
 simp only[Bool.and_eq_true,decide_eq_true_eq] at h
 obtain⟨⟨⟨⟨⟨⟨h1,h2⟩,h3,h4⟩,h5⟩,h6⟩,h7⟩,h8⟩:=h
 have e1:Br 61 (B0 c)=(Lib.itoa c.flight++[64]++Lib.itoa c.day,D3 c.value,true):=by
  unfold B0
  rw[show Lib.itoa c.flight++[64]++Lib.itoa c.day++[61]++D3 c.value=(Lib.itoa c.flight++[64]++Lib.itoa c.day)++61::D3 c.value by simp]
  refine Sa ?_ _
  simp only[List.mem_append,List.mem_singleton,not_or]
  exact⟨⟨Fu (by decide) (by decide) _,by decide⟩,Fu (by decide) (by decide) _⟩
 have e2:Ea (B0 c)=(Lib.itoa c.flight++[64]++Lib.itoa c.day,c.value,true):=by
  unfold Ea;rw[e1];simp only[Lj (Lh h5)];rfl
 have e3:Br 64 (Lib.itoa c.flight++[64]++Lib.itoa c.day)=(Lib.itoa c.flight,Lib.itoa c.day,true):=by
  rw[show Lib.itoa c.flight++[64]++Lib.itoa c.day=Lib.itoa c.flight++64::Lib.itoa c.day by simp]
  exact Sa (Fu (by decide) (by decide) _) _
 unfold Ed
 rw[e2];simp only[e3,Bz (n:=c.flight) (by omega) (by omega),Bz (n:=c.day) (by omega) (by omega),Bool.true_and]
 cases c;simp_all
@[irreducible] def Df(s:List UInt8):Tax × Bool:=(⟨(An (Ea s).1).1,(Ea s).2.1⟩,(Ea s).2.2&&(An (Ea s).1).2)
theorem Acr{x:Tax}(h1:1≤x.code∧x.code≤99)(h2:D2 x.amount=true):Df (Gh x)=(x,true):=by
 have e1:Br 61 (Gh x)=(Lib.itoa x.code,D3 x.amount,true):=by
  unfold Gh
  rw[show Lib.itoa x.code++[61]++D3 x.amount=Lib.itoa x.code++61::D3 x.amount by simp]
  exact Sa (Fu (by decide) (by decide) _) _
 unfold Df Ea
 rw[e1];simp only[Lj (Lh h2),Bz (n:=x.code) (by omega) (by omega),Bool.true_and];rfl
theorem Ql:∀ {l:List Tax} {n:Int},Du n l=true→1≤n→∀ x ∈ l,(1≤x.code∧x.code≤99)∧D2 x.amount=true
 |[],_,_,_,x,hx=>by cases hx
 |y::l,n,h,hn,x,hx=>by
  simp only[Du,Bool.and_eq_true,decide_eq_true_eq] at h
  rcases List.mem_cons.1 hx with rfl|hx
  ·exact⟨⟨by omega,h.1.1.2⟩,h.1.2⟩
  ·exact Ql h.2 (by omega) x hx
theorem Yt{l:List Tax}(h:Dv l=true):∀ x ∈ l,(1≤x.code∧x.code≤99)∧D2 x.amount=true:=by
 unfold Dv at h
 simp only[Bool.and_eq_true] at h
 exact Ql h.1 (by omega)
theorem Acs{l:List Tax}(h:l≠[]):Aa 44 (B9 l)=l.map Gh:=by
 have hl: ¬l.length=0:=fun e=>h (List.length_eq_zero_iff.1 e)
 unfold B9
 rw[if_neg hl]
 refine Fg (by simpa using h) fun w hw=>?_
 obtain⟨c,_,rfl⟩:=List.mem_map.1 hw
 exact Afl (by decide) (by decide) (by decide) (by decide) c
theorem sO{l:List Tax}(h:l≠[]):B9 l≠[45]:=by
 have hl: ¬l.length=0:=fun e=>h (List.length_eq_zero_iff.1 e)
 intro e
 have:(61:UInt8) ∈ B9 l:=by
  unfold B9
  rw[if_neg hl]
  cases l with
  |nil=>exact absurd rfl h
  |cons x l=>rw[List.map_cons,Lib.join_cons];exact List.mem_append_left _ (by unfold Gh;simp)
 rw[e] at this
 exact absurd this (by decide)
end Go.Vc.Z
namespace Go.Vc.Z
open Go Go.Vc Go.Proofs Go.RowKit Go.Pl Go.Lib
theorem sP{l:List Coupon}(h:l≠[]):Aa 44 (Ct l)=l.map B0:=by
 unfold Ct
 refine Fg (by simpa using h) fun w hw=>?_
 obtain⟨c,_,rfl⟩:=List.mem_map.1 hw
 intro hm
 unfold B0 at hm
 simp only[List.mem_append,List.mem_singleton] at hm
 rcases hm with (((hm|hm)|hm)|hm)|hm
 ·exact Fu (by decide) (by decide) _ hm
 ·exact absurd hm (by decide)
 ·exact Fu (by decide) (by decide) _ hm
 ·exact absurd hm (by decide)
 ·exact Nj (by decide) (by decide) (by decide) _ hm
theorem Rc{s:List UInt8}(h:Gb s=true):(32:UInt8) ∉ s:=by
 unfold Gb at h
 simp only[Bool.and_eq_true,List.all_eq_true] at h
 intro hm
 exact absurd (h.1.1 32 hm) (by decide)
theorem Yu(l:List Coupon):(32:UInt8) ∉ Ct l:=by
 unfold Ct
 intro hm
 rcases Mr hm with h|⟨s,hs,h⟩
 ·exact absurd h (by decide)
 ·obtain⟨x,_,rfl⟩:=List.mem_map.1 hs
  unfold B0 at h
  simp only[List.mem_append,List.mem_singleton] at h
  rcases h with (((hm|hm)|hm)|hm)|hm
  ·exact Fu (by decide) (by decide) _ hm
  ·exact absurd hm (by decide)
  ·exact Fu (by decide) (by decide) _ hm
  ·exact absurd hm (by decide)
  ·exact Nj (by decide) (by decide) (by decide) _ hm
theorem Fh{r:Request}(h:Ah r=true):r.kind=1∨r.kind=2∨r.kind=3∨r.kind=4∨r.kind=5∨r.kind=6∨r.kind=7∨r.kind=8∨r.kind=9∨r.kind=10:=
 kinds (Decidable.byContradiction fun hn=>by rw[Uc hn] at h;cases h)
theorem sQ{r:Request}(h:Ah r=true):Bn r≠[]∧∀ w ∈ Bn r,(32:UInt8) ∉ w:=by
 have hD:=fun n:Int=>Fu (k:=32) (by decide) (by decide) n
 have hT:=fun n:Int=>Afj (k:=32) (by decide) n
 have hA:=fun n:Int=>Nj (k:=32) (by decide) (by decide) (by decide) n
 have hS:=fun n:Int=>eS (k:=32) (by decide) n
 rcases Fh h with k|k|k|k|k|k|k|k|k|k
 ·obtain⟨h1,_,h3,_⟩:=Ih k h
  rw[Ii k];simp[hD,Rc h1,Afm h3,Yu,sH]
 ·obtain⟨h1,_⟩:=Kp k h
  rw[Ij k];simp[hD,hT,hS,Rc h1]
 ·obtain⟨h1,_⟩:=Kq k h
  rw[Ik k];simp[hD,hT,Rc h1]
 ·obtain⟨h1,_⟩:=Kr k h
  rw[Il k];simp[hD,hT,hA,Rc h1]
 ·obtain⟨h1,_⟩:=Im k h
  rw[Io k];simp[hD,hT,hA,Rc h1,Yu,sH]
 ·obtain⟨h1,_⟩:=Ks k h
  rw[Ip k];simp[hD,hT,Rc h1]
 ·obtain⟨h1,_⟩:=Kt k h
  rw[Iq k];simp[hD,hT,Rc h1]
 ·rw[Ir k];simp[hT]
 ·have h1:=Ku k h
  rw[Is k];simp[Afm h1]
 ·rw[G6 k];simp[hD]
theorem sR{r:Request}(h:Ah r=true)(hf:Bl [.agg r.enc]):(Lib.join (Bn r) [32]).length≤20000:=by
 have hc:Bl [slE 6 Coupon.enc r.coupons]:=⟨hf.1.2.2.2.2.2.2.2.1,True.intro⟩
 have ht:Bl [slE 2 Tax.enc r.taxes]:=⟨hf.1.2.2.2.2.2.2.2.2.1,True.intro⟩
 simp only[Bl,Cm,Ar,Go.Vc.lo,Go.Vc.hi,and_true] at hf
 have lT:=rT r.ticket
 have lS:=sC r.status
 have lA:=Mk r.amount
 have lD:=Dd r.day (by omega) (by omega)
 have lN:=Dd r.coupon (by omega) (by omega)
 have lR:=Dd r.frm (by omega) (by omega)
 have lQ:=Dd r.til (by omega) (by omega)
 have jW:∀ m:Int,m≤12→Gf m r.coupons=true→(Ct r.coupons).length≤3000:=fun m hm hj=>by
  obtain⟨j1,j2,j3⟩:=F4 hj
  unfold Ct;have:=Afn (l:=r.coupons) hc (by omega) r.coupons.length;rwa[List.take_length] at this
 have jX:Dv r.taxes=true→(B9 r.taxes).length≤1000:=fun hx=>yK (Nh hx).1 (eO ht)
 have hW:Lib.join (Bn r) [32]=Bq r:=by unfold Bq;rw[if_pos h]
 rw[hW]
 rcases Fh h with k|k|k|k|k|k|k|k|k|k
 ·obtain⟨h1,_,h3,h4,h5⟩:=Ih k h
  have:=Kv h1;have:=eP h3;have:=jW 12 (by decide) h4;have:=jX h5
  rw[Afo k h];simp;omega
 ·obtain⟨h1,_⟩:=Kp k h
  have:=Kv h1
  rw[An7 k h];simp;omega
 ·obtain⟨h1,_⟩:=Kq k h
  have:=Kv h1
  rw[An8 k h];simp;omega
 ·obtain⟨h1,_⟩:=Kr k h
  have:=Kv h1
  rw[An9 k h];simp;omega
 ·obtain⟨h1,_,_,_,h4,h5⟩:=Im k h
  have:=Kv h1;have:=jW 4 (by decide) h4;have:=jX h5
  rw[Aoa k h];simp;omega
 ·obtain⟨h1,_⟩:=Ks k h
  have:=Kv h1
  rw[Aob k h];simp;omega
 ·obtain⟨h1,_⟩:=Kt k h
  have:=Kv h1
  rw[Aoc k h];simp;omega
 ·rw[Aod k h];simp;omega
 ·have h1:=Ku k h
  have:=eP h1
  rw[Aoe k h];simp;omega
 ·rw[Aid k h];simp;omega
theorem Hh{r:Request}(h:Ah r=true):Aa 32 (Bq r)=Bn r:=by
 obtain⟨h1,h2⟩:=sQ h
 unfold Bq
 rw[if_pos h]
 exact Fg h1 h2
end Go.Vc.Z
