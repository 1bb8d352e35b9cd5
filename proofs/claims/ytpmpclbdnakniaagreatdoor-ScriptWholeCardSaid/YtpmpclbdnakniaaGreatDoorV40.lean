/- Acts that may be written, the reference's. -/
import Derived.Test.YtpmpclbdnakniaaGreatDoorV38
set_option linter.all false
set_option linter.unusedVariables false
set_option linter.unusedSimpArgs false
namespace Go.Vc.Z
open Go Go.Vc Go.Proofs Go.RowKit Go.Pl Go.Lib
noncomputable section
set_option maxRecDepth 100000
attribute [local irreducible] inK Utf8.decode Utf8.encode Lib.itoa Pl.worth Pl.allDig
attribute [local irreducible] Lib.join Bw Aa
def xK:PC:=PC.of (fun a:Act=>[.agg a.enc]) (fun _=>True) (fun a=>.bool (sB (Af a)))
def Jh:PT:=C2 [(25,Acc),(28,Oi)]
theorem Ow{W:World}(hW:Tabs W):Cl (Fw W) Tryz.prog Jh:=(Ab Tryz.call25 (X6 hW) (Ab Tryz.call28 (H6 hW) As))
def Ji:FuncId→Option Ctr:=Aw Jh []
theorem Yp{W:World}(hW:Tabs W):Ad (Fw W) Tryz.prog Ji:=(Au (Ow hW))
set_option maxHeartbeats 2000000 in
theorem Yq{W:World}(hW:Tabs W):GoodP (Fw W) Tryz.prog 35 xK:=by
 have hD:=Ow hW
 have hC0:∀ a:Act,Ad (Fw W) Tryz.prog Ji:=fun a=>(Yp hW)
 refine Ar (D:=Jh) (C:=fun a=>Ji) (wr:=(fun _=>false)) rfl Ap hD hC0 Tryz.func35 (fun _ _=>none) (fun _=>rfl) ?_
 intro a hf hp
 clear hf
 (conv=>whnf)
 (repeat' ((first
  |(split<;>rename_i hh<;>(try simp only[wS] at hh))
  |fail)<;>(conv=>whnf)))
 ·refine⟨((a.request,Ay):Request × Request),True.intro,?_,?_⟩
  ·exact tL
  (conv=>whnf)
  (repeat' ((first
   |(split<;>rename_i hh<;>(try simp only[wS] at hh))
   |with_reducible refine lnI fun hln=>?_
   |fail)<;>(conv=>whnf)))
  all_goals (try (show _=_;simp only[wQ]))
  all_goals try first|(show _=Af a;unfold Af;simp_all;done)|(show _=Af a;unfold Af;simp_all;omega)|(show _=Af a;unfold Af;simp_all;intros;omega)|(show eqI _ _=Af a;rw[Be];unfold Af;by_cases hq:a.picks.length=0<;>simp_all;done)
  refine⟨a.request,True.intro,?_,?_⟩
  ·exact Ac _
  (conv=>whnf)
  (repeat' ((first
   |(split<;>rename_i hh<;>(try simp only[wS] at hh))
   |with_reducible refine lnI fun hln=>?_
   |fail)<;>(conv=>whnf)))
  all_goals (try (show _=_;simp only[wQ]))
  all_goals try first|(show _=Af a;unfold Af;simp_all;done)|(show _=Af a;unfold Af;simp_all;omega)|(show _=Af a;unfold Af;simp_all;intros;omega)|(show eqI _ _=Af a;rw[Be];unfold Af;by_cases hq:a.picks.length=0<;>simp_all;done)
  all_goals (
   have e5:Af a=decide (a.picks.length=0):=by unfold Af;simp_all
   rw[cond_true]
   rw[e5,Be,Bool.eq_iff_iff,beq_iff_eq,decide_eq_true_eq];omega)
 ·refine⟨((a.request,Ay):Request × Request),True.intro,?_,?_⟩
  ·exact tL
  (conv=>whnf)
  (repeat' ((first
   |(split<;>rename_i hh<;>(try simp only[wS] at hh))
   |with_reducible refine lnI fun hln=>?_
   |fail)<;>(conv=>whnf)))
  all_goals (try (show _=_;simp only[wQ]))
  all_goals try first|(show _=Af a;unfold Af;simp_all;done)|(show _=Af a;unfold Af;simp_all;omega)|(show _=Af a;unfold Af;simp_all;intros;omega)|(show eqI _ _=Af a;rw[Be];unfold Af;by_cases hq:a.picks.length=0<;>simp_all;done)
  all_goals skip
end
end Go.Vc.Z
namespace Go.Vc.Z
open Go Go.Vc Go.Proofs Go.RowKit Go.Pl Go.Lib
@[irreducible] noncomputable def cM(a b:Act):Bool:=decide (a.kind=b.kind)&&decide (a.server=b.server)&&decide (a.n=b.n)&&(a.is == b.is)&&decide (a.picks=b.picks)&&Dq a.request b.request
theorem xL{a b:Act}:cM a b=true↔a=b:=by
 unfold cM
 simp only[Bool.and_eq_true,decide_eq_true_eq,beq_iff_eq,Bb]
 constructor
 ·rintro⟨⟨⟨⟨⟨h1,h2⟩,h3⟩,h4⟩,h5⟩,h6⟩
  cases a;cases b;simp_all
 ·rintro rfl;simp
theorem Aez{a b:Act}(h:a≠b):false=cM a b:=by
 cases hs:cM a b with
 |false=>rfl
 |true=>exact absurd (xL.1 hs) h
theorem Ak6{a b:Act}(h1:a.kind=b.kind)(h2:a.server=b.server)(h3:a.n=b.n)(h4:a.is=b.is)(h5:a.picks=b.picks):Dq a.request b.request=cM a b:=by
 unfold cM;rw[h1,h2,h3,h4,h5];simp
theorem take_same{a b:List Int}{i:Nat}(h:a.take i=b.take i)(hl:a.length=b.length)(hi:i<a.length)(he:a.getD i default=b.getD i default):a.take (i+1)=b.take (i+1):=by
 rw[List.take_add_one,List.take_add_one,h,List.getElem?_eq_getElem hi,List.getElem?_eq_getElem (by omega)]
 rw[List.getD_eq_getElem?_getD,List.getD_eq_getElem?_getD,List.getElem?_eq_getElem hi,List.getElem?_eq_getElem (show i<b.length by omega)] at he
 rw[show a[i]=b[i] from he]
noncomputable section
set_option maxRecDepth 100000
attribute [local irreducible] inK Utf8.decode Utf8.encode Lib.itoa Pl.worth Pl.allDig
attribute [local irreducible] Lib.join Bw Aa
def LSm(x:Act × Act):LoopSpec:={
 α:=Nat
 keep:=[2,3,5]
 vals i:=[.ptr 0 0,.ptr 1 0,.int .i64 i]
 heap _:=[.var x.1.enc,.var x.2.enc]
 ok i:=i≤x.1.picks.length∧x.1.picks.length=x.2.picks.length∧x.1.picks.take i=x.2.picks.take i
 μ i:=x.1.picks.length - i }
def Ai4:PC:=PC.of (fun x:Act × Act=>[.agg x.1.enc,.agg x.2.enc]) (fun _=>True) (fun x=>.bool (sB (cM x.1 x.2)))
def Ie:PT:=C2 [(28,Oi)]
theorem Nv{W:World}(hW:Tabs W):Cl (Fw W) Tryz.prog Ie:=(Ab Tryz.call28 (H6 hW) As)
def If:FuncId→Option Ctr:=Aw Ie []
theorem Wr{W:World}(hW:Tabs W):Ad (Fw W) Tryz.prog If:=(Au (Nv hW))
def Ws:Act × Act→Nat→Option LR:=fun x i=>cond (Nat.beq i 4) (some (.inv (LSm x))) (none)
set_option maxHeartbeats 2000000 in
theorem Wt{W:World}(hW:Tabs W):GoodP (Fw W) Tryz.prog 32 Ai4:=by
 have hD:=Nv hW
 have hC0:∀ x:Act × Act,Ad (Fw W) Tryz.prog If:=fun x=>(Wr hW)
 refine Ar (D:=Ie) (C:=fun x=>If) (wr:=(fun _=>false)) rfl Ap hD hC0 Tryz.func32 (Ws) (fun _=>rfl) ?_
 rintro⟨a,b⟩ hf hp
 clear hf
 (conv=>whnf)
 (repeat' ((first
  |(split<;>rename_i hh<;>(try simp only[wS] at hh))
  |with_reducible refine lnI fun hln=>?_
  |fail)<;>(conv=>whnf)))
 all_goals (try (show _=_;simp only[wQ]))
 all_goals try (refine Aez fun h=>?_;subst h;exact absurd rfl (by assumption))
 refine⟨?_,fun(i:Nat) hi=>?_⟩
 ·(conv=>whnf)
  refine⟨(0:Nat),[],?_,⟨⟨rfl,(nB rfl),rfl⟩,?_,?_⟩⟩
  ·exact⟨Nat.zero_le _,by show a.picks.length=b.picks.length;omega,rfl⟩
  ·exact tL
  ·exact tL
 ·obtain⟨h1,h2,h3⟩:=hi
  change i≤a.picks.length at h1
  change a.picks.length=b.picks.length at h2
  change a.picks.take i=b.picks.take i at h3
  (conv=>whnf)
  (repeat' ((first
   |((with_reducible refine aI ?_ ?_);focus (first|exact tO|((with_reducible refine⟨?_,?_⟩)<;>first|with_reducible assumption|omega)|exact tK|(dsimp only at*;simp only[Am,Go.Vc.lo,Go.Vc.hi];omega)))
   |(split<;>rename_i hh<;>(try simp only[wS] at hh))
   |with_reducible refine lnI fun hln=>?_
   |fail)<;>(conv=>whnf)))
  all_goals (try (show _=_;simp only[wQ]))
  ·refine Aez fun h=>?_
   subst h;exact absurd rfl (by assumption)
  ·have hi2:i<a.picks.length:=Int.ofNat_lt.1 (by assumption)
   (conv=>whnf)
   refine⟨(i+1:Nat),[],?_,⟨⟨rfl,(nB rfl),rfl⟩,?_,?_⟩⟩
   ·exact⟨⟨show i+1≤a.picks.length by omega,h2,take_same h3 h2 hi2 (by assumption)⟩,show a.picks.length - (i+1)<a.picks.length - i by omega⟩
   ·exact tL
   ·exact tL
  ·have hie:i=a.picks.length:=by omega
   have hpe:a.picks=b.picks:=by
    rw[hie,List.take_length,h2,List.take_length] at h3;exact h3
   refine⟨((a.request,b.request):Request × Request),True.intro,?_,?_⟩
   ·exact Ac _
   (conv=>whnf)
   all_goals (try (show _=_;simp only[wQ]))
   all_goals (exact Ak6 (by assumption) (by assumption) (by assumption) (by assumption) hpe)
end
end Go.Vc.Z
namespace Go.Vc.Z
open Go Go.Vc Go.Proofs Go.RowKit Go.Pl Go.Lib
@[irreducible] noncomputable def E2(a:Act):Bool:=decide (1010<a.picks.length) || Abz a.request
noncomputable section
set_option maxRecDepth 100000
attribute [local irreducible] inK Utf8.decode Utf8.encode Lib.itoa Pl.worth Pl.allDig
attribute [local irreducible] Lib.join Bw Aa
def xM:PC:=PC.of (fun a:Act=>[.agg a.enc]) (fun _=>True) (fun a=>.bool (sB (E2 a)))
def Ig:PT:=C2 [(23,Ahs)]
theorem Nw{W:World}(hW:Tabs W):Cl (Fw W) Tryz.prog Ig:=(Ab Tryz.call23 (We hW) As)
def Ih:FuncId→Option Ctr:=Aw Ig []
theorem Wu{W:World}(hW:Tabs W):Ad (Fw W) Tryz.prog Ih:=(Au (Nw hW))
set_option maxHeartbeats 2000000 in
theorem Wv{W:World}(hW:Tabs W):GoodP (Fw W) Tryz.prog 33 xM:=by
 have hD:=Nw hW
 have hC0:∀ a:Act,Ad (Fw W) Tryz.prog Ih:=fun a=>(Wu hW)
 refine Ar (D:=Ig) (C:=fun a=>Ih) (wr:=(fun _=>false)) rfl Ap hD hC0 Tryz.func33 (fun _ _=>none) (fun _=>rfl) ?_
 intro a hf hp
 clear hf
 (conv=>whnf)
 (repeat' ((first
  |(split<;>rename_i hh<;>(try simp only[wS] at hh))
  |with_reducible refine lnI fun hln=>?_
  |fail)<;>(conv=>whnf)))
 all_goals (try (show _=_;simp only[wQ]))
 ·unfold E2;rw[decide_eq_true (by omega:1010<a.picks.length)];rfl
 ·refine⟨a.request,True.intro,?_,?_⟩
  ·exact Ac _
  (conv=>whnf)
  all_goals (try (show _=_;simp only[wQ]))
  all_goals (unfold E2;rw[decide_eq_false (by omega: ¬1010<a.picks.length)];first|rfl|simp_all)
def LAr(a:Act)(B:List (List UInt8)):LoopSpec:={
 α:=Nat × List UInt8
 keep:=[1,3,4]
 vals x:=[.ptr 0 0,.str x.2,.int .i64 x.1]
 heap _:=[.var a.enc]
 ok x:=x.1≤a.picks.length∧x.2=Lib.join (B++(a.picks.take x.1).map Lib.itoa) [32]
 μ x:=a.picks.length - x.1 }
def Asa:PC:=PC.of (fun a:Act=>[.agg a.enc]) (fun a=>Af a=true∧a.kind=2) (fun a=>.str (sS (Bt a)))
def Rf:PT:=C2 [(27,gV),(49,fO)]
theorem Uq{W:World}(hW:Tabs W):Cl (Fw W) Tryz.prog Rf:=(Ab Tryz.call27 (N1 hW) (Ab Tryz.call49 (Gf hW) As))
def Jj:FuncId→Option Ctr:=Aw Rf []
theorem Yr{W:World}(hW:Tabs W):Ad (Fw W) Tryz.prog Jj:=(Au (Uq hW))
def Asb:Act→Nat→Option LR:=fun a i=>cond (Nat.beq i 15) (some (.inv (LAr a [[116,105,99,107]]))) (none)
set_option maxHeartbeats 2000000 in
theorem Asd{W:World}(hW:Tabs W):GoodP (Fw W) Tryz.prog 37 Asa:=by
 have hD:=Uq hW
 have hC0:∀ a:Act,Ad (Fw W) Tryz.prog Jj:=fun a=>(Yr hW)
 refine Ar (D:=Rf) (C:=fun a=>Jj) (wr:=(fun _=>false)) rfl Ap hD hC0 Tryz.func37 (Asb) (fun _=>rfl) ?_
 intro a hf hp
 have hpf:=Le (Kv hf)
 clear hf
 obtain⟨hm,kk⟩:=hp
 obtain⟨f1,f2,f3,f4,f5⟩:=Tn kk hm
 have n1: ¬a.kind=1:=by omega
 have hall:∀ s ∈ [[116,105,99,107]]++a.picks.map Lib.itoa,s.length≤200:=fun s hs=>by
  rcases List.mem_append.1 hs with h|h
  ·simp only[List.mem_cons,List.not_mem_nil,or_false] at h
   rw[h];decide
  ·exact hpf s h
 have hw:Bt a=Lib.join ([[116,105,99,107]]++a.picks.map Lib.itoa) [32]:=by unfold Bt C8;rw[if_pos hm,if_neg n1,if_pos kk];rfl
 (conv=>whnf)
 (repeat' ((first
  |(exact absurd kk (by with_reducible assumption))
  |(exact absurd (by with_reducible assumption) n1)
  |(split<;>rename_i hh<;>(try simp only[wS] at hh))
  |fail)<;>(conv=>whnf)))
 refine⟨?_,fun(x:Nat × List UInt8) hx=>?_⟩
 ·(conv=>whnf)
  refine⟨((0,[116,105,99,107]):Nat × List UInt8),[],?_,⟨⟨rfl,(nB rfl),rfl⟩,?_,?_⟩⟩
  ·exact⟨Nat.zero_le _,by rw[List.take_zero];simp[Lib.join]⟩
  ·exact tL
  ·exact tL
 ·obtain⟨i,s⟩:=x
  obtain⟨h1,h2⟩:=hx
  change i≤a.picks.length at h1
  change s=Lib.join ([[116,105,99,107]]++(a.picks.take i).map Lib.itoa) [32] at h2
  have hsl:s.length≤300000:=by
   have:=K0 [32] 200 ([[116,105,99,107]]++(a.picks.take i).map Lib.itoa) (fun w hw=>hall w (by
    rcases List.mem_append.1 hw with h|h
    ·exact List.mem_append.2 (.inl h)
    ·exact List.mem_append.2 (.inr (List.map_subset _ (List.take_subset i a.picks) h))))
   rw[←h2] at this
   simp only[List.length_append,List.length_map,List.length_take,List.length_cons,List.length_nil] at this
   omega
  have hit:=fun h:i<a.picks.length=>hpf (Lib.itoa (a.picks.getD (Int.toNat (i:Int)) default)) (List.mem_map.2 ⟨_,by
   rw[show Int.toNat (i:Int)=i from rfl,List.getD_eq_getElem?_getD,List.getElem?_eq_getElem h];exact List.getElem_mem h,rfl⟩)
  (conv=>whnf)
  (repeat' ((first
   |((with_reducible refine aI ?_ ?_);focus (first|with_reducible exact⟨⟩|omega|exact tK|(simp only[List.length_append,bytesOf_length,List.toList_toArray,List.length_cons,List.length_nil,List.length_take,List.length_drop,A0];omega)))
   |(split<;>rename_i hh<;>(try simp only[wS] at hh))
   |with_reducible refine lnI fun hln=>?_
   |fail)<;>(conv=>whnf)))
  all_goals (try (show _=_;simp only[wQ]))
  ·have hi2:i<a.picks.length:=Int.ofNat_lt.1 (by assumption)
   have hv:s++[32]++Lib.itoa (a.picks.getD (Int.toNat (i:Int)) default)=Lib.join ([[116,105,99,107]]++(a.picks.take (i+1)).map Lib.itoa) [32]:=by
    rw[List.take_add_one,List.map_append,List.getElem?_eq_getElem hi2,←List.append_assoc]
    have e:a.picks.getD (Int.toNat (i:Int)) default=a.picks[i]:=by
     rw[show Int.toNat (i:Int)=i from rfl,List.getD_eq_getElem?_getD,List.getElem?_eq_getElem hi2];rfl
    rw[e]
    show _=Lib.join (_++[Lib.itoa a.picks[i]]) [32]
    rw[Zu (by simp),←h2,List.append_assoc]
   have hit:=hit hi2
   (conv=>whnf)
   refine⟨((i+1,s++[32]++Lib.itoa (a.picks.getD (Int.toNat (i:Int)) default)):Nat × List UInt8),[],?_,⟨⟨rfl,(nB rfl),rfl⟩,?_,?_⟩⟩
   ·exact⟨⟨show i+1≤a.picks.length by omega,hv⟩,show a.picks.length - (i+1)<a.picks.length - i by omega⟩
   ·exact tL
   ·exact tL
  ·have hie:i=a.picks.length:=by omega
   rw[hie,List.take_length] at h2
   rw[hw,h2]
end
end Go.Vc.Z
namespace Go.Vc.Z
open Go Go.Vc Go.Proofs Go.RowKit Go.Pl Go.Lib
theorem Axs(a b:List UInt8):Lib.join ([a,b]++([]:List Int).map Lib.itoa) [32]=a++[32]++b:=by simp[Lib.join]
noncomputable section
set_option maxRecDepth 100000
attribute [local irreducible] inK Utf8.decode Utf8.encode Lib.itoa Pl.worth Pl.allDig
attribute [local irreducible] Lib.join Bw Aa
def Ase:PC:=PC.of (fun a:Act=>[.agg a.enc]) (fun a=>Af a=true∧a.kind=4) (fun a=>.str (sS (Bt a)))
def Asf:Act→Nat→Option LR:=fun a i=>cond (Nat.beq i 15) (some (.inv (LAr a ([[99,114,97,115,104],Lib.itoa a.server])))) (none)
set_option maxHeartbeats 2000000 in
theorem Asg{W:World}(hW:Tabs W):GoodP (Fw W) Tryz.prog 37 Ase:=by
 have hD:=Uq hW
 have hC0:∀ a:Act,Ad (Fw W) Tryz.prog Jj:=fun a=>(Yr hW)
 refine Ar (D:=Rf) (C:=fun a=>Jj) (wr:=(fun _=>false)) rfl Ap hD hC0 Tryz.func37 (Asf) (fun _=>rfl) ?_
 intro a hf hp
 have hpf:=Le (Kv hf)
 clear hf
 obtain⟨hm,kk⟩:=hp
 obtain⟨f1,f2,f3,f4,f5⟩:=Qf kk hm
 have n1: ¬a.kind=1:=by omega
 have n2: ¬a.kind=2:=by omega
 have n3: ¬a.kind=3:=by omega
 have hi:=Bl a.server (by omega) (by omega)
 have hall:∀ s ∈ [[99,114,97,115,104],Lib.itoa a.server]++a.picks.map Lib.itoa,s.length≤200:=fun s hs=>by
  rcases List.mem_append.1 hs with h|h
  ·simp only[List.mem_cons,List.not_mem_nil,or_false] at h
   rcases h with h|h<;>rw[h];decide;omega
  ·exact hpf s h
 have hw:Bt a=Lib.join ([[99,114,97,115,104],Lib.itoa a.server]++a.picks.map Lib.itoa) [32]:=by unfold Bt C8;rw[if_pos hm,if_neg n1,if_neg n2,if_neg n3,if_pos kk];rfl
 (conv=>whnf)
 (repeat' ((first
  |(exact absurd kk (by with_reducible assumption))
  |(exact absurd (by with_reducible assumption) n1)
  |(exact absurd (by with_reducible assumption) n2)
  |(exact absurd (by with_reducible assumption) n3)
  |((with_reducible refine aI ?_ ?_);focus (first|with_reducible exact⟨⟩|(simp only[List.length_append,bytesOf_length,List.toList_toArray,List.length_cons,List.length_nil,List.length_take,List.length_drop,A0];omega)))
  |(split<;>rename_i hh<;>(try simp only[wS] at hh))
  |fail)<;>(conv=>whnf)))
 refine⟨?_,fun(x:Nat × List UInt8) hx=>?_⟩
 ·(conv=>whnf)
  refine⟨((0,[99,114,97,115,104]++[32]++Lib.itoa a.server):Nat × List UInt8),[],?_,⟨⟨rfl,(nB rfl),rfl⟩,?_,?_⟩⟩
  ·exact⟨Nat.zero_le _,by rw[List.take_zero];exact(Axs _ _).symm⟩
  ·exact tL
  ·exact tL
 ·obtain⟨i,s⟩:=x
  obtain⟨h1,h2⟩:=hx
  change i≤a.picks.length at h1
  change s=Lib.join ([[99,114,97,115,104],Lib.itoa a.server]++(a.picks.take i).map Lib.itoa) [32] at h2
  have hsl:s.length≤300000:=by
   have:=K0 [32] 200 ([[99,114,97,115,104],Lib.itoa a.server]++(a.picks.take i).map Lib.itoa) (fun w hw=>hall w (by
    rcases List.mem_append.1 hw with h|h
    ·exact List.mem_append.2 (.inl h)
    ·exact List.mem_append.2 (.inr (List.map_subset _ (List.take_subset i a.picks) h))))
   rw[←h2] at this
   simp only[List.length_append,List.length_map,List.length_take,List.length_cons,List.length_nil] at this
   omega
  have hit:=fun h:i<a.picks.length=>hpf (Lib.itoa (a.picks.getD (Int.toNat (i:Int)) default)) (List.mem_map.2 ⟨_,by
   rw[show Int.toNat (i:Int)=i from rfl,List.getD_eq_getElem?_getD,List.getElem?_eq_getElem h];exact List.getElem_mem h,rfl⟩)
  (conv=>whnf)
  (repeat' ((first
   |((with_reducible refine aI ?_ ?_);focus (first|with_reducible exact⟨⟩|omega|exact tK|(simp only[List.length_append,bytesOf_length,List.toList_toArray,List.length_cons,List.length_nil,List.length_take,List.length_drop,A0];omega)))
   |(split<;>rename_i hh<;>(try simp only[wS] at hh))
   |with_reducible refine lnI fun hln=>?_
   |fail)<;>(conv=>whnf)))
  all_goals (try (show _=_;simp only[wQ]))
  ·have hi2:i<a.picks.length:=Int.ofNat_lt.1 (by assumption)
   have hv:s++[32]++Lib.itoa (a.picks.getD (Int.toNat (i:Int)) default)=Lib.join ([[99,114,97,115,104],Lib.itoa a.server]++(a.picks.take (i+1)).map Lib.itoa) [32]:=by
    rw[List.take_add_one,List.map_append,List.getElem?_eq_getElem hi2,←List.append_assoc]
    have e:a.picks.getD (Int.toNat (i:Int)) default=a.picks[i]:=by
     rw[show Int.toNat (i:Int)=i from rfl,List.getD_eq_getElem?_getD,List.getElem?_eq_getElem hi2];rfl
    rw[e]
    show _=Lib.join (_++[Lib.itoa a.picks[i]]) [32]
    rw[Zu (by simp),←h2,List.append_assoc]
   have hit:=hit hi2
   (conv=>whnf)
   refine⟨((i+1,s++[32]++Lib.itoa (a.picks.getD (Int.toNat (i:Int)) default)):Nat × List UInt8),[],?_,⟨⟨rfl,(nB rfl),rfl⟩,?_,?_⟩⟩
   ·exact⟨⟨show i+1≤a.picks.length by omega,hv⟩,show a.picks.length - (i+1)<a.picks.length - i by omega⟩
   ·exact tL
   ·exact tL
  ·have hie:i=a.picks.length:=by omega
   rw[hie,List.take_length] at h2
   rw[hw,h2]
end
end Go.Vc.Z
namespace Go.Vc.Z
open Go Go.Vc Go.Proofs Go.RowKit Go.Pl Go.Lib
theorem Ai5(a b c:List UInt8):Lib.join [a,b,c] [32]=a++[32]++b++[32]++c:=by simp[Lib.join]
noncomputable section
set_option maxRecDepth 100000
attribute [local irreducible] inK Utf8.decode Utf8.encode Lib.itoa Pl.worth Pl.allDig
attribute [local irreducible] Lib.join Bw Aa
def Ash:PC:=PC.of (fun a:Act=>[.agg a.enc]) (fun a=>Af a=true∧a.kind=1) (fun a=>.str (sS (Bt a)))
def Asi:Act→Nat→Option LR:=fun a i=>cond (Nat.beq i 15) (some (.unroll 1)) (none)
set_option maxHeartbeats 2000000 in
theorem Asj{W:World}(hW:Tabs W):GoodP (Fw W) Tryz.prog 37 Ash:=by
 have hD:=Uq hW
 have hC0:∀ a:Act,Ad (Fw W) Tryz.prog Jj:=fun a=>(Yr hW)
 refine Ar (D:=Rf) (C:=fun a=>Jj) (wr:=(fun _=>false)) rfl Ap hD hC0 Tryz.func37 (Asi) (fun _=>rfl) ?_
 intro a hf hp
 have hlr:=Ns (Tm hf)
 clear hf
 obtain⟨hm,kk⟩:=hp
 obtain⟨f1,f2,f3,f4,f5⟩:=Nq kk hm
 have hi:=Bl a.server (by omega) (by omega)
 have hw:Bt a=[100,111]++[32]++Lib.itoa a.server++[32]++Bu a.request:=by unfold Bt C8;rw[if_pos hm,if_pos kk];exact Ai5 _ _ _
 (conv=>whnf)
 (repeat' ((first
  |(exact absurd kk (by with_reducible assumption))
  |((with_reducible refine aI ?_ ?_);focus (first|with_reducible exact⟨⟩|(simp only[List.length_append,bytesOf_length,List.toList_toArray,List.length_cons,List.length_nil,List.length_take,List.length_drop,A0];omega)))
  |(split<;>rename_i hh<;>(try simp only[wS] at hh))
  |fail)<;>(conv=>whnf)))
 refine⟨a.request,f2,?_,?_⟩
 ·exact Ac _
 (conv=>whnf)
 (repeat' ((first
  |((with_reducible refine aI ?_ ?_);focus (first|exact tO|(simp only[List.length_append,bytesOf_length,List.toList_toArray,List.length_cons,List.length_nil,List.length_take,List.length_drop,A0];omega)))
  |fail)<;>(conv=>whnf)))
 all_goals (try (show _=_;simp only[wQ]))
 all_goals (rw[hw];first|done|simp)
def Asl:PC:=PC.of (fun a:Act=>[.agg a.enc]) (fun a=>Af a=true∧a.kind=3) (fun a=>.str (sS (Bt a)))
def Asm:Act→Nat→Option LR:=fun a i=>cond (Nat.beq i 15) (some (.unroll 1)) (none)
set_option maxHeartbeats 2000000 in
theorem Asn{W:World}(hW:Tabs W):GoodP (Fw W) Tryz.prog 37 Asl:=by
 have hD:=Uq hW
 have hC0:∀ a:Act,Ad (Fw W) Tryz.prog Jj:=fun a=>(Yr hW)
 refine Ar (D:=Rf) (C:=fun a=>Jj) (wr:=(fun _=>false)) rfl Ap hD hC0 Tryz.func37 (Asm) (fun _=>rfl) ?_
 intro a hf hp
 have hlr:=Ns (Tm hf)
 clear hf
 obtain⟨hm,kk⟩:=hp
 have n1: ¬a.kind=1:=by omega
 have n2: ¬a.kind=2:=by omega
 obtain⟨f1,f2,f3,f4,f5⟩:=Nr kk hm
 have hi:=Bl a.server (by omega) (by omega)
 have hj:=Bl a.n (by omega) (by omega)
 have hw:Bt a=[102,117,115,101]++[32]++Lib.itoa a.server++[32]++Lib.itoa a.n:=by unfold Bt C8;rw[if_pos hm,if_neg n1,if_neg n2,if_pos kk];exact Ai5 _ _ _
 (conv=>whnf)
 (repeat' ((first
  |(exact absurd kk (by with_reducible assumption))
  |(exact absurd (by with_reducible assumption) n1)
  |(exact absurd (by with_reducible assumption) n2)
  |((with_reducible refine aI ?_ ?_);focus (first|with_reducible exact⟨⟩|exact tO|(simp only[List.length_append,bytesOf_length,List.toList_toArray,List.length_cons,List.length_nil,List.length_take,List.length_drop,A0];omega)))
  |(split<;>rename_i hh<;>(try simp only[wS] at hh))
  |fail)<;>(conv=>whnf)))
 all_goals (try (show _=_;simp only[wQ]))
 all_goals (rw[hw];first|done|simp)
def Aso:PC:=PC.of (fun a:Act=>[.agg a.enc]) (fun a=>Af a=true∧a.kind=5) (fun a=>.str (sS (Bt a)))
def Asp:Act→Nat→Option LR:=fun a i=>cond (Nat.beq i 15) (some (.unroll 1)) (none)
set_option maxHeartbeats 2000000 in
theorem Asq{W:World}(hW:Tabs W):GoodP (Fw W) Tryz.prog 37 Aso:=by
 have hD:=Uq hW
 have hC0:∀ a:Act,Ad (Fw W) Tryz.prog Jj:=fun a=>(Yr hW)
 refine Ar (D:=Rf) (C:=fun a=>Jj) (wr:=(fun _=>false)) rfl Ap hD hC0 Tryz.func37 (Asp) (fun _=>rfl) ?_
 intro a hf hp
 have hlr:=Ns (Tm hf)
 clear hf
 obtain⟨hm,kk⟩:=hp
 have n1: ¬a.kind=1:=by omega
 have n2: ¬a.kind=2:=by omega
 have n3: ¬a.kind=3:=by omega
 have n4: ¬a.kind=4:=by omega
 obtain⟨f1,f2,f3,f4⟩:=Yo kk hm
 have hw:Bt a=if a.is=true then [99,97,108,109,32,121,101,115] else [99,97,108,109,32,110,111]:=by
  unfold Bt C8;rw[if_pos hm,if_neg n1,if_neg n2,if_neg n3,if_neg n4]
  cases a.is<;>simp[Lib.join]
 (conv=>whnf)
 (repeat' ((first
  |(exact absurd (by with_reducible assumption) n1)
  |(exact absurd (by with_reducible assumption) n2)
  |(exact absurd (by with_reducible assumption) n3)
  |(exact absurd (by with_reducible assumption) n4)
  |(split<;>rename_i hh<;>(try simp only[wS] at hh))
  |fail)<;>(conv=>whnf)))
 all_goals (try (show _=_;simp only[wQ]))
 all_goals (rw[hw];first|(rw[if_pos (by assumption)];done)|(rw[if_neg (by rw[show a.is=false by assumption];exact Bool.false_ne_true)];done))
end
end Go.Vc.Z
namespace Go.Vc.Z
open Go Go.Vc Go.Proofs Go.RowKit Go.Pl Go.Lib
noncomputable section
def nI:PC:=PC.of (fun a:Act=>[.agg a.enc]) (fun a=>Af a=true) (fun a=>.str (sS (Bt a)))
theorem Agv{W:World}(hW:Tabs W):GoodP (Fw W) Tryz.prog 37 nI:=by
 intro S w cs vs Q hs hv hT
 obtain⟨a,hm,h2,h3⟩:=hT
 rcases D9 hm with k|k|k|k|k
 ·exact Asj hW S w cs vs Q hs hv ⟨a,⟨hm,k⟩,h2,h3⟩
 ·exact Asd hW S w cs vs Q hs hv ⟨a,⟨hm,k⟩,h2,h3⟩
 ·exact Asn hW S w cs vs Q hs hv ⟨a,⟨hm,k⟩,h2,h3⟩
 ·exact Asg hW S w cs vs Q hs hv ⟨a,⟨hm,k⟩,h2,h3⟩
 ·exact Asq hW S w cs vs Q hs hv ⟨a,⟨hm,k⟩,h2,h3⟩
end
end Go.Vc.Z
