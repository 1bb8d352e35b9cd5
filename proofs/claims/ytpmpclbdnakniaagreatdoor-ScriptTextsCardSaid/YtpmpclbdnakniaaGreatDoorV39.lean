/- Acts that may be written, the reference's. -/
import Derived.Test.YtpmpclbdnakniaaGreatDoorV37
set_option linter.all false
set_option maxHeartbeats 8000000
namespace Go.Vc.Z
open Go Go.Vc Go.Proofs Go.RowKit Go.Pl Go.Lib
noncomputable section
set_option maxRecDepth 100000
attribute [local irreducible] inK Utf8.decode Utf8.encode Lib.itoa Pl.worth Pl.allDig
attribute [local irreducible] Lib.join Bp Aa
def Aa6:PC:=PC.of (fun a:Act=>[.agg a.enc]) (fun _=>True) (fun a=>.bool (sB (Ag a)))
def Kc:PT:=Cg [(25,lB),(28,Pu)]
theorem Qa{W:World}(hW:Tabs W):Cb (Fw W) Tryz.prog Kc:=(Ab Tryz.call25 (Pw hW) (Ab Tryz.call28 (It hW) Aq))
def Kd:FuncId→Option Ctr:=Av Kc []
theorem aV{W:World}(hW:Tabs W):Ad (Fw W) Tryz.prog Kd:=(Ar (Qa hW))
theorem aW{W:World}(hW:Tabs W):GoodP (Fw W) Tryz.prog 35 Aa6:=by
 have hD:=Qa hW;have hC0:∀ a:Act,Ad (Fw W) Tryz.prog Kd:=fun a=>(aV hW);refine As (D:=Kc) (C:=fun a=>Kd) (wr:=(fun _=>false)) rfl Ao hD hC0 Tryz.func35 (fun _ _=>none) (fun _=>rfl) ?_;intro a hf hp;clear hf
 (conv=>whnf)
 (repeat' (first|split<;>rename_i hh<;>try simp only[wS] at hh)<;>conv=>whnf)
 ·refine⟨((a.request,An):Request × Request),True.intro,?_,?_⟩
  ·exact tL
  (conv=>whnf)
  (repeat' (first|split<;>rename_i hh<;>try simp only[wS] at hh|with_reducible refine lnI fun hln=>?_)<;>conv=>whnf)
  all_goals try(show _=_;simp only[wQ])
  all_goals try first|(show _=Ag a;unfold Ag;simp_all;done)|(show _=Ag a;unfold Ag;simp_all;omega)|(show _=Ag a;unfold Ag;simp_all;intros;omega)|(show eqI _ _=Ag a;rw[Ca];unfold Ag;by_cases hq:a.picks.length=0<;>simp_all;done)
  refine⟨a.request,True.intro,?_,?_⟩
  ·exact Ac _
  (conv=>whnf)
  (repeat' (first|split<;>rename_i hh<;>try simp only[wS] at hh|with_reducible refine lnI fun hln=>?_)<;>conv=>whnf)
  all_goals try(show _=_;simp only[wQ])
  all_goals try first|(show _=Ag a;unfold Ag;simp_all;done)|(show _=Ag a;unfold Ag;simp_all;omega)|(show _=Ag a;unfold Ag;simp_all;intros;omega)|(show eqI _ _=Ag a;rw[Ca];unfold Ag;by_cases hq:a.picks.length=0<;>simp_all;done)
  all_goals (
   have e5:Ag a=decide (a.picks.length=0):=(by unfold Ag;simp_all);rw[cond_true];rw[e5,Ca,Bool.eq_iff_iff,beq_iff_eq,decide_eq_true_eq];omega)
 ·refine⟨((a.request,An):Request × Request),True.intro,?_,?_⟩
  ·exact tL
  (conv=>whnf)
  (repeat' (first|split<;>rename_i hh<;>try simp only[wS] at hh|with_reducible refine lnI fun hln=>?_)<;>conv=>whnf)
  all_goals try(show _=_;simp only[wQ])
  all_goals try first|(show _=Ag a;unfold Ag;simp_all;done)|(show _=Ag a;unfold Ag;simp_all;omega)|(show _=Ag a;unfold Ag;simp_all;intros;omega)|(show eqI _ _=Ag a;rw[Ca];unfold Ag;by_cases hq:a.picks.length=0<;>simp_all;done)
  all_goals skip
end
end Go.Vc.Z
namespace Go.Vc.Z
open Go Go.Vc Go.Proofs Go.RowKit Go.Pl Go.Lib
@[irreducible] noncomputable def gB(a b:Act):Bool:=decide (a.kind=b.kind)&&decide (a.server=b.server)&&decide (a.n=b.n)&&(a.is == b.is)&&decide (a.picks=b.picks)&&Df a.request b.request
theorem Aa7{a b:Act}:gB a b=true↔a=b:=by
 unfold gB;simp only[Bool.and_eq_true,decide_eq_true_eq,beq_iff_eq,Bc];constructor
 ·rintro⟨⟨⟨⟨⟨h1,h2⟩,h3⟩,h4⟩,h5⟩,h6⟩;cases a;cases b;simp_all
 ·rintro rfl;simp
theorem Ah3{a b:Act}(h:a≠b):false=gB a b:=by
 cases hs:gB a b with
 |false=>rfl
 |true=>exact absurd (Aa7.1 hs) h
theorem Aoo{a b:Act}(h1:a.kind=b.kind)(h2:a.server=b.server)(h3:a.n=b.n)(h4:a.is=b.is)(h5:a.picks=b.picks):Df a.request b.request=gB a b:=by
 unfold gB;rw[h1,h2,h3,h4,h5];simp
theorem take_same{a b:List Int}{i:Nat}(h:a.take i=b.take i)(hl:a.length=b.length)(hi:i<a.length)(he:a.getD i default=b.getD i default):a.take (i+1)=b.take (i+1):=by
 rw[List.take_add_one,List.take_add_one,h,List.getElem?_eq_getElem hi,List.getElem?_eq_getElem (by omega)]
 rw[List.getD_eq_getElem?_getD,List.getD_eq_getElem?_getD,List.getElem?_eq_getElem hi,List.getElem?_eq_getElem (show i<b.length by omega)] at he
 rw[show a[i]=b[i] from he]
noncomputable section
set_option maxRecDepth 100000
attribute [local irreducible] inK Utf8.decode Utf8.encode Lib.itoa Pl.worth Pl.allDig
attribute [local irreducible] Lib.join Bp Aa
def LSm(x:Act × Act):LoopSpec:={
 α:=Nat
 keep:=[2,3,5]
 vals i:=[.ptr 0 0,.ptr 1 0,.int .i64 i]
 heap _:=[.var x.1.enc,.var x.2.enc]
 ok i:=i≤x.1.picks.length∧x.1.picks.length=x.2.picks.length∧x.1.picks.take i=x.2.picks.take i
 μ i:=x.1.picks.length - i }
def Amc:PC:=PC.of (fun x:Act × Act=>[.agg x.1.enc,.agg x.2.enc]) (fun _=>True) (fun x=>.bool (sB (gB x.1 x.2)))
def I5:PT:=Cg [(28,Pu)]
theorem O6{W:World}(hW:Tabs W):Cb (Fw W) Tryz.prog I5:=(Ab Tryz.call28 (It hW) Aq)
def I6:FuncId→Option Ctr:=Av I5 []
theorem Yw{W:World}(hW:Tabs W):Ad (Fw W) Tryz.prog I6:=(Ar (O6 hW))
def Yx:Act × Act→Nat→Option LR:=fun x i=>cond (Nat.beq i 4) (some (.inv (LSm x))) (none)
theorem Yy{W:World}(hW:Tabs W):GoodP (Fw W) Tryz.prog 32 Amc:=by
 have hD:=O6 hW;have hC0:∀ x:Act × Act,Ad (Fw W) Tryz.prog I6:=fun x=>(Yw hW);refine As (D:=I5) (C:=fun x=>I6) (wr:=(fun _=>false)) rfl Ao hD hC0 Tryz.func32 (Yx) (fun _=>rfl) ?_;rintro⟨a,b⟩ hf hp;clear hf
 (conv=>whnf)
 (repeat' (first|split<;>rename_i hh<;>try simp only[wS] at hh|with_reducible refine lnI fun hln=>?_)<;>conv=>whnf)
 all_goals try(show _=_;simp only[wQ])
 all_goals try (refine Ah3 fun h=>?_;subst h;exact absurd rfl (by assumption))
 refine⟨?_,fun(i:Nat) hi=>?_⟩
 ·(conv=>whnf)
  refine⟨(0:Nat),[],?_,⟨⟨rfl,(nB rfl),rfl⟩,?_,?_⟩⟩
  ·exact⟨Nat.zero_le _,by show a.picks.length=b.picks.length;omega,rfl⟩
  ·exact tL
  ·exact tL
 ·obtain⟨h1,h2,h3⟩:=hi;change i≤a.picks.length at h1;change a.picks.length=b.picks.length at h2;change a.picks.take i=b.picks.take i at h3
  (conv=>whnf)
  (repeat' (first|refine⟨tU,?_⟩|split<;>rename_i hh<;>try simp only[wS] at hh|with_reducible refine lnI fun hln=>?_)<;>conv=>whnf)
  all_goals try(show _=_;simp only[wQ])
  ·refine Ah3 fun h=>?_;subst h;exact absurd rfl (by assumption)
  ·have hi2:i<a.picks.length:=Int.ofNat_lt.1 (by assumption)
   (conv=>whnf)
   refine⟨(i+1:Nat),[],?_,⟨⟨rfl,(nB rfl),rfl⟩,?_,?_⟩⟩
   ·exact⟨⟨show i+1≤a.picks.length by omega,h2,take_same h3 h2 hi2 (by assumption)⟩,show a.picks.length - (i+1)<a.picks.length - i by omega⟩
   ·exact tL
   ·exact tL
  ·have hie:i=a.picks.length:=(by omega);have hpe:a.picks=b.picks:=by
    rw[hie,List.take_length,h2,List.take_length] at h3;exact h3
   refine⟨((a.request,b.request):Request × Request),True.intro,?_,?_⟩
   ·exact Ac _
   (conv=>whnf)
   all_goals try(show _=_;simp only[wQ])
   all_goals (exact Aoo (by assumption) (by assumption) (by assumption) (by assumption) hpe)
end
end Go.Vc.Z
namespace Go.Vc.Z
open Go Go.Vc Go.Proofs Go.RowKit Go.Pl Go.Lib
noncomputable section
set_option maxRecDepth 100000
attribute [local irreducible] inK Utf8.decode Utf8.encode Lib.itoa Pl.worth Pl.allDig
attribute [local irreducible] Lib.join Bp Aa
def LAr(a:Act)(B:List (List UInt8)):LoopSpec:={
 α:=Nat × List UInt8
 keep:=[1,3,4]
 vals x:=[.ptr 0 0,.str x.2,.int .i64 x.1]
 heap _:=[.var a.enc]
 ok x:=x.1≤a.picks.length∧x.2=Lib.join (B++(a.picks.take x.1).map Lib.itoa) [32]
 μ x:=a.picks.length - x.1 }
def Avs:PC:=PC.of (fun a:Act=>[.agg a.enc]) (fun a=>Ag a=true∧a.kind=2) (fun a=>.str (sS (Bh a)))
def S9:PT:=Cg [(27,Yl),(49,kL)]
theorem Wq{W:World}(hW:Tabs W):Cb (Fw W) Tryz.prog S9:=(Ab Tryz.call27 (Ht hW) (Ab Tryz.call49 (Gu hW) Aq))
def Ke:FuncId→Option Ctr:=Av S9 []
theorem aX{W:World}(hW:Tabs W):Ad (Fw W) Tryz.prog Ke:=(Ar (Wq hW))
def Avt:Act→Nat→Option LR:=fun a i=>cond (Nat.beq i 15) (some (.inv (LAr a [[116,105,99,107]]))) (none)
theorem Avu{W:World}(hW:Tabs W):GoodP (Fw W) Tryz.prog 37 Avs:=by
 have hD:=Wq hW;have hC0:∀ a:Act,Ad (Fw W) Tryz.prog Ke:=fun a=>(aX hW);refine As (D:=S9) (C:=fun a=>Ke) (wr:=(fun _=>false)) rfl Ao hD hC0 Tryz.func37 (Avt) (fun _=>rfl) ?_;intro a hf hp;have hpf:=Ma (O3 hf);clear hf;obtain⟨hm,kk⟩:=hp;obtain⟨f1,f2,f3,f4,f5⟩:=Vo kk hm;have n1: ¬a.kind=1:=by omega
 have hall:∀ s ∈ [[116,105,99,107]]++a.picks.map Lib.itoa,s.length≤200:=fun s hs=>by
  rcases List.mem_append.1 hs with h|h
  ·simp only[List.mem_cons,List.not_mem_nil,or_false] at h;rw[h];decide
  ·exact hpf s h
 have hw:Bh a=Lib.join ([[116,105,99,107]]++a.picks.map Lib.itoa) [32]:=by unfold Bh Cx;rw[if_pos hm,if_neg n1,if_pos kk];rfl
 (conv=>whnf)
 (repeat' (first|(exact absurd kk (by with_reducible assumption))|(exact absurd (by with_reducible assumption) n1)|split<;>rename_i hh<;>try simp only[wS] at hh)<;>conv=>whnf)
 refine⟨?_,fun(x:Nat × List UInt8) hx=>?_⟩
 ·(conv=>whnf)
  refine⟨((0,[116,105,99,107]):Nat × List UInt8),[],?_,⟨⟨rfl,(nB rfl),rfl⟩,?_,?_⟩⟩
  ·exact⟨Nat.zero_le _,by rw[List.take_zero];simp[Lib.join]⟩
  ·exact tL
  ·exact tL
 ·obtain⟨i,s⟩:=x;obtain⟨h1,h2⟩:=hx;change i≤a.picks.length at h1;change s=Lib.join ([[116,105,99,107]]++(a.picks.take i).map Lib.itoa) [32] at h2;have hsl:s.length≤300000:=by
   have:=Lp [32] 200 ([[116,105,99,107]]++(a.picks.take i).map Lib.itoa) (fun w hw=>hall w (by
    rcases List.mem_append.1 hw with h|h
    ·exact List.mem_append.2 (.inl h)
    ·exact List.mem_append.2 (.inr (List.map_subset _ (List.take_subset i a.picks) h))))
   rw[←h2] at this;simp only[List.length_append,List.length_map,List.length_take,List.length_cons,List.length_nil] at this;omega
  have hit:=fun h:i<a.picks.length=>hpf (Lib.itoa (a.picks.getD (Int.toNat (i:Int)) default)) (List.mem_map.2 ⟨_,by
   rw[show Int.toNat (i:Int)=i from rfl,List.getD_eq_getElem?_getD,List.getElem?_eq_getElem h];exact List.getElem_mem h,rfl⟩)
  (conv=>whnf)
  (repeat' (first|refine⟨tU,?_⟩|split<;>rename_i hh<;>try simp only[wS] at hh|with_reducible refine lnI fun hln=>?_)<;>conv=>whnf)
  all_goals try(show _=_;simp only[wQ])
  ·have hi2:i<a.picks.length:=Int.ofNat_lt.1 (by assumption)
   have hv:s++[32]++Lib.itoa (a.picks.getD (Int.toNat (i:Int)) default)=Lib.join ([[116,105,99,107]]++(a.picks.take (i+1)).map Lib.itoa) [32]:=by
    rw[List.take_add_one,List.map_append,List.getElem?_eq_getElem hi2,←List.append_assoc];have e:a.picks.getD (Int.toNat (i:Int)) default=a.picks[i]:=by
     rw[show Int.toNat (i:Int)=i from rfl,List.getD_eq_getElem?_getD,List.getElem?_eq_getElem hi2];rfl
    rw[e];show _=Lib.join (_++[Lib.itoa a.picks[i]]) [32];rw[cE (by simp),←h2,List.append_assoc]
   have hit:=hit hi2
   (conv=>whnf)
   refine⟨((i+1,s++[32]++Lib.itoa (a.picks.getD (Int.toNat (i:Int)) default)):Nat × List UInt8),[],?_,⟨⟨rfl,(nB rfl),rfl⟩,?_,?_⟩⟩
   ·exact⟨⟨show i+1≤a.picks.length by omega,hv⟩,show a.picks.length - (i+1)<a.picks.length - i by omega⟩
   ·exact tL
   ·exact tL
  ·have hie:i=a.picks.length:=(by omega);rw[hie,List.take_length] at h2;rw[hw,h2]
end
end Go.Vc.Z
namespace Go.Vc.Z
open Go Go.Vc Go.Proofs Go.RowKit Go.Pl Go.Lib
theorem A09(a b:List UInt8):Lib.join ([a,b]++([]:List Int).map Lib.itoa) [32]=a++[32]++b:=by simp[Lib.join]
noncomputable section
set_option maxRecDepth 100000
attribute [local irreducible] inK Utf8.decode Utf8.encode Lib.itoa Pl.worth Pl.allDig
attribute [local irreducible] Lib.join Bp Aa
def Avv:PC:=PC.of (fun a:Act=>[.agg a.enc]) (fun a=>Ag a=true∧a.kind=4) (fun a=>.str (sS (Bh a)))
def Avw:Act→Nat→Option LR:=fun a i=>cond (Nat.beq i 15) (some (.inv (LAr a ([[99,114,97,115,104],Lib.itoa a.server])))) (none)
theorem Avx{W:World}(hW:Tabs W):GoodP (Fw W) Tryz.prog 37 Avv:=by
 have hD:=Wq hW;have hC0:∀ a:Act,Ad (Fw W) Tryz.prog Ke:=fun a=>(aX hW);refine As (D:=S9) (C:=fun a=>Ke) (wr:=(fun _=>false)) rfl Ao hD hC0 Tryz.func37 (Avw) (fun _=>rfl) ?_;intro a hf hp;have hpf:=Ma (O3 hf);clear hf;obtain⟨hm,kk⟩:=hp;obtain⟨f1,f2,f3,f4,f5⟩:=R1 kk hm;have n1: ¬a.kind=1:=by omega
 have n2: ¬a.kind=2:=by omega
 have n3: ¬a.kind=3:=by omega
 have hi:=Bj a.server (by omega) (by omega)
 have hall:∀ s ∈ [[99,114,97,115,104],Lib.itoa a.server]++a.picks.map Lib.itoa,s.length≤200:=fun s hs=>by
  rcases List.mem_append.1 hs with h|h
  ·simp only[List.mem_cons,List.not_mem_nil,or_false] at h;rcases h with h|h<;>rw[h];decide;omega
  ·exact hpf s h
 have hw:Bh a=Lib.join ([[99,114,97,115,104],Lib.itoa a.server]++a.picks.map Lib.itoa) [32]:=by unfold Bh Cx;rw[if_pos hm,if_neg n1,if_neg n2,if_neg n3,if_pos kk];rfl
 (conv=>whnf)
 (repeat' (first|(exact absurd kk (by with_reducible assumption))|(exact absurd (by with_reducible assumption) n1)|(exact absurd (by with_reducible assumption) n2)|(exact absurd (by with_reducible assumption) n3)|refine⟨tU,?_⟩|split<;>rename_i hh<;>try simp only[wS] at hh)<;>conv=>whnf)
 refine⟨?_,fun(x:Nat × List UInt8) hx=>?_⟩
 ·(conv=>whnf)
  refine⟨((0,[99,114,97,115,104]++[32]++Lib.itoa a.server):Nat × List UInt8),[],?_,⟨⟨rfl,(nB rfl),rfl⟩,?_,?_⟩⟩
  ·exact⟨Nat.zero_le _,by rw[List.take_zero];exact(A09 _ _).symm⟩
  ·exact tL
  ·exact tL
 ·obtain⟨i,s⟩:=x;obtain⟨h1,h2⟩:=hx;change i≤a.picks.length at h1;change s=Lib.join ([[99,114,97,115,104],Lib.itoa a.server]++(a.picks.take i).map Lib.itoa) [32] at h2;have hsl:s.length≤300000:=by
   have:=Lp [32] 200 ([[99,114,97,115,104],Lib.itoa a.server]++(a.picks.take i).map Lib.itoa) (fun w hw=>hall w (by
    rcases List.mem_append.1 hw with h|h
    ·exact List.mem_append.2 (.inl h)
    ·exact List.mem_append.2 (.inr (List.map_subset _ (List.take_subset i a.picks) h))))
   rw[←h2] at this;simp only[List.length_append,List.length_map,List.length_take,List.length_cons,List.length_nil] at this;omega
  have hit:=fun h:i<a.picks.length=>hpf (Lib.itoa (a.picks.getD (Int.toNat (i:Int)) default)) (List.mem_map.2 ⟨_,by
   rw[show Int.toNat (i:Int)=i from rfl,List.getD_eq_getElem?_getD,List.getElem?_eq_getElem h];exact List.getElem_mem h,rfl⟩)
  (conv=>whnf)
  (repeat' (first|refine⟨tU,?_⟩|split<;>rename_i hh<;>try simp only[wS] at hh|with_reducible refine lnI fun hln=>?_)<;>conv=>whnf)
  all_goals try(show _=_;simp only[wQ])
  ·have hi2:i<a.picks.length:=Int.ofNat_lt.1 (by assumption)
   have hv:s++[32]++Lib.itoa (a.picks.getD (Int.toNat (i:Int)) default)=Lib.join ([[99,114,97,115,104],Lib.itoa a.server]++(a.picks.take (i+1)).map Lib.itoa) [32]:=by
    rw[List.take_add_one,List.map_append,List.getElem?_eq_getElem hi2,←List.append_assoc];have e:a.picks.getD (Int.toNat (i:Int)) default=a.picks[i]:=by
     rw[show Int.toNat (i:Int)=i from rfl,List.getD_eq_getElem?_getD,List.getElem?_eq_getElem hi2];rfl
    rw[e];show _=Lib.join (_++[Lib.itoa a.picks[i]]) [32];rw[cE (by simp),←h2,List.append_assoc]
   have hit:=hit hi2
   (conv=>whnf)
   refine⟨((i+1,s++[32]++Lib.itoa (a.picks.getD (Int.toNat (i:Int)) default)):Nat × List UInt8),[],?_,⟨⟨rfl,(nB rfl),rfl⟩,?_,?_⟩⟩
   ·exact⟨⟨show i+1≤a.picks.length by omega,hv⟩,show a.picks.length - (i+1)<a.picks.length - i by omega⟩
   ·exact tL
   ·exact tL
  ·have hie:i=a.picks.length:=(by omega);rw[hie,List.take_length] at h2;rw[hw,h2]
end
end Go.Vc.Z
namespace Go.Vc.Z
open Go Go.Vc Go.Proofs Go.RowKit Go.Pl Go.Lib
theorem Amd(a b c:List UInt8):Lib.join [a,b,c] [32]=a++[32]++b++[32]++c:=by simp[Lib.join]
noncomputable section
set_option maxRecDepth 100000
attribute [local irreducible] inK Utf8.decode Utf8.encode Lib.itoa Pl.worth Pl.allDig
attribute [local irreducible] Lib.join Bp Aa
def Avy:PC:=PC.of (fun a:Act=>[.agg a.enc]) (fun a=>Ag a=true∧a.kind=1) (fun a=>.str (sS (Bh a)))
def Avz:Act→Nat→Option LR:=fun a i=>cond (Nat.beq i 15) (some (.unroll 1)) (none)
theorem Av0{W:World}(hW:Tabs W):GoodP (Fw W) Tryz.prog 37 Avy:=by
 have hD:=Wq hW;have hC0:∀ a:Act,Ad (Fw W) Tryz.prog Ke:=fun a=>(aX hW);refine As (D:=S9) (C:=fun a=>Ke) (wr:=(fun _=>false)) rfl Ao hD hC0 Tryz.func37 (Avz) (fun _=>rfl) ?_;intro a hf hp;have hlr:=O2 (Vn hf);clear hf;obtain⟨hm,kk⟩:=hp;obtain⟨f1,f2,f3,f4,f5⟩:=O0 kk hm;have hi:=Bj a.server (by omega) (by omega)
 have hw:Bh a=[100,111]++[32]++Lib.itoa a.server++[32]++Be a.request:=by unfold Bh Cx;rw[if_pos hm,if_pos kk];exact Amd _ _ _
 (conv=>whnf)
 (repeat' (first|(exact absurd kk (by with_reducible assumption))|refine⟨tU,?_⟩|split<;>rename_i hh<;>try simp only[wS] at hh)<;>conv=>whnf)
 refine⟨a.request,f2,?_,?_⟩
 ·exact Ac _
 (conv=>whnf)
 (repeat' (first|refine⟨tU,?_⟩|fail)<;>conv=>whnf)
 all_goals try(show _=_;simp only[wQ])
 all_goals (rw[hw];first|done|simp)
def Av1:PC:=PC.of (fun a:Act=>[.agg a.enc]) (fun a=>Ag a=true∧a.kind=3) (fun a=>.str (sS (Bh a)))
def Av2:Act→Nat→Option LR:=fun a i=>cond (Nat.beq i 15) (some (.unroll 1)) (none)
theorem Av3{W:World}(hW:Tabs W):GoodP (Fw W) Tryz.prog 37 Av1:=by
 have hD:=Wq hW;have hC0:∀ a:Act,Ad (Fw W) Tryz.prog Ke:=fun a=>(aX hW);refine As (D:=S9) (C:=fun a=>Ke) (wr:=(fun _=>false)) rfl Ao hD hC0 Tryz.func37 (Av2) (fun _=>rfl) ?_;intro a hf hp;have hlr:=O2 (Vn hf);clear hf;obtain⟨hm,kk⟩:=hp;have n1: ¬a.kind=1:=by omega
 have n2: ¬a.kind=2:=by omega
 obtain⟨f1,f2,f3,f4,f5⟩:=O1 kk hm;have hi:=Bj a.server (by omega) (by omega)
 have hj:=Bj a.n (by omega) (by omega)
 have hw:Bh a=[102,117,115,101]++[32]++Lib.itoa a.server++[32]++Lib.itoa a.n:=by unfold Bh Cx;rw[if_pos hm,if_neg n1,if_neg n2,if_pos kk];exact Amd _ _ _
 (conv=>whnf)
 (repeat' (first|(exact absurd kk (by with_reducible assumption))|(exact absurd (by with_reducible assumption) n1)|(exact absurd (by with_reducible assumption) n2)|refine⟨tU,?_⟩|split<;>rename_i hh<;>try simp only[wS] at hh)<;>conv=>whnf)
 all_goals try(show _=_;simp only[wQ])
 all_goals (rw[hw];first|done|simp)
def Av4:PC:=PC.of (fun a:Act=>[.agg a.enc]) (fun a=>Ag a=true∧a.kind=5) (fun a=>.str (sS (Bh a)))
def Av5:Act→Nat→Option LR:=fun a i=>cond (Nat.beq i 15) (some (.unroll 1)) (none)
theorem Av6{W:World}(hW:Tabs W):GoodP (Fw W) Tryz.prog 37 Av4:=by
 have hD:=Wq hW;have hC0:∀ a:Act,Ad (Fw W) Tryz.prog Ke:=fun a=>(aX hW);refine As (D:=S9) (C:=fun a=>Ke) (wr:=(fun _=>false)) rfl Ao hD hC0 Tryz.func37 (Av5) (fun _=>rfl) ?_;intro a hf hp;have hlr:=O2 (Vn hf);clear hf;obtain⟨hm,kk⟩:=hp;have n1: ¬a.kind=1:=by omega
 have n2: ¬a.kind=2:=by omega
 have n3: ¬a.kind=3:=by omega
 have n4: ¬a.kind=4:=by omega
 obtain⟨f1,f2,f3,f4⟩:=aT kk hm;have hw:Bh a=if a.is=true then [99,97,108,109,32,121,101,115] else [99,97,108,109,32,110,111]:=by
  unfold Bh Cx;rw[if_pos hm,if_neg n1,if_neg n2,if_neg n3,if_neg n4];cases a.is<;>simp[Lib.join]
 (conv=>whnf)
 (repeat' (first|(exact absurd (by with_reducible assumption) n1)|(exact absurd (by with_reducible assumption) n2)|(exact absurd (by with_reducible assumption) n3)|(exact absurd (by with_reducible assumption) n4)|split<;>rename_i hh<;>try simp only[wS] at hh)<;>conv=>whnf)
 all_goals try(show _=_;simp only[wQ])
 all_goals (rw[hw];first|(rw[if_pos (by assumption)];done)|(rw[if_neg (by rw[show a.is=false by assumption];exact Bool.false_ne_true)];done))
end
end Go.Vc.Z
namespace Go.Vc.Z
open Go Go.Vc Go.Proofs Go.RowKit Go.Pl Go.Lib
noncomputable section
def Yz:PC:=PC.of (fun a:Act=>[.agg a.enc]) (fun a=>Ag a=true) (fun a=>.str (sS (Bh a)))
theorem qU{W:World}(hW:Tabs W):GoodP (Fw W) Tryz.prog 37 Yz:=by
 intro S w cs vs Q hs hv hT;obtain⟨a,hm,h2,h3⟩:=hT;rcases D6 hm with k|k|k|k|k
 ·exact Av0 hW S w cs vs Q hs hv ⟨a,⟨hm,k⟩,h2,h3⟩
 ·exact Avu hW S w cs vs Q hs hv ⟨a,⟨hm,k⟩,h2,h3⟩
 ·exact Av3 hW S w cs vs Q hs hv ⟨a,⟨hm,k⟩,h2,h3⟩
 ·exact Avx hW S w cs vs Q hs hv ⟨a,⟨hm,k⟩,h2,h3⟩
 ·exact Av6 hW S w cs vs Q hs hv ⟨a,⟨hm,k⟩,h2,h3⟩
end
end Go.Vc.Z
