/- Setups that may be. -/
import Derived.Test.YtpmpclbdnakniaaGreatDoorV24
set_option linter.all false
set_option maxHeartbeats 8000000
namespace Go.Vc.Z
open Go Go.Vc Go.Proofs Go.RowKit Go.Pl Go.Lib
structure Setup where
 sites:List Site
 k:Int
deriving Inhabited
abbrev Setup.enc(s:Setup):List AV:=[slE 6 Site.enc s.sites,.int .i64 s.k]
@[irreducible] def Tx(s:Setup):Bool:=decide (1≤s.sites.length∧s.sites.length≤4)&&decide (1≤s.k∧s.k≤64)&&s.sites.all L2&&decide (s.sites.map Site.carrier).Nodup
theorem S5{l:List Site}{k:Int}(h:Tx ⟨l,k⟩=true):(1≤l.length∧l.length≤4)∧(1≤k∧k≤64)∧(∀ s ∈ l,L2 s=true)∧(l.map Site.carrier).Nodup:=by
 unfold Tx at h;simp only[Bool.and_eq_true,decide_eq_true_eq,List.all_eq_true] at h;exact⟨h.1.1.1,h.1.1.2,h.1.2,h.2⟩
@[irreducible] def okF(s:Setup)(i:Nat):Bool:=decide (1≤s.sites.length∧s.sites.length≤4)&&decide (1≤s.k∧s.k≤64)&&(s.sites.take i).all L2&&decide ((s.sites.take i).map Site.carrier).Nodup
theorem oR{l:List Site}{k:Int}:okF ⟨l,k⟩ 0=decide ((1≤(l.length:Int)∧(l.length:Int)≤4)∧1≤k∧k≤64):=by
 unfold okF;rw[Bool.eq_iff_iff];simp only[List.take_zero,List.all_nil,List.map_nil,List.nodup_nil,Bool.and_eq_true,decide_eq_true_eq,decide_true,and_true];omega
theorem Al3{l:List Site}{k:Int}:okF ⟨l,k⟩ l.length=Tx ⟨l,k⟩:=by unfold okF Tx;simp
theorem Ahd{l:List Site}{k:Int}{i:Nat}(hi:i<l.length):okF ⟨l,k⟩ (i+1)=(okF ⟨l,k⟩ i&&L2 (l.getD i default)&& !decide ((l.getD i default).carrier ∈ (l.take i).map Site.carrier)):=by
 have e:(l.take (i+1))=l.take i++[l.getD i default]:=by rw[List.take_add_one,List.getElem?_eq_getElem hi,List.getD_eq_getElem?_getD,List.getElem?_eq_getElem hi];rfl
 unfold okF;simp only[e,List.all_append,List.map_append,List.map_cons,List.map_nil,List.all_cons,List.all_nil,Bool.and_true];rw[Bool.eq_iff_iff];simp only[Bool.and_eq_true,decide_eq_true_eq,Bool.not_eq_true',decide_eq_false_iff_not,List.nodup_append,List.nodup_cons,List.mem_singleton,List.not_mem_nil,not_false_eq_true,List.nodup_nil,and_true];constructor
 ·rintro⟨⟨h1,h2,h3⟩,h4,_,h5⟩;exact⟨⟨⟨⟨h1,h2⟩,h4⟩,h3⟩,fun h=>h5 _ h _ rfl rfl⟩
 ·rintro⟨⟨⟨⟨h1,h2⟩,h4⟩,h3⟩,h5⟩;exact⟨⟨h1,h2,h3⟩,h4,True.intro,fun a ha b hb e=>h5 (by rw[←hb,←e];exact ha)⟩
theorem Acs{l:List Site}{k:Int}{i:Nat}(h:okF ⟨l,k⟩ i=false)(hi:i≤l.length):Tx ⟨l,k⟩=false:=by
 rw[Bool.eq_false_iff] at h ⊢;intro hs;obtain⟨h1,h2,h3,h4⟩:=S5 hs;refine h ?_;unfold okF;simp only[Bool.and_eq_true,decide_eq_true_eq,List.all_eq_true];exact⟨⟨⟨h1,h2⟩,fun x hx=>h3 x (List.mem_of_mem_take hx)⟩,(List.Nodup.sublist (List.Sublist.map _ (List.take_sublist i l)) h4)⟩
theorem Auy{l:List Site}{i j:Nat}(hj:j<i)(hi:i<l.length):(l.getD j default).carrier ∈ (l.take i).map Site.carrier:=by
 refine List.mem_map.2 ⟨l.getD j default,?_,rfl⟩;rw[List.getD_eq_getElem?_getD,List.getElem?_eq_getElem (by omega)]
 exact List.mem_take_iff_getElem.2 ⟨j,by omega,rfl⟩
theorem Ard{l:List Site}{i:Nat}{c:Int}(hi:i<l.length)(h:∀ j,j<i→(l.getD j default).carrier≠c):c ∉ (l.take i).map Site.carrier:=fun hm=>by
 obtain⟨x,hx,rfl⟩:=List.mem_map.1 hm;obtain⟨j,hj,rfl⟩:=List.mem_take_iff_getElem.1 hx;refine h j (by omega) ?_
 rw[List.getD_eq_getElem?_getD,List.getElem?_eq_getElem (by omega)];rfl
noncomputable section
set_option maxRecDepth 100000
attribute [local irreducible] inK Utf8.decode Utf8.encode Lib.itoa Pl.worth Pl.allDig
attribute [local irreducible] Lib.join
def LMo(s:Setup):LoopSpec:={
 α:=Nat
 keep:=[1,3]
 vals i:=[.ptr 0 0,.int .i64 i]
 heap _:=[.var s.enc]
 ok i:=i≤s.sites.length∧okF s i=true
 μ i:=s.sites.length - i }
def Wm:PC:=PC.of (fun s:Setup=>[.agg s.enc]) (fun _=>True) (fun s=>.bool (sB (Tx s)))
def J2:PT:=Cg [(183,Aco)]
theorem P4{W:World}(hW:Tabs W):Cb (Fw W) Tryz.prog J2:=(Ab Tryz.call183 (aF hW) Aq)
def J3:FuncId→Option Ctr:=Av J2 []
theorem aG{W:World}(hW:Tabs W):Ad (Fw W) Tryz.prog J3:=(Ar (P4 hW))
def aH:Setup→Nat→Option LR:=fun s i=>cond (Nat.beq i 4) (some (.inv (LMo s))) (cond (Nat.beq i 9) (some (.unroll 5)) (none))
theorem aJ{W:World}(hW:Tabs W):GoodP (Fw W) Tryz.prog 103 Wm:=by
 have hD:=P4 hW;have hC0:∀ s:Setup,Ad (Fw W) Tryz.prog J3:=fun s=>(aG hW);refine As (D:=J2) (C:=fun s=>J3) (wr:=(fun _=>false)) rfl Ao hD hC0 Tryz.func103 (aH) (fun _=>rfl) ?_;rintro⟨l,k⟩ hf hp;clear hf;by_cases h0:okF ⟨l,k⟩ 0=true
 ·have hr:=h0;rw[oR,decide_eq_true_eq] at hr
  (conv=>whnf)
  (repeat' (first|split<;>rename_i hh<;>try simp only[wS] at hh|with_reducible refine lnI fun hln=>?_)<;>conv=>whnf)
  all_goals try(show _=_;simp only[wQ])
  all_goals try (exfalso;omega)
  refine⟨?_,fun(i:Nat) hi=>?_⟩
  ·(conv=>whnf)
   refine⟨(0:Nat),[],?_,⟨⟨rfl,(nB rfl),rfl⟩,?_,?_⟩⟩
   ·exact⟨Nat.zero_le _,h0⟩
   ·exact tL
   ·exact tL
  ·obtain⟨h1,h2⟩:=hi;change i≤l.length at h1;by_cases hi:i<l.length
   ·have hst:=Ahd (k:=k) hi;rw[h2,Bool.true_and] at hst
    (conv=>whnf)
    (repeat' (first|refine tuU ?_|split<;>rename_i hh<;>try simp only[wS] at hh|with_reducible refine lnI fun hln=>?_)<;>conv=>whnf)
    all_goals try(show _=_;simp only[wQ])
    all_goals try (exfalso;omega)
    refine⟨(l.getD i default:Site),True.intro,?_,?_⟩
    ·exact Ac _
    (conv=>whnf)
    (repeat' (first|refine tuU ?_|split<;>rename_i hh<;>try simp only[wS] at hh)<;>conv=>whnf)
    all_goals try(show _=_;simp only[wQ])
    ·exact(Acs (by rw[hst,‹L2 (l.getD i default)=false›];rfl) (show i+1≤l.length by omega)).symm
    all_goals (
     have hsb:L2 (l.getD i default)=true:=(by assumption);rw[hsb,Bool.true_and] at hst;first
     |(have he:=‹(l.getD _ default).carrier=(l.getD i default).carrier›;exact(Acs (by rw[hst,decide_eq_true (he ▸ Auy (by omega) hi)];rfl) (show i+1≤l.length by omega)).symm)
     |(
      (conv=>whnf)
      refine⟨(i+1:Nat),[],?_,⟨⟨rfl,(nB rfl),rfl⟩,?_,?_⟩⟩
      ·exact⟨⟨show i+1≤l.length by omega,by rw[hst,decide_eq_false (Ard hi fun j hj=>by rcases(by omega:j=0∨j=1∨j=2∨j=3) with rfl|rfl|rfl|rfl<;>first|(exfalso;omega)|assumption)];rfl⟩,show l.length - (i+1)<l.length - i by omega⟩
      ·exact tL
      ·(conv=>whnf)
       (repeat' (first|with_reducible exact⟨⟩|refine tuA ?_|with_reducible refine iA ?_ ?_|with_reducible refine iL ?_ ?_|with_reducible refine iB ?_ ?_)<;>conv=>whnf)
       all_goals try simp only[wQ]
       all_goals (try first|rfl|exact⟨fun h=>h,fun _ _=>True.intro⟩)
       all_goals skip)
     |(exfalso;omega))
   ·have hie:i=l.length:=(by omega);have hz:true=Tx ⟨l,k⟩:=by rw[←Al3,←hie,h2]
    (conv=>whnf)
    (repeat' (first|refine tuU ?_|split<;>rename_i hh<;>try simp only[wS] at hh|with_reducible refine lnI fun hln=>?_)<;>conv=>whnf)
    all_goals try(show _=_;simp only[wQ])
    all_goals first|exact hz|(exfalso;omega)|skip
 ·have hr:=h0;rw[oR,decide_eq_true_eq] at hr;have hz:false=Tx ⟨l,k⟩:=(Acs (Bool.eq_false_iff.2 h0) (Nat.zero_le _)).symm
  (conv=>whnf)
  (repeat' (first|refine tuU ?_|split<;>rename_i hh<;>try simp only[wS] at hh|with_reducible refine lnI fun hln=>?_)<;>conv=>whnf)
  all_goals try(show _=_;simp only[wQ])
  all_goals first|exact hz|(exfalso;omega)|skip
end
end Go.Vc.Z
