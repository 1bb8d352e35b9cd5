/- Setups that may be, the program's. -/
import Derived.Test.YtpmpclbdnakniaaGreatDoorV25
set_option linter.all false
set_option maxHeartbeats 8000000
namespace Go.Vc.Z
open Go Go.Vc Go.Proofs Go.RowKit Go.Pl Go.Lib
@[irreducible] def U6(es:List Int):List (AV × AV):=es.map fun c=>(.int .i64 c,.agg [.bool true])
theorem oS{σ:Nat→Nat}{n:Nat}:∀ (es:List Int),Aiy σ n (U6 es) (U6 es)
 |[]=>by unfold U6;exact True.intro
 |c::es=>by
  have ih:=oS (σ:=σ) (n:=n) es;unfold U6 at ih ⊢;exact⟨⟨rfl,rfl⟩,rfl,⟨rfl,True.intro⟩,rfl,ih⟩
theorem Are{σ:Nat→Nat}{n:Nat}:Aiy σ n [] (U6 []):=by unfold U6;exact True.intro
theorem oT{σ:Nat→Nat}{n j:Nat}{c:Int}{es:List Int}(h:es[j]? =some c):Aiy σ n ((U6 es).set (0+j) (.int .i64 c,.agg [.bool true])) (U6 es):=by
 have:(U6 es).set (0+j) (.int .i64 c,.agg [.bool true])=U6 es:=by
  unfold U6;rw[Nat.zero_add];refine List.ext_getElem? fun i=>?_;rw[List.getElem?_set];split
  ·rename_i hi;subst hi;rw[List.getElem?_map,h];split
   ·rfl
   ·rename_i hl;rw[List.length_map] at hl;rw[List.getElem?_eq_none (by omega)] at h;cases h
  ·rfl
 rw[this];exact oS es
theorem cY{σ:Nat→Nat}{n:Nat}{c:Int}{es:List Int}:Aiy σ n (U6 es++[(.int .i64 c,.agg [.bool true])]) (U6 (es++[c])):=by
 have:U6 es++[(.int .i64 c,.agg [.bool true])]=U6 (es++[c]):=by unfold U6;simp
 rw[this];exact oS _
theorem A84{c:Int}{K:Option (Nat × AV)→Prop}:∀ {es:List Int} {i:Nat},(∀ j,es[j]? =some c→K (some (i+j,.agg [.bool true])))→(c ∉ es→K none)→Xg (.int .i64) (.int .i64 c) (U6 es) i K
 |[],i,_,h=>by unfold U6;exact h List.not_mem_nil
 |d::es,i,h1,h2=>by
  have ih:=A84 (c:=c) (K:=K) (es:=es) (i:=i+1);unfold U6 at ih ⊢;rw[List.map_cons,Xg];show(match some (eqI c d) with|some b=>(match b with|true=>K (some (i,.agg [.bool true]))|false=>Xg (.int .i64) (.int .i64 c) (es.map fun c=>(.int .i64 c,.agg [.bool true])) (i+1) K)|none=>False)
  rw[Ca];by_cases hcd:c=d
  ·subst hcd;rw[beq_self_eq_true];exact h1 0 rfl
  ·rw[beq_eq_false_iff_ne.2 hcd];exact ih (fun j hj=>by have:=h1 (j+1) hj;rwa[show i+(j+1)=i+1+j by omega] at this) (fun hn=>h2 (by rw[List.mem_cons];rintro(h|h);exact hcd h;exact hn h))
theorem A83{c:Int}{kd:TK}{key:AV}{es:List Int}{es':List (AV × AV)}{i:Nat}{K:Option (Nat × AV)→Prop}(h1:kd= .int .i64)(h2:key= .int .i64 c)(h3:es'=U6 es)(h4:∀ j,es[j]? =some c→K (some (i+j,.agg [.bool true])))(h5:c ∉ es→K none):Xg kd key es' i K:=by
 rw[h1,h2,h3];exact A84 h4 h5
theorem zR{l:List Site}{i:Nat}{es:List Int}(hi:i<l.length)(h:∀ c,c ∈ es↔c ∈ (l.take i).map Site.carrier):∀ c,(c ∈ es∨c=(l.getD i default).carrier)↔c ∈ (l.take (i+1)).map Site.carrier:=fun c=>by
 have e:(l.take (i+1))=l.take i++[l.getD i default]:=by rw[List.take_add_one,List.getElem?_eq_getElem hi,List.getD_eq_getElem?_getD,List.getElem?_eq_getElem hi];rfl
 rw[e,List.map_append,List.mem_append,←h c];simp
theorem Acu{l:List Site}{i:Nat}{es:List Int}{j:Nat}(hi:i<l.length)(h:∀ c,c ∈ es↔c ∈ (l.take i).map Site.carrier)(hj:es[j]? =some (l.getD i default).carrier):∀ c,c ∈ es↔c ∈ (l.take (i+1)).map Site.carrier:=fun c=>by
 rw[←zR hi h c];exact⟨.inl,fun h=>h.elim id fun h=>h ▸ List.mem_of_getElem? hj⟩
theorem oU{l:List Site}{i:Nat}{es:List Int}(hi:i<l.length)(h:∀ c,c ∈ es↔c ∈ (l.take i).map Site.carrier):∀ c,c ∈ es++[(l.getD i default).carrier]↔c ∈ (l.take (i+1)).map Site.carrier:=fun c=>by
 rw[←zR hi h c,List.mem_append,List.mem_singleton]
noncomputable section
set_option maxRecDepth 100000
attribute [local irreducible] inK Utf8.decode Utf8.encode Lib.itoa Pl.worth Pl.allDig
attribute [local irreducible] Lib.join
def Yr:PT:=Cg [(103,Wm)]
theorem oV{W:World}(hW:Tabs W):Cb (Fw W) Tryz.prog Yr:=(Ab Tryz.call103 (aJ hW) Aq)
def Ys:FuncId→Option Ctr:=Av Yr []
theorem Ajs{W:World}(hW:Tabs W):Ad (Fw W) Tryz.prog Ys:=(Ar (oV hW))
theorem Ajt{W:World}(hW:Tabs W):GoodP (Fw W) Tryz.prog 40 Wm:=by
 have hD:=oV hW;have hC0:∀ s:Setup,Ad (Fw W) Tryz.prog Ys:=fun s=>(Ajs hW);refine As (D:=Yr) (C:=fun s=>Ys) (wr:=(fun _=>false)) rfl Ao hD hC0 Tryz.func40 (fun _ _=>none) (fun _=>rfl) ?_;intro s hf hp;clear hf;refine⟨s,True.intro,?_,?_⟩
 ·exact tL
 (conv=>whnf)
 (repeat' (first|with_reducible exact⟨⟩|with_reducible rfl|((with_reducible refine Or.inr ?_);rfl)|(with_reducible refine Ap ?_)|with_reducible refine iQ ?_ ?_|refine⟨tU,?_⟩|(split<;>rename_i hh<;>(try simp only[wS] at hh)<;>(try simp (disch:=omega) only[wT] at hh))|with_reducible refine lnI fun hln=>?_|with_reducible refine iA ?_ ?_|with_reducible refine iL ?_ ?_|with_reducible refine iB ?_ ?_)<;>conv=>whnf)
 all_goals try(show _=_;simp only[wQ])
def LWM(s:Setup):LoopSpec:={
 α:=Nat × Bool × List Int
 keep:=[3,4,29,30,31]
 vals y:=[.bool y.2.1,.map 1,slE 6 Site.enc s.sites,.int .i64 s.sites.length,.int .i64 y.1]
 heap y:=[.dead,.map (U6 y.2.2)]
 ok y:=y.1≤s.sites.length∧y.2.1=okF s y.1∧∀ c,c ∈ y.2.2↔c ∈ (s.sites.take y.1).map Site.carrier
 μ y:=s.sites.length - y.1 }
def U7:PT:=Cg [(181,Aco)]
theorem fO{W:World}(hW:Tabs W):Cb (Fw W) Tryz.prog U7:=(Ab Tryz.call181 (Acr hW) Aq)
def U8:FuncId→Option Ctr:=Av U7 []
theorem Ahe{W:World}(hW:Tabs W):Ad (Fw W) Tryz.prog U8:=(Ar (fO hW))
def Ahf:Setup→Nat→Option LR:=fun s i=>cond (Nat.beq i 4) (some (.inv (LWM s))) (none)
theorem Ahg{W:World}(hW:Tabs W):GoodP (Fw W) Tryz.prog 99 Wm:=by
 have hD:=fO hW;have hC0:∀ s:Setup,Ad (Fw W) Tryz.prog U8:=fun s=>(Ahe hW);refine As (D:=U7) (C:=fun s=>U8) (wr:=(fun _=>false)) rfl Ao hD hC0 Tryz.func99 (Ahf) (fun _=>rfl) ?_;rintro⟨l,k⟩ hf hp;clear hf
 (conv=>whnf)
 (repeat' (first|split<;>rename_i hh<;>try simp only[wS] at hh|with_reducible refine lnI fun hln=>?_)<;>conv=>whnf)
 all_goals try(show _=_;simp only[wQ])
 all_goals (
  refine⟨?_,fun(y:Nat × Bool × List Int) hy=>?_⟩
  ·(conv=>whnf)
   refine⟨((0,okF ⟨l,k⟩ 0,[]):Nat × Bool × List Int),[0,1],?_,⟨⟨rfl,(nB rfl),rfl⟩,?_,?_⟩⟩
   ·exact⟨Nat.zero_le _,rfl,fun c=>by simp⟩
   ·(conv=>whnf)
    (repeat' (first|with_reducible exact⟨⟩|refine⟨tA,?_⟩|with_reducible refine iA ?_ ?_)<;>conv=>whnf)
    all_goals try simp only[wQ]
    all_goals (try first|omega|rfl|exact Or.inl True.intro|exact⟨fun h=>h,fun _ _=>True.intro⟩|exact⟨fun h=>h,fun _ _=>rfl⟩|(refine⟨fun h=>h,fun e he=>?_⟩;rw[Nat.zero_add];done))
    all_goals (try first|exact fun _ _=>⟨True.intro,rfl⟩|exact⟨Nat.le_refl _,fun _ _=>⟨True.intro,rfl⟩⟩|exact⟨by simp,Or.inl trivial⟩|exact⟨by simp,fun e he=>⟨Akv rfl he,rfl⟩⟩)
    all_goals (rw[oR];first|(symm;rw[decide_eq_false_iff_not];omega)|(rw[cond_true,B7,Bool.eq_iff_iff,decide_eq_true_eq,decide_eq_true_eq];omega)|(simp only[cond_true,B7];rw[Bool.eq_iff_iff,decide_eq_true_eq,decide_eq_true_eq];omega))
   ·(conv=>whnf)
    (repeat' (first|with_reducible exact⟨⟩|with_reducible refine iB ?_ ?_)<;>conv=>whnf)
    all_goals try simp only[wQ]
    all_goals (try first|omega|rfl|exact Or.inl True.intro|exact⟨fun h=>h,fun _ _=>True.intro⟩|exact⟨fun h=>h,fun _ _=>rfl⟩|(refine⟨fun h=>h,fun e he=>?_⟩;rw[Nat.zero_add];done))
    all_goals (try first|exact fun _ _=>⟨True.intro,rfl⟩|exact⟨Nat.le_refl _,fun _ _=>⟨True.intro,rfl⟩⟩|exact⟨by simp,Or.inl trivial⟩|exact⟨by simp,fun e he=>⟨Akv rfl he,rfl⟩⟩)
    all_goals exact Are
  ·obtain⟨i,f,es⟩:=y;obtain⟨h1,h2,h3⟩:=hy;change i≤l.length at h1;change f=okF ⟨l,k⟩ i at h2;change ∀ c,c ∈ es↔c ∈ (l.take i).map Site.carrier at h3;by_cases hi:i<l.length
   ·first
    |(exfalso;omega)
    |(
     have hst:=Ahd (k:=k) hi;rw[←h2] at hst;have hin:∀ {c:Int} {j:Nat},es[j]? =some c→c ∉ es→False:=fun h1 h2=>h2 (List.mem_of_getElem? h1);have hval:(f=false→okF ⟨l,k⟩ (i+1)=false)∧(L2 (l.getD i default)=false→okF ⟨l,k⟩ (i+1)=false)∧((l.getD i default).carrier ∈ es→okF ⟨l,k⟩ (i+1)=false)∧(f=true→L2 (l.getD i default)=true→(l.getD i default).carrier ∉ es→okF ⟨l,k⟩ (i+1)=true):=by
      rw[hst];refine⟨fun h=>by rw[h];rfl,fun h=>by rw[h,Bool.and_false];rfl,fun h=>by rw[decide_eq_true ((h3 _).1 h),Bool.not_true,Bool.and_false],fun h h' hn=>by rw[h,h',decide_eq_false (fun h=>hn ((h3 _).2 h))];rfl⟩
     obtain⟨v1,v2,v3,v4⟩:=hval;rcases f with _|_
     ·have hz:=(v1 rfl).symm
      (conv=>whnf)
      (repeat' (first|((with_reducible apply A83);exact rfl;exact rfl;exact rfl;intro j hj;rotate_left;intro hn)|refine⟨tU,?_⟩|split<;>rename_i hh<;>try simp only[wS] at hh)<;>conv=>whnf)
      all_goals try(show _=_;simp only[wQ])
      all_goals try (exfalso;omega)
      ·(conv=>whnf)
       refine⟨((i+1,okF ⟨l,k⟩ (i+1),es++[(l.getD i default).carrier]):Nat × Bool × List Int),[],?_,⟨⟨rfl,(nB rfl),rfl⟩,?_,?_⟩⟩
       ·exact⟨⟨show i+1≤l.length by omega,rfl,oU hi h3⟩,show l.length - (i+1)<l.length - i by omega⟩
       ·(conv=>whnf)
        (repeat' (first|with_reducible exact⟨⟩|refine⟨tA,?_⟩|with_reducible refine iA ?_ ?_)<;>conv=>whnf)
        all_goals try simp only[wQ]
        all_goals (try first|omega|rfl|exact Or.inl True.intro|exact⟨fun h=>h,fun _ _=>True.intro⟩|exact⟨fun h=>h,fun _ _=>rfl⟩|(refine⟨fun h=>h,fun e he=>?_⟩;rw[Nat.zero_add];done))
        all_goals (try first|exact fun _ _=>⟨True.intro,rfl⟩|exact⟨Nat.le_refl _,fun _ _=>⟨True.intro,rfl⟩⟩|exact⟨by simp,Or.inl trivial⟩|exact⟨by simp,fun e he=>⟨Akv rfl he,rfl⟩⟩)
        all_goals exact hz
       ·(conv=>whnf)
        (repeat' (first|with_reducible exact⟨⟩|with_reducible refine iB ?_ ?_)<;>conv=>whnf)
        all_goals try simp only[wQ]
        all_goals (try first|omega|rfl|exact Or.inl True.intro|exact⟨fun h=>h,fun _ _=>True.intro⟩|exact⟨fun h=>h,fun _ _=>rfl⟩|(refine⟨fun h=>h,fun e he=>?_⟩;rw[Nat.zero_add];done))
        all_goals (try first|exact fun _ _=>⟨True.intro,rfl⟩|exact⟨Nat.le_refl _,fun _ _=>⟨True.intro,rfl⟩⟩|exact⟨by simp,Or.inl trivial⟩|exact⟨by simp,fun e he=>⟨Akv rfl he,rfl⟩⟩)
        all_goals exact cY
      ·(conv=>whnf)
       refine⟨((i+1,okF ⟨l,k⟩ (i+1),es):Nat × Bool × List Int),[],?_,⟨⟨rfl,(nB rfl),rfl⟩,?_,?_⟩⟩
       ·exact⟨⟨show i+1≤l.length by omega,rfl,Acu hi h3 (by assumption)⟩,show l.length - (i+1)<l.length - i by omega⟩
       ·(conv=>whnf)
        (repeat' (first|with_reducible exact⟨⟩|refine⟨tA,?_⟩|with_reducible refine iA ?_ ?_)<;>conv=>whnf)
        all_goals try simp only[wQ]
        all_goals (try first|omega|rfl|exact Or.inl True.intro|exact⟨fun h=>h,fun _ _=>True.intro⟩|exact⟨fun h=>h,fun _ _=>rfl⟩|(refine⟨fun h=>h,fun e he=>?_⟩;rw[Nat.zero_add];done))
        all_goals (try first|exact fun _ _=>⟨True.intro,rfl⟩|exact⟨Nat.le_refl _,fun _ _=>⟨True.intro,rfl⟩⟩|exact⟨by simp,Or.inl trivial⟩|exact⟨by simp,fun e he=>⟨Akv rfl he,rfl⟩⟩)
        all_goals exact hz
       ·(conv=>whnf)
        (repeat' (first|with_reducible exact⟨⟩|with_reducible refine iB ?_ ?_)<;>conv=>whnf)
        all_goals try simp only[wQ]
        all_goals (try first|omega|rfl|exact Or.inl True.intro|exact⟨fun h=>h,fun _ _=>True.intro⟩|exact⟨fun h=>h,fun _ _=>rfl⟩|(refine⟨fun h=>h,fun e he=>?_⟩;rw[Nat.zero_add];done))
        all_goals (try first|exact fun _ _=>⟨True.intro,rfl⟩|exact⟨Nat.le_refl _,fun _ _=>⟨True.intro,rfl⟩⟩|exact⟨by simp,Or.inl trivial⟩|exact⟨by simp,fun e he=>⟨Akv rfl he,rfl⟩⟩)
        all_goals exact oT (by assumption)
     ·(conv=>whnf)
      (repeat' (first|refine⟨tU,?_⟩|split<;>rename_i hh<;>try simp only[wS] at hh)<;>conv=>whnf)
      all_goals try(show _=_;simp only[wQ])
      all_goals try (exfalso;omega)
      refine⟨(l.getD i default:Site),True.intro,?_,?_⟩
      ·exact tL
      (conv=>whnf)
      (repeat' (first|((with_reducible apply A83);exact rfl;exact rfl;exact rfl;intro j hj;rotate_left;intro hn)|refine⟨tU,?_⟩|split<;>rename_i hh<;>try simp only[wS] at hh)<;>conv=>whnf)
      all_goals try(show _=_;simp only[wQ])
      all_goals try (exfalso;exact hin (by assumption) (by assumption))
      ·(conv=>whnf)
       refine⟨((i+1,okF ⟨l,k⟩ (i+1),es++[(l.getD i default).carrier]):Nat × Bool × List Int),[],?_,⟨⟨rfl,(nB rfl),rfl⟩,?_,?_⟩⟩
       ·exact⟨⟨show i+1≤l.length by omega,rfl,oU hi h3⟩,show l.length - (i+1)<l.length - i by omega⟩
       ·(conv=>whnf)
        (repeat' (first|with_reducible exact⟨⟩|refine⟨tA,?_⟩|with_reducible refine iA ?_ ?_)<;>conv=>whnf)
        all_goals try simp only[wQ]
        all_goals (try first|omega|rfl|exact Or.inl True.intro|exact⟨fun h=>h,fun _ _=>True.intro⟩|exact⟨fun h=>h,fun _ _=>rfl⟩|(refine⟨fun h=>h,fun e he=>?_⟩;rw[Nat.zero_add];done))
        all_goals (try first|exact fun _ _=>⟨True.intro,rfl⟩|exact⟨Nat.le_refl _,fun _ _=>⟨True.intro,rfl⟩⟩|exact⟨by simp,Or.inl trivial⟩|exact⟨by simp,fun e he=>⟨Akv rfl he,rfl⟩⟩)
        all_goals exact(v4 rfl (by assumption) (by assumption)).symm
       ·(conv=>whnf)
        (repeat' (first|with_reducible exact⟨⟩|with_reducible refine iB ?_ ?_)<;>conv=>whnf)
        all_goals try simp only[wQ]
        all_goals (try first|omega|rfl|exact Or.inl True.intro|exact⟨fun h=>h,fun _ _=>True.intro⟩|exact⟨fun h=>h,fun _ _=>rfl⟩|(refine⟨fun h=>h,fun e he=>?_⟩;rw[Nat.zero_add];done))
        all_goals (try first|exact fun _ _=>⟨True.intro,rfl⟩|exact⟨Nat.le_refl _,fun _ _=>⟨True.intro,rfl⟩⟩|exact⟨by simp,Or.inl trivial⟩|exact⟨by simp,fun e he=>⟨Akv rfl he,rfl⟩⟩)
        all_goals exact cY
      ·(conv=>whnf)
       refine⟨((i+1,okF ⟨l,k⟩ (i+1),es):Nat × Bool × List Int),[],?_,⟨⟨rfl,(nB rfl),rfl⟩,?_,?_⟩⟩
       ·exact⟨⟨show i+1≤l.length by omega,rfl,Acu hi h3 (by assumption)⟩,show l.length - (i+1)<l.length - i by omega⟩
       ·(conv=>whnf)
        (repeat' (first|with_reducible exact⟨⟩|refine⟨tA,?_⟩|with_reducible refine iA ?_ ?_)<;>conv=>whnf)
        all_goals try simp only[wQ]
        all_goals (try first|omega|rfl|exact Or.inl True.intro|exact⟨fun h=>h,fun _ _=>True.intro⟩|exact⟨fun h=>h,fun _ _=>rfl⟩|(refine⟨fun h=>h,fun e he=>?_⟩;rw[Nat.zero_add];done))
        all_goals (try first|exact fun _ _=>⟨True.intro,rfl⟩|exact⟨Nat.le_refl _,fun _ _=>⟨True.intro,rfl⟩⟩|exact⟨by simp,Or.inl trivial⟩|exact⟨by simp,fun e he=>⟨Akv rfl he,rfl⟩⟩)
        all_goals exact(v3 (List.mem_of_getElem? (by assumption))).symm
       ·(conv=>whnf)
        (repeat' (first|with_reducible exact⟨⟩|with_reducible refine iB ?_ ?_)<;>conv=>whnf)
        all_goals try simp only[wQ]
        all_goals (try first|omega|rfl|exact Or.inl True.intro|exact⟨fun h=>h,fun _ _=>True.intro⟩|exact⟨fun h=>h,fun _ _=>rfl⟩|(refine⟨fun h=>h,fun e he=>?_⟩;rw[Nat.zero_add];done))
        all_goals (try first|exact fun _ _=>⟨True.intro,rfl⟩|exact⟨Nat.le_refl _,fun _ _=>⟨True.intro,rfl⟩⟩|exact⟨by simp,Or.inl trivial⟩|exact⟨by simp,fun e he=>⟨Akv rfl he,rfl⟩⟩)
        all_goals exact oT (by assumption)
      ·(conv=>whnf)
       refine⟨((i+1,okF ⟨l,k⟩ (i+1),es++[(l.getD i default).carrier]):Nat × Bool × List Int),[],?_,⟨⟨rfl,(nB rfl),rfl⟩,?_,?_⟩⟩
       ·exact⟨⟨show i+1≤l.length by omega,rfl,oU hi h3⟩,show l.length - (i+1)<l.length - i by omega⟩
       ·(conv=>whnf)
        (repeat' (first|with_reducible exact⟨⟩|refine⟨tA,?_⟩|with_reducible refine iA ?_ ?_)<;>conv=>whnf)
        all_goals try simp only[wQ]
        all_goals (try first|omega|rfl|exact Or.inl True.intro|exact⟨fun h=>h,fun _ _=>True.intro⟩|exact⟨fun h=>h,fun _ _=>rfl⟩|(refine⟨fun h=>h,fun e he=>?_⟩;rw[Nat.zero_add];done))
        all_goals (try first|exact fun _ _=>⟨True.intro,rfl⟩|exact⟨Nat.le_refl _,fun _ _=>⟨True.intro,rfl⟩⟩|exact⟨by simp,Or.inl trivial⟩|exact⟨by simp,fun e he=>⟨Akv rfl he,rfl⟩⟩)
        all_goals exact(v2 (by assumption)).symm
       ·(conv=>whnf)
        (repeat' (first|with_reducible exact⟨⟩|with_reducible refine iB ?_ ?_)<;>conv=>whnf)
        all_goals try simp only[wQ]
        all_goals (try first|omega|rfl|exact Or.inl True.intro|exact⟨fun h=>h,fun _ _=>True.intro⟩|exact⟨fun h=>h,fun _ _=>rfl⟩|(refine⟨fun h=>h,fun e he=>?_⟩;rw[Nat.zero_add];done))
        all_goals (try first|exact fun _ _=>⟨True.intro,rfl⟩|exact⟨Nat.le_refl _,fun _ _=>⟨True.intro,rfl⟩⟩|exact⟨by simp,Or.inl trivial⟩|exact⟨by simp,fun e he=>⟨Akv rfl he,rfl⟩⟩)
        all_goals exact cY
      ·(conv=>whnf)
       refine⟨((i+1,okF ⟨l,k⟩ (i+1),es):Nat × Bool × List Int),[],?_,⟨⟨rfl,(nB rfl),rfl⟩,?_,?_⟩⟩
       ·exact⟨⟨show i+1≤l.length by omega,rfl,Acu hi h3 (by assumption)⟩,show l.length - (i+1)<l.length - i by omega⟩
       ·(conv=>whnf)
        (repeat' (first|with_reducible exact⟨⟩|refine⟨tA,?_⟩|with_reducible refine iA ?_ ?_)<;>conv=>whnf)
        all_goals try simp only[wQ]
        all_goals (try first|omega|rfl|exact Or.inl True.intro|exact⟨fun h=>h,fun _ _=>True.intro⟩|exact⟨fun h=>h,fun _ _=>rfl⟩|(refine⟨fun h=>h,fun e he=>?_⟩;rw[Nat.zero_add];done))
        all_goals (try first|exact fun _ _=>⟨True.intro,rfl⟩|exact⟨Nat.le_refl _,fun _ _=>⟨True.intro,rfl⟩⟩|exact⟨by simp,Or.inl trivial⟩|exact⟨by simp,fun e he=>⟨Akv rfl he,rfl⟩⟩)
        all_goals exact(v2 (by assumption)).symm
       ·(conv=>whnf)
        (repeat' (first|with_reducible exact⟨⟩|with_reducible refine iB ?_ ?_)<;>conv=>whnf)
        all_goals try simp only[wQ]
        all_goals (try first|omega|rfl|exact Or.inl True.intro|exact⟨fun h=>h,fun _ _=>True.intro⟩|exact⟨fun h=>h,fun _ _=>rfl⟩|(refine⟨fun h=>h,fun e he=>?_⟩;rw[Nat.zero_add];done))
        all_goals (try first|exact fun _ _=>⟨True.intro,rfl⟩|exact⟨Nat.le_refl _,fun _ _=>⟨True.intro,rfl⟩⟩|exact⟨by simp,Or.inl trivial⟩|exact⟨by simp,fun e he=>⟨Akv rfl he,rfl⟩⟩)
        all_goals exact oT (by assumption))
   ·have hie:i=l.length:=(by omega);have hfs:f=Tx ⟨l,k⟩:=by rw[h2,hie,Al3]
    (conv=>whnf)
    (repeat' (first|((with_reducible apply A83);exact rfl;exact rfl;exact rfl;intro j hj;rotate_left;intro hn)|refine⟨tU,?_⟩|split<;>rename_i hh<;>try simp only[wS] at hh)<;>conv=>whnf)
    all_goals try(show _=_;simp only[wQ])
    all_goals first|exact hfs|(exfalso;omega)|skip
 )
end
end Go.Vc.Z
