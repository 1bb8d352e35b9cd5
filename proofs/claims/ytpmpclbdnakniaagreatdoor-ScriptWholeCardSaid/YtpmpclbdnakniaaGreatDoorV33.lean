/- Setups that may be, the program's. -/
import Derived.Test.YtpmpclbdnakniaaGreatDoorV31
set_option linter.all false
set_option linter.unusedVariables false
set_option linter.unusedSimpArgs false
namespace Go.Vc.Z
open Go Go.Vc Go.Proofs Go.RowKit Go.Pl Go.Lib
theorem Np{l:List Site}{k:Int}(h:Dt ⟨l,k⟩=true):(1≤l.length∧l.length≤4)∧(1≤k∧k≤64)∧(∀ s ∈ l,Oq s=true)∧(l.map Site.carrier).Nodup:=by
 unfold Dt at h
 simp only[Bool.and_eq_true,decide_eq_true_eq,List.all_eq_true] at h
 exact⟨h.1.1.1,h.1.1.2,h.1.2,h.2⟩
@[irreducible] def Pd(es:List Int):List (AV × AV):=es.map fun c=>(.int .i64 c,.agg [.bool true])
theorem lG{σ:Nat→Nat}{n:Nat}:∀ (es:List Int),Afm σ n (Pd es) (Pd es)
 |[]=>by unfold Pd;exact True.intro
 |c::es=>by
  have ih:=lG (σ:=σ) (n:=n) es
  unfold Pd at ih ⊢
  exact⟨⟨rfl,rfl⟩,rfl,⟨rfl,True.intro⟩,rfl,ih⟩
theorem Aop{σ:Nat→Nat}{n:Nat}:Afm σ n [] (Pd []):=by unfold Pd;exact True.intro
theorem lH{σ:Nat→Nat}{n j:Nat}{c:Int}{es:List Int}(h:es[j]? =some c):Afm σ n ((Pd es).set (0+j) (.int .i64 c,.agg [.bool true])) (Pd es):=by
 have:(Pd es).set (0+j) (.int .i64 c,.agg [.bool true])=Pd es:=by
  unfold Pd
  rw[Nat.zero_add]
  refine List.ext_getElem? fun i=>?_
  rw[List.getElem?_set]
  split
  ·rename_i hi;subst hi;rw[List.getElem?_map,h];split
   ·rfl
   ·rename_i hl;rw[List.length_map] at hl;rw[List.getElem?_eq_none (by omega)] at h;cases h
  ·rfl
 rw[this];exact lG es
theorem aJ{σ:Nat→Nat}{n:Nat}{c:Int}{es:List Int}:Afm σ n (Pd es++[(.int .i64 c,.agg [.bool true])]) (Pd (es++[c])):=by
 have:Pd es++[(.int .i64 c,.agg [.bool true])]=Pd (es++[c]):=by unfold Pd;simp
 rw[this];exact lG _
theorem wC{c:Int}{K:Option (Nat × AV)→Prop}:∀ {es:List Int} {i:Nat},(∀ j,es[j]? =some c→K (some (i+j,.agg [.bool true])))→(c ∉ es→K none)→N6 (.int .i64) (.int .i64 c) (Pd es) i K
 |[],i,_,h=>by unfold Pd;exact h List.not_mem_nil
 |d::es,i,h1,h2=>by
  have ih:=wC (c:=c) (K:=K) (es:=es) (i:=i+1)
  unfold Pd at ih ⊢
  rw[List.map_cons,N6]
  show(match some (eqI c d) with|some b=>(match b with|true=>K (some (i,.agg [.bool true]))|false=>N6 (.int .i64) (.int .i64 c) (es.map fun c=>(.int .i64 c,.agg [.bool true])) (i+1) K)|none=>False)
  rw[Be]
  by_cases hcd:c=d
  ·subst hcd;rw[beq_self_eq_true];exact h1 0 rfl
  ·rw[beq_eq_false_iff_ne.2 hcd]
   exact ih (fun j hj=>by have:=h1 (j+1) hj;rwa[show i+(j+1)=i+1+j by omega] at this) (fun hn=>h2 (by rw[List.mem_cons];rintro(h|h);exact hcd h;exact hn h))
theorem Wn{c:Int}{kd:TK}{key:AV}{es:List Int}{es':List (AV × AV)}{i:Nat}{K:Option (Nat × AV)→Prop}(h1:kd= .int .i64)(h2:key= .int .i64 c)(h3:es'=Pd es)(h4:∀ j,es[j]? =some c→K (some (i+j,.agg [.bool true])))(h5:c ∉ es→K none):N6 kd key es' i K:=by
 rw[h1,h2,h3];exact wC h4 h5
@[irreducible] def okF(s:Setup)(i:Nat):Bool:=decide (1≤s.sites.length∧s.sites.length≤4)&&decide (1≤s.k∧s.k≤64)&&(s.sites.take i).all Oq&&decide ((s.sites.take i).map Site.carrier).Nodup
theorem Aoq{l:List Site}{k:Int}:okF ⟨l,k⟩ 0=decide ((1≤(l.length:Int)∧(l.length:Int)≤4)∧1≤k∧k≤64):=by
 unfold okF
 rw[Bool.eq_iff_iff];simp only[List.take_zero,List.all_nil,List.map_nil,List.nodup_nil,Bool.and_eq_true,decide_eq_true_eq,decide_true,and_true];omega
theorem Aro{l:List Site}{k:Int}:okF ⟨l,k⟩ l.length=Dt ⟨l,k⟩:=by unfold okF Dt;simp
theorem Aor{l:List Site}{k:Int}{i:Nat}(hi:i<l.length):okF ⟨l,k⟩ (i+1)=(okF ⟨l,k⟩ i&&Oq (l.getD i default)&& !decide ((l.getD i default).carrier ∈ (l.take i).map Site.carrier)):=by
 have e:(l.take (i+1))=l.take i++[l.getD i default]:=by rw[List.take_add_one,List.getElem?_eq_getElem hi,List.getD_eq_getElem?_getD,List.getElem?_eq_getElem hi];rfl
 unfold okF
 simp only[e,List.all_append,List.map_append,List.map_cons,List.map_nil,List.all_cons,List.all_nil,Bool.and_true]
 rw[Bool.eq_iff_iff]
 simp only[Bool.and_eq_true,decide_eq_true_eq,Bool.not_eq_true',decide_eq_false_iff_not,List.nodup_append,List.nodup_cons,List.mem_singleton,List.not_mem_nil,not_false_eq_true,List.nodup_nil,and_true]
 constructor
 ·rintro⟨⟨h1,h2,h3⟩,h4,_,h5⟩
  exact⟨⟨⟨⟨h1,h2⟩,h4⟩,h3⟩,fun h=>h5 _ h _ rfl rfl⟩
 ·rintro⟨⟨⟨⟨h1,h2⟩,h4⟩,h3⟩,h5⟩
  exact⟨⟨h1,h2,h3⟩,h4,True.intro,fun a ha b hb e=>h5 (by rw[←hb,←e];exact ha)⟩
theorem wD{l:List Site}{i:Nat}{es:List Int}(hi:i<l.length)(h:∀ c,c ∈ es↔c ∈ (l.take i).map Site.carrier):∀ c,(c ∈ es∨c=(l.getD i default).carrier)↔c ∈ (l.take (i+1)).map Site.carrier:=fun c=>by
 have e:(l.take (i+1))=l.take i++[l.getD i default]:=by rw[List.take_add_one,List.getElem?_eq_getElem hi,List.getD_eq_getElem?_getD,List.getElem?_eq_getElem hi];rfl
 rw[e,List.map_append,List.mem_append,←h c];simp
theorem zW{l:List Site}{i:Nat}{es:List Int}{j:Nat}(hi:i<l.length)(h:∀ c,c ∈ es↔c ∈ (l.take i).map Site.carrier)(hj:es[j]? =some (l.getD i default).carrier):∀ c,c ∈ es↔c ∈ (l.take (i+1)).map Site.carrier:=fun c=>by
 rw[←wD hi h c]
 exact⟨.inl,fun h=>h.elim id fun h=>h ▸ List.mem_of_getElem? hj⟩
theorem lI{l:List Site}{i:Nat}{es:List Int}(hi:i<l.length)(h:∀ c,c ∈ es↔c ∈ (l.take i).map Site.carrier):∀ c,c ∈ es++[(l.getD i default).carrier]↔c ∈ (l.take (i+1)).map Site.carrier:=fun c=>by
 rw[←wD hi h c,List.mem_append,List.mem_singleton]
noncomputable section
set_option maxRecDepth 100000
attribute [local irreducible] inK Utf8.decode Utf8.encode Lib.itoa Pl.worth Pl.allDig
attribute [local irreducible] Lib.join
def Wo:PT:=C2 [(103,Um)]
theorem lJ{W:World}(hW:Tabs W):Cl (Fw W) Tryz.prog Wo:=(Ab Tryz.call103 (Yn hW) As)
def Wp:FuncId→Option Ctr:=Aw Wo []
theorem Agr{W:World}(hW:Tabs W):Ad (Fw W) Tryz.prog Wp:=(Au (lJ hW))
theorem Ags{W:World}(hW:Tabs W):GoodP (Fw W) Tryz.prog 40 Um:=by
 have hD:=lJ hW
 have hC0:∀ s:Setup,Ad (Fw W) Tryz.prog Wp:=fun s=>(Agr hW)
 refine Ar (D:=Wo) (C:=fun s=>Wp) (wr:=(fun _=>false)) rfl Ap hD hC0 Tryz.func40 (fun _ _=>none) (fun _=>rfl) ?_
 intro s hf hp
 clear hf
 refine⟨s,True.intro,?_,?_⟩
 ·exact Ac _
 (conv=>whnf)
def LWM(s:Setup):LoopSpec:={
 α:=Nat × Bool × List Int
 keep:=[3,4,29,30,31]
 vals y:=[.bool y.2.1,.map 1,slE 6 Site.enc s.sites,.int .i64 s.sites.length,.int .i64 y.1]
 heap y:=[.dead,.map (Pd y.2.2)]
 ok y:=y.1≤s.sites.length∧y.2.1=okF s y.1∧∀ c,c ∈ y.2.2↔c ∈ (s.sites.take y.1).map Site.carrier
 μ y:=s.sites.length - y.1 }
def Tk:PT:=C2 [(181,zT)]
theorem cJ{W:World}(hW:Tabs W):Cl (Fw W) Tryz.prog Tk:=(Ab Tryz.call181 (zV hW) As)
def Tl:FuncId→Option Ctr:=Aw Tk []
theorem Aep{W:World}(hW:Tabs W):Ad (Fw W) Tryz.prog Tl:=(Au (cJ hW))
def Aeq:Setup→Nat→Option LR:=fun s i=>cond (Nat.beq i 4) (some (.inv (LWM s))) (none)
set_option maxHeartbeats 2000000 in
theorem Aer{W:World}(hW:Tabs W):GoodP (Fw W) Tryz.prog 99 Um:=by
 have hD:=cJ hW
 have hC0:∀ s:Setup,Ad (Fw W) Tryz.prog Tl:=fun s=>(Aep hW)
 refine Ar (D:=Tk) (C:=fun s=>Tl) (wr:=(fun _=>false)) rfl Ap hD hC0 Tryz.func99 (Aeq) (fun _=>rfl) ?_
 rintro⟨l,k⟩ hf hp
 clear hf
 (conv=>whnf)
 (repeat' ((first
  |(split<;>rename_i hh<;>(try simp only[wS] at hh))
  |with_reducible refine lnI fun hln=>?_
  |fail)<;>(conv=>whnf)))
 all_goals (
  refine⟨?_,fun(y:Nat × Bool × List Int) hy=>?_⟩
  ·(conv=>whnf)
   refine⟨((0,okF ⟨l,k⟩ 0,[]):Nat × Bool × List Int),[0,1],?_,⟨⟨rfl,(nB rfl),rfl⟩,?_,?_⟩⟩
   ·exact⟨Nat.zero_le _,rfl,fun c=>by simp⟩
   ·(conv=>whnf)
    (repeat' ((first|with_reducible exact⟨⟩|((with_reducible refine aI ?_ ?_);focus (exact tA))|with_reducible refine iA ?_ ?_|fail)<;>(conv=>whnf)))
    all_goals (try simp only[wQ])
    all_goals (try first|omega|exact⟨fun h=>h,fun _ _=>True.intro⟩)
    all_goals (rw[Aoq];first|(symm;rw[decide_eq_false_iff_not];omega)|(rw[cond_true,Ca,Bool.eq_iff_iff,decide_eq_true_eq,decide_eq_true_eq];omega)|(simp only[cond_true,Ca];rw[Bool.eq_iff_iff,decide_eq_true_eq,decide_eq_true_eq];omega))
   ·(conv=>whnf)
    (repeat' ((first|with_reducible exact⟨⟩|with_reducible refine iB ?_ ?_|fail)<;>(conv=>whnf)))
    all_goals (try simp only[wQ])
    all_goals exact Aop
  ·obtain⟨i,f,es⟩:=y
   obtain⟨h1,h2,h3⟩:=hy
   change i≤l.length at h1
   change f=okF ⟨l,k⟩ i at h2
   change ∀ c,c ∈ es↔c ∈ (l.take i).map Site.carrier at h3
   by_cases hi:i<l.length
   ·first
    |(exfalso;omega)
    |(
     have hst:=Aor (k:=k) hi
     rw[←h2] at hst
     have hin:∀ {c:Int} {j:Nat},es[j]? =some c→c ∉ es→False:=fun h1 h2=>h2 (List.mem_of_getElem? h1)
     have hval:(f=false→okF ⟨l,k⟩ (i+1)=false)∧(Oq (l.getD i default)=false→okF ⟨l,k⟩ (i+1)=false)∧((l.getD i default).carrier ∈ es→okF ⟨l,k⟩ (i+1)=false)∧(f=true→Oq (l.getD i default)=true→(l.getD i default).carrier ∉ es→okF ⟨l,k⟩ (i+1)=true):=by
      rw[hst]
      refine⟨fun h=>by rw[h];rfl,fun h=>by rw[h,Bool.and_false];rfl,fun h=>by rw[decide_eq_true ((h3 _).1 h),Bool.not_true,Bool.and_false],fun h h' hn=>by rw[h,h',decide_eq_false (fun h=>hn ((h3 _).2 h))];rfl⟩
     obtain⟨v1,v2,v3,v4⟩:=hval
     rcases f with _|_
     ·have hz:=(v1 rfl).symm
      (conv=>whnf)
      (repeat' ((first
       |((with_reducible apply Wn);exact rfl;exact rfl;exact rfl;intro j hj;rotate_left;intro hn)
       |((with_reducible refine aI ?_ ?_);focus (first|((with_reducible refine⟨?_,?_⟩)<;>first|with_reducible assumption|omega)|exact tK|(dsimp only at*;simp only[Am,Go.Vc.lo,Go.Vc.hi];omega)))
       |(split<;>rename_i hh<;>(try simp only[wS] at hh))
       |fail)<;>(conv=>whnf)))
      all_goals (try (show _=_;simp only[wQ]))
      all_goals try (exfalso;omega)
      ·(conv=>whnf)
       refine⟨((i+1,okF ⟨l,k⟩ (i+1),es++[(l.getD i default).carrier]):Nat × Bool × List Int),[],?_,⟨⟨rfl,(nB rfl),rfl⟩,?_,?_⟩⟩
       ·exact⟨⟨show i+1≤l.length by omega,rfl,lI hi h3⟩,show l.length - (i+1)<l.length - i by omega⟩
       ·(conv=>whnf)
        (repeat' ((first|with_reducible exact⟨⟩|((with_reducible refine aI ?_ ?_);focus (exact tA))|with_reducible refine iA ?_ ?_|fail)<;>(conv=>whnf)))
        all_goals (try simp only[wQ])
        all_goals (try first|omega|exact⟨fun h=>h,fun _ _=>True.intro⟩)
        all_goals exact hz
       ·(conv=>whnf)
        (repeat' ((first|with_reducible exact⟨⟩|with_reducible refine iB ?_ ?_|fail)<;>(conv=>whnf)))
        all_goals (try simp only[wQ])
        all_goals exact aJ
      ·(conv=>whnf)
       refine⟨((i+1,okF ⟨l,k⟩ (i+1),es):Nat × Bool × List Int),[],?_,⟨⟨rfl,(nB rfl),rfl⟩,?_,?_⟩⟩
       ·exact⟨⟨show i+1≤l.length by omega,rfl,zW hi h3 (by assumption)⟩,show l.length - (i+1)<l.length - i by omega⟩
       ·(conv=>whnf)
        (repeat' ((first|with_reducible exact⟨⟩|((with_reducible refine aI ?_ ?_);focus (exact tA))|with_reducible refine iA ?_ ?_|fail)<;>(conv=>whnf)))
        all_goals (try simp only[wQ])
        all_goals (try first|omega|exact⟨fun h=>h,fun _ _=>True.intro⟩)
        all_goals exact hz
       ·(conv=>whnf)
        (repeat' ((first|with_reducible exact⟨⟩|with_reducible refine iB ?_ ?_|fail)<;>(conv=>whnf)))
        all_goals (try simp only[wQ])
        all_goals exact lH (by assumption)
     ·(conv=>whnf)
      (repeat' ((first
       |((with_reducible refine aI ?_ ?_);focus (((with_reducible refine⟨?_,?_⟩)<;>first|with_reducible assumption|omega)))
       |(split<;>rename_i hh<;>(try simp only[wS] at hh))
       |fail)<;>(conv=>whnf)))
      all_goals (try (show _=_;simp only[wQ]))
      all_goals try (exfalso;omega)
      refine⟨(l.getD i default:Site),True.intro,?_,?_⟩
      ·exact Ac _
      (conv=>whnf)
      (repeat' ((first
       |((with_reducible apply Wn);exact rfl;exact rfl;exact rfl;intro j hj;rotate_left;intro hn)
       |((with_reducible refine aI ?_ ?_);focus (first|exact tK|(dsimp only at*;simp only[Am,Go.Vc.lo,Go.Vc.hi];omega)))
       |(split<;>rename_i hh<;>(try simp only[wS] at hh))
       |fail)<;>(conv=>whnf)))
      all_goals try (exfalso;exact hin (by assumption) (by assumption))
      ·(conv=>whnf)
       refine⟨((i+1,okF ⟨l,k⟩ (i+1),es++[(l.getD i default).carrier]):Nat × Bool × List Int),[],?_,⟨⟨rfl,(nB rfl),rfl⟩,?_,?_⟩⟩
       ·exact⟨⟨show i+1≤l.length by omega,rfl,lI hi h3⟩,show l.length - (i+1)<l.length - i by omega⟩
       ·(conv=>whnf)
        (repeat' ((first|with_reducible exact⟨⟩|((with_reducible refine aI ?_ ?_);focus (exact tA))|with_reducible refine iA ?_ ?_|fail)<;>(conv=>whnf)))
        all_goals (try simp only[wQ])
        all_goals (try first|omega|exact⟨fun h=>h,fun _ _=>True.intro⟩)
        all_goals exact(v4 rfl (by assumption) (by assumption)).symm
       ·(conv=>whnf)
        (repeat' ((first|with_reducible exact⟨⟩|with_reducible refine iB ?_ ?_|fail)<;>(conv=>whnf)))
        all_goals (try simp only[wQ])
        all_goals exact aJ
      ·(conv=>whnf)
       refine⟨((i+1,okF ⟨l,k⟩ (i+1),es):Nat × Bool × List Int),[],?_,⟨⟨rfl,(nB rfl),rfl⟩,?_,?_⟩⟩
       ·exact⟨⟨show i+1≤l.length by omega,rfl,zW hi h3 (by assumption)⟩,show l.length - (i+1)<l.length - i by omega⟩
       ·(conv=>whnf)
        (repeat' ((first|with_reducible exact⟨⟩|((with_reducible refine aI ?_ ?_);focus (exact tA))|with_reducible refine iA ?_ ?_|fail)<;>(conv=>whnf)))
        all_goals (try simp only[wQ])
        all_goals (try first|omega|exact⟨fun h=>h,fun _ _=>True.intro⟩)
        all_goals exact(v3 (List.mem_of_getElem? (by assumption))).symm
       ·(conv=>whnf)
        (repeat' ((first|with_reducible exact⟨⟩|with_reducible refine iB ?_ ?_|fail)<;>(conv=>whnf)))
        all_goals (try simp only[wQ])
        all_goals exact lH (by assumption)
      ·(conv=>whnf)
       refine⟨((i+1,okF ⟨l,k⟩ (i+1),es++[(l.getD i default).carrier]):Nat × Bool × List Int),[],?_,⟨⟨rfl,(nB rfl),rfl⟩,?_,?_⟩⟩
       ·exact⟨⟨show i+1≤l.length by omega,rfl,lI hi h3⟩,show l.length - (i+1)<l.length - i by omega⟩
       ·(conv=>whnf)
        (repeat' ((first|with_reducible exact⟨⟩|((with_reducible refine aI ?_ ?_);focus (exact tA))|with_reducible refine iA ?_ ?_|fail)<;>(conv=>whnf)))
        all_goals (try simp only[wQ])
        all_goals (try first|omega|exact⟨fun h=>h,fun _ _=>True.intro⟩)
        all_goals exact(v2 (by assumption)).symm
       ·(conv=>whnf)
        (repeat' ((first|with_reducible exact⟨⟩|with_reducible refine iB ?_ ?_|fail)<;>(conv=>whnf)))
        all_goals (try simp only[wQ])
        all_goals exact aJ
      ·(conv=>whnf)
       refine⟨((i+1,okF ⟨l,k⟩ (i+1),es):Nat × Bool × List Int),[],?_,⟨⟨rfl,(nB rfl),rfl⟩,?_,?_⟩⟩
       ·exact⟨⟨show i+1≤l.length by omega,rfl,zW hi h3 (by assumption)⟩,show l.length - (i+1)<l.length - i by omega⟩
       ·(conv=>whnf)
        (repeat' ((first|with_reducible exact⟨⟩|((with_reducible refine aI ?_ ?_);focus (exact tA))|with_reducible refine iA ?_ ?_|fail)<;>(conv=>whnf)))
        all_goals (try simp only[wQ])
        all_goals (try first|omega|exact⟨fun h=>h,fun _ _=>True.intro⟩)
        all_goals exact(v2 (by assumption)).symm
       ·(conv=>whnf)
        (repeat' ((first|with_reducible exact⟨⟩|with_reducible refine iB ?_ ?_|fail)<;>(conv=>whnf)))
        all_goals (try simp only[wQ])
        all_goals exact lH (by assumption))
   ·have hie:i=l.length:=by omega
    have hfs:f=Dt ⟨l,k⟩:=by rw[h2,hie,Aro]
    (conv=>whnf)
    (repeat' ((first
     |((with_reducible apply Wn);exact rfl;exact rfl;exact rfl;intro j hj;rotate_left;intro hn)
     |((with_reducible refine aI ?_ ?_);focus (omega))
     |(split<;>rename_i hh<;>(try simp only[wS] at hh))
     |fail)<;>(conv=>whnf)))
    all_goals (try (show _=_;simp only[wQ]))
    all_goals first|exact hfs|(exfalso;omega)|skip
 )
end
end Go.Vc.Z
