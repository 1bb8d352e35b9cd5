/- The law ScriptLong: true. -/
import Derived.Test.YtpmpclbdnakniaaGreatDoorV46
set_option linter.all false
set_option linter.unusedVariables false
set_option linter.unusedSimpArgs false
namespace Go.Vc.Z
open Go Go.Vc Go.Proofs Go.RowKit Go.Pl Go.Lib
theorem wV:∀ {L:List (List UInt8)},(∀ w ∈ L,w.length≤300)→(D4 L).length≤301*L.length
 |[],_=>by unfold D4;exact Nat.zero_le _
 |l::L,h=>by
  have ih:=wV (L:=L) (fun w hw=>h w (List.mem_cons_of_mem _ hw))
  have hl:=h l (by simp)
  unfold D4 at ih ⊢
  rw[List.flatMap_cons,List.length_append,List.length_append,List.length_cons]
  simp only[List.length_cons,List.length_nil]
  omega
theorem Ahk{s:Setup}{b:Bool}{i:Nat}(hs:Et s=true)(hi:i≤10000):(scW s (List.replicate i (Bp b))).length≤100000000:=by
 obtain⟨l,k⟩:=s
 obtain⟨⟨hl1,hl2⟩,hk,hsi,_⟩:=K0 hs
 have hall:∀ w ∈ scL ⟨l,k⟩ (List.replicate i (Bp b)),w.length≤300:=fun w hw=>by
  unfold scL C1 at hw
  rcases List.mem_append.1 hw with h|h
  ·rcases List.mem_cons.1 h with rfl|h
   ·exact S6 hk
   ·obtain⟨x,hx,rfl⟩:=List.mem_map.1 h
    exact Cu (hsi x hx)
  ·obtain⟨x,hx,rfl⟩:=List.mem_map.1 h
   rw[List.eq_of_mem_replicate hx]
   exact Nat.le_trans (J2 b) (by decide)
 have h:=wV hall
 have hl:=Abm (l:=l) (k:=k) (A:=List.replicate i (Bp b))
 rw[List.length_replicate] at hl
 unfold scW
 omega
theorem Abn{m i:Nat}{a:Act}(h:i<m):(List.replicate m a).getD i default=a:=by
 rw[List.getD_eq_getElem?_getD,List.getElem?_replicate,if_pos h];rfl
abbrev zeroV:List AV:=[.int .i64 0,.int .i64 0,.str [],.int .i64 0,.int .i64 0,.int .u64 0,.int .i64 0,.int .i64 0,.str [],.nilsl,.nilsl,.int .i64 0,.int .i64 0,.int .i64 0,.int .i64 0,.nilsl,.bool false]
noncomputable section
set_option maxRecDepth 100000
attribute [local irreducible] inK Utf8.decode Utf8.encode Lib.itoa Pl.worth Pl.allDig
attribute [local irreducible] Lib.join Br Aa scL
def At7(s:Setup)(b:Bool)(m:Nat):LoopSpec:={
 α:=Nat
 keep:=[1,2,3,7,8]
 vals i:=[.bool b,.int .i64 m,.ptr 0 0,.osl 1 17 0 m (some m),.int .i64 i]
 heap i:=[.var s.enc,.row 17 m (fun e=>bif Nat.blt e i then Qq b else zeroV)]
 ok i:=i≤m
 μ i:=m - i }
def Aj3:PC:=PC.of (fun x:Setup × Bool × Int=>[.agg x.1.enc,.bool x.2.1,.int .i64 x.2.2]) (fun _=>True) (fun _=>.bool (sB true))
theorem Adr(b:Bool)(e i:Nat):Od (decide (e=0+(i:Int).toNat)) (over (bif Nat.blt (0+(i:Int).toNat) i then Qq b else zeroV) 0 (Qq b)) (bif Nat.blt e i then Qq b else zeroV)=bif Nat.blt e (i+1) then Qq b else zeroV:=by
 have e0:0+(i:Int).toNat=i:=by omega
 rw[e0]
 have b0:Nat.blt i i=false:=by rw[Bool.eq_false_iff];intro h;exact absurd (Nat.le_of_ble_eq_true h) (by omega)
 have b1:Nat.blt i (i+1)=true:=Nat.ble_eq_true_of_le (Nat.le_refl _)
 simp only[Dq,decide_eq_true_eq]
 by_cases h:e=i
 ·subst h;rw[if_pos rfl,b0,b1];rfl
 ·rw[if_neg h]
  have:Nat.blt e i=Nat.blt e (i+1):=by
   by_cases h2:e<i
   ·rw[show Nat.blt e i=true from Nat.ble_eq_true_of_le h2,show Nat.blt e (i+1)=true from Nat.ble_eq_true_of_le (by omega)]
   ·rw[show Nat.blt e i=false by rw[Bool.eq_false_iff];intro h;exact absurd (Nat.le_of_ble_eq_true h) (by omega),show Nat.blt e (i+1)=false by rw[Bool.eq_false_iff];intro h;exact absurd (Nat.le_of_ble_eq_true h) (by omega)]
  rw[this]
def Eu:PT:=D1 [(12,Aab),(39,Ahj),(40,W8),(41,Ahi)]
theorem Gr{W:World}(hW:Gq W):Dj (Fw W) Tryz.prog Eu:=(Ae Tryz.call12 (Af4 hW.1) (Ae Tryz.call39 (Aot hW.1) (Ae Tryz.call40 (yV hW.1) (Ae Tryz.call41 (S9 hW) A6))))
def Ev:FuncId→Option Ctr:=Av Eu []
theorem L5{W:World}(hW:Gq W):Ad (Fw W) Tryz.prog Ev:=(A7 (Gr hW))
def L6:Setup × Bool × Int→Nat→Option LR:=fun x i=>cond (Nat.beq i 5) (some (.inv (At7 x.1 x.2.1 x.2.2.toNat))) (none)
set_option maxHeartbeats 4000000 in
theorem L8{W:World}(hW:Gq W):GoodP (Fw W) Tryz.prog 9 Aj3:=by
 have hD:=Gr hW
 have hC0:∀ x:Setup × Bool × Int,Ad (Fw W) Tryz.prog Ev:=fun x=>(L5 hW)
 refine Ax (D:=Eu) (C:=fun x=>Ev) (wr:=(fun _=>false)) rfl Aq hD hC0 Tryz.func9 (L6) (fun _=>rfl) ?_
 rintro⟨s,b,n⟩ hf hp
 clear hf hp
 refine⟨s,True.intro,?_,?_⟩
 ·exact Aj _
 (conv=>whnf)
 (repeat' ((first
  |((with_reducible refine aI ?_ ?_);focus (first|with_reducible exact⟨⟩|(simp only[Ag,ty2,ty3,ty4,ty5,ty9,Cn,Ch,Co,Ci,Cl,Cp,Cq,Cr,Bf,Bc,Bg,Bd,Bh,Bi,Bj];first|omega|(refine⟨?_,?_⟩<;>omega))))
  |(split<;>rename_i hh<;>(try simp only[wS] at hh))
  |fail)<;>(conv=>whnf)))
 have hnn:0≤n:=by assumption
 obtain⟨m,rfl⟩:=Int.eq_ofNat_of_zero_le hnn
 have hmm:m≤10010:=by omega
 have hsb:Et s=true:=by assumption
 refine⟨?_,fun(i:Nat) (hi:i≤m)=>?_⟩
 ·(conv=>whnf)
  refine⟨(0:Nat),[],?_,⟨⟨rfl,(nB rfl),rfl⟩,?_,?_⟩⟩
  ·exact Nat.zero_le _
  ·exact tL
  ·(conv=>whnf)
   (repeat' ((first|with_reducible exact⟨⟩|((with_reducible refine aI ?_ ?_);focus (exact tA))|with_reducible refine iA ?_ ?_|with_reducible refine iL ?_ ?_|with_reducible refine iB ?_ ?_|fail)<;>(conv=>whnf)))
   all_goals (try simp only[wQ])
   all_goals (try first|rfl|exact⟨fun h=>h,fun _ _=>True.intro⟩)
   exact fun e he=>⟨rfl,rfl⟩
 ·by_cases hlt:i<m
  ·(conv=>whnf)
   (repeat' ((first
    |((with_reducible refine aI ?_ ?_);focus (first|omega|((with_reducible refine⟨?_,?_⟩)<;>first|with_reducible assumption|omega)|exact tK))
    |(split<;>rename_i hh<;>(try simp only[wS] at hh))
    |fail)<;>(conv=>whnf)))
   all_goals try (exfalso;omega)
   (conv=>whnf)
   refine⟨(i+1:Nat),[],?_,⟨⟨rfl,(nB rfl),rfl⟩,?_,?_⟩⟩
   ·exact⟨show i+1≤m by omega,show m - (i+1)<m - i by omega⟩
   ·exact tL
   ·(conv=>whnf)
    (repeat' ((first|with_reducible exact⟨⟩|((with_reducible refine aI ?_ ?_);focus (exact tA))|with_reducible refine iA ?_ ?_|with_reducible refine iL ?_ ?_|with_reducible refine iB ?_ ?_|fail)<;>(conv=>whnf)))
    all_goals (try simp only[wQ])
    all_goals (try first|rfl|exact⟨fun h=>h,fun _ _=>True.intro⟩)
    exact fun e he=>⟨Adr b e i,by cases Nat.blt e (i+1)<;>rfl⟩
  ·(conv=>whnf)
   (repeat' ((first
    |((with_reducible refine aI ?_ ?_);focus (omega))
    |(split<;>rename_i hh<;>(try simp only[wS] at hh))
    |fail)<;>(conv=>whnf)))
   all_goals try (exfalso;omega)
   have him:i=m:=by omega
   subst him
   refine⟨⟨by simp,fun e he=>by show Er 0 (bif Nat.blt (0+e) i then Qq b else zeroV)=true;cases Nat.blt (0+e) i<;>rfl⟩,?_⟩
   (conv=>whnf)
   by_cases hbig:10000<i
   ·refine⟨((s,b,i,[],3):Setup × Bool × Nat × List UInt8 × Int),.inr ⟨hbig,rfl⟩,?_,?_⟩
    ·(conv=>whnf)
     (repeat' ((first|with_reducible exact⟨⟩|((with_reducible refine aI ?_ ?_);focus (exact tA))|with_reducible refine iA ?_ ?_|fail)<;>(conv=>whnf)))
     all_goals (try simp only[wQ])
     all_goals (try first|exact⟨fun h=>h,fun _ _=>True.intro⟩)
     exact⟨fun h=>h,fun e he=>by have he:e<i:=he;rw[show Nat.blt (0+e) i=true from Nat.ble_eq_true_of_le (by omega)];rfl⟩
    (conv=>whnf)
    (repeat' ((first
     |((with_reducible refine aI ?_ ?_);focus (with_reducible exact⟨⟩))
     |(split<;>rename_i hh<;>(try simp only[wS] at hh))
     |fail)<;>(conv=>whnf)))
    all_goals (try (show _=_;simp only[wQ]))
    all_goals first|rfl|exact absurd True.intro hh|(exfalso;omega)
   ·have hi4:i≤10000:=by omega
    refine⟨((s,b,i,scW s (List.replicate i (Bp b)),0):Setup × Bool × Nat × List UInt8 × Int),.inl ⟨⟨hsb,hi4⟩,rfl⟩,?_,?_⟩
    ·(conv=>whnf)
     (repeat' ((first|with_reducible exact⟨⟩|((with_reducible refine aI ?_ ?_);focus (exact tA))|with_reducible refine iA ?_ ?_|fail)<;>(conv=>whnf)))
     all_goals (try simp only[wQ])
     all_goals (try first|exact⟨fun h=>h,fun _ _=>True.intro⟩)
     exact⟨fun h=>h,fun e he=>by have he:e<i:=he;rw[show Nat.blt (0+e) i=true from Nat.ble_eq_true_of_le (by omega)];rfl⟩
    (conv=>whnf)
    (repeat' ((first
     |(split<;>rename_i hh<;>(try simp only[wS] at hh))
     |fail)<;>(conv=>whnf)))
    all_goals (try (show _=_;simp only[wQ]))
    all_goals try (exfalso;omega)
    refine⟨((⟨s,List.replicate i (Bp b),scW s (List.replicate i (Bp b)),scL s (List.replicate i (Bp b))⟩:ScO)),⟨⟨hsb,by simp[hi4],fun j hj=>by rw[Abn (by simpa using hj)];exact M5 b⟩,fun j hj=>by rw[Abn (by simpa using hj)];exact⟨Ix,Nat.le_trans (J2 b) (by decide)⟩,Ahk hsb hi4,rfl,rfl⟩,?_,?_⟩
    ·exact tL
    (conv=>whnf)
    (repeat' ((first
     |((with_reducible refine aI ?_ ?_);focus (with_reducible exact⟨⟩))
     |(split<;>rename_i hh<;>(try simp only[wS] at hh))
     |with_reducible refine lnI fun hln=>?_
     |fail)<;>(conv=>whnf)))
    all_goals (try (show _=_;simp only[wQ]))
    all_goals first|rfl|exact absurd (congrArg Int.ofNat (List.length_replicate (n:=i) (a:=Bp b))) hh
end
end Go.Vc.Z
