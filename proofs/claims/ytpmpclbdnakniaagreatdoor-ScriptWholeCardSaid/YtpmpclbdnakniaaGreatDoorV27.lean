/- The chapter's rows, where no ticket is told. -/
import Derived.Test.YtpmpclbdnakniaaGreatDoorV26
import Derived.Test.YtpmpclbdnakniaaGreatDoorV13
set_option linter.all false
set_option linter.unusedVariables false
set_option linter.unusedSimpArgs false
namespace Go.Vc.Z
open Go Go.Vc Go.Proofs Go.RowKit Go.Pl Go.Lib
def r0:Request:=⟨[107,55],1,3,0,0,0,[65,66,67,50,51,52],[c7],[],0,0,0⟩
theorem Agq:Ah r0=true:=by
 rw[Tb rfl]
 have p1:Ba r0 75=true:=by unfold Ba Fp;decide
 have p2:Ba r0 68=true:=by unfold Ba Fy;decide
 have p3:Ba r0 76=true:=by unfold Ba Fx;decide
 have p4:Ba r0 74=true:=by unfold Ba E8 Hg Fy Dh;decide
 have p5:Ba r0 88=true:=by unfold Ba De;decide
 have p6:Dq r0 (Ct r0)=true:=Bb.2 rfl
 rw[p1,p2,p3,p4,p5,p6];rfl
theorem Aob:Bu r0=Ahq:=by
 rw[Ago rfl Agq]
 show [105,115,115,117,101]++[32]++[107,55]++[32]++Lib.itoa 3++[32]++[65,66,67,50,51,52]++[32]++Cf [c7]++[32]++B7 []=Ahq
 rw[show Cf [c7]=Bv ⟨7,9,1000,0,0,0⟩ by unfold Cf;simp[Lib.join,c7],Aga,Agb,K7 (n:=3) (by decide) (by decide)];rfl
theorem Ad6:D5 r0:=⟨by decide,by decide⟩
theorem Axj:M7 0++[32]++M7 6++[32]++Lib.itoa 0=[111,107,32,110,111,110,101,32,48]:=by
 unfold M7
 rw[show Lib.itoa 0=[48] from K7 (n:=0) (by decide) (by decide)]
 rfl
noncomputable def partsE:List (List UInt8):=[[100,111],Lib.itoa 0,Bu r0]
theorem Av4:Lib.join partsE [32]=[100,111,32,48,32]++Ahq:=by
 unfold partsE;rw[K7 (n:=0) (by decide) (by decide),Aob];rfl
theorem Axk:(Lib.join partsE [32]).length≤140737488355328:=by rw[Av4];decide
noncomputable section
set_option maxRecDepth 100000
attribute [local irreducible] inK Utf8.decode Utf8.encode Lib.itoa Pl.worth Pl.allDig
attribute [local irreducible] Lib.join
def Axl:List (List UInt8):=[[111,107,32,110,111,110,101,32,48]]
def Ad7:PC:=PC.of (fun _:Unit=>[.agg Abw.enc]) (fun _=>True) (fun _=>slS Axl)
def Fe:PT:=C2 [(16,Am3),(46,Kz)]
theorem Nm{W:World}(hW:Tabs W):Cl (Fw W) Tryz.prog Fe:=(Ab Tryz.call16 (oG hW) (Ab Tryz.call46 (Ep hW) As))
def Ad8:FuncId→Option Ctr:=Aw Fe []
theorem Ad9{W:World}(hW:Tabs W):Ad (Fw W) Tryz.prog Ad8:=(Au (Nm hW))
def vN:List (FuncId × Ctr):=(109,inl TY Ad8 Fe (fun _=>false) (fun _ _ _=>none) Tryz.f109)::[]
def vO:FuncId→Option Ctr:=Aw Fe vN
theorem vP{W:World}(hW:Tabs W):Ad (Fw W) Tryz.prog vO:=Ae Tryz.call109 (Ag rfl Ap (Nm hW) (Ad9 hW) Tryz.func109 (fun _ _ _=>none)) (Ad9 hW)
def vQ:List (FuncId × Ctr):=(106,inl TY vO Fe (fun _=>false) (fun _ _ _=>none) Tryz.f106)::vN
def vR:FuncId→Option Ctr:=Aw Fe vQ
theorem vS{W:World}(hW:Tabs W):Ad (Fw W) Tryz.prog vR:=Ae Tryz.call106 (Ag rfl Ap (Nm hW) (vP hW) Tryz.func106 (fun _ _ _=>none)) (vP hW)
def kU:List AV→List Blk→Nat→Option LR:=fun _ _ i=>cond (Nat.beq i 2) (some (.unroll 1)) none
def vT:List (FuncId × Ctr):=(187,inl TY vR Fe (fun _=>false) (kU) Tryz.f187)::vQ
def vU:FuncId→Option Ctr:=Aw Fe vT
theorem vV{W:World}(hW:Tabs W):Ad (Fw W) Tryz.prog vU:=Ae Tryz.call187 (Ag rfl Ap (Nm hW) (vS hW) Tryz.func187 (kU)) (vS hW)
def vW:List (FuncId × Ctr):=(108,inl TY vU Fe (fun _=>false) (fun _ _ _=>none) Tryz.f108)::vT
def vX:FuncId→Option Ctr:=Aw Fe vW
theorem vY{W:World}(hW:Tabs W):Ad (Fw W) Tryz.prog vX:=Ae Tryz.call108 (Ag rfl Ap (Nm hW) (vV hW) Tryz.func108 (fun _ _ _=>none)) (vV hW)
def kV:List AV→List Blk→Nat→Option LR:=fun _ _ i=>cond (Nat.beq i 4) (some (.unroll 1)) (cond (Nat.beq i 10) (some (.unroll 1)) none)
def Ak2:List (FuncId × Ctr):=(45,inl TY vX Fe (fun _=>false) (kV) Tryz.f45)::vW
def aH:FuncId→Option Ctr:=Aw Fe Ak2
theorem Ak3{W:World}(hW:Tabs W):Ad (Fw W) Tryz.prog aH:=Ae Tryz.call45 (Ag rfl Ap (Nm hW) (vY hW) Tryz.func45 (kV)) (vY hW)
def Aoc:Unit→Nat→Option LR:=fun t i=>cond (Nat.beq i 5) (some (.unroll 1)) (cond (Nat.beq i 10) (some (.unroll 1)) (cond (Nat.beq i 15) (some (.unroll 1)) (none)))
set_option maxHeartbeats 2000000 in
theorem Aod{W:World}(hW:Tabs W):GoodP (Fw W) Tryz.prog 13 Ad7:=by
 have hD:=Nm hW
 have hC0:∀ t:Unit,Ad (Fw W) Tryz.prog aH:=fun t=>(Ak3 hW)
 refine Ar (D:=Fe) (C:=fun t=>aH) (wr:=(fun _=>false)) rfl Ap hD hC0 Tryz.func13 (Aoc) (fun _=>rfl) ?_
 intro t hf hp
 clear hf
 have c0:M7 0=[111,107]:=by unfold M7;rfl
 have c6:M7 6=[110,111,110,101]:=by unfold M7;rfl
 have i0:Lib.itoa 0=[48]:=K7 (n:=0) (by decide) (by decide)
 have k1:(Lib.itoa Abw.came).length≤20:=by rw[show Lib.itoa Abw.came=[48] from i0];decide
 have k2:=qA Abw.code
 have k3:=qA Abw.answer.code
 (conv=>whnf)
 (repeat' ((first
  |(with_reducible refine Ao ?_)
  |((with_reducible refine aI ?_ ?_);focus (first|with_reducible exact⟨⟩|exact tO|(simp only[List.length_append,bytesOf_length,List.toList_toArray,List.length_cons,List.length_nil,List.length_take,List.length_drop,A0];omega)|decide))
  |(split<;>rename_i hh<;>(try simp only[wS] at hh))
  |with_reducible refine lnI fun hln=>?_
  |fail)<;>(conv=>whnf)))
 ·exact absurd (c0.symm.trans (by assumption)) (by decide)
 ·intro e he
  obtain rfl:e=0:=by omega
  show [AV.str _]=[AV.str _]
  refine congrArg (fun l=>[AV.str l]) ?_
  simp only[A0]
  exact Axj
def G9:PT:=C2 [(71,jP)]
theorem Q7{W:World}(hW:Tabs W):Cl (Fw W) Tryz.prog G9:=(Ab Tryz.call71 (Yf hW) As)
def Aiy:FuncId→Option Ctr:=Aw G9 []
theorem Aiz{W:World}(hW:Tabs W):Ad (Fw W) Tryz.prog Aiy:=(Au (Q7 hW))
def Aea:List (FuncId × Ctr):=(213,inl TY Aiy G9 (fun _=>false) (fun _ _ _=>none) Tryz.f213)::[]
def Aeb:FuncId→Option Ctr:=Aw G9 Aea
theorem Aec{W:World}(hW:Tabs W):Ad (Fw W) Tryz.prog Aeb:=Ae Tryz.call213 (Ag rfl Ap (Q7 hW) (Aiz hW) Tryz.func213 (fun _ _ _=>none)) (Aiz hW)
def vZ:List AV→List Blk→Nat→Option LR:=fun _ _ i=>cond (Nat.beq i 4) (some (.unroll 1)) none
def Aed:List (FuncId × Ctr):=(214,inl TY Aeb G9 (fun _=>false) (vZ) Tryz.f214)::Aea
def Aee:FuncId→Option Ctr:=Aw G9 Aed
theorem Aef{W:World}(hW:Tabs W):Ad (Fw W) Tryz.prog Aee:=Ae Tryz.call214 (Ag rfl Ap (Q7 hW) (Aec hW) Tryz.func214 (vZ)) (Aec hW)
def wA:List AV→List Blk→Nat→Option LR:=fun _ _ i=>cond (Nat.beq i 4) (some (.unroll 1)) none
def Aeg:List (FuncId × Ctr):=(215,inl TY Aee G9 (fun _=>false) (wA) Tryz.f215)::Aed
def Aeh:FuncId→Option Ctr:=Aw G9 Aeg
theorem Aei{W:World}(hW:Tabs W):Ad (Fw W) Tryz.prog Aeh:=Ae Tryz.call215 (Ag rfl Ap (Q7 hW) (Aef hW) Tryz.func215 (wA)) (Aef hW)
def wB:List AV→List Blk→Nat→Option LR:=fun cs H i=>cond (Nat.beq i 2) (some (.order [0,1,3,4,2,5,6,7,8,9,10,11,12,13,14,15,16,17,18,19,20,21])) (none)
def Aej:List (FuncId × Ctr):=(142,inl TY Aeh G9 (fun _=>false) (wB) Tryz.f142)::Aeg
def Aek:FuncId→Option Ctr:=Aw G9 Aej
theorem Ael{W:World}(hW:Tabs W):Ad (Fw W) Tryz.prog Aek:=Ae Tryz.call142 (Ag rfl Ap (Q7 hW) (Aei hW) Tryz.func142 (wB)) (Aei hW)
def Aoe:List (FuncId × Ctr):=(98,inl TY Aek G9 (fun _=>false) (fun _ _ _=>none) Tryz.f98)::Aej
def kW:FuncId→Option Ctr:=Aw G9 Aoe
theorem Aof{W:World}(hW:Tabs W):Ad (Fw W) Tryz.prog kW:=Ae Tryz.call98 (Ag rfl Ap (Q7 hW) (Ael hW) Tryz.func98 (fun _ _ _=>none)) (Ael hW)
set_option maxHeartbeats 2000000 in
theorem Ark{W:World}(hW:Tabs W):GoodP (Fw W) Tryz.prog 36 Am7:=by
 have hD:=Q7 hW
 have hC0:∀ b:Bool,Ad (Fw W) Tryz.prog kW:=fun b=>(Aof hW)
 refine Ar (D:=G9) (C:=fun b=>kW) (wr:=(fun _=>false)) rfl Ap hD hC0 Tryz.func36 (fun _ _=>none) (fun z=>by cases z<;>rfl) ?_
 have hexM: ¬Ah r0=false:=by rw[Agq];exact Bool.true_eq_false.mp
 intro b hf hp
 clear hf
 cases b
 ·(conv=>whnf)
  (repeat' ((first
   |(with_reducible refine Ao ?_)
   |(refine Z2 ?_)
   |with_reducible refine iQ ?_ ?_
   |((with_reducible refine aI ?_ ?_);focus (((with_reducible show okQ _ _=true);rfl)))
   |with_reducible refine lnI fun hln=>?_
   |fail)<;>(conv=>whnf)))
  all_goals (try (show _=_;simp only[wQ]))
  all_goals rfl
 ·(conv=>whnf)
  refine⟨r0,Ad6,?_,?_⟩
  ·exact tL
  (conv=>whnf)
  (repeat' ((first
   |(with_reducible refine Ao ?_)
   |(refine Z2 ?_)
   |(exact absurd (by with_reducible assumption) hexM)
   |with_reducible refine iQ ?_ ?_
   |((with_reducible refine aI ?_ ?_);focus (((with_reducible show okQ _ _=true);rfl)))
   |(split<;>rename_i hh<;>(try simp only[wS] at hh))
   |fail)<;>(conv=>whnf)))
  all_goals (try (show _=_;simp only[wQ]))
  all_goals rfl
def zR:PT:=C2 [(24,Ul),(36,Am7),(46,Kz),(62,Qv)]
theorem Ai0{W:World}(hW:Tabs W):Cl (Fw W) Tryz.prog zR:=(Ab Tryz.call24 (aG hW) (Ab Tryz.call36 (Ark hW) (Ab Tryz.call46 (Ep hW) (Ab Tryz.call62 (Mg hW) As))))
def zS:FuncId→Option Ctr:=Aw zR []
theorem Arl{W:World}(hW:Tabs W):Ad (Fw W) Tryz.prog zS:=(Au (Ai0 hW))
def Arm:Bool→Nat→Option LR:=fun b i=>cond (Nat.beq i 15) (some (.unroll 3)) (none)
set_option maxHeartbeats 2000000 in
theorem Arn{W:World}(hW:Tabs W):GoodP (Fw W) Tryz.prog 34 Am9:=by
 have hD:=Ai0 hW
 have hC0:∀ b:Bool,Ad (Fw W) Tryz.prog zS:=fun b=>(Arl hW)
 refine Ar (D:=zR) (C:=fun b=>zS) (wr:=(fun _=>false)) rfl Ap hD hC0 Tryz.func34 (Arm) (fun z=>by cases z<;>rfl) ?_
 have hexM: ¬Ah r0=false:=by rw[Agq];exact Bool.true_eq_false.mp
 intro b hf hp
 clear hf
 cases b
 ·(conv=>whnf)
  refine⟨false,True.intro,?_,?_⟩
  ·exact Ac _
  (conv=>whnf)
  (repeat' ((first
   |(exact absurd (by with_reducible assumption) Bool.false_ne_true)
   |((with_reducible refine aI ?_ ?_);focus (first|with_reducible exact⟨⟩|((with_reducible refine⟨?_,?_,?_⟩)<;>first|(intro e he;rcases(by omega:e=0∨e=1∨e=2∨e=3∨e=4∨e=5) with rfl|rfl|rfl|rfl|rfl|rfl<;>first|rfl|(exfalso;omega))|(with_reducible assumption)|omega|((with_reducible show Aq _ _);simp only[Aq,ty2,ty3,ty4,ty5,ty9,Cw,Co,Cx,Cp,Cu,Cy,Cv,Cz,Bm,Bj,Bn,Bi,Bo,Bp,Bq,List.length_cons,List.length_nil];first|omega|(refine⟨?_,?_⟩<;>omega)))|omega|exact tK|(simp only[Aq,ty2,ty3,ty4,ty5,ty9,Cw,Co,Cx,Cp,Cu,Cy,Cv,Cz,Bm,Bj,Bn,Bi,Bo,Bp,Bq];first|omega|(refine⟨?_,?_⟩<;>omega))|decide))
   |(split<;>rename_i hh<;>(try simp only[wS] at hh))
   |with_reducible refine lnI fun hln=>?_
   |fail)<;>(conv=>whnf)))
  refine⟨(zI,[32]),⟨Axc,by decide⟩,?_,?_⟩
  ·(conv=>whnf)
   (repeat' ((first|with_reducible exact⟨⟩|((with_reducible refine aI ?_ ?_);focus (exact tA))|with_reducible refine iA ?_ ?_|fail)<;>(conv=>whnf)))
   all_goals (try simp only[wQ])
   refine⟨fun h=>h,fun e he=>?_⟩
   change e<4 at he
   rcases(by omega:e=0∨e=1∨e=2∨e=3) with rfl|rfl|rfl|rfl<;>rfl
  (conv=>whnf)
  all_goals (try (show _=_;simp only[wQ]))
  all_goals exact Avx
 ·(conv=>whnf)
  refine⟨true,True.intro,?_,?_⟩
  ·exact Ac _
  (conv=>whnf)
  (repeat' ((first
   |(exact absurd (by with_reducible assumption) Bool.false_ne_true)
   |((with_reducible refine aI ?_ ?_);focus (first|with_reducible exact⟨⟩|exact tO))
   |(split<;>rename_i hh<;>(try simp only[wS] at hh))
   |fail)<;>(conv=>whnf)))
  refine⟨r0,Ad6,?_,?_⟩
  ·exact tL
  (conv=>whnf)
  (repeat' ((first
   |((with_reducible refine aI ?_ ?_);focus (decide))
   |fail)<;>(conv=>whnf)))
  refine⟨(partsE,[32]),⟨Axk,by decide⟩,?_,?_⟩
  ·(conv=>whnf)
   (repeat' ((first|with_reducible exact⟨⟩|((with_reducible refine aI ?_ ?_);focus (exact tA))|with_reducible refine iA ?_ ?_|fail)<;>(conv=>whnf)))
   all_goals (try simp only[wQ])
   refine⟨fun h=>h,fun e he=>?_⟩
   change e<3 at he
   rcases(by omega:e=0∨e=1∨e=2) with rfl|rfl|rfl<;>rfl
  (conv=>whnf)
  all_goals (try (show _=_;simp only[wQ]))
  all_goals exact Av4
def kX:PT:=C2 [(13,Ad7),(34,Am9)]
theorem Aem{W:World}(hW:Tabs W):Cl (Fw W) Tryz.prog kX:=(Ab Tryz.call13 (Aod hW) (Ab Tryz.call34 (Arn hW) As))
def kY:FuncId→Option Ctr:=Aw kX []
theorem Aog{W:World}(hW:Tabs W):Ad (Fw W) Tryz.prog kY:=(Au (Aem hW))
set_option maxHeartbeats 2000000 in
theorem Aoh{W:World}(hW:Tabs W):GoodP (Fw W) Tryz.prog 12 Ahr:=by
 have hD:=Aem hW
 have hC0:Ad (Fw W) Tryz.prog kY:=(Aog hW)
 refine Az (D:=kX) (C:=kY) (wr:=(fun _=>false)) rfl Ap hD hC0 Tryz.func12 (fun _ _=>none) ?_
 clear hC0 hD hW
 intro cs p r h hf hp
 split at h
 case h_2=>cases h
 skip
 cases h
 try simp only[Ax,Bh,Am,Go.Vc.lo,Go.Vc.hi,and_true] at hf
 have hT:Am8 true=[100,111,32,48,32,105,115,115,117,101,32,107,55,32,51,32,65,66,67,50,51,52,32,55,64,57,61,49,48,46,48,48,32,45]:=rfl
 have hC:Am8 false=[99,114,97,115,104,32,49,32,52,32,45,49]:=rfl
 (conv=>whnf)
 refine⟨(),True.intro,?_,?_⟩
 ·exact tL
 (conv=>whnf)
 (repeat' ((first
  |((with_reducible refine aI ?_ ?_);focus (decide))
  |fail)<;>(conv=>whnf)))
 refine⟨true,True.intro,?_,?_⟩
 ·(conv=>whnf)
  (repeat' ((first|with_reducible exact⟨⟩|((with_reducible refine aI ?_ ?_);focus (exact tA))|with_reducible refine iA ?_ ?_|fail)<;>(conv=>whnf)))
  all_goals (try simp only[wQ])
  exact⟨fun h=>h,fun e he=>by obtain rfl:e=0:=(by omega);rfl⟩
 (conv=>whnf)
 (repeat' ((first
  |(exact absurd hT (by with_reducible assumption))
  |((with_reducible refine aI ?_ ?_);focus (decide))
  |(split<;>rename_i hh<;>(try simp only[wS] at hh))
  |fail)<;>(conv=>whnf)))
 refine⟨false,True.intro,?_,?_⟩
 ·(conv=>whnf)
  (repeat' ((first|with_reducible exact⟨⟩|((with_reducible refine aI ?_ ?_);focus (exact tA))|with_reducible refine iA ?_ ?_|fail)<;>(conv=>whnf)))
  all_goals (try simp only[wQ])
  exact⟨fun h=>h,fun e he=>by rcases(by change e<2 at he;omega:e=0∨e=1) with rfl|rfl<;>rfl⟩
 (conv=>whnf)
 (repeat' ((first
  |(exact absurd hC (by with_reducible assumption))
  |((with_reducible refine aI ?_ ?_);focus (decide))
  |(split<;>rename_i hh<;>(try simp only[wS] at hh))
  |with_reducible refine lnI fun hln=>?_
  |fail)<;>(conv=>whnf)))
 all_goals (try (show _=_;simp only[wQ]))
 all_goals rfl
end
end Go.Vc.Z
