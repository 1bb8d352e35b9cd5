/- The chapter's rows, where no ticket is told. -/
import Derived.Test.YtpmpclbdnakniaaGreatDoorV22
import Derived.Test.YtpmpclbdnakniaaGreatDoorV12
set_option linter.all false
set_option linter.unusedVariables false
set_option linter.unusedSimpArgs false
namespace Go.Vc.Z
open Go Go.Vc Go.Proofs Go.RowKit Go.Pl Go.Lib
def r0:Request:=⟨[107,55],1,3,0,0,0,[65,66,67,50,51,52],[c7],[],0,0,0⟩
theorem yT:Ah r0=true:=by
 rw[R9 rfl]
 have p1:Az r0 75=true:=by unfold Az Gb;decide
 have p2:Az r0 68=true:=by unfold Az Gl;decide
 have p3:Az r0 76=true:=by unfold Az G4;decide
 have p4:Az r0 74=true:=by unfold Az Gf Nc Gl D2;decide
 have p5:Az r0 88=true:=by unfold Az Dv;decide
 have p6:Dp r0 (De r0)=true:=A0.2 rfl
 rw[p1,p2,p3,p4,p5,p6];rfl
theorem Afy:Bq r0=Aaa:=by
 rw[Afo rfl yT]
 show [105,115,115,117,101]++[32]++[107,55]++[32]++Lib.itoa 3++[32]++[65,66,67,50,51,52]++[32]++Ct [c7]++[32]++B9 []=Aaa
 rw[show Ct [c7]=B0 ⟨7,9,1000,0,0,0⟩ by unfold Ct;simp[Lib.join,c7],yM,yN,I1 (n:=3) (by decide) (by decide)];rfl
theorem vB:E1 r0:=⟨by decide,by decide⟩
theorem Aoi:Kk 0++[32]++Kk 6++[32]++Lib.itoa 0=[111,107,32,110,111,110,101,32,48]:=by
 unfold Kk
 rw[show Lib.itoa 0=[48] from I1 (n:=0) (by decide) (by decide)]
 rfl
noncomputable def partsE:List (List UInt8):=[[100,111],Lib.itoa 0,Bq r0]
theorem Am9:Lib.join partsE [32]=[100,111,32,48,32]++Aaa:=by
 unfold partsE;rw[I1 (n:=0) (by decide) (by decide),Afy];rfl
theorem Aoj:(Lib.join partsE [32]).length≤140737488355328:=by rw[Am9];decide
noncomputable section
set_option maxRecDepth 100000
attribute [local irreducible] inK Utf8.decode Utf8.encode Lib.itoa Pl.worth Pl.allDig
attribute [local irreducible] Lib.join
def Aok:List (List UInt8):=[[111,107,32,110,111,110,101,32,48]]
def vC:PC:=PC.of (fun _:Unit=>[.agg sE.enc]) (fun _=>True) (fun _=>slS Aok)
def E4:PT:=D1 [(16,Afb),(46,Iw)]
theorem Kz{W:World}(hW:Tabs W):Dj (Fw W) Tryz.prog E4:=(Ae Tryz.call16 (cZ hW) (Ae Tryz.call46 (Ei hW) A6))
def vD:FuncId→Option Ctr:=Av E4 []
theorem vE{W:World}(hW:Tabs W):Ad (Fw W) Tryz.prog vD:=(A7 (Kz hW))
def lV:List (FuncId × Ctr):=(109,inl TY vD E4 (fun _=>false) (fun _ _ _=>none) Tryz.f109)::[]
def lW:FuncId→Option Ctr:=Av E4 lV
theorem lX{W:World}(hW:Tabs W):Ad (Fw W) Tryz.prog lW:=Ab Tryz.call109 (Af rfl Aq (Kz hW) (vE hW) Tryz.func109 (fun _ _ _=>none)) (vE hW)
def lY:List (FuncId × Ctr):=(106,inl TY lW E4 (fun _=>false) (fun _ _ _=>none) Tryz.f106)::lV
def lZ:FuncId→Option Ctr:=Av E4 lY
theorem mA{W:World}(hW:Tabs W):Ad (Fw W) Tryz.prog lZ:=Ab Tryz.call106 (Af rfl Aq (Kz hW) (lX hW) Tryz.func106 (fun _ _ _=>none)) (lX hW)
def aJ:List AV→List Blk→Nat→Option LR:=fun _ _ i=>cond (Nat.beq i 2) (some (.unroll 1)) none
def mB:List (FuncId × Ctr):=(187,inl TY lZ E4 (fun _=>false) (aJ) Tryz.f187)::lY
def mC:FuncId→Option Ctr:=Av E4 mB
theorem mD{W:World}(hW:Tabs W):Ad (Fw W) Tryz.prog mC:=Ab Tryz.call187 (Af rfl Aq (Kz hW) (mA hW) Tryz.func187 (aJ)) (mA hW)
def mE:List (FuncId × Ctr):=(108,inl TY mC E4 (fun _=>false) (fun _ _ _=>none) Tryz.f108)::mB
def mF:FuncId→Option Ctr:=Av E4 mE
theorem mG{W:World}(hW:Tabs W):Ad (Fw W) Tryz.prog mF:=Ab Tryz.call108 (Af rfl Aq (Kz hW) (mD hW) Tryz.func108 (fun _ _ _=>none)) (mD hW)
def aK:List AV→List Blk→Nat→Option LR:=fun _ _ i=>cond (Nat.beq i 4) (some (.unroll 1)) (cond (Nat.beq i 10) (some (.unroll 1)) none)
def Ac6:List (FuncId × Ctr):=(45,inl TY mF E4 (fun _=>false) (aK) Tryz.f45)::mE
def Un:FuncId→Option Ctr:=Av E4 Ac6
theorem Ac7{W:World}(hW:Tabs W):Ad (Fw W) Tryz.prog Un:=Ab Tryz.call45 (Af rfl Aq (Kz hW) (mG hW) Tryz.func45 (aK)) (mG hW)
def Afz:Unit→Nat→Option LR:=fun t i=>cond (Nat.beq i 5) (some (.unroll 1)) (cond (Nat.beq i 10) (some (.unroll 1)) (cond (Nat.beq i 15) (some (.unroll 1)) (none)))
set_option maxHeartbeats 2000000 in
theorem Af0{W:World}(hW:Tabs W):GoodP (Fw W) Tryz.prog 13 vC:=by
 have hD:=Kz hW
 have hC0:∀ t:Unit,Ad (Fw W) Tryz.prog Un:=fun t=>(Ac7 hW)
 refine Ax (D:=E4) (C:=fun t=>Un) (wr:=(fun _=>false)) rfl Aq hD hC0 Tryz.func13 (Afz) (fun _=>rfl) ?_
 intro t hf hp
 clear hf
 have c0:Kk 0=[111,107]:=by unfold Kk;rfl
 have c6:Kk 6=[110,111,110,101]:=by unfold Kk;rfl
 have i0:Lib.itoa 0=[48]:=I1 (n:=0) (by decide) (by decide)
 have k1:(Lib.itoa sE.came).length≤20:=by rw[show Lib.itoa sE.came=[48] from i0];decide
 have k2:=eR sE.code
 have k3:=eR sE.answer.code
 (conv=>whnf)
 (repeat' ((first
  |(with_reducible refine Ac ?_)
  |((with_reducible refine aI ?_ ?_);focus (first|with_reducible exact⟨⟩|exact tO|(simp only[List.length_append,bytesOf_length,List.toList_toArray,List.length_cons,List.length_nil,List.length_take,List.length_drop,Ap];omega)|decide))
  |(split<;>rename_i hh<;>(try simp only[wS] at hh))
  |with_reducible refine lnI fun hln=>?_
  |fail)<;>(conv=>whnf)))
 ·exact absurd (c0.symm.trans (by assumption)) (by decide)
 ·intro e he
  obtain rfl:e=0:=by omega
  show [AV.str _]=[AV.str _]
  refine congrArg (fun l=>[AV.str l]) ?_
  simp only[Ap]
  exact Aoi
def Gc:PT:=D1 [(71,Zp)]
theorem Np{W:World}(hW:Tabs W):Dj (Fw W) Tryz.prog Gc:=(Ae Tryz.call71 (Si hW) A6)
def Aa7:FuncId→Option Ctr:=Av Gc []
theorem Aa8{W:World}(hW:Tabs W):Ad (Fw W) Tryz.prog Aa7:=(A7 (Np hW))
def vF:List (FuncId × Ctr):=(213,inl TY Aa7 Gc (fun _=>false) (fun _ _ _=>none) Tryz.f213)::[]
def vG:FuncId→Option Ctr:=Av Gc vF
theorem vH{W:World}(hW:Tabs W):Ad (Fw W) Tryz.prog vG:=Ab Tryz.call213 (Af rfl Aq (Np hW) (Aa8 hW) Tryz.func213 (fun _ _ _=>none)) (Aa8 hW)
def mH:List AV→List Blk→Nat→Option LR:=fun _ _ i=>cond (Nat.beq i 4) (some (.unroll 1)) none
def vI:List (FuncId × Ctr):=(214,inl TY vG Gc (fun _=>false) (mH) Tryz.f214)::vF
def vJ:FuncId→Option Ctr:=Av Gc vI
theorem vK{W:World}(hW:Tabs W):Ad (Fw W) Tryz.prog vJ:=Ab Tryz.call214 (Af rfl Aq (Np hW) (vH hW) Tryz.func214 (mH)) (vH hW)
def mI:List AV→List Blk→Nat→Option LR:=fun _ _ i=>cond (Nat.beq i 4) (some (.unroll 1)) none
def vL:List (FuncId × Ctr):=(215,inl TY vJ Gc (fun _=>false) (mI) Tryz.f215)::vI
def vM:FuncId→Option Ctr:=Av Gc vL
theorem vN{W:World}(hW:Tabs W):Ad (Fw W) Tryz.prog vM:=Ab Tryz.call215 (Af rfl Aq (Np hW) (vK hW) Tryz.func215 (mI)) (vK hW)
def mJ:List AV→List Blk→Nat→Option LR:=fun cs H i=>cond (Nat.beq i 2) (some (.order [0,1,3,4,2,5,6,7,8,9,10,11,12,13,14,15,16,17,18,19,20,21])) (none)
def vO:List (FuncId × Ctr):=(142,inl TY vM Gc (fun _=>false) (mJ) Tryz.f142)::vL
def vP:FuncId→Option Ctr:=Av Gc vO
theorem vQ{W:World}(hW:Tabs W):Ad (Fw W) Tryz.prog vP:=Ab Tryz.call142 (Af rfl Aq (Np hW) (vN hW) Tryz.func142 (mJ)) (vN hW)
def Af1:List (FuncId × Ctr):=(98,inl TY vP Gc (fun _=>false) (fun _ _ _=>none) Tryz.f98)::vO
def aL:FuncId→Option Ctr:=Av Gc Af1
theorem Af2{W:World}(hW:Tabs W):Ad (Fw W) Tryz.prog aL:=Ab Tryz.call98 (Af rfl Aq (Np hW) (vQ hW) Tryz.func98 (fun _ _ _=>none)) (vQ hW)
set_option maxHeartbeats 2000000 in
theorem Aix{W:World}(hW:Tabs W):GoodP (Fw W) Tryz.prog 36 Afe:=by
 have hD:=Np hW
 have hC0:∀ b:Bool,Ad (Fw W) Tryz.prog aL:=fun b=>(Af2 hW)
 refine Ax (D:=Gc) (C:=fun b=>aL) (wr:=(fun _=>false)) rfl Aq hD hC0 Tryz.func36 (fun _ _=>none) (fun z=>by cases z<;>rfl) ?_
 have hexM: ¬Ah r0=false:=by rw[yT];exact Bool.true_eq_false.mp
 intro b hf hp
 clear hf
 cases b
 ·(conv=>whnf)
  (repeat' ((first
   |(with_reducible refine Ac ?_)
   |(refine Ua ?_)
   |with_reducible refine iQ ?_ ?_
   |((with_reducible refine aI ?_ ?_);focus (((with_reducible show okQ _ _=true);rfl)))
   |with_reducible refine lnI fun hln=>?_
   |fail)<;>(conv=>whnf)))
  all_goals (try (show _=_;simp only[wQ]))
  all_goals rfl
 ·(conv=>whnf)
  refine⟨r0,vB,?_,?_⟩
  ·exact tL
  (conv=>whnf)
  (repeat' ((first
   |(with_reducible refine Ac ?_)
   |(refine Ua ?_)
   |(exact absurd (by with_reducible assumption) hexM)
   |with_reducible refine iQ ?_ ?_
   |((with_reducible refine aI ?_ ?_);focus (((with_reducible show okQ _ _=true);rfl)))
   |(split<;>rename_i hh<;>(try simp only[wS] at hh))
   |fail)<;>(conv=>whnf)))
  all_goals (try (show _=_;simp only[wQ]))
  all_goals rfl
def pM:PT:=D1 [(24,P4),(36,Afe),(46,Iw),(62,Nf)]
theorem Aa9{W:World}(hW:Tabs W):Dj (Fw W) Tryz.prog pM:=(Ae Tryz.call24 (Um hW) (Ae Tryz.call36 (Aix hW) (Ae Tryz.call46 (Ei hW) (Ae Tryz.call62 (Jx hW) A6))))
def pN:FuncId→Option Ctr:=Av pM []
theorem Aiy{W:World}(hW:Tabs W):Ad (Fw W) Tryz.prog pN:=(A7 (Aa9 hW))
def Aiz:Bool→Nat→Option LR:=fun b i=>cond (Nat.beq i 15) (some (.unroll 3)) (none)
set_option maxHeartbeats 2000000 in
theorem Ai0{W:World}(hW:Tabs W):GoodP (Fw W) Tryz.prog 34 Afg:=by
 have hD:=Aa9 hW
 have hC0:∀ b:Bool,Ad (Fw W) Tryz.prog pN:=fun b=>(Aiy hW)
 refine Ax (D:=pM) (C:=fun b=>pN) (wr:=(fun _=>false)) rfl Aq hD hC0 Tryz.func34 (Aiz) (fun z=>by cases z<;>rfl) ?_
 have hexM: ¬Ah r0=false:=by rw[yT];exact Bool.true_eq_false.mp
 intro b hf hp
 clear hf
 cases b
 ·(conv=>whnf)
  refine⟨false,True.intro,?_,?_⟩
  ·exact Aj _
  (conv=>whnf)
  (repeat' ((first
   |(exact absurd (by with_reducible assumption) Bool.false_ne_true)
   |((with_reducible refine aI ?_ ?_);focus (first|with_reducible exact⟨⟩|((with_reducible refine⟨?_,?_,?_⟩)<;>first|(intro e he;rcases(by omega:e=0∨e=1∨e=2∨e=3∨e=4∨e=5) with rfl|rfl|rfl|rfl|rfl|rfl<;>first|rfl|(exfalso;omega))|(with_reducible assumption)|omega|((with_reducible show Ag _ _);simp only[Ag,ty2,ty3,ty4,ty5,ty9,Cn,Ch,Co,Ci,Cl,Cp,Cq,Cr,Bf,Bc,Bg,Bd,Bh,Bi,Bj,List.length_cons,List.length_nil];first|omega|(refine⟨?_,?_⟩<;>omega)))|omega|exact tK|(simp only[Ag,ty2,ty3,ty4,ty5,ty9,Cn,Ch,Co,Ci,Cl,Cp,Cq,Cr,Bf,Bc,Bg,Bd,Bh,Bi,Bj];first|omega|(refine⟨?_,?_⟩<;>omega))|decide))
   |(split<;>rename_i hh<;>(try simp only[wS] at hh))
   |with_reducible refine lnI fun hln=>?_
   |fail)<;>(conv=>whnf)))
  refine⟨(pH,[32]),⟨An6,by decide⟩,?_,?_⟩
  ·(conv=>whnf)
   (repeat' ((first|with_reducible exact⟨⟩|((with_reducible refine aI ?_ ?_);focus (exact tA))|with_reducible refine iA ?_ ?_|fail)<;>(conv=>whnf)))
   all_goals (try simp only[wQ])
   refine⟨fun h=>h,fun e he=>?_⟩
   change e<4 at he
   rcases(by omega:e=0∨e=1∨e=2∨e=3) with rfl|rfl|rfl|rfl<;>rfl
  (conv=>whnf)
  all_goals (try (show _=_;simp only[wQ]))
  all_goals exact Am3
 ·(conv=>whnf)
  refine⟨true,True.intro,?_,?_⟩
  ·exact Aj _
  (conv=>whnf)
  (repeat' ((first
   |(exact absurd (by with_reducible assumption) Bool.false_ne_true)
   |((with_reducible refine aI ?_ ?_);focus (first|with_reducible exact⟨⟩|exact tO))
   |(split<;>rename_i hh<;>(try simp only[wS] at hh))
   |fail)<;>(conv=>whnf)))
  refine⟨r0,vB,?_,?_⟩
  ·exact tL
  (conv=>whnf)
  (repeat' ((first
   |((with_reducible refine aI ?_ ?_);focus (decide))
   |fail)<;>(conv=>whnf)))
  refine⟨(partsE,[32]),⟨Aoj,by decide⟩,?_,?_⟩
  ·(conv=>whnf)
   (repeat' ((first|with_reducible exact⟨⟩|((with_reducible refine aI ?_ ?_);focus (exact tA))|with_reducible refine iA ?_ ?_|fail)<;>(conv=>whnf)))
   all_goals (try simp only[wQ])
   refine⟨fun h=>h,fun e he=>?_⟩
   change e<3 at he
   rcases(by omega:e=0∨e=1∨e=2) with rfl|rfl|rfl<;>rfl
  (conv=>whnf)
  all_goals (try (show _=_;simp only[wQ]))
  all_goals exact Am9
def aM:PT:=D1 [(13,vC),(34,Afg)]
theorem vR{W:World}(hW:Tabs W):Dj (Fw W) Tryz.prog aM:=(Ae Tryz.call13 (Af0 hW) (Ae Tryz.call34 (Ai0 hW) A6))
def aN:FuncId→Option Ctr:=Av aM []
theorem Af3{W:World}(hW:Tabs W):Ad (Fw W) Tryz.prog aN:=(A7 (vR hW))
set_option maxHeartbeats 2000000 in
theorem Af4{W:World}(hW:Tabs W):GoodP (Fw W) Tryz.prog 12 Aab:=by
 have hD:=vR hW
 have hC0:Ad (Fw W) Tryz.prog aN:=(Af3 hW)
 refine Be (D:=aM) (C:=aN) (wr:=(fun _=>false)) rfl Aq hD hC0 Tryz.func12 (fun _ _=>none) ?_
 clear hC0 hD hW
 intro cs p r h hf hp
 split at h
 case h_2=>cases h
 skip
 cases h
 try simp only[Bl,Cm,Ar,Go.Vc.lo,Go.Vc.hi,and_true] at hf
 have hT:Aff true=[100,111,32,48,32,105,115,115,117,101,32,107,55,32,51,32,65,66,67,50,51,52,32,55,64,57,61,49,48,46,48,48,32,45]:=rfl
 have hC:Aff false=[99,114,97,115,104,32,49,32,52,32,45,49]:=rfl
 (conv=>whnf)
 refine⟨(),True.intro,?_,?_⟩
 ·exact tL
 (conv=>whnf)
 (repeat' ((first
  |((with_reducible refine aI ?_ ?_);focus (decide))
  |fail)<;>(conv=>whnf)))
 refine⟨true,True.intro,?_,?_⟩
 ·(conv=>whnf)
  (repeat' ((first|with_reducible exact⟨⟩|((with_reducible refine aI ?_ ?_);focus (exact tA))|with_reducible refine iA ?_ ?_|fail)<;>(conv=>whnf)))
  all_goals (try simp only[wQ])
  exact⟨fun h=>h,fun e he=>by obtain rfl:e=0:=(by omega);rfl⟩
 (conv=>whnf)
 (repeat' ((first
  |(exact absurd hT (by with_reducible assumption))
  |((with_reducible refine aI ?_ ?_);focus (decide))
  |(split<;>rename_i hh<;>(try simp only[wS] at hh))
  |fail)<;>(conv=>whnf)))
 refine⟨false,True.intro,?_,?_⟩
 ·(conv=>whnf)
  (repeat' ((first|with_reducible exact⟨⟩|((with_reducible refine aI ?_ ?_);focus (exact tA))|with_reducible refine iA ?_ ?_|fail)<;>(conv=>whnf)))
  all_goals (try simp only[wQ])
  exact⟨fun h=>h,fun e he=>by rcases(by change e<2 at he;omega:e=0∨e=1) with rfl|rfl<;>rfl⟩
 (conv=>whnf)
 (repeat' ((first
  |(exact absurd hC (by with_reducible assumption))
  |((with_reducible refine aI ?_ ?_);focus (decide))
  |(split<;>rename_i hh<;>(try simp only[wS] at hh))
  |with_reducible refine lnI fun hln=>?_
  |fail)<;>(conv=>whnf)))
 all_goals (try (show _=_;simp only[wQ]))
 all_goals rfl
end
end Go.Vc.Z
namespace Go.Vc.Z
open Go Go.Vc Go.Proofs Go.RowKit Go.Pl Go.Lib
structure Site where
 carrier:Int
 first:Int
 count:Int
 sectors:Int
 pages:Int
 frames:Int
deriving Inhabited
abbrev Site.enc(s:Site):List AV:=[.int .i64 s.carrier,.int .i64 s.first,.int .i64 s.count,.int .i64 s.sectors,.int .i64 s.pages,.int .i64 s.frames]
@[irreducible] def Re(c f n:Int):Bool:=Q7 c&&I9 f&&decide (1≤n)&&decide (n≤1000000000 - f)
@[irreducible] def G8(s:Site):Bool:=Re s.carrier s.first s.count&&decide (323≤s.sectors∧s.sectors≤4000)&&decide (20≤s.pages∧s.pages≤1000)&&decide (2≤s.frames∧s.frames≤100)
theorem Aol{f:Int}(h:I9 f=true):0≤f∧f≤999999999:=by unfold I9 at h;simpa using h
noncomputable section
set_option maxRecDepth 100000
attribute [local irreducible] inK Utf8.decode Utf8.encode Lib.itoa Pl.worth Pl.allDig
attribute [local irreducible] Lib.join
def vS:PC:=PC.fun fun|[.int .i64 n,.int .i64 a,.int .i64 b]=>some (True,.bool (sB (decide (a≤n∧n≤b))))|_=>none
def Dh:PT:=D1 []
theorem Ej{W:World}(hW:Tabs W):Dj (Fw W) Tryz.prog Dh:=A6
def Ek:FuncId→Option Ctr:=Av Dh []
theorem Gt{W:World}(hW:Tabs W):Ad (Fw W) Tryz.prog Ek:=(A7 (Ej hW))
theorem Wn{W:World}(hW:Tabs W):GoodP (Fw W) Tryz.prog 248 vS:=by
 have hD:=Ej hW
 have hC0:Ad (Fw W) Tryz.prog Ek:=(Gt hW)
 refine Be (D:=Dh) (C:=Ek) (wr:=(fun _=>false)) rfl Aq hD hC0 Tryz.func248 (fun _ _=>none) ?_
 clear hC0 hD hW
 intro cs p r h hf hp
 split at h
 case h_2=>cases h
 rename_i n a b
 cases h
 try simp only[Bl,Cm,Ar,Go.Vc.lo,Go.Vc.hi,and_true] at hf
 (conv=>whnf)
 (repeat' ((first
  |(split<;>rename_i hh<;>(try simp only[wS] at hh))
  |fail)<;>(conv=>whnf)))
 all_goals (try (show _=_;simp only[wQ]))
 ·rw[C3,cond_true,decide_eq_decide];omega
 ·exact(decide_eq_false (by omega)).symm
def W7:PC:=PC.fun fun|[.agg [.int .i64 c,.int .i64 f,.int .i64 n]]=>some (True,.bool (sB (Re c f n)))|_=>none
theorem Sj{W:World}(hW:Tabs W):GoodP (Fw W) Tryz.prog 247 W7:=by
 have hD:=Qj hW
 have hC0:Ad (Fw W) Tryz.prog Lv:=(cY hW)
 refine Be (D:=Lu) (C:=Lv) (wr:=(fun _=>false)) rfl Aq hD hC0 Tryz.func247 (fun _ _=>none) ?_
 clear hC0 hD hW
 intro cs p r h hf hp
 split at h
 case h_2=>cases h
 rename_i c f n
 cases h
 try simp only[Bl,Cm,Ar,Go.Vc.lo,Go.Vc.hi,and_true] at hf
 (conv=>whnf)
 (repeat' ((first
  |((with_reducible refine aI ?_ ?_);focus (have hq:=Aol ‹I9 f=true›;simp only[Ar,Go.Vc.lo,Go.Vc.hi];omega))
  |((with_reducible refine aI ?_ ?_);focus (with_reducible exact⟨⟩))
  |(split<;>rename_i hh<;>(try simp only[wS] at hh))
  |fail)<;>(conv=>whnf)))
 all_goals (try (show _=_;simp only[wQ]))
 all_goals (try simp (disch:=omega) only[Int.tdiv_eq_ediv_of_nonneg,Int.tmod_eq_emod_of_nonneg]);all_goals (first|(simp_all[Cs,A9,Ap,Fj,C3,Bw,Re,I9];done)|(simp_all[Cs,A9,Ap,Fj,C3,Bw,Re,I9];omega))
theorem L0{W:World}(hW:Tabs W):GoodP (Fw W) Tryz.prog 294 Js:=by
 have hD:=Ej hW
 have hC0:Ad (Fw W) Tryz.prog Ek:=(Gt hW)
 refine Be (D:=Dh) (C:=Ek) (wr:=(fun _=>false)) rfl Aq hD hC0 Tryz.func294 (fun _ _=>none) ?_
 clear hC0 hD hW
 intro cs p r h hf hp
 split at h
 case h_2=>cases h
 rename_i c
 cases h
 try simp only[Bl,Cm,Ar,Go.Vc.lo,Go.Vc.hi,and_true] at hf
 (conv=>whnf)
 (repeat' ((first
  |(split<;>rename_i hh<;>(try simp only[wS] at hh))
  |fail)<;>(conv=>whnf)))
 all_goals (try (show _=_;simp only[wQ]))
 all_goals (try simp (disch:=omega) only[Int.tdiv_eq_ediv_of_nonneg,Int.tmod_eq_emod_of_nonneg]);all_goals (first|(simp_all[Cs,A9,Ap,Fj,C3,Bw,Q7];done)|(simp_all[Cs,A9,Ap,Fj,C3,Bw,Q7];omega))
def Fa:PT:=D1 [(294,Js)]
theorem Hk{W:World}(hW:Tabs W):Dj (Fw W) Tryz.prog Fa:=(Ae Tryz.call294 (L0 hW) A6)
def Fb:FuncId→Option Ctr:=Av Fa []
theorem Nq{W:World}(hW:Tabs W):Ad (Fw W) Tryz.prog Fb:=(A7 (Hk hW))
theorem Nr{W:World}(hW:Tabs W):GoodP (Fw W) Tryz.prog 250 W7:=by
 have hD:=Hk hW
 have hC0:Ad (Fw W) Tryz.prog Fb:=(Nq hW)
 refine Be (D:=Fa) (C:=Fb) (wr:=(fun _=>false)) rfl Aq hD hC0 Tryz.func250 (fun _ _=>none) ?_
 clear hC0 hD hW
 intro cs p r h hf hp
 split at h
 case h_2=>cases h
 rename_i c f n
 cases h
 try simp only[Bl,Cm,Ar,Go.Vc.lo,Go.Vc.hi,and_true] at hf
 (conv=>whnf)
 (repeat' ((first
  |((with_reducible refine aI ?_ ?_);focus (first|with_reducible exact⟨⟩|exact tK))
  |(split<;>rename_i hh<;>(try simp only[wS] at hh))
  |fail)<;>(conv=>whnf)))
 all_goals (try (show _=_;simp only[wQ]))
 all_goals (try simp (disch:=omega) only[Int.tdiv_eq_ediv_of_nonneg,Int.tmod_eq_emod_of_nonneg]);all_goals (first|(simp_all[Cs,A9,Ap,Fj,C3,Bw,Re,I9];done)|(simp_all[Cs,A9,Ap,Fj,C3,Bw,Re,I9];omega))
def pO:PC:=PC.of (fun s:Site=>[.agg s.enc]) (fun _=>True) (fun s=>.bool (sB (G8 s)))
def Ns:PT:=D1 [(247,W7),(248,vS)]
theorem Sk{W:World}(hW:Tabs W):Dj (Fw W) Tryz.prog Ns:=(Ae Tryz.call247 (Sj hW) (Ae Tryz.call248 (Wn hW) A6))
def Nt:FuncId→Option Ctr:=Av Ns []
theorem pP{W:World}(hW:Tabs W):Ad (Fw W) Tryz.prog Nt:=(A7 (Sk hW))
theorem pQ{W:World}(hW:Tabs W):GoodP (Fw W) Tryz.prog 181 pO:=by
 have hD:=Sk hW
 have hC0:∀ s:Site,Ad (Fw W) Tryz.prog Nt:=fun s=>(pP hW)
 refine Ax (D:=Ns) (C:=fun s=>Nt) (wr:=(fun _=>false)) rfl Aq hD hC0 Tryz.func181 (fun _ _=>none) (fun _=>rfl) ?_
 intro s hf hp
 clear hf
 (conv=>whnf)
 (repeat' ((first
  |((with_reducible refine aI ?_ ?_);focus (with_reducible exact⟨⟩))
  |(split<;>rename_i hh<;>(try simp only[wS] at hh))
  |fail)<;>(conv=>whnf)))
 all_goals (try (show _=_;simp only[wQ]))
 all_goals (
  unfold G8
  try simp only[C3,cond_true]
  first
  |(rw[eq_comm,Bool.eq_false_iff];simp only[ne_eq,Bool.and_eq_true,decide_eq_true_eq];rintro⟨⟨⟨h1,h2⟩,h3⟩,h4⟩;first|omega|(rw[h1] at*;simp_all;done))
  |(rw[Bool.eq_iff_iff];simp only[Bool.and_eq_true,decide_eq_true_eq];simp_all;done)
  |(rw[Bool.eq_iff_iff];simp only[Bool.and_eq_true,decide_eq_true_eq];simp_all;omega))
def Hl:PT:=D1 [(250,W7)]
theorem Lo{W:World}(hW:Tabs W):Dj (Fw W) Tryz.prog Hl:=(Ae Tryz.call250 (Nr hW) A6)
def Hm:FuncId→Option Ctr:=Av Hl []
theorem Sl{W:World}(hW:Tabs W):Ad (Fw W) Tryz.prog Hm:=(A7 (Lo hW))
theorem Sm{W:World}(hW:Tabs W):GoodP (Fw W) Tryz.prog 183 pO:=by
 have hD:=Lo hW
 have hC0:∀ s:Site,Ad (Fw W) Tryz.prog Hm:=fun s=>(Sl hW)
 refine Ax (D:=Hl) (C:=fun s=>Hm) (wr:=(fun _=>false)) rfl Aq hD hC0 Tryz.func183 (fun _ _=>none) (fun _=>rfl) ?_
 intro s hf hp
 clear hf
 (conv=>whnf)
 (repeat' ((first
  |((with_reducible refine aI ?_ ?_);focus (with_reducible exact⟨⟩))
  |(split<;>rename_i hh<;>(try simp only[wS] at hh))
  |fail)<;>(conv=>whnf)))
 all_goals (try (show _=_;simp only[wQ]))
 all_goals (
  unfold G8
  try simp only[C3,cond_true]
  first
  |(rw[eq_comm,Bool.eq_false_iff];simp only[ne_eq,Bool.and_eq_true,decide_eq_true_eq];rintro⟨⟨⟨h1,h2⟩,h3⟩,h4⟩;first|omega|(rw[h1] at*;simp_all;done))
  |(rw[Bool.eq_iff_iff];simp only[Bool.and_eq_true,decide_eq_true_eq];simp_all;done)
  |(rw[Bool.eq_iff_iff];simp only[Bool.and_eq_true,decide_eq_true_eq];simp_all;omega))
end
end Go.Vc.Z
