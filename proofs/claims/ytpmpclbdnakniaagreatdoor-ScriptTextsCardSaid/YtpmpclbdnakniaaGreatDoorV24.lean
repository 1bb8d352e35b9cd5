/- The chapter's rows, where no ticket is told. -/
import Derived.Test.YtpmpclbdnakniaaGreatDoorV23
import Derived.Test.YtpmpclbdnakniaaGreatDoorV13
set_option linter.all false
set_option maxHeartbeats 8000000
namespace Go.Vc.Z
open Go Go.Vc Go.Proofs Go.RowKit Go.Pl Go.Lib
def r0:Request:=⟨[107,55],1,3,0,0,0,[65,66,67,50,51,52],[c7],[],0,0,0⟩
theorem Ajr:Af r0=true:=by
 rw[Uz rfl];have p1:Bb r0 75=true:=by unfold Bb F3;decide
 have p2:Bb r0 68=true:=by unfold Bb F0;decide
 have p3:Bb r0 76=true:=by unfold Bb Gb;decide
 have p4:Bb r0 74=true:=by unfold Bb E5 Gg F0 C2;decide
 have p5:Bb r0 88=true:=by unfold Bb C0;decide
 have p6:Df r0 (Cq r0)=true:=Bc.2 rfl;rw[p1,p2,p3,p4,p5,p6];rfl
theorem Aq6:Be r0=Aky:=by
 rw[Ajo rfl Ajr];show [105,115,115,117,101]++[32]++[107,55]++[32]++Lib.itoa 3++[32]++[65,66,67,50,51,52]++[32]++Bu [c7]++[32]++Bm []=Aky;rw[show Bu [c7]=Bi ⟨7,9,1000,0,0,0⟩ by unfold Bu;simp[Lib.join,c7],Ajl,Ajm,L0 (n:=3) (by decide) (by decide)];rfl
theorem Agv:Eh r0:=⟨by decide,by decide⟩
theorem A0y:Of 0++[32]++Of 6++[32]++Lib.itoa 0=[111,107,32,110,111,110,101,32,48]:=by
 unfold Of;rw[show Lib.itoa 0=[48] from L0 (n:=0) (by decide) (by decide)]
 rfl
noncomputable def partsE:List (List UInt8):=[[100,111],Lib.itoa 0,Be r0]
theorem Azj:Lib.join partsE [32]=[100,111,32,48,32]++Aky:=by
 unfold partsE;rw[L0 (n:=0) (by decide) (by decide),Aq6];rfl
theorem A0z:(Lib.join partsE [32]).length≤140737488355328:=by rw[Azj];decide
noncomputable section
set_option maxRecDepth 100000
attribute [local irreducible] inK Utf8.decode Utf8.encode Lib.itoa Pl.worth Pl.allDig
attribute [local irreducible] Lib.join
def A00:List (List UInt8):=[[111,107,32,110,111,110,101,32,48]]
def Agw:PC:=PC.of (fun _:Unit=>[.agg Aex.enc]) (fun _=>True) (fun _=>slS A00)
def Fl:PT:=Cg [(16,Aqd),(46,Lo)]
theorem Ot{W:World}(hW:Tabs W):Cb (Fw W) Tryz.prog Fl:=(Ab Tryz.call16 (rT hW) (Ab Tryz.call46 (Er hW) Aq))
def Agx:FuncId→Option Ctr:=Av Fl []
theorem Agy{W:World}(hW:Tabs W):Ad (Fw W) Tryz.prog Agx:=(Ar (Ot hW))
def zC:List (FuncId × Ctr):=(109,inl TY Agx Fl (fun _=>false) (fun _ _ _=>none) Tryz.f109)::[]
def zD:FuncId→Option Ctr:=Av Fl zC
theorem zE{W:World}(hW:Tabs W):Ad (Fw W) Tryz.prog zD:=Ae Tryz.call109 (Ah rfl Ao (Ot hW) (Agy hW) Tryz.func109 (fun _ _ _=>none)) (Agy hW)
def zF:List (FuncId × Ctr):=(106,inl TY zD Fl (fun _=>false) (fun _ _ _=>none) Tryz.f106)::zC
def zG:FuncId→Option Ctr:=Av Fl zF
theorem zH{W:World}(hW:Tabs W):Ad (Fw W) Tryz.prog zG:=Ae Tryz.call106 (Ah rfl Ao (Ot hW) (zE hW) Tryz.func106 (fun _ _ _=>none)) (zE hW)
def oM:List AV→List Blk→Nat→Option LR:=fun _ _ i=>cond (Nat.beq i 2) (some (.unroll 1)) none
def zI:List (FuncId × Ctr):=(187,inl TY zG Fl (fun _=>false) (oM) Tryz.f187)::zF
def zJ:FuncId→Option Ctr:=Av Fl zI
theorem zK{W:World}(hW:Tabs W):Ad (Fw W) Tryz.prog zJ:=Ae Tryz.call187 (Ah rfl Ao (Ot hW) (zH hW) Tryz.func187 (oM)) (zH hW)
def zL:List (FuncId × Ctr):=(108,inl TY zJ Fl (fun _=>false) (fun _ _ _=>none) Tryz.f108)::zI
def zM:FuncId→Option Ctr:=Av Fl zL
theorem zN{W:World}(hW:Tabs W):Ad (Fw W) Tryz.prog zM:=Ae Tryz.call108 (Ah rfl Ao (Ot hW) (zK hW) Tryz.func108 (fun _ _ _=>none)) (zK hW)
def oN:List AV→List Blk→Nat→Option LR:=fun _ _ i=>cond (Nat.beq i 4) (some (.unroll 1)) (cond (Nat.beq i 10) (some (.unroll 1)) none)
def An5:List (FuncId × Ctr):=(45,inl TY zM Fl (fun _=>false) (oN) Tryz.f45)::zL
def cX:FuncId→Option Ctr:=Av Fl An5
theorem An6{W:World}(hW:Tabs W):Ad (Fw W) Tryz.prog cX:=Ae Tryz.call45 (Ah rfl Ao (Ot hW) (zN hW) Tryz.func45 (oN)) (zN hW)
def Aq7:Unit→Nat→Option LR:=fun t i=>cond (Nat.beq i 5) (some (.unroll 1)) (cond (Nat.beq i 10) (some (.unroll 1)) (cond (Nat.beq i 15) (some (.unroll 1)) (none)))
theorem Aq8{W:World}(hW:Tabs W):GoodP (Fw W) Tryz.prog 13 Agw:=by
 have hD:=Ot hW;have hC0:∀ t:Unit,Ad (Fw W) Tryz.prog cX:=fun t=>(An6 hW);refine As (D:=Fl) (C:=fun t=>cX) (wr:=(fun _=>false)) rfl Ao hD hC0 Tryz.func13 (Aq7) (fun _=>rfl) ?_;intro t hf hp;clear hf;have c0:Of 0=[111,107]:=by unfold Of;rfl
 have c6:Of 6=[110,111,110,101]:=by unfold Of;rfl
 have i0:Lib.itoa 0=[48]:=L0 (n:=0) (by decide) (by decide)
 have k1:(Lib.itoa Aex.came).length≤20:=by rw[show Lib.itoa Aex.came=[48] from i0];decide
 have k2:=uA Aex.code;have k3:=uA Aex.answer.code
 (conv=>whnf)
 (repeat' (first|(with_reducible refine Ap ?_)|refine tuU ?_|split<;>rename_i hh<;>try simp only[wS] at hh|with_reducible refine lnI fun hln=>?_)<;>conv=>whnf)
 ·exact absurd (c0.symm.trans (by assumption)) (by decide)
 ·intro e he;obtain rfl:e=0:=by omega
  show [AV.str _]=[AV.str _];refine congrArg (fun l=>[AV.str l]) ?_;simp only[Cn];exact A0y
def Hq:PT:=Cg [(71,nI)]
theorem Sx{W:World}(hW:Tabs W):Cb (Fw W) Tryz.prog Hq:=(Ab Tryz.call71 (aB hW) Aq)
def Al0:FuncId→Option Ctr:=Av Hq []
theorem Al1{W:World}(hW:Tabs W):Ad (Fw W) Tryz.prog Al0:=(Ar (Sx hW))
def Agz:List (FuncId × Ctr):=(213,inl TY Al0 Hq (fun _=>false) (fun _ _ _=>none) Tryz.f213)::[]
def Ag0:FuncId→Option Ctr:=Av Hq Agz
theorem Ag1{W:World}(hW:Tabs W):Ad (Fw W) Tryz.prog Ag0:=Ae Tryz.call213 (Ah rfl Ao (Sx hW) (Al1 hW) Tryz.func213 (fun _ _ _=>none)) (Al1 hW)
def zO:List AV→List Blk→Nat→Option LR:=fun _ _ i=>cond (Nat.beq i 4) (some (.unroll 1)) none
def Ag2:List (FuncId × Ctr):=(214,inl TY Ag0 Hq (fun _=>false) (zO) Tryz.f214)::Agz
def Ag3:FuncId→Option Ctr:=Av Hq Ag2
theorem Ag4{W:World}(hW:Tabs W):Ad (Fw W) Tryz.prog Ag3:=Ae Tryz.call214 (Ah rfl Ao (Sx hW) (Ag1 hW) Tryz.func214 (zO)) (Ag1 hW)
def zP:List AV→List Blk→Nat→Option LR:=fun _ _ i=>cond (Nat.beq i 4) (some (.unroll 1)) none
def Ag5:List (FuncId × Ctr):=(215,inl TY Ag3 Hq (fun _=>false) (zP) Tryz.f215)::Ag2
def Ag6:FuncId→Option Ctr:=Av Hq Ag5
theorem Ag7{W:World}(hW:Tabs W):Ad (Fw W) Tryz.prog Ag6:=Ae Tryz.call215 (Ah rfl Ao (Sx hW) (Ag4 hW) Tryz.func215 (zP)) (Ag4 hW)
def zQ:List AV→List Blk→Nat→Option LR:=fun cs H i=>cond (Nat.beq i 2) (some (.order [0,1,3,4,2,5,6,7,8,9,10,11,12,13,14,15,16,17,18,19,20,21])) (none)
def Ag8:List (FuncId × Ctr):=(142,inl TY Ag6 Hq (fun _=>false) (zQ) Tryz.f142)::Ag5
def Ag9:FuncId→Option Ctr:=Av Hq Ag8
theorem Aha{W:World}(hW:Tabs W):Ad (Fw W) Tryz.prog Ag9:=Ae Tryz.call142 (Ah rfl Ao (Sx hW) (Ag7 hW) Tryz.func142 (zQ)) (Ag7 hW)
def Aq9:List (FuncId × Ctr):=(98,inl TY Ag9 Hq (fun _=>false) (fun _ _ _=>none) Tryz.f98)::Ag8
def oO:FuncId→Option Ctr:=Av Hq Aq9
theorem Ara{W:World}(hW:Tabs W):Ad (Fw W) Tryz.prog oO:=Ae Tryz.call98 (Ah rfl Ao (Sx hW) (Aha hW) Tryz.func98 (fun _ _ _=>none)) (Aha hW)
theorem Auu{W:World}(hW:Tabs W):GoodP (Fw W) Tryz.prog 36 Aqh:=by
 have hD:=Sx hW;have hC0:∀ b:Bool,Ad (Fw W) Tryz.prog oO:=fun b=>(Ara hW);refine As (D:=Hq) (C:=fun b=>oO) (wr:=(fun _=>false)) rfl Ao hD hC0 Tryz.func36 (fun _ _=>none) (fun z=>by cases z<;>rfl) ?_
 have hexM: ¬Af r0=false:=by rw[Ajr];exact Bool.true_eq_false.mp
 intro b hf hp;clear hf;cases b
 ·(conv=>whnf)
  (repeat' (first|(with_reducible refine Ap ?_)|(refine cM ?_)|with_reducible refine iQ ?_ ?_|refine tuU ?_|with_reducible refine lnI fun hln=>?_)<;>conv=>whnf)
  all_goals try(show _=_;simp only[wQ])
  all_goals rfl
 ·(conv=>whnf)
  refine⟨r0,Agv,?_,?_⟩
  ·exact tL
  (conv=>whnf)
  (repeat' (first|(with_reducible refine Ap ?_)|(refine cM ?_)|(exact absurd (by with_reducible assumption) hexM)|with_reducible refine iQ ?_ ?_|refine tuU ?_|split<;>rename_i hh<;>try simp only[wS] at hh)<;>conv=>whnf)
  all_goals try(show _=_;simp only[wQ])
  all_goals rfl
def Acm:PT:=Cg [(24,Wl),(36,Aqh),(46,Lo),(62,Sl)]
theorem Al2{W:World}(hW:Tabs W):Cb (Fw W) Tryz.prog Acm:=(Ab Tryz.call24 (cW hW) (Ab Tryz.call36 (Auu hW) (Ab Tryz.call46 (Er hW) (Ab Tryz.call62 (Nn hW) Aq))))
def Acn:FuncId→Option Ctr:=Av Acm []
theorem Auv{W:World}(hW:Tabs W):Ad (Fw W) Tryz.prog Acn:=(Ar (Al2 hW))
def Auw:Bool→Nat→Option LR:=fun b i=>cond (Nat.beq i 15) (some (.unroll 3)) (none)
theorem Aux{W:World}(hW:Tabs W):GoodP (Fw W) Tryz.prog 34 Aqj:=by
 have hD:=Al2 hW;have hC0:∀ b:Bool,Ad (Fw W) Tryz.prog Acn:=fun b=>(Auv hW);refine As (D:=Acm) (C:=fun b=>Acn) (wr:=(fun _=>false)) rfl Ao hD hC0 Tryz.func34 (Auw) (fun z=>by cases z<;>rfl) ?_
 have hexM: ¬Af r0=false:=by rw[Ajr];exact Bool.true_eq_false.mp
 intro b hf hp;clear hf;cases b
 ·(conv=>whnf)
  refine⟨false,True.intro,?_,?_⟩
  ·exact Ac _
  (conv=>whnf)
  (repeat' (first|(exact absurd (by with_reducible assumption) Bool.false_ne_true)|refine tuU ?_|split<;>rename_i hh<;>try simp only[wS] at hh|with_reducible refine lnI fun hln=>?_)<;>conv=>whnf)
  refine⟨(Aci,[32]),⟨A0t,by decide⟩,?_,?_⟩
  ·(conv=>whnf)
   (repeat' (first|with_reducible exact⟨⟩|refine tuA ?_|with_reducible refine iA ?_ ?_)<;>conv=>whnf)
   all_goals try simp only[wQ]
   refine⟨fun h=>h,fun e he=>?_⟩;change e<4 at he;rcases(by omega:e=0∨e=1∨e=2∨e=3) with rfl|rfl|rfl|rfl<;>rfl
  (conv=>whnf)
  all_goals try(show _=_;simp only[wQ])
  all_goals exact Azd
 ·(conv=>whnf)
  refine⟨true,True.intro,?_,?_⟩
  ·exact Ac _
  (conv=>whnf)
  (repeat' (first|(exact absurd (by with_reducible assumption) Bool.false_ne_true)|refine tuU ?_|split<;>rename_i hh<;>try simp only[wS] at hh)<;>conv=>whnf)
  refine⟨r0,Agv,?_,?_⟩
  ·exact tL
  (conv=>whnf)
  (repeat' (first|refine tuU ?_)<;>conv=>whnf)
  refine⟨(partsE,[32]),⟨A0z,by decide⟩,?_,?_⟩
  ·(conv=>whnf)
   (repeat' (first|with_reducible exact⟨⟩|refine tuA ?_|with_reducible refine iA ?_ ?_)<;>conv=>whnf)
   all_goals try simp only[wQ]
   refine⟨fun h=>h,fun e he=>?_⟩;change e<3 at he;rcases(by omega:e=0∨e=1∨e=2) with rfl|rfl|rfl<;>rfl
  (conv=>whnf)
  all_goals try(show _=_;simp only[wQ])
  all_goals exact Azj
def oP:PT:=Cg [(13,Agw),(34,Aqj)]
theorem Ahb{W:World}(hW:Tabs W):Cb (Fw W) Tryz.prog oP:=(Ab Tryz.call13 (Aq8 hW) (Ab Tryz.call34 (Aux hW) Aq))
def oQ:FuncId→Option Ctr:=Av oP []
theorem Arb{W:World}(hW:Tabs W):Ad (Fw W) Tryz.prog oQ:=(Ar (Ahb hW))
theorem Arc{W:World}(hW:Tabs W):GoodP (Fw W) Tryz.prog 12 Akz:=by
 have hD:=Ahb hW;have hC0:Ad (Fw W) Tryz.prog oQ:=(Arb hW);refine Au (D:=oP) (C:=oQ) (wr:=(fun _=>false)) rfl Ao hD hC0 Tryz.func12 (fun _ _=>none) ?_;clear hC0 hD hW;intro cs p r h hf hp;split at h
 case h_2=>cases h
 skip
 cases h;try simp only[Az,Bd,Aw,Go.Vc.lo,Go.Vc.hi,and_true] at hf
 have hT:Aqi true=[100,111,32,48,32,105,115,115,117,101,32,107,55,32,51,32,65,66,67,50,51,52,32,55,64,57,61,49,48,46,48,48,32,45]:=rfl;have hC:Aqi false=[99,114,97,115,104,32,49,32,52,32,45,49]:=rfl
 (conv=>whnf)
 refine⟨(),True.intro,?_,?_⟩
 ·exact tL
 (conv=>whnf)
 (repeat' (first|refine tuU ?_)<;>conv=>whnf)
 refine⟨true,True.intro,?_,?_⟩
 ·(conv=>whnf)
  (repeat' (first|with_reducible exact⟨⟩|refine tuA ?_|with_reducible refine iA ?_ ?_)<;>conv=>whnf)
  all_goals try simp only[wQ]
  exact⟨fun h=>h,fun e he=>by obtain rfl:e=0:=(by omega);rfl⟩
 (conv=>whnf)
 (repeat' (first|(exact absurd hT (by with_reducible assumption))|refine tuU ?_|split<;>rename_i hh<;>try simp only[wS] at hh)<;>conv=>whnf)
 refine⟨false,True.intro,?_,?_⟩
 ·(conv=>whnf)
  (repeat' (first|with_reducible exact⟨⟩|refine tuA ?_|with_reducible refine iA ?_ ?_)<;>conv=>whnf)
  all_goals try simp only[wQ]
  exact⟨fun h=>h,fun e he=>by rcases(by change e<2 at he;omega:e=0∨e=1) with rfl|rfl<;>rfl⟩
 (conv=>whnf)
 (repeat' (first|(exact absurd hC (by with_reducible assumption))|refine tuU ?_|split<;>rename_i hh<;>try simp only[wS] at hh|with_reducible refine lnI fun hln=>?_)<;>conv=>whnf)
 all_goals try(show _=_;simp only[wQ])
 all_goals rfl
end
end Go.Vc.Z
namespace Go.Vc.Z
open Go Go.Vc Go.Proofs Go.RowKit Go.Pl Go.Lib
structure Site where
 carrier:Int
 first:Int
 count:Int
 sectors:Int
 pages:Int
 frames:Int
deriving Inhabited
abbrev Site.enc(s:Site):List AV:=[.int .i64 s.carrier,.int .i64 s.first,.int .i64 s.count,.int .i64 s.sectors,.int .i64 s.pages,.int .i64 s.frames]
@[irreducible] def Yq(c f n:Int):Bool:=X8 c&&Mi f&&decide (1≤n)&&decide (n≤1000000000 - f)
@[irreducible] def L2(s:Site):Bool:=Yq s.carrier s.first s.count&&decide (323≤s.sectors∧s.sectors≤4000)&&decide (20≤s.pages∧s.pages≤1000)&&decide (2≤s.frames∧s.frames≤100)
theorem A01{f:Int}(h:Mi f=true):0≤f∧f≤999999999:=by unfold Mi at h;simpa using h
noncomputable section
set_option maxRecDepth 100000
attribute [local irreducible] inK Utf8.decode Utf8.encode Lib.itoa Pl.worth Pl.allDig
attribute [local irreducible] Lib.join
def Ahc:PC:=PC.fun fun|[.int .i64 n,.int .i64 a,.int .i64 b]=>some (True,.bool (sB (decide (a≤n∧n≤b))))|_=>none
def Ij:PT:=Cg []
theorem Mv{W:World}(hW:Tabs W):Cb (Fw W) Tryz.prog Ij:=Aq
def Gc:FuncId→Option Ctr:=Av Ij []
theorem Tk{W:World}(hW:Tabs W):Ad (Fw W) Tryz.prog Gc:=(Ar (Mv hW))
theorem gZ{W:World}(hW:Tabs W):GoodP (Fw W) Tryz.prog 248 Ahc:=by
 have hD:=Mv hW;have hC0:Ad (Fw W) Tryz.prog Gc:=(Tk hW);refine Au (D:=Ij) (C:=Gc) (wr:=(fun _=>false)) rfl Ao hD hC0 Tryz.func248 (fun _ _=>none) ?_;clear hC0 hD hW;intro cs p r h hf hp;split at h
 case h_2=>cases h
 rename_i n a b;cases h;try simp only[Az,Bd,Aw,Go.Vc.lo,Go.Vc.hi,and_true] at hf
 (conv=>whnf)
 (repeat' (first|split<;>rename_i hh<;>try simp only[wS] at hh)<;>conv=>whnf)
 all_goals try(show _=_;simp only[wQ])
 ·rw[B7,cond_true,decide_eq_decide];omega
 ·exact(decide_eq_false (by omega)).symm
def jB:PC:=PC.fun fun|[.agg [.int .i64 c,.int .i64 f,.int .i64 n]]=>some (True,.bool (sB (Yq c f n)))|_=>none
theorem aC{W:World}(hW:Tabs W):GoodP (Fw W) Tryz.prog 247 jB:=by
 have hD:=Xm hW;have hC0:Ad (Fw W) Tryz.prog Qe:=(rS hW);refine Au (D:=Qd) (C:=Qe) (wr:=(fun _=>false)) rfl Ao hD hC0 Tryz.func247 (fun _ _=>none) ?_;clear hC0 hD hW;intro cs p r h hf hp;split at h
 case h_2=>cases h
 rename_i c f n;cases h;try simp only[Az,Bd,Aw,Go.Vc.lo,Go.Vc.hi,and_true] at hf
 (conv=>whnf)
 (repeat' (first|((with_reducible refine aI ?_ ?_);focus (have hq:=A01 ‹Mi f=true›;simp only[Aw,Go.Vc.lo,Go.Vc.hi];omega))|refine tuU ?_|split<;>rename_i hh<;>try simp only[wS] at hh)<;>conv=>whnf)
 all_goals try(show _=_;simp only[wQ])
 all_goals (try simp (disch:=omega) only[Int.tdiv_eq_ediv_of_nonneg,Int.tmod_eq_emod_of_nonneg]);all_goals (first|(simp_all[De,Bt,Cn,Dm,B7,Ca,Yq,Mi];done)|(simp_all[De,Bt,Cn,Dm,B7,Ca,Yq,Mi];omega))
theorem Qm{W:World}(hW:Tabs W):GoodP (Fw W) Tryz.prog 294 Nf:=by
 have hD:=Mv hW;have hC0:Ad (Fw W) Tryz.prog Gc:=(Tk hW);refine Au (D:=Ij) (C:=Gc) (wr:=(fun _=>false)) rfl Ao hD hC0 Tryz.func294 (fun _ _=>none) ?_;clear hC0 hD hW;intro cs p r h hf hp;split at h
 case h_2=>cases h
 rename_i c;cases h;try simp only[Az,Bd,Aw,Go.Vc.lo,Go.Vc.hi,and_true] at hf
 (conv=>whnf)
 (repeat' (first|split<;>rename_i hh<;>try simp only[wS] at hh)<;>conv=>whnf)
 all_goals try(show _=_;simp only[wQ])
 all_goals (try simp (disch:=omega) only[Int.tdiv_eq_ediv_of_nonneg,Int.tmod_eq_emod_of_nonneg]);all_goals (first|(simp_all[De,Bt,Cn,Dm,B7,Ca,X8];done)|(simp_all[De,Bt,Cn,Dm,B7,Ca,X8];omega))
def F6:PT:=Cg [(294,Nf)]
theorem Jz{W:World}(hW:Tabs W):Cb (Fw W) Tryz.prog F6:=(Ab Tryz.call294 (Qm hW) Aq)
def F7:FuncId→Option Ctr:=Av F6 []
theorem Sy{W:World}(hW:Tabs W):Ad (Fw W) Tryz.prog F7:=(Ar (Jz hW))
theorem Sz{W:World}(hW:Tabs W):GoodP (Fw W) Tryz.prog 250 jB:=by
 have hD:=Jz hW;have hC0:Ad (Fw W) Tryz.prog F7:=(Sy hW);refine Au (D:=F6) (C:=F7) (wr:=(fun _=>false)) rfl Ao hD hC0 Tryz.func250 (fun _ _=>none) ?_;clear hC0 hD hW;intro cs p r h hf hp;split at h
 case h_2=>cases h
 rename_i c f n;cases h;try simp only[Az,Bd,Aw,Go.Vc.lo,Go.Vc.hi,and_true] at hf
 (conv=>whnf)
 (repeat' (first|refine tuU ?_|split<;>rename_i hh<;>try simp only[wS] at hh)<;>conv=>whnf)
 all_goals try(show _=_;simp only[wQ])
 all_goals (try simp (disch:=omega) only[Int.tdiv_eq_ediv_of_nonneg,Int.tmod_eq_emod_of_nonneg]);all_goals (first|(simp_all[De,Bt,Cn,Dm,B7,Ca,Yq,Mi];done)|(simp_all[De,Bt,Cn,Dm,B7,Ca,Yq,Mi];omega))
def Aco:PC:=PC.of (fun s:Site=>[.agg s.enc]) (fun _=>True) (fun s=>.bool (sB (L2 s)))
def S0:PT:=Cg [(247,jB),(248,Ahc)]
theorem aD{W:World}(hW:Tabs W):Cb (Fw W) Tryz.prog S0:=(Ab Tryz.call247 (aC hW) (Ab Tryz.call248 (gZ hW) Aq))
def S4:FuncId→Option Ctr:=Av S0 []
theorem Acp{W:World}(hW:Tabs W):Ad (Fw W) Tryz.prog S4:=(Ar (aD hW))
theorem Acr{W:World}(hW:Tabs W):GoodP (Fw W) Tryz.prog 181 Aco:=by
 have hD:=aD hW;have hC0:∀ s:Site,Ad (Fw W) Tryz.prog S4:=fun s=>(Acp hW);refine As (D:=S0) (C:=fun s=>S4) (wr:=(fun _=>false)) rfl Ao hD hC0 Tryz.func181 (fun _ _=>none) (fun _=>rfl) ?_;intro s hf hp;clear hf
 (conv=>whnf)
 (repeat' (first|refine tuU ?_|split<;>rename_i hh<;>try simp only[wS] at hh)<;>conv=>whnf)
 all_goals try(show _=_;simp only[wQ])
 all_goals (
  unfold L2;try simp only[B7,cond_true]
  first
  |(rw[eq_comm,Bool.eq_false_iff];simp only[ne_eq,Bool.and_eq_true,decide_eq_true_eq];rintro⟨⟨⟨h1,h2⟩,h3⟩,h4⟩;first|omega|(rw[h1] at*;simp_all;done))
  |(rw[Bool.eq_iff_iff];simp only[Bool.and_eq_true,decide_eq_true_eq];simp_all;done)
  |(rw[Bool.eq_iff_iff];simp only[Bool.and_eq_true,decide_eq_true_eq];simp_all;omega))
def J0:PT:=Cg [(250,jB)]
theorem P3{W:World}(hW:Tabs W):Cb (Fw W) Tryz.prog J0:=(Ab Tryz.call250 (Sz hW) Aq)
def J1:FuncId→Option Ctr:=Av J0 []
theorem aE{W:World}(hW:Tabs W):Ad (Fw W) Tryz.prog J1:=(Ar (P3 hW))
theorem aF{W:World}(hW:Tabs W):GoodP (Fw W) Tryz.prog 183 Aco:=by
 have hD:=P3 hW;have hC0:∀ s:Site,Ad (Fw W) Tryz.prog J1:=fun s=>(aE hW);refine As (D:=J0) (C:=fun s=>J1) (wr:=(fun _=>false)) rfl Ao hD hC0 Tryz.func183 (fun _ _=>none) (fun _=>rfl) ?_;intro s hf hp;clear hf
 (conv=>whnf)
 (repeat' (first|refine tuU ?_|split<;>rename_i hh<;>try simp only[wS] at hh)<;>conv=>whnf)
 all_goals try(show _=_;simp only[wQ])
 all_goals (
  unfold L2;try simp only[B7,cond_true]
  first
  |(rw[eq_comm,Bool.eq_false_iff];simp only[ne_eq,Bool.and_eq_true,decide_eq_true_eq];rintro⟨⟨⟨h1,h2⟩,h3⟩,h4⟩;first|omega|(rw[h1] at*;simp_all;done))
  |(rw[Bool.eq_iff_iff];simp only[Bool.and_eq_true,decide_eq_true_eq];simp_all;done)
  |(rw[Bool.eq_iff_iff];simp only[Bool.and_eq_true,decide_eq_true_eq];simp_all;omega))
end
end Go.Vc.Z
