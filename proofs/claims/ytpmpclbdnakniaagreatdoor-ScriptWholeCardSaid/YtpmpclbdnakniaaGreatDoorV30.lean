/- Sites that may be. -/
import Derived.Test.YtpmpclbdnakniaaGreatDoorV27
set_option linter.all false
set_option linter.unusedVariables false
set_option linter.unusedSimpArgs false
namespace Go.Vc.Z
open Go Go.Vc Go.Proofs Go.RowKit Go.Pl Go.Lib
structure Site where
 carrier:Int
 first:Int
 count:Int
 sectors:Int
 pages:Int
 frames:Int
deriving Inhabited
abbrev Site.enc(s:Site):List AV:=[.int .i64 s.carrier,.int .i64 s.first,.int .i64 s.count,.int .i64 s.sectors,.int .i64 s.pages,.int .i64 s.frames]
@[irreducible] def Wm(c f n:Int):Bool:=V6 c&&Lm f&&decide (1≤n)&&decide (n≤1000000000 - f)
@[irreducible] def Oq(s:Site):Bool:=Wm s.carrier s.first s.count&&decide (323≤s.sectors∧s.sectors≤4000)&&decide (20≤s.pages∧s.pages≤1000)&&decide (2≤s.frames∧s.frames≤100)
theorem Axm{f:Int}(h:Lm f=true):0≤f∧f≤999999999:=by unfold Lm at h;simpa using h
noncomputable section
set_option maxRecDepth 100000
attribute [local irreducible] inK Utf8.decode Utf8.encode Lib.itoa Pl.worth Pl.allDig
attribute [local irreducible] Lib.join
def Aeo:PC:=PC.fun fun|[.int .i64 n,.int .i64 a,.int .i64 b]=>some (True,.bool (sB (decide (a≤n∧n≤b))))|_=>none
def Hv:PT:=C2 []
theorem Ly{W:World}(hW:Tabs W):Cl (Fw W) Tryz.prog Hv:=As
def F1:FuncId→Option Ctr:=Aw Hv []
theorem Rn{W:World}(hW:Tabs W):Ad (Fw W) Tryz.prog F1:=(Au (Ly hW))
theorem dC{W:World}(hW:Tabs W):GoodP (Fw W) Tryz.prog 248 Aeo:=by
 have hD:=Ly hW
 have hC0:Ad (Fw W) Tryz.prog F1:=(Rn hW)
 refine Az (D:=Hv) (C:=F1) (wr:=(fun _=>false)) rfl Ap hD hC0 Tryz.func248 (fun _ _=>none) ?_
 clear hC0 hD hW
 intro cs p r h hf hp
 split at h
 case h_2=>cases h
 rename_i n a b
 cases h
 try simp only[Ax,Bh,Am,Go.Vc.lo,Go.Vc.hi,and_true] at hf
 (conv=>whnf)
 (repeat' ((first
  |(split<;>rename_i hh<;>(try simp only[wS] at hh))
  |fail)<;>(conv=>whnf)))
 all_goals (try (show _=_;simp only[wQ]))
 ·rw[Ca,cond_true,decide_eq_decide];omega
 ·exact(decide_eq_false (by omega)).symm
def dW:PC:=PC.fun fun|[.agg [.int .i64 c,.int .i64 f,.int .i64 n]]=>some (True,.bool (sB (Wm c f n)))|_=>none
theorem Yh{W:World}(hW:Tabs W):GoodP (Fw W) Tryz.prog 247 dW:=by
 have hD:=Vi hW
 have hC0:Ad (Fw W) Tryz.prog O1:=(oF hW)
 refine Az (D:=O0) (C:=O1) (wr:=(fun _=>false)) rfl Ap hD hC0 Tryz.func247 (fun _ _=>none) ?_
 clear hC0 hD hW
 intro cs p r h hf hp
 split at h
 case h_2=>cases h
 rename_i c f n
 cases h
 try simp only[Ax,Bh,Am,Go.Vc.lo,Go.Vc.hi,and_true] at hf
 (conv=>whnf)
 (repeat' ((first
  |((with_reducible refine aI ?_ ?_);focus (have hq:=Axm ‹Lm f=true›;simp only[Am,Go.Vc.lo,Go.Vc.hi];omega))
  |((with_reducible refine aI ?_ ?_);focus (with_reducible exact⟨⟩))
  |(split<;>rename_i hh<;>(try simp only[wS] at hh))
  |fail)<;>(conv=>whnf)))
 all_goals (try (show _=_;simp only[wQ]))
 all_goals (try simp (disch:=omega) only[Int.tdiv_eq_ediv_of_nonneg,Int.tmod_eq_emod_of_nonneg]);all_goals (first|(simp_all[Cg,Bd,A0,Dr,Ca,Be,Wm,Lm];done)|(simp_all[Cg,Bd,A0,Dr,Ca,Be,Wm,Lm];omega))
theorem Pb{W:World}(hW:Tabs W):GoodP (Fw W) Tryz.prog 294 L9:=by
 have hD:=Ly hW
 have hC0:Ad (Fw W) Tryz.prog F1:=(Rn hW)
 refine Az (D:=Hv) (C:=F1) (wr:=(fun _=>false)) rfl Ap hD hC0 Tryz.func294 (fun _ _=>none) ?_
 clear hC0 hD hW
 intro cs p r h hf hp
 split at h
 case h_2=>cases h
 rename_i c
 cases h
 try simp only[Ax,Bh,Am,Go.Vc.lo,Go.Vc.hi,and_true] at hf
 (conv=>whnf)
 (repeat' ((first
  |(split<;>rename_i hh<;>(try simp only[wS] at hh))
  |fail)<;>(conv=>whnf)))
 all_goals (try (show _=_;simp only[wQ]))
 all_goals (try simp (disch:=omega) only[Int.tdiv_eq_ediv_of_nonneg,Int.tmod_eq_emod_of_nonneg]);all_goals (first|(simp_all[Cg,Bd,A0,Dr,Ca,Be,V6];done)|(simp_all[Cg,Bd,A0,Dr,Ca,Be,V6];omega))
def Ft:PT:=C2 [(294,L9)]
theorem Jc{W:World}(hW:Tabs W):Cl (Fw W) Tryz.prog Ft:=(Ab Tryz.call294 (Pb hW) As)
def Fu:FuncId→Option Ctr:=Aw Ft []
theorem Q8{W:World}(hW:Tabs W):Ad (Fw W) Tryz.prog Fu:=(Au (Jc hW))
theorem Q9{W:World}(hW:Tabs W):GoodP (Fw W) Tryz.prog 250 dW:=by
 have hD:=Jc hW
 have hC0:Ad (Fw W) Tryz.prog Fu:=(Q8 hW)
 refine Az (D:=Ft) (C:=Fu) (wr:=(fun _=>false)) rfl Ap hD hC0 Tryz.func250 (fun _ _=>none) ?_
 clear hC0 hD hW
 intro cs p r h hf hp
 split at h
 case h_2=>cases h
 rename_i c f n
 cases h
 try simp only[Ax,Bh,Am,Go.Vc.lo,Go.Vc.hi,and_true] at hf
 (conv=>whnf)
 (repeat' ((first
  |((with_reducible refine aI ?_ ?_);focus (first|with_reducible exact⟨⟩|exact tK))
  |(split<;>rename_i hh<;>(try simp only[wS] at hh))
  |fail)<;>(conv=>whnf)))
 all_goals (try (show _=_;simp only[wQ]))
 all_goals (try simp (disch:=omega) only[Int.tdiv_eq_ediv_of_nonneg,Int.tmod_eq_emod_of_nonneg]);all_goals (first|(simp_all[Cg,Bd,A0,Dr,Ca,Be,Wm,Lm];done)|(simp_all[Cg,Bd,A0,Dr,Ca,Be,Wm,Lm];omega))
def zT:PC:=PC.of (fun s:Site=>[.agg s.enc]) (fun _=>True) (fun s=>.bool (sB (Oq s)))
def Ra:PT:=C2 [(247,dW),(248,Aeo)]
theorem Yi{W:World}(hW:Tabs W):Cl (Fw W) Tryz.prog Ra:=(Ab Tryz.call247 (Yh hW) (Ab Tryz.call248 (dC hW) As))
def Rb:FuncId→Option Ctr:=Aw Ra []
theorem zU{W:World}(hW:Tabs W):Ad (Fw W) Tryz.prog Rb:=(Au (Yi hW))
theorem zV{W:World}(hW:Tabs W):GoodP (Fw W) Tryz.prog 181 zT:=by
 have hD:=Yi hW
 have hC0:∀ s:Site,Ad (Fw W) Tryz.prog Rb:=fun s=>(zU hW)
 refine Ar (D:=Ra) (C:=fun s=>Rb) (wr:=(fun _=>false)) rfl Ap hD hC0 Tryz.func181 (fun _ _=>none) (fun _=>rfl) ?_
 intro s hf hp
 clear hf
 (conv=>whnf)
 (repeat' ((first
  |((with_reducible refine aI ?_ ?_);focus (with_reducible exact⟨⟩))
  |(split<;>rename_i hh<;>(try simp only[wS] at hh))
  |fail)<;>(conv=>whnf)))
 all_goals (try (show _=_;simp only[wQ]))
 all_goals (
  unfold Oq
  try simp only[Ca,cond_true]
  first
  |(rw[eq_comm,Bool.eq_false_iff];simp only[ne_eq,Bool.and_eq_true,decide_eq_true_eq];rintro⟨⟨⟨h1,h2⟩,h3⟩,h4⟩;first|omega|(rw[h1] at*;simp_all;done))
  |(rw[Bool.eq_iff_iff];simp only[Bool.and_eq_true,decide_eq_true_eq];simp_all;done)
  |(rw[Bool.eq_iff_iff];simp only[Bool.and_eq_true,decide_eq_true_eq];simp_all;omega))
def Jd:PT:=C2 [(250,dW)]
theorem Ot{W:World}(hW:Tabs W):Cl (Fw W) Tryz.prog Jd:=(Ab Tryz.call250 (Q9 hW) As)
def Je:FuncId→Option Ctr:=Aw Jd []
theorem Yj{W:World}(hW:Tabs W):Ad (Fw W) Tryz.prog Je:=(Au (Ot hW))
theorem Yk{W:World}(hW:Tabs W):GoodP (Fw W) Tryz.prog 183 zT:=by
 have hD:=Ot hW
 have hC0:∀ s:Site,Ad (Fw W) Tryz.prog Je:=fun s=>(Yj hW)
 refine Ar (D:=Jd) (C:=fun s=>Je) (wr:=(fun _=>false)) rfl Ap hD hC0 Tryz.func183 (fun _ _=>none) (fun _=>rfl) ?_
 intro s hf hp
 clear hf
 (conv=>whnf)
 (repeat' ((first
  |((with_reducible refine aI ?_ ?_);focus (with_reducible exact⟨⟩))
  |(split<;>rename_i hh<;>(try simp only[wS] at hh))
  |fail)<;>(conv=>whnf)))
 all_goals (try (show _=_;simp only[wQ]))
 all_goals (
  unfold Oq
  try simp only[Ca,cond_true]
  first
  |(rw[eq_comm,Bool.eq_false_iff];simp only[ne_eq,Bool.and_eq_true,decide_eq_true_eq];rintro⟨⟨⟨h1,h2⟩,h3⟩,h4⟩;first|omega|(rw[h1] at*;simp_all;done))
  |(rw[Bool.eq_iff_iff];simp only[Bool.and_eq_true,decide_eq_true_eq];simp_all;done)
  |(rw[Bool.eq_iff_iff];simp only[Bool.and_eq_true,decide_eq_true_eq];simp_all;omega))
end
end Go.Vc.Z
