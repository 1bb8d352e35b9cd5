/- Requests: may the one be that is looked at in each statement? -/
import Derived.Test.YtpmpclbdnakniaaGreatDoorV12
import Derived.Test.YtpmpclbdnakniaaGreatDoorV9
set_option linter.all false
namespace Go.Vc.Z
open Go Go.Vc Go.Proofs Go.RowKit Go.Pl Go.Lib
noncomputable section
set_option maxRecDepth 100000
attribute [local irreducible] inK Utf8.decode Utf8.encode Lib.itoa Pl.worth Pl.allDig
attribute [local irreducible] Lib.join
def isKey(c:UInt8):Bool:=(decide (97≤c.toNat)&&decide (c.toNat≤122)) || (decide (48≤c.toNat)&&decide (c.toNat≤57))
theorem Rc{c:UInt8}:isKey c=true↔(97≤c.toNat∧c.toNat≤122)∨(48≤c.toNat∧c.toNat≤57):=by simp[isKey]
@[irreducible] def F3(s:List UInt8):Bool:=s.all isKey&&decide (1≤s.length)&&decide (s.length≤16)
def Uv:PC:=PC.fun fun|[.str s]=>some (True,.bool (sB (F3 s)))|_=>none
def A8p(s:List UInt8):LoopSpec:={
 α:=Nat
 keep:=[0,6]
 vals i:=[.str s,.iter 0]
 heap i:=[.iter s i]
 ok i:=i≤s.length∧(s.take i).all isKey=true
 μ i:=s.length - i }
def cL:List AV→Nat→Option LR:=fun cs i=>match cs with|[.str s]=>cond (Nat.beq i 2) (some (.inv (A8p s))) (none)|_=>none
theorem Re{W:World}(hW:Tabs W):GoodP (Fw W) Tryz.prog 275 Uv:=by
 have hD:=A9 hW;have hC0:Ad (Fw W) Tryz.prog Am:=(Ba hW);refine Au (D:=A8) (C:=Am) (wr:=(fun _=>false)) rfl Ao hD hC0 Tryz.func275 (cL) ?_;clear hC0 hD hW;intro cs p r h hf hp;split at h
 case h_2=>cases h
 rename_i s;cases h;try simp only[Az,Bd,Aw,Go.Vc.lo,Go.Vc.hi,and_true] at hf
 (conv=>whnf)
 refine⟨?_,fun(i:Nat) (hi:i≤s.length∧(s.take i).all isKey=true)=>?_⟩
 ·(conv=>whnf)
  refine⟨(0:Nat),[],?_,⟨⟨rfl,(nB rfl),rfl⟩,?_,?_⟩⟩
  ·exact⟨Nat.zero_le _,by simp⟩
  ·exact tL
  ·exact tL
 ·obtain⟨h1,h2⟩:=hi;have hk:i<s.length→((97≤Bg s i∧Bg s i≤122)∨(48≤Bg s i∧Bg s i≤57))→isKey (s.getD i 0)=true∧Ai s i=1:=fun h hc=>by
   rcases Dy h with ⟨h6,h7,h8⟩|⟨h6,h7⟩
   ·exact⟨Rc.2 (by omega),h7⟩
   ·omega
  have hn:i<s.length→¬((97≤Bg s i∧Bg s i≤122)∨(48≤Bg s i∧Bg s i≤57))→F3 s=false:=fun h hc=>by
   unfold F3;rw[N4 h (by
    rcases Dy h with ⟨h6,h7,h8⟩|⟨h6,h7⟩
    ·exact Bool.eq_false_iff.2 fun h=>by have:=Rc.1 h;omega
    ·exact Bool.eq_false_iff.2 fun h=>by have:=Rc.1 h;omega)]
   rfl
  have hst:=Ie (p:=isKey) (l:=s) (i:=i);have hfin:s.length≤i→F3 s=(decide (1≤s.length)&&decide (s.length≤16)):=fun h=>by
   rw[List.take_of_length_le h] at h2;unfold F3;rw[h2,Bool.true_and]
  (conv=>whnf)
  (repeat' (first|split<;>rename_i hh<;>try simp only[wS] at hh|with_reducible refine lnI fun hln=>?_)<;>conv=>whnf)
  all_goals try(show _=_;simp only[wQ])
  all_goals try (rw[hn (by omega) (by omega)];done)
  all_goals try (
   obtain⟨h6,h7⟩:=hk (by omega) (by omega)
   (conv=>whnf)
   refine⟨(i+1:Nat),[],?_,⟨⟨rfl,(nB rfl),rfl⟩,?_,?_⟩⟩
   ·exact⟨⟨show i+1≤s.length by omega,by rw[hst (by omega),h2,h6];rfl⟩,show s.length - (i+1)<s.length - i by omega⟩
   ·exact tL
   ·(conv=>whnf)
    (repeat' (first|with_reducible exact⟨⟩|refine tuA ?_|with_reducible refine iB ?_ ?_)<;>conv=>whnf)
    all_goals (try first|omega)
    all_goals (rw[h7])
   done)
  all_goals (rw[hfin (by omega)];first|(rw[B7,decide_eq_true (show 1≤s.length by omega),Bool.true_and];exact decide_eq_decide.2 ⟨fun h=>by omega,fun h=>by omega⟩)|(rw[decide_eq_false (show¬1≤s.length by omega)];rfl))
theorem Aqg{k f d u st m g j k' f' d' u' st' m' g' j':Int}{a b a' b':List UInt8}:eqA TY 12 244 (.agg [.int .i64 k,.str a,.str b,.int .i64 f,.int .i64 d,.int .u64 u,.int .i64 st,.int .i64 m,.int .i64 g,.int .i64 j]) (.agg [.int .i64 k',.str a',.str b',.int .i64 f',.int .i64 d',.int .u64 u',.int .i64 st',.int .i64 m',.int .i64 g',.int .i64 j'])=some (k == k'&&(a == a'&&(b == b'&&(f == f'&&(d == d'&&(u == u'&&(st == st'&&(m == m'&&(g == g'&&(j == j')))))))))):=by
 have e244:TY 244=some Akj:=rfl;have e54:TY 54=some Aty:=rfl;have e9:TY 9=some ty9:=rfl;have e3:TY 3=some ty3:=rfl;have e2:TY 2=some ty2:=rfl;have e43:TY 43=some rM:=rfl;have e37:TY 37=some rL:=rfl;simp[eqA,Adb,e244,e54,e9,e3,e2,e43,e37,Akj,Aty,ty9,ty3,ty2,rM,rL,Ns,Ca]
theorem cM{k f d u st m g j k' f' d' u' st' m' g' j':Int}{a b a' b':List UInt8}{N:Bool→Prop}(hN:N (k == k'&&(a == a'&&(b == b'&&(f == f'&&(d == d'&&(u == u'&&(st == st'&&(m == m'&&(g == g'&&(j == j'))))))))))):Io (eqA TY 12 244 (.agg [.int .i64 k,.str a,.str b,.int .i64 f,.int .i64 d,.int .u64 u,.int .i64 st,.int .i64 m,.int .i64 g,.int .i64 j]) (.agg [.int .i64 k',.str a',.str b',.int .i64 f',.int .i64 d',.int .u64 u',.int .i64 st',.int .i64 m',.int .i64 g',.int .i64 j'])) N:=by
 rw[Aqg];exact hN
def c7:Coupon:=⟨7,9,1000,0,0,0⟩
end
end Go.Vc.Z
namespace Go.Vc.Z
open Go Go.Vc Go.Proofs Go.RowKit Go.Pl Go.Lib
theorem L0{n:Int}(h0:0≤n)(h:n<10):Lib.itoa n=[UInt8.ofNat (48+n.toNat)]:=by
 unfold Lib.itoa;rw[if_neg (by omega),decDigits_one (by omega)]
theorem Ajl:Bi ⟨7,9,1000,0,0,0⟩=[55,64,57,61,49,48,46,48,48]:=by
 unfold Bi Cp C4 Gj Bl;simp only[L0 (n:=7) (by decide) (by decide),L0 (n:=9) (by decide) (by decide)]
 rw[show Lib.decDigits (1000 / 10 / 10:Int).toNat=[49,48] from decDigits_two (by decide) (by decide)]
 rfl
theorem Ajm:Bm []=[45]:=by unfold Bm;rfl
noncomputable section
set_option maxRecDepth 100000
attribute [local irreducible] inK Utf8.decode Utf8.encode Lib.itoa Pl.worth Pl.allDig
attribute [local irreducible] Lib.join
def Aky:List UInt8:=[105,115,115,117,101,32,107,55,32,51,32,65,66,67,50,51,52,32,55,64,57,61,49,48,46,48,48,32,45]
end
end Go.Vc.Z
namespace Go.Vc.Z
open Go Go.Vc Go.Proofs Go.RowKit Go.Pl Go.Lib
def Aci:List (List UInt8):=[[99,114,97,115,104],Lib.itoa 1,Lib.itoa 4,Lib.itoa (-1)]
theorem At8:Lib.itoa (-1)=[45,49]:=by
 unfold Lib.itoa;rw[if_pos (by decide)]
 rw[show(-1:Int).natAbs=1 from rfl,decDigits_one (by decide)];rfl
theorem Azd:Lib.join Aci [32]=[99,114,97,115,104,32,49,32,52,32,45,49]:=by
 unfold Aci;rw[At8,L0 (n:=1) (by decide) (by decide),L0 (n:=4) (by decide) (by decide)];rfl
theorem A0t:(Lib.join Aci [32]).length≤140737488355328:=by rw[Azd];decide
noncomputable section
set_option maxRecDepth 100000
attribute [local irreducible] inK Utf8.decode Utf8.encode Lib.itoa Pl.worth Pl.allDig
attribute [local irreducible] Lib.join
def A5p:Bool→AV
 |true=>.agg [.int .i64 1,.int .i64 0,.str [107,55],.int .i64 1,.int .i64 3,.int .u64 0,.int .i64 0,.int .i64 0,.str [65,66,67,50,51,52],slE 6 Coupon.enc [c7],.nilsl,.int .i64 0,.int .i64 0,.int .i64 0,.int .i64 0,.nilsl,.bool false]
 |false=>.agg [.int .i64 4,.int .i64 1,.str [],.int .i64 0,.int .i64 0,.int .u64 0,.int .i64 0,.int .i64 0,.str [],.nilsl,.nilsl,.int .i64 0,.int .i64 0,.int .i64 0,.int .i64 0,.sl false 1 2 (fun e=>[.int .i64 (([4, -1]:List Int).getD e 0)]),.bool false]
def Aqh:PC:=PC.of (fun b:Bool=>[A5p b]) (fun _=>True) (fun _=>.bool (sB true))
def Aqi:Bool→List UInt8
 |true=>[100,111,32,48,32]++Aky
 |false=>[99,114,97,115,104,32,49,32,52,32,45,49]
def Aqj:PC:=PC.of (fun b:Bool=>[A5p b]) (fun _=>True) (fun b=>.str (sS (Aqi b)))
end
end Go.Vc.Z
namespace Go.Vc.Z
open Go Go.Vc Go.Proofs Go.RowKit Go.Pl Go.Lib
def Aex:Told:=⟨⟨6,[],[],[]⟩,0,0⟩
noncomputable section
set_option maxRecDepth 100000
attribute [local irreducible] inK Utf8.decode Utf8.encode Lib.itoa Pl.worth Pl.allDig
attribute [local irreducible] Lib.join
def Akz:PC:=PC.fun fun|[]=>some (True,.bool (sB true))|_=>none
end
end Go.Vc.Z
namespace Go.Vc.Z
open Go Go.Vc Go.Proofs Go.RowKit Go.Pl Go.Lib
noncomputable section
set_option maxRecDepth 100000
attribute [local irreducible] inK Utf8.decode Utf8.encode Lib.itoa Pl.worth Pl.allDig
attribute [local irreducible] Lib.join
end
end Go.Vc.Z
namespace Go.Vc.Z
open Go Go.Vc Go.Proofs Go.RowKit Go.Pl Go.Lib
noncomputable section
set_option maxRecDepth 100000
attribute [local irreducible] inK Utf8.decode Utf8.encode Lib.itoa Pl.worth Pl.allDig
attribute [local irreducible] Lib.join
open Classical in
@[irreducible] def cEq(a b:Coupon):Bool:=decide (a=b)
theorem Zs{a b:Coupon}:cEq a b=true↔a=b:=by unfold cEq;simp
open Classical in
@[irreducible] def xEq(a b:Tax):Bool:=decide (a=b)
theorem Zt{a b:Tax}:xEq a b=true↔a=b:=by unfold xEq;simp
theorem At9(k:Nat)(c m c' m':Int):eqA TY (k+3) 113 (.agg [.int .i64 c,.int .i64 m]) (.agg [.int .i64 c',.int .i64 m'])=some (c == c'&&m == m'):=by
 have e1:TY 113=some eB:=rfl;have e3:TY 3=some ty3:=rfl;have e2:TY 2=some ty2:=rfl;simp[eqA,Adb,e1,e3,e2,eB,ty3,ty2,Ns,Ca]
theorem Aey{k:Nat}{c d:Coupon}{N:Bool→Prop}(hN:N (cEq c d)):Io (eqA TY (k+3) 45 (.agg [.int .i64 c.flight,.int .i64 c.day,.int .i64 c.value,.int .i64 c.status,.int .i64 c.holder,.int .u64 c.next]) (.agg [.int .i64 d.flight,.int .i64 d.day,.int .i64 d.value,.int .i64 d.status,.int .i64 d.holder,.int .u64 d.next])) N:=by
 rw[kK];have:cEq c d=(c.flight == d.flight&&(c.day == d.day&&(c.value == d.value&&(c.status == d.status&&(c.holder == d.holder&&c.next == d.next))))):=by
  cases c;cases d;rw[Bool.eq_iff_iff,Zs];simp
 rw[this] at hN;exact hN
theorem Aez{k:Nat}{c d:Tax}{N:Bool→Prop}(hN:N (xEq c d)):Io (eqA TY (k+3) 113 (.agg [.int .i64 c.code,.int .i64 c.amount]) (.agg [.int .i64 d.code,.int .i64 d.amount])) N:=by
 rw[At9];have:xEq c d=(c.code == d.code&&c.amount == d.amount):=by
  cases c;cases d;rw[Bool.eq_iff_iff,Zt];simp
 rw[this] at hN;exact hN
theorem Jr{α:Type}[Inhabited α]:∀ {l m:List α},l.length=m.length→(∀ j,j<l.length→l.getD j default=m.getD j default)→l=m
 |[],[],_,_=>rfl
 |[],_::_,h,_=>by simp at h
 |_::_,[],h,_=>by simp at h
 |a::l,b::m,h,hj=>by
  have h0:a=b:=hj 0 (by simp)
  have:=Jr (l:=l) (m:=m) (by simpa using h) (fun j hl=>by
   have:=hj (j+1) (by simp;omega)
   exact this)
  rw[h0,this]
end
end Go.Vc.Z
namespace Go.Vc.Z
open Go Go.Vc Go.Proofs Go.RowKit Go.Pl Go.Lib
structure Request where
 key:List UInt8
 kind:Int
 day:Int
 ticket:Int
 coupon:Int
 status:Int
 locator:List UInt8
 coupons:List Coupon
 taxes:List Tax
 amount:Int
 frm:Int
 til:Int
deriving Inhabited
abbrev Request.enc(r:Request):List AV:=[.str r.key,.int .i64 r.kind,.int .i64 r.day,.int .u64 r.ticket,.int .i64 r.coupon,.int .i64 r.status,.str r.locator,slE 6 Coupon.enc r.coupons,slE 2 Tax.enc r.taxes,.int .i64 r.amount,.int .i64 r.frm,.int .i64 r.til]
noncomputable section
set_option maxRecDepth 100000
attribute [local irreducible] inK Utf8.decode Utf8.encode Lib.itoa Pl.worth Pl.allDig
attribute [local irreducible] Lib.join
def Zu(k:Int):List UInt8:=cond (eqI k 1) [75,68,76,74,88] (cond (eqI k 2) [75,68,84,78,83] (cond (eqI k 3) [75,68,84] (cond (eqI k 4) [75,68,84,65] (cond (eqI k 5) [75,68,84,65,67,88] (cond (eqI k 6) [75,68,84,78] (cond (eqI k 7) [75,68,84,78] (cond (eqI k 8) [84] (cond (eqI k 9) [76] (cond (eqI k 10) [82] [])))))))))
theorem Ak0{k:Int}(h: ¬(1≤k∧k≤10)):Zu k=[]:=by
 unfold Zu;have e:∀ m:Int,1≤m→m≤10→eqI k m=false:=fun m h1 h2=>by
  rw[Ca,beq_eq_false_iff_ne];omega
 simp only[e 1 (by decide) (by decide),e 2 (by decide) (by decide),e 3 (by decide) (by decide),e 4 (by decide) (by decide),e 5 (by decide) (by decide),e 6 (by decide) (by decide),e 7 (by decide) (by decide),e 8 (by decide) (by decide),e 9 (by decide) (by decide),e 10 (by decide) (by decide),cond_false]
theorem kinds{k:Int}(h:1≤k∧k≤10):k=1∨k=2∨k=3∨k=4∨k=5∨k=6∨k=7∨k=8∨k=9∨k=10:=by omega
def Ae0:PC:=PC.fun fun|[.int .i64 e]=>some (True,.str (Zu e))|_=>none
theorem Gv{W:World}(hW:Tabs W):GoodP (Fw W) Tryz.prog 75 Ae0:=by
 have hD:=A9 hW;have hC0:Ad (Fw W) Tryz.prog Am:=(Ba hW);refine Au (D:=A8) (C:=Am) (wr:=(fun _=>false)) rfl Ao hD hC0 Tryz.func75 (fun _ _=>none) ?_;clear hC0 hD hW;intro cs p r h hf hp;split at h
 case h_2=>cases h
 rename_i e;cases h;try simp only[Az,Bd,Aw,Go.Vc.lo,Go.Vc.hi,and_true] at hf
 by_cases h:1≤e∧e≤10
 ·rcases kinds h with rfl|rfl|rfl|rfl|rfl|rfl|rfl|rfl|rfl|rfl;all_goals (
   (conv=>whnf)
   (repeat' (first|refine tuU ?_|with_reducible refine lnI fun hln=>?_)<;>conv=>whnf)
   all_goals try(show _=_;simp only[wQ])
   )
  all_goals rfl
 ·clear hf
  (conv=>whnf)
  (repeat' (first|refine tuU ?_|split<;>rename_i hh<;>try simp only[wS] at hh|with_reducible refine lnI fun hln=>?_)<;>conv=>whnf)
  all_goals try(show _=_;simp only[wQ])
  all_goals try (rw[Ak0 h];done)
  all_goals (exfalso;omega)
def Dd:List (List UInt8):=[[105,115,115,117,101],[109,111,118,101],[118,111,105,100],[114,101,102,117,110,100],[101,120,99,104,97,110,103,101],[97,115,107],[114,101,116,117,114,110],[115,104,111,119],[102,105,110,100],[114,101,112,111,114,116]]
def Acj:PC:=PC.fun fun|[]=>some (True,.sl false 1 10 (fun e=>[.str (Dd.getD e [])]))|_=>none
theorem M4{W:World}(hW:Tabs W):GoodP (Fw W) Tryz.prog 80 Acj:=by
 have hD:=A9 hW;have hC0:Ad (Fw W) Tryz.prog Am:=(Ba hW);refine Au (D:=A8) (C:=Am) (wr:=(fun _=>false)) rfl Ao hD hC0 Tryz.func80 (fun _ _=>none) ?_;clear hC0 hD hW;intro cs p r h hf hp;split at h
 case h_2=>cases h
 skip
 cases h;try simp only[Az,Bd,Aw,Go.Vc.lo,Go.Vc.hi,and_true] at hf
 (conv=>whnf)
 (repeat' (first|refine tuU ?_)<;>conv=>whnf)
 intro e he;match e,he with
 |0,_=>first|rfl|exact⟨rfl,rfl⟩
 |1,_=>first|rfl|exact⟨rfl,rfl⟩
 |2,_=>first|rfl|exact⟨rfl,rfl⟩
 |3,_=>first|rfl|exact⟨rfl,rfl⟩
 |4,_=>first|rfl|exact⟨rfl,rfl⟩
 |5,_=>first|rfl|exact⟨rfl,rfl⟩
 |6,_=>first|rfl|exact⟨rfl,rfl⟩
 |7,_=>first|rfl|exact⟨rfl,rfl⟩
 |8,_=>first|rfl|exact⟨rfl,rfl⟩
 |9,_=>first|rfl|exact⟨rfl,rfl⟩
 |e+10,he=>exact absurd he (by omega)
def A5q(s:List UInt8):LoopSpec:={
 α:=Nat
 keep:=[0,3]
 vals i:=[.str s,.int .i64 i]
 heap _:=[]
 ok i:=i≤s.length∧(s.take i).all isKey=true
 μ i:=s.length - i }
def Uw:List AV→Nat→Option LR:=fun cs i=>match cs with|[.str s]=>cond (Nat.beq i 2) (some (.inv (A5q s))) (none)|_=>none
theorem Ux{W:World}(hW:Tabs W):GoodP (Fw W) Tryz.prog 165 Uv:=by
 have hD:=A9 hW;have hC0:Ad (Fw W) Tryz.prog Am:=(Ba hW);refine Au (D:=A8) (C:=Am) (wr:=(fun _=>false)) rfl Ao hD hC0 Tryz.func165 (Uw) ?_;clear hC0 hD hW;intro cs p r h hf hp;split at h
 case h_2=>cases h
 rename_i s;cases h;try simp only[Az,Bd,Aw,Go.Vc.lo,Go.Vc.hi,and_true] at hf
 (conv=>whnf)
 refine⟨?_,fun(i:Nat) (hi:i≤s.length∧(s.take i).all isKey=true)=>?_⟩
 ·(conv=>whnf)
  refine⟨(0:Nat),[],?_,⟨⟨rfl,(nB rfl),rfl⟩,?_,?_⟩⟩
  ·exact⟨Nat.zero_le _,by simp⟩
  ·exact Ac _
  ·exact tL
 ·obtain⟨h1,h2⟩:=hi;have hk:i<s.length→((97≤((s.getD (Int.toNat (i:Int)) 0).toNat:Int)∧((s.getD (Int.toNat (i:Int)) 0).toNat:Int)≤122)∨(48≤((s.getD (Int.toNat (i:Int)) 0).toNat:Int)∧((s.getD (Int.toNat (i:Int)) 0).toNat:Int)≤57))→isKey (s.getD i 0)=true:=fun h hc=>Rc.2 (by
   have hc':((97≤((s.getD i 0).toNat:Int)∧((s.getD i 0).toNat:Int)≤122)∨(48≤((s.getD i 0).toNat:Int)∧((s.getD i 0).toNat:Int)≤57)):=hc;omega)
  have hn:i<s.length→¬((97≤((s.getD (Int.toNat (i:Int)) 0).toNat:Int)∧((s.getD (Int.toNat (i:Int)) 0).toNat:Int)≤122)∨(48≤((s.getD (Int.toNat (i:Int)) 0).toNat:Int)∧((s.getD (Int.toNat (i:Int)) 0).toNat:Int)≤57))→F3 s=false:=fun h hc=>by
   unfold F3;rw[N4 h (Bool.eq_false_iff.2 fun h=>by
    have h':=Rc.1 h;have hc': ¬((97≤((s.getD i 0).toNat:Int)∧((s.getD i 0).toNat:Int)≤122)∨(48≤((s.getD i 0).toNat:Int)∧((s.getD i 0).toNat:Int)≤57)):=hc;omega)]
   rfl
  have hst:=Ie (p:=isKey) (l:=s) (i:=i);have hfin:s.length≤i→F3 s=(decide (1≤s.length)&&decide (s.length≤16)):=fun h=>by
   rw[List.take_of_length_le h] at h2;unfold F3;rw[h2,Bool.true_and]
  (conv=>whnf)
  (repeat' (first|refine tuU ?_|split<;>rename_i hh<;>try simp only[wS] at hh|with_reducible refine lnI fun hln=>?_)<;>conv=>whnf)
  all_goals try(show _=_;simp only[wQ])
  all_goals try (rw[hn (by omega) (by omega)];done)
  all_goals try (
   have h6:=hk (by omega) (by omega)
   (conv=>whnf)
   refine⟨(i+1:Nat),[],?_,⟨⟨rfl,(nB rfl),rfl⟩,?_,?_⟩⟩
   ·exact⟨⟨show i+1≤s.length by omega,by rw[hst (by omega),h2,h6];rfl⟩,show s.length - (i+1)<s.length - i by omega⟩
   ·exact Ac _
   ·exact tL
   done)
  all_goals (rw[hfin (by omega)];first|(rw[B7,decide_eq_true (show 1≤s.length by omega),Bool.true_and];exact decide_eq_decide.2 ⟨fun h=>by omega,fun h=>by omega⟩)|(rw[decide_eq_false (show¬1≤s.length by omega)];rfl))
@[irreducible] def E5(most:Int)(l:List Coupon):Bool:=l.all (fun c=>Gg c 0)&&decide (1≤l.length)&&decide ((l.length:Int)≤most)
def Ak1:PC:=PC.of (fun x:List Coupon × Int=>[slE 6 Coupon.enc x.1,.int .i64 x.2]) (fun _=>True) (fun x=>.bool (sB (E5 x.2 x.1)))
def LCo(l:List Coupon)(m:Int):LoopSpec:={
 α:=Nat
 keep:=[0,1,5]
 vals i:=[slE 6 Coupon.enc l,.int .i64 m,.int .i64 i]
 heap _:=[]
 ok i:=i≤l.length∧∀ j,j<i→Gg (l.getD j default) 0=true
 μ i:=l.length - i }
theorem A0u{α:Type}[Inhabited α]{p:α→Bool}{l:List α}(h:∀ j,j<l.length→p (l.getD j default)=true):l.all p=true:=by
 refine List.all_eq_true.2 fun x hx=>?_;obtain⟨i,hi,rfl⟩:=List.getElem_of_mem hx;have:=h i hi;rw[List.getD_eq_getElem?_getD,List.getElem?_eq_getElem hi] at this;exact this
theorem Ajn{α:Type}[Inhabited α]{p:α→Bool}{l:List α}{i:Nat}(hi:i<l.length)(h:p (l.getD i default)=false):l.all p=false:=by
 refine Bool.eq_false_iff.2 fun ha=>?_;rw[List.getD_eq_getElem?_getD,List.getElem?_eq_getElem hi] at h;have:=List.all_eq_true.1 ha _ (List.getElem_mem hi);rw[show(some l[i]).getD default=l[i] from rfl,this] at h;cases h
def E3:PT:=Cg [(70,Akt)]
theorem Ih{W:World}(hW:Tabs W):Cb (Fw W) Tryz.prog E3:=(Ab Tryz.call70 (W3 hW) Aq)
def E4:FuncId→Option Ctr:=Av E3 []
theorem Qh{W:World}(hW:Tabs W):Ad (Fw W) Tryz.prog E4:=(Ar (Ih hW))
def Qi:List Coupon × Int→Nat→Option LR:=fun x i=>cond (Nat.beq i 2) (some (.inv (LCo x.1 x.2))) (none)
theorem Qj{W:World}(hW:Tabs W):GoodP (Fw W) Tryz.prog 166 Ak1:=by
 have hD:=Ih hW;have hC0:∀ x:List Coupon × Int,Ad (Fw W) Tryz.prog E4:=fun x=>(Qh hW);refine As (D:=E3) (C:=fun x=>E4) (wr:=(fun _=>false)) rfl Ao hD hC0 Tryz.func166 (Qi) (fun _=>rfl) ?_;rintro⟨l,m⟩ hf hp;clear hf
 (conv=>whnf)
 refine⟨?_,fun(i:Nat) hi=>?_⟩
 ·(conv=>whnf)
  refine⟨(0:Nat),[],?_,⟨⟨rfl,(nB rfl),rfl⟩,?_,?_⟩⟩
  ·exact⟨Nat.zero_le _,fun j hj=>absurd hj (Nat.not_lt_zero _)⟩
  ·exact Ac _
  ·exact tL
 ·obtain⟨h1,h2⟩:=hi;have h1:i≤l.length:=h1
  (conv=>whnf)
  (repeat' (first|refine tuU ?_|split<;>rename_i hh<;>try simp only[wS] at hh|with_reducible refine lnI fun hln=>?_)<;>conv=>whnf)
  all_goals try(show _=_;simp only[wQ])
  refine⟨(l.getD (Int.toNat (i:Int)) default,(0:Int)),True.intro,?_,?_⟩
  ·exact Ac _
  (conv=>whnf)
  (repeat' (first|refine tuU ?_|split<;>rename_i hh<;>try simp only[wS] at hh)<;>conv=>whnf)
  all_goals try(show _=_;simp only[wQ])
  ·have:l.all (fun c=>Gg c 0)=false:=Ajn (i:=i) (by omega) (by assumption)
   unfold E5;rw[this];rfl
  ·(conv=>whnf)
   refine⟨(i+1:Nat),[],?_,⟨⟨rfl,(nB rfl),rfl⟩,?_,?_⟩⟩
   ·refine⟨⟨show i+1≤l.length by omega,fun j hj=>?_⟩,show l.length - (i+1)<l.length - i by omega⟩
    have hj:j<i+1:=hj;by_cases he:j=i
    ·subst he;assumption
    ·exact h2 j (by omega)
   ·exact Ac _
   ·exact tL
  all_goals (
   have:l.all (fun c=>Gg c 0)=true:=A0u fun j hj=>h2 j (by omega)
   unfold E5;rw[this];simp only[Bool.true_and,B7])
  all_goals first|(rw[decide_eq_true (show 1≤l.length by omega),Bool.true_and];rfl)|(rw[decide_eq_false (show¬1≤l.length by omega)];rfl)
def LTx(l:List Tax):LoopSpec:={
 α:=Nat
 keep:=[0,3]
 vals i:=[slE 2 Tax.enc l,.int .i64 i]
 heap _:=[]
 ok i:=i≤l.length∧(0<i→1≤(l.getD (i - 1) default).code)∧Co (if i=0 then 1 else(l.getD (i - 1) default).code+1) (l.drop i)=Co 1 l
 μ i:=l.length - i }
def F4:PT:=Cg [(139,Acb)]
theorem Js{W:World}(hW:Tabs W):Cb (Fw W) Tryz.prog F4:=(Ab Tryz.call139 (Iq hW) Aq)
def F5:FuncId→Option Ctr:=Av F4 []
theorem Sm{W:World}(hW:Tabs W):Ad (Fw W) Tryz.prog F5:=(Ar (Js hW))
def Sn:List Tax→Nat→Option LR:=fun l i=>cond (Nat.beq i 2) (some (.inv (LTx l))) (none)
theorem Sp{W:World}(hW:Tabs W):GoodP (Fw W) Tryz.prog 167 Aks:=by
 have hD:=Js hW;have hC0:∀ l:List Tax,Ad (Fw W) Tryz.prog F5:=fun l=>(Sm hW);refine As (D:=F4) (C:=fun l=>F5) (wr:=(fun _=>false)) rfl Ao hD hC0 Tryz.func167 (Sn) (fun _=>rfl) ?_;intro l hf hp;have hbad:∀ (h:(Co 1 l=true→False)),false=C0 l:=fun h=>by
  symm;refine Bool.eq_false_iff.2 fun hm=>?_;unfold C0 at hm;simp only[Bool.and_eq_true,decide_eq_true_eq] at hm;exact h hm.1
 (conv=>whnf)
 refine⟨?_,fun(k:Nat) hk=>?_⟩
 ·(conv=>whnf)
  refine⟨(0:Nat),[],?_,⟨⟨rfl,(nB rfl),rfl⟩,?_,?_⟩⟩
  ·exact⟨Nat.zero_le _,fun h=>absurd h (by omega),rfl⟩
  ·exact Ac _
  ·exact tL
 ·obtain⟨g1,g2,g3⟩:=hk;have g1:k≤l.length:=g1;have e1:Int.toNat ((k:Int) - 1)=k - 1:=by omega
  have hd2:k<l.length→Co 1 l=true→((0<k→(l.getD (Int.toNat ((k:Int) - 1)) default).code+1≤(l.getD (Int.toNat (k:Int)) default).code)∧(k=0→1≤(l.getD (Int.toNat (k:Int)) default).code))∧(l.getD (Int.toNat (k:Int)) default).code≤99∧C2 (l.getD (Int.toNat (k:Int)) default).amount=true:=fun h h2=>by
   rw[←g3,tV h] at h2;simp only[Co,Bool.and_eq_true,decide_eq_true_eq] at h2;obtain⟨⟨⟨b1,b2⟩,b3⟩,b4⟩:=h2;rw[e1];refine⟨⟨fun hk=>?_,fun hk=>?_⟩,b2,b3⟩
   ·rw[if_neg (by omega)] at b1;exact b1
   ·rw[if_pos hk] at b1;exact b1
  have hd3:k<l.length→(0<k→(l.getD (Int.toNat ((k:Int) - 1)) default).code<(l.getD (Int.toNat (k:Int)) default).code)→1≤(l.getD (Int.toNat (k:Int)) default).code→(l.getD (Int.toNat (k:Int)) default).code≤99→C2 (l.getD (Int.toNat (k:Int)) default).amount=true→(LTx l).ok (k+1)∧(LTx l).μ (k+1)<(LTx l).μ k:=fun h b1 b2 b3 b4=>by
   refine⟨⟨show k+1≤l.length by omega,fun _=>b2,?_⟩,show l.length - (k+1)<l.length - k by omega⟩
   show Co (if k+1=0 then 1 else(l.getD k default).code+1) (l.drop (k+1))=_
   rw[←g3,tV h,if_neg (by omega)]
   simp only[Co];rw[e1] at b1;rw[show decide ((if k=0 then 1 else(l.getD (k - 1) default).code+1)≤(l.getD k default).code)=true from ?_,decide_eq_true (show(l.getD k default).code≤99 from b3),(show C2 (l.getD k default).amount=true from b4)]
   ·rfl
   ·rw[decide_eq_true_eq];by_cases hk:k=0
    ·rw[if_pos hk];exact b2
    ·rw[if_neg hk];exact b1 (by omega)
  rw[←e1] at g2;clear hf
  (conv=>whnf)
  (repeat' (first|refine tuU ?_|split<;>rename_i hh<;>try simp only[wS] at hh|with_reducible refine lnI fun hln=>?_)<;>conv=>whnf)
  all_goals try(show _=_;simp only[wQ])
  all_goals try (
   refine hbad fun k6=>?_;obtain⟨⟨b1,b2⟩,b3,b4⟩:=hd2 (by omega) k6
   first|omega|(rename_i hh;rw[b4] at hh;cases hh))
  all_goals try (
   (conv=>whnf)
   refine⟨(k+1:Nat),[],?_,⟨⟨rfl,(nB rfl),rfl⟩,?_,?_⟩⟩
   ·exact hd3 (by omega) (by omega) (by omega) (by omega) (by assumption)
   ·exact Ac _
   ·exact tL
   done)
  all_goals (
   have ht:Co 1 l=true:=(by rw[←g3,List.drop_eq_nil_of_le (by omega)];rfl);unfold C0;rw[ht,B7,Bool.true_and,Bool.eq_iff_iff,decide_eq_true_eq,decide_eq_true_eq];omega)
end
end Go.Vc.Z
namespace Go.Vc.Z
open Go Go.Vc Go.Proofs
end Go.Vc.Z
namespace Go.Vc
open Go
variable {H : Type} {enc : TypeId × Value → H} {P : Program} {W : World}
theorem Aua{r:Go.Reach}{b0:Nat}{t:TypeId}{i:TI}{v:Value}{d:DataW H}{ps:List MemPlace}(h:A7 P t=some i)(hk:i.kind= .str)
  (hval:Value.okWide P W r b0 t v) (hd:DataW.Trod enc P W 0 (fun _=>true) true t v d ps):∃ s:List UInt8,V (fun _=>none) (fun b=>b<W.heap.size) W (.str s) v:=by
 obtain⟨fuel,hf⟩:=hd;obtain⟨a,ha⟩:=Atz h hk enc W fuel _ _ hf;have hu:=Akm h hk;have hv:v.cells.toList=[v]:=by
  simp only[Value.okWide,hu,Cell.okWide] at hval;cases v<;>simp_all[Cell.ok,Value.cells]
 rw[hv] at ha;exact⟨a,ha.2 0 _ _ rfl rfl⟩
end Go.Vc
