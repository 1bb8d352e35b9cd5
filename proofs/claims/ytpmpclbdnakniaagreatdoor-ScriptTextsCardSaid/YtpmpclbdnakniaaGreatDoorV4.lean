/- Conversions, iterators, maps. -/
import Derived.Test.YtpmpclbdnakniaaGreatDoorV3
set_option linter.all false
namespace Go.Vc
open Go
section
variable {P : Program} {TY : TypeId → Option TI} {ρ : Nat → Option Nat} {S : Nat → Prop} {w : World}
def Jk:List AV→Option Int
 |[.int .u8 n]=>some n
 |_=>none
def Qw:List AV→Option Int
 |[.int .i32 n]=>some n
 |_=>none
def bytesOf(len:Nat)(get:Nat→List AV):List UInt8:=(List.range len).map fun e=>UInt8.ofNat ((Jk (get e)).getD 0).toNat
def iG(len:Nat)(get:Nat→List AV):List UInt8:=(List.range len).flatMap fun e=>(Utf8.encode ((Qw (get e)).getD 0)).data.toList
def Zd(TY:TypeId→Option TI)(wr:Bool)(src dst:TypeId)(x:AV)(H:List Blk)(N:AV→Prop):Prop:=
 match TY src,TY dst with
 |some i,some j=>match j.kind,x with
  | .int k,.int _ n=>fitA wr k n N
  | .str,.str l=>N (.str l)
  | .str,.nilsl=>(match i.kind with| .slice e=>(match TY e with|some ei=>(match ei.kind with| .int .u8=>N (.str [])| .int .i32=>N (.str [])|_=>False)|none=>False)|_=>False)
  | .str,x=>(match i.kind with
   | .slice e=>(match TY e with
    |some ei=>(match ei.kind with
     | .int .u8=>Za H x fun sz len get=>if sz=1 then(∀ e,e<len→(Jk (get e)).isSome=true)∧N (.str (bytesOf len get)) else False
     | .int .i32=>Za H x fun sz len get=>if sz=1 then((∀ e,e<len→(Qw (get e)).isSome=true)∧(iG len get).length≤9223372036854775807)∧N (.str (iG len get)) else False
     |_=>False)
    |none=>False)
   |_=>False)
  |_,_=>False
 |_,_=>False
theorem Ais(ns:List Int):∀ (s:ByteArray),(ns.foldl (fun r n=>r.push (UInt8.ofNat n.toNat)) s).data.toList=s.data.toList++ns.map fun n=>UInt8.ofNat n.toNat:=by
 induction ns with
 |nil=>intro s;simp
 |cons n ns ih=>intro s;rw[List.foldl_cons,ih];simp
theorem Adj(ns:List Int):∀ (s:ByteArray),(ns.foldl (fun r n=>r++Utf8.encode n) s).data.toList=s.data.toList++ns.flatMap fun n=>(Utf8.encode n).data.toList:=by
 induction ns with
 |nil=>intro s;simp
 |cons n ns ih=>intro s;rw[List.foldl_cons,ih];simp
theorem Adk{k:IntKind}{len:Nat}{get:Nat→List AV}{num:List AV→Option Int}(hnum:∀ cs n,num cs=some n→cs=[.int k n]){a:Addr}(hrow:RowIs ρ S w 1 len get (some a))(hall:∀ e,e<len→(num (get e)).isSome=true):
  (loadCells a len).run P w= .ok (((List.range len).map fun e=>(num (get e)).getD 0).map (Value.int k)).toArray w:=by
 obtain⟨hsp,f,hf⟩:=hrow.at_ a rfl;obtain⟨b,o,sp⟩:=a;simp only at hsp hf;rw[run_loadCells w ⟨b,o,sp⟩ len (fun e=>.int k ((num (get e)).getD 0)) (fun e he=>?_)]
 ·rw[List.map_map];rfl
 ·obtain rfl:=hsp (by omega)
  obtain⟨n,hn⟩:=Option.isSome_iff_exists.1 (hall e he);have hc:=hnum _ _ hn;obtain⟨h1,h2⟩:=hf e 0 he (by omega)
  have h3:=h2 (.int k n) (by rw[hc];rfl)
  obtain⟨h4,_⟩:=h3.intR;rw[addr_add];simp only[Nat.mul_one,Nat.add_zero] at h1;rw[h1,h4,hn];rfl
theorem Adl(cs:List AV)(n:Int)(h:Jk cs=some n):cs=[.int .u8 n]:=by
 unfold Jk at h;split at h
 ·cases h;rfl
 ·cases h
theorem Adm(cs:List AV)(n:Int)(h:Qw cs=some n):cs=[.int .i32 n]:=by
 unfold Qw at h;split at h
 ·cases h;rfl
 ·cases h
theorem Adn(hTY:TyOk P TY){H:List Blk}(hH:HRel ρ S w H){wr:Bool}{src dst:TypeId}{x:AV}{v:Value}{N:AV→Prop}(hx:V ρ S w x v)(h:Zd TY wr src dst x H N):
  VSt P ρ S w (convert src dst v) N:=by
 unfold Zd at h;split at h
 ·rename_i i j hi hj;obtain⟨_,d,_,h2,_,_,_,h6,_,_⟩:=hTY.get hi;obtain⟨_,d',_,h2',_,_,_,h6',_,_⟩:=hTY.get hj;obtain⟨_,ki,kstr,ks,_⟩:=B0 h6;obtain⟨_,ki',kstr',ks',_⟩:=B0 h6';have hnilr:∀ e (ei:TI) k,d= .slice e→d'= .string→TY e=some ei→ei.kind= .int k→(k= .u8∨k= .i32)→∀ l c,(convert src dst (.slice none l c)).run P w= .ok (.string .empty) w:=by
   intro e ei k hd hd' hei hk hkk l c;subst hd;subst hd';obtain⟨_,de,_,g2,_,_,_,g6,_,_⟩:=hTY.get hei;obtain rfl:=(B0 g6).2.1 k hk;unfold convert;simp only[Sem.run_bind,Al h2,Al h2',Result.andThen_ok,Al g2];rcases hkk with rfl|rfl
   ·simp[Conv.bytesToString]
   ·simp[Conv.runesToString]
  split at h
  ·rename_i k k' n hk;obtain⟨rfl,_⟩:=hx.intR;obtain rfl:=ki' _ hk;obtain⟨c,h1,h3⟩:=Im (ρ:=ρ) (S:=S) (w:=w) h;refine VSt.same hH (v:=.int k (k.wrap n)) ?_ h1 h3;unfold convert;simp only[Sem.run_bind,Al h2,Al h2',Result.andThen_ok];cases d<;>simp[Conv.intToInt]
  ·rename_i l hk;obtain⟨s,rfl,rfl,hm⟩:=hx.strR;obtain rfl:=kstr' hk;refine VSt.same hH (v:=.string s) ?_ h hx;unfold convert;simp only[Sem.run_bind,Al h2,Al h2',Result.andThen_ok];cases d<;>simp
  ·rename_i hk;cases hx;obtain rfl:=kstr' hk;split at h
   ·rename_i e hke;split at h
    ·rename_i ei hei;split at h
     ·rename_i hk8;exact VSt.same hH (hnilr e ei _ (ks _ hke) rfl hei hk8 (.inl rfl) 0 0) h (.str _ _ rfl (Nat.zero_le _))
     ·rename_i hk8;exact VSt.same hH (hnilr e ei _ (ks _ hke) rfl hei hk8 (.inr rfl) 0 0) h (.str _ _ rfl (Nat.zero_le _))
     ·exact h.elim
    ·exact h.elim
   ·exact h.elim
  ·rename_i hk _ _;obtain rfl:=kstr' hk;split at h
   ·rename_i e hke;obtain rfl:=ks _ hke;split at h
    ·rename_i ei hei;obtain⟨_,de,_,g2,_,_,_,g6,_,_⟩:=hTY.get hei;split at h
     ·rename_i hk8;obtain rfl:=(B0 g6).2.1 _ hk8;obtain⟨sz,len,get,ao,cap,hK,rfl,hlc,hcm,hrow⟩:=bH hH hx h;split at hK
      ·rename_i hsz;subst hsz;obtain⟨hall,hN⟩:=hK;cases ao with
       |none=>
        have h0:=hrow.nil rfl;subst h0;exact VSt.same hH (hnilr e ei _ rfl rfl hei hk8 (.inl rfl) _ _) hN (.str _ _ rfl (Nat.zero_le _))
       |some a=>
        have hl:=Adk (P:=P) Adl hrow hall;have hr:=run_bytesToString w a len cap _ hl;refine VSt.same hH (v:=.string (((List.range len).map fun e=>(Jk (get e)).getD 0).foldl (fun r n=>r.push (UInt8.ofNat n.toNat)) ByteArray.empty)) ?_ hN (.str _ _ ?_ ?_)
        ·unfold convert;simp only[Sem.run_bind,Al h2,Al h2',Result.andThen_ok,Al g2];exact hr
        ·rw[Ais,List.map_map];rfl
        ·simp only[bytesOf,List.length_map,List.length_range];omega
      ·exact hK.elim
     ·rename_i hk8;obtain rfl:=(B0 g6).2.1 _ hk8;obtain⟨sz,len,get,ao,cap,hK,rfl,hlc,hcm,hrow⟩:=bH hH hx h;split at hK
      ·rename_i hsz;subst hsz;obtain⟨⟨hall,hlen⟩,hN⟩:=hK;cases ao with
       |none=>
        have h0:=hrow.nil rfl;subst h0;exact VSt.same hH (hnilr e ei _ rfl rfl hei hk8 (.inr rfl) _ _) hN (.str _ _ rfl (Nat.zero_le _))
       |some a=>
        have hl:=Adk (P:=P) Adm hrow hall;have hr:=run_runesToString w a len cap _ hl;refine VSt.same hH (v:=.string (runesBytes ((List.range len).map fun e=>(Qw (get e)).getD 0))) ?_ hN (.str _ _ ?_ ?_)
        ·unfold convert;simp only[Sem.run_bind,Al h2,Al h2',Result.andThen_ok,Al g2];exact hr
        ·rw[runesBytes,Adj,List.flatMap_map];rfl
        ·rw[Ch];exact hlen
      ·exact hK.elim
     ·exact h.elim
    ·exact h.elim
   ·exact h.elim
  ·exact h.elim
 ·exact h.elim
def Ait(TY:TypeId→Option TI)(t:TypeId)(x:AV)(H:List Blk)(N:AV→List Blk→Prop):Prop:=
 match TY t,x with
 |some i,.str l=>match i.kind with
  | .str=>N (.iter H.length) (H++[.iter l 0])
  |_=>False
 |_,_=>False
theorem Abp(hTY:TyOk P TY)(hns:∀ b,S b→b<w.heap.size){H:List Blk}(hH:HRel ρ S w H){t:TypeId}{x:AV}{v:Value}{N:AV→List Blk→Prop}(hx:V ρ S w x v)(h:Ait TY t x H N):
  VOk P ρ S w (Instr.range t v) N:=by
 unfold Ait at h;split at h
 ·rename_i i l hi;obtain⟨_,d,_,h2,_,_,_,h6,_,_⟩:=hTY.get hi;split at h
  ·rename_i hk;obtain rfl:=(B0 h6).2.2.1 hk;obtain⟨s,rfl,rfl,hm⟩:=hx.strR;refine VOk.new hH (run_range_string w t s h2) h (.iter _ _ (Dx _ _)) ?_;intro b hb;rw[Dx] at hb;cases hb;exact⟨fun hs=>Nat.lt_irrefl _ (hns _ hs),s,Cu w _,rfl,hm⟩
  ·exact h.elim
 ·exact h.elim
noncomputable def Bg:List UInt8→Nat→Int:=Classical.choose (⟨fun l p=>((Utf8.decode ⟨l.toArray⟩ p).1:Int),rfl⟩:∃ f:List UInt8→Nat→Int,f=fun l p=>((Utf8.decode ⟨l.toArray⟩ p).1:Int))
theorem bP(l:List UInt8)(p:Nat):Bg l p=((Utf8.decode ⟨l.toArray⟩ p).1:Int):=congrFun (congrFun (Classical.choose_spec (⟨fun l p=>((Utf8.decode ⟨l.toArray⟩ p).1:Int),rfl⟩:∃ f:List UInt8→Nat→Int,f=fun l p=>((Utf8.decode ⟨l.toArray⟩ p).1:Int))) l) p
noncomputable def Ai:List UInt8→Nat→Nat:=Classical.choose (⟨fun l p=>(Utf8.decode ⟨l.toArray⟩ p).2,rfl⟩:∃ f:List UInt8→Nat→Nat,f=fun l p=>(Utf8.decode ⟨l.toArray⟩ p).2)
theorem Ado(l:List UInt8)(p:Nat):Ai l p=(Utf8.decode ⟨l.toArray⟩ p).2:=congrFun (congrFun (Classical.choose_spec (⟨fun l p=>(Utf8.decode ⟨l.toArray⟩ p).2,rfl⟩:∃ f:List UInt8→Nat→Nat,f=fun l p=>(Utf8.decode ⟨l.toArray⟩ p).2)) l) p
def Apa(x:AV)(isS:Bool)(H:List Blk)(N:AV→List Blk→Prop):Prop:=
 match x,isS with
 | .iter id,true=>match H[id]? with
  |some (.iter l pos)=>match decide (pos<l.length) with
   |true=>N (.tup [.bool true,.int .i64 pos,.int .i32 (Bg l pos)]) (H.set id (.iter l (pos+Ai l pos)))
   |false=>N (.tup [.bool false]) H
  |_=>False
 |_,_=>False
theorem Abq(w:World)(k:Nat)(s:ByteArray)(pos:Nat)(o:Obj)(hk:w.heap[k]? =some o):(w.iterAt k s pos).heap[k]? =some (.stringIter s pos)∧(∀ j,j≠k→(w.iterAt k s pos).heap[j]? =w.heap[j]?)∧(w.iterAt k s pos).heap.size=w.heap.size:=by
 have hlt:=lt_of_some hk;refine⟨?_,fun j hj=>?_,?_⟩
 ·show(w.heap.setIfInBounds k _)[k]? =_;rw[Array.getElem?_setIfInBounds,if_pos rfl,if_pos hlt]
 ·show(w.heap.setIfInBounds k _)[j]? =_;rw[Array.getElem?_setIfInBounds,if_neg (fun h=>hj h.symm)]
 ·show(w.heap.setIfInBounds k _).size=_;simp
theorem Adp{H:List Blk}(hH:HRel ρ S w H){x:AV}{v:Value}{isS:Bool}{ty:TypeId}{N:AV→List Blk→Prop}(hx:V ρ S w x v)(h:Apa x isS H N):
  VOk P ρ S w (Instr.next v isS ty) N:=by
 unfold Apa at h;split at h
 ·rename_i id;cases hx with
  |iter _ b hb=>
   split at h
   ·rename_i l pos hid;obtain⟨hnS,s,h1,rfl,hm⟩:=hH.blk id _ hid b hb;have hs:(⟨s.data.toList.toArray⟩:ByteArray)=s:=(by simp);split at h
    ·rename_i hd;have hlt:pos<s.size:=(by simpa using hd);rw[bP,Ado,hs] at h;have hf:=Abq w b s (pos+(Utf8.decode s pos).2) _ h1;have hE:Ext ρ S w ρ S (w.iterAt b s (pos+(Utf8.decode s pos).2)):=Pj hH hb hnS hf.2.2 hf.2.1 (fun a' T' f' h'=>by rw[h1] at h';cases h') rfl rfl rfl
     have hdl:=decode_le s pos;have hml:=hm;rw[Ch,Ada] at hml;refine⟨_,_,_,_,ρ,Lib.run_next_any_at w b s pos ty h1 hlt,h,?_,?_,hE⟩
     ·refine .tup _ _ rfl fun i c v hc hv=>?_;match i with
      |0=>simp at hc hv;subst hc;subst hv;exact .bool _
      |1=>simp at hc hv;subst hc;subst hv;exact V.int' (by simp only[inK,lo,hi];omega)
      |2=>simp at hc hv;subst hc;subst hv;exact V.int' (by simp only[inK,lo,hi];omega)
      |i+3=>simp at hc
     ·refine Jj hH hid rfl hb hE hf.2.2 hf.2.1 ?_;intro b' hb';rw[hb] at hb';cases hb';exact⟨hnS,s,hf.1,rfl,hm⟩
    ·rename_i hd;have hlt: ¬pos<s.size:=(by simpa using hd);refine VOk.same hH (Lib.run_next_end_at w b s pos ty h1 hlt) h ?_;refine .tup _ _ rfl fun i c v hc hv=>?_;match i with
     |0=>simp at hc hv;subst hc;subst hv;exact .bool _
     |i+1=>simp at hc
   ·exact h.elim
 ·exact h.elim
end
end Go.Vc
namespace Go.Vc
open Go
section
variable {P : Program} {TY : TypeId → Option TI} {ρ : Nat → Option Nat} {S : Nat → Prop} {w : World}
def Apb:TK→AV→AV→Option Bool
 | .int _,.int k a,.int k' b=>if k=k' then some (eqI a b) else none
 | .str,.str a,.str b=>some (a == b)
 | .bool,.bool a,.bool b=>some (a == b)
 |_,_,_=>none
def Xg(kd:TK)(key:AV):List (AV × AV)→Nat→(Option (Nat × AV)→Prop)→Prop
 |[],_,K=>K none
 |(k',v)::es,i,K=>match Apb kd key k' with
  |some b=>(match b with
   |true=>K (some (i,v))
   |false=>Xg kd key es (i+1) K)
  |none=>False
theorem Aiu{kd:TK}{d:TypeDesc}(hd:TK.of d=kd){x y:AV}{vx vy:Value}(hx:V ρ S w x vx)(hy:V ρ S w y vy){b:Bool}(h:Apb kd x y=some b):Instr.sameNow d vx vy=some b:=by
 have hk:=B0 (i:=⟨0,0,false,kd,none,false⟩) hd;obtain⟨kb,ki,kstr,_⟩:=hk;unfold Apb at h;split at h
 ·split at h
  ·rename_i hkk;subst hkk;cases h;obtain rfl:=ki _ rfl;obtain⟨rfl,_⟩:=hx.intR;obtain⟨rfl,_⟩:=hy.intR;simp[Instr.sameNow,Ca]
  ·cases h
 ·cases h;obtain rfl:=kstr rfl;obtain⟨s,rfl,rfl,_⟩:=hx.strR;obtain⟨s',rfl,rfl,_⟩:=hy.strR;simp only[Instr.sameNow];rw[beq_toListBytes,ByteArray.toList_eq,ByteArray.toList_eq]
 ·cases h;obtain rfl:=kb rfl;obtain rfl:=hx.boolR;obtain rfl:=hy.boolR;rfl
 ·cases h
def MRel(ρ:Nat→Option Nat)(S:Nat→Prop)(w:World)(es:List (AV × AV))(es':List MapEntry):Prop:=
 es.length=es'.length∧∀ (i:Nat) k x (e:MapEntry),es[i]? =some (k,x)→es'[i]? =some e→V ρ S w k e.key∧V ρ S w x e.val
theorem MRel.tail{p:AV × AV}{e:MapEntry}{es:List (AV × AV)}{es':List MapEntry}(h:MRel ρ S w (p::es) (e::es')):MRel ρ S w es es':=
 ⟨by simpa using h.1,fun i k x e hi he=>h.2 (i+1) k x e (by simpa using hi) (by simpa using he)⟩
theorem X2{kd:TK}{d:TypeDesc}(hd:TK.of d=kd){x:AV}{vx:Value}(hx:V ρ S w x vx):∀ (es:List (AV × AV)) (es':List MapEntry) (i:Nat) (K:Option (Nat × AV)→Prop),MRel ρ S w es es'→Xg kd x es i K→
  ∃ r r',K r∧Instr.findNow d vx es' i=some r'∧(match r,r' with|none,none=>True|some (j,a),some (j',v)=>j=j'∧V ρ S w a v∧(∃ e,es'[j - i]? =some e∧Instr.sameNow d vx e.key=some true)∧i≤j|_,_=>False)
 |[],es',i,K,hm,h=>by
  cases es' with
  |nil=>exact⟨none,none,h,rfl,trivial⟩
  |cons _ _=>have:=hm.1;simp at this
 |(k',v)::es,es',i,K,hm,h=>by
  cases es' with
  |nil=>have:=hm.1;simp at this
  |cons e es'=>
   rw[Xg] at h;obtain⟨hk,hv⟩:=hm.2 0 k' v e rfl rfl;split at h
   ·rename_i b hb;have hsn:=Aiu hd hx hk hb;split at h
    ·refine⟨some (i,v),some (i,e.val),h,by simp[Instr.findNow,hsn],rfl,hv,⟨e,by simp,hsn⟩,Nat.le_refl _⟩
    ·obtain⟨r,r',h1,h2,h3⟩:=X2 hd hx es es' (i+1) K hm.tail h;refine⟨r,r',h1,by simp[Instr.findNow,hsn,h2],?_⟩
     cases r with
     |none=>cases r' with
      |none=>trivial
      |some _=>exact h3
     |some p=>cases r' with
      |none=>exact h3
      |some q=>
       obtain⟨g1,g2,⟨e0,g3,g5⟩,g4⟩:=h3;refine⟨g1,g2,⟨e0,?_,g5⟩,by omega⟩
       rw[show p.1 - i=(p.1 - (i+1))+1 by omega,List.getElem?_cons_succ]
       exact g3
   ·exact h.elim
def plainKey:TK→Bool
 | .int _| .str| .bool=>true
 |_=>false
theorem run_checkKey{t:TypeId}{d:TypeDesc}{kd:TK}(hd:TK.of d=kd)(hp:plainKey kd=true)(ht:P.underlying t=some d)(b:Bool)(v:Value):(Instr.checkKey b 10000 t v).run P w= .ok () w:=by
 have hk:=B0 (i:=⟨0,0,false,kd,none,false⟩) hd;obtain⟨kb,ki,kstr,_⟩:=hk;have:d= .bool∨(∃ k,d= .int k)∨d= .string:=by
  cases kd<;>simp[plainKey] at hp
  ·exact .inl (kb rfl)
  ·exact .inr (.inl ⟨_,ki _ rfl⟩)
  ·exact .inr (.inr (kstr rfl))
 rw[Instr.checkKey.eq_def];rcases this with rfl|⟨k,rfl⟩|rfl<;>simp only[Sem.run_bind,Al ht,Result.andThen_ok]<;>cases v<;>rfl
def mapOf(H:List Blk)(x:AV):Option (List (AV × AV)):=
 match x with
 | .nilmap=>some []
 | .map id=>match H[id]? with
  |some (.map es)=>some es
  |_=>none
 |_=>none
def M9(TY:TypeId→Option TI)(t:TypeId)(x key:AV)(ok:Bool)(H:List Blk)(N:AV→Prop):Prop:=
 match TY t with
 |none=>False
 |some i=>match i.kind with
  | .map kt et=>match TY kt,TY et with
   |some ki,some ei=>if plainKey ki.kind=true then(match mapOf H x with
    |none=>False
    |some es=>Xg ki.kind key es 0 fun r=>match r with
     |some (_,v)=>N (if ok then .tup [v,.bool true] else v)
     |none=>Io ei.zero fun z=>N (if ok then .tup [z,.bool false] else z)) else False
   |_,_=>False
  |_=>False
theorem Aiv{H:List Blk}(hH:HRel ρ S w H){x:AV}{v:Value}(hx:V ρ S w x v){es:List (AV × AV)}(h:mapOf H x=some es):
  ∃ es',MRel ρ S w es es'∧((v= .map none∧es'=[])∨∃ b arr clock,v= .map (some b)∧w.heap[b]? =some (.map arr clock)∧arr.toList=es'):=by
 unfold mapOf at h;split at h
 ·cases h;cases hx;exact⟨[],⟨rfl,fun i k x e hi=>by simp at hi⟩,.inl ⟨rfl,rfl⟩⟩
 ·rename_i id;split at h
  ·rename_i es0 hid;cases h;cases hx with
   |map _ b hb=>
    obtain⟨_,arr,clock,h1,h2,h3⟩:=hH.blk id _ hid b hb;exact⟨arr.toList,⟨by simpa using h2,fun i k x e hi he=>h3 i k x e hi (by simpa using he)⟩,.inr ⟨b,arr,clock,rfl,h1,rfl⟩⟩
  ·cases h
 ·cases h
theorem rE(hTY:TyOk P TY){H:List Blk}(hH:HRel ρ S w H){t:TypeId}{x key:AV}{v u:Value}{ok:Bool}{N:AV→Prop}(hx:V ρ S w x v)(hk:V ρ S w key u)(h:M9 TY t x key ok H N):
  VSt P ρ S w (Instr.lookup t v u ok) N:=by
 unfold M9 at h;split at h
 ·exact h.elim
 ·rename_i i hi;obtain⟨_,d,_,h2,_,_,_,h6,_,_⟩:=hTY.get hi;split at h
  ·rename_i kt et hkm;obtain rfl:=(B0 h6).2.2.2.2.2.2.1 _ _ hkm;split at h
   ·rename_i ki ei hki hei;obtain⟨_,dk,_,g2,_,_,_,g6,_,_⟩:=hTY.get hki;split at h
    ·rename_i hp;split at h
     ·exact h.elim
     ·rename_i es hes;obtain⟨es',hm,hcase⟩:=Aiv hH hx hes;obtain⟨r,r',hK,hf,hrr⟩:=X2 g6 hk es es' 0 _ hm h;have hfk:(Instr.findKey kt u es').run P w= .ok r' w:=by
       unfold Instr.findKey;simp[Al g2,hf]
      have hrun:∀ (val:Value) (fnd:Bool),(match r' with|some (_,v)=>(pure (v,true):Sem (Value × Bool))|none=>do pure (←zeroValue et,false)).run P w= .ok (val,fnd) w→
        (Instr.lookup t v u ok).run P w= .ok (if ok then .tuple #[val,.bool fnd] else val) w:=by
       intro val fnd hv;unfold Instr.lookup;rcases hcase with ⟨rfl,rfl⟩|⟨b,arr,clock,rfl,hb,rfl⟩
       ·simp only[Sem.run_bind,Al h2,Result.andThen_ok,Sem.run_pure,run_checkKey g6 hp g2];rw[show(Instr.findKey kt u (#[]:Array MapEntry).toList)=Instr.findKey kt u [] from rfl,hfk];cases r' with
        |none=>
         simp only[Sem.run_bind,Sem.run_pure] at hv;simp only[Result.andThen_ok,Sem.run_bind,Sem.run_pure];generalize (zeroValue et).run P w=zr at*
         cases zr<;>simp[Result.andThen] at hv ⊢
         obtain⟨⟨rfl,rfl⟩,rfl⟩:=hv;simp
        |some p=>
         simp only[Sem.run_pure,Result.ok.injEq,Prod.mk.injEq,and_true] at hv;obtain⟨rfl,rfl⟩:=hv;simp
       ·have hget:(getObj b).run P w= .ok (.map arr clock) w:=(by simp[getObj,Sem.run,hb]);simp only[Sem.run_bind,Al h2,Result.andThen_ok,Sem.run_pure,hget,run_checkKey g6 hp g2,hfk];cases r' with
        |none=>
         simp only[Sem.run_bind,Sem.run_pure] at hv;simp only[Result.andThen_ok,Sem.run_bind,Sem.run_pure];generalize (zeroValue et).run P w=zr at*
         cases zr<;>simp[Result.andThen] at hv ⊢
         obtain⟨⟨rfl,rfl⟩,rfl⟩:=hv;simp
        |some p=>
         simp only[Sem.run_pure,Result.ok.injEq,Prod.mk.injEq,and_true] at hv;obtain⟨rfl,rfl⟩:=hv;simp
      have htup:∀ (c:AV) (val:Value) (fnd:Bool),V ρ S w c val→V ρ S w (if ok then .tup [c,.bool fnd] else c) (if ok then .tuple #[val,.bool fnd] else val):=by
       intro c val fnd hc;cases ok
       ·exact hc
       ·refine .tup _ _ rfl fun i c' v' h1 h2=>?_;match i with
        |0=>simp at h1 h2;subst h1;subst h2;exact hc
        |1=>simp at h1 h2;subst h1;subst h2;exact .bool _
        |i+2=>simp at h1
      cases r with
      |none=>
       cases r' with
       |some _=>exact hrr.elim
       |none=>
        obtain⟨z,hz,hN⟩:=Ci hK;obtain⟨zv,hzv,rfl⟩:=hTY.zero hei hz;exact VSt.same hH (hrun zv false (by simp[hzv])) hN (htup _ _ _ (V.ofC _))
      |some p=>
       cases r' with
       |none=>exact hrr.elim
       |some q=>
        obtain⟨pj,pv⟩:=p;obtain⟨qj,qv⟩:=q;obtain⟨_,hv,_⟩:=hrr;exact VSt.same hH (hrun qv true rfl) hK (htup _ _ _ hv)
    ·exact h.elim
   ·exact h.elim
  ·exact h.elim
def Ze(TY:TypeId→Option TI)(t:TypeId)(x key val:AV)(H:List Blk)(N:List Blk→Prop):Prop:=
 match TY t,x with
 |some i,.map id=>match i.kind with
  | .map kt _=>match TY kt with
   |some ki=>if plainKey ki.kind=true then(match H[id]? with
    |some (.map es)=>Xg ki.kind key es 0 fun r=>match r with
     |some (j,_)=>N (H.set id (.map (es.set j (key,val))))
     |none=>N (H.set id (.map (es++[(key,val)])))
    |_=>False) else False
   |none=>False
  |_=>False
 |_,_=>False
theorem Adq{d:TypeDesc}{a b:Value}(h:Instr.sameNow d a b=some true)(n:Nat):Instr.sameBits n b a=true:=by
 unfold Instr.sameNow at h;split at h
 ·split at h
  ·rename_i hk;subst hk;simp at h
   subst h;cases n<;>simp[Instr.sameBits]
  ·cases h
 ·rename_i a b;simp only[Option.some.injEq] at h;have h':(b == a)=true:=by
   rw[beq_toListBytes] at h ⊢;simp only[beq_iff_eq] at h ⊢;exact h.symm
  cases n<;>simp only[Instr.sameBits,h']
 ·simp at h
  subst h;cases n<;>simp[Instr.sameBits]
 ·cases h
theorem Abr(w:World)(k:Nat)(o o':Obj)(hk:w.heap[k]? =some o):({ w with heap:=w.heap.setIfInBounds k o' }:World).heap[k]? =some o'∧(∀ j,j≠k→({ w with heap:=w.heap.setIfInBounds k o' }:World).heap[j]? =w.heap[j]?)∧
  ({ w with heap:=w.heap.setIfInBounds k o' }:World).heap.size=w.heap.size:=by
 have hlt:=lt_of_some hk;refine⟨?_,fun j hj=>?_,by simp⟩
 ·show(w.heap.setIfInBounds k _)[k]? =_;rw[Array.getElem?_setIfInBounds,if_pos rfl,if_pos hlt]
 ·show(w.heap.setIfInBounds k _)[j]? =_;rw[Array.getElem?_setIfInBounds,if_neg (fun h=>hj h.symm)]
theorem Xh(hTY:TyOk P TY){H:List Blk}(hH:HRel ρ S w H){t:TypeId}{x key val:AV}{v u z:Value}{N:List Blk→Prop}(hx:V ρ S w x v)(hk:V ρ S w key u)(hz:V ρ S w val z)(h:Ze TY t x key val H N):
  ∃ w' H',(Instr.mapUpdate t v u z).run P w= .ok () w'∧N H'∧HRel ρ S w' H'∧Ext ρ S w ρ S w':=by
 unfold Ze at h;split at h
 ·rename_i i id hi;obtain⟨_,d,_,h2,_,_,_,h6,_,_⟩:=hTY.get hi;cases hx with
  |map _ b hb=>
  split at h
  ·rename_i kt et hkm;obtain rfl:=(B0 h6).2.2.2.2.2.2.1 _ _ hkm;split at h
   ·rename_i ki hki;obtain⟨_,dk,_,g2,_,_,_,g6,_,_⟩:=hTY.get hki;split at h
    ·rename_i hp;split at h
     ·rename_i es hid;obtain⟨hnS,arr,clock,h1,hl,hall⟩:=hH.blk id _ hid b hb;have hm:MRel ρ S w es arr.toList:=⟨by simpa using hl,fun i k x e hi he=>hall i k x e hi (by simpa using he)⟩
      obtain⟨r,r',hK,hf,hrr⟩:=X2 g6 hk es arr.toList 0 _ hm h;have hfk:(Instr.findKey kt u arr.toList).run P w= .ok r' w:=by
       unfold Instr.findKey;simp[Al g2,hf]
      have hget:(getObj b).run P w= .ok (.map arr clock) w:=(by simp[getObj,Sem.run,h1]);have hset:∀ o,(setObj b o).run P w= .ok () { w with heap:=w.heap.setIfInBounds b o }:=fun o=>by simp[setObj,Sem.run,h1]
      have fin:∀ (arr':Array MapEntry) (clock':Nat) (es2:List (AV × AV)),(Instr.mapUpdate t (.map (some b)) u z).run P w= .ok () { w with heap:=w.heap.setIfInBounds b (.map arr' clock') }→N (H.set id (.map es2))→MRel ρ S w es2 arr'.toList→
        ∃ w' H',(Instr.mapUpdate t (.map (some b)) u z).run P w= .ok () w'∧N H'∧HRel ρ S w' H'∧Ext ρ S w ρ S w':=by
       intro arr' clock' es2 hrun hN hm2;obtain⟨f1,f2,f3⟩:=Abr w b _ (.map arr' clock') h1;have hE:Ext ρ S w ρ S { w with heap:=w.heap.setIfInBounds b (.map arr' clock') }:=Pj hH hb hnS f3 f2 (fun a' T' f' h'=>by rw[h1] at h';cases h') rfl rfl rfl
       refine⟨_,_,hrun,hN,Jj hH hid rfl hb hE f3 f2 ?_,hE⟩;intro b' hb';rw[hb] at hb';cases hb';refine⟨hnS,arr',clock',f1,by simpa using hm2.1,fun i k x e hi he=>?_⟩
       have:=hm2.2 i k x e hi (by simpa using he)
       exact⟨this.1.mono hE,this.2.mono hE⟩
      cases r with
      |none=>
       cases r' with
       |some _=>exact hrr.elim
       |none=>
        refine fin (arr.push { key:=u,val:=z,born:=clock }) (clock+1) _ ?_ hK ?_
        ·unfold Instr.mapUpdate;simp only[Sem.run_bind,Al h2,Result.andThen_ok,hget,run_checkKey g6 hp g2,hfk,hset]
        ·refine⟨by simp;omega,fun i k x e hi he=>?_⟩
         rw[Array.toList_push] at he;by_cases hlt:i<es.length
         ·rw[List.getElem?_append_left hlt] at hi;rw[List.getElem?_append_left (by simp;omega)] at he
          exact hm.2 i k x e hi he
         ·rw[List.getElem?_append_right (by omega)] at hi
          rw[List.getElem?_append_right (by simp;omega)] at he
          have hi0:i - es.length=0:=by
           rcases Nat.eq_zero_or_pos (i - es.length) with h0|h0
           ·exact h0
           ·rw[List.getElem?_eq_none (by simp;omega)] at hi;cases hi
          rw[hi0] at hi;have hi0':i - arr.toList.length=0:=(by simp;omega);rw[hi0'] at he;simp at hi he
          obtain⟨rfl,rfl⟩:=hi;subst he;exact⟨hk,hz⟩
      |some p=>
       cases r' with
       |none=>exact hrr.elim
       |some q=>
        obtain⟨j,pv⟩:=p;obtain⟨j',qv⟩:=q;obtain⟨hjj,_,⟨e0,he0,hsn⟩,_⟩:=hrr;dsimp only at hjj he0 hK;subst hjj;rw[Nat.sub_zero] at he0;have he0':arr[j]? =some e0:=(by simpa using he0);refine fin (arr.modify j fun e=>{ e with key:=u,val:=z }) clock _ ?_ hK ?_
        ·unfold Instr.mapUpdate;simp only[Sem.run_bind,Al h2,Result.andThen_ok,hget,run_checkKey g6 hp g2,hfk,he0'];simp only[Option.map_some,Option.getD_some,Instr.keyThatStays,Adq hsn 10000,if_true,Sem.run_pure,Result.andThen_ok,hset]
        ·refine⟨by simp;omega,fun i k x e hi he=>?_⟩
         rw[Array.getElem?_toList,Array.getElem?_modify] at he;rw[List.getElem?_set] at hi;by_cases hji:j=i
         ·subst hji;rw[if_pos rfl] at hi he;split at hi
          ·simp only[Option.some.injEq,Prod.mk.injEq] at hi;obtain⟨rfl,rfl⟩:=hi;rw[he0'] at he;simp at he
           subst he;exact⟨hk,hz⟩
          ·cases hi
         ·rw[if_neg hji] at hi he;exact hm.2 i k x e hi (by simpa using he)
     ·exact h.elim
    ·exact h.elim
   ·exact h.elim
  ·exact h.elim
 ·exact h.elim
end
end Go.Vc
namespace Go.Vc
open Go
section
variable {P : Program} {TY : TypeId → Option TI} {ρ : Nat → Option Nat} {S : Nat → Prop} {w : World}
def sO(c a b:AV)(N:AV→Prop):Prop:=
 match c,a,b with
 | .bool t,.bool x,.bool y=>N (.bool (cond t x y))
 | .bool t,a,b=>(match t with|true=>N a|false=>N b)
 |_,_,_=>False
def Nl(TY:TypeId→Option TI)(t:TypeId)(x ix:AV)(N:AV→Prop):Prop:=
 match TY t,ix,x with
 |some i,.int _ n,.agg cs=>match i.kind with
  | .arr len e=>match TY e with
   |some ei=>(0≤n∧n<len)∧Io (Ns ei cs (n.toNat*ei.size)) N
   |none=>False
  |_=>False
 |_,_,_=>False
theorem gI(hTY:TyOk P TY){H:List Blk}(hH:HRel ρ S w H){t:TypeId}{x ix:AV}{v u:Value}{N:AV→Prop}(hx:V ρ S w x v)(hix:V ρ S w ix u)(h:Nl TY t x ix N):
  VSt P ρ S w (Instr.index t v u) N:=by
 unfold Nl at h;split at h
 ·rename_i i k n cs hi;obtain⟨rfl,_⟩:=hix.intR;obtain⟨vs,rfl,hl,hv⟩:=hx.aggR;obtain⟨_,d,_,h2,_,_,_,h6,_,_⟩:=hTY.get hi;split at h
  ·rename_i len e hk;obtain rfl:=(B0 h6).2.2.2.2.2.1 _ _ hk;split at h
   ·rename_i ei hei;obtain⟨hn,h⟩:=h;obtain⟨c,hc,hN⟩:=Ci h;obtain⟨y,hy,hvy⟩:=Y6 hTY hei hl hv hc;refine VSt.same hH (v:=y) ?_ hN hvy;unfold Instr.index;simp[asIntOf,Al h2,hn,hTY.size hei,hy]
   ·exact h.elim
  ·exact h.elim
 ·exact h.elim
def bQ(TY:TypeId→Option TI)(t:TypeId)(x:AV)(lo hi:Option AV)(H:List Blk)(N:AV→List Blk→Prop):Prop:=
 match TY t,x with
 |some i,.ptr id j=>match i.kind with
  | .arr n e=>match TY e with
   |some ei=>match H[id]? with
    |some (.var cs T)=>if j=0∧cs.length=n*ei.size∧n≤16777216 then
      T9 lo 0 fun a=>T9 hi n fun b=>(a≤b∧b≤n)∧N (.osl id ei.size a (b - a) (some (n - a))) (H.set id (.row ei.size n (fun e=>(cs.drop (e*ei.size)).take ei.size) T)) else False
    |some (.row sz' L _ _)=>if j=0∧sz'=ei.size∧n≤L∧n≤16777216 then
      T9 lo 0 fun a=>T9 hi n fun b=>(a≤b∧b≤n)∧N (.osl id ei.size a (b - a) (some (n - a))) H else False
    |_=>False
   |none=>False
  |_=>False
 |_,_=>False
theorem gJ(hTY:TyOk P TY){H:List Blk}(hH:HRel ρ S w H){t:TypeId}{x:AV}{lo hi:Option AV}{v:Value}{lov hiv:Option Value}{N:AV→List Blk→Prop}(hx:V ρ S w x v)(hlo:Ain ρ S w lo lov)(hhi:Ain ρ S w hi hiv)
  (h:bQ TY t x lo hi H N):VOk P ρ S w (Instr.sliceAt t v lov hiv none) N:=by
 unfold bQ at h;split at h
 ·rename_i i id j hi';obtain⟨b,rfl,hb⟩:=hx.ptrR;obtain⟨_,d,_,h2,_,_,_,h6,_,_⟩:=hTY.get hi';split at h
  ·rename_i n e hk;obtain rfl:=(B0 h6).2.2.2.2.2.1 _ _ hk;split at h
   ·rename_i ei hei;split at h
    ·rename_i cs T0 hid;split at h
     ·rename_i hcond;obtain⟨rfl,hlen,hn16⟩:=hcond;obtain⟨x1,h,ha⟩:=Eo h lov hlo;obtain⟨x2,⟨⟨hab,hbn⟩,hN⟩,hb'⟩:=Eo h hiv hhi;obtain⟨hnS,arr,T,fr,g1,g2,g3,g4⟩:=hH.blk id _ hid b hb;have hr:=Ep (P:=P) (w:=w) (isS:=false) (len:=n) (cap:=n) (a:=x1) (b:=x2) (lo:=lov) (hi:=hiv) (ha.imp (fun h=>⟨h.2.1,h.2.2⟩) (fun h=>h)) (hb'.imp (fun h=>⟨h.2.1,h.2.2⟩) (fun h=>h)) hab hbn;refine⟨.slice (some ⟨b,if n=x1 then 0 else 0+x1*ei.size,none⟩) (x2 - x1) (n - x1),w,_,_,ρ,?_,hN,?_,?_,Ext.refl _ _ _⟩
      ·unfold Instr.sliceAt;simp[Al h2,Instr.sureAddr,hr,hTY.size hei,addr_add]
       split<;>simp
      ·refine .osl _ _ _ _ _ b _ _ hb (by omega) (by rw[Ch];omega) (fun h0=>?_) ⟨arr,_,fr,g1,?_⟩ (fun c hc=>by cases hc;rfl)
       ·rw[if_neg (by omega)];omega
       ·rw[show x1+(n - x1)=n by omega,g2,hlen];exact Nat.le_refl _
      ·refine Jj hH hid rfl hb (Ext.refl _ _ _) rfl (fun _ _=>rfl) ?_;intro b' hb';rw[hb] at hb';cases hb';refine⟨hnS,arr,T,fr,g1,by omega,g3,fun e he=>?_,fun e j c v he hc hv=>?_⟩
       ·simp only[List.length_take,List.length_drop,hlen];have:(e+1)*ei.size≤n*ei.size:=Nat.mul_le_mul_right _ he;rw[Nat.add_mul] at this;omega
       ·have hc':((cs.drop (e*ei.size)).take ei.size)[j]? =some c:=hc;rw[List.getElem?_take] at hc';split at hc'
        ·rw[List.getElem?_drop] at hc';exact g4 _ c v hc' hv
        ·cases hc'
     ·exact h.elim
    ·rename_i sz' L get T0 hid;split at h
     ·rename_i hcond;obtain⟨rfl,rfl,hnL,hn16⟩:=hcond;obtain⟨x1,h,ha⟩:=Eo h lov hlo;obtain⟨x2,⟨⟨hab,hbn⟩,hN⟩,hb'⟩:=Eo h hiv hhi;obtain⟨hnS,arr,T,fr,g1,g2,g3,g4⟩:=hH.blk id _ hid b hb;have hr:=Ep (P:=P) (w:=w) (isS:=false) (len:=n) (cap:=n) (a:=x1) (b:=x2) (lo:=lov) (hi:=hiv) (ha.imp (fun h=>⟨h.2.1,h.2.2⟩) (fun h=>h)) (hb'.imp (fun h=>⟨h.2.1,h.2.2⟩) (fun h=>h)) hab hbn;refine⟨.slice (some ⟨b,if n=x1 then 0 else 0+x1*ei.size,none⟩) (x2 - x1) (n - x1),w,_,_,ρ,?_,hN,?_,hH,Ext.refl _ _ _⟩
      ·unfold Instr.sliceAt;simp[Al h2,Instr.sureAddr,hr,hTY.size hei,addr_add]
       split<;>simp
      ·refine .osl _ _ _ _ _ b _ _ hb (by omega) (by rw[Ch];omega) (fun h0=>?_) ⟨arr,_,fr,g1,?_⟩ (fun c hc=>by cases hc;rfl)
       ·rw[if_neg (by omega)];omega
       ·rw[show x1+(n - x1)=n by omega];exact Nat.le_trans (Nat.mul_le_mul_right _ hnL) g2
     ·exact h.elim
    ·exact h.elim
   ·exact h.elim
  ·exact h.elim
 ·exact h.elim
def iH(mx:Bool)(x y:AV)(N:AV→Prop):Prop:=
 match x,y with
 | .int k a,.int k' b=>if k=k' then N (.int k (match mx with|true=>(if b > a then b else a)|false=>(if b<a then b else a))) else False
 |_,_=>False
def Ams(TY:TypeId→Option TI)(t:TypeId)(x:AV)(N:AV→Prop):Prop:=
 match TY t with
 |none=>False
 |some i=>match i.kind,x with
  | .slice _,.osl _ _ _ _ (some c)=>N (.int .i64 c)
  | .slice _,.sl true _ len _=>N (.int .i64 len)
  | .slice _,.nilsl=>N (.int .i64 0)
  |_,_=>False
def G0(TY:TypeId→Option TI)(b:Builtin)(ts:List TypeId)(xs:List AV)(H:List Blk)(N:AV→List Blk→Prop):Prop:=
 match b,ts,xs with
 | .len,[t],[x]=>Ao9 TY t x fun c=>N c H
 | .cap,[t],[x]=>Ams TY t x fun c=>N c H
 | .append,[t,t'],[s,x]=>if t=t' then Abl TY t s x H N else Abo TY t t' s x H N
 | .min,_,[x,y]=>iH false x y fun c=>N c H
 | .max,_,[x,y]=>iH true x y fun c=>N c H
 |_,_,_=>False
def Az7(TY:TypeId→Option TI)(t:TypeId)(l:Nat)(N:Bool→Prop):Prop:=
 match TY t with
 |some i=>(match i.kind with
  | .slice _=>(match Nat.beq l 0 with|true=>N true∧N false|false=>N false)
  |_=>False)
 |none=>False
def opA(TY:TypeId→Option TI)(wr:Bool)(op:Op)(ts:List AV)(H:List Blk)(N:AV→List Blk→Prop):Prop:=
 match op with
 | .move x=>N (evO ts x) H
 | .assign x=>N (evO ts x) H
 | .pick c a b=>sO (evO ts c) (evO ts a) (evO ts b) fun r=>N r H
 | .alloc e=>bE TY e H N
 | .box _ x=>Ao2 (evO ts x) H N
 | .build t ps=>bN TY t (partsE ts ps) fun r=>N r H
 | .buildSlice t n ps=>Fy TY t n (partsE ts ps) H N
 | .insert t m k x=>Ze TY t (evO ts m) (evO ts k) (evO ts x) H fun H'=>N .any H'
 | .mapUpdate t m k x=>Ze TY t (evO ts m) (evO ts k) (evO ts x) H fun H'=>N .any H'
 | .load t a=>Nt TY t (evO ts a) H fun r=>N r H
 | .store t a x=>Y8 TY t (evO ts a) (evO ts x) H fun H'=>N .any H'
 | .nilCheck x=>Qu (evO ts x) fun r=>N r H
 | .binOp op t x y _=>(match op,evO ts x,evO ts y with
  | .eql,.sl _ _ l _,.nilsl=>Az7 TY t l fun b=>N (.bool b) H
  |op,a,b=>Amq TY wr op t a b fun r=>N r H)
 | .unOp op _ x=>unA wr op (evO ts x) fun r=>N r H
 | .convert s d x=>Zd TY wr s d (evO ts x) H fun r=>N r H
 | .makeInterface t x=>(match TY t with|some i=>(match i.kind with| .iface=>False|_=>N (.iface t (evO ts x)) H)|none=>False)
 | .makeFunc fn first caps=>(match fn,first.toList with| .func f,[]=>N (.fn f (caps.toList.map (evO ts))) H|_,_=>False)
 | .makeMap _ none=>N (.map H.length) (H++[.map []])
 | .makeSlice t l c=>Xz TY t (evO ts l) (evO ts c) H N
 | .slice t x l h m=>(match TY t with
  |some i=>(match i.kind,m with
   | .arr _ _,none=>bQ TY t (evO ts x) (l.map (evO ts)) (h.map (evO ts)) H N
   | .arr _ _,some _=>False
   |_,_=>bK TY t (evO ts x) (l.map (evO ts)) (h.map (evO ts)) (m.map (evO ts)) fun r=>N r H)
  |none=>False)
 | .fieldAddr t x f=>Ks TY t (evO ts x) f fun r=>N r H
 | .field t x f=>bG TY t (evO ts x) f fun r=>N r H
 | .indexAddr t x i=>Kt TY t (evO ts x) (evO ts i) fun r=>N r H
 | .index t x i=>(match evO ts x with
  | .agg cs=>Nl TY t (.agg cs) (evO ts i) fun r=>N r H
  |x=>bJ TY t x (evO ts i) fun r=>N r H)
 | .lookup t x i ok=>M9 TY t (evO ts x) (evO ts i) ok H fun r=>N r H
 | .range t x=>Ait TY t (evO ts x) H N
 | .next it isS=>Apa (evO ts it) isS H N
 | .extract t i=>Qv (evO ts t) i fun r=>N r H
 | .call c=>(match c.callee with
  | .builtin b=>G0 TY b c.argTypes.toList (c.args.toList.map (evO ts)) H N
  |_=>False)
 |_=>False
theorem Adr{c a b:AV}{cv av bv:Value}{N:AV→Prop}(hc:V ρ S w c cv)(ha:V ρ S w a av)(hb:V ρ S w b bv)(h:sO c a b N):
  OpSt P ρ S w (do pure (.value (if←asBool cv then av else bv))) N:=by
 have fin:∀ (t:Bool) (r:AV),cv= .bool t→N r→V ρ S w r (if t then av else bv)→OpSt P ρ S w (do pure (.value (if←asBool cv then av else bv))) N:=by
  rintro t r rfl hN hr;exact⟨_,r,by simp[asBool],hN,hr⟩
 unfold sO at h;split at h
 ·rename_i t x y;obtain rfl:=hc.boolR;refine fin t _ rfl h ?_;cases t
  ·exact hb
  ·exact ha
 ·rename_i t _ _ _;obtain rfl:=hc.boolR;split at h
  ·exact fin true _ rfl h ha
  ·exact fin false _ rfl h hb
 ·exact h.elim
theorem Ue{ts:List AV}{a:Act}(hT:TRel ρ S w ts a.tmps)(x:Option Operand):Ain ρ S w (x.map (evO ts)) (x.map a.eval):=by
 cases x with
 |none=>exact trivial
 |some x=>exact hT.eval x
theorem jP{t:TypeId}{d:TypeDesc}(h:P.underlying t=some d)(hna:∀ n e,d≠ .array n e)(x:Value)(l hh m:Option Value):(Instr.sliceAt t x l hh m).run P w=(Instr.slice t x l hh m).run P w:=by
 unfold Instr.sliceAt;simp only[Sem.run_bind,Al h,Result.andThen_ok]
theorem V.sl_clip{sz len:Nat}{get:Nat→List AV}{v:Value}(h:V ρ S w (.sl true sz len get) v):∃ a,v= .slice a len len∧len≤maxLen:=by
 cases h with
 |sln _ _ _ ao=>exact⟨ao,rfl,Nat.zero_le _⟩
 |sl _ _ _ _ b o cap f hs hl hm hcl=>
  obtain rfl:=hcl rfl;exact⟨_,rfl,hm⟩
def bR:Builtin→Bool
 | .append=>false
 |_=>true
theorem Uf(hTY:TyOk P TY){H:List Blk}(hH:HRel ρ S w H){ts:List AV}{a:Act}(hT:TRel ρ S w ts a.tmps){b:Builtin}{args:Array Operand}{argTypes:Array TypeId}{ty:TypeId}{cs:Array Bool}
  (hb:bR b=true) {N:AV→List Blk→Prop} (h:G0 TY b argTypes.toList (args.toList.map (evO ts)) H N):
  OpSt P ρ S w (builtin b argTypes ty cs (args.map a.eval)) (fun c=>N c H):=by
 obtain⟨argTypes⟩:=argTypes;obtain⟨args⟩:=args;simp only at h;have e1:(List.toArray args).map a.eval=(args.map a.eval).toArray:=by simp
 rw[e1];unfold G0 at h;split at h
 ·rename_i t x heq;match args,heq with
  |[o],heq=>
   simp only[List.map_cons,List.map_nil,List.cons.injEq,and_true] at heq;subst heq;exact(Air hTY hH (hT.eval o) h).op
 ·rename_i t x heq;match args,heq with
  |[o],heq=>
   simp only[List.map_cons,List.map_nil,List.cons.injEq,and_true] at heq;subst heq;unfold Ams at h;split at h
   ·exact h.elim
   ·rename_i i hi;obtain⟨_,d,_,h2,_,_,_,h6,_,_⟩:=hTY.get hi;have hv:=hT.eval o;split at h
    ·rename_i e id sz off len c hk heq;rw[heq] at hv;obtain rfl:=(B0 h6).2.2.2.1 _ hk;obtain⟨b,o',cp,he,_,_,hm,_,_,hcap⟩:=hv.oslR;obtain rfl:=hcap c rfl;refine(VSt.same hH (v:=goInt cp) ?_ h (V.int' (by simp only[inK,Go.Vc.lo,Go.Vc.hi];rw[Ch] at hm;omega))).op
     simp[Builtin.cap_,Al h2,he]
    ·rename_i e sz len get hk heq;rw[heq] at hv;obtain rfl:=(B0 h6).2.2.2.1 _ hk;obtain⟨a0,he,hm⟩:=hv.sl_clip;refine(VSt.same hH (v:=goInt len) ?_ h (V.int' (by simp only[inK,Go.Vc.lo,Go.Vc.hi];rw[Ch] at hm;omega))).op
     simp[Builtin.cap_,Al h2,he]
    ·rename_i e hk heq;rw[heq] at hv;obtain rfl:=(B0 h6).2.2.2.1 _ hk;cases hev:a.eval o<;>rw[hev] at hv<;>cases hv
     refine(VSt.same hH (v:=goInt 0) ?_ h (V.int' (by simp only[inK,Go.Vc.lo,Go.Vc.hi];omega))).op
     simp[Builtin.cap_,Al h2,hev]
    ·exact h.elim
 ·cases hb
 ·rename_i x y heq;match args,heq with
  |[o1,o2],heq=>
   simp only[List.map_cons,List.map_nil,List.cons.injEq,and_true] at heq;obtain⟨h1,h2⟩:=heq;have v1:=hT.eval o1;have v2:=hT.eval o2;unfold iH at h;split at h
   ·rw[h1] at v1;rw[h2] at v2;obtain⟨e1,k1⟩:=v1.intR;obtain⟨e2,k2⟩:=v2.intR;split at h
    ·rename_i hk;subst hk;refine(VSt.same hH (v:=.int _ _) ?_ h (V.int' (by dsimp only;split<;>assumption))).op
     simp only[List.map_cons,List.map_nil,e1,e2];exact run_min_int2 w _ _ _ _ _ _
    ·exact h.elim
   ·exact h.elim
 ·rename_i x y heq;match args,heq with
  |[o1,o2],heq=>
   simp only[List.map_cons,List.map_nil,List.cons.injEq,and_true] at heq;obtain⟨h1,h2⟩:=heq;have v1:=hT.eval o1;have v2:=hT.eval o2;unfold iH at h;split at h
   ·rw[h1] at v1;rw[h2] at v2;obtain⟨e1,k1⟩:=v1.intR;obtain⟨e2,k2⟩:=v2.intR;split at h
    ·rename_i hk;subst hk;refine(VSt.same hH (v:=.int _ _) ?_ h (V.int' (by dsimp only;split<;>assumption))).op
     simp only[List.map_cons,List.map_nil,e1,e2];exact run_max_int2 w _ _ _ _ _ _
    ·exact h.elim
   ·exact h.elim
 ·exact h.elim
theorem jQ(hTY:TyOk P TY)(hns:∀ b,S b→b<w.heap.size){H:List Blk}(hH:HRel ρ S w H){ts:List AV}{a:Act}(hT:TRel ρ S w ts a.tmps){b:Builtin}{args:Array Operand}{argTypes:Array TypeId}{ty:TypeId}{cs:Array Bool}
  {N:AV→List Blk→Prop} (h:G0 TY b argTypes.toList (args.toList.map (evO ts)) H N):
  OpOk P ρ S w (builtin b argTypes ty cs (args.map a.eval)) N:=by
 by_cases hb:bR b=true
 ·exact(Uf hTY hH hT hb h).ok hH
 ·have:b= .append:=by cases b<;>first|rfl|exact absurd rfl hb
  subst this;obtain⟨argTypes⟩:=argTypes;obtain⟨args⟩:=args;simp only at h;have e1:(List.toArray args).map a.eval=(args.map a.eval).toArray:=by simp
  rw[e1];unfold G0 at h;split at h
  ·contradiction
  ·contradiction
  ·rename_i t t' s x hx heq;match args,heq with
   |[o1,o2],heq=>
    simp only[List.map_cons,List.map_nil,List.cons.injEq,and_true] at heq;obtain⟨rfl,rfl⟩:=heq;split at h
    ·rename_i htt;subst htt;exact(rC hTY hns hH (hT.eval o1) (hT.eval o2) h).op
    ·exact(rD hTY hns hH (hT.eval o1) (hT.eval o2) h).op
  ·contradiction
  ·contradiction
  ·exact h.elim
end
end Go.Vc
