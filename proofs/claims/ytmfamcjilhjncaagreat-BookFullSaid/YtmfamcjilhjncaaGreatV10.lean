/- The executor over trees: code, functions. -/
import Derived.Test.YtmfamcjilhjncaaGreatV9
import Derived.Test.YtmfamcjilhjncaaGreatV7
import Derived.Test.YtmfamcjilhjncaaGreatV8
import Derived.Shelf.SlMaps.Clone
set_option linter.all false
namespace Go.Vc
open Go
noncomputable section
section
abbrev KT := Exit → TM → HM → List Nat → Option R
abbrev FC := TM → HM → List Nat → KT → Option R
def thenE (e : Exit) (a : Option R) (b : Exit → Option R) : Option R :=
  Exit.casesOn (motive := fun _ => Option R) e a (fun i => b (.exit i)) (fun l => b (.goto l)) (b .ret) (fun c => b (.panic c)) (b .outgrown)
theorem thenE_cases (e : Exit) (a : Option R) (b : Exit → Option R) : (e = .normal ∧ thenE e a b = a) ∨ (e ≠ .normal ∧ thenE e a b = b e) := by
  cases e <;> first | exact .inl ⟨rfl, rfl⟩ | exact .inr ⟨by simp, rfl⟩
noncomputable def iterT (f : FC) (n : Nat) : FC :=
  @Nat.rec (fun _ => FC) (fun _ _ _ _ => none) (fun _ ih m h dl K => f m h dl fun e m h dl => thenE e (ih m h dl K) (fun e => K e m h dl)) n
def endT (id : Nat) (m : TM) (dl : List Nat) (h : HM) (K : KT) : Option R :=
  match getH h id with
  | some (.ext (.loop s pend ts' ps asg body df)) => (match s with
    | .busy => none
    | _ => setHT (.ext (.loop .exhausted pend ts' ps asg body df)) h id fun h =>
      (match pend with
      | none => K .normal m h dl
      | some .ret => K .ret m h dl
      | some (.exit k) => K (.exit k) m h dl
      | _ => none))
  | _ => none
theorem endT_ok {id : Nat} {m : TM} {dl : List Nat} {h : HM} {K : KT} {x : R} (hk : endT id m dl h K = some x) :
    ∃ e h', endO id m.toL dl (toH h) = some (e, ⟨m.toL, toH h'⟩, dl) ∧ K e m h' dl = some x := by
  unfold endT at hk
  unfold endO
  rw [getH_eq] at hk
  rw [getO_eq]
  split at hk
  · rename_i s pend ts' ps asg body df hb
    rw [hb]
    simp only
    split at hk
    · cases hk
    · obtain ⟨h1, e1, hk⟩ := setHT_some hk
      simp only [setHZ_eq, ← e1]
      split at hk
      · exact ⟨_, _, rfl, hk⟩
      · exact ⟨_, _, rfl, hk⟩
      · exact ⟨_, _, rfl, hk⟩
      · cases hk
  · cases hk
def rngT (call : CallT) (isFn : FuncId → Bool) (inR : Option Nat) (f : Operand) (ps : Array Tmp) (asg body : Code) (m : TM) (h : HM) (dl : List Nat) (K : KT) : Option R :=
  match evT m f with
  | .fn g caps => (match isFn g with
    | false => none
    | true => (match inR with
      | none =>
        pushHT (.ext .dfr) h fun h1 => natR h.n fun n => natR (Nat.add n 1) fun n1 => pushHT (.ext (.loop .ready none m.toL ps asg body n)) h1 fun h2 =>
        (match call g (.yfn n1 :: caps) h2 with
          | some (_, h3) => endT n1 m (n :: dl) h3 K
          | none => none)
      | some l => (match getH h l with
        | some (.ext (.loop _ _ _ _ _ _ df)) =>
          natR h.n fun n => pushHT (.ext (.loop .ready none m.toL ps asg body df)) h fun h1 =>
          (match call g (.yfn n :: caps) h1 with
            | some (_, h2) => endT n m dl h2 K
            | none => none)
        | _ => none)))
  | _ => none
theorem rngT_ok {callT : CallT} {call : CallO} (hS : Sim callT call) {isFn : FuncId → Bool} {inR : Option Nat} {f : Operand} {ps : Array Tmp} {asg body : Code} {m : TM} {h : HM} {dl : List Nat} {K : KT} {x : R} (hk : rngT callT isFn inR f ps asg body m h dl K = some x) :
    ∃ e m' h' dl', rngO call isFn inR f ps asg body ⟨m.toL, toH h⟩ dl = some (e, ⟨m'.toL, toH h'⟩, dl') ∧ K e m' h' dl' = some x := by
  unfold rngT at hk
  unfold rngO
  rw [evT_eq] at hk
  simp only
  split at hk
  · rename_i g caps hg
    rw [hg]
    simp only
    split at hk
    · cases hk
    · rename_i hfn
      rw [hfn]
      simp only
      cases inR with
      | none =>
        simp only at hk ⊢
        obtain ⟨h1, e1, hk⟩ := pushHT_some hk
        simp only [natR_eq] at hk
        obtain ⟨h2, e2, hk⟩ := pushHT_some hk
        have hn : lenU (toH h) = h.n := by rw [lenU_eq, toH_length]
        simp only [pushZ_eq, natZ_eq, hn, ← e1]
        rw [← e2]
        split at hk
        · rename_i r h3 hc
          obtain ⟨e, h4, e4, hk⟩ := endT_ok hk
          rw [show h.n + 1 = Nat.add h.n 1 from rfl, hS _ _ _ _ _ hc]
          exact ⟨e, m, h4, _, e4, hk⟩
        · cases hk
      | some l =>
        simp only at hk ⊢
        rw [getH_eq] at hk
        rw [getO_eq]
        split at hk
        · rename_i s0 p0 t0 ps0 a0 b0 df hb
          rw [hb]
          simp only [natR_eq] at hk
          simp only [natZ_eq]
          obtain ⟨h1, e1, hk⟩ := pushHT_some hk
          have hn : lenU (toH h) = h.n := by rw [lenU_eq, toH_length]
          simp only [pushZ_eq, hn, ← e1]
          split at hk
          · rename_i r h3 hc
            obtain ⟨e, h4, e4, hk⟩ := endT_ok hk
            rw [hS _ _ _ _ _ hc]
            exact ⟨e, m, h4, _, e4, hk⟩
          · cases hk
        · cases hk
  · cases hk
def kNone : FC := fun _ _ _ _ => none
def kEnd (e : Exit) : FC := fun m h dl K => K e m h dl
def kRegion (TY : TypeId → Option TI) (call : CallT) (ord : Nat → Option RO) (inR : Option Nat) (id : Nat) (ops : Array Oper) (dr : Bool) : FC := fun m h dl K => match dr with
  | false => regT TY call ops ops.toList m h fun m h => K .normal m h dl
  | true => (match inR with
    | none => (match ord id with | some r => drawT TY call ops r m h fun m h => K .normal m h dl | none => none)
    | some _ => (match okQ ops (ordC ops).l (ordC ops).fl with | true => drawT TY call ops (ordC ops) m h fun m h => K .normal m h dl | false => none))
def kSeq (fx fy : FC) : FC := fun m h dl K => fx m h dl fun e m h dl => thenE e (fy m h dl K) (fun e => K e m h dl)
/-- By a test's outcome. -/
noncomputable def boolK (a : AV) (x y : Unit → Option R) : Option R := @AV.rec (fun _ => (Unit → Option R) → (Unit → Option R) → Option R) (fun _ => Unit) (fun _ _ => none) (fun b x y => @Bool.rec (fun _ => Option R) (y ()) (x ()) b) (fun _ _ _ _ => none) (fun _ _ _ => none) (fun _ _ => none) (fun _ _ _ _ => none) (fun _ _ _ _ _ _ => none) (fun _ _ _ _ _ => none) (fun _ _ => none) (fun _ _ _ _ _ _ _ => none) (fun _ _ _ _ _ _ _ => none) (fun _ _ _ _ => none) (fun _ _ _ _ => none) (fun _ _ _ _ _ => none) (fun _ _ => none) (fun _ _ => none) (fun _ _ _ => none) (fun _ _ => none) (fun _ _ _ _ _ => none) (fun _ _ _ => none) (fun _ _ _ => none) (fun _ _ _ => none) () (fun _ _ _ _ => ()) a x y
def boolKc (a : AV) (x y : Unit → Option R) : Option R := match a with
  | .bool b => (match b with | true => x () | false => y ())
  | _ => none
theorem boolK_c : @boolK = @boolKc := by funext a x y; cases a <;> first | rfl | (rename_i b; cases b <;> rfl)
def kCond (c : Operand) (fx fy : FC) : FC := fun m h dl K => boolK (evT m c) (fun _ => fx m h dl K) (fun _ => fy m h dl K)
def kBlock (id : Nat) (fc : FC) : FC := fun m h dl K => fc m h dl fun e m h dl => (match e with
  | .exit id' => (match Nat.beq id' id with | true => K .normal m h dl | false => K (.exit id') m h dl)
  | e => K e m h dl)
noncomputable def codeT (TY : TypeId → Option TI) (call : CallT) (isFn : FuncId → Bool) (ord : Nat → Option RO) (inR : Option Nat) (c : Code) : FC :=
  @Code.rec (fun _ => FC) (kEnd .normal) (kRegion TY call ord inR) (fun _ _ fx fy => kSeq fx fy) (fun c _ _ fx fy => kCond c fx fy) (fun id _ fc => kBlock id fc) (fun _ fc => iterT fc roundsMax)
    (fun f ps asg body _ _ => rngT call isFn inR f ps asg body) (fun id => kEnd (.exit id)) (fun _ _ => kNone) (fun _ => kNone) (fun _ => kNone) (kEnd .ret) (fun _ => kNone) c
theorem codeT_loop (TY : TypeId → Option TI) (call : CallT) (isFn : FuncId → Bool) (ord : Nat → Option RO) (inR : Option Nat) (c : Code) : (codeT TY call isFn ord inR (.loop c) : FC) = iterT (codeT TY call isFn ord inR c) roundsMax := by
  unfold codeT
  rfl
theorem iterT_ok {f : FC} {g : St → List Nat → Out} {K : KT} {x : R}
    (hf : ∀ {m : TM} {h : HM} {dl : List Nat} {K : KT}, f m h dl K = some x → ∃ e m' h' dl', g ⟨m.toL, toH h⟩ dl = some (e, ⟨m'.toL, toH h'⟩, dl') ∧ K e m' h' dl' = some x) :
    ∀ (n : Nat) {m : TM} {h : HM} {dl : List Nat}, iterT f n m h dl K = some x → ∃ e m' h' dl', iterO g n ⟨m.toL, toH h⟩ dl = some (e, ⟨m'.toL, toH h'⟩, dl') ∧ K e m' h' dl' = some x
  | 0, m, h, dl, hk => by cases hk
  | n + 1, m, h, dl, hk => by
    obtain ⟨e, m1, h1, dl1, e1, hk⟩ := hf (show f m h dl (fun e m h dl => thenE e (iterT f n m h dl K) (fun e => K e m h dl)) = some x from hk)
    rw [iterO, e1]
    simp only
    rcases thenE_cases e (iterT f n m1 h1 dl1 K) (fun e => K e m1 h1 dl1) with ⟨rfl, q⟩ | ⟨hne, q⟩
    · rw [q] at hk
      exact iterT_ok hf n hk
    · rw [q] at hk
      refine ⟨e, m1, h1, dl1, ?_, hk⟩
      cases e <;> first | rfl | exact absurd rfl hne
theorem codeT_ok {TY : TypeId → Option TI} {callT : CallT} {call : CallO} (hS : Sim callT call) {isFn : FuncId → Bool} {ord : Nat → Option RO} {inR : Option Nat} {x : R} : ∀ (c : Code) {m : TM} {h : HM} {dl : List Nat} {K : KT},
    codeT TY callT isFn ord inR c m h dl K = some x → ∃ e m' h' dl', codeO TY call isFn ord inR c ⟨m.toL, toH h⟩ dl = some (e, ⟨m'.toL, toH h'⟩, dl') ∧ K e m' h' dl' = some x := by
  intro c
  induction c with
  | skip => intro m h dl K hk; exact ⟨_, m, h, dl, by rw [codeO], hk⟩
  | ret => intro m h dl K hk; exact ⟨_, m, h, dl, by rw [codeO], hk⟩
  | exit id => intro m h dl K hk; exact ⟨_, m, h, dl, by rw [codeO], hk⟩
  | region id ops dr =>
    intro m h dl K hk
    have hk : kRegion TY callT ord inR id ops dr m h dl K = some x := hk
    unfold kRegion at hk
    rw [codeO]
    unfold regionO
    cases dr with
    | false =>
      obtain ⟨m1, h1, e1, hk⟩ := regT_ok hS hk
      simp only [e1]
      exact ⟨_, m1, h1, dl, rfl, hk⟩
    | true =>
      simp only at hk ⊢
      split at hk
      · split at hk
        · rename_i r hr
          obtain ⟨m1, h1, e1, hk⟩ := drawT_ok hS hk
          simp only [hr, e1]
          exact ⟨_, m1, h1, dl, rfl, hk⟩
        · cases hk
      · split at hk
        · rename_i hq
          obtain ⟨m1, h1, e1, hk⟩ := drawT_ok hS hk
          simp only [hq, e1]
          exact ⟨_, m1, h1, dl, rfl, hk⟩
        · cases hk
  | seq a b iha ihb =>
    intro m h dl K hk
    obtain ⟨e, m1, h1, dl1, e1, hk⟩ := iha (show codeT TY callT isFn ord inR a m h dl (fun e m h dl => thenE e (codeT TY callT isFn ord inR b m h dl K) (fun e => K e m h dl)) = some x from hk)
    rw [codeO, e1]
    simp only
    rcases thenE_cases e (codeT TY callT isFn ord inR b m1 h1 dl1 K) (fun e => K e m1 h1 dl1) with ⟨rfl, q⟩ | ⟨hne, q⟩
    · rw [q] at hk
      exact ihb hk
    · rw [q] at hk
      refine ⟨e, m1, h1, dl1, ?_, hk⟩
      cases e <;> first | rfl | exact absurd rfl hne
  | cond c a b iha ihb =>
    intro m h dl K hk
    have hk : kCond c (codeT TY callT isFn ord inR a) (codeT TY callT isFn ord inR b) m h dl K = some x := hk
    unfold kCond at hk
    rw [boolK_c] at hk
    unfold boolKc at hk
    rw [codeO]
    rw [evT_eq] at hk
    split at hk
    · rename_i b' hb
      simp only [hb]
      split at hk
      · exact iha hk
      · exact ihb hk
    · cases hk
  | block id c ih =>
    intro m h dl K hk
    have hk : kBlock id (codeT TY callT isFn ord inR c) m h dl K = some x := hk
    unfold kBlock at hk
    obtain ⟨e, m1, h1, dl1, e1, hk⟩ := ih hk
    rw [codeO, e1]
    simp only
    cases e with
    | exit id' =>
      simp only at hk ⊢
      cases hb : Nat.beq id' id <;> rw [hb] at hk <;> exact ⟨_, m1, h1, dl1, rfl, hk⟩
    | _ => exact ⟨_, m1, h1, dl1, rfl, hk⟩
  | loop c ih =>
    intro m h dl K hk
    rw [codeO]
    rw [codeT_loop] at hk
    exact iterT_ok (fun hk => ih hk) roundsMax hk
  | rangeFunc f ps asg body _ _ =>
    intro m h dl K hk
    rw [codeO]
    exact rngT_ok hS hk
  | _ => intro m h dl K hk; cases hk
def shutT : List Nat → HM → (HM → Option R) → Option R
  | [], h, K => K h
  | id :: dl, h, K => (match getH h id with
    | some (.ext .dfr) => setHT .dead h id fun h => shutT dl h K
    | _ => none)
theorem shutT_ok {K : HM → Option R} {x : R} : ∀ {dl : List Nat} {h : HM}, shutT dl h K = some x → ∃ h', shutO dl (toH h) = some (toH h') ∧ K h' = some x
  | [], h, hk => ⟨h, rfl, hk⟩
  | id :: dl, h, hk => by
    rw [shutT, getH_eq] at hk
    rw [shutO, getO_eq]
    split at hk
    · rename_i hb
      rw [hb]
      obtain ⟨h1, e1, hk⟩ := setHT_some hk
      obtain ⟨h2, e2, hk⟩ := shutT_ok hk
      exact ⟨h2, by simp only [setHZ_eq, ← e1]; exact e2, hk⟩
    · cases hk
end
def resLT (TY : TypeId → Option TI) (m : TM) (h : HM) : List ResultVar → Option (List AV)
  | [] => some []
  | .tmp t :: rs => (match resLT TY m h rs with | some cs => headZ (getT m t) fun c => some (c :: cs) | none => none)
  | .cell a t :: rs => (match loadPO TY t (getT m a) (hv h) with
    | some c => (match resLT TY m h rs with | some cs => headZ c fun c => some (c :: cs) | none => none)
    | none => none)
theorem resLT_eq {TY : TypeId → Option TI} {m : TM} {h : HM} : ∀ rs : List ResultVar, resLT TY m h rs = resLO TY ⟨m.toL, toH h⟩ rs
  | [] => rfl
  | .tmp t :: rs => by rw [resLT, resLO, resLT_eq rs, getT_eq]; rfl
  | .cell a t :: rs => by rw [resLT, resLO, resLT_eq rs, getT_eq, hv_eq]; rfl
def outT (TY : TypeId → Option TI) (rs : List ResultVar) (m : TM) (h : HM) (dl : List Nat) : Option (AV × HM) :=
  shutT dl h fun h => (match resLT TY m h rs with
    | some cs => some (resOutO cs, h)
    | none => none)
theorem outT_ok {TY : TypeId → Option TI} {rs : List ResultVar} {m : TM} {h h' : HM} {dl : List Nat} {r : AV} (hk : outT TY rs m h dl = some (r, h')) : outO TY rs ⟨m.toL, toH h⟩ dl = some (r, toH h') := by
  obtain ⟨h1, e1, hk⟩ := shutT_ok hk
  unfold outO
  simp only [e1]
  rw [resLT_eq] at hk
  split at hk
  · rename_i cs hcs
    cases hk
    simp only [hcs]
  · cases hk
def fnT (TY : TypeId → Option TI) (call : CallT) (isFn : FuncId → Bool) (ord : Nat → Option RO) (fn : Func) (args : List AV) (h : HM) : Option (AV × HM) :=
  match fn.body with
  | none => none
  | some c => freshT args (Nat.sub fn.ntmps (lenU args)) fun m => codeT TY call isFn ord none c m h [] fun e m h dl => (match e with
    | .normal => outT TY fn.results.toList m h dl
    | .ret => outT TY fn.results.toList m h dl
    | _ => none)
theorem fnT_ok {TY : TypeId → Option TI} {callT : CallT} {call : CallO} (hS : Sim callT call) {isFn : FuncId → Bool} {ord : Nat → Option RO} {fn : Func} {args : List AV} {h h' : HM} {r : AV} (hk : fnT TY callT isFn ord fn args h = some (r, h')) :
    fnO TY call isFn ord fn args (toH h) = some (r, toH h') := by
  unfold fnT at hk
  unfold fnO
  split at hk
  · cases hk
  · rename_i c hb
    rw [hb]
    obtain ⟨m1, e1, hk⟩ := freshT_some hk
    rw [lenU_eq] at e1
    obtain ⟨e, m2, h2, dl2, e2, hk⟩ := codeT_ok hS c hk
    rw [e1] at e2
    simp only
    rw [show fn.ntmps - args.length = Nat.sub fn.ntmps args.length from rfl, e2]
    simp only
    split at hk
    · exact outT_ok hk
    · exact outT_ok hk
    · cases hk
def beginT (id : Nat) (h : HM) (K : HM → Option (AV × HM)) : Option (AV × HM) := match getH h id with
  | some (.ext (.loop s pend ts ps asg body df)) => (match s with
    | .ready => setHT (.ext (.loop .busy pend ts ps asg body df)) h id K
    | _ => none)
  | _ => none
def roundT (id : Nat) (jump : Option Code) (h : HM) : Option (AV × HM) := match getH h id with
  | some (.ext (.loop _ _ ts ps asg body df)) =>
    setHT (.ext (.loop (match jump with | none => .ready | some _ => .done) jump ts ps asg body df)) h id fun h => some (.bool (match jump with | none => true | some _ => false), h)
  | _ => none
theorem roundT_ok {id : Nat} {jump : Option Code} {h h' : HM} {r : AV} (hk : roundT id jump h = some (r, h')) : roundO id jump (toH h) = some (r, toH h') := by
  unfold roundT at hk
  unfold roundO
  rw [getH_eq] at hk
  rw [getO_eq]
  split at hk
  · rename_i hb
    rw [hb]
    obtain ⟨h1, e1, hk⟩ := setHT_some hk
    cases hk
    simp only [setHZ_eq, e1]
    rfl
  · cases hk
def setsK : List (Tmp × AV) → TM → (TM → Option R) → Option R
  | [], m, K => K m
  | (t, a) :: l, m, K => setT m t a fun m => setsK l m K
theorem setsK_some {K : TM → Option R} {x : R} : ∀ {l : List (Tmp × AV)} {m : TM}, setsK l m K = some x → ∃ m', m'.toL = l.foldl (fun t p => t.set p.1 p.2) m.toL ∧ K m' = some x
  | [], m, hk => ⟨m, rfl, hk⟩
  | (t, a) :: l, m, hk => by
    obtain ⟨m1, e1, _, hk⟩ := setT_some hk
    obtain ⟨m2, e2, hk⟩ := setsK_some hk
    exact ⟨m2, by rw [e2, e1]; rfl, hk⟩
def yldT (TY : TypeId → Option TI) (call : CallT) (isFn : FuncId → Bool) (args : List AV) (h : HM) : Option (AV × HM) :=
  match args with
  | .yfn id :: args => (match getH h id with
    | some (.ext (.loop _ _ ts ps asg body _)) => (match Nat.beq args.length ps.size with
      | true => freshT ts 0 fun m => setsK (ps.toList.zip args) m fun m => codeT TY call isFn (fun _ => none) (some id) asg m h [] fun e m h dl => (match e with
        | .normal => beginT id h fun h => codeT TY call isFn (fun _ => none) (some id) body m h dl fun e _ h _ => (match e with
            | .normal => roundT id none h
            | .ret => roundT id (some .ret) h
            | .exit k => roundT id (some (.exit k)) h
            | _ => none)
        | _ => none)
      | false => none)
    | _ => none)
  | _ => none
theorem yldT_ok {TY : TypeId → Option TI} {callT : CallT} {call : CallO} (hS : Sim callT call) {isFn : FuncId → Bool} {args : List AV} {h h' : HM} {r : AV} (hk : yldT TY callT isFn args h = some (r, h')) : yldO TY call isFn args (toH h) = some (r, toH h') := by
  unfold yldT at hk
  unfold yldO
  split at hk
  · rename_i id args
    simp only
    rw [getH_eq] at hk
    rw [getO_eq]
    split at hk
    · rename_i s0 p0 ts ps asg body df hb
      rw [hb]
      simp only
      split at hk
      · rename_i hl
        rw [hl]
        simp only
        obtain ⟨m1, e1, hk⟩ := freshT_some hk
        obtain ⟨m2, e2, hk⟩ := setsK_some hk
        obtain ⟨e, m3, h3, dl3, e3, hk⟩ := codeT_ok hS asg hk
        rw [e2, e1] at e3
        simp only [List.replicate_zero, List.append_nil] at e3
        rw [e3]
        split at hk
        · simp only
          unfold beginT at hk
          unfold beginO
          rw [getH_eq] at hk
          rw [getO_eq]
          split at hk
          · rename_i s1 p1 ts1 ps1 asg1 body1 df1 hb1
            rw [hb1]
            simp only
            split at hk
            · obtain ⟨h4, e4, hk⟩ := setHT_some hk
              rw [setHZ_eq, ← e4]
              obtain ⟨e, m5, h5, dl5, e5, hk⟩ := codeT_ok hS body hk
              rw [e5]
              simp only
              split at hk
              · exact roundT_ok hk
              · exact roundT_ok hk
              · exact roundT_ok hk
              · cases hk
            · cases hk
          · cases hk
        · cases hk
      · cases hk
    · cases hk
  · cases hk
/-- The functions, by how deep they may call. -/
def tabT (TY : TypeId → Option TI) (prog : FuncId → Option (Func × (Nat → Option RO))) (ins : FuncId → Option (List AV → HM → Option (AV × HM))) : Nat → CallT
  | 0 => fun _ _ _ => none
  | n + 1 => fun f args h => (match Nat.beq f YF with
    | true => yldT TY (tabT TY prog ins n) (fun g => (prog g).isSome) args h
    | false => (match prog f with
      | some (fn, ord) => fnT TY (tabT TY prog ins n) (fun g => (prog g).isSome) ord fn args h
      | none => (match ins f with
        | some k => k args h
        | none => none)))
/-- What the two tables say of the functions that are not walked. -/
def InsOk (insT : FuncId → Option (List AV → HM → Option (AV × HM))) (ins : FuncId → Option (List AV → List Blk → Option (AV × List Blk))) : Prop :=
  ∀ g k args h r h', insT g = some k → k args h = some (r, h') → ∃ k', ins g = some k' ∧ k' args (toH h) = some (r, toH h')
theorem tabT_ok {TY : TypeId → Option TI} {prog : FuncId → Option (Func × (Nat → Option RO))} {insT : FuncId → Option (List AV → HM → Option (AV × HM))} {ins : FuncId → Option (List AV → List Blk → Option (AV × List Blk))} (hi : InsOk insT ins) :
    ∀ n, Sim (tabT TY prog insT n) (tabO TY prog ins n)
  | 0 => fun f args h r h' hk => by cases hk
  | n + 1 => fun f args h r h' hk => by
    have ih := tabT_ok (TY := TY) (prog := prog) hi n
    rw [tabT] at hk
    rw [tabO]
    simp only at hk ⊢
    cases hb : Nat.beq f YF with
    | true => rw [hb] at hk; exact yldT_ok ih hk
    | false =>
      rw [hb] at hk
      simp only at hk ⊢
      cases hp : prog f with
      | some v => obtain ⟨fn, ord⟩ := v; rw [hp] at hk; exact fnT_ok ih hk
      | none =>
        rw [hp] at hk
        simp only at hk ⊢
        cases hg : insT f with
        | none => rw [hg] at hk; cases hk
        | some k =>
          rw [hg] at hk
          obtain ⟨k', e1, e2⟩ := hi f k args h r h' hg hk
          rw [e1]
          exact e2
/-- maps.clone. -/
def cloneT (args : List AV) (h : HM) : Option (AV × HM) := match args with
  | [.iface t x] => (match x with
    | .map id => (match getH h id with
      | some (.map es bk) => natR h.n fun n => pushHT (.map es bk) h fun h => some (.iface t (.map n), h)
      | _ => none)
    | _ => none)
  | _ => none
end
end Go.Vc

/- maps.clone, which the model stands in for. -/
namespace Go.Vc
open Go Go.Proofs
noncomputable section
theorem goodI_clone {F : Nat → Obj → Prop} {P : Program} {g : FuncId} {fn : Func} (hf : P.funcs[g]? = some fn) (hname : (fn.name == "runtime.NumGoroutine") = false)
    (hb : fn.body.isNone = true) (hn : Extern.findNext fn = none) (he : Extern.find fn = some Extern.MapsClone.clone) :
    GoodI F P g (fun args H Q => ∃ r H', cloneO args H = some (r, H') ∧ Q r H') := by
  intro ρ S w H cs vs Q hs hH hv hk
  obtain ⟨r, H', h, hQ⟩ := hk
  unfold cloneO at h
  try simp only [getO_arr] at h
  try simp only [getO_eq, lenU_eq] at h
  split at h
  · rename_i t x
    split at h
    · rename_i id
      split at h
      · rename_i es bk hid
        simp only [natZ_eq, pushZ_eq] at h
        cases h
        obtain ⟨hsz, hv⟩ := hv
        obtain ⟨v, rfl⟩ : ∃ v, vs = #[v] := by
          have : vs.size = 1 := by simpa using hsz.symm
          exact Array.size_eq_one_iff.mp this
        have hv0 := hv 0 _ v rfl rfl
        cases hv0 with
        | iface _ _ u hu =>
          cases hu with
          | map _ b hb' =>
            obtain ⟨h1, es', clock, h2, h3, h4, h5⟩ := hH.blk id _ hid b hb'
            have hE := ext_alloc hH (.map es' clock)
            refine ⟨.iface t (.map (some w.heap.size)), w.alloc (.map es' clock), _, _, newρ ρ H.length w.heap.size, S, ?_, hQ, ?_, ?_, hE, hs.still hE⟩
            · rw [run_callFunc_extern hf hname hb hn he, run_maps_clone_sl w t h2]
              rfl
            · exact .iface _ _ _ (.map _ _ (by simp [newρ]))
            · refine hrel_alloc hH _ ?_
              intro b2 hb2
              have : w.heap.size = b2 := by simpa [newρ] using hb2
              subst this
              refine ⟨fun hS => Nat.lt_irrefl _ (hs.lt _ hS), es', clock, heap_alloc_at w _, h3, h4, fun i k x e hi he => ⟨((h5 i k x e hi he).1).mono hE, ((h5 i k x e hi he).2).mono hE⟩⟩
      · cases h
    · cases h
  · cases h
theorem cloneT_ok {args : List AV} {h h' : HM} {r : AV} (hk : cloneT args h = some (r, h')) : cloneO args (toH h) = some (r, toH h') := by
  unfold cloneT at hk
  unfold cloneO
  split at hk
  · simp only
    split at hk
    · rename_i id
      rw [getH_eq] at hk
      simp only [getO_eq]
      split at hk
      · rename_i es bk hb
        rw [hb]
        simp only [natR_eq] at hk
        obtain ⟨h1, e1, hk⟩ := pushHT_some hk
        cases hk
        simp only [natZ_eq, pushZ_eq, lenU_eq, toH_length, e1]
      · cases hk
    · cases hk
  · cases hk
end
end Go.Vc

/- Calls that touch no memory of ours are run at no memory at all. -/
namespace Go.Vc
open Go
noncomputable section
/-- No pointers, no rows. -/
noncomputable def plain (a : AV) : Bool := @AV.rec (fun _ => Bool) (fun _ => Bool) true (fun _ => true) (fun _ _ => true) (fun _ => true) true (fun _ _ => false) (fun _ _ _ _ => false) (fun _ _ _ => false) true (fun _ _ _ _ _ => false) (fun _ _ _ _ _ => false)
  (fun _ ih => ih) (fun _ ih => ih) (fun _ _ ih => ih) true true (fun _ => false) true (fun _ _ ih => ih) (fun _ => false) (fun _ => false) (fun _ => true) true (fun _ _ a l => @Bool.rec (fun _ => Bool) false l a) a
noncomputable def plainL (l : List AV) : Bool := @List.rec AV (fun _ => Bool) true (fun a _ ih => @Bool.rec (fun _ => Bool) false ih (plain a)) l
mutual
def plainc : AV → Bool
  | .ptr .. | .eptr .. | .rptr .. | .sl .. | .osl .. | .map _ | .iter _ | .yfn _ => false
  | .agg cs => plainLc cs
  | .tup cs => plainLc cs
  | .fn _ cs => plainLc cs
  | .iface _ v => plainc v
  | _ => true
def plainLc : List AV → Bool
  | [] => true
  | a :: l => (match plainc a with | true => plainLc l | false => false)
end
theorem plainL_agg (cs : List AV) : plain (.agg cs) = plainL cs := by
  show @AV.rec_1 _ _ _ _ _ _ _ _ _ _ _ _ _ _ _ _ _ _ _ _ _ _ _ _ _ _ cs = _
  induction cs with
  | nil => rfl
  | cons a l ih => show @Bool.rec (fun _ => Bool) false _ (plain a) = @Bool.rec (fun _ => Bool) false (plainL l) (plain a); rw [ih]
theorem plainL_cons {a : AV} {l : List AV} (h : plainL (a :: l) = true) : plain a = true ∧ plainL l = true := by
  have h : @Bool.rec (fun _ => Bool) false (plainL l) (plain a) = true := h
  cases ha : plain a with
  | true => rw [ha] at h; exact ⟨rfl, h⟩
  | false => rw [ha] at h; cases h
theorem plainL_get : ∀ {l : List AV} {i : Nat} {c : AV}, plainL l = true → l[i]? = some c → plain c = true
  | a :: l, 0, c, h, hc => by cases hc; exact (plainL_cons h).1
  | a :: l, i + 1, c, h, hc => plainL_get (plainL_cons h).2 (by simpa using hc)
mutual
theorem plain_eq : ∀ a : AV, plain a = plainc a
  | .any | .bool _ | .int _ _ | .str _ | .nilp | .ptr _ _ | .eptr _ _ _ _ | .rptr _ _ | .nilsl | .sl _ _ _ _ | .osl _ _ _ _ _ | .nilfn | .nilmap | .map _ | .nilif | .iter _ | .yfn _ | .intu _ => by simp only [plainc] <;> rfl
  | .agg cs => by rw [plainL_agg, plainL_eq cs, plainc]
  | .tup cs => by rw [show plain (.tup cs) = plain (.agg cs) from rfl, plainL_agg, plainL_eq cs, plainc]
  | .fn f cs => by rw [show plain (.fn f cs) = plain (.agg cs) from rfl, plainL_agg, plainL_eq cs, plainc]
  | .iface t v => by rw [show plain (.iface t v) = plain v from rfl, plain_eq v, plainc]
theorem plainL_eq : ∀ l : List AV, plainL l = plainLc l
  | [] => rfl
  | a :: l => by
    show @Bool.rec (fun _ => Bool) false (plainL l) (plain a) = _
    rw [plain_eq a, plainL_eq l, plainLc]
    cases plainc a <;> rfl
end
section
variable {S S' : Nat → Prop} {w w' : World}
theorem plain_V {ρ : Nat → Option Nat} {c : AV} {v : Value} (h : V ρ S w c v) : ∀ {ρ' : Nat → Option Nat}, plain c = true → V ρ' S' w' c v := by
  induction h with
  | any v => intro ρ' _; exact .any v
  | bool b => intro ρ' _; exact .bool b
  | int k n h1 h2 => intro ρ' _; exact .int k n h1 h2
  | intu k n h1 h2 => intro ρ' _; exact .intu k n h1 h2
  | cellu v h => intro ρ' _; exact .cellu v h
  | str l s h h2 => intro ρ' _; exact .str l s h h2
  | nilp => intro ρ' _; exact .nilp
  | nilsl => intro ρ' _; exact .nilsl
  | agg cs vs hl hv ih => intro ρ' hf; exact .agg cs vs hl fun i c v hc hv' => ih i c v hc hv' (plainL_get (plainL_agg cs ▸ hf) hc)
  | tup cs vs hl hv ih => intro ρ' hf; exact .tup cs vs hl fun i c v hc hv' => ih i c v hc hv' (plainL_get (plainL_agg cs ▸ (show plain (.agg cs) = true from hf)) hc)
  | fn f cs vs hl hv ih => intro ρ' hf; exact .fn f cs vs hl fun i c v hc hv' => ih i c v hc hv' (plainL_get (plainL_agg cs ▸ (show plain (.agg cs) = true from hf)) hc)
  | nilfn => intro ρ' _; exact .nilfn
  | nilmap => intro ρ' _; exact .nilmap
  | nilif => intro ρ' _; exact .nilif
  | iface t a v hv ih => intro ρ' hf; exact .iface t a v (ih hf)
  | _ => intro ρ' hf; cases hf
end
def pureO (call : CallO) (f : FuncId) (args : List AV) (H : List Blk) : Option (AV × List Blk) := match plainL args with
  | false => call f args H
  | true => (match call f args [] with
    | some (r, _) => (match plain r with
      | true => some (r, H)
      | false => call f args H)
    | none => none)
theorem good_pure {F : Nat → Obj → Prop} {P : Program} {call : CallO} {f : FuncId} (hG : Good F P f (KO call f)) :
    Good F P f (fun args H Q => ∃ r H', pureO call f args H = some (r, H') ∧ Q r H') := by
  intro ρ S w H cs vs Q hs hH hv hk
  obtain ⟨r, H', h, hQ⟩ := hk
  have slow : call f cs H = some (r, H') → Calls P f vs w fun e w' => ∃ v c H' ρ' S', e = .returned v ∧ Q c H' ∧ V ρ' S' w' c v ∧ HRel ρ' S' w' H' ∧ Ext ρ S w ρ' S' w' ∧ Sok F S' w' := fun hc => hG ρ S w H cs vs Q hs hH hv ⟨r, H', hc, hQ⟩
  unfold pureO at h
  split at h
  · exact slow h
  · rename_i hfl
    split at h
    · rename_i r0 H0 hc
      split at h
      · rename_i hr
        cases h
        have hH0 : HRel (fun _ => none) S w [] := ⟨fun i j bi bj b h => by simp at h, fun i b h => by simp at h, fun i b h => by cases h⟩
        have hv0 : VL (fun _ => none) S w cs vs := ⟨hv.1, fun i c v hc hi => plain_V (hv.2 i c v hc hi) (plainL_get hfl hc)⟩
        refine (hG _ S w [] cs vs (fun c _ => c = r) hs hH0 hv0 ⟨r, H0, hc, rfl⟩).mono ?_
        rintro e w' ⟨v, c, H1, ρ1, S1, rfl, rfl, hv1, hH1, hE1, hs1⟩
        have hsame : ∀ b, b < w.heap.size → w'.heap[b]? = w.heap[b]? := fun b hb => hE1.same b hb (.inr fun i h => by cases h)
        have hE : Ext ρ S w ρ S w' := {
          rho := fun _ _ h => h
          st := fun _ h => h
          same := fun b hb _ => hsame b hb
          size := hE1.size
          shp := hE1.shp
          fresh := fun _ _ h => .inl ⟨_, h⟩
          stf := fun _ h => .inl h
          os := hE1.os
          tape := hE1.tape
          output := hE1.output
          drawn := hE1.drawn }
        have hH2 : HRel ρ S w' H := {
          inj := hH.inj
          blk := fun i b hi => (hH.blk i b hi).keep hE fun b' hb' => ⟨hb', hsame b' (hH.out i b' hb').2, fun h => h⟩
          out := fun i b hi => ⟨(hH.out i b hi).1, Nat.lt_of_lt_of_le (hH.out i b hi).2 hE1.size⟩ }
        exact ⟨v, c, H, ρ, S, rfl, hQ, plain_V hv1 hr, hH2, hE, hs.still hE⟩
      · exact slow h
    · cases h
/-- The same over trees. -/
def pureT (call : CallT) (f : FuncId) (args : List AV) (h : HM) : Option (AV × HM) := match plainL args with
  | false => call f args h
  | true => (match call f args noH with
    | some (r, _) => (match plain r with
      | true => some (r, h)
      | false => call f args h)
    | none => none)
theorem pureT_ok {callT : CallT} {call : CallO} (hS : Sim callT call) {f : FuncId} {args : List AV} {h h' : HM} {r : AV} (hk : pureT callT f args h = some (r, h')) : pureO call f args (toH h) = some (r, toH h') := by
  unfold pureT at hk
  unfold pureO
  split at hk
  · exact hS _ _ _ _ _ hk
  · try simp only
    split at hk
    · rename_i r0 h0 hc
      rw [show call f args [] = some (r0, toH h0) from noH_eq ▸ hS _ _ _ _ _ hc]
      simp only
      split at hk
      · rename_i hr
        cases hk
        rfl
      · exact hS _ _ _ _ _ hk
    · cases hk
end
end Go.Vc

/- Operations one by one; heaps cut short; calls at a part of one's own memory. -/
namespace Go.Vc
open Go
noncomputable section
section
variable {F : Nat → Obj → Prop} {P : Program} {TY : TypeId → Option TI} {call : CallO} {ops : Array Oper} {ds : List Deferred} {Fe : Fence} {dn : Nat}
theorem opP_sound (hO : Open Fe) (hTY : TyOk P TY) (hC : CtrOk F P (CO call)) {Q : Exit → Act → World → Prop} {o : Oper} {l : List Oper} {ρ : Nat → Option Nat} {S : Nat → Prop} {w : World} {st : St} {a : Act} (hR : RelX F ds ρ S st a w) {M : AV → List Blk → Prop}
    (hw : wantO ops o st.tmps = some true) (h : effQ TY (CO call) wT o st.tmps st.heap M)
    (hk : ∀ r H' ρ' S' a' w', M r H' → RelX F ds ρ' S' ⟨put st.tmps o.dst r, H'⟩ a' w' → Ext ρ S w ρ' S' w' → wpListIn Fe dn P ops Q l a' w') : wpListIn Fe dn P ops Q (o :: l) a w := by
  unfold wpListIn
  rw [if_pos (want_ok hR.tmps hw)]
  refine Oper.wpIn_mono (fun a' w' hr => ?_) (effQ_sound (Q := Q) hO hTY hC o hR h)
  obtain ⟨r1, H1, ρ', S', hM, h2, h3, _⟩ := hr
  exact hk _ _ _ _ _ _ hM h2 h3
theorem regP_sound (hO : Open Fe) (hTY : TyOk P TY) (hC : CtrOk F P (CO call)) {Q : Exit → Act → World → Prop} {l2 : List Oper} : ∀ (l : List Oper) {ρ : Nat → Option Nat} {S : Nat → Prop} {w : World} {st st' : St} {a : Act}, RelX F ds ρ S st a w →
    regO TY call ops l st = some st' → (∀ ρ' S' a' w', RelX F ds ρ' S' st' a' w' → Ext ρ S w ρ' S' w' → wpListIn Fe dn P ops Q l2 a' w') → wpListIn Fe dn P ops Q (l ++ l2) a w
  | [], ρ, S, w, st, st', a, hR, h, hQ => by
    cases h
    exact hQ ρ S a w hR (Ext.refl _ _ _)
  | o :: rest, ρ, S, w, st, st', a, hR, h, hQ => by
    rw [regO] at h
    show wpListIn Fe dn P ops Q (o :: (rest ++ l2)) a w
    split at h
    · rename_i st1 h1
      unfold opGO at h1
      unfold wpListIn
      split at h1
      · rename_i hw
        rw [if_pos (want_ok hR.tmps hw)]
        split at h1
        · rename_i r H' hr
          rw [putZ_eq] at h1
          cases h1
          refine Oper.wpIn_mono (fun a' w' hr => ?_) (effQ_sound (Q := Q) hO hTY hC o hR (resO_ok (M := fun r1 H1 => r1 = r ∧ H1 = H') hr ⟨rfl, rfl⟩))
          obtain ⟨r1, H1, ρ', S', ⟨rfl, rfl⟩, h2, h3, _⟩ := hr
          exact regP_sound hO hTY hC rest h2 h (fun ρ2 S2 a2 w2 h4 h5 => hQ ρ2 S2 a2 w2 h4 (h3.trans h5))
        · cases h1
      · rename_i hw
        rw [if_neg (by rw [want_ok hR.tmps hw]; simp)]
        rw [putZ_eq] at h1
        cases h1
        exact ⟨fun f _ => hO.fn f, regP_sound hO hTY hC rest (Rel.put hR (Ext.refl _ _ _) hR.sok hR.heap (.tup _ _ rfl (fun i c v hc => by simp at hc)) _) h hQ⟩
      · cases h1
    · cases h
theorem regN_sound (hO : Open Fe) (hTY : TyOk P TY) (hC : CtrOk F P (CO call)) {Q : Exit → Act → World → Prop} {l : List Oper} {ρ : Nat → Option Nat} {S : Nat → Prop} {w : World} {st st' : St} {a : Act} (hR : RelX F ds ρ S st a w)
    (h : regO TY call ops l st = some st') (hQ : ∀ ρ' S' a' w', RelX F ds ρ' S' st' a' w' → Ext ρ S w ρ' S' w' → Q .normal a' w') : wpListIn Fe dn P ops Q l a w :=
  regO_sound hO hTY hC l hR h fun a' w' ⟨_, ρ', S', he, h1, h2⟩ => hQ ρ' S' a' w' (he ▸ h1) h2
/-! ### Heaps cut short -/
def cutρ (ρ : Nat → Option Nat) (n : Nat) : Nat → Option Nat := fun i => if i < n then ρ i else none
theorem cutρ_some {ρ : Nat → Option Nat} {n i b : Nat} (h : cutρ ρ n i = some b) : i < n ∧ ρ i = some b := by
  unfold cutρ at h
  split at h
  · exact ⟨by assumption, h⟩
  · cases h
theorem cutρ_of {ρ : Nat → Option Nat} {n i b : Nat} (hi : i < n) (h : ρ i = some b) : cutρ ρ n i = some b := by
  unfold cutρ
  rw [if_pos hi]; exact h
def cutB (n : Nat) : Blk → Prop
  | .dead => True
  | .var cs _ => underL n cs = true
  | .map es _ => ∀ p ∈ es, plain p.1 = true ∧ plain p.2 = true
  | .ext (.mit m _ _ _) => ∀ id, m = some id → id < n
  | _ => False
theorem hrel_cut {ρ : Nat → Option Nat} {S : Nat → Prop} {w : World} {H D : List Blk} (h : HRel ρ S w (H ++ D)) (ho : ∀ (i : Nat) (b : Blk), H[i]? = some b → cutB H.length b) : HRel (cutρ ρ H.length) S w H := by
  have up : ∀ {i : Nat} {b : Blk}, H[i]? = some b → (H ++ D)[i]? = some b := fun {i b} hi => by
    rw [List.getElem?_append_left (List.getElem?_eq_some_iff.1 hi).1]; exact hi
  refine ⟨fun i j bi bj b hi hj li lj ri rj => h.inj i j bi bj b (up hi) (up hj) li lj (cutρ_some ri).2 (cutρ_some rj).2, fun i b hi => ?_, fun i b hi => ⟨(cutρ_some hi).1, (h.out i b (cutρ_some hi).2).2⟩⟩
  have hb := h.blk i b (up hi)
  have hok := ho i b hi
  have hoth : ∀ {c : AV} {v : Value}, c.under H.length = true → V ρ S w c v → V (cutρ ρ H.length) S w c v := fun hu hv => hv.other hu fun i b hi hb => cutρ_of hi hb
  cases b with
  | dead => trivial
  | var cs T0 =>
    intro b hr
    obtain ⟨h1, arr, T, fr, h2, h3, h4, h5⟩ := hb b (cutρ_some hr).2
    exact ⟨h1, arr, T, fr, h2, h3, h4, fun j c v hc hv => hoth (underL_get hok j c hc) (h5 j c v hc hv)⟩
  | row => exact hok.elim
  | iter => exact hok.elim
  | map es bk =>
    intro b hr
    obtain ⟨h1, es', ck, h2, h3, h4, h5⟩ := hb b (cutρ_some hr).2
    refine ⟨h1, es', ck, h2, h3, h4, fun i k x e hk he => ?_⟩
    obtain ⟨p1, p2⟩ := hok _ (List.mem_of_getElem? hk)
    obtain ⟨v1, v2⟩ := h5 i k x e hk he
    exact ⟨plain_V v1 p1, plain_V v2 p2⟩
  | ext x =>
    cases x with
    | mit m since seen st =>
      intro b hr
      obtain ⟨h1, o, h2, mb, h3, h4⟩ := hb b (cutρ_some hr).2
      refine ⟨h1, o, h2, mb, h3, ?_⟩
      cases m with
      | none => exact h4
      | some id =>
        obtain ⟨b2, h5, h6⟩ := h4
        exact ⟨b2, cutρ_of (hok id rfl) h5, h6⟩
    | _ => exact hok.elim
theorem trel_cut {ρ : Nat → Option Nat} {S : Nat → Prop} {w : World} {ts ts' : List AV} {a : Array Value} {n : Nat} (h : TRel ρ S w ts a) (hl : ts'.length = ts.length) (ho : ∀ (i : Nat) (c : AV), ts'[i]? = some c → c = .any ∨ (ts[i]? = some c ∧ c.under n = true)) : TRel (cutρ ρ n) S w ts' a := by
  refine ⟨hl.trans h.1, fun i c v hc hv => ?_⟩
  rcases ho i c hc with rfl | ⟨h1, h2⟩
  · exact .any _
  · exact (h.2 i c v h1 hv).other h2 fun i b hi hb => cutρ_of hi hb
theorem ext_cut {ρ0 ρ : Nat → Option Nat} {S0 S : Nat → Prop} {w0 w : World} {n : Nat} (h : Ext ρ0 S0 w0 ρ S w) (hn : ∀ i b, ρ0 i = some b → i < n) : Ext ρ0 S0 w0 (cutρ ρ n) S w := {
  rho i b hi := cutρ_of (hn i b hi) (h.rho i b hi)
  st := h.st
  same := h.same
  size := h.size
  shp := h.shp
  fresh i b hi := h.fresh i b (cutρ_some hi).2
  stf := h.stf
  os := h.os
  tape := h.tape
  output := h.output
  drawn := h.drawn }
theorem relx_cut {ρ : Nat → Option Nat} {S : Nat → Prop} {w : World} {ts ts' : List AV} {a : Act} {H D : List Blk} (h : RelX F ds ρ S ⟨ts, H ++ D⟩ a w) (ho : ∀ (i : Nat) (b : Blk), H[i]? = some b → cutB H.length b) (hl : ts'.length = ts.length)
    (ht : ∀ (i : Nat) (c : AV), ts'[i]? = some c → c = .any ∨ (ts[i]? = some c ∧ c.under H.length = true)) : RelX F ds (cutρ ρ H.length) S ⟨ts', H⟩ a w :=
  ⟨⟨h.defers, trel_cut h.tmps hl ht, hrel_cut h.heap ho⟩, h.sok⟩
/-! ### A call that is told of a part of one's memory -/
theorem BRel.stab {ρ : Nat → Option Nat} {S S' : Nat → Prop} {w : World} {i : Nat} {b : Blk} (h : BRel ρ S w i b) (hS : ∀ b, S b → S' b) (hn : ∀ b, ρ i = some b → ¬ S' b) : BRel ρ S' w i b := by
  cases b with
  | dead => trivial
  | var cs T0 =>
    intro b hr
    obtain ⟨_, arr, T, fr, h2, h3, h4, h5⟩ := h b hr
    exact ⟨hn b hr, arr, T, fr, h2, h3, h4, fun j c v hc hv => (h5 j c v hc hv).stable hS⟩
  | row sz len get T0 =>
    intro b hr
    obtain ⟨_, arr, T, fr, h2, h3, h4, h5, h6⟩ := h b hr
    exact ⟨hn b hr, arr, T, fr, h2, h3, h4, h5, fun e j c v he hc hv => (h6 e j c v he hc hv).stable hS⟩
  | iter s p => intro b hr; exact ⟨hn b hr, (h b hr).2⟩
  | map es bk =>
    intro b hr
    obtain ⟨_, es', ck, h2, h3, h4, h5⟩ := h b hr
    refine ⟨hn b hr, es', ck, h2, h3, h4, fun i k x e hk he => ?_⟩
    obtain ⟨v1, v2⟩ := h5 i k x e hk he
    exact ⟨v1.stable hS, v2.stable hS⟩
  | ext x =>
    intro b hr
    obtain ⟨_, o, h2, h3⟩ := h b hr
    refine ⟨hn b hr, o, h2, ?_⟩
    cases x with
    | loop st pend ts ps asg body df =>
      obtain ⟨fn, tm, d, h1, h2, h3⟩ := h3
      exact ⟨fn, tm, d, h1, ⟨h2.1, fun i c v hc hv => (h2.2 i c v hc hv).stable hS⟩, h3⟩
    | dfr => exact h3
    | mit m since seen st => exact h3
    | mitn m since n st bs => exact h3
theorem calls_frame {ρ : Nat → Option Nat} {S : Nat → Prop} {w : World} {f : FuncId} {H0 : List Blk} {args0 : List AV} {r0 : AV} (hp : plain r0 = true)
    (hB : ∀ ρ S (w : World) vs, Sok F S w → HRel ρ S w H0 → VL ρ S w args0 vs → Calls P f vs w fun e w' => ∃ v ρ' S' D, e = .returned v ∧ V ρ' S' w' r0 v ∧ HRel ρ' S' w' (H0 ++ D) ∧ Ext ρ S w ρ' S' w' ∧ Sok F S' w')
    {H : List Blk} {σ : Nat → Nat} (hs : Sok F S w) (hH : HRel ρ S w H) (hinj : ∀ i j, i < H0.length → j < H0.length → σ i = σ j → i = j) (hso : ∀ i, i < H0.length → ∃ b, ρ (σ i) = some b)
    (hlive : ∀ (i : Nat) (b : Blk), H0[i]? = some b → b.live = true → ∃ x, H[σ i]? = some x ∧ x.live = true ∧ BRel (subρ ρ σ H0.length) S w i b ∧ ∀ ρ1 S1 (w1 : World), (∀ j, j < H0.length → ρ1 j = ρ (σ j)) → BRel ρ1 S1 w1 i b → BRel ρ S w1 (σ i) x)
    {vs : Array Value} (hv : VL (subρ ρ σ H0.length) S w args0 vs) :
    Calls P f vs w fun e w' => ∃ v, e = .returned v ∧ V ρ S w' r0 v ∧ HRel ρ S w' H ∧ Ext ρ S w ρ S w' ∧ Sok F S w' := by
  have back : ∀ i b, subρ ρ σ H0.length i = some b → i < H0.length ∧ ρ (σ i) = some b := fun i b h => by
    unfold subρ at h
    split at h
    · exact ⟨by assumption, h⟩
    · cases h
  have lt_of : ∀ {i : Nat} {b : Blk}, H0[i]? = some b → i < H0.length := fun h => (List.getElem?_eq_some_iff.1 h).1
  let SB : Nat → Prop := fun b => S b ∨ (b < w.heap.size ∧ ∀ (i : Nat) (b0 : Blk), H0[i]? = some b0 → b0.live = true → ρ (σ i) ≠ some b)
  have hSB : ∀ b, S b → SB b := fun b h => .inl h
  have hHB : HRel (subρ ρ σ H0.length) SB w H0 := by
    refine ⟨fun i j bi bj b hi hj li lj ri rj => ?_, fun i b hi => ?_, fun i b hi => ⟨(back i b hi).1, (hH.out _ b (back i b hi).2).2⟩⟩
    · obtain ⟨x, hx, lx, _⟩ := hlive i bi hi li
      obtain ⟨y, hy, ly, _⟩ := hlive j bj hj lj
      exact hinj i j (lt_of hi) (lt_of hj) (hH.inj _ _ x y b hx hy lx ly (back i b ri).2 (back j b rj).2)
    · by_cases hl : b.live = true
      · obtain ⟨x, hx, lx, hf, _⟩ := hlive i b hi hl
        refine hf.stab hSB fun b' hb' hsb => ?_
        have hr := (back i b' hb').2
        rcases hsb with hsb | hsb
        · have hbx := hH.blk _ _ hx
          have : ¬ S b' := by
            cases x with
            | dead => cases lx
            | var => exact (hbx b' hr).1
            | row => exact (hbx b' hr).1
            | iter => exact (hbx b' hr).1
            | map => exact (hbx b' hr).1
            | ext => exact (hbx b' hr).1
          exact this hsb
        · exact hsb.2 i b hi hl hr
      · cases b <;> first | trivial | exact absurd rfl hl
  have hsB : Sok F SB w := ⟨fun b h => h.elim (hs.lt b) (·.1), fun b o h => ⟨.inl (hs.st b o h).1, (hs.st b o h).2⟩⟩
  have hvB : VL (subρ ρ σ H0.length) SB w args0 vs := ⟨hv.1, fun i c v hc hi => (hv.2 i c v hc hi).stable hSB⟩
  refine (hB _ SB w vs hsB hHB hvB).mono ?_
  rintro e w' ⟨v, ρ1, S1, D, rfl, hv1, hH1, hE1, hs1⟩
  have hsame : ∀ b, b < w.heap.size → (S b ∨ ∀ (i : Nat) (b0 : Blk), H0[i]? = some b0 → b0.live = true → ρ (σ i) ≠ some b) → w'.heap[b]? = w.heap[b]? := fun b hb h => hE1.same b hb (.inl (h.elim .inl fun h => .inr ⟨hb, h⟩))
  have hE : Ext ρ S w ρ S w' := {
    rho := fun _ _ h => h
    st := fun _ h => h
    same := fun b hb h => hsame b hb (h.elim .inl fun h => .inr fun i _ _ _ => h _)
    size := hE1.size
    shp := hE1.shp
    fresh := fun _ _ h => .inl ⟨_, h⟩
    stf := fun _ h => .inl h
    os := hE1.os
    tape := hE1.tape
    output := hE1.output
    drawn := hE1.drawn }
  have hρ1 : ∀ j, j < H0.length → ρ1 j = ρ (σ j) := fun j hj => by
    obtain ⟨b, hb⟩ := hso j hj
    rw [hb]
    exact hE1.rho j b (by unfold subρ; rw [if_pos hj]; exact hb)
  have hH2 : HRel ρ S w' H := by
    refine ⟨hH.inj, fun i x hi => ?_, fun i b hi => ⟨(hH.out i b hi).1, Nat.lt_of_lt_of_le (hH.out i b hi).2 hE1.size⟩⟩
    by_cases hl : x.live = true
    · by_cases hx : ∃ j b0 bb, H0[j]? = some b0 ∧ b0.live = true ∧ ρ (σ j) = some bb ∧ ρ i = some bb
      · obtain ⟨j, b0, bb, h1, h2, h3, h4⟩ := hx
        obtain ⟨y, hy, ly, _, hbk⟩ := hlive j b0 h1 h2
        obtain rfl := hH.inj _ _ x y bb hi hy hl ly h4 h3
        rw [hi] at hy
        cases hy
        exact hbk ρ1 S1 w' hρ1 (hH1.blk j b0 (by rw [List.getElem?_append_left (lt_of h1)]; exact h1))
      · exact (hH.blk i x hi).keep hE fun b' hb' => ⟨hb', hsame b' (hH.out i b' hb').2 (.inr fun j b0 h1 h2 h3 => hx ⟨j, b0, b', h1, h2, h3, hb'⟩), fun h => h⟩
    · cases x <;> first | trivial | exact absurd rfl hl
  exact ⟨v, rfl, plain_V hv1 hp, hH2, hE, hs.still hE⟩
/-! ### A function whose body is walked by hand -/
theorem fnW_sound (hTY : TyOk P TY) {f : FuncId} {fn : Func} {c : Code} (hf : P.funcs[f]? = some fn) (hb : fn.body = some c) {ρ : Nat → Option Nat} {S : Nat → Prop} {w : World} {H : List Blk} {cs : List AV} {vs : Array Value} (hs : Sok F S w) (hH : HRel ρ S w H) (hv : VL ρ S w cs vs) {Q : AV → List Blk → Prop}
    (h : ∀ a, RelX F [] ρ S ⟨cs ++ List.replicate (fn.ntmps - cs.length) .any, H⟩ a w → c.wpIn Fence.wide 0 P (fun e a' w' => (e = .normal ∨ e = .ret) ∧ ∃ ρ' S' st cs, RelX F [] ρ' S' st a' w' ∧ Ext ρ S w ρ' S' w' ∧ resLO TY st fn.results.toList = some cs ∧ Q (resOutO cs) st.heap) a w) :
    Calls P f vs w (Comes1 F ρ S w Q) := by
  have hR : RelX F [] ρ S ⟨cs ++ List.replicate (fn.ntmps - cs.length) .any, H⟩ { tmps := vs ++ Array.replicate (fn.ntmps - vs.size) undef, defers := [] } w := by
    refine ⟨⟨rfl, ⟨by simp [hv.1], fun i c v hc hv' => ?_⟩, hH⟩, hs⟩
    simp only at hc hv'
    by_cases hlt : i < cs.length
    · rw [List.getElem?_append_left hlt] at hc
      rw [Array.getElem?_append_left (by have := hv.1; omega)] at hv'
      exact hv.2 i c v hc hv'
    · rw [List.getElem?_append_right (by omega), List.getElem?_replicate] at hc
      split at hc
      · cases hc; exact .any _
      · cases hc
  refine open_wide.callsOut (n := 0) (callsIn_of_wp_marks hf hb trivial (wpIn_mono (h _ hR) ?_))
  rintro e' a' w' ⟨he, ρ', S', st, cs', hR', hE', hcs, hQ⟩
  have fin : LeavesInM Fence.wide 0 P fn a'.tmps (Comes1 F ρ S w Q) a'.defers .returning w' := by
    rw [hR'.defers]
    refine leaves_shut (dl := []) (ds := []) (H := st.heap) (H2 := st.heap) (show DR ρ' [] [] from trivial) hR'.heap rfl fun w2 h3 h4 => ?_
    have hR2 : RelX F [] ρ' S' st a' w2 := ⟨⟨hR'.defers, hR'.tmps.mono h4, h3⟩, hR'.sok.still h4⟩
    obtain ⟨v, cs2, g1, g2, g3⟩ := results_ok hTY hR2 (resLO_ok (K := fun cs => cs = cs') hcs rfl)
    subst g2
    exact ⟨v, g1, v, _, _, ρ', S', rfl, hQ, by rw [resOutO_eq]; exact g3, h3, hE'.trans h4, hR2.sok⟩
  rcases he with rfl | rfl
  · exact fin
  · exact fin
end
end
end Go.Vc

/- (*Book).asked: how many loans wait, whatever order the map has. -/
namespace Go.Vc.F
open Go Go.Vc Go.Proofs
set_option maxRecDepth 100000
noncomputable section
/-! ### What is counted -/
/-- One entry: one, where the loan is not held and its carrier is the one asked for. -/
def entN (car : Int → Option Int) (o : Int) (p : AV × AV) : Option Nat := match p with
  | (.agg [.int .u64 t, .int .i64 _], .agg [.int .u64 _, .int .i64 _, .bool h, .int _ _, .int _ _, .int _ _, .int _ _, .int _ _, .int _ _]) => (match h with
    | true => some 0
    | false => (match car t with
      | some c => some (match eqI c o with | true => 1 | false => 0)
      | none => none))
  | _ => none
def cntN (car : Int → Option Int) (o : Int) : List (AV × AV) → Option Nat
  | [] => some 0
  | p :: es => (match entN car o p with
    | some a => (match cntN car o es with
      | some b => some (Nat.add a b)
      | none => none)
    | none => none)
section
variable {car : Int → Option Int} {o : Int}
def sumW (car : Int → Option Int) (o : Int) : List (AV × AV × Nat) → Nat
  | [] => 0
  | (k, v, _) :: l => (entN car o (k, v)).getD 0 + sumW car o l
theorem entN_le {p : AV × AV} {m : Nat} (h : entN car o p = some m) : m ≤ 1 := by
  unfold entN at h
  split at h
  · split at h
    · cases h; omega
    · split at h
      · cases h; split <;> omega
      · cases h
  · cases h
theorem cntN_spec : ∀ {es : List (AV × AV)} {bs : List Nat} {n : Nat}, cntN car o es = some n → bs.length = es.length → (∀ p ∈ es, (entN car o p).isSome = true) ∧ sumW car o (leftM [] es bs) = n ∧ n ≤ es.length
  | [], bs, n, h, hl => by
    cases h
    refine ⟨by simp, ?_, by simp⟩
    cases bs <;> simp [leftM, sumW]
  | p :: es, [], n, h, hl => by simp at hl
  | (k, v) :: es, b :: bs, n, h, hl => by
    rw [cntN] at h
    split at h
    · rename_i a ha
      split at h
      · rename_i c hc
        cases h
        obtain ⟨h1, h2, h3⟩ := cntN_spec (bs := bs) hc (by simpa using hl)
        refine ⟨fun p hp => ?_, ?_, ?_⟩
        · rcases List.mem_cons.1 hp with rfl | hp
          · rw [ha]; rfl
          · exact h1 p hp
        · have : ¬ ([] : List Nat).contains b = true := by simp
          rw [leftM, if_neg this, sumW, ha, h2]
          rfl
        · have := entN_le ha
          simp only [List.length_cons, Nat.add_eq]
          omega
      · cases h
    · cases h
theorem leftM_mem {seen : List Nat} : ∀ {es : List (AV × AV)} {bs : List Nat} {k v : AV} {b : Nat}, (k, v, b) ∈ leftM seen es bs → b ∈ bs ∧ (k, v) ∈ es
  | [], bs, k, v, b, h => by cases bs <;> simp [leftM] at h
  | _ :: _, [], k, v, b, h => by simp [leftM] at h
  | (k0, v0) :: es, b0 :: bs, k, v, b, h => by
    rw [leftM] at h
    split at h
    · have := leftM_mem h; exact ⟨List.mem_cons_of_mem _ this.1, List.mem_cons_of_mem _ this.2⟩
    · rcases List.mem_cons.1 h with h | h
      · simp only [Prod.mk.injEq] at h; obtain ⟨rfl, rfl, rfl⟩ := h; exact ⟨List.mem_cons_self, List.mem_cons_self⟩
      · have := leftM_mem h; exact ⟨List.mem_cons_of_mem _ this.1, List.mem_cons_of_mem _ this.2⟩
theorem leftM_skip {seen : List Nat} {b : Nat} : ∀ {es : List (AV × AV)} {bs : List Nat}, b ∉ bs → leftM (seen ++ [b]) es bs = leftM seen es bs
  | [], bs, _ => by cases bs <;> simp [leftM]
  | _ :: _, [], _ => by simp [leftM]
  | (k0, v0) :: es, b0 :: bs, h => by
    simp only [List.mem_cons, not_or] at h
    have hc : (seen ++ [b]).contains b0 = seen.contains b0 := by
      rw [Bool.eq_iff_iff]
      simp only [List.contains_iff_mem, List.mem_append, List.mem_singleton]
      exact ⟨fun h' => h'.elim id fun h' => absurd h'.symm h.1, .inl⟩
    rw [leftM, leftM, hc, leftM_skip h.2]
theorem leftM_step {seen : List Nat} {k v : AV} {b : Nat} : ∀ {es : List (AV × AV)} {bs : List Nat}, bs.Nodup → (k, v, b) ∈ leftM seen es bs →
    sumW car o (leftM seen es bs) = (entN car o (k, v)).getD 0 + sumW car o (leftM (seen ++ [b]) es bs) ∧ (leftM seen es bs).length = (leftM (seen ++ [b]) es bs).length + 1 ∧ bornE b es bs = some (k, v)
  | [], bs, _, h => by cases bs <;> simp [leftM] at h
  | _ :: _, [], _, h => by simp [leftM] at h
  | (k0, v0) :: es, b0 :: bs, hn, h => by
    rw [List.nodup_cons] at hn
    rw [leftM] at h
    split at h
    · rename_i hc
      have hc' : (seen ++ [b]).contains b0 = true := by
        simp only [List.contains_iff_mem, List.mem_append] at hc ⊢
        exact .inl hc
      obtain ⟨h1, h2, h3⟩ := leftM_step hn.2 h
      have hne : Nat.beq b0 b = false := by
        rw [Bool.eq_false_iff]
        intro hb
        have := Nat.eq_of_beq_eq_true hb
        subst this
        exact hn.1 (leftM_mem h).1
      rw [leftM, leftM, if_pos hc, if_pos hc', bornE, hne]
      exact ⟨h1, h2, h3⟩
    · rename_i hc
      rcases List.mem_cons.1 h with h | h
      · simp only [Prod.mk.injEq] at h
        obtain ⟨rfl, rfl, rfl⟩ := h
        have hc' : (seen ++ [b]).contains b = true := by simp
        rw [leftM, leftM, if_neg hc, if_pos hc', leftM_skip hn.1, bornE, Nat.beq_refl]
        exact ⟨rfl, rfl, rfl⟩
      · have hne : b0 ≠ b := by rintro rfl; exact hn.1 (leftM_mem h).1
        have hc' : ¬ (seen ++ [b]).contains b0 = true := by
          simp only [List.contains_iff_mem, List.mem_append, List.mem_singleton] at hc ⊢
          exact fun h' => h'.elim hc hne
        obtain ⟨h1, h2, h3⟩ := leftM_step hn.2 h
        have hbf : Nat.beq b0 b = false := by rw [Bool.eq_false_iff]; exact fun hb => hne (Nat.eq_of_beq_eq_true hb)
        rw [leftM, leftM, if_neg hc, if_neg hc', bornE, hbf]
        refine ⟨?_, ?_, h3⟩
        · rw [sumW, sumW, h1]; omega
        · rw [List.length_cons, List.length_cons, h2]
theorem eachM_of {N : AV → AV → Nat → Prop} : ∀ {l : List (AV × AV × Nat)}, (∀ k v b, (k, v, b) ∈ l → N k v b) → eachM N l
  | [], _ => trivial
  | (k, v, b) :: l, h => ⟨h k v b List.mem_cons_self, eachM_of fun k v b hm => h k v b (List.mem_cons_of_mem _ hm)⟩
end
/-! ### The code -/
def seqL : Code → Code | .seq a _ => a | c => c
def seqR : Code → Code | .seq _ b => b | c => c
def inC : Code → Code | .block _ c => c | .loop c => c | c => c
def thC : Code → Code | .cond _ a _ => a | c => c
def rid : Code → Nat | .region i _ _ => i | _ => 0
def rop : Code → Array Oper | .region _ o _ => o | _ => #[]
noncomputable def c143 : Code := match Tryz.f143.body with | some c => c | none => .skip
noncomputable def R0 : Code := seqL c143
noncomputable def R1 : Code := seqL (seqL (seqR c143))
noncomputable def B0 : Code := seqR (seqL (seqR c143))
noncomputable def bd : Code := inC (inC B0)
noncomputable def R2 : Code := seqL bd
noncomputable def BL : Code := seqR (seqR bd)
noncomputable def R3 : Code := seqL (inC BL)
noncomputable def R4 : Code := seqL (seqR (inC BL))
noncomputable def C5 : Code := seqR (seqR (inC BL))
noncomputable def R5 : Code := thC C5
noncomputable def R6 : Code := seqL (seqR (seqR c143))
theorem e143 : Tryz.f143.body = some (.seq (.region (rid R0) (rop R0) false) (.seq (.seq (.region (rid R1) (rop R1) false) (.block 0 (.loop bd))) (.seq (.region (rid R6) (rop R6) false) .ret))) := rfl
theorem ebd : bd = .seq (.region (rid R2) (rop R2) false) (.seq (.cond (.tmp 13) .skip (.exit 0)) (.block 1 (.seq (.region (rid R3) (rop R3) false) (.seq (.region (rid R4) (rop R4) false) (.cond (.tmp 26) (.region (rid R5) (rop R5) false) .skip))))) := rfl
/-! ### The states -/
section
variable (a0 a1 a2 a3 a4 : AV) (T : Option Nat) (es : List (AV × AV)) (bs : List Nat) (ck : Nat) (o : Int)
def H0 : List Blk := [.var [a0, a1, a2, a3, a4, .map 2, .map 3, .map 1, .map 4, .map 5] T, .map es (some (bs, ck)), .dead, .dead, .dead, .dead]
def Hh (seen : List Nat) : List Blk := [.var [a0, a1, a2, a3, a4, .map 2, .map 3, .map 1, .map 4, .map 5] T, .map es (some (bs, ck)), .dead, .dead, .dead, .dead, .ext (.mit (some 1) ck seen ck)]
def Ts (n : Int) (x12 x13 : AV) : List AV := [.ptr 0 0, .int .i64 o, .any, .any, .int .i64 n, .any, .any, .ptr 0 0, .ptr 0 0, .ptr 0 7, .map 1, .iter 6, x12, x13, .any, .any, .any, .any, .any, .any, .any, .any, .any, .any, .any, .any, .any, .any, .any, .any]
variable {a0 a1 a2 a3 a4 T es bs ck o} {call : CallO}
theorem r0 : regO Y.TY call (rop R0) (rop R0).toList ⟨[.ptr 0 0, .int .i64 o] ++ List.replicate (30 - 2) .any, H0 a0 a1 a2 a3 a4 T es bs ck⟩ = some ⟨[.ptr 0 0, .int .i64 o, .any, .any, .int .i64 0] ++ List.replicate 25 .any, H0 a0 a1 a2 a3 a4 T es bs ck⟩ := by kernel_rfl
theorem r1 : regO Y.TY call (rop R1) (rop R1).toList ⟨[.ptr 0 0, .int .i64 o, .any, .any, .int .i64 0] ++ List.replicate 25 .any, H0 a0 a1 a2 a3 a4 T es bs ck⟩ = some ⟨Ts o 0 .any .any, Hh a0 a1 a2 a3 a4 T es bs ck []⟩ := by kernel_rfl
noncomputable def o2 : Oper := match (rop R2).toList with | o :: _ => o | [] => default
noncomputable def o3 : Oper := match (rop R3).toList with | o :: _ => o | [] => default
noncomputable def o46 : Oper := match (rop R4).toList.drop 6 with | o :: _ => o | [] => default
theorem l2 : (rop R2).toList = o2 :: (rop R2).toList.drop 1 := rfl
theorem l3 : (rop R3).toList = o3 :: (rop R3).toList.drop 1 := rfl
theorem l4 : (rop R4).toList = (rop R4).toList.take 6 ++ o46 :: (rop R4).toList.drop 7 := rfl
theorem r2 {x y : AV} {n : Int} {seen : List Nat} {b : Bool} {rest : List AV} : regO Y.TY call (rop R2) ((rop R2).toList.drop 1) ⟨Ts o n (.tup (.bool b :: rest)) y, Hh a0 a1 a2 a3 a4 T es bs ck seen⟩ = some ⟨Ts o n (.tup (.bool b :: rest)) (.bool b), Hh a0 a1 a2 a3 a4 T es bs ck seen⟩ := by kernel_rfl
/-- Temporaries in a round. -/
def Tr (o n : Int) (x5 x6 x12 x13 x14 x15 x16 : AV) (l : List AV) : List AV := [.ptr 0 0, .int .i64 o, .any, .any, .int .i64 n, x5, x6, .ptr 0 0, .ptr 0 0, .ptr 0 7, .map 1, .iter 6, x12, x13, x14, x15, x16] ++ l
variable {n t q c0 c1 c3 c4 c5 c6 c7 c8 : Int} {k3 k4 k5 k6 k7 k8 : IntKind} {h : Bool} {seen : List Nat} {x12 x13 : AV}
def kA (t q : Int) : AV := .agg [.int .u64 t, .int .i64 q]
def vA (c0 c1 c3 c4 c5 c6 c7 c8 : Int) (k3 k4 k5 k6 k7 k8 : IntKind) (h : Bool) : AV := .agg [.int .u64 c0, .int .i64 c1, .bool h, .int k3 c3, .int k4 c4, .int k5 c5, .int k6 c6, .int k7 c7, .int k8 c8]
theorem r3 : regO Y.TY call (rop R3) ((rop R3).toList.drop 1) ⟨Tr o n .any .any x12 x13 (.tup [kA t q, vA c0 c1 c3 c4 c5 c6 c7 c8 k3 k4 k5 k6 k7 k8 h]) .any .any (List.replicate 13 .any), Hh a0 a1 a2 a3 a4 T es bs ck seen⟩ =
    some ⟨Tr o n (.ptr 7 0) (.ptr 8 0) x12 x13 (.tup [kA t q, vA c0 c1 c3 c4 c5 c6 c7 c8 k3 k4 k5 k6 k7 k8 h]) (kA t q) (vA c0 c1 c3 c4 c5 c6 c7 c8 k3 k4 k5 k6 k7 k8 h) (List.replicate 13 .any), Hh a0 a1 a2 a3 a4 T es bs ck seen ++ [.var (kA t q).cells (some 113), .var (vA c0 c1 c3 c4 c5 c6 c7 c8 k3 k4 k5 k6 k7 k8 h).cells (some 115)]⟩ := by kernel_rfl
def Hr (a0 a1 a2 a3 a4 : AV) (T : Option Nat) (es : List (AV × AV)) (bs : List Nat) (ck : Nat) (seen : List Nat) (t q c0 c1 c3 c4 c5 c6 c7 c8 : Int) (k3 k4 k5 k6 k7 k8 : IntKind) (h : Bool) : List Blk := Hh a0 a1 a2 a3 a4 T es bs ck seen ++ [.var (kA t q).cells (some 113), .var (vA c0 c1 c3 c4 c5 c6 c7 c8 k3 k4 k5 k6 k7 k8 h).cells (some 115)]
variable {x14 x15 x16 : AV} {c : Int}
theorem r4t : regO Y.TY call (rop R4) (rop R4).toList ⟨Tr o n (.ptr 7 0) (.ptr 8 0) x12 x13 x14 x15 x16 (List.replicate 13 .any), Hr a0 a1 a2 a3 a4 T es bs ck seen t q c0 c1 c3 c4 c5 c6 c7 c8 k3 k4 k5 k6 k7 k8 true⟩ =
    some ⟨Tr o n (.ptr 7 0) (.ptr 8 0) x12 x13 x14 x15 x16 ([.ptr 8 2, .bool true, .bool false, .bool false, .tup [], .tup [], .tup [], .tup [], .tup [], .bool false] ++ List.replicate 3 .any), Hr a0 a1 a2 a3 a4 T es bs ck seen t q c0 c1 c3 c4 c5 c6 c7 c8 k3 k4 k5 k6 k7 k8 true⟩ := by kernel_rfl
theorem r4a : regO Y.TY call (rop R4) ((rop R4).toList.take 6) ⟨Tr o n (.ptr 7 0) (.ptr 8 0) x12 x13 x14 x15 x16 (List.replicate 13 .any), Hr a0 a1 a2 a3 a4 T es bs ck seen t q c0 c1 c3 c4 c5 c6 c7 c8 k3 k4 k5 k6 k7 k8 false⟩ =
    some ⟨Tr o n (.ptr 7 0) (.ptr 8 0) x12 x13 x14 x15 x16 ([.ptr 8 2, .bool false, .bool true, .bool true, .ptr 7 0, .int .u64 t] ++ List.replicate 7 .any), Hr a0 a1 a2 a3 a4 T es bs ck seen t q c0 c1 c3 c4 c5 c6 c7 c8 k3 k4 k5 k6 k7 k8 false⟩ := by kernel_rfl
noncomputable def o48 : Oper := match (rop R4).toList.drop 8 with | o :: _ => o | [] => default
theorem l48 : (rop R4).toList.drop 7 = ((rop R4).toList.take 8).drop 7 ++ o48 :: (rop R4).toList.drop 9 := rfl
theorem r4b : regO Y.TY call (rop R4) (((rop R4).toList.take 8).drop 7) ⟨Tr o n (.ptr 7 0) (.ptr 8 0) x12 x13 x14 x15 x16 ([.ptr 8 2, .bool false, .bool true, .bool true, .ptr 7 0, .int .u64 t, .int .i64 c] ++ List.replicate 6 .any), Hr a0 a1 a2 a3 a4 T es bs ck seen t q c0 c1 c3 c4 c5 c6 c7 c8 k3 k4 k5 k6 k7 k8 false⟩ =
    some ⟨Tr o n (.ptr 7 0) (.ptr 8 0) x12 x13 x14 x15 x16 ([.ptr 8 2, .bool false, .bool true, .bool true, .ptr 7 0, .int .u64 t, .int .i64 c, .int .i64 o] ++ List.replicate 5 .any), Hr a0 a1 a2 a3 a4 T es bs ck seen t q c0 c1 c3 c4 c5 c6 c7 c8 k3 k4 k5 k6 k7 k8 false⟩ := by kernel_rfl
theorem r48 {H : List Blk} : opO Y.TY o48.op (evO (Tr o n (.ptr 7 0) (.ptr 8 0) x12 x13 x14 x15 x16 ([.ptr 8 2, .bool false, .bool true, .bool true, .ptr 7 0, .int .u64 t, .int .i64 c, .int .i64 o] ++ List.replicate 5 .any))) (HV.of H) = some (.bool (eqI c o), .no) := by kernel_rfl
theorem r4c {b : Bool} : regO Y.TY call (rop R4) ((rop R4).toList.drop 9) ⟨Tr o n (.ptr 7 0) (.ptr 8 0) x12 x13 x14 x15 x16 ([.ptr 8 2, .bool false, .bool true, .bool true, .ptr 7 0, .int .u64 t, .int .i64 c, .int .i64 o, .bool b] ++ List.replicate 4 .any), Hr a0 a1 a2 a3 a4 T es bs ck seen t q c0 c1 c3 c4 c5 c6 c7 c8 k3 k4 k5 k6 k7 k8 false⟩ =
    some ⟨Tr o n (.ptr 7 0) (.ptr 8 0) x12 x13 x14 x15 x16 ([.ptr 8 2, .bool false, .bool true, .bool true, .ptr 7 0, .int .u64 t, .int .i64 c, .int .i64 o, .bool b, .bool b] ++ List.replicate 3 .any), Hr a0 a1 a2 a3 a4 T es bs ck seen t q c0 c1 c3 c4 c5 c6 c7 c8 k3 k4 k5 k6 k7 k8 false⟩ := by cases b <;> kernel_rfl
noncomputable def o51 : Oper := match (rop R5).toList.drop 1 with | o :: _ => o | [] => default
theorem l5 : (rop R5).toList = (rop R5).toList.take 1 ++ o51 :: (rop R5).toList.drop 2 := rfl
variable {H : List Blk} {l : List AV} {x5 x6 : AV} {y0 y1 y2 y3 y4 y5 y6 y7 y8 y9 : AV}
theorem r5a : regO Y.TY call (rop R5) ((rop R5).toList.take 1) ⟨Tr o n x5 x6 x12 x13 x14 x15 x16 [y0, y1, y2, y3, y4, y5, y6, y7, y8, y9, .any, .any, .any], H⟩ = some ⟨Tr o n x5 x6 x12 x13 x14 x15 x16 [y0, y1, y2, y3, y4, y5, y6, y7, y8, y9, .int .i64 n, .any, .any], H⟩ := by kernel_rfl
theorem r51 : opO Y.TY o51.op (evO (Tr o n x5 x6 x12 x13 x14 x15 x16 [y0, y1, y2, y3, y4, y5, y6, y7, y8, y9, .int .i64 n, .any, .any])) (HV.of H) = some (.int .i64 (wrapF .i64 (n + 1)), .no) := by kernel_rfl
theorem r5b {m : Int} : regO Y.TY call (rop R5) ((rop R5).toList.drop 2) ⟨Tr o n x5 x6 x12 x13 x14 x15 x16 [y0, y1, y2, y3, y4, y5, y6, y7, y8, y9, .int .i64 n, .int .i64 m, .any], H⟩ = some ⟨Tr o m x5 x6 x12 x13 x14 x15 x16 [y0, y1, y2, y3, y4, y5, y6, y7, y8, y9, .int .i64 n, .int .i64 m, .any], H⟩ := by kernel_rfl
theorem r6 : regO Y.TY call (rop R6) (rop R6).toList ⟨Ts o n x12 x13, H⟩ = some ⟨Tr o n .any .any x12 x13 .any .any .any (List.replicate 12 .any ++ [.int .i64 n]), H⟩ := by kernel_rfl
end
theorem effQ_of_opO {TY : TypeId → Option TI} {call : CallO} {o : Oper} {ts : List AV} {H : List Blk} {r : AV} {E : Eff} {M : AV → List Blk → Prop} (hc : ∀ c, o.op ≠ .call c) (hw : wrOk o = true) (h : opO TY o.op (evO ts) (HV.of H) = some (r, E)) (hM : M r (ap H E)) : effQ TY (CO call) wT o ts H M := by
  unfold effQ
  split
  · rename_i c hop
    exact absurd hop (hc c)
  · exact opA_true hw (opO_ok h hM)
theorem wrap_small {n : Int} (h0 : 0 ≤ n) (h1 : n < 4611686018427387904) : wrapF .i64 n = n := by
  rw [wrapF_eq, wrapS_eq]
  exact wrap_of_inK ⟨by simp only [lo]; omega, by simp only [hi]; omega⟩
/-- A state that forgets. -/
def cutT (n : Nat) : List AV → List AV → Prop
  | [], [] => True
  | c' :: l', c :: l => (c' = .any ∨ (c' = c ∧ c'.under n = true)) ∧ cutT n l' l
  | _, _ => False
theorem cutT_spec {n : Nat} : ∀ {l' l : List AV}, cutT n l' l → l'.length = l.length ∧ ∀ (i : Nat) (c : AV), l'[i]? = some c → c = .any ∨ (l[i]? = some c ∧ c.under n = true)
  | [], [], _ => ⟨rfl, fun i c h => by simp at h⟩
  | [], _ :: _, h => h.elim
  | _ :: _, [], h => h.elim
  | c' :: l', c :: l, h => by
    obtain ⟨h1, h2⟩ := h
    obtain ⟨h3, h4⟩ := cutT_spec h2
    refine ⟨by simp [h3], fun i x hx => ?_⟩
    cases i with
    | zero =>
      simp at hx
      subst hx
      rcases h1 with h1 | ⟨rfl, h1⟩
      · exact .inl h1
      · exact .inr ⟨rfl, h1⟩
    | succ i => simpa using h4 i x (by simpa using hx)
section
variable {F : Nat → Obj → Prop} {ds : List Deferred} {Fe : Fence} {dn : Nat} {a0 a1 a2 a3 a4 : AV} {T : Option Nat} {es : List (AV × AV)} {bs : List Nat} {ck : Nat} {o : Int} {call : CallO} {car : Int → Option Int} {ρ : Nat → Option Nat} {S : Nat → Prop} {w : World} {a : Act}
theorem entN_shape {p : AV × AV} (h : (entN car o p).isSome = true) : ∃ t q c0 c1 c3 c4 c5 c6 c7 c8 k3 k4 k5 k6 k7 k8 b, p = (kA t q, vA c0 c1 c3 c4 c5 c6 c7 c8 k3 k4 k5 k6 k7 k8 b) ∧ (b = true ∧ entN car o p = some 0 ∨ b = false ∧ ∃ c, car t = some c ∧ entN car o p = some (match eqI c o with | true => 1 | false => 0)) := by
  unfold entN at h ⊢
  split at h
  · rename_i t q c0 c1 b k3 c3 k4 c4 k5 c5 k6 c6 k7 c7 k8 c8
    refine ⟨t, q, c0, c1, c3, c4, c5, c6, c7, c8, k3, k4, k5, k6, k7, k8, b, rfl, ?_⟩
    cases b with
    | true => exact .inl ⟨rfl, rfl⟩
    | false =>
      simp only at h ⊢
      cases hc : car t with
      | none => rw [hc] at h; cases h
      | some c => first | exact .inr ⟨rfl, c, rfl, rfl⟩ | exact .inr ⟨trivial, c, rfl, rfl⟩ | (simp [hc])
  · cases h
/-- Behind the entry's count: the state at the loop's head. -/
theorem to_head {n : Int} {seen : List Nat} {t q c0 c1 c3 c4 c5 c6 c7 c8 : Int} {k3 k4 k5 k6 k7 k8 : IntKind} {h : Bool} {x12 x13 x14 x15 x16 y0 y1 y2 y3 y4 y5 y6 y7 y8 y9 y10 y11 y12 : AV}
    (hpl : plain a0 = true ∧ plain a1 = true ∧ plain a2 = true ∧ plain a3 = true ∧ plain a4 = true) (hes : ∀ p ∈ es, plain p.1 = true ∧ plain p.2 = true)
    (hu : a0.under 7 = true ∧ a1.under 7 = true ∧ a2.under 7 = true ∧ a3.under 7 = true ∧ a4.under 7 = true)
    (hR : RelX F ds ρ S ⟨Tr o n (.ptr 7 0) (.ptr 8 0) x12 x13 x14 x15 x16 [y0, y1, y2, y3, y4, y5, y6, y7, y8, y9, y10, y11, y12], Hr a0 a1 a2 a3 a4 T es bs ck seen t q c0 c1 c3 c4 c5 c6 c7 c8 k3 k4 k5 k6 k7 k8 h⟩ a w) :
    RelX F ds (cutρ ρ 7) S ⟨Ts o n .any .any, Hh a0 a1 a2 a3 a4 T es bs ck seen⟩ a w := by
  have hc : cutT 7 (Ts o n .any .any) (Tr o n (.ptr 7 0) (.ptr 8 0) x12 x13 x14 x15 x16 [y0, y1, y2, y3, y4, y5, y6, y7, y8, y9, y10, y11, y12]) := by
    unfold Ts Tr
    repeat first
      | exact True.intro
      | refine ⟨.inl rfl, ?_⟩
      | refine ⟨.inr ⟨rfl, rfl⟩, ?_⟩
  obtain ⟨h1, h2⟩ := cutT_spec hc
  refine relx_cut (H := Hh a0 a1 a2 a3 a4 T es bs ck seen) hR (fun i b hi => ?_) h1 h2
  unfold Hh at hi
  match i with
  | 0 =>
    cases hi
    show underL 7 _ = true
    simp [underL, hu, AV.under]
  | 1 => cases hi; exact hes
  | 2 => cases hi; exact trivial
  | 3 => cases hi; exact trivial
  | 4 => cases hi; exact trivial
  | 5 => cases hi; exact trivial
  | 6 =>
    cases hi
    intro id hid
    cases hid
    show 1 < 7
    omega
  | i + 7 => simp at hi
end
end
end Go.Vc.F

/- (*Book).asked keeps its contract. -/
namespace Go.Vc.F
open Go Go.Vc Go.Proofs
set_option maxRecDepth 100000
noncomputable section
section
variable {F : Nat → Obj → Prop} {ds : List Deferred} {Fe : Fence} {dn : Nat} {a0 a1 a2 a3 a4 : AV} {T : Option Nat} {es : List (AV × AV)} {bs : List Nat} {ck : Nat} {o : Int} {call : CallO} {car : Int → Option Int} {ρ : Nat → Option Nat} {S : Nat → Prop} {w : World} {a : Act}
/-- What a round comes to. -/
def RQ (F : Nat → Obj → Prop) (ds : List Deferred) (a0 a1 a2 a3 a4 : AV) (T : Option Nat) (es : List (AV × AV)) (bs : List Nat) (ck : Nat) (o : Int) (car : Int → Option Int) (seen : List Nat) (n : Nat) (ρ : Nat → Option Nat) (S : Nat → Prop) (w : World) (e : Exit) (a' : Act) (w' : World) : Prop :=
  (e = .exit 0 ∧ leftM seen es bs = [] ∧ ∃ ρ' S' x12 x13, RelX F ds ρ' S' ⟨Ts o n x12 x13, Hh a0 a1 a2 a3 a4 T es bs ck seen⟩ a' w' ∧ Ext ρ S w ρ' S' w') ∨
  (e = .normal ∧ ∃ k v b, (k, v, b) ∈ leftM seen es bs ∧ ∃ ρ' S', RelX F ds ρ' S' ⟨Ts o ((n + (entN car o (k, v)).getD 0 : Nat) : Int) .any .any, Hh a0 a1 a2 a3 a4 T es bs ck (seen ++ [b])⟩ a' w' ∧ Ext ρ S w ρ' S' w')
theorem round (hO : Open Fe) (hTY : TyOk Tryz.prog Y.TY) (hC : CtrOk F Tryz.prog (CO call)) (hcall : ∀ t c H, car t = some c → call 43 [.int .u64 t] H = some (.int .i64 c, H))
    (hpl : plain a0 = true ∧ plain a1 = true ∧ plain a2 = true ∧ plain a3 = true ∧ plain a4 = true) (hu : a0.under 7 = true ∧ a1.under 7 = true ∧ a2.under 7 = true ∧ a3.under 7 = true ∧ a4.under 7 = true)
    (hes : ∀ p ∈ es, (entN car o p).isSome = true) (hold : bs.all (fun b => Nat.blt b ck) = true) (hnd : nodupN bs = true) {seen : List Nat} {n : Nat} (hn : n < 2147483648) {x12 x13 : AV}
    (hR : RelX F ds ρ S ⟨Ts o n x12 x13, Hh a0 a1 a2 a3 a4 T es bs ck seen⟩ a w) :
    bd.wpIn Fe dn Tryz.prog (RQ F ds a0 a1 a2 a3 a4 T es bs ck o car seen n ρ S w) a w := by
  have hpe : ∀ p ∈ es, plain p.1 = true ∧ plain p.2 = true := fun p hp => by
    obtain ⟨t, q, c0, c1, c3, c4, c5, c6, c7, c8, k3, k4, k5, k6, k7, k8, b, rfl, _⟩ := entN_shape (hes p hp)
    exact ⟨rfl, rfl⟩
  have h7 : ∀ i b, ρ i = some b → i < 7 := fun i b h => (hR.heap.out i b h).1
  rw [ebd]
  refine wpIn_seq (wpIn_region_list ?_)
  rw [l2]
  refine opP_sound hO hTY hC hR (M := fun r H' => (r = .tup [.bool false] ∧ H' = Hh a0 a1 a2 a3 a4 T es bs ck seen ∧ leftM seen es bs = []) ∨ ∃ k v b, (k, v, b) ∈ leftM seen es bs ∧ r = .tup [.bool true, k, v] ∧ H' = Hh a0 a1 a2 a3 a4 T es bs ck (seen ++ [b])) rfl ?_ ?_
  · show nextMA (.iter 6) (Hh a0 a1 a2 a3 a4 T es bs ck seen) _
    refine .inl ?_
    unfold nextM0
    have e6 : (Hh a0 a1 a2 a3 a4 T es bs ck seen)[6]? = some (.ext (.mit (some 1) ck seen ck)) := rfl
    have e1 : (Hh a0 a1 a2 a3 a4 T es bs ck seen)[1]? = some (.map es (some (bs, ck))) := rfl
    simp only [e6, e1]
    refine ⟨⟨hold, Nat.ble_eq_true_of_le (Nat.le_refl _)⟩, ?_⟩
    split
    · rename_i hl
      exact .inl ⟨trivial, trivial, hl⟩
    · exact eachM_of fun k v b hm => .inr ⟨k, v, b, hm, rfl, rfl⟩
  · intro r H' ρ1 S1 aa w1 hM hR1 hE1
    rcases hM with ⟨rfl, rfl, hl⟩ | ⟨k, v, b, hm, rfl, rfl⟩
    · refine regN_sound hO hTY hC hR1 (r2 (b := false) (rest := []) (x := .any) (y := x13)) fun ρ2 S2 b2 w2 hR2 hE2 => ?_
      refine wpIn_seq (wpIn_cond_false ?_ ?_)
      · have := hR2.tmps.eval (.tmp 13)
        exact this.boolR
      · exact wpIn_exit (.inl ⟨rfl, hl, ρ2, S2, _, _, hR2, hE1.trans hE2⟩)
    · refine regN_sound hO hTY hC hR1 (r2 (b := true) (rest := [k, v]) (x := .any) (y := x13)) fun ρ2 S2 b2 w2 hR2 hE2 => ?_
      refine wpIn_seq (wpIn_cond_true ?_ ?_)
      · have := hR2.tmps.eval (.tmp 13)
        exact this.boolR
      refine wpIn_skip (wpIn_block (wpIn_seq (wpIn_region_list ?_)))
      obtain ⟨hmb, hme⟩ := leftM_mem hm
      obtain ⟨t, q, c0, c1, c3, c4, c5, c6, c7, c8, k3, k4, k5, k6, k7, k8, h, he, hent⟩ := entN_shape (hes _ hme)
      simp only [Prod.mk.injEq] at he
      obtain ⟨rfl, rfl⟩ := he
      obtain ⟨_, _, hborn⟩ := leftM_step (car := car) (o := o) (nodupN_spec hnd) hm
      rw [l3]
      refine opP_sound hO hTY hC hR2 (M := fun r H' => r = .tup [kA t q, vA c0 c1 c3 c4 c5 c6 c7 c8 k3 k4 k5 k6 k7 k8 h] ∧ H' = Hh a0 a1 a2 a3 a4 T es bs ck (seen ++ [b])) rfl ?_ ?_
      · show entryA (.iter 6) (Hh a0 a1 a2 a3 a4 T es bs ck (seen ++ [b])) _
        refine .inl ?_
        unfold entryA0
        have e6 : (Hh a0 a1 a2 a3 a4 T es bs ck (seen ++ [b]))[6]? = some (.ext (.mit (some 1) ck (seen ++ [b]) ck)) := rfl
        have e1 : (Hh a0 a1 a2 a3 a4 T es bs ck (seen ++ [b]))[1]? = some (.map es (some (bs, ck))) := rfl
        have eg : (seen ++ [b]).getLast? = some b := by simp
        simp only [e6, e1, eg]
        refine ⟨⟨Nat.beq_refl _, hnd⟩, ?_⟩
        rw [hborn]
        exact ⟨rfl, trivial⟩
      · rintro r H' ρ3 S3 b3 w3 ⟨rfl, rfl⟩ hR3 hE3
        refine regN_sound hO hTY hC hR3 (r3 (x12 := .tup [.bool true, kA t q, vA c0 c1 c3 c4 c5 c6 c7 c8 k3 k4 k5 k6 k7 k8 h]) (x13 := .bool true)) fun ρ4 S4 b4 w4 hR4 hE4 => ?_
        have hE14 := (hE1.trans hE2).trans (hE3.trans hE4)
        refine wpIn_seq (wpIn_region_list ?_)
        rcases hent with ⟨rfl, hent⟩ | ⟨rfl, c, hcar, hent⟩
        · refine regN_sound hO hTY hC hR4 r4t fun ρ5 S5 a5 w5 hR5 hE5 => ?_
          refine wpIn_cond_false ?_ ?_
          · have := hR5.tmps.eval (.tmp 26)
            exact this.boolR
          · refine wpIn_skip (.inr ⟨rfl, kA t q, _, b, hm, cutρ ρ5 7, S5, ?_, ext_cut (hE14.trans hE5) h7⟩)
            rw [hent]
            exact to_head hpl hpe hu hR5
        · rw [l4]
          refine regP_sound hO hTY hC _ hR4 r4a fun ρ5 S5 a5 w5 hR5 hE5 => ?_
          refine opP_sound hO hTY hC hR5 (M := fun r H' => r = .int .i64 c ∧ H' = Hr a0 a1 a2 a3 a4 T es bs ck (seen ++ [b]) t q c0 c1 c3 c4 c5 c6 c7 c8 k3 k4 k5 k6 k7 k8 false) rfl ?_ ?_
          · exact ⟨_, _, hcall t c _ hcar, rfl, rfl⟩
          · rintro r H' ρ6 S6 a6 w6 ⟨rfl, rfl⟩ hR6 hE6
            rw [l48]
            refine regP_sound hO hTY hC _ hR6 r4b fun ρ7 S7 a7 w7 hR7 hE7 => ?_
            refine opP_sound hO hTY hC hR7 (M := fun r H' => r = .bool (eqI c o) ∧ H' = Hr a0 a1 a2 a3 a4 T es bs ck (seen ++ [b]) t q c0 c1 c3 c4 c5 c6 c7 c8 k3 k4 k5 k6 k7 k8 false) rfl (effQ_of_opO (fun c h => by cases h) rfl r48 ⟨rfl, rfl⟩) ?_
            rintro r H' ρ8 S8 a8 w8 ⟨rfl, rfl⟩ hR8 hE8
            refine regN_sound hO hTY hC hR8 r4c fun ρ9 S9 a9 w9 hR9 hE9 => ?_
            have hE19 := hE14.trans (((hE5.trans hE6).trans (hE7.trans hE8)).trans hE9)
            have ht := (hR9.tmps.eval (.tmp 26)).boolR (b := eqI c o)
            cases hq : eqI c o with
            | false =>
              rw [hq] at ht hent
              refine wpIn_cond_false ht (wpIn_skip (.inr ⟨rfl, kA t q, _, b, hm, cutρ ρ9 7, S9, ?_, ext_cut hE19 h7⟩))
              rw [hent]
              exact to_head hpl hpe hu hR9
            | true =>
              rw [hq] at ht hent
              refine wpIn_cond_true ht (wpIn_region_list ?_)
              rw [l5]
              refine regP_sound hO hTY hC _ hR9 r5a fun ρ10 S10 a10 w10 hR10 hE10 => ?_
              refine opP_sound hO hTY hC hR10 (M := fun r H' => r = .int .i64 (wrapF .i64 ((n : Int) + 1)) ∧ H' = Hr a0 a1 a2 a3 a4 T es bs ck (seen ++ [b]) t q c0 c1 c3 c4 c5 c6 c7 c8 k3 k4 k5 k6 k7 k8 false) rfl (effQ_of_opO (fun c h => by cases h) rfl r51 ⟨rfl, rfl⟩) ?_
              rintro r H' ρ11 S11 a11 w11 ⟨rfl, rfl⟩ hR11 hE11
              refine regN_sound hO hTY hC hR11 r5b fun ρ12 S12 a12 w12 hR12 hE12 => ?_
              refine .inr ⟨rfl, kA t q, _, b, hm, cutρ ρ12 7, S12, ?_, ext_cut ((hE19.trans hE10).trans (hE11.trans hE12)) h7⟩
              rw [hent]
              rw [wrap_small (by omega) (by omega)] at hR12
              exact to_head hpl hpe hu hR12
theorem roundsIn_mono {P : Program} {c : Code} {Q Q' : Exit → Act → World → Prop} (hq : ∀ e a w, Q e a w → Q' e a w) : ∀ {m : Nat} {a : Act} {w : World}, Code.roundsIn Fe dn P c Q m a w → Code.roundsIn Fe dn P c Q' m a w
  | 0, a, w, h => h
  | m + 1, a, w, h => by
    rw [roundsIn_succ] at h ⊢
    refine wpIn_mono h ?_
    intro e a' w' h'
    cases e with
    | normal => exact roundsIn_mono hq h'
    | _ => exact hq _ _ _ h'
theorem rounds (hO : Open Fe) (hTY : TyOk Tryz.prog Y.TY) (hC : CtrOk F Tryz.prog (CO call)) (hcall : ∀ t c H, car t = some c → call 43 [.int .u64 t] H = some (.int .i64 c, H))
    (hpl : plain a0 = true ∧ plain a1 = true ∧ plain a2 = true ∧ plain a3 = true ∧ plain a4 = true) (hu : a0.under 7 = true ∧ a1.under 7 = true ∧ a2.under 7 = true ∧ a3.under 7 = true ∧ a4.under 7 = true)
    (hes : ∀ p ∈ es, (entN car o p).isSome = true) (hold : bs.all (fun b => Nat.blt b ck) = true) (hnd : nodupN bs = true) {N : Nat} (hN : N < 2147483648) :
    ∀ (m : Nat) {ρ : Nat → Option Nat} {S : Nat → Prop} {w : World} {a : Act} {seen : List Nat} {n : Nat} {x12 x13 : AV}, (leftM seen es bs).length = m → n + sumW car o (leftM seen es bs) = N → RelX F ds ρ S ⟨Ts o n x12 x13, Hh a0 a1 a2 a3 a4 T es bs ck seen⟩ a w →
    Code.roundsIn Fe dn Tryz.prog bd (fun e a' w' => e = .exit 0 ∧ ∃ ρ' S' x12 x13 seen', RelX F ds ρ' S' ⟨Ts o N x12 x13, Hh a0 a1 a2 a3 a4 T es bs ck seen'⟩ a' w' ∧ Ext ρ S w ρ' S' w') (m + 1) a w := by
  intro m
  induction m with
  | zero =>
    intro ρ S w a seen n x12 x13 hl hsum hR
    rw [roundsIn_succ]
    refine wpIn_mono (round hO hTY hC hcall hpl hu hes hold hnd (by omega) hR) ?_
    rintro e a' w' (⟨rfl, hnil, ρ', S', y12, y13, h1, h2⟩ | ⟨rfl, k, v, b, hm, _⟩)
    · refine ⟨rfl, ρ', S', y12, y13, seen, ?_, h2⟩
      rw [hnil] at hsum
      have : n = N := by simpa [sumW] using hsum
      rw [← this]; exact h1
    · rw [List.eq_nil_of_length_eq_zero hl] at hm
      simp at hm
  | succ m ih =>
    intro ρ S w a seen n x12 x13 hl hsum hR
    rw [roundsIn_succ]
    refine wpIn_mono (round hO hTY hC hcall hpl hu hes hold hnd (by omega) hR) ?_
    rintro e a' w' (⟨rfl, hnil, ρ', S', y12, y13, h1, h2⟩ | ⟨rfl, k, v, b, hm, ρ', S', h1, h2⟩)
    · rw [hnil] at hl
      simp at hl
    · obtain ⟨g1, g2, _⟩ := leftM_step (car := car) (o := o) (nodupN_spec hnd) hm
      refine roundsIn_mono (fun e a2 w2 hq => ?_) (ih (by omega) (by omega) h1)
      obtain ⟨he, ρ2, S2, y12, y13, seen', h3, h4⟩ := hq
      exact ⟨he, ρ2, S2, y12, y13, seen', h3, h2.trans h4⟩
theorem walk143 (hTY : TyOk Tryz.prog Y.TY) (hC : CtrOk F Tryz.prog (CO call)) (hcall : ∀ t c H, car t = some c → call 43 [.int .u64 t] H = some (.int .i64 c, H))
    (hpl : plain a0 = true ∧ plain a1 = true ∧ plain a2 = true ∧ plain a3 = true ∧ plain a4 = true) (hu : a0.under 7 = true ∧ a1.under 7 = true ∧ a2.under 7 = true ∧ a3.under 7 = true ∧ a4.under 7 = true)
    (hes : ∀ p ∈ es, (entN car o p).isSome = true) (hold : bs.all (fun b => Nat.blt b ck) = true) (hnd : nodupN bs = true) {N : Nat} (hN : N < 2147483648) (hsum : sumW car o (leftM [] es bs) = N) (hlen : (leftM [] es bs).length < 1000000) :
    ∀ ρ S (w : World) vs, Sok F S w → HRel ρ S w (H0 a0 a1 a2 a3 a4 T es bs ck) → VL ρ S w [.ptr 0 0, .int .i64 o] vs → Calls Tryz.prog 143 vs w fun e w' => ∃ v ρ' S' D, e = .returned v ∧ V ρ' S' w' (.int .i64 N) v ∧ HRel ρ' S' w' (H0 a0 a1 a2 a3 a4 T es bs ck ++ D) ∧ Ext ρ S w ρ' S' w' ∧ Sok F S' w' := by
  intro ρ S w vs hs hH hv
  have key := fnW_sound (F := F) (f := 143) (Q := fun c H' => c = .int .i64 N ∧ ∃ D, H' = H0 a0 a1 a2 a3 a4 T es bs ck ++ D) hTY Tryz.func143 e143 hs hH hv fun a hR => ?_
  · refine key.mono ?_
    rintro e w' ⟨v, c, H', ρ', S', rfl, ⟨rfl, D, rfl⟩, h1, h2, h3, h4⟩
    exact ⟨v, ρ', S', D, rfl, h1, h2, h3, h4⟩
  · have hO := open_wide
    refine wpIn_seq (wpIn_region_list (regN_sound hO hTY hC hR r0 fun ρ1 S1 b1 w1 hR1 hE1 => ?_))
    refine wpIn_seq (wpIn_seq (wpIn_region_list (regN_sound hO hTY hC hR1 r1 fun ρ2 S2 b2 w2 hR2 hE2 => ?_)))
    refine wpIn_block (wpIn_loop_rounds _ (roundsIn_mono (fun e b3 w3 hq => ?_) (rounds hO hTY hC hcall hpl hu hes hold hnd hN _ rfl (n := 0) (by rw [hsum]; omega) hR2)))
    obtain ⟨rfl, ρ3, S3, y12, y13, seen', hR3, hE3⟩ := hq
    show Code.wpIn _ _ _ _ _ _ _
    refine wpIn_seq (wpIn_region_list (regN_sound hO hTY hC hR3 r6 fun ρ4 S4 b4 w4 hR4 hE4 => ?_))
    exact wpIn_ret ⟨.inr rfl, ρ4, S4, _, [.int .i64 N], hR4, (hE1.trans hE2).trans (hE3.trans hE4), by kernel_rfl, rfl, [.ext (.mit (some 1) ck seen' ck)], rfl⟩
end
end
end Go.Vc.F

/- (*Book).asked at any memory. -/
namespace Go.Vc.F
open Go Go.Vc Go.Proofs
set_option maxRecDepth 100000
noncomputable section
/-- Numbers that rise. -/
def ascN : List Nat → Bool
  | [] => true
  | [_] => true
  | a :: b :: l => (match Nat.blt a b with | true => ascN (b :: l) | false => false)
theorem ascN_lt : ∀ {l : List Nat} {a : Nat}, ascN (a :: l) = true → ∀ x ∈ l, a < x
  | [], a, _, x, hx => by simp at hx
  | b :: l, a, h, x, hx => by
    rw [ascN] at h
    split at h
    · rename_i hb
      have hab : a < b := Nat.le_of_ble_eq_true hb
      rcases List.mem_cons.1 hx with rfl | hx
      · exact hab
      · exact Nat.lt_trans hab (ascN_lt h x hx)
    · cases h
theorem ascN_tail {a : Nat} {l : List Nat} (h : ascN (a :: l) = true) : ascN l = true := by
  cases l with
  | nil => rfl
  | cons b l =>
    rw [ascN] at h
    split at h
    · exact h
    · cases h
theorem ascN_nodup : ∀ {l : List Nat}, ascN l = true → nodupN l = true
  | [], _ => rfl
  | a :: l, h => by
    rw [nodupN, ascN_nodup (ascN_tail h), Bool.and_true]
    have : ¬ a ∈ l := fun hm => Nat.lt_irrefl _ (ascN_lt h a hm)
    simp [this]
mutual
theorem under_c (n : Nat) : ∀ a : AV, plainc a = true → a.under n = true
  | .agg cs, h => by rw [AV.under]; exact underL_c n cs (by simpa [plainc] using h)
  | .tup cs, h => by rw [AV.under]; exact underL_c n cs (by simpa [plainc] using h)
  | .fn f cs, h => by rw [AV.under]; exact underL_c n cs (by simpa [plainc] using h)
  | .iface t v, h => by rw [AV.under]; exact under_c n v (by simpa [plainc] using h)
  | .any, _ | .bool _, _ | .int _ _, _ | .str _, _ | .nilp, _ | .nilsl, _ | .nilfn, _ | .nilmap, _ | .nilif, _ | .intu _, _ => by simp [AV.under]
  | .ptr _ _, h | .eptr _ _ _ _, h | .rptr _ _, h | .sl _ _ _ _, h | .osl _ _ _ _ _, h | .map _, h | .iter _, h | .yfn _, h => by simp [plainc] at h
theorem underL_c (n : Nat) : ∀ l : List AV, plainLc l = true → underL n l = true
  | [], _ => by simp [underL]
  | a :: l, h => by
    rw [plainLc] at h
    split at h
    · rename_i h1
      rw [underL, Bool.and_eq_true]
      exact ⟨under_c n a h1, underL_c n l h⟩
    · cases h
end
theorem under_of_plain {n : Nat} {a : AV} (h : plain a = true) : a.under n = true := under_c n a (plain_eq a ▸ h)
def askedO (car : Int → Option Int) (args : List AV) (H : List Blk) : Option (AV × List Blk) := match args with
  | [.ptr id 0, .int .i64 o] => (match H[id]? with
    | some (.var [a0, a1, a2, a3, a4, .map i2, .map i3, .map i1, .map i4, .map i5] _) => (match H[i1]? with
      | some (.map es (some (bs, ck))) => guardO (plainL [a0, a1, a2, a3, a4]) (guardO (nodupN [id, i1, i2, i3, i4, i5]) (guardO (bs.all (fun b => Nat.blt b ck)) (guardO (ascN bs) (guardO (Nat.beq bs.length es.length) (guardO (Nat.blt es.length 1000) (match cntN car o es with
        | some n => some (.int .i64 (Int.ofNat n), H)
        | none => none))))))
      | _ => none)
    | _ => none)
  | _ => none
/-- The six blocks' numbers. -/
def sg (id i1 i2 i3 i4 i5 : Nat) : Nat → Nat
  | 0 => id | 1 => i1 | 2 => i2 | 3 => i3 | 4 => i4 | _ => i5
theorem leftM_len {seen : List Nat} : ∀ (es : List (AV × AV)) (bs : List Nat), (leftM seen es bs).length ≤ es.length
  | [], bs => by cases bs <;> simp [leftM]
  | _ :: _, [] => by simp [leftM]
  | (k, v) :: es, b :: bs => by
    rw [leftM]
    have := leftM_len (seen := seen) es bs
    split <;> simp only [List.length_cons] <;> omega
theorem good_asked {F : Nat → Obj → Prop} {call : CallO} {car : Int → Option Int} (hTY : TyOk Tryz.prog Y.TY) (hC : CtrOk F Tryz.prog (CO call)) (hcall : ∀ t c H, car t = some c → call 43 [.int .u64 t] H = some (.int .i64 c, H)) :
    Good F Tryz.prog 143 (fun args H Q => ∃ r H', askedO car args H = some (r, H') ∧ Q r H') := by
  intro ρ S w H cs vs Q hs hH hv hk
  obtain ⟨r, H', h, hQ⟩ := hk
  unfold askedO at h
  split at h
  · rename_i id o
    split at h
    · rename_i a0 a1 a2 a3 a4 i2 i3 i1 i4 i5 T hid
      split at h
      · rename_i es bs ck hmap
        obtain ⟨g1, h⟩ := guardO_some h
        obtain ⟨g2, h⟩ := guardO_some h
        obtain ⟨g3, h⟩ := guardO_some h
        obtain ⟨g4, h⟩ := guardO_some h
        obtain ⟨g5, h⟩ := guardO_some h
        obtain ⟨g6, h⟩ := guardO_some h
        split at h
        · rename_i n hn
          cases h
          obtain ⟨p0, g1⟩ := plainL_cons g1
          obtain ⟨p1, g1⟩ := plainL_cons g1
          obtain ⟨p2, g1⟩ := plainL_cons g1
          obtain ⟨p3, g1⟩ := plainL_cons g1
          obtain ⟨p4, _⟩ := plainL_cons g1
          have hnd6 := nodupN_spec g2
          have hlen : bs.length = es.length := Nat.eq_of_beq_eq_true g5
          have hlt : es.length < 1000 := Nat.le_of_ble_eq_true g6
          obtain ⟨hes, hsum, hle⟩ := cntN_spec (bs := bs) hn hlen
          have hpe : ∀ p ∈ es, plain p.1 = true ∧ plain p.2 = true := fun p hp => by
            obtain ⟨t, q, c0, c1, c3, c4, c5, c6, c7, c8, k3, k4, k5, k6, k7, k8, b, rfl, _⟩ := entN_shape (hes p hp)
            exact ⟨rfl, rfl⟩
          -- where they lie
          obtain ⟨b0, hb0⟩ : ∃ b, ρ id = some b := by
            obtain ⟨v0, hv0⟩ : ∃ v, vs[0]? = some v := ⟨_, Array.getElem?_eq_getElem (by have := hv.1; simp at this; omega)⟩
            cases hv.2 0 _ v0 rfl hv0
            exact ⟨_, by assumption⟩
          obtain ⟨hnS, arr, T1, fr, hc1, hc2, hc3, hc4⟩ := hH.blk id _ hid b0 hb0
          have hmapAt : ∀ (j i : Nat), ([a0, a1, a2, a3, a4, .map i2, .map i3, .map i1, .map i4, .map i5] : List AV)[j]? = some (.map i) → ∃ b, ρ i = some b ∧ arr[j]? = some (.map (some b)) := fun j i hj => by
            have hlt : j < arr.size := by
              rw [hc2]
              exact (List.getElem?_eq_some_iff.1 hj).1
            have h0 := hc4 j _ _ hj (Array.getElem?_eq_getElem hlt)
            rw [Array.getElem?_eq_getElem hlt]
            generalize arr[j] = u at h0 ⊢
            cases h0 with
            | map _ b hb => exact ⟨b, hb, rfl⟩
          obtain ⟨b2, hb2, _⟩ := hmapAt 5 i2 rfl
          obtain ⟨b3, hb3, _⟩ := hmapAt 6 i3 rfl
          obtain ⟨b1, hb1, _⟩ := hmapAt 7 i1 rfl
          obtain ⟨b4, hb4, _⟩ := hmapAt 8 i4 rfl
          obtain ⟨b5, hb5, _⟩ := hmapAt 9 i5 rfl
          have six : ∀ i, i < 6 → i = 0 ∨ i = 1 ∨ i = 2 ∨ i = 3 ∨ i = 4 ∨ i = 5 := fun i hi => by omega
          have hl6 : (H0 a0 a1 a2 a3 a4 T es bs ck).length = 6 := rfl
          have hso : ∀ i, i < (H0 a0 a1 a2 a3 a4 T es bs ck).length → ∃ b, ρ (sg id i1 i2 i3 i4 i5 i) = some b := fun i hi => by
            rw [hl6] at hi
            rcases six i hi with rfl | rfl | rfl | rfl | rfl | rfl
            · exact ⟨_, hb0⟩
            · exact ⟨_, hb1⟩
            · exact ⟨_, hb2⟩
            · exact ⟨_, hb3⟩
            · exact ⟨_, hb4⟩
            · exact ⟨_, hb5⟩
          have hinj : ∀ i j, i < (H0 a0 a1 a2 a3 a4 T es bs ck).length → j < (H0 a0 a1 a2 a3 a4 T es bs ck).length → sg id i1 i2 i3 i4 i5 i = sg id i1 i2 i3 i4 i5 j → i = j := fun i j hi hj he => by
            rw [hl6] at hi hj
            simp only [List.nodup_cons, List.mem_cons, List.mem_nil_iff, not_or, List.not_mem_nil, not_false_eq_true, List.nodup_nil, and_true, or_false] at hnd6
            rcases six i hi with rfl | rfl | rfl | rfl | rfl | rfl <;> rcases six j hj with rfl | rfl | rfl | rfl | rfl | rfl <;> simp only [sg] at he <;> first | rfl | (exfalso; omega)
          have hsub : ∀ i, i < 6 → subρ ρ (sg id i1 i2 i3 i4 i5) 6 i = ρ (sg id i1 i2 i3 i4 i5 i) := fun i hi => by unfold subρ; rw [if_pos hi]
          have cells : ∀ {ρ1 ρ2 : Nat → Option Nat} {S1 S2 : Nat → Prop} {w1 w2 : World} {j2 j3 j1 j4 j5 k2 k3 k1 k4 k5 : Nat} {arr : Array Value}, ρ1 j2 = ρ2 k2 → ρ1 j3 = ρ2 k3 → ρ1 j1 = ρ2 k1 → ρ1 j4 = ρ2 k4 → ρ1 j5 = ρ2 k5 →
              (∀ (j : Nat) (c : AV) (v : Value), ([a0, a1, a2, a3, a4, .map j2, .map j3, .map j1, .map j4, .map j5] : List AV)[j]? = some c → arr[j]? = some v → V ρ1 S1 w1 c v) →
              ∀ (j : Nat) (c : AV) (v : Value), ([a0, a1, a2, a3, a4, .map k2, .map k3, .map k1, .map k4, .map k5] : List AV)[j]? = some c → arr[j]? = some v → V ρ2 S2 w2 c v := by
            intro ρ1 ρ2 S1 S2 w1 w2 j2 j3 j1 j4 j5 k2 k3 k1 k4 k5 arr e2 e3 e1 e4 e5 hcs j c v hj hvj
            have mp : ∀ {i k : Nat}, ρ1 i = ρ2 k → V ρ1 S1 w1 (.map i) v → V ρ2 S2 w2 (.map k) v := fun he hv => by
              cases hv with
              | map _ b hb => exact .map _ b (he ▸ hb)
            match j with
            | 0 => cases hj; exact plain_V (hcs 0 _ v rfl hvj) p0
            | 1 => cases hj; exact plain_V (hcs 1 _ v rfl hvj) p1
            | 2 => cases hj; exact plain_V (hcs 2 _ v rfl hvj) p2
            | 3 => cases hj; exact plain_V (hcs 3 _ v rfl hvj) p3
            | 4 => cases hj; exact plain_V (hcs 4 _ v rfl hvj) p4
            | 5 => cases hj; exact mp e2 (hcs 5 _ v rfl hvj)
            | 6 => cases hj; exact mp e3 (hcs 6 _ v rfl hvj)
            | 7 => cases hj; exact mp e1 (hcs 7 _ v rfl hvj)
            | 8 => cases hj; exact mp e4 (hcs 8 _ v rfl hvj)
            | 9 => cases hj; exact mp e5 (hcs 9 _ v rfl hvj)
            | j + 10 => simp at hj
          have hlive : ∀ (i : Nat) (b : Blk), (H0 a0 a1 a2 a3 a4 T es bs ck)[i]? = some b → b.live = true → ∃ x, H[sg id i1 i2 i3 i4 i5 i]? = some x ∧ x.live = true ∧ BRel (subρ ρ (sg id i1 i2 i3 i4 i5) (H0 a0 a1 a2 a3 a4 T es bs ck).length) S w i b ∧
              ∀ ρ1 S1 (w1 : World), (∀ j, j < (H0 a0 a1 a2 a3 a4 T es bs ck).length → ρ1 j = ρ (sg id i1 i2 i3 i4 i5 j)) → BRel ρ1 S1 w1 i b → BRel ρ S w1 (sg id i1 i2 i3 i4 i5 i) x := by
            intro i b hi hl
            rw [hl6]
            unfold H0 at hi
            match i with
            | 0 =>
              cases hi
              refine ⟨_, hid, rfl, ?_, ?_⟩
              · intro b hb
                rw [hsub 0 (by omega)] at hb
                obtain ⟨k1, arr, T1, fr, k2, k3, k4, k5⟩ := hH.blk id _ hid b hb
                exact ⟨k1, arr, T1, fr, k2, k3, k4, cells (hsub 2 (by omega)).symm (hsub 3 (by omega)).symm (hsub 1 (by omega)).symm (hsub 4 (by omega)).symm (hsub 5 (by omega)).symm k5⟩
              · intro ρ1 S1 w1 hρ hb1 b hb
                obtain ⟨_, arr, T1, fr, k2, k3, k4, k5⟩ := hb1 b ((hρ 0 (by omega)).trans hb)
                exact ⟨(hH.blk id _ hid b hb).1, arr, T1, fr, k2, k3, k4, cells (hρ 2 (by omega)) (hρ 3 (by omega)) (hρ 1 (by omega)) (hρ 4 (by omega)) (hρ 5 (by omega)) k5⟩
            | 1 =>
              cases hi
              refine ⟨_, hmap, rfl, ?_, ?_⟩
              · intro b hb
                rw [hsub 1 (by omega)] at hb
                obtain ⟨k1, es', ck', k2, k3, k4, k5⟩ := hH.blk i1 _ hmap b hb
                refine ⟨k1, es', ck', k2, k3, k4, fun i k x e hk he => ?_⟩
                obtain ⟨q1, q2⟩ := hpe _ (List.mem_of_getElem? hk)
                exact ⟨plain_V (k5 i k x e hk he).1 q1, plain_V (k5 i k x e hk he).2 q2⟩
              · intro ρ1 S1 w1 hρ hb1 b hb
                obtain ⟨_, es', ck', k2, k3, k4, k5⟩ := hb1 b ((hρ 1 (by omega)).trans hb)
                refine ⟨(hH.blk i1 _ hmap b hb).1, es', ck', k2, k3, k4, fun i k x e hk he => ?_⟩
                obtain ⟨q1, q2⟩ := hpe _ (List.mem_of_getElem? hk)
                exact ⟨plain_V (k5 i k x e hk he).1 q1, plain_V (k5 i k x e hk he).2 q2⟩
            | 2 => cases hi; cases hl
            | 3 => cases hi; cases hl
            | 4 => cases hi; cases hl
            | 5 => cases hi; cases hl
            | i + 6 => simp at hi
          have hvB : VL (subρ ρ (sg id i1 i2 i3 i4 i5) (H0 a0 a1 a2 a3 a4 T es bs ck).length) S w [.ptr 0 0, .int .i64 o] vs := by
            refine ⟨hv.1, fun i c v hc hi => ?_⟩
            match i with
            | 0 =>
              cases hc
              have := hv.2 0 _ v rfl hi
              cases this with
              | ptr _ _ b hb => exact .ptr 0 0 b (by rw [hl6, hsub 0 (by omega)]; exact hb)
            | 1 => cases hc; exact plain_V (hv.2 1 _ v rfl hi) rfl
            | i + 2 => simp at hc
          refine (calls_frame (F := F) (P := Tryz.prog) (f := 143) (r0 := .int .i64 (Int.ofNat n)) rfl (walk143 hTY hC hcall ⟨p0, p1, p2, p3, p4⟩ ⟨under_of_plain p0, under_of_plain p1, under_of_plain p2, under_of_plain p3, under_of_plain p4⟩ hes g3 (ascN_nodup g4) (N := n) (by omega) hsum (by have := leftM_len (seen := []) es bs; omega)) hs hH hinj hso hlive hvB).mono ?_
          rintro e w' ⟨v, rfl, hv1, hH1, hE1, hs1⟩
          exact ⟨v, _, H, ρ, S, rfl, hQ, hv1, hH1, hE1, hs1⟩
        · cases h
      · cases h
    · cases h
  · cases h
end
end Go.Vc.F
