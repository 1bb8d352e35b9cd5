/- Trees of sixteen: the executor's memory, as the kernel likes it. -/
import Derived.Test.YtmfamcjilhjncaaGreatV7
set_option linter.all false
namespace Go.Vc
open Go
noncomputable section
structure N16 (α : Type) where
  a0 : α
  a1 : α
  a2 : α
  a3 : α
  a4 : α
  a5 : α
  a6 : α
  a7 : α
  a8 : α
  a9 : α
  a10 : α
  a11 : α
  a12 : α
  a13 : α
  a14 : α
  a15 : α
/-- What is known of an activation's values. -/
structure TM where
  t : N16 (N16 AV)
  n : Nat
abbrev N4 (α : Type) := N16 (N16 (N16 (N16 α)))
/-- Own memory. -/
structure HM where
  t : N4 Blk
  n : Nat
abbrev R := AV × HM
/-! ### Plain form, at the one type of answers -/
noncomputable def natR (n : Nat) (K : Nat → Option R) : Option R := @Nat.rec (fun _ => (Nat → Option R) → Option R) (fun K => K 0) (fun m _ K => K (Nat.succ m)) n K
theorem natR_eq (n : Nat) (K : Nat → Option R) : natR n K = K n := by cases n <;> rfl
noncomputable def intR (n : Int) (K : Int → Option R) : Option R := @Int.rec (fun _ => (Int → Option R) → Option R) (fun m K => natR m fun m => K (.ofNat m)) (fun m K => natR m fun m => K (.negSucc m)) n K
theorem intR_eq (n : Int) (K : Int → Option R) : intR n K = K n := by
  cases n with
  | ofNat m => exact natR_eq m _
  | negSucc m => exact natR_eq m _
noncomputable def strR (l : List UInt8) (K : List UInt8 → Option R) : Option R := @List.rec UInt8 (fun _ => (List UInt8 → Option R) → Option R) (fun K => K []) (fun c _ ih K => ih fun cs => K (c :: cs)) l K
theorem strR_eq (l : List UInt8) (K : List UInt8 → Option R) : strR l K = K l := by
  induction l generalizing K with
  | nil => rfl
  | cons c cs ih => exact ih _
noncomputable def optR (n : Option Nat) (K : Option Nat → Option R) : Option R := @Option.rec Nat (fun _ => (Option Nat → Option R) → Option R) (fun K => K none) (fun n K => natR n fun n => K (some n)) n K
theorem optR_eq (n : Option Nat) (K : Option Nat → Option R) : optR n K = K n := by
  cases n with
  | none => rfl
  | some m => exact natR_eq m _
/-- The head alone. -/
noncomputable def headR (a : AV) (K : AV → Option R) : Option R := @AV.rec (fun _ => (AV → Option R) → Option R) (fun _ => Unit) (fun K => K .any) (fun b K => K (.bool b)) (fun k n K => K (.int k n)) (fun l K => K (.str l)) (fun K => K .nilp) (fun id j K => K (.ptr id j)) (fun id sz e j K => K (.eptr id sz e j)) (fun cs j _ K => K (.rptr cs j)) (fun K => K .nilsl) (fun c sz l g _ K => K (.sl c sz l g)) (fun id sz o l c K => K (.osl id sz o l c)) (fun cs _ K => K (.agg cs)) (fun cs _ K => K (.tup cs)) (fun f cs _ K => K (.fn f cs)) (fun K => K .nilfn) (fun K => K .nilmap) (fun id K => K (.map id)) (fun K => K .nilif) (fun t v _ K => K (.iface t v)) (fun id K => K (.iter id)) (fun id K => K (.yfn id)) (fun k K => K (.intu k)) () (fun _ _ _ _ => ()) a K
theorem headR_eq (a : AV) (K : AV → Option R) : headR a K = K a := by cases a <;> rfl
noncomputable def listR (l : List AV) (K : List AV → Option R) : Option R := @List.rec AV (fun _ => (List AV → Option R) → Option R) (fun K => K []) (fun c _ ih K => headR c fun c => ih fun cs => K (c :: cs)) l K
theorem listR_eq (l : List AV) (K : List AV → Option R) : listR l K = K l := by
  induction l generalizing K with
  | nil => rfl
  | cons c cs ih => exact (headR_eq c _).trans (ih _)
/-- A cell. -/
noncomputable def cellR (a : AV) (K : AV → Option R) : Option R := @AV.rec (fun _ => (AV → Option R) → Option R) (fun _ => Unit) (fun K => K .any) (fun b K => @Bool.rec (fun _ => Option R) (K (.bool false)) (K (.bool true)) b) (fun k n K => intR n fun n => K (.int k n)) (fun l K => strR l fun l => K (.str l)) (fun K => K .nilp) (fun id j K => natR id fun id => natR j fun j => K (.ptr id j)) (fun id sz e j K => natR id fun id => natR sz fun sz => natR e fun e => natR j fun j => K (.eptr id sz e j)) (fun cs j _ K => K (.rptr cs j)) (fun K => K .nilsl) (fun c sz l g _ K => K (.sl c sz l g)) (fun id sz o l c K => natR id fun id => natR sz fun sz => natR o fun o => natR l fun l => optR c fun c => K (.osl id sz o l c)) (fun cs _ K => K (.agg cs)) (fun cs _ K => K (.tup cs)) (fun f cs _ K => K (.fn f cs)) (fun K => K .nilfn) (fun K => K .nilmap) (fun id K => natR id fun id => K (.map id)) (fun K => K .nilif) (fun t v _ K => K (.iface t v)) (fun id K => natR id fun id => K (.iter id)) (fun id K => K (.yfn id)) (fun k K => K (.intu k)) () (fun _ _ _ _ => ()) a K
theorem cellR_eq (a : AV) (K : AV → Option R) : cellR a K = K a := by
  cases a with
  | bool b => cases b <;> rfl
  | int k n => exact intR_eq n _
  | ptr id j => exact (natR_eq id _).trans (natR_eq j _)
  | eptr id sz e j => exact (natR_eq id _).trans ((natR_eq sz _).trans ((natR_eq e _).trans (natR_eq j _)))
  | osl id sz o l c => exact (natR_eq id _).trans ((natR_eq sz _).trans ((natR_eq o _).trans ((natR_eq l _).trans (optR_eq c _))))
  | map id => exact natR_eq id _
  | iter id => exact natR_eq id _
  | str l => exact strR_eq l _
  | _ => rfl
noncomputable def cellsR (l : List AV) (K : List AV → Option R) : Option R := @List.rec AV (fun _ => (List AV → Option R) → Option R) (fun K => K []) (fun c _ ih K => cellR c fun c => ih fun cs => K (c :: cs)) l K
theorem cellsR_eq (l : List AV) (K : List AV → Option R) : cellsR l K = K l := by
  induction l generalizing K with
  | nil => rfl
  | cons c cs ih => exact (cellR_eq c _).trans (ih _)
/-- A fresh value. -/
noncomputable def freshR (a : AV) (K : AV → Option R) : Option R := @AV.rec (fun _ => (AV → Option R) → Option R) (fun _ => Unit) (fun K => K .any) (fun b K => @Bool.rec (fun _ => Option R) (K (.bool false)) (K (.bool true)) b) (fun k n K => intR n fun n => K (.int k n)) (fun l K => strR l fun l => K (.str l)) (fun K => K .nilp) (fun id j K => natR id fun id => natR j fun j => K (.ptr id j)) (fun id sz e j K => natR id fun id => natR sz fun sz => natR e fun e => natR j fun j => K (.eptr id sz e j)) (fun cs j _ K => K (.rptr cs j)) (fun K => K .nilsl) (fun c sz l g _ K => K (.sl c sz l g)) (fun id sz o l c K => natR id fun id => natR sz fun sz => natR o fun o => natR l fun l => optR c fun c => K (.osl id sz o l c)) (fun cs _ K => listR cs fun cs => K (.agg cs)) (fun cs _ K => cellsR cs fun cs => K (.tup cs)) (fun f cs _ K => listR cs fun cs => K (.fn f cs)) (fun K => K .nilfn) (fun K => K .nilmap) (fun id K => natR id fun id => K (.map id)) (fun K => K .nilif) (fun t v _ K => cellR v fun v => K (.iface t v)) (fun id K => natR id fun id => K (.iter id)) (fun id K => K (.yfn id)) (fun k K => K (.intu k)) () (fun _ _ _ _ => ()) a K
theorem freshR_eq (a : AV) (K : AV → Option R) : freshR a K = K a := by
  cases a with
  | agg cs => exact listR_eq cs _
  | tup cs => exact cellsR_eq cs _
  | fn f cs => exact listR_eq cs _
  | iface t v => exact cellR_eq v _
  | bool b => exact cellR_eq (.bool b) K
  | int k n => exact cellR_eq (.int k n) K
  | ptr id j => exact cellR_eq (.ptr id j) K
  | eptr id sz e j => exact cellR_eq (.eptr id sz e j) K
  | osl id sz o l c => exact cellR_eq (.osl id sz o l c) K
  | map id => exact cellR_eq (.map id) K
  | iter id => exact cellR_eq (.iter id) K
  | str l => exact cellR_eq (.str l) K
  | _ => rfl
noncomputable def valR (old : Bool) (a : AV) (K : AV → Option R) : Option R := @Bool.rec (fun _ => Option R) (freshR a K) (headR a K) old
theorem valR_eq (old : Bool) (a : AV) (K : AV → Option R) : valR old a K = K a := by
  cases old with
  | false => exact freshR_eq a K
  | true => exact headR_eq a K
noncomputable def spineR (l : List AV) (K : List AV → Option R) : Option R := @List.rec AV (fun _ => (List AV → Option R) → Option R) (fun K => K []) (fun c _ ih K => ih fun cs => K (c :: cs)) l K
theorem spineR_eq (l : List AV) (K : List AV → Option R) : spineR l K = K l := by
  induction l generalizing K with
  | nil => rfl
  | cons c cs ih => exact ih _
noncomputable def natsR (l : List Nat) (K : List Nat → Option R) : Option R := @List.rec Nat (fun _ => (List Nat → Option R) → Option R) (fun K => K []) (fun c _ ih K => ih fun cs => K (c :: cs)) l K
theorem natsR_eq (l : List Nat) (K : List Nat → Option R) : natsR l K = K l := by
  induction l generalizing K with
  | nil => rfl
  | cons c cs ih => exact ih _
noncomputable def entsR (l : List (AV × AV)) (K : List (AV × AV) → Option R) : Option R := @List.rec (AV × AV) (fun _ => (List (AV × AV) → Option R) → Option R) (fun K => K []) (fun c _ ih K => ih fun cs => K (c :: cs)) l K
theorem entsR_eq (l : List (AV × AV)) (K : List (AV × AV) → Option R) : entsR l K = K l := by
  induction l generalizing K with
  | nil => rfl
  | cons c cs ih => exact ih _
noncomputable def bornR (es : List (AV × AV)) (bk : Option (List Nat × Nat)) (K : Blk → Option R) : Option R := match bk with
  | none => K (.map es none)
  | some (bs, ck) => natsR bs fun bs => natR ck fun ck => K (.map es (some (bs, ck)))
noncomputable def blkR (b : Blk) (K : Blk → Option R) : Option R := @Blk.rec (fun _ => (Blk → Option R) → Option R) (fun K => K .dead) (fun cs T K => spineR cs fun cs => K (.var cs T))
  (fun sz len get T K => natR sz fun sz => natR len fun len => K (.row sz len get T)) (fun s pos K => natR pos fun pos => K (.iter s pos)) (fun es bk K => entsR es fun es => bornR es bk K) (fun x K => K (.ext x)) b K
theorem blkR_eq (b : Blk) (K : Blk → Option R) : blkR b K = K b := by
  cases b with
  | dead => rfl
  | var cs T => exact spineR_eq cs _
  | row sz len get T => exact (natR_eq sz _).trans (natR_eq len _)
  | iter s pos => exact natR_eq pos _
  | map es bk =>
    refine (entsR_eq es _).trans ?_
    cases bk with
    | none => rfl
    | some p => exact (natsR_eq p.1 _).trans (natR_eq p.2 _)
  | ext x => rfl
/-- One of the sixteen. -/
structure SelW (α : Type) where
  f : N16 α → α
section
variable {α : Type}
def selW (d : Nat) : SelW α := (bif Nat.ble 8 d then (bif Nat.ble 12 d then (bif Nat.ble 14 d then (bif Nat.ble 15 d then ⟨N16.a15⟩ else ⟨N16.a14⟩) else (bif Nat.ble 13 d then ⟨N16.a13⟩ else ⟨N16.a12⟩)) else (bif Nat.ble 10 d then (bif Nat.ble 11 d then ⟨N16.a11⟩ else ⟨N16.a10⟩) else (bif Nat.ble 9 d then ⟨N16.a9⟩ else ⟨N16.a8⟩))) else (bif Nat.ble 4 d then (bif Nat.ble 6 d then (bif Nat.ble 7 d then ⟨N16.a7⟩ else ⟨N16.a6⟩) else (bif Nat.ble 5 d then ⟨N16.a5⟩ else ⟨N16.a4⟩)) else (bif Nat.ble 2 d then (bif Nat.ble 3 d then ⟨N16.a3⟩ else ⟨N16.a2⟩) else (bif Nat.ble 1 d then ⟨N16.a1⟩ else ⟨N16.a0⟩))))
def get1 (t : N16 α) (d : Nat) : α := (selW d).f t
def set1 (t : N16 α) (d : Nat) (x : α) : N16 α := (bif Nat.ble 8 d then (bif Nat.ble 12 d then (bif Nat.ble 14 d then (bif Nat.ble 15 d then ⟨t.a0, t.a1, t.a2, t.a3, t.a4, t.a5, t.a6, t.a7, t.a8, t.a9, t.a10, t.a11, t.a12, t.a13, t.a14, x⟩ else ⟨t.a0, t.a1, t.a2, t.a3, t.a4, t.a5, t.a6, t.a7, t.a8, t.a9, t.a10, t.a11, t.a12, t.a13, x, t.a15⟩) else (bif Nat.ble 13 d then ⟨t.a0, t.a1, t.a2, t.a3, t.a4, t.a5, t.a6, t.a7, t.a8, t.a9, t.a10, t.a11, t.a12, x, t.a14, t.a15⟩ else ⟨t.a0, t.a1, t.a2, t.a3, t.a4, t.a5, t.a6, t.a7, t.a8, t.a9, t.a10, t.a11, x, t.a13, t.a14, t.a15⟩)) else (bif Nat.ble 10 d then (bif Nat.ble 11 d then ⟨t.a0, t.a1, t.a2, t.a3, t.a4, t.a5, t.a6, t.a7, t.a8, t.a9, t.a10, x, t.a12, t.a13, t.a14, t.a15⟩ else ⟨t.a0, t.a1, t.a2, t.a3, t.a4, t.a5, t.a6, t.a7, t.a8, t.a9, x, t.a11, t.a12, t.a13, t.a14, t.a15⟩) else (bif Nat.ble 9 d then ⟨t.a0, t.a1, t.a2, t.a3, t.a4, t.a5, t.a6, t.a7, t.a8, x, t.a10, t.a11, t.a12, t.a13, t.a14, t.a15⟩ else ⟨t.a0, t.a1, t.a2, t.a3, t.a4, t.a5, t.a6, t.a7, x, t.a9, t.a10, t.a11, t.a12, t.a13, t.a14, t.a15⟩))) else (bif Nat.ble 4 d then (bif Nat.ble 6 d then (bif Nat.ble 7 d then ⟨t.a0, t.a1, t.a2, t.a3, t.a4, t.a5, t.a6, x, t.a8, t.a9, t.a10, t.a11, t.a12, t.a13, t.a14, t.a15⟩ else ⟨t.a0, t.a1, t.a2, t.a3, t.a4, t.a5, x, t.a7, t.a8, t.a9, t.a10, t.a11, t.a12, t.a13, t.a14, t.a15⟩) else (bif Nat.ble 5 d then ⟨t.a0, t.a1, t.a2, t.a3, t.a4, x, t.a6, t.a7, t.a8, t.a9, t.a10, t.a11, t.a12, t.a13, t.a14, t.a15⟩ else ⟨t.a0, t.a1, t.a2, t.a3, x, t.a5, t.a6, t.a7, t.a8, t.a9, t.a10, t.a11, t.a12, t.a13, t.a14, t.a15⟩)) else (bif Nat.ble 2 d then (bif Nat.ble 3 d then ⟨t.a0, t.a1, t.a2, x, t.a4, t.a5, t.a6, t.a7, t.a8, t.a9, t.a10, t.a11, t.a12, t.a13, t.a14, t.a15⟩ else ⟨t.a0, t.a1, x, t.a3, t.a4, t.a5, t.a6, t.a7, t.a8, t.a9, t.a10, t.a11, t.a12, t.a13, t.a14, t.a15⟩) else (bif Nat.ble 1 d then ⟨t.a0, x, t.a2, t.a3, t.a4, t.a5, t.a6, t.a7, t.a8, t.a9, t.a10, t.a11, t.a12, t.a13, t.a14, t.a15⟩ else ⟨x, t.a1, t.a2, t.a3, t.a4, t.a5, t.a6, t.a7, t.a8, t.a9, t.a10, t.a11, t.a12, t.a13, t.a14, t.a15⟩))))
theorem lt16 {d : Nat} (h : d < 16) : d = 0 ∨ d = 1 ∨ d = 2 ∨ d = 3 ∨ d = 4 ∨ d = 5 ∨ d = 6 ∨ d = 7 ∨ d = 8 ∨ d = 9 ∨ d = 10 ∨ d = 11 ∨ d = 12 ∨ d = 13 ∨ d = 14 ∨ d = 15 := by omega
theorem get_set1 {d e : Nat} (hd : d < 16) (he : e < 16) (t : N16 α) (x : α) : get1 (set1 t d x) e = if d = e then x else get1 t e := by
  rcases lt16 hd with rfl|rfl|rfl|rfl|rfl|rfl|rfl|rfl|rfl|rfl|rfl|rfl|rfl|rfl|rfl|rfl <;> rcases lt16 he with rfl|rfl|rfl|rfl|rfl|rfl|rfl|rfl|rfl|rfl|rfl|rfl|rfl|rfl|rfl|rfl <;> rfl
def get2 (t : N16 (N16 α)) (i : Nat) : α := get1 (get1 t (Nat.div i 16)) (Nat.mod i 16)
def set2 (t : N16 (N16 α)) (i : Nat) (x : α) : N16 (N16 α) := set1 t (Nat.div i 16) (set1 (get1 t (Nat.div i 16)) (Nat.mod i 16) x)
theorem get_set2 {i j : Nat} (hi : i < 256) (hj : j < 256) (t : N16 (N16 α)) (x : α) : get2 (set2 t i x) j = if i = j then x else get2 t j := by
  unfold get2 set2
  simp only [show ∀ a b, Nat.div a b = a / b from fun _ _ => rfl, show ∀ a b, Nat.mod a b = a % b from fun _ _ => rfl]
  rw [get_set1 (by omega) (by omega)]
  by_cases h1 : i / 16 = j / 16
  · rw [if_pos h1, get_set1 (by omega) (by omega)]
    by_cases h2 : i % 16 = j % 16
    · rw [if_pos h2, if_pos (by omega)]
    · rw [if_neg h2, if_neg (by omega), h1]
  · rw [if_neg h1, if_neg (by omega)]
def get4 (t : N4 α) (i : Nat) : α := get2 (get2 t (Nat.div i 256)) (Nat.mod i 256)
def set4 (t : N4 α) (i : Nat) (x : α) : N4 α := set2 t (Nat.div i 256) (set2 (get2 t (Nat.div i 256)) (Nat.mod i 256) x)
theorem get_set4 {i j : Nat} (hi : i < 65536) (hj : j < 65536) (t : N4 α) (x : α) : get4 (set4 t i x) j = if i = j then x else get4 t j := by
  unfold get4 set4
  simp only [show ∀ a b, Nat.div a b = a / b from fun _ _ => rfl, show ∀ a b, Nat.mod a b = a % b from fun _ _ => rfl]
  rw [get_set2 (by omega) (by omega)]
  by_cases h1 : i / 256 = j / 256
  · rw [if_pos h1, get_set2 (by omega) (by omega)]
    by_cases h2 : i % 256 = j % 256
    · rw [if_pos h2, if_pos (by omega)]
    · rw [if_neg h2, if_neg (by omega), h1]
  · rw [if_neg h1, if_neg (by omega)]
/-- A tree, read off as a list. -/
theorem range_map_get (g : Nat → α) (n i : Nat) : ((List.range n).map g)[i]? = if i < n then some (g i) else none := by
  by_cases h : i < n
  · rw [if_pos h, List.getElem?_map, List.getElem?_range h]; rfl
  · rw [if_neg h, List.getElem?_eq_none (by simpa using Nat.le_of_not_lt h)]
theorem range_map_set (g g' : Nat → α) (n i : Nat) (x : α) (h : ∀ j, j < n → g' j = if i = j then x else g j) : (List.range n).map g' = ((List.range n).map g).set i x := by
  apply List.ext_getElem?
  intro j
  rw [range_map_get, List.getElem?_set]
  by_cases hj : j < n
  · rw [if_pos hj, h j hj]
    by_cases hij : i = j
    · subst hij; simp [hj]
    · rw [if_neg hij, if_neg hij, range_map_get, if_pos hj]
  · rw [if_neg hj]
    by_cases hij : i = j
    · subst hij; simp [hj]
    · rw [if_neg hij, range_map_get, if_neg hj]
end
noncomputable def upA0_0 (t : N16 (AV)) (F : AV → (AV → (N16 (AV) → Option R) → Option R) → Option R) : Option R := @N16.rec (AV) (fun _ => (AV → (AV → (N16 (AV) → Option R) → Option R) → Option R) → Option R) (fun a0 a1 a2 a3 a4 a5 a6 a7 a8 a9 a10 a11 a12 a13 a14 a15 F => F a0 (fun x k => k ⟨x, a1, a2, a3, a4, a5, a6, a7, a8, a9, a10, a11, a12, a13, a14, a15⟩)) t F
noncomputable def upA0_1 (t : N16 (AV)) (F : AV → (AV → (N16 (AV) → Option R) → Option R) → Option R) : Option R := @N16.rec (AV) (fun _ => (AV → (AV → (N16 (AV) → Option R) → Option R) → Option R) → Option R) (fun a0 a1 a2 a3 a4 a5 a6 a7 a8 a9 a10 a11 a12 a13 a14 a15 F => F a1 (fun x k => k ⟨a0, x, a2, a3, a4, a5, a6, a7, a8, a9, a10, a11, a12, a13, a14, a15⟩)) t F
noncomputable def upA0_2 (t : N16 (AV)) (F : AV → (AV → (N16 (AV) → Option R) → Option R) → Option R) : Option R := @N16.rec (AV) (fun _ => (AV → (AV → (N16 (AV) → Option R) → Option R) → Option R) → Option R) (fun a0 a1 a2 a3 a4 a5 a6 a7 a8 a9 a10 a11 a12 a13 a14 a15 F => F a2 (fun x k => k ⟨a0, a1, x, a3, a4, a5, a6, a7, a8, a9, a10, a11, a12, a13, a14, a15⟩)) t F
noncomputable def upA0_3 (t : N16 (AV)) (F : AV → (AV → (N16 (AV) → Option R) → Option R) → Option R) : Option R := @N16.rec (AV) (fun _ => (AV → (AV → (N16 (AV) → Option R) → Option R) → Option R) → Option R) (fun a0 a1 a2 a3 a4 a5 a6 a7 a8 a9 a10 a11 a12 a13 a14 a15 F => F a3 (fun x k => k ⟨a0, a1, a2, x, a4, a5, a6, a7, a8, a9, a10, a11, a12, a13, a14, a15⟩)) t F
noncomputable def upA0_4 (t : N16 (AV)) (F : AV → (AV → (N16 (AV) → Option R) → Option R) → Option R) : Option R := @N16.rec (AV) (fun _ => (AV → (AV → (N16 (AV) → Option R) → Option R) → Option R) → Option R) (fun a0 a1 a2 a3 a4 a5 a6 a7 a8 a9 a10 a11 a12 a13 a14 a15 F => F a4 (fun x k => k ⟨a0, a1, a2, a3, x, a5, a6, a7, a8, a9, a10, a11, a12, a13, a14, a15⟩)) t F
noncomputable def upA0_5 (t : N16 (AV)) (F : AV → (AV → (N16 (AV) → Option R) → Option R) → Option R) : Option R := @N16.rec (AV) (fun _ => (AV → (AV → (N16 (AV) → Option R) → Option R) → Option R) → Option R) (fun a0 a1 a2 a3 a4 a5 a6 a7 a8 a9 a10 a11 a12 a13 a14 a15 F => F a5 (fun x k => k ⟨a0, a1, a2, a3, a4, x, a6, a7, a8, a9, a10, a11, a12, a13, a14, a15⟩)) t F
noncomputable def upA0_6 (t : N16 (AV)) (F : AV → (AV → (N16 (AV) → Option R) → Option R) → Option R) : Option R := @N16.rec (AV) (fun _ => (AV → (AV → (N16 (AV) → Option R) → Option R) → Option R) → Option R) (fun a0 a1 a2 a3 a4 a5 a6 a7 a8 a9 a10 a11 a12 a13 a14 a15 F => F a6 (fun x k => k ⟨a0, a1, a2, a3, a4, a5, x, a7, a8, a9, a10, a11, a12, a13, a14, a15⟩)) t F
noncomputable def upA0_7 (t : N16 (AV)) (F : AV → (AV → (N16 (AV) → Option R) → Option R) → Option R) : Option R := @N16.rec (AV) (fun _ => (AV → (AV → (N16 (AV) → Option R) → Option R) → Option R) → Option R) (fun a0 a1 a2 a3 a4 a5 a6 a7 a8 a9 a10 a11 a12 a13 a14 a15 F => F a7 (fun x k => k ⟨a0, a1, a2, a3, a4, a5, a6, x, a8, a9, a10, a11, a12, a13, a14, a15⟩)) t F
noncomputable def upA0_8 (t : N16 (AV)) (F : AV → (AV → (N16 (AV) → Option R) → Option R) → Option R) : Option R := @N16.rec (AV) (fun _ => (AV → (AV → (N16 (AV) → Option R) → Option R) → Option R) → Option R) (fun a0 a1 a2 a3 a4 a5 a6 a7 a8 a9 a10 a11 a12 a13 a14 a15 F => F a8 (fun x k => k ⟨a0, a1, a2, a3, a4, a5, a6, a7, x, a9, a10, a11, a12, a13, a14, a15⟩)) t F
noncomputable def upA0_9 (t : N16 (AV)) (F : AV → (AV → (N16 (AV) → Option R) → Option R) → Option R) : Option R := @N16.rec (AV) (fun _ => (AV → (AV → (N16 (AV) → Option R) → Option R) → Option R) → Option R) (fun a0 a1 a2 a3 a4 a5 a6 a7 a8 a9 a10 a11 a12 a13 a14 a15 F => F a9 (fun x k => k ⟨a0, a1, a2, a3, a4, a5, a6, a7, a8, x, a10, a11, a12, a13, a14, a15⟩)) t F
noncomputable def upA0_10 (t : N16 (AV)) (F : AV → (AV → (N16 (AV) → Option R) → Option R) → Option R) : Option R := @N16.rec (AV) (fun _ => (AV → (AV → (N16 (AV) → Option R) → Option R) → Option R) → Option R) (fun a0 a1 a2 a3 a4 a5 a6 a7 a8 a9 a10 a11 a12 a13 a14 a15 F => F a10 (fun x k => k ⟨a0, a1, a2, a3, a4, a5, a6, a7, a8, a9, x, a11, a12, a13, a14, a15⟩)) t F
noncomputable def upA0_11 (t : N16 (AV)) (F : AV → (AV → (N16 (AV) → Option R) → Option R) → Option R) : Option R := @N16.rec (AV) (fun _ => (AV → (AV → (N16 (AV) → Option R) → Option R) → Option R) → Option R) (fun a0 a1 a2 a3 a4 a5 a6 a7 a8 a9 a10 a11 a12 a13 a14 a15 F => F a11 (fun x k => k ⟨a0, a1, a2, a3, a4, a5, a6, a7, a8, a9, a10, x, a12, a13, a14, a15⟩)) t F
noncomputable def upA0_12 (t : N16 (AV)) (F : AV → (AV → (N16 (AV) → Option R) → Option R) → Option R) : Option R := @N16.rec (AV) (fun _ => (AV → (AV → (N16 (AV) → Option R) → Option R) → Option R) → Option R) (fun a0 a1 a2 a3 a4 a5 a6 a7 a8 a9 a10 a11 a12 a13 a14 a15 F => F a12 (fun x k => k ⟨a0, a1, a2, a3, a4, a5, a6, a7, a8, a9, a10, a11, x, a13, a14, a15⟩)) t F
noncomputable def upA0_13 (t : N16 (AV)) (F : AV → (AV → (N16 (AV) → Option R) → Option R) → Option R) : Option R := @N16.rec (AV) (fun _ => (AV → (AV → (N16 (AV) → Option R) → Option R) → Option R) → Option R) (fun a0 a1 a2 a3 a4 a5 a6 a7 a8 a9 a10 a11 a12 a13 a14 a15 F => F a13 (fun x k => k ⟨a0, a1, a2, a3, a4, a5, a6, a7, a8, a9, a10, a11, a12, x, a14, a15⟩)) t F
noncomputable def upA0_14 (t : N16 (AV)) (F : AV → (AV → (N16 (AV) → Option R) → Option R) → Option R) : Option R := @N16.rec (AV) (fun _ => (AV → (AV → (N16 (AV) → Option R) → Option R) → Option R) → Option R) (fun a0 a1 a2 a3 a4 a5 a6 a7 a8 a9 a10 a11 a12 a13 a14 a15 F => F a14 (fun x k => k ⟨a0, a1, a2, a3, a4, a5, a6, a7, a8, a9, a10, a11, a12, a13, x, a15⟩)) t F
noncomputable def upA0_15 (t : N16 (AV)) (F : AV → (AV → (N16 (AV) → Option R) → Option R) → Option R) : Option R := @N16.rec (AV) (fun _ => (AV → (AV → (N16 (AV) → Option R) → Option R) → Option R) → Option R) (fun a0 a1 a2 a3 a4 a5 a6 a7 a8 a9 a10 a11 a12 a13 a14 a15 F => F a15 (fun x k => k ⟨a0, a1, a2, a3, a4, a5, a6, a7, a8, a9, a10, a11, a12, a13, a14, x⟩)) t F
structure UpdA0 where
  g : N16 (AV) → (AV → (AV → (N16 (AV) → Option R) → Option R) → Option R) → Option R
noncomputable def updA0 (d : Nat) : UpdA0 := (bif Nat.ble 8 d then (bif Nat.ble 12 d then (bif Nat.ble 14 d then (bif Nat.ble 15 d then ⟨upA0_15⟩ else ⟨upA0_14⟩) else (bif Nat.ble 13 d then ⟨upA0_13⟩ else ⟨upA0_12⟩)) else (bif Nat.ble 10 d then (bif Nat.ble 11 d then ⟨upA0_11⟩ else ⟨upA0_10⟩) else (bif Nat.ble 9 d then ⟨upA0_9⟩ else ⟨upA0_8⟩))) else (bif Nat.ble 4 d then (bif Nat.ble 6 d then (bif Nat.ble 7 d then ⟨upA0_7⟩ else ⟨upA0_6⟩) else (bif Nat.ble 5 d then ⟨upA0_5⟩ else ⟨upA0_4⟩)) else (bif Nat.ble 2 d then (bif Nat.ble 3 d then ⟨upA0_3⟩ else ⟨upA0_2⟩) else (bif Nat.ble 1 d then ⟨upA0_1⟩ else ⟨upA0_0⟩))))
theorem updA0_eq {d : Nat} (h : d < 16) (t : N16 (AV)) (F : AV → (AV → (N16 (AV) → Option R) → Option R) → Option R) : (updA0 d).g t F = F (get1 t d) (fun x k => k (set1 t d x)) := by
  rcases lt16 h with rfl|rfl|rfl|rfl|rfl|rfl|rfl|rfl|rfl|rfl|rfl|rfl|rfl|rfl|rfl|rfl <;> rfl
noncomputable def upA1_0 (t : N16 (N16 AV)) (F : N16 AV → (N16 AV → (N16 (N16 AV) → Option R) → Option R) → Option R) : Option R := @N16.rec (N16 AV) (fun _ => (N16 AV → (N16 AV → (N16 (N16 AV) → Option R) → Option R) → Option R) → Option R) (fun a0 a1 a2 a3 a4 a5 a6 a7 a8 a9 a10 a11 a12 a13 a14 a15 F => F a0 (fun x k => k ⟨x, a1, a2, a3, a4, a5, a6, a7, a8, a9, a10, a11, a12, a13, a14, a15⟩)) t F
noncomputable def upA1_1 (t : N16 (N16 AV)) (F : N16 AV → (N16 AV → (N16 (N16 AV) → Option R) → Option R) → Option R) : Option R := @N16.rec (N16 AV) (fun _ => (N16 AV → (N16 AV → (N16 (N16 AV) → Option R) → Option R) → Option R) → Option R) (fun a0 a1 a2 a3 a4 a5 a6 a7 a8 a9 a10 a11 a12 a13 a14 a15 F => F a1 (fun x k => k ⟨a0, x, a2, a3, a4, a5, a6, a7, a8, a9, a10, a11, a12, a13, a14, a15⟩)) t F
noncomputable def upA1_2 (t : N16 (N16 AV)) (F : N16 AV → (N16 AV → (N16 (N16 AV) → Option R) → Option R) → Option R) : Option R := @N16.rec (N16 AV) (fun _ => (N16 AV → (N16 AV → (N16 (N16 AV) → Option R) → Option R) → Option R) → Option R) (fun a0 a1 a2 a3 a4 a5 a6 a7 a8 a9 a10 a11 a12 a13 a14 a15 F => F a2 (fun x k => k ⟨a0, a1, x, a3, a4, a5, a6, a7, a8, a9, a10, a11, a12, a13, a14, a15⟩)) t F
noncomputable def upA1_3 (t : N16 (N16 AV)) (F : N16 AV → (N16 AV → (N16 (N16 AV) → Option R) → Option R) → Option R) : Option R := @N16.rec (N16 AV) (fun _ => (N16 AV → (N16 AV → (N16 (N16 AV) → Option R) → Option R) → Option R) → Option R) (fun a0 a1 a2 a3 a4 a5 a6 a7 a8 a9 a10 a11 a12 a13 a14 a15 F => F a3 (fun x k => k ⟨a0, a1, a2, x, a4, a5, a6, a7, a8, a9, a10, a11, a12, a13, a14, a15⟩)) t F
noncomputable def upA1_4 (t : N16 (N16 AV)) (F : N16 AV → (N16 AV → (N16 (N16 AV) → Option R) → Option R) → Option R) : Option R := @N16.rec (N16 AV) (fun _ => (N16 AV → (N16 AV → (N16 (N16 AV) → Option R) → Option R) → Option R) → Option R) (fun a0 a1 a2 a3 a4 a5 a6 a7 a8 a9 a10 a11 a12 a13 a14 a15 F => F a4 (fun x k => k ⟨a0, a1, a2, a3, x, a5, a6, a7, a8, a9, a10, a11, a12, a13, a14, a15⟩)) t F
noncomputable def upA1_5 (t : N16 (N16 AV)) (F : N16 AV → (N16 AV → (N16 (N16 AV) → Option R) → Option R) → Option R) : Option R := @N16.rec (N16 AV) (fun _ => (N16 AV → (N16 AV → (N16 (N16 AV) → Option R) → Option R) → Option R) → Option R) (fun a0 a1 a2 a3 a4 a5 a6 a7 a8 a9 a10 a11 a12 a13 a14 a15 F => F a5 (fun x k => k ⟨a0, a1, a2, a3, a4, x, a6, a7, a8, a9, a10, a11, a12, a13, a14, a15⟩)) t F
noncomputable def upA1_6 (t : N16 (N16 AV)) (F : N16 AV → (N16 AV → (N16 (N16 AV) → Option R) → Option R) → Option R) : Option R := @N16.rec (N16 AV) (fun _ => (N16 AV → (N16 AV → (N16 (N16 AV) → Option R) → Option R) → Option R) → Option R) (fun a0 a1 a2 a3 a4 a5 a6 a7 a8 a9 a10 a11 a12 a13 a14 a15 F => F a6 (fun x k => k ⟨a0, a1, a2, a3, a4, a5, x, a7, a8, a9, a10, a11, a12, a13, a14, a15⟩)) t F
noncomputable def upA1_7 (t : N16 (N16 AV)) (F : N16 AV → (N16 AV → (N16 (N16 AV) → Option R) → Option R) → Option R) : Option R := @N16.rec (N16 AV) (fun _ => (N16 AV → (N16 AV → (N16 (N16 AV) → Option R) → Option R) → Option R) → Option R) (fun a0 a1 a2 a3 a4 a5 a6 a7 a8 a9 a10 a11 a12 a13 a14 a15 F => F a7 (fun x k => k ⟨a0, a1, a2, a3, a4, a5, a6, x, a8, a9, a10, a11, a12, a13, a14, a15⟩)) t F
noncomputable def upA1_8 (t : N16 (N16 AV)) (F : N16 AV → (N16 AV → (N16 (N16 AV) → Option R) → Option R) → Option R) : Option R := @N16.rec (N16 AV) (fun _ => (N16 AV → (N16 AV → (N16 (N16 AV) → Option R) → Option R) → Option R) → Option R) (fun a0 a1 a2 a3 a4 a5 a6 a7 a8 a9 a10 a11 a12 a13 a14 a15 F => F a8 (fun x k => k ⟨a0, a1, a2, a3, a4, a5, a6, a7, x, a9, a10, a11, a12, a13, a14, a15⟩)) t F
noncomputable def upA1_9 (t : N16 (N16 AV)) (F : N16 AV → (N16 AV → (N16 (N16 AV) → Option R) → Option R) → Option R) : Option R := @N16.rec (N16 AV) (fun _ => (N16 AV → (N16 AV → (N16 (N16 AV) → Option R) → Option R) → Option R) → Option R) (fun a0 a1 a2 a3 a4 a5 a6 a7 a8 a9 a10 a11 a12 a13 a14 a15 F => F a9 (fun x k => k ⟨a0, a1, a2, a3, a4, a5, a6, a7, a8, x, a10, a11, a12, a13, a14, a15⟩)) t F
noncomputable def upA1_10 (t : N16 (N16 AV)) (F : N16 AV → (N16 AV → (N16 (N16 AV) → Option R) → Option R) → Option R) : Option R := @N16.rec (N16 AV) (fun _ => (N16 AV → (N16 AV → (N16 (N16 AV) → Option R) → Option R) → Option R) → Option R) (fun a0 a1 a2 a3 a4 a5 a6 a7 a8 a9 a10 a11 a12 a13 a14 a15 F => F a10 (fun x k => k ⟨a0, a1, a2, a3, a4, a5, a6, a7, a8, a9, x, a11, a12, a13, a14, a15⟩)) t F
noncomputable def upA1_11 (t : N16 (N16 AV)) (F : N16 AV → (N16 AV → (N16 (N16 AV) → Option R) → Option R) → Option R) : Option R := @N16.rec (N16 AV) (fun _ => (N16 AV → (N16 AV → (N16 (N16 AV) → Option R) → Option R) → Option R) → Option R) (fun a0 a1 a2 a3 a4 a5 a6 a7 a8 a9 a10 a11 a12 a13 a14 a15 F => F a11 (fun x k => k ⟨a0, a1, a2, a3, a4, a5, a6, a7, a8, a9, a10, x, a12, a13, a14, a15⟩)) t F
noncomputable def upA1_12 (t : N16 (N16 AV)) (F : N16 AV → (N16 AV → (N16 (N16 AV) → Option R) → Option R) → Option R) : Option R := @N16.rec (N16 AV) (fun _ => (N16 AV → (N16 AV → (N16 (N16 AV) → Option R) → Option R) → Option R) → Option R) (fun a0 a1 a2 a3 a4 a5 a6 a7 a8 a9 a10 a11 a12 a13 a14 a15 F => F a12 (fun x k => k ⟨a0, a1, a2, a3, a4, a5, a6, a7, a8, a9, a10, a11, x, a13, a14, a15⟩)) t F
noncomputable def upA1_13 (t : N16 (N16 AV)) (F : N16 AV → (N16 AV → (N16 (N16 AV) → Option R) → Option R) → Option R) : Option R := @N16.rec (N16 AV) (fun _ => (N16 AV → (N16 AV → (N16 (N16 AV) → Option R) → Option R) → Option R) → Option R) (fun a0 a1 a2 a3 a4 a5 a6 a7 a8 a9 a10 a11 a12 a13 a14 a15 F => F a13 (fun x k => k ⟨a0, a1, a2, a3, a4, a5, a6, a7, a8, a9, a10, a11, a12, x, a14, a15⟩)) t F
noncomputable def upA1_14 (t : N16 (N16 AV)) (F : N16 AV → (N16 AV → (N16 (N16 AV) → Option R) → Option R) → Option R) : Option R := @N16.rec (N16 AV) (fun _ => (N16 AV → (N16 AV → (N16 (N16 AV) → Option R) → Option R) → Option R) → Option R) (fun a0 a1 a2 a3 a4 a5 a6 a7 a8 a9 a10 a11 a12 a13 a14 a15 F => F a14 (fun x k => k ⟨a0, a1, a2, a3, a4, a5, a6, a7, a8, a9, a10, a11, a12, a13, x, a15⟩)) t F
noncomputable def upA1_15 (t : N16 (N16 AV)) (F : N16 AV → (N16 AV → (N16 (N16 AV) → Option R) → Option R) → Option R) : Option R := @N16.rec (N16 AV) (fun _ => (N16 AV → (N16 AV → (N16 (N16 AV) → Option R) → Option R) → Option R) → Option R) (fun a0 a1 a2 a3 a4 a5 a6 a7 a8 a9 a10 a11 a12 a13 a14 a15 F => F a15 (fun x k => k ⟨a0, a1, a2, a3, a4, a5, a6, a7, a8, a9, a10, a11, a12, a13, a14, x⟩)) t F
structure UpdA1 where
  g : N16 (N16 AV) → (N16 AV → (N16 AV → (N16 (N16 AV) → Option R) → Option R) → Option R) → Option R
noncomputable def updA1 (d : Nat) : UpdA1 := (bif Nat.ble 8 d then (bif Nat.ble 12 d then (bif Nat.ble 14 d then (bif Nat.ble 15 d then ⟨upA1_15⟩ else ⟨upA1_14⟩) else (bif Nat.ble 13 d then ⟨upA1_13⟩ else ⟨upA1_12⟩)) else (bif Nat.ble 10 d then (bif Nat.ble 11 d then ⟨upA1_11⟩ else ⟨upA1_10⟩) else (bif Nat.ble 9 d then ⟨upA1_9⟩ else ⟨upA1_8⟩))) else (bif Nat.ble 4 d then (bif Nat.ble 6 d then (bif Nat.ble 7 d then ⟨upA1_7⟩ else ⟨upA1_6⟩) else (bif Nat.ble 5 d then ⟨upA1_5⟩ else ⟨upA1_4⟩)) else (bif Nat.ble 2 d then (bif Nat.ble 3 d then ⟨upA1_3⟩ else ⟨upA1_2⟩) else (bif Nat.ble 1 d then ⟨upA1_1⟩ else ⟨upA1_0⟩))))
theorem updA1_eq {d : Nat} (h : d < 16) (t : N16 (N16 AV)) (F : N16 AV → (N16 AV → (N16 (N16 AV) → Option R) → Option R) → Option R) : (updA1 d).g t F = F (get1 t d) (fun x k => k (set1 t d x)) := by
  rcases lt16 h with rfl|rfl|rfl|rfl|rfl|rfl|rfl|rfl|rfl|rfl|rfl|rfl|rfl|rfl|rfl|rfl <;> rfl
noncomputable def upB0_0 (t : N16 (Blk)) (F : Blk → (Blk → (N16 (Blk) → Option R) → Option R) → Option R) : Option R := @N16.rec (Blk) (fun _ => (Blk → (Blk → (N16 (Blk) → Option R) → Option R) → Option R) → Option R) (fun a0 a1 a2 a3 a4 a5 a6 a7 a8 a9 a10 a11 a12 a13 a14 a15 F => F a0 (fun x k => k ⟨x, a1, a2, a3, a4, a5, a6, a7, a8, a9, a10, a11, a12, a13, a14, a15⟩)) t F
noncomputable def upB0_1 (t : N16 (Blk)) (F : Blk → (Blk → (N16 (Blk) → Option R) → Option R) → Option R) : Option R := @N16.rec (Blk) (fun _ => (Blk → (Blk → (N16 (Blk) → Option R) → Option R) → Option R) → Option R) (fun a0 a1 a2 a3 a4 a5 a6 a7 a8 a9 a10 a11 a12 a13 a14 a15 F => F a1 (fun x k => k ⟨a0, x, a2, a3, a4, a5, a6, a7, a8, a9, a10, a11, a12, a13, a14, a15⟩)) t F
noncomputable def upB0_2 (t : N16 (Blk)) (F : Blk → (Blk → (N16 (Blk) → Option R) → Option R) → Option R) : Option R := @N16.rec (Blk) (fun _ => (Blk → (Blk → (N16 (Blk) → Option R) → Option R) → Option R) → Option R) (fun a0 a1 a2 a3 a4 a5 a6 a7 a8 a9 a10 a11 a12 a13 a14 a15 F => F a2 (fun x k => k ⟨a0, a1, x, a3, a4, a5, a6, a7, a8, a9, a10, a11, a12, a13, a14, a15⟩)) t F
noncomputable def upB0_3 (t : N16 (Blk)) (F : Blk → (Blk → (N16 (Blk) → Option R) → Option R) → Option R) : Option R := @N16.rec (Blk) (fun _ => (Blk → (Blk → (N16 (Blk) → Option R) → Option R) → Option R) → Option R) (fun a0 a1 a2 a3 a4 a5 a6 a7 a8 a9 a10 a11 a12 a13 a14 a15 F => F a3 (fun x k => k ⟨a0, a1, a2, x, a4, a5, a6, a7, a8, a9, a10, a11, a12, a13, a14, a15⟩)) t F
noncomputable def upB0_4 (t : N16 (Blk)) (F : Blk → (Blk → (N16 (Blk) → Option R) → Option R) → Option R) : Option R := @N16.rec (Blk) (fun _ => (Blk → (Blk → (N16 (Blk) → Option R) → Option R) → Option R) → Option R) (fun a0 a1 a2 a3 a4 a5 a6 a7 a8 a9 a10 a11 a12 a13 a14 a15 F => F a4 (fun x k => k ⟨a0, a1, a2, a3, x, a5, a6, a7, a8, a9, a10, a11, a12, a13, a14, a15⟩)) t F
noncomputable def upB0_5 (t : N16 (Blk)) (F : Blk → (Blk → (N16 (Blk) → Option R) → Option R) → Option R) : Option R := @N16.rec (Blk) (fun _ => (Blk → (Blk → (N16 (Blk) → Option R) → Option R) → Option R) → Option R) (fun a0 a1 a2 a3 a4 a5 a6 a7 a8 a9 a10 a11 a12 a13 a14 a15 F => F a5 (fun x k => k ⟨a0, a1, a2, a3, a4, x, a6, a7, a8, a9, a10, a11, a12, a13, a14, a15⟩)) t F
noncomputable def upB0_6 (t : N16 (Blk)) (F : Blk → (Blk → (N16 (Blk) → Option R) → Option R) → Option R) : Option R := @N16.rec (Blk) (fun _ => (Blk → (Blk → (N16 (Blk) → Option R) → Option R) → Option R) → Option R) (fun a0 a1 a2 a3 a4 a5 a6 a7 a8 a9 a10 a11 a12 a13 a14 a15 F => F a6 (fun x k => k ⟨a0, a1, a2, a3, a4, a5, x, a7, a8, a9, a10, a11, a12, a13, a14, a15⟩)) t F
noncomputable def upB0_7 (t : N16 (Blk)) (F : Blk → (Blk → (N16 (Blk) → Option R) → Option R) → Option R) : Option R := @N16.rec (Blk) (fun _ => (Blk → (Blk → (N16 (Blk) → Option R) → Option R) → Option R) → Option R) (fun a0 a1 a2 a3 a4 a5 a6 a7 a8 a9 a10 a11 a12 a13 a14 a15 F => F a7 (fun x k => k ⟨a0, a1, a2, a3, a4, a5, a6, x, a8, a9, a10, a11, a12, a13, a14, a15⟩)) t F
noncomputable def upB0_8 (t : N16 (Blk)) (F : Blk → (Blk → (N16 (Blk) → Option R) → Option R) → Option R) : Option R := @N16.rec (Blk) (fun _ => (Blk → (Blk → (N16 (Blk) → Option R) → Option R) → Option R) → Option R) (fun a0 a1 a2 a3 a4 a5 a6 a7 a8 a9 a10 a11 a12 a13 a14 a15 F => F a8 (fun x k => k ⟨a0, a1, a2, a3, a4, a5, a6, a7, x, a9, a10, a11, a12, a13, a14, a15⟩)) t F
noncomputable def upB0_9 (t : N16 (Blk)) (F : Blk → (Blk → (N16 (Blk) → Option R) → Option R) → Option R) : Option R := @N16.rec (Blk) (fun _ => (Blk → (Blk → (N16 (Blk) → Option R) → Option R) → Option R) → Option R) (fun a0 a1 a2 a3 a4 a5 a6 a7 a8 a9 a10 a11 a12 a13 a14 a15 F => F a9 (fun x k => k ⟨a0, a1, a2, a3, a4, a5, a6, a7, a8, x, a10, a11, a12, a13, a14, a15⟩)) t F
noncomputable def upB0_10 (t : N16 (Blk)) (F : Blk → (Blk → (N16 (Blk) → Option R) → Option R) → Option R) : Option R := @N16.rec (Blk) (fun _ => (Blk → (Blk → (N16 (Blk) → Option R) → Option R) → Option R) → Option R) (fun a0 a1 a2 a3 a4 a5 a6 a7 a8 a9 a10 a11 a12 a13 a14 a15 F => F a10 (fun x k => k ⟨a0, a1, a2, a3, a4, a5, a6, a7, a8, a9, x, a11, a12, a13, a14, a15⟩)) t F
noncomputable def upB0_11 (t : N16 (Blk)) (F : Blk → (Blk → (N16 (Blk) → Option R) → Option R) → Option R) : Option R := @N16.rec (Blk) (fun _ => (Blk → (Blk → (N16 (Blk) → Option R) → Option R) → Option R) → Option R) (fun a0 a1 a2 a3 a4 a5 a6 a7 a8 a9 a10 a11 a12 a13 a14 a15 F => F a11 (fun x k => k ⟨a0, a1, a2, a3, a4, a5, a6, a7, a8, a9, a10, x, a12, a13, a14, a15⟩)) t F
noncomputable def upB0_12 (t : N16 (Blk)) (F : Blk → (Blk → (N16 (Blk) → Option R) → Option R) → Option R) : Option R := @N16.rec (Blk) (fun _ => (Blk → (Blk → (N16 (Blk) → Option R) → Option R) → Option R) → Option R) (fun a0 a1 a2 a3 a4 a5 a6 a7 a8 a9 a10 a11 a12 a13 a14 a15 F => F a12 (fun x k => k ⟨a0, a1, a2, a3, a4, a5, a6, a7, a8, a9, a10, a11, x, a13, a14, a15⟩)) t F
noncomputable def upB0_13 (t : N16 (Blk)) (F : Blk → (Blk → (N16 (Blk) → Option R) → Option R) → Option R) : Option R := @N16.rec (Blk) (fun _ => (Blk → (Blk → (N16 (Blk) → Option R) → Option R) → Option R) → Option R) (fun a0 a1 a2 a3 a4 a5 a6 a7 a8 a9 a10 a11 a12 a13 a14 a15 F => F a13 (fun x k => k ⟨a0, a1, a2, a3, a4, a5, a6, a7, a8, a9, a10, a11, a12, x, a14, a15⟩)) t F
noncomputable def upB0_14 (t : N16 (Blk)) (F : Blk → (Blk → (N16 (Blk) → Option R) → Option R) → Option R) : Option R := @N16.rec (Blk) (fun _ => (Blk → (Blk → (N16 (Blk) → Option R) → Option R) → Option R) → Option R) (fun a0 a1 a2 a3 a4 a5 a6 a7 a8 a9 a10 a11 a12 a13 a14 a15 F => F a14 (fun x k => k ⟨a0, a1, a2, a3, a4, a5, a6, a7, a8, a9, a10, a11, a12, a13, x, a15⟩)) t F
noncomputable def upB0_15 (t : N16 (Blk)) (F : Blk → (Blk → (N16 (Blk) → Option R) → Option R) → Option R) : Option R := @N16.rec (Blk) (fun _ => (Blk → (Blk → (N16 (Blk) → Option R) → Option R) → Option R) → Option R) (fun a0 a1 a2 a3 a4 a5 a6 a7 a8 a9 a10 a11 a12 a13 a14 a15 F => F a15 (fun x k => k ⟨a0, a1, a2, a3, a4, a5, a6, a7, a8, a9, a10, a11, a12, a13, a14, x⟩)) t F
structure UpdB0 where
  g : N16 (Blk) → (Blk → (Blk → (N16 (Blk) → Option R) → Option R) → Option R) → Option R
noncomputable def updB0 (d : Nat) : UpdB0 := (bif Nat.ble 8 d then (bif Nat.ble 12 d then (bif Nat.ble 14 d then (bif Nat.ble 15 d then ⟨upB0_15⟩ else ⟨upB0_14⟩) else (bif Nat.ble 13 d then ⟨upB0_13⟩ else ⟨upB0_12⟩)) else (bif Nat.ble 10 d then (bif Nat.ble 11 d then ⟨upB0_11⟩ else ⟨upB0_10⟩) else (bif Nat.ble 9 d then ⟨upB0_9⟩ else ⟨upB0_8⟩))) else (bif Nat.ble 4 d then (bif Nat.ble 6 d then (bif Nat.ble 7 d then ⟨upB0_7⟩ else ⟨upB0_6⟩) else (bif Nat.ble 5 d then ⟨upB0_5⟩ else ⟨upB0_4⟩)) else (bif Nat.ble 2 d then (bif Nat.ble 3 d then ⟨upB0_3⟩ else ⟨upB0_2⟩) else (bif Nat.ble 1 d then ⟨upB0_1⟩ else ⟨upB0_0⟩))))
theorem updB0_eq {d : Nat} (h : d < 16) (t : N16 (Blk)) (F : Blk → (Blk → (N16 (Blk) → Option R) → Option R) → Option R) : (updB0 d).g t F = F (get1 t d) (fun x k => k (set1 t d x)) := by
  rcases lt16 h with rfl|rfl|rfl|rfl|rfl|rfl|rfl|rfl|rfl|rfl|rfl|rfl|rfl|rfl|rfl|rfl <;> rfl
noncomputable def upB1_0 (t : N16 (N16 Blk)) (F : N16 Blk → (N16 Blk → (N16 (N16 Blk) → Option R) → Option R) → Option R) : Option R := @N16.rec (N16 Blk) (fun _ => (N16 Blk → (N16 Blk → (N16 (N16 Blk) → Option R) → Option R) → Option R) → Option R) (fun a0 a1 a2 a3 a4 a5 a6 a7 a8 a9 a10 a11 a12 a13 a14 a15 F => F a0 (fun x k => k ⟨x, a1, a2, a3, a4, a5, a6, a7, a8, a9, a10, a11, a12, a13, a14, a15⟩)) t F
noncomputable def upB1_1 (t : N16 (N16 Blk)) (F : N16 Blk → (N16 Blk → (N16 (N16 Blk) → Option R) → Option R) → Option R) : Option R := @N16.rec (N16 Blk) (fun _ => (N16 Blk → (N16 Blk → (N16 (N16 Blk) → Option R) → Option R) → Option R) → Option R) (fun a0 a1 a2 a3 a4 a5 a6 a7 a8 a9 a10 a11 a12 a13 a14 a15 F => F a1 (fun x k => k ⟨a0, x, a2, a3, a4, a5, a6, a7, a8, a9, a10, a11, a12, a13, a14, a15⟩)) t F
noncomputable def upB1_2 (t : N16 (N16 Blk)) (F : N16 Blk → (N16 Blk → (N16 (N16 Blk) → Option R) → Option R) → Option R) : Option R := @N16.rec (N16 Blk) (fun _ => (N16 Blk → (N16 Blk → (N16 (N16 Blk) → Option R) → Option R) → Option R) → Option R) (fun a0 a1 a2 a3 a4 a5 a6 a7 a8 a9 a10 a11 a12 a13 a14 a15 F => F a2 (fun x k => k ⟨a0, a1, x, a3, a4, a5, a6, a7, a8, a9, a10, a11, a12, a13, a14, a15⟩)) t F
noncomputable def upB1_3 (t : N16 (N16 Blk)) (F : N16 Blk → (N16 Blk → (N16 (N16 Blk) → Option R) → Option R) → Option R) : Option R := @N16.rec (N16 Blk) (fun _ => (N16 Blk → (N16 Blk → (N16 (N16 Blk) → Option R) → Option R) → Option R) → Option R) (fun a0 a1 a2 a3 a4 a5 a6 a7 a8 a9 a10 a11 a12 a13 a14 a15 F => F a3 (fun x k => k ⟨a0, a1, a2, x, a4, a5, a6, a7, a8, a9, a10, a11, a12, a13, a14, a15⟩)) t F
noncomputable def upB1_4 (t : N16 (N16 Blk)) (F : N16 Blk → (N16 Blk → (N16 (N16 Blk) → Option R) → Option R) → Option R) : Option R := @N16.rec (N16 Blk) (fun _ => (N16 Blk → (N16 Blk → (N16 (N16 Blk) → Option R) → Option R) → Option R) → Option R) (fun a0 a1 a2 a3 a4 a5 a6 a7 a8 a9 a10 a11 a12 a13 a14 a15 F => F a4 (fun x k => k ⟨a0, a1, a2, a3, x, a5, a6, a7, a8, a9, a10, a11, a12, a13, a14, a15⟩)) t F
noncomputable def upB1_5 (t : N16 (N16 Blk)) (F : N16 Blk → (N16 Blk → (N16 (N16 Blk) → Option R) → Option R) → Option R) : Option R := @N16.rec (N16 Blk) (fun _ => (N16 Blk → (N16 Blk → (N16 (N16 Blk) → Option R) → Option R) → Option R) → Option R) (fun a0 a1 a2 a3 a4 a5 a6 a7 a8 a9 a10 a11 a12 a13 a14 a15 F => F a5 (fun x k => k ⟨a0, a1, a2, a3, a4, x, a6, a7, a8, a9, a10, a11, a12, a13, a14, a15⟩)) t F
noncomputable def upB1_6 (t : N16 (N16 Blk)) (F : N16 Blk → (N16 Blk → (N16 (N16 Blk) → Option R) → Option R) → Option R) : Option R := @N16.rec (N16 Blk) (fun _ => (N16 Blk → (N16 Blk → (N16 (N16 Blk) → Option R) → Option R) → Option R) → Option R) (fun a0 a1 a2 a3 a4 a5 a6 a7 a8 a9 a10 a11 a12 a13 a14 a15 F => F a6 (fun x k => k ⟨a0, a1, a2, a3, a4, a5, x, a7, a8, a9, a10, a11, a12, a13, a14, a15⟩)) t F
noncomputable def upB1_7 (t : N16 (N16 Blk)) (F : N16 Blk → (N16 Blk → (N16 (N16 Blk) → Option R) → Option R) → Option R) : Option R := @N16.rec (N16 Blk) (fun _ => (N16 Blk → (N16 Blk → (N16 (N16 Blk) → Option R) → Option R) → Option R) → Option R) (fun a0 a1 a2 a3 a4 a5 a6 a7 a8 a9 a10 a11 a12 a13 a14 a15 F => F a7 (fun x k => k ⟨a0, a1, a2, a3, a4, a5, a6, x, a8, a9, a10, a11, a12, a13, a14, a15⟩)) t F
noncomputable def upB1_8 (t : N16 (N16 Blk)) (F : N16 Blk → (N16 Blk → (N16 (N16 Blk) → Option R) → Option R) → Option R) : Option R := @N16.rec (N16 Blk) (fun _ => (N16 Blk → (N16 Blk → (N16 (N16 Blk) → Option R) → Option R) → Option R) → Option R) (fun a0 a1 a2 a3 a4 a5 a6 a7 a8 a9 a10 a11 a12 a13 a14 a15 F => F a8 (fun x k => k ⟨a0, a1, a2, a3, a4, a5, a6, a7, x, a9, a10, a11, a12, a13, a14, a15⟩)) t F
noncomputable def upB1_9 (t : N16 (N16 Blk)) (F : N16 Blk → (N16 Blk → (N16 (N16 Blk) → Option R) → Option R) → Option R) : Option R := @N16.rec (N16 Blk) (fun _ => (N16 Blk → (N16 Blk → (N16 (N16 Blk) → Option R) → Option R) → Option R) → Option R) (fun a0 a1 a2 a3 a4 a5 a6 a7 a8 a9 a10 a11 a12 a13 a14 a15 F => F a9 (fun x k => k ⟨a0, a1, a2, a3, a4, a5, a6, a7, a8, x, a10, a11, a12, a13, a14, a15⟩)) t F
noncomputable def upB1_10 (t : N16 (N16 Blk)) (F : N16 Blk → (N16 Blk → (N16 (N16 Blk) → Option R) → Option R) → Option R) : Option R := @N16.rec (N16 Blk) (fun _ => (N16 Blk → (N16 Blk → (N16 (N16 Blk) → Option R) → Option R) → Option R) → Option R) (fun a0 a1 a2 a3 a4 a5 a6 a7 a8 a9 a10 a11 a12 a13 a14 a15 F => F a10 (fun x k => k ⟨a0, a1, a2, a3, a4, a5, a6, a7, a8, a9, x, a11, a12, a13, a14, a15⟩)) t F
noncomputable def upB1_11 (t : N16 (N16 Blk)) (F : N16 Blk → (N16 Blk → (N16 (N16 Blk) → Option R) → Option R) → Option R) : Option R := @N16.rec (N16 Blk) (fun _ => (N16 Blk → (N16 Blk → (N16 (N16 Blk) → Option R) → Option R) → Option R) → Option R) (fun a0 a1 a2 a3 a4 a5 a6 a7 a8 a9 a10 a11 a12 a13 a14 a15 F => F a11 (fun x k => k ⟨a0, a1, a2, a3, a4, a5, a6, a7, a8, a9, a10, x, a12, a13, a14, a15⟩)) t F
noncomputable def upB1_12 (t : N16 (N16 Blk)) (F : N16 Blk → (N16 Blk → (N16 (N16 Blk) → Option R) → Option R) → Option R) : Option R := @N16.rec (N16 Blk) (fun _ => (N16 Blk → (N16 Blk → (N16 (N16 Blk) → Option R) → Option R) → Option R) → Option R) (fun a0 a1 a2 a3 a4 a5 a6 a7 a8 a9 a10 a11 a12 a13 a14 a15 F => F a12 (fun x k => k ⟨a0, a1, a2, a3, a4, a5, a6, a7, a8, a9, a10, a11, x, a13, a14, a15⟩)) t F
noncomputable def upB1_13 (t : N16 (N16 Blk)) (F : N16 Blk → (N16 Blk → (N16 (N16 Blk) → Option R) → Option R) → Option R) : Option R := @N16.rec (N16 Blk) (fun _ => (N16 Blk → (N16 Blk → (N16 (N16 Blk) → Option R) → Option R) → Option R) → Option R) (fun a0 a1 a2 a3 a4 a5 a6 a7 a8 a9 a10 a11 a12 a13 a14 a15 F => F a13 (fun x k => k ⟨a0, a1, a2, a3, a4, a5, a6, a7, a8, a9, a10, a11, a12, x, a14, a15⟩)) t F
noncomputable def upB1_14 (t : N16 (N16 Blk)) (F : N16 Blk → (N16 Blk → (N16 (N16 Blk) → Option R) → Option R) → Option R) : Option R := @N16.rec (N16 Blk) (fun _ => (N16 Blk → (N16 Blk → (N16 (N16 Blk) → Option R) → Option R) → Option R) → Option R) (fun a0 a1 a2 a3 a4 a5 a6 a7 a8 a9 a10 a11 a12 a13 a14 a15 F => F a14 (fun x k => k ⟨a0, a1, a2, a3, a4, a5, a6, a7, a8, a9, a10, a11, a12, a13, x, a15⟩)) t F
noncomputable def upB1_15 (t : N16 (N16 Blk)) (F : N16 Blk → (N16 Blk → (N16 (N16 Blk) → Option R) → Option R) → Option R) : Option R := @N16.rec (N16 Blk) (fun _ => (N16 Blk → (N16 Blk → (N16 (N16 Blk) → Option R) → Option R) → Option R) → Option R) (fun a0 a1 a2 a3 a4 a5 a6 a7 a8 a9 a10 a11 a12 a13 a14 a15 F => F a15 (fun x k => k ⟨a0, a1, a2, a3, a4, a5, a6, a7, a8, a9, a10, a11, a12, a13, a14, x⟩)) t F
structure UpdB1 where
  g : N16 (N16 Blk) → (N16 Blk → (N16 Blk → (N16 (N16 Blk) → Option R) → Option R) → Option R) → Option R
noncomputable def updB1 (d : Nat) : UpdB1 := (bif Nat.ble 8 d then (bif Nat.ble 12 d then (bif Nat.ble 14 d then (bif Nat.ble 15 d then ⟨upB1_15⟩ else ⟨upB1_14⟩) else (bif Nat.ble 13 d then ⟨upB1_13⟩ else ⟨upB1_12⟩)) else (bif Nat.ble 10 d then (bif Nat.ble 11 d then ⟨upB1_11⟩ else ⟨upB1_10⟩) else (bif Nat.ble 9 d then ⟨upB1_9⟩ else ⟨upB1_8⟩))) else (bif Nat.ble 4 d then (bif Nat.ble 6 d then (bif Nat.ble 7 d then ⟨upB1_7⟩ else ⟨upB1_6⟩) else (bif Nat.ble 5 d then ⟨upB1_5⟩ else ⟨upB1_4⟩)) else (bif Nat.ble 2 d then (bif Nat.ble 3 d then ⟨upB1_3⟩ else ⟨upB1_2⟩) else (bif Nat.ble 1 d then ⟨upB1_1⟩ else ⟨upB1_0⟩))))
theorem updB1_eq {d : Nat} (h : d < 16) (t : N16 (N16 Blk)) (F : N16 Blk → (N16 Blk → (N16 (N16 Blk) → Option R) → Option R) → Option R) : (updB1 d).g t F = F (get1 t d) (fun x k => k (set1 t d x)) := by
  rcases lt16 h with rfl|rfl|rfl|rfl|rfl|rfl|rfl|rfl|rfl|rfl|rfl|rfl|rfl|rfl|rfl|rfl <;> rfl
noncomputable def upB2_0 (t : N16 (N16 (N16 Blk))) (F : N16 (N16 Blk) → (N16 (N16 Blk) → (N16 (N16 (N16 Blk)) → Option R) → Option R) → Option R) : Option R := @N16.rec (N16 (N16 Blk)) (fun _ => (N16 (N16 Blk) → (N16 (N16 Blk) → (N16 (N16 (N16 Blk)) → Option R) → Option R) → Option R) → Option R) (fun a0 a1 a2 a3 a4 a5 a6 a7 a8 a9 a10 a11 a12 a13 a14 a15 F => F a0 (fun x k => k ⟨x, a1, a2, a3, a4, a5, a6, a7, a8, a9, a10, a11, a12, a13, a14, a15⟩)) t F
noncomputable def upB2_1 (t : N16 (N16 (N16 Blk))) (F : N16 (N16 Blk) → (N16 (N16 Blk) → (N16 (N16 (N16 Blk)) → Option R) → Option R) → Option R) : Option R := @N16.rec (N16 (N16 Blk)) (fun _ => (N16 (N16 Blk) → (N16 (N16 Blk) → (N16 (N16 (N16 Blk)) → Option R) → Option R) → Option R) → Option R) (fun a0 a1 a2 a3 a4 a5 a6 a7 a8 a9 a10 a11 a12 a13 a14 a15 F => F a1 (fun x k => k ⟨a0, x, a2, a3, a4, a5, a6, a7, a8, a9, a10, a11, a12, a13, a14, a15⟩)) t F
noncomputable def upB2_2 (t : N16 (N16 (N16 Blk))) (F : N16 (N16 Blk) → (N16 (N16 Blk) → (N16 (N16 (N16 Blk)) → Option R) → Option R) → Option R) : Option R := @N16.rec (N16 (N16 Blk)) (fun _ => (N16 (N16 Blk) → (N16 (N16 Blk) → (N16 (N16 (N16 Blk)) → Option R) → Option R) → Option R) → Option R) (fun a0 a1 a2 a3 a4 a5 a6 a7 a8 a9 a10 a11 a12 a13 a14 a15 F => F a2 (fun x k => k ⟨a0, a1, x, a3, a4, a5, a6, a7, a8, a9, a10, a11, a12, a13, a14, a15⟩)) t F
noncomputable def upB2_3 (t : N16 (N16 (N16 Blk))) (F : N16 (N16 Blk) → (N16 (N16 Blk) → (N16 (N16 (N16 Blk)) → Option R) → Option R) → Option R) : Option R := @N16.rec (N16 (N16 Blk)) (fun _ => (N16 (N16 Blk) → (N16 (N16 Blk) → (N16 (N16 (N16 Blk)) → Option R) → Option R) → Option R) → Option R) (fun a0 a1 a2 a3 a4 a5 a6 a7 a8 a9 a10 a11 a12 a13 a14 a15 F => F a3 (fun x k => k ⟨a0, a1, a2, x, a4, a5, a6, a7, a8, a9, a10, a11, a12, a13, a14, a15⟩)) t F
noncomputable def upB2_4 (t : N16 (N16 (N16 Blk))) (F : N16 (N16 Blk) → (N16 (N16 Blk) → (N16 (N16 (N16 Blk)) → Option R) → Option R) → Option R) : Option R := @N16.rec (N16 (N16 Blk)) (fun _ => (N16 (N16 Blk) → (N16 (N16 Blk) → (N16 (N16 (N16 Blk)) → Option R) → Option R) → Option R) → Option R) (fun a0 a1 a2 a3 a4 a5 a6 a7 a8 a9 a10 a11 a12 a13 a14 a15 F => F a4 (fun x k => k ⟨a0, a1, a2, a3, x, a5, a6, a7, a8, a9, a10, a11, a12, a13, a14, a15⟩)) t F
noncomputable def upB2_5 (t : N16 (N16 (N16 Blk))) (F : N16 (N16 Blk) → (N16 (N16 Blk) → (N16 (N16 (N16 Blk)) → Option R) → Option R) → Option R) : Option R := @N16.rec (N16 (N16 Blk)) (fun _ => (N16 (N16 Blk) → (N16 (N16 Blk) → (N16 (N16 (N16 Blk)) → Option R) → Option R) → Option R) → Option R) (fun a0 a1 a2 a3 a4 a5 a6 a7 a8 a9 a10 a11 a12 a13 a14 a15 F => F a5 (fun x k => k ⟨a0, a1, a2, a3, a4, x, a6, a7, a8, a9, a10, a11, a12, a13, a14, a15⟩)) t F
noncomputable def upB2_6 (t : N16 (N16 (N16 Blk))) (F : N16 (N16 Blk) → (N16 (N16 Blk) → (N16 (N16 (N16 Blk)) → Option R) → Option R) → Option R) : Option R := @N16.rec (N16 (N16 Blk)) (fun _ => (N16 (N16 Blk) → (N16 (N16 Blk) → (N16 (N16 (N16 Blk)) → Option R) → Option R) → Option R) → Option R) (fun a0 a1 a2 a3 a4 a5 a6 a7 a8 a9 a10 a11 a12 a13 a14 a15 F => F a6 (fun x k => k ⟨a0, a1, a2, a3, a4, a5, x, a7, a8, a9, a10, a11, a12, a13, a14, a15⟩)) t F
noncomputable def upB2_7 (t : N16 (N16 (N16 Blk))) (F : N16 (N16 Blk) → (N16 (N16 Blk) → (N16 (N16 (N16 Blk)) → Option R) → Option R) → Option R) : Option R := @N16.rec (N16 (N16 Blk)) (fun _ => (N16 (N16 Blk) → (N16 (N16 Blk) → (N16 (N16 (N16 Blk)) → Option R) → Option R) → Option R) → Option R) (fun a0 a1 a2 a3 a4 a5 a6 a7 a8 a9 a10 a11 a12 a13 a14 a15 F => F a7 (fun x k => k ⟨a0, a1, a2, a3, a4, a5, a6, x, a8, a9, a10, a11, a12, a13, a14, a15⟩)) t F
noncomputable def upB2_8 (t : N16 (N16 (N16 Blk))) (F : N16 (N16 Blk) → (N16 (N16 Blk) → (N16 (N16 (N16 Blk)) → Option R) → Option R) → Option R) : Option R := @N16.rec (N16 (N16 Blk)) (fun _ => (N16 (N16 Blk) → (N16 (N16 Blk) → (N16 (N16 (N16 Blk)) → Option R) → Option R) → Option R) → Option R) (fun a0 a1 a2 a3 a4 a5 a6 a7 a8 a9 a10 a11 a12 a13 a14 a15 F => F a8 (fun x k => k ⟨a0, a1, a2, a3, a4, a5, a6, a7, x, a9, a10, a11, a12, a13, a14, a15⟩)) t F
noncomputable def upB2_9 (t : N16 (N16 (N16 Blk))) (F : N16 (N16 Blk) → (N16 (N16 Blk) → (N16 (N16 (N16 Blk)) → Option R) → Option R) → Option R) : Option R := @N16.rec (N16 (N16 Blk)) (fun _ => (N16 (N16 Blk) → (N16 (N16 Blk) → (N16 (N16 (N16 Blk)) → Option R) → Option R) → Option R) → Option R) (fun a0 a1 a2 a3 a4 a5 a6 a7 a8 a9 a10 a11 a12 a13 a14 a15 F => F a9 (fun x k => k ⟨a0, a1, a2, a3, a4, a5, a6, a7, a8, x, a10, a11, a12, a13, a14, a15⟩)) t F
noncomputable def upB2_10 (t : N16 (N16 (N16 Blk))) (F : N16 (N16 Blk) → (N16 (N16 Blk) → (N16 (N16 (N16 Blk)) → Option R) → Option R) → Option R) : Option R := @N16.rec (N16 (N16 Blk)) (fun _ => (N16 (N16 Blk) → (N16 (N16 Blk) → (N16 (N16 (N16 Blk)) → Option R) → Option R) → Option R) → Option R) (fun a0 a1 a2 a3 a4 a5 a6 a7 a8 a9 a10 a11 a12 a13 a14 a15 F => F a10 (fun x k => k ⟨a0, a1, a2, a3, a4, a5, a6, a7, a8, a9, x, a11, a12, a13, a14, a15⟩)) t F
noncomputable def upB2_11 (t : N16 (N16 (N16 Blk))) (F : N16 (N16 Blk) → (N16 (N16 Blk) → (N16 (N16 (N16 Blk)) → Option R) → Option R) → Option R) : Option R := @N16.rec (N16 (N16 Blk)) (fun _ => (N16 (N16 Blk) → (N16 (N16 Blk) → (N16 (N16 (N16 Blk)) → Option R) → Option R) → Option R) → Option R) (fun a0 a1 a2 a3 a4 a5 a6 a7 a8 a9 a10 a11 a12 a13 a14 a15 F => F a11 (fun x k => k ⟨a0, a1, a2, a3, a4, a5, a6, a7, a8, a9, a10, x, a12, a13, a14, a15⟩)) t F
noncomputable def upB2_12 (t : N16 (N16 (N16 Blk))) (F : N16 (N16 Blk) → (N16 (N16 Blk) → (N16 (N16 (N16 Blk)) → Option R) → Option R) → Option R) : Option R := @N16.rec (N16 (N16 Blk)) (fun _ => (N16 (N16 Blk) → (N16 (N16 Blk) → (N16 (N16 (N16 Blk)) → Option R) → Option R) → Option R) → Option R) (fun a0 a1 a2 a3 a4 a5 a6 a7 a8 a9 a10 a11 a12 a13 a14 a15 F => F a12 (fun x k => k ⟨a0, a1, a2, a3, a4, a5, a6, a7, a8, a9, a10, a11, x, a13, a14, a15⟩)) t F
noncomputable def upB2_13 (t : N16 (N16 (N16 Blk))) (F : N16 (N16 Blk) → (N16 (N16 Blk) → (N16 (N16 (N16 Blk)) → Option R) → Option R) → Option R) : Option R := @N16.rec (N16 (N16 Blk)) (fun _ => (N16 (N16 Blk) → (N16 (N16 Blk) → (N16 (N16 (N16 Blk)) → Option R) → Option R) → Option R) → Option R) (fun a0 a1 a2 a3 a4 a5 a6 a7 a8 a9 a10 a11 a12 a13 a14 a15 F => F a13 (fun x k => k ⟨a0, a1, a2, a3, a4, a5, a6, a7, a8, a9, a10, a11, a12, x, a14, a15⟩)) t F
noncomputable def upB2_14 (t : N16 (N16 (N16 Blk))) (F : N16 (N16 Blk) → (N16 (N16 Blk) → (N16 (N16 (N16 Blk)) → Option R) → Option R) → Option R) : Option R := @N16.rec (N16 (N16 Blk)) (fun _ => (N16 (N16 Blk) → (N16 (N16 Blk) → (N16 (N16 (N16 Blk)) → Option R) → Option R) → Option R) → Option R) (fun a0 a1 a2 a3 a4 a5 a6 a7 a8 a9 a10 a11 a12 a13 a14 a15 F => F a14 (fun x k => k ⟨a0, a1, a2, a3, a4, a5, a6, a7, a8, a9, a10, a11, a12, a13, x, a15⟩)) t F
noncomputable def upB2_15 (t : N16 (N16 (N16 Blk))) (F : N16 (N16 Blk) → (N16 (N16 Blk) → (N16 (N16 (N16 Blk)) → Option R) → Option R) → Option R) : Option R := @N16.rec (N16 (N16 Blk)) (fun _ => (N16 (N16 Blk) → (N16 (N16 Blk) → (N16 (N16 (N16 Blk)) → Option R) → Option R) → Option R) → Option R) (fun a0 a1 a2 a3 a4 a5 a6 a7 a8 a9 a10 a11 a12 a13 a14 a15 F => F a15 (fun x k => k ⟨a0, a1, a2, a3, a4, a5, a6, a7, a8, a9, a10, a11, a12, a13, a14, x⟩)) t F
structure UpdB2 where
  g : N16 (N16 (N16 Blk)) → (N16 (N16 Blk) → (N16 (N16 Blk) → (N16 (N16 (N16 Blk)) → Option R) → Option R) → Option R) → Option R
noncomputable def updB2 (d : Nat) : UpdB2 := (bif Nat.ble 8 d then (bif Nat.ble 12 d then (bif Nat.ble 14 d then (bif Nat.ble 15 d then ⟨upB2_15⟩ else ⟨upB2_14⟩) else (bif Nat.ble 13 d then ⟨upB2_13⟩ else ⟨upB2_12⟩)) else (bif Nat.ble 10 d then (bif Nat.ble 11 d then ⟨upB2_11⟩ else ⟨upB2_10⟩) else (bif Nat.ble 9 d then ⟨upB2_9⟩ else ⟨upB2_8⟩))) else (bif Nat.ble 4 d then (bif Nat.ble 6 d then (bif Nat.ble 7 d then ⟨upB2_7⟩ else ⟨upB2_6⟩) else (bif Nat.ble 5 d then ⟨upB2_5⟩ else ⟨upB2_4⟩)) else (bif Nat.ble 2 d then (bif Nat.ble 3 d then ⟨upB2_3⟩ else ⟨upB2_2⟩) else (bif Nat.ble 1 d then ⟨upB2_1⟩ else ⟨upB2_0⟩))))
theorem updB2_eq {d : Nat} (h : d < 16) (t : N16 (N16 (N16 Blk))) (F : N16 (N16 Blk) → (N16 (N16 Blk) → (N16 (N16 (N16 Blk)) → Option R) → Option R) → Option R) : (updB2 d).g t F = F (get1 t d) (fun x k => k (set1 t d x)) := by
  rcases lt16 h with rfl|rfl|rfl|rfl|rfl|rfl|rfl|rfl|rfl|rfl|rfl|rfl|rfl|rfl|rfl|rfl <;> rfl
noncomputable def upB3_0 (t : N16 (N16 (N16 (N16 Blk)))) (F : N16 (N16 (N16 Blk)) → (N16 (N16 (N16 Blk)) → (N16 (N16 (N16 (N16 Blk))) → Option R) → Option R) → Option R) : Option R := @N16.rec (N16 (N16 (N16 Blk))) (fun _ => (N16 (N16 (N16 Blk)) → (N16 (N16 (N16 Blk)) → (N16 (N16 (N16 (N16 Blk))) → Option R) → Option R) → Option R) → Option R) (fun a0 a1 a2 a3 a4 a5 a6 a7 a8 a9 a10 a11 a12 a13 a14 a15 F => F a0 (fun x k => k ⟨x, a1, a2, a3, a4, a5, a6, a7, a8, a9, a10, a11, a12, a13, a14, a15⟩)) t F
noncomputable def upB3_1 (t : N16 (N16 (N16 (N16 Blk)))) (F : N16 (N16 (N16 Blk)) → (N16 (N16 (N16 Blk)) → (N16 (N16 (N16 (N16 Blk))) → Option R) → Option R) → Option R) : Option R := @N16.rec (N16 (N16 (N16 Blk))) (fun _ => (N16 (N16 (N16 Blk)) → (N16 (N16 (N16 Blk)) → (N16 (N16 (N16 (N16 Blk))) → Option R) → Option R) → Option R) → Option R) (fun a0 a1 a2 a3 a4 a5 a6 a7 a8 a9 a10 a11 a12 a13 a14 a15 F => F a1 (fun x k => k ⟨a0, x, a2, a3, a4, a5, a6, a7, a8, a9, a10, a11, a12, a13, a14, a15⟩)) t F
noncomputable def upB3_2 (t : N16 (N16 (N16 (N16 Blk)))) (F : N16 (N16 (N16 Blk)) → (N16 (N16 (N16 Blk)) → (N16 (N16 (N16 (N16 Blk))) → Option R) → Option R) → Option R) : Option R := @N16.rec (N16 (N16 (N16 Blk))) (fun _ => (N16 (N16 (N16 Blk)) → (N16 (N16 (N16 Blk)) → (N16 (N16 (N16 (N16 Blk))) → Option R) → Option R) → Option R) → Option R) (fun a0 a1 a2 a3 a4 a5 a6 a7 a8 a9 a10 a11 a12 a13 a14 a15 F => F a2 (fun x k => k ⟨a0, a1, x, a3, a4, a5, a6, a7, a8, a9, a10, a11, a12, a13, a14, a15⟩)) t F
noncomputable def upB3_3 (t : N16 (N16 (N16 (N16 Blk)))) (F : N16 (N16 (N16 Blk)) → (N16 (N16 (N16 Blk)) → (N16 (N16 (N16 (N16 Blk))) → Option R) → Option R) → Option R) : Option R := @N16.rec (N16 (N16 (N16 Blk))) (fun _ => (N16 (N16 (N16 Blk)) → (N16 (N16 (N16 Blk)) → (N16 (N16 (N16 (N16 Blk))) → Option R) → Option R) → Option R) → Option R) (fun a0 a1 a2 a3 a4 a5 a6 a7 a8 a9 a10 a11 a12 a13 a14 a15 F => F a3 (fun x k => k ⟨a0, a1, a2, x, a4, a5, a6, a7, a8, a9, a10, a11, a12, a13, a14, a15⟩)) t F
noncomputable def upB3_4 (t : N16 (N16 (N16 (N16 Blk)))) (F : N16 (N16 (N16 Blk)) → (N16 (N16 (N16 Blk)) → (N16 (N16 (N16 (N16 Blk))) → Option R) → Option R) → Option R) : Option R := @N16.rec (N16 (N16 (N16 Blk))) (fun _ => (N16 (N16 (N16 Blk)) → (N16 (N16 (N16 Blk)) → (N16 (N16 (N16 (N16 Blk))) → Option R) → Option R) → Option R) → Option R) (fun a0 a1 a2 a3 a4 a5 a6 a7 a8 a9 a10 a11 a12 a13 a14 a15 F => F a4 (fun x k => k ⟨a0, a1, a2, a3, x, a5, a6, a7, a8, a9, a10, a11, a12, a13, a14, a15⟩)) t F
noncomputable def upB3_5 (t : N16 (N16 (N16 (N16 Blk)))) (F : N16 (N16 (N16 Blk)) → (N16 (N16 (N16 Blk)) → (N16 (N16 (N16 (N16 Blk))) → Option R) → Option R) → Option R) : Option R := @N16.rec (N16 (N16 (N16 Blk))) (fun _ => (N16 (N16 (N16 Blk)) → (N16 (N16 (N16 Blk)) → (N16 (N16 (N16 (N16 Blk))) → Option R) → Option R) → Option R) → Option R) (fun a0 a1 a2 a3 a4 a5 a6 a7 a8 a9 a10 a11 a12 a13 a14 a15 F => F a5 (fun x k => k ⟨a0, a1, a2, a3, a4, x, a6, a7, a8, a9, a10, a11, a12, a13, a14, a15⟩)) t F
noncomputable def upB3_6 (t : N16 (N16 (N16 (N16 Blk)))) (F : N16 (N16 (N16 Blk)) → (N16 (N16 (N16 Blk)) → (N16 (N16 (N16 (N16 Blk))) → Option R) → Option R) → Option R) : Option R := @N16.rec (N16 (N16 (N16 Blk))) (fun _ => (N16 (N16 (N16 Blk)) → (N16 (N16 (N16 Blk)) → (N16 (N16 (N16 (N16 Blk))) → Option R) → Option R) → Option R) → Option R) (fun a0 a1 a2 a3 a4 a5 a6 a7 a8 a9 a10 a11 a12 a13 a14 a15 F => F a6 (fun x k => k ⟨a0, a1, a2, a3, a4, a5, x, a7, a8, a9, a10, a11, a12, a13, a14, a15⟩)) t F
noncomputable def upB3_7 (t : N16 (N16 (N16 (N16 Blk)))) (F : N16 (N16 (N16 Blk)) → (N16 (N16 (N16 Blk)) → (N16 (N16 (N16 (N16 Blk))) → Option R) → Option R) → Option R) : Option R := @N16.rec (N16 (N16 (N16 Blk))) (fun _ => (N16 (N16 (N16 Blk)) → (N16 (N16 (N16 Blk)) → (N16 (N16 (N16 (N16 Blk))) → Option R) → Option R) → Option R) → Option R) (fun a0 a1 a2 a3 a4 a5 a6 a7 a8 a9 a10 a11 a12 a13 a14 a15 F => F a7 (fun x k => k ⟨a0, a1, a2, a3, a4, a5, a6, x, a8, a9, a10, a11, a12, a13, a14, a15⟩)) t F
noncomputable def upB3_8 (t : N16 (N16 (N16 (N16 Blk)))) (F : N16 (N16 (N16 Blk)) → (N16 (N16 (N16 Blk)) → (N16 (N16 (N16 (N16 Blk))) → Option R) → Option R) → Option R) : Option R := @N16.rec (N16 (N16 (N16 Blk))) (fun _ => (N16 (N16 (N16 Blk)) → (N16 (N16 (N16 Blk)) → (N16 (N16 (N16 (N16 Blk))) → Option R) → Option R) → Option R) → Option R) (fun a0 a1 a2 a3 a4 a5 a6 a7 a8 a9 a10 a11 a12 a13 a14 a15 F => F a8 (fun x k => k ⟨a0, a1, a2, a3, a4, a5, a6, a7, x, a9, a10, a11, a12, a13, a14, a15⟩)) t F
noncomputable def upB3_9 (t : N16 (N16 (N16 (N16 Blk)))) (F : N16 (N16 (N16 Blk)) → (N16 (N16 (N16 Blk)) → (N16 (N16 (N16 (N16 Blk))) → Option R) → Option R) → Option R) : Option R := @N16.rec (N16 (N16 (N16 Blk))) (fun _ => (N16 (N16 (N16 Blk)) → (N16 (N16 (N16 Blk)) → (N16 (N16 (N16 (N16 Blk))) → Option R) → Option R) → Option R) → Option R) (fun a0 a1 a2 a3 a4 a5 a6 a7 a8 a9 a10 a11 a12 a13 a14 a15 F => F a9 (fun x k => k ⟨a0, a1, a2, a3, a4, a5, a6, a7, a8, x, a10, a11, a12, a13, a14, a15⟩)) t F
noncomputable def upB3_10 (t : N16 (N16 (N16 (N16 Blk)))) (F : N16 (N16 (N16 Blk)) → (N16 (N16 (N16 Blk)) → (N16 (N16 (N16 (N16 Blk))) → Option R) → Option R) → Option R) : Option R := @N16.rec (N16 (N16 (N16 Blk))) (fun _ => (N16 (N16 (N16 Blk)) → (N16 (N16 (N16 Blk)) → (N16 (N16 (N16 (N16 Blk))) → Option R) → Option R) → Option R) → Option R) (fun a0 a1 a2 a3 a4 a5 a6 a7 a8 a9 a10 a11 a12 a13 a14 a15 F => F a10 (fun x k => k ⟨a0, a1, a2, a3, a4, a5, a6, a7, a8, a9, x, a11, a12, a13, a14, a15⟩)) t F
noncomputable def upB3_11 (t : N16 (N16 (N16 (N16 Blk)))) (F : N16 (N16 (N16 Blk)) → (N16 (N16 (N16 Blk)) → (N16 (N16 (N16 (N16 Blk))) → Option R) → Option R) → Option R) : Option R := @N16.rec (N16 (N16 (N16 Blk))) (fun _ => (N16 (N16 (N16 Blk)) → (N16 (N16 (N16 Blk)) → (N16 (N16 (N16 (N16 Blk))) → Option R) → Option R) → Option R) → Option R) (fun a0 a1 a2 a3 a4 a5 a6 a7 a8 a9 a10 a11 a12 a13 a14 a15 F => F a11 (fun x k => k ⟨a0, a1, a2, a3, a4, a5, a6, a7, a8, a9, a10, x, a12, a13, a14, a15⟩)) t F
noncomputable def upB3_12 (t : N16 (N16 (N16 (N16 Blk)))) (F : N16 (N16 (N16 Blk)) → (N16 (N16 (N16 Blk)) → (N16 (N16 (N16 (N16 Blk))) → Option R) → Option R) → Option R) : Option R := @N16.rec (N16 (N16 (N16 Blk))) (fun _ => (N16 (N16 (N16 Blk)) → (N16 (N16 (N16 Blk)) → (N16 (N16 (N16 (N16 Blk))) → Option R) → Option R) → Option R) → Option R) (fun a0 a1 a2 a3 a4 a5 a6 a7 a8 a9 a10 a11 a12 a13 a14 a15 F => F a12 (fun x k => k ⟨a0, a1, a2, a3, a4, a5, a6, a7, a8, a9, a10, a11, x, a13, a14, a15⟩)) t F
noncomputable def upB3_13 (t : N16 (N16 (N16 (N16 Blk)))) (F : N16 (N16 (N16 Blk)) → (N16 (N16 (N16 Blk)) → (N16 (N16 (N16 (N16 Blk))) → Option R) → Option R) → Option R) : Option R := @N16.rec (N16 (N16 (N16 Blk))) (fun _ => (N16 (N16 (N16 Blk)) → (N16 (N16 (N16 Blk)) → (N16 (N16 (N16 (N16 Blk))) → Option R) → Option R) → Option R) → Option R) (fun a0 a1 a2 a3 a4 a5 a6 a7 a8 a9 a10 a11 a12 a13 a14 a15 F => F a13 (fun x k => k ⟨a0, a1, a2, a3, a4, a5, a6, a7, a8, a9, a10, a11, a12, x, a14, a15⟩)) t F
noncomputable def upB3_14 (t : N16 (N16 (N16 (N16 Blk)))) (F : N16 (N16 (N16 Blk)) → (N16 (N16 (N16 Blk)) → (N16 (N16 (N16 (N16 Blk))) → Option R) → Option R) → Option R) : Option R := @N16.rec (N16 (N16 (N16 Blk))) (fun _ => (N16 (N16 (N16 Blk)) → (N16 (N16 (N16 Blk)) → (N16 (N16 (N16 (N16 Blk))) → Option R) → Option R) → Option R) → Option R) (fun a0 a1 a2 a3 a4 a5 a6 a7 a8 a9 a10 a11 a12 a13 a14 a15 F => F a14 (fun x k => k ⟨a0, a1, a2, a3, a4, a5, a6, a7, a8, a9, a10, a11, a12, a13, x, a15⟩)) t F
noncomputable def upB3_15 (t : N16 (N16 (N16 (N16 Blk)))) (F : N16 (N16 (N16 Blk)) → (N16 (N16 (N16 Blk)) → (N16 (N16 (N16 (N16 Blk))) → Option R) → Option R) → Option R) : Option R := @N16.rec (N16 (N16 (N16 Blk))) (fun _ => (N16 (N16 (N16 Blk)) → (N16 (N16 (N16 Blk)) → (N16 (N16 (N16 (N16 Blk))) → Option R) → Option R) → Option R) → Option R) (fun a0 a1 a2 a3 a4 a5 a6 a7 a8 a9 a10 a11 a12 a13 a14 a15 F => F a15 (fun x k => k ⟨a0, a1, a2, a3, a4, a5, a6, a7, a8, a9, a10, a11, a12, a13, a14, x⟩)) t F
structure UpdB3 where
  g : N16 (N16 (N16 (N16 Blk))) → (N16 (N16 (N16 Blk)) → (N16 (N16 (N16 Blk)) → (N16 (N16 (N16 (N16 Blk))) → Option R) → Option R) → Option R) → Option R
noncomputable def updB3 (d : Nat) : UpdB3 := (bif Nat.ble 8 d then (bif Nat.ble 12 d then (bif Nat.ble 14 d then (bif Nat.ble 15 d then ⟨upB3_15⟩ else ⟨upB3_14⟩) else (bif Nat.ble 13 d then ⟨upB3_13⟩ else ⟨upB3_12⟩)) else (bif Nat.ble 10 d then (bif Nat.ble 11 d then ⟨upB3_11⟩ else ⟨upB3_10⟩) else (bif Nat.ble 9 d then ⟨upB3_9⟩ else ⟨upB3_8⟩))) else (bif Nat.ble 4 d then (bif Nat.ble 6 d then (bif Nat.ble 7 d then ⟨upB3_7⟩ else ⟨upB3_6⟩) else (bif Nat.ble 5 d then ⟨upB3_5⟩ else ⟨upB3_4⟩)) else (bif Nat.ble 2 d then (bif Nat.ble 3 d then ⟨upB3_3⟩ else ⟨upB3_2⟩) else (bif Nat.ble 1 d then ⟨upB3_1⟩ else ⟨upB3_0⟩))))
theorem updB3_eq {d : Nat} (h : d < 16) (t : N16 (N16 (N16 (N16 Blk)))) (F : N16 (N16 (N16 Blk)) → (N16 (N16 (N16 Blk)) → (N16 (N16 (N16 (N16 Blk))) → Option R) → Option R) → Option R) : (updB3 d).g t F = F (get1 t d) (fun x k => k (set1 t d x)) := by
  rcases lt16 h with rfl|rfl|rfl|rfl|rfl|rfl|rfl|rfl|rfl|rfl|rfl|rfl|rfl|rfl|rfl|rfl <;> rfl
noncomputable def updKA (t : N16 (N16 AV)) (i : Nat) (F : AV → (AV → (N16 (N16 AV) → Option R) → Option R) → Option R) : Option R :=
  (updA1 (Nat.div i 16)).g t fun s r => (updA0 (Nat.mod i 16)).g s fun a r2 => F a (fun x k => r2 x fun s' => r s' k)
theorem updKA_eq {i : Nat} (hi : i < 256) (t : N16 (N16 AV)) (F : AV → (AV → (N16 (N16 AV) → Option R) → Option R) → Option R) : updKA t i F = F (get2 t i) (fun x k => k (set2 t i x)) := by
  unfold updKA
  rw [updA1_eq (d := Nat.div i 16) (show i / 16 < 16 by omega), updA0_eq (d := Nat.mod i 16) (show i % 16 < 16 by omega)]
  rfl
noncomputable def updKB0 (t : N16 (N16 Blk)) (i : Nat) (F : Blk → (Blk → (N16 (N16 Blk) → Option R) → Option R) → Option R) : Option R :=
  (updB1 (Nat.div i 16)).g t fun s r => (updB0 (Nat.mod i 16)).g s fun a r2 => F a (fun x k => r2 x fun s' => r s' k)
theorem updKB0_eq {i : Nat} (hi : i < 256) (t : N16 (N16 Blk)) (F : Blk → (Blk → (N16 (N16 Blk) → Option R) → Option R) → Option R) : updKB0 t i F = F (get2 t i) (fun x k => k (set2 t i x)) := by
  unfold updKB0
  rw [updB1_eq (d := Nat.div i 16) (show i / 16 < 16 by omega), updB0_eq (d := Nat.mod i 16) (show i % 16 < 16 by omega)]
  rfl
noncomputable def updKB1 (t : N4 Blk) (i : Nat) (F : N16 (N16 Blk) → (N16 (N16 Blk) → (N4 Blk → Option R) → Option R) → Option R) : Option R :=
  (updB3 (Nat.div i 16)).g t fun s r => (updB2 (Nat.mod i 16)).g s fun a r2 => F a (fun x k => r2 x fun s' => r s' k)
theorem updKB1_eq {i : Nat} (hi : i < 256) (t : N4 Blk) (F : N16 (N16 Blk) → (N16 (N16 Blk) → (N4 Blk → Option R) → Option R) → Option R) : updKB1 t i F = F (get2 t i) (fun x k => k (set2 t i x)) := by
  unfold updKB1
  rw [updB3_eq (d := Nat.div i 16) (show i / 16 < 16 by omega), updB2_eq (d := Nat.mod i 16) (show i % 16 < 16 by omega)]
  rfl
noncomputable def updKB (t : N4 Blk) (i : Nat) (F : Blk → (Blk → (N4 Blk → Option R) → Option R) → Option R) : Option R :=
  updKB1 t (Nat.div i 256) fun s r => updKB0 s (Nat.mod i 256) fun a r2 => F a (fun x k => r2 x fun s' => r s' k)
theorem updKB_eq {i : Nat} (hi : i < 65536) (t : N4 Blk) (F : Blk → (Blk → (N4 Blk → Option R) → Option R) → Option R) : updKB t i F = F (get4 t i) (fun x k => k (set4 t i x)) := by
  unfold updKB
  rw [updKB1_eq (i := Nat.div i 256) (show i / 256 < 256 by omega), updKB0_eq (i := Nat.mod i 256) (show i % 256 < 256 by omega)]
  rfl
def TM.toL (m : TM) : List AV := (List.range m.n).map (get2 m.t)
def getTO (m : TM) (i : Nat) : Option AV := Bool.casesOn (motive := fun _ => Option AV) (Nat.ble m.n i) (some (get2 m.t i)) none
def getT (m : TM) (i : Nat) : AV := Bool.casesOn (motive := fun _ => AV) (Nat.ble m.n i) (get2 m.t i) .any
theorem ble_false {a b : Nat} (h : Nat.ble a b = false) : b < a := by
  rcases Nat.lt_or_ge b a with h' | h'
  · exact h'
  · rw [Nat.ble_eq_true_of_le h'] at h; cases h
theorem getTO_eq (m : TM) (i : Nat) : getTO m i = m.toL[i]? := by
  unfold getTO TM.toL
  rw [range_map_get]
  cases h : Nat.ble m.n i with
  | false => rw [if_pos (ble_false h)]
  | true => rw [if_neg (Nat.not_lt.2 (Nat.le_of_ble_eq_true h))]
theorem getT_eq (m : TM) (i : Nat) : getT m i = m.toL.getD i .any := by
  unfold getT TM.toL
  rw [List.getD_eq_getElem?_getD, range_map_get]
  cases h : Nat.ble m.n i with
  | false => rw [if_pos (ble_false h)]; rfl
  | true => rw [if_neg (Nat.not_lt.2 (Nat.le_of_ble_eq_true h))]; rfl
/-- A value, brought to its head where that is remembered. -/
noncomputable def idAV (a : AV) : AV := @AV.rec (fun _ => AV) (fun _ => Unit) .any (fun b => .bool b) (fun k n => .int k n) (fun l => .str l) .nilp (fun id j => .ptr id j) (fun id sz e j => .eptr id sz e j) (fun cs j _ => .rptr cs j) .nilsl (fun c sz l g _ => .sl c sz l g) (fun id sz o l c => .osl id sz o l c) (fun cs _ => .agg cs) (fun cs _ => .tup cs) (fun f cs _ => .fn f cs) .nilfn .nilmap (fun id => .map id) .nilif (fun t v _ => .iface t v) (fun id => .iter id) (fun id => .yfn id) (fun k => .intu k) () (fun _ _ _ _ => ()) a
theorem idAV_eq (a : AV) : idAV a = a := by cases a <;> rfl
noncomputable def evT (m : TM) (x : Operand) : AV := @Operand.rec (fun _ => TM → AV) (fun t m => getT m t) (fun v _ => idAV (AV.ofC v)) (fun _ _ => .any) (fun f _ => .fn f []) x m
theorem evT_eq (m : TM) : evT m = evO m.toL := by
  funext x
  cases x with
  | tmp t => rw [evO_tmp]; exact getT_eq m t
  | const v => exact idAV_eq _
  | _ => rfl
noncomputable def setT (m : TM) (d : Nat) (v : AV) (K : TM → Option R) : Option R := @TM.rec (fun _ => Option R) (fun t n =>
  @Bool.rec (fun _ => Option R) (@Bool.rec (fun _ => Option R) (updKA t d fun _ r => r v fun t' => K ⟨t', n⟩) none (Nat.ble 257 n)) (K m) (Nat.ble n d)) m
def setTc (m : TM) (d : Nat) (v : AV) (K : TM → Option R) : Option R := match Nat.ble m.n d with
  | true => K m
  | false => (match Nat.ble 257 m.n with | true => none | false => K ⟨set2 m.t d v, m.n⟩)
theorem setT_c : @setT = @setTc := by
  funext m d v K
  obtain ⟨t, n⟩ := m
  unfold setT setTc
  simp only
  cases h1 : Nat.ble n d with
  | true => rfl
  | false =>
    cases h2 : Nat.ble 257 n with
    | true => rfl
    | false =>
      have h1 : d < n := Nat.lt_of_not_le fun hle => by rw [Nat.ble_eq_true_of_le hle] at h1; cases h1
      have h2 : n < 257 := Nat.lt_of_not_le fun hle => by rw [Nat.ble_eq_true_of_le hle] at h2; cases h2
      simp only
      rw [updKA_eq (by omega)]
theorem setT_some {m : TM} {d : Nat} {v : AV} {K : TM → Option R} {x : R} (h : setT m d v K = some x) : ∃ m', m'.toL = m.toL.set d v ∧ m'.n = m.n ∧ K m' = some x := by
  obtain ⟨t, n⟩ := m
  rw [setT_c] at h
  unfold setTc at h
  simp only at h
  cases h1 : Nat.ble n d with
  | true =>
    rw [h1] at h
    refine ⟨⟨t, n⟩, ?_, rfl, h⟩
    have hl : (TM.toL ⟨t, n⟩).length ≤ d := by simpa [TM.toL] using Nat.le_of_ble_eq_true h1
    rw [List.set_eq_of_length_le hl]
  | false =>
    rw [h1] at h
    cases h2 : Nat.ble 257 n with
    | true => rw [h2] at h; cases h
    | false =>
      rw [h2] at h
      have hn := ble_false h2
      have hd := ble_false h1
      simp only at h
      refine ⟨⟨set2 t d v, n⟩, ?_, rfl, h⟩
      exact range_map_set _ _ _ _ _ fun j (hj : j < n) => get_set2 (by omega) (by omega) t v
noncomputable def putT (m : TM) (dst : Option Tmp) (v : AV) (K : TM → Option R) : Option R := @Option.rec Tmp (fun _ => TM → AV → (TM → Option R) → Option R) (fun m _ K => K m) (fun d m v K => setT m d v K) dst m v K
theorem putT_some {m : TM} {dst : Option Tmp} {v : AV} {K : TM → Option R} {x : R} (h : putT m dst v K = some x) : ∃ m', m'.toL = put m.toL dst v ∧ K m' = some x := by
  cases dst with
  | none => exact ⟨m, rfl, h⟩
  | some d => obtain ⟨m', h1, _, h2⟩ := setT_some h; exact ⟨m', h1, h2⟩
/-- A fresh activation's. -/
def e16 : N16 AV := ⟨.any, .any, .any, .any, .any, .any, .any, .any, .any, .any, .any, .any, .any, .any, .any, .any⟩
def e256 : N16 (N16 AV) := ⟨e16, e16, e16, e16, e16, e16, e16, e16, e16, e16, e16, e16, e16, e16, e16, e16⟩
theorem get1_e16 {d : Nat} (h : d < 16) : get1 e16 d = .any := by
  rcases lt16 h with rfl|rfl|rfl|rfl|rfl|rfl|rfl|rfl|rfl|rfl|rfl|rfl|rfl|rfl|rfl|rfl <;> rfl
theorem get1_e256 {d : Nat} (h : d < 16) : get1 e256 d = e16 := by
  rcases lt16 h with rfl|rfl|rfl|rfl|rfl|rfl|rfl|rfl|rfl|rfl|rfl|rfl|rfl|rfl|rfl|rfl <;> rfl
def initK : List AV → Nat → TM → (TM → Option R) → Option R
  | [], _, m, K => K m
  | a :: as, k, m, K => setT m k a fun m => initK as (k + 1) m K
def setFrom : List AV → Nat → List AV → List AV
  | [], _, l => l
  | a :: as, k, l => setFrom as (k + 1) (l.set k a)
theorem initK_some {K : TM → Option R} {x : R} : ∀ {as : List AV} {k : Nat} {m : TM}, initK as k m K = some x → ∃ m', m'.toL = setFrom as k m.toL ∧ K m' = some x
  | [], _, m, h => ⟨m, rfl, h⟩
  | a :: as, k, m, h => by
    obtain ⟨m1, h1, _, h2⟩ := setT_some h
    obtain ⟨m2, h3, h4⟩ := initK_some h2
    exact ⟨m2, by rw [h3, h1]; rfl, h4⟩
theorem setFrom_eq : ∀ (as pre : List AV) (r : Nat), setFrom as pre.length (pre ++ List.replicate (as.length + r) .any) = pre ++ (as ++ List.replicate r .any)
  | [], pre, r => by simp [setFrom]
  | a :: as, pre, r => by
    rw [setFrom]
    have e : (pre ++ List.replicate ((a :: as).length + r) AV.any).set pre.length a = (pre ++ [a]) ++ List.replicate (as.length + r) .any := by
      rw [List.set_append_right _ _ (Nat.le_refl _), Nat.sub_self, List.length_cons, show as.length + 1 + r = (as.length + r) + 1 by omega, List.replicate_succ]
      simp
    rw [e]
    have := setFrom_eq as (pre ++ [a]) r
    rw [List.length_append, List.length_singleton] at this
    rw [this]
    simp
/-- An activation with its first values. -/
def freshT (as : List AV) (r : Nat) (K : TM → Option R) : Option R := natR (Nat.add (lenU as) r) fun n => match Nat.ble 257 n with
  | true => none
  | false => initK as 0 ⟨e256, n⟩ K
theorem freshT_some {as : List AV} {r : Nat} {K : TM → Option R} {x : R} (h : freshT as r K = some x) : ∃ m', m'.toL = as ++ List.replicate r .any ∧ K m' = some x := by
  unfold freshT at h
  rw [natR_eq] at h
  split at h
  · cases h
  · rename_i h1
    have h1 := ble_false h1
    obtain ⟨m', h2, h3⟩ := initK_some h
    refine ⟨m', ?_, h3⟩
    rw [h2, lenU_eq]
    have e : TM.toL ⟨e256, Nat.add as.length r⟩ = List.replicate (as.length + r) .any := by
      rw [lenU_eq] at h1
      apply List.ext_getElem?
      intro i
      unfold TM.toL
      rw [range_map_get, List.getElem?_replicate]
      have h1 : as.length + r < 257 := h1
      by_cases hi : i < as.length + r
      · rw [if_pos hi, if_pos (show i < Nat.add as.length r from hi)]
        unfold get2
        rw [get1_e256 (d := Nat.div i 16) (show i / 16 < 16 by omega), get1_e16 (d := Nat.mod i 16) (show i % 16 < 16 by omega)]
      · rw [if_neg hi, if_neg (show ¬ i < Nat.add as.length r from hi)]
    rw [e]
    exact setFrom_eq as [] r
/-! ### Own memory -/
def toH (h : HM) : List Blk := (List.range h.n).map (get4 h.t)
def getH (h : HM) (i : Nat) : Option Blk := Bool.casesOn (motive := fun _ => Option Blk) (Nat.ble h.n i) (some (get4 h.t i)) none
theorem getH_eq (h : HM) (i : Nat) : getH h i = (toH h)[i]? := by
  unfold getH toH
  rw [range_map_get]
  cases hb : Nat.ble h.n i with
  | false => rw [if_pos (ble_false hb)]
  | true => rw [if_neg (Nat.not_lt.2 (Nat.le_of_ble_eq_true hb))]
theorem toH_length (h : HM) : (toH h).length = h.n := by simp [toH]
def hv (h : HM) : HV := ⟨getH h, h.n⟩
theorem hv_eq (h : HM) : hv h = HV.of (toH h) := by
  unfold hv HV.of
  rw [toH_length]
  congr 1
  funext i
  exact getH_eq h i
noncomputable def setHT (b : Blk) (h : HM) (id : Nat) (K : HM → Option R) : Option R := @HM.rec (fun _ => Option R) (fun t n =>
  @Bool.rec (fun _ => Option R) (@Bool.rec (fun _ => Option R) (updKB t id fun _ r => r b fun t' => K ⟨t', n⟩) none (Nat.ble 65537 n)) (K h) (Nat.ble n id)) h
def setHTc (b : Blk) (h : HM) (id : Nat) (K : HM → Option R) : Option R := match Nat.ble h.n id with
  | true => K h
  | false => (match Nat.ble 65537 h.n with | true => none | false => K ⟨set4 h.t id b, h.n⟩)
theorem setHT_c : @setHT = @setHTc := by
  funext b h id K
  obtain ⟨t, n⟩ := h
  unfold setHT setHTc
  simp only
  cases h1 : Nat.ble n id with
  | true => rfl
  | false =>
    cases h2 : Nat.ble 65537 n with
    | true => rfl
    | false =>
      have h1 := ble_false h1
      have h2 := ble_false h2
      simp only
      rw [updKB_eq (by omega)]
theorem setHT_some {b : Blk} {h : HM} {id : Nat} {K : HM → Option R} {x : R} (hk : setHT b h id K = some x) : ∃ h', toH h' = (toH h).set id b ∧ K h' = some x := by
  obtain ⟨t, n⟩ := h
  rw [setHT_c] at hk
  unfold setHTc at hk
  simp only at hk
  cases h1 : Nat.ble n id with
  | true =>
    rw [h1] at hk
    refine ⟨⟨t, n⟩, ?_, hk⟩
    rw [List.set_eq_of_length_le (by rw [toH_length]; exact Nat.le_of_ble_eq_true h1)]
  | false =>
    rw [h1] at hk
    cases h2 : Nat.ble 65537 n with
    | true => rw [h2] at hk; cases hk
    | false =>
      rw [h2] at hk
      have hn := ble_false h2
      have hd := ble_false h1
      simp only at hk
      refine ⟨⟨set4 t id b, n⟩, ?_, hk⟩
      exact range_map_set _ _ _ _ _ fun j (hj : j < n) => get_set4 (by omega) (by omega) t b
noncomputable def pushHT (b : Blk) (h : HM) (K : HM → Option R) : Option R := @HM.rec (fun _ => Option R) (fun t n =>
  @Bool.rec (fun _ => Option R) (updKB t n fun _ r => r b fun t' => natR (Nat.add n 1) fun n' => K ⟨t', n'⟩) none (Nat.ble 65536 n)) h
def pushHTc (b : Blk) (h : HM) (K : HM → Option R) : Option R := match Nat.ble 65536 h.n with
  | true => none
  | false => K ⟨set4 h.t h.n b, h.n + 1⟩
theorem pushHT_c : @pushHT = @pushHTc := by
  funext b h K
  obtain ⟨t, n⟩ := h
  unfold pushHT pushHTc
  simp only
  cases h1 : Nat.ble 65536 n with
  | true => rfl
  | false =>
    have h1 := ble_false h1
    simp only
    rw [updKB_eq h1]
    simp only [natR_eq]
theorem pushHT_some {b : Blk} {h : HM} {K : HM → Option R} {x : R} (hk : pushHT b h K = some x) : ∃ h', toH h' = toH h ++ [b] ∧ K h' = some x := by
  obtain ⟨t, n⟩ := h
  rw [pushHT_c] at hk
  unfold pushHTc at hk
  simp only at hk
  cases h1 : Nat.ble 65536 n with
  | true => rw [h1] at hk; cases hk
  | false =>
    rw [h1] at hk
    have hn := ble_false h1
    simp only at hk
    refine ⟨⟨set4 t n b, n + 1⟩, ?_, hk⟩
    show (List.range (n + 1)).map (get4 (set4 t n b)) = (List.range n).map (get4 t) ++ [b]
    rw [List.range_succ, List.map_append]
    congr 1
    · refine List.map_congr_left fun j hj => ?_
      have hj : j < n := List.mem_range.1 hj
      rw [get_set4 hn (by omega), if_neg (by omega)]
    · simp only [List.map_cons, List.map_nil]
      rw [get_set4 hn hn, if_pos rfl]
def ef_pu (b : Blk) (h : HM) (K : HM → Option R) : Option R := blkR b fun b => pushHT b h K
def ef_se (id : Nat) (b : Blk) (h : HM) (K : HM → Option R) : Option R := blkR b fun b => setHT b h id K
def ef_sp (id : Nat) (b c : Blk) (h : HM) (K : HM → Option R) : Option R := blkR b fun b => blkR c fun c => setHT b h id fun h => pushHT c h K
noncomputable def effT (h : HM) (E : Eff) (K : HM → Option R) : Option R := @Eff.rec (fun _ => HM → (HM → Option R) → Option R) (fun h K => K h) ef_pu ef_se ef_sp E h K
def effTc (h : HM) (E : Eff) (K : HM → Option R) : Option R := match E with
  | .no => K h
  | .pu b => blkR b fun b => pushHT b h K
  | .se id b => blkR b fun b => setHT b h id K
  | .sp id b c => blkR b fun b => blkR c fun c => setHT b h id fun h => pushHT c h K
theorem effT_c : @effT = @effTc := by funext h E K; cases E <;> rfl
theorem effT_some {h : HM} {E : Eff} {K : HM → Option R} {x : R} (hk : effT h E K = some x) : ∃ h', toH h' = ap (toH h) E ∧ K h' = some x := by
  cases E with
  | no => exact ⟨h, rfl, hk⟩
  | pu b => rw [effT_c] at hk; simp only [effTc, blkR_eq] at hk; exact pushHT_some hk
  | se id b => rw [effT_c] at hk; simp only [effTc, blkR_eq] at hk; exact setHT_some hk
  | sp id b c =>
    rw [effT_c] at hk; simp only [effTc, blkR_eq] at hk
    obtain ⟨h1, e1, hk⟩ := setHT_some hk
    obtain ⟨h2, e2, hk⟩ := pushHT_some hk
    exact ⟨h2, by rw [e2, e1]; rfl, hk⟩
def b16 : N16 Blk := ⟨.dead, .dead, .dead, .dead, .dead, .dead, .dead, .dead, .dead, .dead, .dead, .dead, .dead, .dead, .dead, .dead⟩
def rep16 {α : Type} (x : α) : N16 α := ⟨x, x, x, x, x, x, x, x, x, x, x, x, x, x, x, x⟩
/-- No memory. -/
def noH : HM := ⟨rep16 (rep16 (rep16 b16)), 0⟩
theorem noH_eq : toH noH = [] := rfl
end
end Go.Vc

/- The executor over trees: operations and regions; it answers what the one over lists does. -/
namespace Go.Vc
open Go
noncomputable section
abbrev CallT := FuncId → List AV → HM → Option (AV × HM)
def Sim (callT : CallT) (call : CallO) : Prop := ∀ f args h r h', callT f args h = some (r, h') → call f args (toH h) = some (r, toH h')
section
def resCallT (TY : TypeId → Option TI) (call : CallT) (m : TM) (h : HM) (c : Call) (K : AV → HM → Option R) : Option R := match c.callee with
  | .value f => (match evT m f with
    | .fn g caps => (match Nat.beq g YF with
      | true => none
      | false => listR (appR (mapA (evT m) c.args.toList) caps) fun args => (match call g args h with
        | some (r, h) => K r h
        | none => none))
    | .yfn id => listR (.yfn id :: mapA (evT m) c.args.toList) fun args => (match call YF args h with
      | some (r, h) => K r h
      | none => none)
    | _ => none)
  | .builtin b => (match builtinO TY b c.argTypes.toList (mapA (evT m) c.args.toList) (hv h) with
    | some (r, E) => freshR r fun r => effT h E fun h => K r h
    | none => none)
  | _ => none
def resT (TY : TypeId → Option TI) (call : CallT) (o : Oper) (m : TM) (h : HM) (K : AV → HM → Option R) : Option R :=
  match callOf o.op with
  | some c => resCallT TY call m h c K
  | none => (match wrOk o with
    | true => (match opR TY o.op (evT m) (hv h) with
      | some (r, E) => valR (oldV o.op) r fun r => effT h E fun h => K r h
      | none => none)
    | false => none)
theorem resT_ok {TY : TypeId → Option TI} {callT : CallT} {call : CallO} (hS : Sim callT call) {o : Oper} {m : TM} {h : HM} {K : AV → HM → Option R} {x : R} (hk : resT TY callT o m h K = some x) :
    ∃ r h', resO TY call o m.toL (toH h) = some (r, toH h') ∧ K r h' = some x := by
  unfold resT at hk
  rw [callOf_eq] at hk
  by_cases hc : ∃ c, o.op = .call c
  · obtain ⟨c, hop⟩ := hc
    rw [hop] at hk
    simp only [callOfc] at hk
    unfold resCallT at hk
    simp only [evT_eq, hv_eq, mapA_eq, appR_eq] at hk
    unfold resO
    rw [hop]
    simp only
    split at hk
    · rename_i f hf
      simp only [hf]
      split at hk
      · rename_i g caps hg
        simp only [hg]
        split at hk
        · cases hk
        · rename_i hb
          simp only [hb]
          rw [listR_eq] at hk
          rw [listZ_eq]
          split at hk
          · rename_i r h1 hcall
            exact ⟨r, h1, hS _ _ _ _ _ hcall, hk⟩
          · cases hk
      · rename_i id hg
        simp only [hg]
        rw [listR_eq] at hk
        rw [listZ_eq]
        split at hk
        · rename_i r h1 hcall
          exact ⟨r, h1, hS _ _ _ _ _ hcall, hk⟩
        · cases hk
      · cases hk
    · rename_i b hb
      simp only [hb]
      split at hk
      · rename_i r0 E hr
        simp only [hr]
        rw [freshR_eq] at hk
        obtain ⟨h2, e, hk⟩ := effT_some hk
        rw [freshZ_eq, effZ_eq, ← e]
        exact ⟨r0, h2, rfl, hk⟩
      · cases hk
    · cases hk
  · have hn : callOfc o.op = none := by
      unfold callOfc
      split
      · rename_i c hop; exact absurd ⟨c, hop⟩ hc
      · rfl
    rw [hn] at hk
    simp only [evT_eq, hv_eq, opR_eq] at hk
    unfold resO
    split at hk
    · rename_i hw
      split at hk
      · rename_i r0 E hr
        rw [valR_eq] at hk
        obtain ⟨h2, e, hk⟩ := effT_some hk
        refine ⟨r0, h2, ?_, hk⟩
        split
        · rename_i c hop; exact absurd ⟨c, hop⟩ hc
        · rw [hw, hr]
          simp only
          rw [valZ_eq, effZ_eq, ← e]
      · cases hk
    · cases hk
def wantT (ops : Array Oper) (o : Oper) (m : TM) : Option Bool := match o.guard with
  | none => some true
  | some (j, want) => (match (getO ops.toList j).bind (·.dst) with
    | none => none
    | some t => (match getTO m t with
      | some (.bool b) => some (match b, want with | true, true => true | false, false => true | _, _ => false)
      | some (.tup []) => some false
      | _ => none))
theorem wantT_eq (ops : Array Oper) (o : Oper) (m : TM) : wantT ops o m = wantO ops o m.toL := by
  unfold wantT wantO tmpOf
  simp only [getTO_eq, getO_arr]
  simp only [getO_eq]
  rfl
/-- A move's operand. -/
noncomputable def moveOf (op : Op) : Option Operand := @Op.rec (fun _ => Option Operand) (fun x => some x) (fun x => some x) (fun _ _ _ => none) (fun _ => none) (fun _ _ => none) (fun _ _ => none) (fun _ _ _ => none) (fun _ _ _ _ => none) (fun _ _ => none) (fun _ _ _ => none) (fun _ => none) (fun _ => none) (fun _ => none) (fun _ _ _ _ _ => none) (fun _ _ _ => none) (fun _ _ _ => none) (fun _ _ => none) (fun _ _ => none) (fun _ _ _ => none) (fun _ _ => none) (fun _ _ => none) (fun _ _ _ => none) (fun _ _ _ _ _ => none) (fun _ _ _ => none) (fun _ _ _ => none) (fun _ _ _ => none) (fun _ _ _ => none) (fun _ _ _ _ => none) (fun _ _ _ _ => none) (fun _ _ _ => none) (fun _ _ _ _ => none) (fun _ _ => none) (fun _ _ => none) (fun _ => none) (fun _ _ _ _ => none) (fun _ _ => none) (fun _ => none) (fun _ => none) (fun _ => none) (fun _ => none) (fun _ _ => none) (fun _ _ _ => none) (fun _ _ => none) op
def moveOfc : Op → Option Operand
  | .move x => some x
  | .assign x => some x
  | _ => none
theorem moveOf_c : @moveOf = @moveOfc := by funext op; cases op <;> rfl
/-- A plain move, carried out at once. -/
def fastOf (o : Oper) : Option (Operand × Tmp) := match o.guard with
  | none => (match o.dst with
    | some d => (match moveOf o.op with
      | some x => some (x, d)
      | none => none)
    | none => none)
  | some _ => none
theorem fastOf_some {o : Oper} {x : Operand} {d : Tmp} (h : fastOf o = some (x, d)) : o.guard = none ∧ o.dst = some d ∧ (o.op = .move x ∨ o.op = .assign x) := by
  unfold fastOf at h
  split at h
  · rename_i hg
    split at h
    · rename_i d' hd
      split at h
      · rename_i x' hop
        cases h
        rw [moveOf_c] at hop
        unfold moveOfc at hop
        split at hop
        · rename_i y hy; cases hop; exact ⟨hg, hd, .inl hy⟩
        · rename_i y hy; cases hop; exact ⟨hg, hd, .inr hy⟩
        · cases hop
      · cases h
    · cases h
  · cases h
/-- The kinds of operations, told apart once. -/
inductive OpK where
  | fast (x : Operand) (d : Tmp)
  | op
  | call (c : Call)
  | gd
def kindOf (o : Oper) : OpK := match fastOf o with
  | some (x, d) => .fast x d
  | none => (match o.guard with
    | some _ => .gd
    | none => (match callOf o.op with
      | some c => .call c
      | none => (match wrOk o with
        | true => .op
        | false => .gd)))
def ok_fast (x : Operand) (d : Tmp) (_TY : TypeId → Option TI) (_call : CallT) (_ops : Array Oper) (_o : Oper) (m : TM) (h : HM) (K : TM → HM → Option R) : Option R := headR (evT m x) fun v => setT m d v fun m => K m h
def ok_op (TY : TypeId → Option TI) (_call : CallT) (_ops : Array Oper) (o : Oper) (m : TM) (h : HM) (K : TM → HM → Option R) : Option R := match opR TY o.op (evT m) (hv h) with
  | some (r, E) => valR (oldV o.op) r fun r => effT h E fun h => putT m o.dst r fun m => K m h
  | none => none
def ok_call (c : Call) (TY : TypeId → Option TI) (call : CallT) (_ops : Array Oper) (o : Oper) (m : TM) (h : HM) (K : TM → HM → Option R) : Option R := resCallT TY call m h c fun r h => putT m o.dst r fun m => K m h
def ok_gd (TY : TypeId → Option TI) (call : CallT) (ops : Array Oper) (o : Oper) (m : TM) (h : HM) (K : TM → HM → Option R) : Option R := match wantT ops o m with
  | some true => resT TY call o m h fun r h => putT m o.dst r fun m => K m h
  | some false => putT m o.dst (.tup []) fun m => K m h
  | none => none
noncomputable def opGT (TY : TypeId → Option TI) (call : CallT) (ops : Array Oper) (o : Oper) (m : TM) (h : HM) (K : TM → HM → Option R) : Option R :=
  @OpK.rec (fun _ => (TypeId → Option TI) → CallT → Array Oper → Oper → TM → HM → (TM → HM → Option R) → Option R) ok_fast ok_op ok_call ok_gd (kindOf o) TY call ops o m h K
def opGTc (TY : TypeId → Option TI) (call : CallT) (ops : Array Oper) (o : Oper) (m : TM) (h : HM) (K : TM → HM → Option R) : Option R :=
  match kindOf o with
  | .fast x d => ok_fast x d TY call ops o m h K
  | .op => ok_op TY call ops o m h K
  | .call c => ok_call c TY call ops o m h K
  | .gd => ok_gd TY call ops o m h K
theorem opGT_c : @opGT = @opGTc := by funext TY call ops o m h K; unfold opGT opGTc; cases kindOf o <;> rfl
theorem opGT_ok {TY : TypeId → Option TI} {callT : CallT} {call : CallO} (hS : Sim callT call) {ops : Array Oper} {o : Oper} {m : TM} {h : HM} {K : TM → HM → Option R} {x : R} (hk : opGT TY callT ops o m h K = some x) :
    ∃ m' h', opGO TY call ops o ⟨m.toL, toH h⟩ = some ⟨m'.toL, toH h'⟩ ∧ K m' h' = some x := by
  have slow : (match wantT ops o m with
      | some true => resT TY callT o m h fun r h => putT m o.dst r fun m => K m h
      | some false => putT m o.dst (.tup []) fun m => K m h
      | none => none) = some x → ∃ m' h', opGO TY call ops o ⟨m.toL, toH h⟩ = some ⟨m'.toL, toH h'⟩ ∧ K m' h' = some x := by
    intro hk
    rw [wantT_eq] at hk
    unfold opGO
    simp only
    split at hk
    · rename_i hw
      rw [hw]
      obtain ⟨r, h1, e1, hk⟩ := resT_ok hS hk
      obtain ⟨m', e2, hk⟩ := putT_some hk
      refine ⟨m', h1, ?_, hk⟩
      simp only
      rw [e1]
      simp only
      rw [putZ_eq, e2]
    · rename_i hw
      rw [hw]
      obtain ⟨m', e2, hk⟩ := putT_some hk
      refine ⟨m', h, ?_, hk⟩
      simp only
      rw [putZ_eq, e2]
    · cases hk
  rw [opGT_c] at hk
  unfold opGTc kindOf at hk
  simp only [ok_fast, ok_op, ok_call, ok_gd] at hk
  cases hf : fastOf o with
  | some yd =>
    obtain ⟨y, d⟩ := yd
    rw [hf] at hk
    simp only at hk
    obtain ⟨hg, hd, hop⟩ := fastOf_some hf
    rw [headR_eq] at hk
    obtain ⟨m', e, _, hk⟩ := setT_some hk
    refine ⟨m', h, ?_, hk⟩
    have hw : wantO ops o m.toL = some true := by unfold wantO; rw [hg]
    have hr : resO TY call o m.toL (toH h) = some (evO m.toL y, toH h) := by
      unfold resO wrOk
      rcases hop with hop | hop <;> rw [hop, hd] <;> simp only [opO] <;> rw [valZ_eq, effZ_eq] <;> rfl
    unfold opGO
    simp only
    rw [hw]
    simp only
    rw [hr]
    simp only
    rw [putZ_eq, hd, e, evT_eq]
    rfl
  | none =>
    rw [hf] at hk
    simp only at hk
    cases hg : o.guard with
    | some g => rw [hg] at hk; exact slow hk
    | none =>
      have hw : wantT ops o m = some true := by unfold wantT; rw [hg]
      rw [hg] at hk
      simp only at hk
      rw [hw] at slow
      simp only at slow
      cases hc : callOf o.op with
      | some c =>
        rw [hc] at hk
        refine slow ?_
        unfold resT
        rw [hc]
        exact hk
      | none =>
        rw [hc] at hk
        simp only at hk
        cases hwr : wrOk o with
        | true =>
          rw [hwr] at hk
          refine slow ?_
          unfold resT
          rw [hc, hwr]
          exact hk
        | false =>
          rw [hwr] at hk
          simp only at hk
          rw [hw] at hk
          exact slow hk
noncomputable def regT (TY : TypeId → Option TI) (call : CallT) (ops : Array Oper) (l : List Oper) : TM → HM → (TM → HM → Option R) → Option R :=
  @List.rec Oper (fun _ => TM → HM → (TM → HM → Option R) → Option R) (fun m h K => K m h) (fun o _ ih m h K => opGT TY call ops o m h fun m h => ih m h K) l
theorem regT_ok {TY : TypeId → Option TI} {callT : CallT} {call : CallO} (hS : Sim callT call) {ops : Array Oper} {K : TM → HM → Option R} {x : R} : ∀ {l : List Oper} {m : TM} {h : HM}, regT TY callT ops l m h K = some x →
    ∃ m' h', regO TY call ops l ⟨m.toL, toH h⟩ = some ⟨m'.toL, toH h'⟩ ∧ K m' h' = some x
  | [], m, h, hk => ⟨m, h, rfl, hk⟩
  | o :: l, m, h, hk => by
    obtain ⟨m1, h1, e1, hk⟩ := opGT_ok hS (show opGT TY callT ops o m h (fun m h => regT TY callT ops l m h K) = some x from hk)
    obtain ⟨m2, h2, e2, hk⟩ := regT_ok hS hk
    refine ⟨m2, h2, ?_, hk⟩
    rw [regO, e1]
    exact e2
/-! ### Regions that draw -/
def opQV (TY : TypeId → Option TI) (op : Op) (ev : Operand → AV) (H : HV) : Option AV :=
  match op with
  | .slice t x l h m => (match TY t with
    | some i => (match i.kind with
      | .arr _ _ => none
      | _ => sliceO TY t (ev x) (l.map ev) (h.map ev) (m.map ev))
    | none => none)
  | .call c => (match c.callee with
    | .builtin b => (match b with
      | .len => (match c.argTypes.toList, c.args.toList.map ev with | [t], [x] => lenDO TY t x | _, _ => none)
      | _ => none)
    | _ => none)
  | op => (match pureOp op with
    | true => (match opR TY op ev H with
      | some (r, .no) => some r
      | _ => none)
    | false => none)
theorem opQV_eq (TY : TypeId → Option TI) (op : Op) (m : TM) (h : HM) : opQV TY op (evT m) (hv h) = opQO TY op m.toL (toH h) := by
  unfold opQV opQO
  simp only [evT_eq, hv_eq, opR_eq]
  rfl
/-- A slice of something, or a call. -/
noncomputable def oddOf (op : Op) : Bool := @Op.rec (fun _ => Bool) (fun _ => false) (fun _ => false) (fun _ _ _ => false) (fun _ => false) (fun _ _ => false) (fun _ _ => false) (fun _ _ _ => false) (fun _ _ _ _ => false) (fun _ _ => false) (fun _ _ _ => false) (fun _ => false) (fun _ => false) (fun _ => false) (fun _ _ _ _ _ => false) (fun _ _ _ => false) (fun _ _ _ => false) (fun _ _ => false) (fun _ _ => false) (fun _ _ _ => false) (fun _ _ => false) (fun _ _ => false) (fun _ _ _ => false) (fun _ _ _ _ _ => true) (fun _ _ _ => false) (fun _ _ _ => false) (fun _ _ _ => false) (fun _ _ _ => false) (fun _ _ _ _ => false) (fun _ _ _ _ => false) (fun _ _ _ => false) (fun _ _ _ _ => false) (fun _ _ => false) (fun _ _ => false) (fun _ => false) (fun _ _ _ _ => false) (fun _ _ => false) (fun _ => true) (fun _ => false) (fun _ => false) (fun _ => false) (fun _ _ => false) (fun _ _ _ => false) (fun _ _ => false) op
def oddOfc : Op → Bool
  | .slice .. | .call _ => true
  | _ => false
theorem oddOf_c : @oddOf = @oddOfc := by funext op; cases op <;> rfl
def opQW (TY : TypeId → Option TI) (op : Op) (ev : Operand → AV) (H : HV) : Option AV := match oddOf op with
  | true => opQV TY op ev H
  | false => (match pureOp op with
    | true => (match opR TY op ev H with
      | some (r, .no) => some r
      | _ => none)
    | false => none)
theorem opQW_eq (TY : TypeId → Option TI) (op : Op) (ev : Operand → AV) (H : HV) : opQW TY op ev H = opQV TY op ev H := by
  unfold opQW
  rw [oddOf_c]
  cases op <;> rfl
structure PET where
  i : Nat
  m : TM
  r : AV
def absP (l : List PET) : List PE := l.map fun p => ⟨p.i, p.m.toL, p.r⟩
def pendT (TY : TypeId → Option TI) (ops : Array Oper) (cl : List Nat) (j : Nat) (h : HM) : List PET → Bool
  | [] => true
  | ⟨pi, pm, pr⟩ :: l => (match hasAnc cl j pi with
    | true => pendT TY ops cl j h l
    | false => (match getO ops.toList pi with
      | some o => (match memOp o.op with
        | false => pendT TY ops cl j h l
        | true => (match opQW TY o.op (evT pm) (hv h) with
          | some r => eqAV r pr && pendT TY ops cl j h l
          | none => false))
      | none => false))
theorem pendT_eq {TY : TypeId → Option TI} {ops : Array Oper} {cl : List Nat} {j : Nat} {h : HM} : ∀ l : List PET, pendT TY ops cl j h l = pendO TY ops cl j (toH h) (absP l)
  | [] => rfl
  | ⟨pi, pm, pr⟩ :: l => by
    rw [pendT, pendT_eq l]
    simp only [opQW_eq, opQV_eq]
    rfl
def fltsV (TY : TypeId → Option TI) (ops : Array Oper) (cl fl all : List Nat) (m : TM) : List Nat → Bool
  | [] => true
  | f :: l => (match fl.contains f && !(all.any (hasAnc cl f)) with
    | true => (match getO ops.toList f with
      | some o => fltOp o.op && ((opR TY o.op (evT m) (HV.of [])).isSome && fltsV TY ops cl fl all m l)
      | none => false)
    | false => fltsV TY ops cl fl all m l)
theorem fltsV_eq {TY : TypeId → Option TI} {ops : Array Oper} {cl fl all : List Nat} {m : TM} : ∀ l : List Nat, fltsV TY ops cl fl all m l = fltsO TY ops cl fl all m.toL l
  | [] => rfl
  | f :: l => by
    rw [fltsV, fltsV_eq l, evT_eq, fltsO]
    simp only [opR_eq]
    rfl
def fltsT (TY : TypeId → Option TI) (ops : Array Oper) (cl fl all : List Nat) (m : TM) : Bool := match fl with
  | [] => true
  | fl => fltsV TY ops cl fl all m all
theorem fltsT_eq (TY : TypeId → Option TI) (ops : Array Oper) (cl fl all : List Nat) (m : TM) : fltsT TY ops cl fl all m = fltsO' TY ops cl fl all m.toL := by
  cases fl with
  | nil => rfl
  | cons f fl => exact fltsV_eq _
def hideK (ops : Array Oper) : List Nat → TM → (TM → Option R) → Option R
  | [], m, K => K m
  | f :: fl, m, K => (match getO ops.toList f with
    | some o => putT m o.dst .any fun m => hideK ops fl m K
    | none => hideK ops fl m K)
theorem hideK_some {ops : Array Oper} {K : TM → Option R} {x : R} : ∀ {fl : List Nat} {m : TM}, hideK ops fl m K = some x → ∃ m', m'.toL = hideT ops fl m.toL ∧ K m' = some x
  | [], m, hk => ⟨m, rfl, hk⟩
  | f :: fl, m, hk => by
    rw [hideK, getO_arr] at hk
    rw [hideT]
    split at hk
    · rename_i o ho
      obtain ⟨m1, e1, hk⟩ := putT_some hk
      obtain ⟨m2, e2, hk⟩ := hideK_some hk
      exact ⟨m2, by rw [e2, e1, ho], hk⟩
    · rename_i ho
      obtain ⟨m2, e2, hk⟩ := hideK_some hk
      exact ⟨m2, by rw [e2, ho], hk⟩
def stepQT (TY : TypeId → Option TI) (call : CallT) (ops : Array Oper) (r : RO) (j : Nat) (rest : List Nat) (ih : List PET → TM → HM → (TM → HM → Option R) → Option R) (pend : List PET) (m : TM) (h : HM) (K : TM → HM → Option R) : Option R :=
  match getO ops.toList j with
  | none => none
  | some o => (match pureOp o.op with
    | true => (match wantT ops o m with
      | some true => (match wrOk o with
        | true => (match opQW TY o.op (evT m) (hv h) with
          | some v => valR (oldV o.op) v fun v => putT m o.dst v fun m' => (match memOp o.op with
            | true => ih (⟨j, m, v⟩ :: pend) m' h K
            | false => ih pend m' h K)
          | none => none)
        | false => none)
      | some false => putT m o.dst (.tup []) fun m => ih pend m h K
      | none => none)
    | false => (match fltsT TY ops r.cl r.fl (j :: rest) m with
      | true => (match wantT ops o m with
        | some true => resT TY call o m h fun v h => (match pendT TY ops r.cl j h pend with
          | true => putT m o.dst v fun m => ih pend m h K
          | false => none)
        | some false => putT m o.dst (.tup []) fun m => ih pend m h K
        | none => none)
      | false => none))
def runQT (TY : TypeId → Option TI) (call : CallT) (ops : Array Oper) (r : RO) : List Nat → List PET → TM → HM → (TM → HM → Option R) → Option R
  | [], _, m, h, K => K m h
  | j :: rest, pend, m, h, K => stepQT TY call ops r j rest (runQT TY call ops r rest) pend m h K
theorem runQT_ok {TY : TypeId → Option TI} {callT : CallT} {call : CallO} (hS : Sim callT call) {ops : Array Oper} {r : RO} {K : TM → HM → Option R} {x : R} : ∀ {l : List Nat} {pt : List PET} {P : List PE} {m : TM} {h : HM},
    (∀ j H, pendO TY ops r.cl j H (absP pt) = true → pendO TY ops r.cl j H P = true) → runQT TY callT ops r l pt m h K = some x → ∃ m' h', runQO TY call ops r l P ⟨m.toL, toH h⟩ = some ⟨m'.toL, toH h'⟩ ∧ K m' h' = some x
  | [], pt, P, m, h, hP, hk => ⟨m, h, rfl, hk⟩
  | j :: rest, pt, P, m, h, hP, hk => by
    rw [runQT] at hk
    unfold stepQT at hk
    rw [runQO]
    unfold stepQO
    split at hk
    · cases hk
    · rename_i o ho
      rw [ho]
      simp only [wantT_eq, opQW_eq, opQV_eq, fltsT_eq] at hk ⊢
      split at hk
      · rename_i hp
        rw [hp]
        simp only
        split at hk
        · rename_i hw
          rw [hw]
          simp only
          split at hk
          · rename_i hwr
            rw [hwr]
            simp only
            split at hk
            · rename_i v hv
              rw [valR_eq] at hk
              obtain ⟨m1, e1, hk⟩ := putT_some hk
              rw [hv]
              simp only
              rw [valZ_eq, putZ_eq, ← e1]
              split at hk
              · rename_i hm
                refine runQT_ok hS (fun j' H hp' => ?_) hk
                rw [absP, List.map_cons, pendO] at hp'
                rw [pendO]
                cases ha : hasAnc r.cl j' j with
                | true => rw [ha] at hp'; exact hP _ _ hp'
                | false =>
                  rw [ha] at hp'
                  simp only [ho, hm] at hp' ⊢
                  split at hp'
                  · rename_i r1 hr1
                    simp only [Bool.and_eq_true] at hp' ⊢
                    exact ⟨hp'.1, hP _ _ hp'.2⟩
                  · cases hp'
              · rename_i hm
                refine runQT_ok hS (fun j' H hp' => ?_) hk
                rw [pendO]
                cases ha : hasAnc r.cl j' j with
                | true => exact hP _ _ hp'
                | false =>
                  simp only [ho, hm]
                  exact hP _ _ hp'
            · cases hk
          · cases hk
        · rename_i hw
          rw [hw]
          simp only
          obtain ⟨m1, e1, hk⟩ := putT_some hk
          rw [putZ_eq, ← e1]
          exact runQT_ok hS hP hk
        · cases hk
      · rename_i hp
        rw [hp]
        simp only
        split at hk
        · rename_i hf
          rw [hf]
          simp only
          split at hk
          · rename_i hw
            rw [hw]
            simp only
            obtain ⟨v, h1, e1, hk⟩ := resT_ok hS hk
            split at hk
            · rename_i hpe
              rw [pendT_eq] at hpe
              obtain ⟨m1, e2, hk⟩ := putT_some hk
              rw [e1]
              simp only
              rw [hP _ _ hpe]
              simp only
              rw [putZ_eq, ← e2]
              exact runQT_ok hS hP hk
            · cases hk
          · rename_i hw
            rw [hw]
            simp only
            obtain ⟨m1, e1, hk⟩ := putT_some hk
            rw [putZ_eq, ← e1]
            exact runQT_ok hS hP hk
          · cases hk
        · cases hk
def drawT (TY : TypeId → Option TI) (call : CallT) (ops : Array Oper) (r : RO) (m : TM) (h : HM) (K : TM → HM → Option R) : Option R :=
  hideK ops r.fl m fun m => runQT TY call ops r r.l [] m h K
theorem drawT_ok {TY : TypeId → Option TI} {callT : CallT} {call : CallO} (hS : Sim callT call) {ops : Array Oper} {r : RO} {m : TM} {h : HM} {K : TM → HM → Option R} {x : R} (hk : drawT TY callT ops r m h K = some x) :
    ∃ m' h', drawO TY call ops r ⟨m.toL, toH h⟩ = some ⟨m'.toL, toH h'⟩ ∧ K m' h' = some x := by
  obtain ⟨m1, e1, hk⟩ := hideK_some hk
  obtain ⟨m2, h2, e2, hk⟩ := runQT_ok (pt := []) (P := []) hS (fun _ _ h => h) hk
  exact ⟨m2, h2, by unfold drawO; rw [← e1]; exact e2, hk⟩
end
end
end Go.Vc
