import PyProof.Rows.All
import PyProof.Cells
import PyProof.ForAny
import PyProof.RaisesMany
import PyProof.NsDelKeeps
import PyProof.ExcClass3
import PyProof.ExcArgsOwn
import PyProof.ExcAttrAll.ValueError
import PyProof.DictDisplay
import PyProof.DictStraight
import PyProof.Rows.SetFrom
import Wide.All
import OpenK.AllK
import KE.KTryMore
import Wide.FinOn
import PySem.Challenge.RW_uf010005_02
set_option Elab.async false

section
namespace Mv
open PySem

noncomputable abbrev D := PyData
noncomputable abbrev Sz : Nat := 16777216

inductive AS where | no | fz (d : D) | own (d : D)
inductive Slot where | no | fz (d : D) | own (d : D) | inst (c : Nat) (as : List AS) | exc (c : Str)
inductive Pl where | var (i : Nat) | attr (i a : Nat)
inductive Rv where | fz (d : D) | own (d : D) | pl (p : Pl)
noncomputable abbrev Frame := List Slot
noncomputable abbrev Out (α : Type) := Option (Except Str α × Frame)

class Kt (α β : Type) where
  run : α → Frame → Out β
noncomputable def bnd {α β : Type} (m : Out α) [k : Kt α β] : Out β :=
  match m with
  | none => none
  | some (.error e, fr) => some (.error e, fr)
  | some (.ok a, fr) => k.run a fr
noncomputable abbrev bndK {α β : Type} (m : Out α) (k : α → Frame → Out β) : Out β := @bnd α β m ⟨k⟩
theorem bnd_none {α β : Type} (k : Kt α β) : @bnd α β none k = none := rfl
theorem bnd_ok {α β : Type} (a : α) (fr : Frame) (k : α → Frame → Out β) : @bnd α β (some (.ok a, fr)) ⟨k⟩ = k a fr := by rfl
theorem bnd_err {α β : Type} (e : Str) (fr : Frame) (k : Kt α β) : @bnd α β (some (.error e, fr)) k = some (.error e, fr) := rfl
theorem bnd_ite {α β : Type} (p : Prop) [Decidable p] (m m' : Out α) (k : Kt α β) : @bnd α β (if p then m else m') k = if p then @bnd α β m k else @bnd α β m' k := by split <;> rfl

noncomputable def bndN {α β : Type} (m : Out α) [k : Kt α β] : Out β :=
  match m with
  | none => none
  | some (.error _, _) => none
  | some (.ok a, fr) => k.run a fr
noncomputable abbrev bndNK {α β : Type} (m : Out α) (k : α → Frame → Out β) : Out β := @bndN α β m ⟨k⟩
theorem bndN_none {α β : Type} (k : Kt α β) : @bndN α β none k = none := rfl
theorem bndN_ok {α β : Type} (a : α) (fr : Frame) (k : α → Frame → Out β) : @bndN α β (some (.ok a, fr)) ⟨k⟩ = k a fr := by rfl

inductive Op2 where | add | sub | mul | fdiv | mod | pow
inductive Cm where | eq | ne | lt | le | gt | ge | isin | notin | is | isnot
inductive Ty where | tup | int | bool | str | list
inductive Bi where
  | len | isi (t : Ty) | sum | all | abs | int | str | tuple | list
  | lenset | dget | count | dict0
inductive Itk where | seq | range | zip
inductive Tgt where | one (i : Nat) | tup (is : List Nat)

inductive Ex where
  | lit (d : D)
  | gl (k : Nat)
  | var (i : Nat)
  | pl (p : Pl)
  | tup (es : List Ex)
  | list (es : List Ex)
  | op2 (o : Op2) (a b : Ex)
  | neg (a : Ex)
  | not (a : Ex)
  | cmp (o : Cm) (a b : Ex)
  | cmp2 (o p : Cm) (a b c : Ex)
  | and (es : List Ex)
  | or (es : List Ex)
  | ite (c a b : Ex)
  | idx (a i : Ex)
  | slc (a lo hi : Ex)
  | call (f : Nat) (args : List Ex)
  | bi (b : Bi) (args : List Ex)
  | comp (elt : Ex) (t : Tgt) (it : Itk) (src : List Ex) (conds : List Ex)
  | isx (i : Nat) (yes no : List Str)
  | dsel (ks : List Str) (es : List Ex) (i : Nat)

inductive St where
  | asg (t : Tgt) (e : Ex)
  | setI (p : Pl) (i e : Ex)
  | app (p : Pl) (e : Ex)
  | exp (e : Ex)
  | iff (c : Ex) (a b : List St)
  | ret (e : Ex)
  | for_ (t : Tgt) (it : Itk) (src : List Ex) (body : List St) (tmp : List Nat)
  | raise (c : Str)
  | try_ (body : List St) (yes : List Str) (v : Nat) (hand : List St)
  | no

inductive Ctl where | next | ret (r : Rv)

/-! ### pure operations -/
noncomputable def mulOk (a b : Int) : Bool := decide (a.natAbs < 2 ^ 64) || decide (b.natAbs < 2 ^ 64)
noncomputable def mulI (a b : Int) : Option Rv := if mulOk a b = true then some (.fz (.int (a * b))) else none

noncomputable def rep (n : Int) (xs : List α) : List α := (List.replicate n.toNat xs).flatten

noncomputable def op2 : Op2 → D → D → Option Rv
  | .add, .int a, .int b => some (.fz (.int (a + b)))
  | .add, .str a, .str b => if a.cps.size + b.cps.size ≤ Sz then some (.fz (.str ⟨a.cps ++ b.cps⟩)) else none
  | .add, .tuple a, .tuple b => if a.length + b.length ≤ Sz then some (.fz (.tuple (a ++ b))) else none
  | .add, .list a, .list b => if a.length + b.length ≤ Sz then some (.own (.list (a ++ b))) else none
  | .sub, .int a, .int b => some (.fz (.int (a - b)))
  | .mul, .int a, .int b => mulI a b
  | .mul, .str a, .int n => if -1000000000 ≤ n ∧ n ≤ 1000000000 ∧ a.cps.size * n.toNat ≤ Sz then some (.fz (.str ⟨(rep n a.cps.toList).toArray⟩)) else none
  | .mul, .tuple a, .int n => if -1000000000 ≤ n ∧ n ≤ 1000000000 ∧ a.length * n.toNat ≤ Sz then some (.fz (.tuple (rep n a))) else none
  | .mul, .list a, .int n => if -1000000000 ≤ n ∧ n ≤ 1000000000 ∧ a.length * n.toNat ≤ Sz then some (.own (.list (rep n a))) else none
  | .fdiv, .int a, .int b => if b ≠ 0 ∧ b.natAbs < 2 ^ 64 then some (.fz (.int (a.fdiv b))) else none
  | .mod, .int a, .int b => if b = 0 then none else some (.fz (.int (a.fmod b)))
  | .pow, .int a, .int n => if 0 ≤ n ∧ n ≤ 1000 ∧ a.natAbs < 2 ^ 64 then some (.fz (.int (a ^ n.toNat))) else none
  | _, _, _ => none

mutual
noncomputable def noDict : D → Bool
  | .none | .bool _ | .int _ | .str _ => true
  | .list xs | .tuple xs => noDicts xs
  | .dict _ => false
noncomputable def noDicts : List D → Bool
  | [] => true
  | x :: xs => noDict x && noDicts xs
end

noncomputable def eqOk (a b : D) : Bool := noDict a && noDict b && decide (min a.depth b.depth ≤ 64)

noncomputable def eqD : D → D → Option Bool
  | .int a, .int b => some (a == b)
  | .str a, .str b => some (a.cps.toList == b.cps.toList)
  | .bool a, .bool b => some (a == b)
  | a, b => if eqOk a b then some (PyData.eqv a b) else none

noncomputable def anyEq (x : D) : List D → Option Bool
  | [] => some false
  | y :: ys => match eqD y x with
    | none => none
    | some b => match anyEq x ys with
      | none => none
      | some c => some (b || c)

noncomputable def dgetL : List (D × D) → Str → Option D
  | (.str k, d) :: r, x => if k = x then some d else dgetL r x
  | _ :: r, x => dgetL r x
  | [], _ => none
noncomputable def dmapL : List (D × D) → Str → D → List (D × D)
  | (.str k, d) :: r, x, e => (.str k, if k = x then e else d) :: dmapL r x e
  | p :: r, x, e => p :: dmapL r x e
  | [], _, _ => []
noncomputable def dsetL (l : List (D × D)) (x : Str) (e : D) : List (D × D) := if (dgetL l x).isSome then dmapL l x e else l ++ [(.str x, e)]
noncomputable def strsOf : List D → Option (List Str)
  | [] => some []
  | .str x :: r => (strsOf r).map (x :: ·)
  | _ :: _ => none
noncomputable def boolsOf : List D → Option (List Bool)
  | [] => some []
  | .bool x :: r => (boolsOf r).map (x :: ·)
  | _ :: _ => none
noncomputable def distinct : List Str → Nat
  | [] => 0
  | x :: r => if r.contains x then distinct r else distinct r + 1
noncomputable def lensetL (xs : List D) : Option Rv := match strsOf xs with
  | some ks => if ks.length ≤ 1000 then some (.fz (.int (distinct ks.reverse : Nat))) else none
  | none => none

noncomputable def inD (x : D) : D → Option Bool
  | .list xs => if noDict x then anyEq x xs else none
  | .tuple xs => if noDict x then anyEq x xs else none
  | .str s => match x with
    | .str t => (match t.cps.toList with
      | [c] => some (s.cps.toList.contains c)
      | _ => none)
    | _ => none
  | .dict kvs => match x with
    | .str t => some (dgetL kvs t).isSome
    | _ => none
  | _ => none

noncomputable def isD : D → D → Option Bool
  | .none, .none => some true
  | .bool a, .bool b => some (a == b)
  | .none, .bool _ => some false
  | .bool _, .none => some false
  | .int _, .none => some false
  | .int _, .bool _ => some false
  | .str _, .none => some false
  | .str _, .bool _ => some false
  | .list _, .none => some false
  | .list _, .bool _ => some false
  | .tuple _, .none => some false
  | .tuple _, .bool _ => some false
  | _, _ => none

noncomputable def ltD : D → D → Option Bool
  | .int a, .int b => some (decide (a < b))
  | _, _ => none
noncomputable def leD : D → D → Option Bool
  | .int a, .int b => some (decide (a ≤ b))
  | _, _ => none

noncomputable def cmpD (o : Cm) (a b : D) : Option Bool := match o with
  | .eq => eqD a b
  | .ne => (eqD a b).map (!·)
  | .lt => ltD a b
  | .le => leD a b
  | .gt => ltD b a
  | .ge => leD b a
  | .isin => inD a b
  | .notin => (inD a b).map (!·)
  | .is => isD a b
  | .isnot => (isD a b).map (!·)

noncomputable def truthD : D → Bool
  | .none => false
  | .bool b => b
  | .int i => i != 0
  | .str s => s.cps.size != 0
  | .list xs => !xs.isEmpty
  | .tuple xs => !xs.isEmpty
  | .dict kvs => !kvs.isEmpty

noncomputable def negD : D → Option D
  | .int a => some (.int (-a))
  | _ => none

noncomputable def idxOf (xs : List α) (i : Int) : Option α := if 0 ≤ i then xs[i.toNat]? else if 0 ≤ i + xs.length then xs[(i + xs.length).toNat]? else none

noncomputable def idxD : D → D → Option D
  | .list xs, .int i => idxOf xs i
  | .tuple xs, .int i => idxOf xs i
  | .str s, .int i => (idxOf s.cps.toList i).map fun c => .str ⟨#[c]⟩
  | .dict kvs, .str k => dgetL kvs k
  | _, _ => none

noncomputable def clampI (n : Nat) (i : Int) : Nat := clipAt n i
noncomputable def loOf (n : Nat) : D → Option Nat
  | .none => some 0
  | .int i => some (clampI n i)
  | _ => none
noncomputable def hiOf (n : Nat) : D → Option Nat
  | .none => some n
  | .int i => some (clampI n i)
  | _ => none
noncomputable def cutL (xs : List α) (lo hi : Nat) : List α := (xs.drop lo).take (hi - lo)
noncomputable def slcD (a lo hi : D) : Option Rv := match a with
  | .list xs => match loOf xs.length lo, hiOf xs.length hi with
    | some l, some h => some (.own (.list (cutL xs l h)))
    | _, _ => none
  | .tuple xs => match loOf xs.length lo, hiOf xs.length hi with
    | some l, some h => some (.fz (.tuple (cutL xs l h)))
    | _, _ => none
  | _ => none

noncomputable def isiD : Ty → D → Bool
  | .tup, .tuple _ => true
  | .int, .int _ => true
  | .int, .bool _ => true
  | .bool, .bool _ => true
  | .str, .str _ => true
  | .list, .list _ => true
  | _, _ => false

noncomputable def sumD : Int → List D → Option D
  | a, [] => some (.int a)
  | a, .int b :: r => sumD (a + b) r
  | _, _ :: _ => none
noncomputable def allB : List D → Option Bool
  | [] => some true
  | .bool b :: r => (allB r).map (b && ·)
  | _ :: _ => none
noncomputable def Bi.loops : Bi → Bool
  | .sum => true
  | .all => true
  | .lenset => true
  | _ => false
noncomputable def lenD : D → Option Nat
  | .list xs => some xs.length
  | .tuple xs => some xs.length
  | .str s => some s.cps.size
  | _ => none
noncomputable def biD : Bi → List D → Option Rv
  | .len, [a] => (lenD a).map fun (n : Nat) => .fz (.int n)
  | .isi t, [a] => some (.fz (.bool (isiD t a)))
  | .sum, [.list xs] => (sumD 0 xs).map .fz
  | .all, [.list xs] => (allB xs).map fun b => .fz (.bool b)
  | .abs, [.int a] => some (.fz (.int a.natAbs))
  | .int, [.bool b] => some (.fz (.int (if b then 1 else 0)))
  | .tuple, [.list xs] => some (.fz (.tuple xs))
  | .tuple, [.tuple xs] => some (.fz (.tuple xs))
  | .list, [.list xs] => some (.own (.list xs))
  | .list, [.tuple xs] => some (.own (.list xs))
  | .lenset, [.list xs] => lensetL xs
  | .lenset, [.tuple xs] => lensetL xs
  | .dget, [.dict kvs, .str k] => some (.fz ((dgetL kvs k).getD .none))
  | .count, [.list xs, .bool b] => (boolsOf xs).map fun bs => .fz (.int (bs.count b : Nat))
  | .dict0, [] => some (.own (.dict []))
  | _, _ => none

noncomputable def dlook : List Str → List D → Str → Option D
  | k :: ks, d :: ds, x => if k = x then some d else dlook ks ds x
  | _, _, _ => none
noncomputable def rangeL (a : Int) (n : Nat) : List D := (List.range n).map fun (k : Nat) => .int (a + k)
noncomputable def iterD : Itk → List D → Option (List D)
  | .seq, [.list xs] => some xs
  | .seq, [.tuple xs] => some xs
  | .seq, [.str s] => some (s.cps.toList.map fun c => .str ⟨#[c]⟩)
  | .range, [.int n] => if -1000000000 ≤ n ∧ n ≤ Sz then some (rangeL 0 n.toNat) else none
  | _, _ => none

/-! ### frames -/
noncomputable def plGet (fr : Frame) : Pl → Option D
  | .var i => match fr[i]? with
    | some (.fz d) => some d
    | some (.own d) => some d
    | _ => none
  | .attr i a => match fr[i]? with
    | some (.inst _ as) => (match as[a]? with
      | some (.fz d) => some d
      | some (.own d) => some d
      | _ => none)
    | _ => none
noncomputable def Slot.live : Slot → Bool
  | .no => false
  | _ => true
noncomputable def plLive (fr : Frame) : Pl → Bool
  | .var i => match fr[i]? with
    | some sl => sl.live
    | none => false
  | .attr i a => match fr[i]? with
    | some (.inst _ as) => (match as[a]? with
      | some (.fz _) => true
      | some (.own _) => true
      | _ => false)
    | _ => false
noncomputable def plOwn (fr : Frame) : Pl → Option D
  | .var i => match fr[i]? with
    | some (.own d) => some d
    | _ => none
  | .attr i a => match fr[i]? with
    | some (.inst _ as) => (match as[a]? with
      | some (.own d) => some d
      | _ => none)
    | _ => none
noncomputable def plSet (fr : Frame) (p : Pl) (d : D) : Frame := match p with
  | .var i => fr.set i (.own d)
  | .attr i a => match fr[i]? with
    | some (.inst c as) => fr.set i (.inst c (as.set a (.own d)))
    | _ => fr
noncomputable def rvD (fr : Frame) : Rv → Option D
  | .fz d => some d
  | .own d => some d
  | .pl p => plGet fr p
noncomputable def rvV : Rv → Option D
  | .fz d => some d
  | .own d => some d
  | .pl _ => none
noncomputable def rvDs (fr : Frame) : List Rv → Option (List D)
  | [] => some []
  | r :: rs => match rvD fr r, rvDs fr rs with
    | some d, some ds => some (d :: ds)
    | _, _ => none
noncomputable def rvVs : List Rv → Option (List D)
  | [] => some []
  | r :: rs => match rvV r, rvVs rs with
    | some d, some ds => some (d :: ds)
    | _, _ => none

noncomputable def clr (fr : Frame) : List Nat → Frame
  | [] => fr
  | i :: is => clr (fr.set i .no) is

noncomputable def asgs (pin : List Nat) (fr : Frame) : List Nat → List D → Option Frame
  | [], [] => some fr
  | i :: is, d :: ds => if pin.contains i then none else asgs pin (fr.set i (.fz d)) is ds
  | _, _ => none
noncomputable def asgT (pin : List Nat) (fr : Frame) (t : Tgt) (r : Rv) : Option Frame := match t with
  | .one i => if pin.contains i then none else match r with
    | .fz d => some (fr.set i (.fz d))
    | .own d => some (fr.set i (.own d))
    | .pl _ => none
  | .tup is => match rvV r with
    | some (.tuple ds) => asgs pin fr is ds
    | _ => none
noncomputable def tgtVars : Tgt → List Nat
  | .one i => [i]
  | .tup is => is

noncomputable def argSlots (fr : Frame) : List Rv → Option (List Slot)
  | [] => some []
  | r :: rs => match (match r with
      | .fz d => some (Slot.fz d)
      | .own d => some (.fz d)
      | .pl (.var i) => (match fr[i]? with
        | some (.fz d) => some (.fz d)
        | some (.own d) => some (.own d)
        | some (.inst c as) => some (.inst c as)
        | some (.exc c) => some (.exc c)
        | _ => none)
      | .pl (.attr _ _) => none), argSlots fr rs with
    | some s, some ss => some (s :: ss)
    | _, _ => none
noncomputable def Slot.lent : Slot → Bool
  | .fz _ => false
  | .no => false
  | .exc _ => false
  | _ => true
noncomputable def roots : List Rv → List Nat
  | [] => []
  | .pl (.var i) :: rs => i :: roots rs
  | _ :: rs => roots rs
noncomputable def copyOut (fr : Frame) : List Rv → List Slot → List Slot → Frame
  | r :: rs, s :: ss, outs => if s.lent then (match outs with
      | o :: os => (match r with
        | .pl (.var i) => copyOut (fr.set i o) rs ss os
        | _ => copyOut fr rs ss os)
      | [] => fr) else copyOut fr rs ss outs
  | _, _, _ => fr
noncomputable def outsOf : List Slot → Frame → List Slot
  | [], _ => []
  | s :: ss, fr => if s.lent then fr.headD .no :: outsOf ss fr.tail else outsOf ss fr.tail
noncomputable def pinsOf : Nat → List Slot → List Nat
  | _, [] => []
  | k, s :: ss => if s.lent then k :: pinsOf (k + 1) ss else pinsOf (k + 1) ss

structure Cfg where
  glob : List D
  call : Bool → Nat → List Slot → Option (Except Str Rv × List Slot)
  pin : List Nat
  hd : Bool

noncomputable def compL [f : Kt D (Option D)] (cl : List Nat) : List D → Frame → Out (List D)
  | [], fr => some (.ok [], clr fr cl)
  | d :: ds, fr => bndK (f.run d (clr fr cl)) fun r fr => bndK (compL (f := f) cl ds fr) fun rs fr => match r with
    | none => some (.ok rs, fr)
    | some x => some (.ok (x :: rs), fr)

noncomputable def forL [f : Kt D Ctl] (cl : List Nat) : List D → Frame → Out Ctl
  | [], fr => some (.ok .next, clr fr cl)
  | d :: ds, fr => bndNK (f.run d (clr fr cl)) fun c fr => match c with
    | .next => forL (f := f) cl ds fr
    | .ret r => some (.ok (.ret r), fr)

noncomputable def okO {α : Type} (fr : Frame) : Option α → Out α
  | none => none
  | some a => some (.ok a, fr)
theorem okO_some {α : Type} (fr : Frame) (a : α) : okO fr (some a) = some (.ok a, fr) := rfl
theorem okO_none {α : Type} (fr : Frame) : okO fr (none : Option α) = none := rfl

noncomputable def callO (c : Cfg) (f : Nat) (rs : List Rv) (fr : Frame) : Out Rv :=
  match argSlots fr rs with
  | none => none
  | some ss => if (roots rs).Nodup then match c.call c.hd f ss with
      | none => none
      | some (.error e, outs) => some (.error e, copyOut fr rs ss outs)
      | some (.ok r, outs) => (match rvV r with
        | none => none
        | some _ => some (.ok r, copyOut fr rs ss outs))
    else none

noncomputable def okV (fr : Frame) : Option Rv → Out Rv
  | none => none
  | some (.fz d) => some (.ok (.fz d), fr)
  | some (.own d) => some (.ok (.own d), fr)
  | some (.pl _) => none
theorem okV_fz (fr : Frame) (d : D) : okV fr (some (.fz d)) = some (.ok (.fz d), fr) := rfl
theorem okV_own (fr : Frame) (d : D) : okV fr (some (.own d)) = some (.ok (.own d), fr) := rfl
theorem okV_none (fr : Frame) : okV fr none = none := rfl
theorem nos {α : Type} {r : α} {p : Prop} (h : none = some r) : p := nomatch h
theorem sos {α : Type} {a r : α} (h : some a = some r) : a = r := Option.some.inj h
theorem ifs {α : Type} {c : Prop} [Decidable c] {a r : α} (h : (if c then some a else none) = some r) : c ∧ a = r := by
  by_cases q : c
  · rw [if_pos q] at h; exact ⟨q, sos h⟩
  · rw [if_neg q] at h; exact nos h
theorem ifn {α : Type} {c : Prop} [Decidable c] {a r : α} (h : (if c then none else some a) = some r) : ¬ c ∧ a = r := by
  by_cases q : c
  · rw [if_pos q] at h; exact nos h
  · rw [if_neg q] at h; exact ⟨q, sos h⟩

mutual
noncomputable def ev (c : Cfg) : Ex → Frame → Out Rv
  | .lit d, fr => some (.ok (.fz d), fr)
  | .gl k, fr => match c.glob[k]? with
    | some d => some (.ok (.fz d), fr)
    | none => none
  | .var i, fr => match fr[i]? with
    | some (.fz d) => some (.ok (.fz d), fr)
    | some (.own d) => some (.ok (.fz d), fr.set i (.fz d))
    | _ => none
  | .pl p, fr => if plLive fr p then some (.ok (.pl p), fr) else none
  | .tup es, fr => bndK (evs c es fr) fun rs fr => okO fr ((rvVs rs).map fun ds => .fz (.tuple ds))
  | .list es, fr => bndK (evs c es fr) fun rs fr => okO fr ((rvVs rs).map fun ds => .own (.list ds))
  | .op2 o a b, fr => bndK (ev c a fr) fun x fr => bndK (ev c b fr) fun y fr => match rvD fr x, rvD fr y with
    | some d, some e => okV fr (op2 o d e)
    | _, _ => none
  | .neg a, fr => bndK (ev c a fr) fun x fr => match rvV x with
    | some d => okO fr ((negD d).map .fz)
    | none => none
  | .not a, fr => bndK (ev c a fr) fun x fr => match rvD fr x with
    | some d => some (.ok (.fz (.bool (!truthD d))), fr)
    | none => none
  | .cmp o a b, fr => bndK (ev c a fr) fun x fr => bndK (ev c b fr) fun y fr => match rvD fr x, rvD fr y with
    | some d, some e => okO fr ((cmpD o d e).map fun b => .fz (.bool b))
    | _, _ => none
  | .cmp2 o p a b e, fr => bndK (ev c a fr) fun x fr => bndK (ev c b fr) fun y fr => match rvV x, rvV y with
    | some d, some d' => (match cmpD o d d' with
      | none => none
      | some t => if t = true then bndK (ev c e fr) fun z fr => match rvV z with
        | some d'' => okO fr ((cmpD p d' d'').map fun b => .fz (.bool b))
        | none => none
        else some (.ok (.fz (.bool false)), fr))
    | _, _ => none
  | .and es, fr => evAnd c es fr
  | .or es, fr => evOr c es fr
  | .ite t a b, fr => bndK (ev c t fr) fun x fr => match rvD fr x with
    | some d => if truthD d then bndK (ev c a fr) fun r fr => match rvV r with
        | none => none
        | some _ => some (.ok r, fr)
      else bndK (ev c b fr) fun r fr => match rvV r with
        | none => none
        | some _ => some (.ok r, fr)
    | none => none
  | .idx a i, fr => bndK (ev c a fr) fun x fr => bndK (ev c i fr) fun y fr => match rvD fr x, rvV y with
    | some d, some e => okO fr ((idxD d e).map .fz)
    | _, _ => none
  | .slc a lo hi, fr => bndK (ev c a fr) fun x fr => bndK (ev c lo fr) fun y fr => bndK (ev c hi fr) fun z fr => match rvD fr x, rvV y, rvV z with
    | some d, some l, some h => okV fr (slcD d l h)
    | _, _, _ => none
  | .call f args, fr => bndK (evs c args fr) fun rs fr => callO c f rs fr
  | .bi b args, fr => if c.hd && b.loops then none else bndK (evs c args fr) fun rs fr => match rvDs fr rs with
    | some ds => okV fr (biD b ds)
    | none => none
  | .comp elt t it src conds, fr => if c.hd then none else bndK (evs c src fr) fun rs fr => match rvVs rs with
    | none => none
    | some ds => match iterD it ds with
      | none => none
      | some items => bndNK (compL (f := ⟨fun d fr => match asgT c.pin fr t (.fz d) with
          | none => none
          | some fr => bndK (evConds c conds fr) fun b fr => if b then bndK (ev c elt fr) fun r fr => okO fr ((rvV r).map some) else some (.ok none, fr)⟩) (tgtVars t) items fr)
          fun ds fr => some (.ok (.own (.list ds)), fr)
  | .isx i yes no, fr => match fr[i]? with
    | some (.exc k) => if yes.contains k = true then some (.ok (.fz (.bool true)), fr) else if no.contains k = true then some (.ok (.fz (.bool false)), fr) else none
    | _ => none
  | .dsel ks es i, fr => bndK (evs c es fr) fun rs fr => match rvVs rs, fr[i]? with
    | some ds, some (.fz (.str x)) => okO fr ((dlook ks ds x).map .fz)
    | _, _ => none
noncomputable def evs (c : Cfg) : List Ex → Frame → Out (List Rv)
  | [], fr => some (.ok [], fr)
  | e :: es, fr => bndK (ev c e fr) fun r fr => bndK (evs c es fr) fun rs fr => some (.ok (r :: rs), fr)
noncomputable def evAnd (c : Cfg) : List Ex → Frame → Out Rv
  | [], _ => none
  | e :: es, fr => bndK (ev c e fr) fun r fr => match rvV r with
    | none => none
    | some d => match es with
      | [] => some (.ok r, fr)
      | _ :: _ => if truthD d then evAnd c es fr else some (.ok r, fr)
noncomputable def evOr (c : Cfg) : List Ex → Frame → Out Rv
  | [], _ => none
  | e :: es, fr => bndK (ev c e fr) fun r fr => match rvV r with
    | none => none
    | some d => match es with
      | [] => some (.ok r, fr)
      | _ :: _ => if truthD d then some (.ok r, fr) else evOr c es fr
noncomputable def evConds (c : Cfg) : List Ex → Frame → Out Bool
  | [], fr => some (.ok true, fr)
  | e :: es, fr => bndK (ev c e fr) fun r fr => match rvD fr r with
      | none => none
      | some d => if truthD d then evConds c es fr else some (.ok false, fr)
end

noncomputable def ownL : Option D → Bool
  | some (.list _) => true
  | _ => false
noncomputable def Tgt.isTup : Tgt → Bool
  | .one _ => false
  | .tup _ => true
noncomputable def setD : D → D → D → Option D
  | .list xs, .int i, d => if 0 ≤ i ∧ i < xs.length then some (.list (xs.set i.toNat d)) else none
  | .dict kvs, .str k, d => if kvs.length < Sz then some (.dict (dsetL kvs k d)) else none
  | _, _, _ => none

mutual
noncomputable def exS (c : Cfg) : St → Frame → Out Ctl
  | .asg t e, fr => if c.hd && t.isTup then none else bndK (ev c e fr) fun r fr => match asgT c.pin fr t r with
    | some fr => some (.ok .next, fr)
    | none => none
  | .setI p i e, fr => bndK (ev c e fr) fun r fr => if (plOwn fr p).isSome then bndK (ev c i fr) fun k fr => match rvV r, rvV k, plOwn fr p with
    | some d, some k, some o => (match setD o k d with
      | some o' => some (.ok .next, plSet fr p o')
      | none => none)
    | _, _, _ => none
    else none
  | .app p e, fr => if ownL (plOwn fr p) then bndK (ev c e fr) fun r fr => match rvV r, plOwn fr p with
    | some d, some (.list xs) => if xs.length < Sz then some (.ok .next, plSet fr p (.list (xs ++ [d]))) else none
    | _, _ => none
    else none
  | .exp e, fr => bndK (ev c e fr) fun _ fr => some (.ok .next, fr)
  | .iff t a b, fr => bndK (ev c t fr) fun x fr => match rvD fr x with
    | some d => if truthD d then exSs c a fr else exSs c b fr
    | none => none
  | .ret e, fr => bndK (ev c e fr) fun r fr => match r with
    | .pl _ => none
    | r => some (.ok (.ret r), fr)
  | .for_ t it src body tmp, fr => if c.hd then none else bndK (evs c src fr) fun rs fr => match rvVs rs with
    | none => none
    | some ds => match iterD it ds with
      | none => none
      | some items => forL (f := ⟨fun d fr => match asgT c.pin fr t (.fz d) with
          | none => none
          | some fr => exSs c body fr⟩) tmp items fr
  | .no, _ => none
  | .raise k, fr => if c.hd then none else some (.error k, fr)
  | .try_ body yes v hand, fr => if c.hd then none else match exSs c body fr with
    | none => none
    | some (.ok k, fr) => some (.ok k, fr)
    | some (.error e, fr) => if yes.contains e = true ∧ ¬ c.pin.contains v = true then (match exSs { c with hd := true } hand (fr.set v (.exc e)) with
      | some (.ok k, fr) => some (.ok k, fr.set v .no)
      | _ => none) else none
noncomputable def exSs (c : Cfg) : List St → Frame → Out Ctl
  | [], fr => some (.ok .next, fr)
  | s :: ss, fr => bndK (exS c s fr) fun k fr => match k with
    | .next => exSs c ss fr
    | .ret r => some (.ok (.ret r), fr)
end

structure Fn where
  np : Nat
  nv : Nat
  body : List St

structure Pr where
  glob : List D
  fns : List Fn

noncomputable def callF (P : Pr) : Nat → Bool → Nat → List Slot → Option (Except Str Rv × List Slot)
  | 0, _, _, _ => none
  | n + 1, hd, f, args => match P.fns[f]? with
    | none => none
    | some fn => if args.length = fn.np then
        match exSs ⟨P.glob, callF P n, pinsOf 0 args, hd⟩ fn.body (args ++ List.replicate (fn.nv - fn.np) .no) with
        | none => none
        | some (.error e, fr) => some (.error e, outsOf args fr)
        | some (.ok .next, fr) => some (.ok (.fz .none), outsOf args fr)
        | some (.ok (.ret r), fr) => some (.ok r, outsOf args fr)
      else none
end Mv

end

section
namespace Mv
open PySem
theorem compL_cons (f : Kt D (Option D)) (cl : List Nat) (d : D) (ds : List D) (fr : Frame) : @compL f cl (d :: ds) fr = bndK (f.run d (clr fr cl)) fun r fr => bndK (@compL f cl ds fr) fun rs fr => match r with
    | none => some (.ok rs, fr)
    | some x => some (.ok (x :: rs), fr) := rfl
theorem forL_cons (f : Kt D Ctl) (cl : List Nat) (d : D) (ds : List D) (fr : Frame) : @forL f cl (d :: ds) fr = bndNK (f.run d (clr fr cl)) fun c fr => match c with
    | .next => @forL f cl ds fr
    | .ret r => some (.ok (.ret r), fr) := rfl
theorem bnd_id {α : Type} (q : Out α) : @bnd _ _ q ⟨fun rs fr => some (.ok rs, fr)⟩ = q := by rcases q with _ | ⟨_ | _, _⟩ <;> rfl
section
variable (c : Cfg) (fr : Frame)
theorem ev_lit (d : D) : ev c (.lit d) fr = some (.ok (.fz d), fr) := rfl
theorem ev_gl (k : Nat) : ev c (.gl k) fr = match c.glob[k]? with
    | some d => some (.ok (.fz d), fr)
    | none => none := rfl
theorem ev_var (i : Nat) : ev c (.var i) fr = match fr[i]? with
    | some (.fz d) => some (.ok (.fz d), fr)
    | some (.own d) => some (.ok (.fz d), fr.set i (.fz d))
    | _ => none := rfl
theorem ev_pl (p : Pl) : ev c (.pl p) fr = if plLive fr p then some (.ok (.pl p), fr) else none := rfl
theorem ev_tup (es : List Ex) : ev c (.tup es) fr = bnd (k := ⟨fun rs fr => okO fr ((rvVs rs).map fun ds => .fz (.tuple ds))⟩) (evs c es fr) := rfl
theorem ev_list (es : List Ex) : ev c (.list es) fr = bnd (k := ⟨fun rs fr => okO fr ((rvVs rs).map fun ds => .own (.list ds))⟩) (evs c es fr) := rfl
theorem ev_op2 (o : Op2) (a b : Ex) : ev c (.op2 o a b) fr = bnd (k := ⟨fun x fr => bnd (k := ⟨fun y fr => match rvD fr x, rvD fr y with
    | some d, some e => okV fr (op2 o d e)
    | _, _ => none⟩) (ev c b fr)⟩) (ev c a fr) := rfl
theorem ev_neg (a : Ex) : ev c (.neg a) fr = bnd (k := ⟨fun x fr => match rvV x with
    | some d => okO fr ((negD d).map .fz)
    | none => none⟩) (ev c a fr) := rfl
theorem ev_not (a : Ex) : ev c (.not a) fr = bnd (k := ⟨fun x fr => match rvD fr x with
    | some d => some (.ok (.fz (.bool (!truthD d))), fr)
    | none => none⟩) (ev c a fr) := rfl
theorem ev_cmp (o : Cm) (a b : Ex) : ev c (.cmp o a b) fr = bnd (k := ⟨fun x fr => bnd (k := ⟨fun y fr => match rvD fr x, rvD fr y with
    | some d, some e => okO fr ((cmpD o d e).map fun b => .fz (.bool b))
    | _, _ => none⟩) (ev c b fr)⟩) (ev c a fr) := rfl
theorem ev_cmp2 (o p : Cm) (a b e : Ex) : ev c (.cmp2 o p a b e) fr = bnd (k := ⟨fun x fr => bnd (k := ⟨fun y fr => match rvV x, rvV y with
    | some d, some d' => (match cmpD o d d' with
      | none => none
      | some t => if t = true then bnd (k := ⟨fun z fr => match rvV z with
        | some d'' => okO fr ((cmpD p d' d'').map fun b => .fz (.bool b))
        | none => none⟩) (ev c e fr) else some (.ok (.fz (.bool false)), fr))
    | _, _ => none⟩) (ev c b fr)⟩) (ev c a fr) := rfl
theorem ev_and (es : List Ex) : ev c (.and es) fr = evAnd c es fr := rfl
theorem ev_or (es : List Ex) : ev c (.or es) fr = evOr c es fr := rfl
theorem ev_ite (t a b : Ex) : ev c (.ite t a b) fr = bnd (k := ⟨fun x fr => match rvD fr x with
    | some d => if truthD d then bnd (k := ⟨fun r fr => match rvV r with
        | none => none
        | some _ => some (.ok r, fr)⟩) (ev c a fr)
      else bnd (k := ⟨fun r fr => match rvV r with
        | none => none
        | some _ => some (.ok r, fr)⟩) (ev c b fr)
    | none => none⟩) (ev c t fr) := rfl
theorem ev_idx (a i : Ex) : ev c (.idx a i) fr = bnd (k := ⟨fun x fr => bnd (k := ⟨fun y fr => match rvD fr x, rvV y with
    | some d, some e => okO fr ((idxD d e).map .fz)
    | _, _ => none⟩) (ev c i fr)⟩) (ev c a fr) := rfl
theorem ev_slc (a lo hi : Ex) : ev c (.slc a lo hi) fr = bnd (k := ⟨fun x fr => bnd (k := ⟨fun y fr => bnd (k := ⟨fun z fr => match rvD fr x, rvV y, rvV z with
    | some d, some l, some h => okV fr (slcD d l h)
    | _, _, _ => none⟩) (ev c hi fr)⟩) (ev c lo fr)⟩) (ev c a fr) := rfl
theorem ev_call (f : Nat) (args : List Ex) : ev c (.call f args) fr = bnd (k := ⟨fun rs fr => callO c f rs fr⟩) (evs c args fr) := rfl
theorem ev_bi (b : Bi) (args : List Ex) : ev c (.bi b args) fr = if c.hd && b.loops then none else bnd (k := ⟨fun rs fr => match rvDs fr rs with
    | some ds => okV fr (biD b ds)
    | none => none⟩) (evs c args fr) := rfl
noncomputable def compB (elt : Ex) (t : Tgt) (conds : List Ex) (items : List D) : Out (List D) :=
  compL (f := ⟨fun d fr => match asgT c.pin fr t (.fz d) with
          | none => none
          | some fr => bndK (evConds c conds fr) fun b fr => if b then bndK (ev c elt fr) fun r fr => okO fr ((rvV r).map some) else some (.ok none, fr)⟩) (tgtVars t) items fr
theorem ev_comp (elt : Ex) (t : Tgt) (it : Itk) (src conds : List Ex) : ev c (.comp elt t it src conds) fr = if c.hd then none else bnd (k := ⟨fun rs fr => match rvVs rs with
    | none => none
    | some ds => match iterD it ds with
      | none => none
      | some items => bndN (k := ⟨fun ds fr => some (.ok (.own (.list ds)), fr)⟩) (compB c fr elt t conds items)⟩) (evs c src fr) := rfl
theorem ev_dsel (ks : List Str) (es : List Ex) (i : Nat) : ev c (.dsel ks es i) fr = bnd (k := ⟨fun rs fr => match rvVs rs, fr[i]? with
    | some ds, some (.fz (.str x)) => okO fr ((dlook ks ds x).map .fz)
    | _, _ => none⟩) (evs c es fr) := rfl
theorem ev_isx (i : Nat) (yes no : List Str) : ev c (.isx i yes no) fr = match fr[i]? with
    | some (.exc k) => if yes.contains k = true then some (.ok (.fz (.bool true)), fr) else if no.contains k = true then some (.ok (.fz (.bool false)), fr) else none
    | _ => none := rfl
theorem compB_nil (elt : Ex) (t : Tgt) (conds : List Ex) : compB c fr elt t conds [] = some (.ok [], clr fr (tgtVars t)) := rfl
theorem compB_cons (elt : Ex) (t : Tgt) (conds : List Ex) (d : D) (ds : List D) : compB c fr elt t conds (d :: ds) =
    match asgT c.pin (clr fr (tgtVars t)) t (.fz d) with
    | none => none
    | some fr => bnd (k := ⟨fun b fr => if b = true then bnd (k := ⟨fun r fr => match rvV r with
        | none => none
        | some x => bnd (k := ⟨fun rs fr => some (.ok (x :: rs), fr)⟩) (compB c fr elt t conds ds)⟩) (ev c elt fr) else compB c fr elt t conds ds⟩) (evConds c conds fr) := by
  unfold compB
  refine (compL_cons _ _ _ _ _).trans ?_
  dsimp only
  cases asgT c.pin (clr fr (tgtVars t)) t (.fz d) with
  | none => rfl
  | some fr =>
    dsimp only [bndK]
    rcases evConds c conds fr with _ | ⟨_ | b, fr⟩
    · rfl
    · rfl
    · rw [bnd_ok, bnd_ok]
      cases b with
      | false =>
        simp only [Bool.false_eq_true, if_false, bnd_ok]
        exact bnd_id _
      | true =>
        simp only [if_true]
        rcases ev c elt fr with _ | ⟨_ | r, fr⟩
        · rfl
        · rfl
        · rw [bnd_ok, bnd_ok]
          cases rvV r with
          | none => rfl
          | some x => rfl
theorem evs_nil : evs c [] fr = some (.ok [], fr) := rfl
theorem evs_cons (e : Ex) (es : List Ex) : evs c (e :: es) fr = bnd (k := ⟨fun r fr => bnd (k := ⟨fun rs fr => some (.ok (r :: rs), fr)⟩) (evs c es fr)⟩) (ev c e fr) := rfl
theorem evAnd_one (e : Ex) : evAnd c [e] fr = bnd (k := ⟨fun r fr => match rvV r with
    | none => none
    | some _ => some (.ok r, fr)⟩) (ev c e fr) := rfl
theorem evAnd_cons (e e' : Ex) (es : List Ex) : evAnd c (e :: e' :: es) fr = bnd (k := ⟨fun r fr => match rvV r with
      | none => none
      | some d => if truthD d then evAnd c (e' :: es) fr else some (.ok r, fr)⟩) (ev c e fr) := rfl
theorem evOr_one (e : Ex) : evOr c [e] fr = bnd (k := ⟨fun r fr => match rvV r with
    | none => none
    | some _ => some (.ok r, fr)⟩) (ev c e fr) := rfl
theorem evOr_cons (e e' : Ex) (es : List Ex) : evOr c (e :: e' :: es) fr = bnd (k := ⟨fun r fr => match rvV r with
      | none => none
      | some d => if truthD d then some (.ok r, fr) else evOr c (e' :: es) fr⟩) (ev c e fr) := rfl
theorem evConds_nil : evConds c [] fr = some (.ok true, fr) := rfl
theorem evConds_cons (e : Ex) (es : List Ex) : evConds c (e :: es) fr = bnd (k := ⟨fun r fr => match rvD fr r with
      | none => none
      | some d => if truthD d then evConds c es fr else some (.ok false, fr)⟩) (ev c e fr) := rfl

theorem exS_asg (t : Tgt) (e : Ex) : exS c (.asg t e) fr = if c.hd && t.isTup then none else bnd (k := ⟨fun r fr => match asgT c.pin fr t r with
    | some fr => some (.ok .next, fr)
    | none => none⟩) (ev c e fr) := rfl
theorem exS_exp (e : Ex) : exS c (.exp e) fr = bnd (k := ⟨fun _ fr => some (.ok .next, fr)⟩) (ev c e fr) := rfl
theorem exS_iff (t : Ex) (a b : List St) : exS c (.iff t a b) fr = bnd (k := ⟨fun x fr => match rvD fr x with
    | some d => if truthD d then exSs c a fr else exSs c b fr
    | none => none⟩) (ev c t fr) := rfl
theorem exS_ret (e : Ex) : exS c (.ret e) fr = bnd (k := ⟨fun r fr => match r with
    | .pl _ => none
    | r => some (.ok (.ret r), fr)⟩) (ev c e fr) := rfl
noncomputable def forB (t : Tgt) (body : List St) (tmp : List Nat) (items : List D) : Out Ctl :=
  forL (f := ⟨fun d fr => match asgT c.pin fr t (.fz d) with
          | none => none
          | some fr => exSs c body fr⟩) tmp items fr
theorem exS_for (t : Tgt) (it : Itk) (src : List Ex) (body : List St) (tmp : List Nat) : exS c (.for_ t it src body tmp) fr = if c.hd then none else bnd (k := ⟨fun rs fr => match rvVs rs with
    | none => none
    | some ds => match iterD it ds with
      | none => none
      | some items => forB c fr t body tmp items⟩) (evs c src fr) := rfl
theorem forB_nil (t : Tgt) (body : List St) (tmp : List Nat) : forB c fr t body tmp [] = some (.ok .next, clr fr tmp) := rfl
theorem forB_cons (t : Tgt) (body : List St) (tmp : List Nat) (d : D) (ds : List D) : forB c fr t body tmp (d :: ds) =
    match asgT c.pin (clr fr tmp) t (.fz d) with
    | none => none
    | some fr => bndN (k := ⟨fun k fr => match k with
      | .next => forB c fr t body tmp ds
      | .ret r => some (.ok (.ret r), fr)⟩) (exSs c body fr) := by
  unfold forB
  refine (forL_cons _ _ _ _ _).trans ?_
  dsimp only
  cases asgT c.pin (clr fr tmp) t (.fz d) with
  | none => rfl
  | some fr => rfl
theorem exS_raise (k : Str) : exS c (.raise k) fr = if c.hd then none else some (.error k, fr) := rfl
noncomputable def tryH (v : Nat) (m : Out Ctl) : Out Ctl := match m with
  | some (.ok k, fr) => some (.ok k, fr.set v .no)
  | _ => none
noncomputable def tryO (yes : List Str) (v : Nat) (hand : List St) (m : Out Ctl) : Out Ctl := match m with
  | none => none
  | some (.ok k, fr) => some (.ok k, fr)
  | some (.error e, fr) => if yes.contains e = true ∧ ¬ c.pin.contains v = true then tryH v (exSs { c with hd := true } hand (fr.set v (.exc e))) else none
theorem exS_try (body : List St) (yes : List Str) (v : Nat) (hand : List St) : exS c (.try_ body yes v hand) fr = if c.hd then none else tryO c yes v hand (exSs c body fr) := rfl
theorem tryO_ok (yes : List Str) (v : Nat) (hand : List St) (k : Ctl) : tryO c yes v hand (some (.ok k, fr)) = some (.ok k, fr) := rfl
theorem tryO_err (yes : List Str) (v : Nat) (hand : List St) (e : Str) : tryO c yes v hand (some (.error e, fr)) = if yes.contains e = true ∧ ¬ c.pin.contains v = true then tryH v (exSs { c with hd := true } hand (fr.set v (.exc e))) else none := rfl
theorem tryH_ok (v : Nat) (k : Ctl) : tryH v (some (.ok k, fr)) = some (.ok k, fr.set v .no) := rfl
theorem exSs_nil : exSs c [] fr = some (.ok .next, fr) := rfl
theorem exSs_cons (s : St) (ss : List St) : exSs c (s :: ss) fr = bnd (k := ⟨fun k fr => match k with
    | .next => exSs c ss fr
    | .ret r => some (.ok (.ret r), fr)⟩) (exS c s fr) := by rfl
end

noncomputable def runF (P : Pr) (n : Nat) (hd : Bool) (fn : Fn) (args : List Slot) : Option (Except Str Rv × List Slot) :=
  match exSs ⟨P.glob, callF P n, pinsOf 0 args, hd⟩ fn.body (args ++ List.replicate (fn.nv - fn.np) .no) with
  | none => none
  | some (.error e, fr) => some (.error e, outsOf args fr)
  | some (.ok .next, fr) => some (.ok (.fz .none), outsOf args fr)
  | some (.ok (.ret r), fr) => some (.ok r, outsOf args fr)
noncomputable def finF (args : List Slot) (m : Out Ctl) : Option (Except Str Rv × List Slot) :=
  match m with
  | none => none
  | some (.error e, fr) => some (.error e, outsOf args fr)
  | some (.ok .next, fr) => some (.ok (.fz .none), outsOf args fr)
  | some (.ok (.ret r), fr) => some (.ok r, outsOf args fr)
theorem runF_eq (P : Pr) (n : Nat) (hd : Bool) (fn : Fn) (args : List Slot) : runF P n hd fn args = finF args (exSs ⟨P.glob, callF P n, pinsOf 0 args, hd⟩ fn.body (args ++ List.replicate (fn.nv - fn.np) .no)) := rfl
theorem finF_ret (args : List Slot) (r : Rv) (fr : Frame) : finF args (some (.ok (.ret r), fr)) = some (.ok r, outsOf args fr) := rfl
theorem finF_next (args : List Slot) (fr : Frame) : finF args (some (.ok .next, fr)) = some (.ok (.fz .none), outsOf args fr) := rfl
theorem finF_err (args : List Slot) (e : Str) (fr : Frame) : finF args (some (.error e, fr)) = some (.error e, outsOf args fr) := rfl
theorem finF_ite (args : List Slot) (p : Prop) [Decidable p] (m m' : Out Ctl) : finF args (if p then m else m') = if p then finF args m else finF args m' := by split <;> rfl
theorem o_addI (a b : Int) : op2 .add (.int a) (.int b) = some (.fz (.int (a + b))) := rfl
theorem o_addT (a b : List D) : op2 .add (.tuple a) (.tuple b) = if a.length + b.length ≤ Sz then some (.fz (.tuple (a ++ b))) else none := rfl
theorem o_addL (a b : List D) : op2 .add (.list a) (.list b) = if a.length + b.length ≤ Sz then some (.own (.list (a ++ b))) else none := rfl
theorem o_sub (a b : Int) : op2 .sub (.int a) (.int b) = some (.fz (.int (a - b))) := rfl
theorem o_mulI (a b : Int) : op2 .mul (.int a) (.int b) = mulI a b := rfl
theorem o_mulT (a : List D) (n : Int) : op2 .mul (.tuple a) (.int n) = if -1000000000 ≤ n ∧ n ≤ 1000000000 ∧ a.length * n.toNat ≤ Sz then some (.fz (.tuple (rep n a))) else none := rfl
theorem o_mulL (a : List D) (n : Int) : op2 .mul (.list a) (.int n) = if -1000000000 ≤ n ∧ n ≤ 1000000000 ∧ a.length * n.toNat ≤ Sz then some (.own (.list (rep n a))) else none := rfl
theorem o_fdiv (a b : Int) : op2 .fdiv (.int a) (.int b) = if b ≠ 0 ∧ b.natAbs < 2 ^ 64 then some (.fz (.int (a.fdiv b))) else none := rfl
theorem o_mod (a b : Int) : op2 .mod (.int a) (.int b) = if b = 0 then none else some (.fz (.int (a.fmod b))) := rfl
theorem o_pow (a n : Int) : op2 .pow (.int a) (.int n) = if 0 ≤ n ∧ n ≤ 1000 ∧ a.natAbs < 2 ^ 64 then some (.fz (.int (a ^ n.toNat))) else none := rfl
theorem b_len (a : D) : biD .len [a] = (lenD a).map fun (n : Nat) => .fz (.int n) := rfl
theorem b_isi (t : Ty) (a : D) : biD (.isi t) [a] = some (.fz (.bool (isiD t a))) := rfl
theorem b_sum (xs : List D) : biD .sum [.list xs] = (sumD 0 xs).map .fz := rfl
theorem b_abs (a : Int) : biD .abs [.int a] = some (.fz (.int a.natAbs)) := rfl
theorem b_int (b : Bool) : biD .int [.bool b] = some (.fz (.int (if b then 1 else 0))) := rfl
theorem b_tupL (xs : List D) : biD .tuple [.list xs] = some (.fz (.tuple xs)) := rfl
theorem b_tupT (xs : List D) : biD .tuple [.tuple xs] = some (.fz (.tuple xs)) := rfl
theorem b_listL (xs : List D) : biD .list [.list xs] = some (.own (.list xs)) := rfl
theorem e_int (a b : Int) : eqD (.int a) (.int b) = some (a == b) := rfl
theorem e_str (a b : Str) : eqD (.str a) (.str b) = some (a.cps.toList == b.cps.toList) := rfl
theorem e_bool (a b : Bool) : eqD (.bool a) (.bool b) = some (a == b) := rfl
theorem e_list (a b : List D) : eqD (.list a) (.list b) = if eqOk (.list a) (.list b) then some (PyData.eqv (.list a) (.list b)) else none := rfl
theorem e_tuple (a b : List D) : eqD (.tuple a) (.tuple b) = if eqOk (.tuple a) (.tuple b) then some (PyData.eqv (.tuple a) (.tuple b)) else none := rfl
theorem i_bb (a b : Bool) : isD (.bool a) (.bool b) = some (a == b) := rfl
end Mv

end

section
set_option maxRecDepth 100000
set_option linter.unusedSectionVars false
namespace Mv
open PySem PyProof.Rows

class Hp where
  prog : Program
  w : World
variable [Hp]
noncomputable abbrev prog : Program := Hp.prog
noncomputable abbrev w : World := Hp.w
noncomputable def DictS (h : Heap) (a : Addr) (kvs : List (Str × Value)) : Prop := (a == sysModules) = false ∧ h.DictOf (strKind prog w) a kvs
theorem DictS.at' {h h' : Heap} {a : Addr} {kvs : List (Str × Value)} (k : ∀ o, h.get? a = some o → h'.get? a = some o) (x : DictS h a kvs) : DictS h' a kvs :=
  ⟨x.1, let ⟨o, es, ep, ho, r⟩ := x.2; ⟨o, es, ep, k o ho, r⟩⟩
theorem DictS.live {h : Heap} {a : Addr} {kvs : List (Str × Value)} (x : DictS h a kvs) : ∃ o, h.get? a = some o := let ⟨o, _, _, ho, _⟩ := x.2; ⟨o, ho⟩
mutual
inductive Rep (h : Heap) (Z : Addr → Prop) : Value → D → Prop
  | none : Rep h Z .none .none
  | bool (b : Bool) : Rep h Z (.bool b) (.bool b)
  | int (i : Int) (t : Tok) : Rep h Z (.int i t) (.int i)
  | str (x : Str) (t : Tok) : PyData.strOk x = true → x.cps.size ≤ Sz → Rep h Z (.str x t) (.str x)
  | list {a : Addr} {vs : List Value} {n : Nat} {ds : List D} : Z a → IsL h a vs.toArray n → vs.length ≤ Sz → RepAll h Z vs ds → Rep h Z (.ref a) (.list ds)
  | tuple {a : Addr} {vs : List Value} {n : Nat} {ds : List D} : Z a → IsT h a vs.toArray n → vs.length ≤ Sz → RepAll h Z vs ds → Rep h Z (.ref a) (.tuple ds)
  | dict {a : Addr} {kvs : List (Str × Value)} {ds : List (D × D)} : Z a → DictS h a kvs → kvs.length ≤ Sz → RepKV h Z kvs ds → Rep h Z (.ref a) (.dict ds)
inductive RepAll (h : Heap) (Z : Addr → Prop) : List Value → List D → Prop
  | nil : RepAll h Z [] []
  | cons {v : Value} {vs : List Value} {d : D} {ds : List D} : Rep h Z v d → RepAll h Z vs ds → RepAll h Z (v :: vs) (d :: ds)
inductive RepKV (h : Heap) (Z : Addr → Prop) : List (Str × Value) → List (D × D) → Prop
  | nil : RepKV h Z [] []
  | cons {k : Str} {v : Value} {kvs : List (Str × Value)} {d : D} {ds : List (D × D)} : PyData.strOk k = true → k.cps.size ≤ Sz → Rep h Z v d → RepKV h Z kvs ds → RepKV h Z ((k, v) :: kvs) ((.str k, d) :: ds)
end

section
variable {h h' : Heap} {Z Z' : Addr → Prop}
mutual
theorem Rep.mono (hk : ∀ a o, Z a → h.get? a = some o → h'.get? a = some o) (hz : ∀ a, Z a → Z' a) : ∀ {v : Value} {d : D}, Rep h Z v d → Rep h' Z' v d
  | _, _, .none => .none
  | _, _, .bool b => .bool b
  | _, _, .int i t => .int i t
  | _, _, .str x t o l => .str x t o l
  | _, _, .list z g l r => .list (hz _ z) (hk _ _ z g) l (RepAll.mono hk hz r)
  | _, _, .tuple z g l r => .tuple (hz _ z) (hk _ _ z g) l (RepAll.mono hk hz r)
  | _, _, .dict z g l r => .dict (hz _ z) (g.at' fun o => hk _ o z) l (RepKV.mono hk hz r)
theorem RepAll.mono (hk : ∀ a o, Z a → h.get? a = some o → h'.get? a = some o) (hz : ∀ a, Z a → Z' a) : ∀ {vs : List Value} {ds : List D}, RepAll h Z vs ds → RepAll h' Z' vs ds
  | _, _, .nil => .nil
  | _, _, .cons a r => .cons (Rep.mono hk hz a) (RepAll.mono hk hz r)
theorem RepKV.mono (hk : ∀ a o, Z a → h.get? a = some o → h'.get? a = some o) (hz : ∀ a, Z a → Z' a) : ∀ {vs : List (Str × Value)} {ds : List (D × D)}, RepKV h Z vs ds → RepKV h' Z' vs ds
  | _, _, .nil => .nil
  | _, _, .cons o l a r => .cons o l (Rep.mono hk hz a) (RepKV.mono hk hz r)
end
theorem RepKV.get : ∀ {vs : List (Str × Value)} {ds : List (D × D)} {k : Str}, RepKV h Z vs ds → (dgetL ds k = none ∧ valueAt vs k = none) ∨ ∃ v d, dgetL ds k = some d ∧ valueAt vs k = some v ∧ Rep h Z v d
  | _, _, k, .nil => .inl ⟨rfl, rfl⟩
  | _, _, k, .cons (k := k') (v := v) (kvs := kvs) (d := d) (ds := ds) _ _ a r => by
    by_cases q : k' = k
    · exact .inr ⟨v, d, by show (if k' = k then some d else dgetL ds k) = some d; rw [if_pos q], by unfold valueAt; rw [List.find?_cons, decide_eq_true q]; rfl, a⟩
    · have e : dgetL ((.str k', d) :: ds) k = dgetL ds k := by show (if k' = k then some d else dgetL ds k) = _; rw [if_neg q]
      have e' : valueAt ((k', v) :: kvs) k = valueAt kvs k := by unfold valueAt; rw [List.find?_cons, decide_eq_false q]
      rw [e, e']; exact RepKV.get r
mutual
theorem Rep.reads : ∀ {v : Value} {d : D}, Rep h Z v d → noDict d = true → ∃ as, Reads h v d as
  | _, _, .none, _ => ⟨_, .none⟩
  | _, _, .bool b, _ => ⟨_, .bool b⟩
  | _, _, .int i t, _ => ⟨_, .int i t⟩
  | _, _, .str x t _ _, _ => ⟨_, .str x t⟩
  | _, _, .list _ g _ r, e => let ⟨_, q⟩ := RepAll.reads r e; ⟨_, .list g rfl rfl (by simpa using q)⟩
  | _, _, .tuple _ g _ r, e => let ⟨_, q⟩ := RepAll.reads r e; ⟨_, .tuple g rfl rfl (by simpa using q)⟩
  | _, _, .dict _ _ _ _, e => nomatch e
theorem RepAll.reads : ∀ {vs : List Value} {ds : List D}, RepAll h Z vs ds → noDicts ds = true → ∃ as, ReadsAll h vs ds as
  | _, _, .nil, _ => ⟨_, .nil⟩
  | _, _, .cons a r, e => let ⟨_, p⟩ := Rep.reads a (Bool.and_eq_true_iff.mp e).1; let ⟨_, q⟩ := RepAll.reads r (Bool.and_eq_true_iff.mp e).2; ⟨_, .cons p q⟩
end

mutual
theorem Rep.canLay : ∀ {v : Value} {d : D}, Rep h Z v d → noDict d = true → d.canLay0 = true
  | _, _, .none, _ => by simp [PyData.canLay0]
  | _, _, .bool b, _ => by simp [PyData.canLay0]
  | _, _, .int i t, _ => by simp [PyData.canLay0]
  | _, _, .str x t o _, _ => by simpa [PyData.canLay0] using o
  | _, _, .list _ _ _ r, e => by simpa [PyData.canLay0] using RepAll.canLay r (by simpa [noDict] using e)
  | _, _, .tuple _ _ _ r, e => by simpa [PyData.canLay0] using RepAll.canLay r (by simpa [noDict] using e)
  | _, _, .dict _ _ _ _, e => nomatch e
theorem RepAll.canLay : ∀ {vs : List Value} {ds : List D}, RepAll h Z vs ds → noDicts ds = true → PyData.canLayAll0 ds = true
  | _, _, .nil, _ => by simp [PyData.canLayAll0]
  | _, _, .cons a r, e => by
    rw [noDicts, Bool.and_eq_true] at e
    have e' := e
    simp [PyData.canLayAll0, Rep.canLay a e'.1, RepAll.canLay r e'.2]
end

theorem RepAll.length : ∀ {vs : List Value} {ds : List D}, RepAll h Z vs ds → vs.length = ds.length
  | _, _, .nil => rfl
  | _, _, .cons _ r => by rw [List.length_cons, List.length_cons, RepAll.length r]
theorem RepAll.append : ∀ {vs ws : List Value} {ds es : List D}, RepAll h Z vs ds → RepAll h Z ws es → RepAll h Z (vs ++ ws) (ds ++ es)
  | _, _, _, _, .nil, k => k
  | _, _, _, _, .cons a r, k => .cons a (RepAll.append r k)
theorem RepAll.drop : ∀ {vs : List Value} {ds : List D} (n : Nat), RepAll h Z vs ds → RepAll h Z (vs.drop n) (ds.drop n)
  | _, _, 0, r => r
  | _, _, _ + 1, .nil => .nil
  | _, _, n + 1, .cons _ r => RepAll.drop n r
theorem RepAll.take : ∀ {vs : List Value} {ds : List D} (n : Nat), RepAll h Z vs ds → RepAll h Z (vs.take n) (ds.take n)
  | _, _, 0, _ => .nil
  | _, _, _ + 1, .nil => .nil
  | _, _, n + 1, .cons a r => .cons a (RepAll.take n r)
theorem RepAll.get : ∀ {vs : List Value} {ds : List D} {k : Nat} {d : D}, RepAll h Z vs ds → ds[k]? = some d → ∃ v, vs[k]? = some v ∧ Rep h Z v d
  | _, _, _, _, .nil, e => by simp at e
  | _, _, 0, _, .cons a _, e => by simp at e; exact ⟨_, rfl, e ▸ a⟩
  | _, _, k + 1, _, .cons _ r, e => by simpa using RepAll.get r (by simpa using e)
theorem RepAll.getV : ∀ {vs : List Value} {ds : List D} {k : Nat} {v : Value}, RepAll h Z vs ds → vs[k]? = some v → ∃ d, ds[k]? = some d ∧ Rep h Z v d
  | _, _, _, _, .nil, e => by simp at e
  | _, _, 0, _, .cons a _, e => by simp at e; exact ⟨_, rfl, e ▸ a⟩
  | _, _, k + 1, _, .cons _ r, e => by simpa using RepAll.getV r (by simpa using e)
theorem RepAll.rep {vs : List Value} {ds : List D} (r : RepAll h Z vs ds) : ∀ n : Nat, RepAll h Z (List.replicate n vs).flatten (List.replicate n ds).flatten
  | 0 => .nil
  | n + 1 => by simpa [List.replicate_succ] using RepAll.append r (RepAll.rep r n)
end

inductive OwnAt (h : Heap) (Z : Addr → Prop) (a : Addr) : D → Prop
  | list {vs : List Value} {n : Nat} {ds : List D} : IsL h a vs.toArray n → vs.length ≤ Sz → RepAll h Z vs ds → OwnAt h Z a (.list ds)
  | dict {kvs : List (Str × Value)} {ds : List (D × D)} : DictS h a kvs → kvs.length ≤ Sz → RepKV h Z kvs ds → OwnAt h Z a (.dict ds)

theorem OwnAt.mono {h h' : Heap} {Z Z' : Addr → Prop} {a : Addr} {d : D} (hk : ∀ a o, Z a → h.get? a = some o → h'.get? a = some o) (hz : ∀ a, Z a → Z' a) (ha : ∀ o, h.get? a = some o → h'.get? a = some o) : OwnAt h Z a d → OwnAt h' Z' a d
  | .list g l r => .list (ha _ g) l (r.mono hk hz)
  | .dict g l r => .dict (g.at' ha) l (r.mono hk hz)
theorem OwnAt.live {h : Heap} {Z : Addr → Prop} {a : Addr} {d : D} : OwnAt h Z a d → ∃ o, h.get? a = some o
  | .list g _ _ => ⟨_, g⟩
  | .dict g _ _ => g.live
theorem OwnAt.rep {h : Heap} {Z Z' : Addr → Prop} {a : Addr} {d : D} (x : OwnAt h Z a d) (hz : ∀ a, Z a → Z' a) (ha : Z' a) : Rep h Z' (.ref a) d := by
  cases x with
  | list g l r => exact .list ha g l (r.mono (fun _ _ _ e => e) hz)
  | dict g l r => exact .dict ha g l (r.mono (fun _ _ _ e => e) hz)
end Mv

end

section
set_option maxRecDepth 100000
set_option linter.unusedSectionVars false
set_option linter.unusedVariables false
namespace Mv
open PySem PyProof.Rows
variable [Hp]

inductive Loc where | dict (a : Addr) (x : Str) | cell (a : Addr)
noncomputable def Loc.addr : Loc → Addr | .dict a _ => a | .cell a => a
noncomputable def rdL (h : Heap) : Loc → Value → Prop
  | .dict a x, v => ∃ m, h.Ns a m ∧ m x = some v
  | .cell a, v => h.IsCell a (some v)
noncomputable def okL (h : Heap) : Loc → Prop
  | .dict a _ => ∃ m, h.Ns a m
  | .cell a => ∃ v, h.IsCell a v

structure Lay where
  loc : Nat → Option Loc
  L : Addr
  F : Addr → Prop

structure Lay.Wf (y : Lay) : Prop where
  apart : ∀ i j l k, y.loc i = some l → y.loc j = some k → i ≠ j → l.addr = k.addr → ∃ a x z, l = .dict a x ∧ k = .dict a z ∧ x ≠ z
  nf : ∀ i l, y.loc i = some l → ¬ y.F l.addr
  nL : ¬ y.F y.L
  cl : ∀ i a, y.loc i = some (.cell a) → a ≠ y.L

noncomputable def SlotV (h : Heap) (Z O : Addr → Prop) : Slot → Value → Prop
  | .no, _ => True
  | .fz d, v => Rep h Z v d
  | .own d, v => ∃ a, v = .ref a ∧ O a ∧ OwnAt h Z a d
  | .inst _ _, _ => False
  | .exc k, v => ∃ a o C m, v = .ref a ∧ Z a ∧ h.get? a = some o ∧ (o.cls = .ref C ∧ o.dict = none ∧ ∃ vs, o.data = .fields vs) ∧ Z mainGlobals ∧ h.Ns mainGlobals m ∧ m k = some (.ref C)

noncomputable def NR (o : Obj) : Prop := ∀ vs, o.data ≠ .fields vs
noncomputable def Lay.wr (y : Lay) (own : Addr → Option Nat) (a : Addr) : Prop := own a ≠ none ∨ a = y.L ∨ ∃ i l, y.loc i = some l ∧ l.addr = a

structure Inv (B : Heap) (y : Lay) (own : Addr → Option Nat) (Z : Addr → Prop) (h : Heap) (fr : Frame) : Prop where
  wf : y.Wf
  base : ∀ a o, B.get? a = some o → h.get? a = some o
  zb : ∀ a o, B.get? a = some o → Z a
  zo : ∀ a, Z a → own a = none
  zl : ∀ i l, y.loc i = some l → ¬ Z l.addr
  ol : ∀ i l, y.loc i = some l → own l.addr = none
  zL : ¬ Z y.L
  oL : own y.L = none
  zF : ∀ a, Z a → ¬ y.F a
  oF : ∀ a, own a ≠ none → ¬ y.F a
  zlv : ∀ a, Z a → ∃ o, h.get? a = some o
  olv : ∀ a, own a ≠ none → ∃ o, h.get? a = some o
  flv : ∀ a, y.F a → ∃ o, h.get? a = some o ∧ NR o
  ok : ∀ i l, y.loc i = some l → okL h l
  nsL : ∃ m, h.Ns y.L m
  at' : ∀ i sl, fr[i]? = some sl → sl ≠ .no → ∃ l v, y.loc i = some l ∧ rdL h l v ∧ SlotV h Z (fun a => own a = some i) sl v

structure Ext (W F : Addr → Prop) (h h' : Heap) : Prop where
  keep : ∀ a o, h.get? a = some o → ¬ W a → ¬ F a → h'.get? a = some o
  live : ∀ a o, h.get? a = some o → ∃ o', h'.get? a = some o'
  fram : ∀ a o, F a → h.get? a = some o → ∃ sl, h'.get? a = some { o with slots := sl }

structure Step (y : Lay) (bv : List Nat) (own : Addr → Option Nat) (Z : Addr → Prop) (s : Shared) (own' : Addr → Option Nat) (Z' : Addr → Prop) (s' : Shared) : Prop where
  sh : ∃ h' tk, s' = { s with heap := h', toks := tk }
  ext : Ext (y.wr own) y.F s.heap s'.heap
  zm : ∀ a, Z a → Z' a
  zn : ∀ a, Z' a → Z a ∨ own a ≠ none ∨ s.heap.get? a = none
  on : ∀ a i, own' a = some i → own a = some i ∨ s.heap.get? a = none
  bind : ∀ i l v, i ∉ bv → y.loc i = some l → rdL s.heap l v → rdL s'.heap l v

section
variable {B : Heap} {y : Lay} {bv bv' : List Nat} {own own' own'' : Addr → Option Nat} {Z Z' Z'' : Addr → Prop} {s s' s'' : Shared} {h h' : Heap} {fr fr' : Frame}

theorem Ext.refl (W F : Addr → Prop) (h : Heap) : Ext W F h h := ⟨fun _ _ e _ _ => e, fun _ o e => ⟨o, e⟩, fun _ o _ e => ⟨o.slots, e⟩⟩
theorem Ext.trans {W W' F : Addr → Prop} {h h' h'' : Heap} (x : Ext W F h h') (z : Ext W' F h' h'') (hw : ∀ a, W' a → W a ∨ h.get? a = none) : Ext W F h h'' where
  keep := fun a o e hw' hf => z.keep a o (x.keep a o e hw' hf) (fun q => (hw a q).elim hw' fun n => by rw [n] at e; cases e) hf
  live := fun a o e => let ⟨o', e'⟩ := x.live a o e; z.live a o' e'
  fram := fun a o f e => let ⟨sl, e'⟩ := x.fram a o f e; let ⟨sl', e''⟩ := z.fram a _ f e'; ⟨sl', e''⟩

theorem Step.refl : Step y bv own Z s own Z s := ⟨⟨_, _, rfl⟩, .refl _ _ _, fun _ z => z, fun _ z => .inl z, fun _ _ e => .inl e, fun _ _ _ _ _ r => r⟩

theorem wr_mono (x : ∀ a i, own' a = some i → own a = some i ∨ h.get? a = none) (a : Addr) (w : y.wr own' a) : y.wr own a ∨ h.get? a = none := by
  rcases w with w | w
  · cases e : own' a with
    | none => exact absurd e w
    | some i => exact (x a i e).imp (fun q => .inl (by rw [q]; exact fun n => by cases n)) id
  · exact .inl (.inr w)

theorem Step.trans (x : Step y bv own Z s own' Z' s') (z : Step y bv own' Z' s' own'' Z'' s'') : Step y bv own Z s own'' Z'' s'' where
  sh := by obtain ⟨h', tk, rfl⟩ := x.sh; obtain ⟨h'', tk', rfl⟩ := z.sh; exact ⟨_, _, rfl⟩
  ext := x.ext.trans z.ext (wr_mono x.on)
  zm := fun a q => z.zm a (x.zm a q)
  zn := fun a q => by
    rcases z.zn a q with q | q | q
    · exact x.zn a q
    · cases e : own' a with
      | none => exact absurd e q
      | some i => exact (x.on a i e).elim (fun w => .inr (.inl (by rw [w]; exact fun n => by cases n))) fun w => .inr (.inr w)
    · cases e : s.heap.get? a with
      | none => exact .inr (.inr rfl)
      | some o => obtain ⟨o', e'⟩ := x.ext.live a o e; rw [q] at e'; cases e'
  on := fun a i q => by
    rcases z.on a i q with q | q
    · exact x.on a i q
    · cases e : s.heap.get? a with
      | none => exact .inr rfl
      | some o => obtain ⟨o', e'⟩ := x.ext.live a o e; rw [q] at e'; cases e'
  bind := fun i l v hb hl r => z.bind i l v hb hl (x.bind i l v hb hl r)

theorem Step.sub (x : Step y bv own Z s own' Z' s') (hb : ∀ i, i ∈ bv → i ∈ bv') : Step y bv' own Z s own' Z' s' := { x with bind := fun i l v n hl r => x.bind i l v (fun q => n (hb i q)) hl r }

theorem Inv.nwr (I : Inv B y own Z h fr) {a : Addr} (z : Z a) : ¬ y.wr own a := by
  rintro (w | w | ⟨i, l, hl, rfl⟩)
  · exact w (I.zo a z)
  · exact I.zL (w ▸ z)
  · exact I.zl i l hl z
theorem Inv.keepZ (I : Inv B y own Z s.heap fr) (x : Ext (y.wr own) y.F s.heap h') (a : Addr) (o : Obj) (z : Z a) (e : s.heap.get? a = some o) : h'.get? a = some o := x.keep a o e (I.nwr z) (I.zF a z)
theorem Step.rep (x : Step y bv own Z s own' Z' s') (I : Inv B y own Z s.heap fr) {v : Value} {d : D} (r : Rep s.heap Z v d) : Rep s'.heap Z' v d := r.mono (I.keepZ x.ext) x.zm
theorem Step.repAll (x : Step y bv own Z s own' Z' s') (I : Inv B y own Z s.heap fr) {vs : List Value} {ds : List D} (r : RepAll s.heap Z vs ds) : RepAll s'.heap Z' vs ds := r.mono (I.keepZ x.ext) x.zm

noncomputable def RvAt (y : Lay) (own : Addr → Option Nat) (Z : Addr → Prop) (h₀ h : Heap) : Rv → Value → Prop
  | .fz d, v => Rep h Z v d
  | .own d, v => ∃ a, v = .ref a ∧ h₀.get? a = none ∧ ¬ y.wr own a ∧ ¬ y.F a ∧ ¬ Z a ∧ OwnAt h Z a d
  | .pl (.var i), v => ∃ l, y.loc i = some l ∧ rdL h l v
  | .pl (.attr _ _), _ => False

noncomputable def plVars : Rv → List Nat
  | .pl (.var i) => [i]
  | .pl (.attr i _) => [i]
  | _ => []

theorem Step.rv {h₀ : Heap} (x : Step y bv own Z s own' Z' s') (I : Inv B y own Z s.heap fr) {v : Value} {r : Rv} (hb : ∀ i ∈ plVars r, i ∉ bv) (q : RvAt y own Z h₀ s.heap r v) : RvAt y own' Z' h₀ s'.heap r v := by
  cases r with
  | fz d => exact x.rep I q
  | own d =>
    obtain ⟨a, rfl, n0, nw, nf, nz, oa⟩ := q
    obtain ⟨o, ho⟩ := oa.live
    refine ⟨a, rfl, n0, fun w => ?_, nf, fun z => ?_, oa.mono (I.keepZ x.ext) x.zm fun o e => x.ext.keep a o e nw nf⟩
    · rcases wr_mono x.on a w with w | w
      · exact nw w
      · rw [w] at ho; cases ho
    · rcases x.zn a z with z | z | z
      · exact nz z
      · exact nw (.inl z)
      · rw [z] at ho; cases ho
  | pl p =>
    cases p with
    | var i => obtain ⟨l, hl, r⟩ := q; exact ⟨l, hl, x.bind i l v (hb i (by simp [plVars])) hl r⟩
    | attr i a => exact q.elim
theorem RvAt.since {h₀ h₁ h : Heap} (k : ∀ a, h₁.get? a = none → h₀.get? a = none) {v : Value} {r : Rv} (q : RvAt y own Z h₁ h r v) : RvAt y own Z h₀ h r v := by
  cases r with
  | fz d => exact q
  | own d => obtain ⟨a, e, n0, r⟩ := q; exact ⟨a, e, k a n0, r⟩
  | pl p => cases p <;> exact q
theorem Step.old (x : Step y bv own Z s own' Z' s') (a : Addr) (e : s'.heap.get? a = none) : s.heap.get? a = none := by
  cases q : s.heap.get? a with
  | none => rfl
  | some o => obtain ⟨o', e'⟩ := x.ext.live a o q; rw [e] at e'; cases e'
theorem Step.addZ (x : Step y bv own Z s own' Z' s') {a : Addr} (e : s.heap.get? a = none) : Step y bv own Z s own' (fun b => Z' b ∨ b = a) s' :=
  { x with
    zm := fun b z => .inl (x.zm b z)
    zn := fun b z => z.elim (x.zn b) fun q => .inr (.inr (q ▸ e)) }
end

section
variable {B : Heap} {y : Lay} {bv bv' : List Nat} {own own' own'' : Addr → Option Nat} {Z Z' Z'' : Addr → Prop} {s s' s'' : Shared} {h h' : Heap} {fr fr' : Frame}

theorem SlotV.mono {O O' : Addr → Prop} {sl : Slot} {v : Value} (hk : ∀ a o, Z a → h.get? a = some o → h'.get? a = some o) (hz : ∀ a, Z a → Z' a) (ho : ∀ a, O a → O' a) (hko : ∀ a o, O a → h.get? a = some o → h'.get? a = some o)
    (x : SlotV h Z O sl v) : SlotV h' Z' O' sl v := by
  cases sl with
  | no => trivial
  | fz d => exact Rep.mono hk hz x
  | own d => obtain ⟨a, rfl, oa, w⟩ := x; exact ⟨a, rfl, ho a oa, w.mono hk hz fun o e => hko a o oa e⟩
  | inst _ _ => exact x.elim
  | exc _ => obtain ⟨a, o, C, m, rfl, za, e, hc, zm, hn, hm⟩ := x; exact ⟨a, o, C, m, rfl, hz a za, hk a o za e, hc, hz _ zm, hn.at' fun o => hk _ o zm, hm⟩

theorem rdL.keeps {l : Loc} {v : Value} (k : ∀ o, h.get? l.addr = some o → h'.get? l.addr = some o) (x : rdL h l v) : rdL h' l v := by
  cases l with
  | dict a z => obtain ⟨m, hn, e⟩ := x; exact ⟨m, hn.at' k, e⟩
  | cell a => obtain ⟨o, ho, hd⟩ := x; exact ⟨o, k _ ho, hd⟩
theorem okL.keeps {l : Loc} (k : ∀ o, h.get? l.addr = some o → h'.get? l.addr = some o) (x : okL h l) : okL h' l := by
  cases l with
  | dict a z => obtain ⟨m, hn⟩ := x; exact ⟨m, hn.at' k⟩
  | cell a => obtain ⟨v, o, ho, hd⟩ := x; exact ⟨v, o, k _ ho, hd⟩
theorem okL.live {l : Loc} (x : okL h l) : ∃ o, h.get? l.addr = some o := by
  cases l with
  | dict a z => obtain ⟨m, o, _, _, ho, _⟩ := x; exact ⟨o, ho⟩
  | cell a => obtain ⟨v, o, ho, hd⟩ := x; exact ⟨o, ho⟩

theorem Inv.grow (I : Inv B y own Z h fr) (k : ∀ b o, h.get? b = some o → h'.get? b = some o) : Inv B y own Z h' fr where
  wf := I.wf
  base := fun a o e => k a o (I.base a o e)
  zb := I.zb
  zo := I.zo
  zl := I.zl
  ol := I.ol
  zL := I.zL
  oL := I.oL
  zF := I.zF
  oF := I.oF
  zlv := fun a z => let ⟨o, e⟩ := I.zlv a z; ⟨o, k a o e⟩
  olv := fun a z => let ⟨o, e⟩ := I.olv a z; ⟨o, k a o e⟩
  flv := fun a z => let ⟨o, e, q⟩ := I.flv a z; ⟨o, k a o e, q⟩
  ok := fun i l e => (I.ok i l e).keeps fun o => k _ o
  nsL := let ⟨m, hn⟩ := I.nsL; ⟨m, hn.keeps k⟩
  at' := fun i sl e n => let ⟨l, v, hl, r, q⟩ := I.at' i sl e n; ⟨l, v, hl, r.keeps fun o => k _ o, q.mono (fun a o _ => k a o) (fun _ z => z) (fun _ z => z) fun a o _ => k a o⟩

theorem Step.grow {tk : Nat} (k : ∀ b o, s.heap.get? b = some o → h'.get? b = some o) : Step y bv own Z s own Z { s with heap := h', toks := tk } where
  sh := ⟨_, _, rfl⟩
  ext := ⟨fun a o e _ _ => k a o e, fun a o e => ⟨o, k a o e⟩, fun a o _ e => ⟨o.slots, k a o e⟩⟩
  zm := fun _ z => z
  zn := fun _ z => .inl z
  on := fun _ _ e => .inl e
  bind := fun i l v _ _ r => r.keeps fun o => k _ o

theorem Inv.addZ (I : Inv B y own Z h fr) {a : Addr} {o : Obj} (nw : ¬ y.wr own a) (nf : ¬ y.F a) (e : h.get? a = some o) : Inv B y own (fun b => Z b ∨ b = a) h fr where
  wf := I.wf
  base := I.base
  zb := fun a o e => .inl (I.zb a o e)
  zo := fun b z => z.elim (I.zo b) fun q => by
    cases w : own b with
    | none => rfl
    | some i => exact absurd (.inl (by rw [← q, w]; exact fun n => by cases n)) nw
  zl := fun i l e z => z.elim (I.zl i l e) fun q => nw (.inr (.inr ⟨i, l, e, q⟩))
  ol := I.ol
  zL := fun z => z.elim I.zL fun q => nw (.inr (.inl q.symm))
  oL := I.oL
  zF := fun b z => z.elim (I.zF b) fun q => q ▸ nf
  oF := I.oF
  zlv := fun b z => z.elim (I.zlv b) fun q => ⟨o, q ▸ e⟩
  olv := I.olv
  flv := I.flv
  ok := I.ok
  nsL := I.nsL
  at' := fun i sl e n => let ⟨l, v, hl, r, q⟩ := I.at' i sl e n; ⟨l, v, hl, r, q.mono (fun _ _ _ e => e) (fun _ z => .inl z) (fun _ z => z) fun _ _ _ e => e⟩

theorem Inv.fresh (I : Inv B y own Z h fr) {a : Addr} (e : h.get? a = none) : ¬ y.wr own a ∧ ¬ y.F a ∧ ¬ Z a := by
  refine ⟨?_, fun f => ?_, fun z => ?_⟩
  · rintro (w | w | ⟨i, l, hl, rfl⟩)
    · obtain ⟨o, q⟩ := I.olv a w; rw [e] at q; cases q
    · obtain ⟨m, o, _, _, q, _⟩ := I.nsL; rw [← w, e] at q; cases q
    · obtain ⟨o, q⟩ := (I.ok i l hl).live; rw [e] at q; cases q
  · obtain ⟨o, q, _⟩ := I.flv a f; rw [e] at q; cases q
  · obtain ⟨o, q⟩ := I.zlv a z; rw [e] at q; cases q

theorem Step.growZ {tk : Nat} {a : Addr} (k : ∀ b o, s.heap.get? b = some o → h'.get? b = some o) (e : s.heap.get? a = none) : Step y bv own Z s own (fun b => Z b ∨ b = a) { s with heap := h', toks := tk } where
  sh := ⟨_, _, rfl⟩
  ext := ⟨fun a o e _ _ => k a o e, fun a o e => ⟨o, k a o e⟩, fun a o _ e => ⟨o.slots, k a o e⟩⟩
  zm := fun _ z => .inl z
  zn := fun b z => z.elim .inl fun q => .inr (.inr (q ▸ e))
  on := fun _ _ e => .inl e
  bind := fun i l v _ _ r => r.keeps fun o => k _ o

theorem Inv.growZ (I : Inv B y own Z h fr) {a : Addr} {o : Obj} (k : ∀ b o, h.get? b = some o → h'.get? b = some o) (e : h.get? a = none) (e' : h'.get? a = some o) : Inv B y own (fun b => Z b ∨ b = a) h' fr :=
  (I.grow k).addZ (I.fresh e).1 (I.fresh e).2.1 e'
end

section
variable {B : Heap} {y : Lay} {bv bv' : List Nat} {own own' own'' : Addr → Option Nat} {Z Z' Z'' : Addr → Prop} {s s' s'' : Shared} {h h' : Heap} {fr fr' : Frame}

theorem set_get {fr : Frame} {i j : Nat} {sl sl' : Slot} (e : (fr.set i sl)[j]? = some sl') : (j = i ∧ sl' = sl) ∨ (j ≠ i ∧ fr[j]? = some sl') := by
  rw [List.getElem?_set] at e
  split at e
  · rename_i q
    split at e
    · exact .inl ⟨q.symm, (Option.some.inj e).symm⟩
    · cases e
  · rename_i q; exact .inr ⟨fun w => q w.symm, e⟩

theorem Inv.forget (I : Inv B y own Z h fr) (i : Nat) : Inv B y own Z h (fr.set i .no) :=
  { I with
    at' := by
      intro j sl e n
      rcases set_get e with ⟨rfl, rfl⟩ | ⟨_, e⟩
      · exact absurd rfl n
      · exact I.at' j sl e n }
theorem Inv.clr (I : Inv B y own Z h fr) : ∀ l : List Nat, Inv B y own Z h (clr fr l) := by
  intro l
  induction l generalizing fr with
  | nil => exact I
  | cons i l ih => exact ih (I.forget i)

noncomputable def dropO (own : Addr → Option Nat) (a : Addr) : Addr → Option Nat := fun b => if b = a then none else own b
noncomputable def addO (own : Addr → Option Nat) (a : Addr) (i : Nat) : Addr → Option Nat := fun b => if b = a then some i else own b

theorem dropO_some {a b : Addr} {j : Nat} (e : dropO own a b = some j) : own b = some j ∧ b ≠ a := by
  unfold dropO at e; split at e
  · cases e
  · rename_i q; exact ⟨e, q⟩
theorem dropO_ne {a b : Addr} (e : dropO own a b ≠ none) : own b ≠ none ∧ b ≠ a := by
  unfold dropO at e; split at e
  · exact absurd rfl e
  · rename_i q; exact ⟨e, q⟩

theorem Inv.freeze (I : Inv B y own Z h fr) {i : Nat} {d : D} (hs : fr[i]? = some (.own d)) :
    ∃ l a, y.loc i = some l ∧ rdL h l (.ref a) ∧ own a = some i ∧ Rep h (fun b => Z b ∨ b = a) (.ref a) d ∧ Inv B y (dropO own a) (fun b => Z b ∨ b = a) h (fr.set i (.fz d)) := by
  obtain ⟨l, v, hl, hr, a, rfl, oa, w⟩ := I.at' i _ hs (by intro n; cases n)
  have on : own a ≠ none := by rw [oa]; exact fun n => by cases n
  obtain ⟨o, ho⟩ := w.live
  have R : Rep h (fun b => Z b ∨ b = a) (.ref a) d := w.rep (fun _ z => .inl z) (.inr rfl)
  refine ⟨l, a, hl, hr, oa, R, ⟨I.wf, I.base, fun b o e => .inl (I.zb b o e), fun b z => ?_, fun j k e z => ?_, fun j k e => ?_, fun z => ?_, ?_, fun b z => ?_, fun b z => I.oF b (dropO_ne z).1, fun b z => z.elim (I.zlv b) fun q => ⟨o, q ▸ ho⟩, fun b z => I.olv b (dropO_ne z).1, I.flv, I.ok, I.nsL, fun j sl e n => ?_⟩⟩
  · unfold dropO; split
    · rfl
    · exact z.elim (I.zo b) fun q => absurd q ‹_›
  · exact z.elim (I.zl j k e) fun q => by have := I.ol j k e; rw [q, oa] at this; cases this
  · unfold dropO; split
    · rfl
    · exact I.ol j k e
  · exact z.elim I.zL fun q => by have := I.oL; rw [q, oa] at this; cases this
  · unfold dropO; split
    · rfl
    · exact I.oL
  · exact z.elim (I.zF b) fun q => q ▸ I.oF a on
  · rcases set_get e with ⟨rfl, rfl⟩ | ⟨hne, e⟩
    · exact ⟨l, .ref a, hl, hr, R⟩
    · obtain ⟨k, v, hk, r, q⟩ := I.at' j sl e n
      refine ⟨k, v, hk, r, q.mono (fun _ _ _ e => e) (fun _ z => .inl z) (fun b z => ?_) fun _ _ _ e => e⟩
      show dropO own a b = some j
      unfold dropO; split
      · rename_i w'; rw [w', oa] at z; exact absurd (Option.some.inj z).symm hne
      · exact z
theorem Step.freeze {a : Addr} {i : Nat} (oa : own a = some i) : Step y bv own Z s (dropO own a) (fun b => Z b ∨ b = a) s where
  sh := ⟨_, _, rfl⟩
  ext := .refl _ _ _
  zm := fun _ z => .inl z
  zn := fun b z => z.elim .inl fun q => .inr (.inl (by rw [q, oa]; exact fun n => by cases n))
  on := fun b j e => .inl (dropO_some e).1
  bind := fun _ _ _ _ _ r => r

theorem Inv.chg (I : Inv B y own Z h fr) {i : Nat} {l : Loc} (hl : y.loc i = some l) (hk : ∀ a o, a ≠ l.addr → h.get? a = some o → h'.get? a = some o)
    (ho : ∀ j k w, j ≠ i → y.loc j = some k → rdL h k w → rdL h' k w) (hok : ∀ j k, y.loc j = some k → okL h' k) (hns : ∃ m, h'.Ns y.L m) : Inv B y own Z h' (fr.set i .no) := by
  have kz : ∀ a o, Z a → h.get? a = some o → h'.get? a = some o := fun a o z e => hk a o (fun q => I.zl i l hl (q ▸ z)) e
  have ko : ∀ a o, own a ≠ none → h.get? a = some o → h'.get? a = some o := fun a o z e => hk a o (fun q => z (q ▸ I.ol i l hl)) e
  refine ⟨I.wf, fun a o e => kz a o (I.zb a o e) (I.base a o e), I.zb, I.zo, I.zl, I.ol, I.zL, I.oL, I.zF, I.oF, fun a z => ?_, fun a z => ?_, fun a f => ?_, hok, hns, fun j sl e n => ?_⟩
  · obtain ⟨o, e⟩ := I.zlv a z; exact ⟨o, kz a o z e⟩
  · obtain ⟨o, e⟩ := I.olv a z; exact ⟨o, ko a o z e⟩
  · obtain ⟨o, e, nr⟩ := I.flv a f
    exact ⟨o, hk a o (fun q => I.wf.nf i l hl (q ▸ f)) e, nr⟩
  · rcases set_get e with ⟨rfl, rfl⟩ | ⟨hne, e⟩
    · exact absurd rfl n
    · obtain ⟨k, w, hk', r, q⟩ := I.at' j sl e n
      exact ⟨k, w, hk', ho j k w hne hk' r, q.mono kz (fun _ z => z) (fun _ z => z) fun a o z => ko a o (by rw [z]; exact fun n => by cases n)⟩
theorem Inv.setSl {i : Nat} {l : Loc} {v : Value} {sl : Slot} (I : Inv B y own Z h' (fr.set i .no)) (hl : y.loc i = some l) (hr : rdL h' l v) (R : SlotV h' Z (fun a => own a = some i) sl v) : Inv B y own Z h' (fr.set i sl) := by
  refine { I with at' := fun j sl' e n => ?_ }
  rcases set_get e with ⟨rfl, rfl⟩ | ⟨hne, e⟩
  · exact ⟨l, v, hl, hr, R⟩
  · exact I.at' j sl' (by rw [List.getElem?_set_ne (Ne.symm hne)]; exact e) n
theorem Inv.setFz (I : Inv B y own Z h fr) {i : Nat} {l : Loc} {v : Value} {d : D} (hl : y.loc i = some l) (hk : ∀ a o, a ≠ l.addr → h.get? a = some o → h'.get? a = some o) (hlv : ∃ o, h'.get? l.addr = some o)
    (hr : rdL h' l v) (ho : ∀ j k w, j ≠ i → y.loc j = some k → rdL h k w → rdL h' k w) (hok : ∀ j k, y.loc j = some k → okL h' k) (hns : ∃ m, h'.Ns y.L m) (R : Rep h Z v d) : Inv B y own Z h' (fr.set i (.fz d)) :=
  (I.chg hl hk ho hok hns).setSl hl hr (show Rep h' Z v d from R.mono (fun a o z e => hk a o (fun q => I.zl i l hl (q ▸ z)) e) fun _ z => z)

theorem addO_self {a : Addr} {i : Nat} : addO own a i a = some i := by simp [addO]
theorem addO_ne {a b : Addr} {i : Nat} (q : b ≠ a) : addO own a i b = own b := by simp [addO, q]

theorem Inv.setOwn (I : Inv B y own Z h fr) {i : Nat} {l : Loc} {a : Addr} {d : D} (hl : y.loc i = some l) (hk : ∀ a o, a ≠ l.addr → h.get? a = some o → h'.get? a = some o)
    (hr : rdL h' l (.ref a)) (ho : ∀ j k w, j ≠ i → y.loc j = some k → rdL h k w → rdL h' k w) (hok : ∀ j k, y.loc j = some k → okL h' k) (hns : ∃ m, h'.Ns y.L m)
    (nw : ¬ y.wr own a) (nf : ¬ y.F a) (nz : ¬ Z a) (w : OwnAt h Z a d) : Inv B y (addO own a i) Z h' (fr.set i (.own d)) := by
  have kz : ∀ a o, Z a → h.get? a = some o → h'.get? a = some o := fun a o z e => hk a o (fun q => I.zl i l hl (q ▸ z)) e
  have ko : ∀ a o, own a ≠ none → h.get? a = some o → h'.get? a = some o := fun a o z e => hk a o (fun q => z (q ▸ I.ol i l hl)) e
  have ka : ∀ o, h.get? a = some o → h'.get? a = some o := fun o e => hk a o (fun q => nw (.inr (.inr ⟨i, l, hl, q.symm⟩))) e
  have na : own a = none := by
    cases e : own a with
    | none => rfl
    | some j => exact absurd (.inl (by rw [e]; exact fun n => by cases n)) nw
  have nl : ∀ j k, y.loc j = some k → k.addr ≠ a := fun j k e q => nw (.inr (.inr ⟨j, k, e, q⟩))
  obtain ⟨oa, hoa⟩ := w.live
  refine ⟨I.wf, fun a o e => kz a o (I.zb a o e) (I.base a o e), I.zb, fun b z => ?_, I.zl, fun j k e => ?_, I.zL, ?_, I.zF, fun b z => ?_, fun b z => ?_, fun b z => ?_, fun b f => ?_, hok, hns, fun j sl e n => ?_⟩
  · have q : b ≠ a := fun q => nz (q ▸ z)
    rw [addO_ne q]; exact I.zo b z
  · rw [addO_ne (nl j k e)]; exact I.ol j k e
  · have q : y.L ≠ a := fun q => nw (.inr (.inl q.symm))
    rw [addO_ne q]; exact I.oL
  · by_cases q : b = a
    · exact q ▸ nf
    · rw [addO_ne q] at z; exact I.oF b z
  · obtain ⟨o, e⟩ := I.zlv b z; exact ⟨o, kz b o z e⟩
  · by_cases q : b = a
    · exact ⟨oa, q ▸ ka oa hoa⟩
    · rw [addO_ne q] at z; obtain ⟨o, e⟩ := I.olv b z; exact ⟨o, ko b o z e⟩
  · obtain ⟨o, e, nr⟩ := I.flv b f
    exact ⟨o, hk b o (fun q => I.wf.nf i l hl (q ▸ f)) e, nr⟩
  · rcases set_get e with ⟨rfl, rfl⟩ | ⟨hne, e⟩
    · exact ⟨l, .ref a, hl, hr, a, rfl, addO_self, w.mono kz (fun _ z => z) ka⟩
    · obtain ⟨k, w, hk', r, q⟩ := I.at' j sl e n
      refine ⟨k, w, hk', ho j k w hne hk' r, q.mono kz (fun _ z => z) (fun b z => ?_) fun a o z => ko a o (by rw [z]; exact fun n => by cases n)⟩
      rw [addO_ne]
      · exact z
      · intro q; rw [q, na] at z; cases z

end
end Mv

end

section
set_option maxRecDepth 100000
set_option linter.unusedSectionVars false
set_option linter.unusedVariables false
namespace Mv
open PySem PyProof.Rows
variable [Hp]

noncomputable def Dat (h : Heap) (Z : Addr → Prop) (v : Value) (d : D) : Prop := Rep h Z v d ∨ ∃ a, v = .ref a ∧ OwnAt h Z a d

section
variable {h h' : Heap} {Z Z' : Addr → Prop} {v : Value}
theorem Rep.dat {d : D} (r : Rep h Z v d) : Dat h Z v d := .inl r
theorem Dat.none (r : Dat h Z v .none) : v = .none := by
  rcases r with r | ⟨a, _, r⟩
  · cases r; rfl
  · cases r
theorem Dat.bool {b : Bool} (r : Dat h Z v (.bool b)) : v = .bool b := by
  rcases r with r | ⟨a, _, r⟩
  · cases r; rfl
  · cases r
theorem Dat.int {i : Int} (r : Dat h Z v (.int i)) : ∃ t, v = .int i t := by
  rcases r with r | ⟨a, _, r⟩
  · cases r; exact ⟨_, rfl⟩
  · cases r
theorem Dat.str {x : Str} (r : Dat h Z v (.str x)) : ∃ t, v = .str x t ∧ PyData.strOk x = true ∧ x.cps.size ≤ Sz := by
  rcases r with r | ⟨a, _, r⟩
  · cases r; exact ⟨_, rfl, ‹_›, ‹_›⟩
  · cases r
theorem Dat.list {ds : List D} (r : Dat h Z v (.list ds)) : ∃ a vs n, v = .ref a ∧ IsL h a vs.toArray n ∧ vs.length ≤ Sz ∧ RepAll h Z vs ds := by
  rcases r with r | ⟨a, rfl, r⟩
  · cases r; exact ⟨_, _, _, rfl, ‹_›, ‹_›, ‹_›⟩
  · cases r; exact ⟨_, _, _, rfl, ‹_›, ‹_›, ‹_›⟩
theorem Dat.tuple {ds : List D} (r : Dat h Z v (.tuple ds)) : ∃ a vs n, v = .ref a ∧ IsT h a vs.toArray n ∧ vs.length ≤ Sz ∧ RepAll h Z vs ds ∧ Z a := by
  rcases r with r | ⟨a, rfl, r⟩
  · cases r; exact ⟨_, _, _, rfl, ‹_›, ‹_›, ‹_›, ‹_›⟩
  · cases r
theorem Dat.dict {ds : List (D × D)} (r : Dat h Z v (.dict ds)) : ∃ a kvs, v = .ref a ∧ DictS h a kvs ∧ kvs.length ≤ Sz ∧ RepKV h Z kvs ds := by
  rcases r with r | ⟨a, rfl, r⟩
  · cases r; exact ⟨_, _, rfl, ‹_›, ‹_›, ‹_›⟩
  · cases r; exact ⟨_, _, rfl, ‹_›, ‹_›, ‹_›⟩
theorem OwnAt.reads {a : Addr} {d : D} (x : OwnAt h Z a d) (e : noDict d = true) : ∃ as, Reads h (.ref a) d as := by
  cases x with
  | list g l r => obtain ⟨as, q⟩ := r.reads e; exact ⟨_, .list g rfl rfl (by simpa using q)⟩
  | dict g l r => cases e
theorem Dat.reads {d : D} (r : Dat h Z v d) (e : noDict d = true) : ∃ as, Reads h v d as := by
  rcases r with r | ⟨a, rfl, r⟩
  · exact r.reads e
  · exact r.reads e
theorem Dat.canLay {d : D} (r : Dat h Z v d) (e : noDict d = true) : d.canLay0 = true := by
  rcases r with r | ⟨a, rfl, r⟩
  · exact r.canLay e
  · cases r with
    | list g l r => rw [PyData.canLay0]; exact r.canLay (by simpa [noDict] using e)
    | dict g l r => cases e
end

theorem RepKV.isSome {h : Heap} {Z : Addr → Prop} {vs : List (Str × Value)} {ds : List (D × D)} {k : Str} (r : RepKV h Z vs ds) : (valueAt vs k).isSome = (dgetL ds k).isSome := by
  rcases r.get (k := k) with ⟨h1, h2⟩ | ⟨v, d, h1, h2, _⟩ <;> rw [h1, h2] <;> rfl
inductive ResAt (Z : Addr → Prop) (h h' : Heap) : Rv → Value → Prop
  | old {d : D} {v : Value} : Rep h' Z v d → ResAt Z h h' (.fz d) v
  | new {a : Addr} {o : Obj} {d : D} : h.get? a = none → h'.get? a = some o → Rep h' (fun b => Z b ∨ b = a) (.ref a) d → ResAt Z h h' (.fz d) (.ref a)
  | own {a : Addr} {d : D} : h.get? a = none → OwnAt h' Z a d → ResAt Z h h' (.own d) (.ref a)
inductive OpPost (Z : Addr → Prop) (s : Shared) (r : Rv) (v : Value) (s' : Shared) : Prop
  | mk (h' : Heap) (tk : Nat) : s' = { s with heap := h', toks := tk } → (∀ b o, s.heap.get? b = some o → h'.get? b = some o) → ResAt Z s.heap h' r v → OpPost Z s r v s'

theorem heap_size_none (h : Heap) : h.get? h.objs.size = none := by
  cases q : h.get? h.objs.size with
  | none => rfl
  | some o => exact absurd (Heap.lt_size q) (Nat.lt_irrefl _)
theorem push_keeps {h : Heap} (o : Obj) (b : Addr) (x : Obj) (e : h.get? b = some x) : (h.push o).get? b = some x := Heap.get?_push_of_some o e

section
variable {Z : Addr → Prop} {s : Shared}
theorem OpPost.val {d : D} {v : Value} (r : Rep s.heap Z v d) : OpPost Z s (.fz d) v s := ⟨s.heap, s.toks, rfl, fun _ _ e => e, .old r⟩
theorem OpPost.valT {d : D} {v : Value} {tk : Nat} (r : Rep s.heap Z v d) : OpPost Z s (.fz d) v { s with toks := tk } := ⟨s.heap, tk, rfl, fun _ _ e => e, .old r⟩
theorem OpPost.bool {b : Bool} : OpPost Z s (.fz (.bool b)) (.bool b) s := .val (.bool b)
theorem OpPost.int {i : Int} {t tk : Nat} : OpPost Z s (.fz (.int i)) (.int i t) { s with toks := tk } := .valT (.int i t)
theorem OpPost.newL {vs : List Value} {ds : List D} {n : Nat} (r : RepAll s.heap Z vs ds) (hl : vs.length ≤ Sz) : OpPost Z s (.own (.list ds)) (.ref s.heap.objs.size) { s with heap := s.heap.push { cls := .type "list", data := .seq vs.toArray n } } :=
  ⟨_, s.toks, rfl, push_keeps _, .own (heap_size_none _) (.list (Heap.get?_push_size _ rfl) hl (r.mono (fun a o _ e => push_keeps _ a o e) fun _ z => z))⟩
theorem OpPost.newT {vs : List Value} {ds : List D} {n : Nat} (r : RepAll s.heap Z vs ds) (hl : vs.length ≤ Sz) : OpPost Z s (.fz (.tuple ds)) (.ref s.heap.objs.size) { s with heap := s.heap.push { cls := .type "tuple", data := .seq vs.toArray n } } :=
  ⟨_, s.toks, rfl, push_keeps _, .new (heap_size_none _) (Heap.get?_push_size _ rfl) (.tuple (.inr rfl) (Heap.get?_push_size _ rfl) hl (r.mono (fun a o _ e => push_keeps _ a o e) fun _ z => .inl z))⟩
end

theorem sz_line : Sz = sizeLine := by decide

section
variable {A : Around} {E : Value → Shared → Prop} {s : Shared} {Z : Addr → Prop} {a b : Value}

theorem noFill_tuple_mul : fillsNumberSlot (.type "tuple") "mul" = pure false :=
  PySem.fillsNumberSlot_seq (id := "tuple.__mul__") (r := some (.builtin "tuple.__rmul__")) F.slot_tuple_mul.lookup (by decide +kernel) F.slot_tuple_rmul.lookup (by decide +kernel)
theorem repeat_tuple : seqRepeat? (.type "tuple") = pure (some (.builtin "tuple.__mul__")) := by
  unfold seqRepeat?
  rw [PySem.seqSlot_of (T := "tuple") (name := "__mul__") (id := "tuple.__mul__") F.slot_tuple_mul.lookup (by decide +kernel), PySem.seqSlot_of (T := "tuple") (name := "__rmul__") (id := "tuple.__rmul__") F.slot_tuple_rmul.lookup (by decide +kernel)]
  rfl
theorem tm_int_rmul (x : Int) (t : Tok) (l : Addr) (items : Array Value) (n : Nat) :
    Meets (Builtin.«int.__rmul__» ⟨[.int x t, .ref l], []⟩) (fun _ R s => IsT s.heap l items n ∧ R (.ok (.ret Value.notImplemented)) s) :=
  .of_wp fun prog w A R s h => by obtain ⟨hp, g, d, tk, os⟩ := s; obtain ⟨hl, h⟩ := h; wp_walk; exact ⟨_, rfl, h⟩

theorem tm_tuple_mul_same (l : Addr) (items : Array Value) (n : Nat) (x : Int) (u : Tok) (hlo : -(2 ^ 63 : Int) ≤ x) (hhi : x < 2 ^ 63) (hc : (items.isEmpty || x == 1) = true) :
    Meets (Builtin.«tuple.__mul__» ⟨[.ref l, .int x u], []⟩) (fun _ R s => IsT s.heap l items n ∧ R (.ok (.ret (.ref l))) s) :=
  .of_wp fun prog w A R s h => by
    obtain ⟨hp, g, d, tk, os⟩ := s; obtain ⟨hl, h⟩ := h
    wp_walk
    refine wpAny_ite_false (decide_eq_false (by simp; omega)) ?_
    wp_walk
    exact ⟨_, rfl, h⟩
theorem tm_tuple_mul_none (l : Addr) (items : Array Value) (n : Nat) (x : Int) (u : Tok) (hlo : -(2 ^ 63 : Int) ≤ x) (hx : x ≤ 0) (hc : ¬ (items.isEmpty || x == 1) = true) :
    Meets (Builtin.«tuple.__mul__» ⟨[.ref l, .int x u], []⟩) (fun _ R s => IsT s.heap l items n ∧ R (.ok (.ret (.ref s.heap.objs.size))) { s with heap := s.heap.push { cls := .type "tuple", data := .seq #[] } }) :=
  .of_wp fun prog w A R s h => by
    obtain ⟨hp, g, d, tk, os⟩ := s; obtain ⟨hl, h⟩ := h
    wp_walk
    refine wpAny_ite_false (decide_eq_false (by simp; omega)) ?_
    wp_walk
    exact ⟨_, rfl, h⟩
theorem tm_tuple_mul_more (l : Addr) (items : Array Value) (n : Nat) (x : Int) (u : Tok) (hx : 0 < x) (hhi : x ≤ 1000000000) (hc : ¬ (items.isEmpty || x == 1) = true) (hz : items.size * x.toNat ≤ Sz) :
    Meets (Builtin.«tuple.__mul__» ⟨[.ref l, .int x u], []⟩) (fun _ R s => IsT s.heap l items n ∧ R (.ok (.ret (.ref s.heap.objs.size))) { s with heap := s.heap.push { cls := .type "tuple", data := .seq (List.foldl (fun x1 x2 => x1 ++ x2) #[] (List.replicate x.toNat items)) } }) :=
  .of_wp fun prog w A R s h => by
    obtain ⟨hp, g, d, tk, os⟩ := s; obtain ⟨hl, h⟩ := h
    have he : (items.size : Int) * x = ((items.size * x.toNat : Nat) : Int) := by rw [Int.natCast_mul, Int.toNat_of_nonneg (by omega)]
    have hne : items.isEmpty = false := by
      cases q : items.isEmpty with
      | false => rfl
      | true => rw [q] at hc; exact absurd rfl hc
    have hsz : (List.foldl (fun x1 x2 => x1 ++ x2) #[] (List.replicate x.toNat items)).size ≤ sizeLine := by
      rw [AutoSeq1.size_joined, ← sz_line, Nat.mul_comm]; simpa using hz
    wp_walk
    refine wpAny_ite_false (decide_eq_false (by simp; omega)) ?_
    wp_walk
    refine wpAny_ite_false (decide_eq_false hc) ?_
    wp_walk
    refine wpAny_ite_false (decide_eq_false (by rw [he]; simp only [Sz] at hz; omega)) ?_
    wp_walk
    refine wpAny_ite_false (decide_eq_false (by rw [he]; unfold Builtin.Tuple.tupleTooMany; rw [← sz_line]; simp only [gt_iff_lt, decide_eq_true_eq, Int.not_lt]; exact Int.ofNat_le.mpr hz)) ?_
    wp_walk
    exact ⟨_, rfl, h⟩

theorem tm_fold (items : List Value) (k : Nat) : List.foldl (fun x1 x2 => x1 ++ x2) #[] (List.replicate k items.toArray) = (List.replicate k items).flatten.toArray := by
  have := listMul_foldl items.toArray k #[]
  simpa using this

theorem intBits_le {x : Int} (h : x.natAbs < 2 ^ 64) : Builtin.Int.intBits x ≤ 64 := by
  unfold Builtin.Int.intBits
  split
  · exact Nat.zero_le _
  · rename_i q
    have hx : x.natAbs ≠ 0 := by intro e; exact q (by simpa using e)
    exact (Nat.log2_lt hx).mpr h
theorem mulOk_fits {x z : Int} (h : mulOk x z = true) : IntMulOk x z := by
  rcases Bool.or_eq_true_iff.mp h with h | h
  · exact .of_left (intBits_le (of_decide_eq_true h))
  · exact .of_right (intBits_le (of_decide_eq_true h))

theorem strOk_append {x z : Str} (h : PyData.strOk x = true) (k : PyData.strOk z = true) : PyData.strOk (x ++ z) = true := by
  unfold PyData.strOk at *
  show (x.cps ++ z.cps).all _ = true
  rw [Array.all_append, h, k]; rfl

theorem rep_flat {α : Type} (n : Int) (xs : List α) : rep n xs = (List.replicate n.toNat xs).flatten := rfl
theorem rep_len {α : Type} (n : Int) (xs : List α) : (rep n xs).length = xs.length * n.toNat := by
  unfold rep; rw [List.length_flatten]; simp [Nat.mul_comm]
theorem txt_foldl (xs : List Nat) (k : Nat) (acc : List Nat) : (List.replicate k xs.toArray).foldl (· ++ ·) acc.toArray = (acc ++ (List.replicate k xs).flatten).toArray := by
  induction k generalizing acc with
  | zero => simp
  | succ k ih =>
    rw [List.replicate_succ, List.foldl_cons, List.append_toArray, ih, List.replicate_succ, List.flatten_cons, List.append_assoc]
theorem txt_mul (x : Str) (n : Int) : Txt.mul x n = ⟨(rep n x.cps.toList).toArray⟩ := by
  obtain ⟨⟨l⟩⟩ := x
  unfold Txt.mul rep
  split
  · rename_i h
    have e : n.toNat = 0 := by omega
    rw [e]; rfl
  · rename_i h
    split
    · rename_i q
      rcases Bool.or_eq_true_iff.mp q with q | q
      · have e : n = 1 := by simpa using q
        subst e; simp
      · have e : l = [] := by simpa [Str.length] using q
        subst e; simp
    · have := txt_foldl l n.toNat []
      simpa using congrArg Str.mk this
theorem strOk_rep {x : Str} (n : Int) (h : PyData.strOk x = true) : PyData.strOk ⟨(rep n x.cps.toList).toArray⟩ = true := by
  unfold PyData.strOk at *
  rw [← Array.all_toList] at *
  rw [List.all_eq_true] at *
  intro c hc
  have hc' : c ∈ rep n x.cps.toList := by simpa using hc
  unfold rep at hc'
  obtain ⟨l, hl, hm⟩ := List.mem_flatten.mp hc'
  rw [List.eq_of_mem_replicate hl] at hm
  exact h c hm
theorem noPylong {x z : Int} (h : z.natAbs < 2 ^ 64) : Builtin.divisionGoesByPylong x z = false := by
  unfold Builtin.divisionGoesByPylong
  have : (if (z == 0) = true then 0 else z.natAbs.log2 / 30 + 1) ≤ 300 := by
    split
    · exact Nat.zero_le _
    · rename_i q
      have hz : z.natAbs ≠ 0 := by intro e; exact q (by simpa using e)
      have := (Nat.log2_lt hz).mpr h
      omega
  simp only
  rw [decide_eq_false (by omega)]
  rfl

theorem mulI_some {a b : Int} {r : Rv} (h : mulI a b = some r) : mulOk a b = true ∧ .fz (.int (a * b)) = r := ifs h
theorem op_bin {o : Op2} {op : Operator} {d e : D} {r : Rv} (ho : op = (match o with | .add => .Add | .sub => .Sub | .mul => .Mult | .fdiv => .FloorDiv | .mod => .Mod | .pow => .Pow)) (he : op2 o d e = some r) (ra : Dat s.heap Z a d) (rb : Dat s.heap Z b e) :
    wpAny (model prog w) A (binaryOp op a b) (OpPost Z s r) E s := by
  subst ho
  cases o with
  | add =>
    cases d <;> cases e <;> first | exact nos he | skip
    · obtain ⟨t, rfl⟩ := ra.int; obtain ⟨u, rfl⟩ := rb.int
      obtain rfl := sos he
      exact add_int .int
    · obtain ⟨t, rfl, o1, z1⟩ := ra.str; obtain ⟨u, rfl, o2, z2⟩ := rb.str
      obtain ⟨hz, rfl⟩ := ifs he
      exact SB.add (fun t' k => .valT (.str _ t' (strOk_append o1 o2) (by show (_ ++ _ : Array Nat).size ≤ _; rw [Array.size_append]; exact hz))) (by rw [← sz_line]; exact hz)
    · obtain ⟨l, vs, n, rfl, hl, hn, R⟩ := ra.list; obtain ⟨l', vs', n', rfl, hl', hn', R'⟩ := rb.list
      obtain ⟨hz, rfl⟩ := ifs he
      refine P.add_list hl hl' ?_ (by rw [List.size_toArray, List.size_toArray, R.length, R'.length, ← sz_line]; exact hz)
      rw [List.append_toArray]
      exact .newL (R.append R') (by rw [List.length_append, R.length, R'.length]; exact hz)
    · obtain ⟨l, vs, n, rfl, hl, hn, R, zl⟩ := ra.tuple; obtain ⟨l', vs', n', rfl, hl', hn', R', zl'⟩ := rb.tuple
      obtain ⟨hz, rfl⟩ := ifs he
      by_cases hv : vs = []
      · subst hv; cases R
        exact concat_meets ⟨_, hl, rfl⟩ ⟨_, hl', rfl⟩ noFill_tuple_add seq_tuple_add PySem.F.slot_tuple_add PySem.F.entry_tuple_add (PySem.F.args_tuple_add_2 _ _)
          (AutoSeq1.tuple___add___tuple_tuple_0 l _ n l' vs'.toArray n' rfl) ⟨hl, hl', .val (.tuple zl' hl' hn' R')⟩
      · by_cases hw : vs' = []
        · subst hw; cases R'
          rw [List.append_nil]
          exact concat_meets ⟨_, hl, rfl⟩ ⟨_, hl', rfl⟩ noFill_tuple_add seq_tuple_add PySem.F.slot_tuple_add PySem.F.entry_tuple_add (PySem.F.args_tuple_add_2 _ _)
            (AutoSeq1.tuple___add___tuple_tuple_1 l vs.toArray n l' _ n' (by simpa using hv) rfl) ⟨hl, hl', .val (.tuple zl hl hn R)⟩
        · refine P.add_tuple hl hl' (by simpa using hv) (by simpa using hw) ?_ (by rw [List.size_toArray, List.size_toArray, R.length, R'.length, ← sz_line]; exact hz)
          rw [List.append_toArray]
          exact .newT (R.append R') (by rw [List.length_append, R.length, R'.length]; exact hz)
  | sub =>
    cases d <;> cases e <;> first | exact nos he | skip
    obtain ⟨t, rfl⟩ := ra.int; obtain ⟨u, rfl⟩ := rb.int
    obtain rfl := sos he
    exact sub_int .int
  | mul =>
    cases d <;> cases e <;> first | exact nos he | skip
    · obtain ⟨t, rfl⟩ := ra.int; obtain ⟨u, rfl⟩ := rb.int
      obtain ⟨hz, rfl⟩ := mulI_some he
      exact PyProof.Rows.mul_int .int (mulOk_fits hz)
    · obtain ⟨t, rfl, o1, z1⟩ := ra.str; obtain ⟨u, rfl⟩ := rb.int
      rename_i x n
      obtain ⟨hz, rfl⟩ := ifs he
      have hm : ¬ n < 1 → ((n.toNat : Nat) : Int) = n := fun q => Int.toNat_of_nonneg (by omega)
      refine SB.mul ⟨by simp; omega, fun q _ => ?_, fun q _ => ?_⟩ fun t' k => ?_
      · have h2 : (x.length : Int) * n ≤ 16777216 := by
          have : ((x.cps.size * n.toNat : Nat) : Int) ≤ ((16777216 : Nat) : Int) := Int.ofNat_le.mpr hz.2.2
          rw [Int.natCast_mul, hm q] at this; exact this
        have h3 : (x.length : Int) ≤ (2 ^ 63 - 1) / n := Int.le_ediv_of_mul_le (by omega) (by omega)
        omega
      · unfold Builtin.Str.tooLong
        have h2 : x.length * n.toNat ≤ 16777216 := hz.2.2
        rw [show sizeLine = 16777216 from rfl]
        simp; omega
      · rw [txt_mul]
        exact .valT (.str _ t' (strOk_rep n o1) (by show (rep n x.cps.toList).toArray.size ≤ _; rw [List.size_toArray, rep_len, Array.length_toList]; exact hz.2.2))
    · obtain ⟨l, vs, n, rfl, hl, hn, R⟩ := ra.list; obtain ⟨u, rfl⟩ := rb.int
      rename_i x
      obtain ⟨hz, rfl⟩ := ifs he
      have hz' : vs.toArray.size * x.toNat ≤ 2 ^ 24 := by rw [List.size_toArray, R.length]; exact hz.2.2
      refine wpAny_binaryOp_repeat_ref (T := "list") (U := "int") (by decide) ⟨_, hl, rfl⟩ (fun s' => typeIs_int s' x u) noFill_list_mul PySem.F.fills_int_mul PySem.F.slot_int_rmul repeat_list PySem.F.slot_int_index.lookup
        (call_meets PySem.F.slot_int_rmul (typeIs_int s x u) PySem.F.entry_int_rmul (PySem.F.args_int_rmul_2 _ _) (lm_int_rmul_list_any x u l vs.toArray n none #[])
          ⟨hl, rfl, ⟨_, hl, rfl⟩, call_meets PySem.F.slot_list_mul ⟨_, hl, rfl⟩ PySem.F.entry_list_mul (PySem.F.args_list_mul_2 _ _)
            (lm_list_mul_any l vs.toArray n none #[] x u (by simp [Builtin.List.listFitsIndex]; omega) (by omega) (by simp [Builtin.List.listTooLong, sizeLine]; omega))
            ⟨hl, ?_⟩⟩)
      rw [listMul_foldl_if]
      exact .newL (R.rep _) (by rw [List.length_flatten]; simp; rw [Nat.mul_comm, R.length]; exact hz.2.2)
    · obtain ⟨l, vs, n, rfl, hl, hn, R, zl⟩ := ra.tuple; obtain ⟨u, rfl⟩ := rb.int
      rename_i x
      obtain ⟨hz, rfl⟩ := ifs he
      refine wpAny_binaryOp_repeat_ref (T := "tuple") (U := "int") (by decide) ⟨_, hl, rfl⟩ (fun s' => typeIs_int s' x u) noFill_tuple_mul PySem.F.fills_int_mul PySem.F.slot_int_rmul repeat_tuple PySem.F.slot_int_index.lookup
        (call_meets PySem.F.slot_int_rmul (typeIs_int s x u) PySem.F.entry_int_rmul (PySem.F.args_int_rmul_2 _ _) (tm_int_rmul x u l vs.toArray n) ⟨hl, rfl, ⟨_, hl, rfl⟩, ?_⟩)
      by_cases hc : (vs.toArray.isEmpty || x == 1) = true
      · refine call_meets PySem.F.slot_tuple_mul ⟨_, hl, rfl⟩ PySem.F.entry_tuple_mul (PySem.F.args_tuple_mul_2 _ _) (tm_tuple_mul_same l vs.toArray n x u (by omega) (by omega) hc) ⟨hl, ?_⟩
        refine .val ?_
        rcases Bool.or_eq_true_iff.mp hc with q | q
        · have e : vs = [] := by simpa using q
          subst e; cases R
          rw [show rep x ([] : List D) = [] from by unfold rep; simp]
          exact .tuple zl hl hn .nil
        · have e : x = 1 := by simpa using q
          subst e
          rw [show rep 1 _ = _ from by unfold rep; simp; rfl]
          exact .tuple zl hl hn R
      · by_cases hx : x ≤ 0
        · refine call_meets PySem.F.slot_tuple_mul ⟨_, hl, rfl⟩ PySem.F.entry_tuple_mul (PySem.F.args_tuple_mul_2 _ _) (tm_tuple_mul_none l vs.toArray n x u (by omega) hx hc) ⟨hl, ?_⟩
          have e : x.toNat = 0 := by omega
          rw [rep_flat, e]
          exact .newT (vs := []) .nil (Nat.zero_le _)
        · refine call_meets PySem.F.slot_tuple_mul ⟨_, hl, rfl⟩ PySem.F.entry_tuple_mul (PySem.F.args_tuple_mul_2 _ _) (tm_tuple_mul_more l vs.toArray n x u (by omega) hz.2.1 hc (by rw [List.size_toArray, R.length]; exact hz.2.2)) ⟨hl, ?_⟩
          rw [tm_fold]
          exact .newT (R.rep _) (by rw [List.length_flatten]; simp; rw [Nat.mul_comm, R.length]; exact hz.2.2)
  | fdiv =>
    cases d <;> cases e <;> first | exact nos he | skip
    obtain ⟨t, rfl⟩ := ra.int; obtain ⟨u, rfl⟩ := rb.int
    obtain ⟨hz, rfl⟩ := ifs he
    exact floordiv_int hz.1 .int (.inl (noPylong hz.2))
  | mod =>
    cases d <;> cases e <;> first | exact nos he | skip
    obtain ⟨t, rfl⟩ := ra.int; obtain ⟨u, rfl⟩ := rb.int
    obtain ⟨hz, rfl⟩ := ifn he
    exact mod_int hz .int
  | pow =>
    cases d <;> cases e <;> first | exact nos he | skip
    obtain ⟨t, rfl⟩ := ra.int; obtain ⟨u, rfl⟩ := rb.int
    obtain ⟨hz, rfl⟩ := ifs he
    exact pow_int_small hz.1 (by omega) hz.2.2 .int

theorem str_eqv (x z : Str) : (x == z) = (x.cps.toList == z.cps.toList) := by
  obtain ⟨⟨l⟩⟩ := x; obtain ⟨⟨k⟩⟩ := z
  by_cases q : l = k
  · subst q; simp
  · have h1 : ((⟨⟨l⟩⟩ : Str) == ⟨⟨k⟩⟩) = false := by
      rw [beq_eq_false_iff_ne]; intro e; apply q; injection e with e; injection e
    rw [h1]; symm; simpa using q
theorem eqD_eqv {d e : D} {b : Bool} (h : eqD d e = some b) : b = PyData.eqv d e ∧ (noDict d = true ∧ noDict e = true ∧ min d.depth e.depth ≤ 64) := by
  unfold eqD at h
  split at h
  · cases h; exact ⟨by simp [PyData.eqv], by simp [noDict, PyData.depth]⟩
  · cases h; exact ⟨by rw [PyData.eqv, str_eqv], by simp [noDict, PyData.depth]⟩
  · cases h; exact ⟨by simp [PyData.eqv], by simp [noDict, PyData.depth]⟩
  · split at h <;> cases h
    rename_i q
    refine ⟨rfl, ?_⟩
    unfold eqOk at q
    simpa [Bool.and_eq_true, and_assoc] using q
theorem anyEq_eqv {x : D} : ∀ {ds : List D} {b : Bool}, anyEq x ds = some b → b = ds.any (fun y => PyData.eqv y x) ∧ noDicts ds = true ∧ min (PyData.depthAll ds) x.depth ≤ 64
  | [], b, h => by cases h; simp [noDicts, PyData.depthAll]
  | d :: ds, b, h => by
    unfold anyEq at h
    split at h
    · cases h
    · rename_i c hc
      split at h
      · cases h
      · rename_i c' hc'
        cases h
        obtain ⟨e1, e2, e3, e4⟩ := eqD_eqv hc
        obtain ⟨f1, f2, f3⟩ := anyEq_eqv hc'
        refine ⟨by rw [List.any_cons, e1, f1], by simp [noDicts, e2, f2], ?_⟩
        simp only [PyData.depthAll]; omega

theorem cmp_eq {d e : D} {b' : Bool} (he : eqD d e = some b') (ra : Dat s.heap Z a d) (rb : Dat s.heap Z b e) (hu : A.units + 64 < cLine) : wpAny (model prog w) A (compareOp .Eq a b) (OpPost Z s (.fz (.bool b'))) E s := by
  obtain ⟨rfl, h1, h2, h3⟩ := eqD_eqv he
  obtain ⟨as, qa⟩ := ra.reads h1; obtain ⟨bs, qb⟩ := rb.reads h2
  exact SeqAt.compareEq_reads qa qb (ra.canLay h1) (rb.canLay h2) (by omega) .bool
theorem cmp_ne {d e : D} {b' : Bool} (he : eqD d e = some b') (ra : Dat s.heap Z a d) (rb : Dat s.heap Z b e) (hu : A.units + 64 < cLine) : wpAny (model prog w) A (compareOp .NotEq a b) (OpPost Z s (.fz (.bool (!b')))) E s := by
  obtain ⟨rfl, h1, h2, h3⟩ := eqD_eqv he
  obtain ⟨as, qa⟩ := ra.reads h1; obtain ⟨bs, qb⟩ := rb.reads h2
  exact SeqAt.compareNe_reads qa qb (ra.canLay h1) (rb.canLay h2) (by omega) .bool
theorem str_one {t : Str} {c : Nat} (h : t.cps.toList = [c]) : t = ⟨#[c]⟩ := by
  obtain ⟨⟨l⟩⟩ := t
  simp only at h
  subst h; rfl
theorem contains_one (x : Str) (c : Nat) : (!(Builtin.Str.occurrences x ⟨#[c]⟩ 0 x.length 1).isEmpty) = x.cps.toList.contains c := by
  rw [StrLaws.found_one]
  by_cases q : c ∈ x.cps.toList
  · rw [decide_eq_true q]; exact (List.contains_iff_mem.mpr q).symm
  · rw [decide_eq_false q]; symm; rw [Bool.eq_false_iff]; exact fun z => q (List.contains_iff_mem.mp z)
theorem cmp_in {d e : D} {b' : Bool} (he : inD d e = some b') (ra : Dat s.heap Z a d) (rb : Dat s.heap Z b e) (hu : A.units + 66 < cLine) : wpAny (model prog w) A (compareOp .In a b) (OpPost Z s (.fz (.bool b'))) E s := by
  unfold inD at he
  split at he
  · split at he
    · rename_i xs hd
      obtain ⟨rfl, h1, h2⟩ := anyEq_eqv he
      obtain ⟨as, qa⟩ := ra.reads hd; obtain ⟨bs, qb⟩ := rb.reads h1
      have hc := rb.canLay (show noDict (.list xs) = true from by rw [noDict]; exact h1)
      rw [PyData.canLay0] at hc
      exact SeqAt.in_list_reads qb qa hc (ra.canLay hd) (by omega) .bool
    · cases he
  · split at he
    · rename_i xs hd
      obtain ⟨rfl, h1, h2⟩ := anyEq_eqv he
      obtain ⟨as, qa⟩ := ra.reads hd; obtain ⟨bs, qb⟩ := rb.reads h1
      have hc := rb.canLay (show noDict (.tuple xs) = true from by rw [noDict]; exact h1)
      rw [PyData.canLay0] at hc
      exact SeqAt.in_tuple_reads qb qa hc (ra.canLay hd) (by omega) .bool
    · cases he
  · split at he
    · split at he
      · rename_i x _ t c hc
        cases he
        obtain ⟨u, rfl, _, _⟩ := ra.str; obtain ⟨u', rfl, _, _⟩ := rb.str
        obtain rfl := str_one hc
        exact P.in_str (by rw [contains_one]; exact .bool)
      · cases he
    · cases he
  · split at he
    · rename_i kvs _ t
      cases he
      obtain ⟨u, rfl, _, _⟩ := ra.str; obtain ⟨l, kv, rfl, hd, hl, R⟩ := rb.dict
      refine wpAny_in_of (knd := strKind prog w) (strKind_is _ _ t u) hd.1 hd.2.mapOf ?_
      rw [R.isSome]; exact .valT (.bool _)
    · cases he
  · cases he
theorem cmp_notin {d e : D} {b' : Bool} (he : inD d e = some b') (ra : Dat s.heap Z a d) (rb : Dat s.heap Z b e) (hu : A.units + 66 < cLine) : wpAny (model prog w) A (compareOp .NotIn a b) (OpPost Z s (.fz (.bool (!b')))) E s := by
  unfold inD at he
  split at he
  · split at he
    · rename_i xs hd
      obtain ⟨rfl, h1, h2⟩ := anyEq_eqv he
      obtain ⟨as, qa⟩ := ra.reads hd; obtain ⟨bs, qb⟩ := rb.reads h1
      have hc := rb.canLay (show noDict (.list xs) = true from by rw [noDict]; exact h1)
      rw [PyData.canLay0] at hc
      exact SeqAt.notIn_list_reads qb qa hc (ra.canLay hd) (by omega) .bool
    · cases he
  · split at he
    · rename_i xs hd
      obtain ⟨rfl, h1, h2⟩ := anyEq_eqv he
      obtain ⟨as, qa⟩ := ra.reads hd; obtain ⟨bs, qb⟩ := rb.reads h1
      have hc := rb.canLay (show noDict (.tuple xs) = true from by rw [noDict]; exact h1)
      rw [PyData.canLay0] at hc
      exact SeqAt.notIn_tuple_reads qb qa hc (ra.canLay hd) (by omega) .bool
    · cases he
  · split at he
    · split at he
      · rename_i x _ t c hc
        cases he
        obtain ⟨u, rfl, _, _⟩ := ra.str; obtain ⟨u', rfl, _, _⟩ := rb.str
        obtain rfl := str_one hc
        exact SB.notContains (by unfold Txt.contains; rw [contains_one]; exact .bool)
      · cases he
    · cases he
  · split at he
    · rename_i kvs _ t
      cases he
      obtain ⟨u, rfl, _, _⟩ := ra.str; obtain ⟨l, kv, rfl, hd, hl, R⟩ := rb.dict
      refine wpAny_notIn_of (knd := strKind prog w) (strKind_is _ _ t u) hd.1 hd.2.mapOf ?_
      rw [R.isSome]; exact .valT (.bool _)
    · cases he
  · cases he
theorem cmp_is {d e : D} {b' : Bool} (he : isD d e = some b') (ra : Dat s.heap Z a d) (rb : Dat s.heap Z b e) : plainIs a b = true ∧ (a == b) = b' := by
  cases e with
  | none =>
    obtain rfl := rb.none
    cases d with
    | none => obtain rfl := ra.none; obtain rfl := sos he; exact ⟨rfl, rfl⟩
    | bool p => obtain rfl := ra.bool; obtain rfl := sos he; exact ⟨rfl, rfl⟩
    | int i => obtain ⟨t, rfl⟩ := ra.int; obtain rfl := sos he; exact ⟨rfl, rfl⟩
    | str x => obtain ⟨t, rfl, _⟩ := ra.str; obtain rfl := sos he; exact ⟨rfl, rfl⟩
    | list x => obtain ⟨t, _, _, rfl, _⟩ := ra.list; obtain rfl := sos he; exact ⟨rfl, rfl⟩
    | tuple x => obtain ⟨t, _, _, rfl, _⟩ := ra.tuple; obtain rfl := sos he; exact ⟨rfl, rfl⟩
    | dict x => exact nos he
  | bool q =>
    obtain rfl := rb.bool
    cases d with
    | none => obtain rfl := ra.none; obtain rfl := sos he; exact ⟨rfl, rfl⟩
    | bool p => obtain rfl := ra.bool; obtain rfl := sos he; exact ⟨rfl, by cases p <;> cases q <;> rfl⟩
    | int i => obtain ⟨t, rfl⟩ := ra.int; obtain rfl := sos he; exact ⟨rfl, rfl⟩
    | str x => obtain ⟨t, rfl, _⟩ := ra.str; obtain rfl := sos he; exact ⟨rfl, rfl⟩
    | list x => obtain ⟨t, _, _, rfl, _⟩ := ra.list; obtain rfl := sos he; exact ⟨rfl, rfl⟩
    | tuple x => obtain ⟨t, _, _, rfl, _⟩ := ra.tuple; obtain rfl := sos he; exact ⟨rfl, rfl⟩
    | dict x => exact nos he
  | int i => cases d <;> exact nos he
  | str i => cases d <;> exact nos he
  | list i => cases d <;> exact nos he
  | tuple i => cases d <;> exact nos he
  | dict i => cases d <;> exact nos he

noncomputable def cmOp : Cm → CmpOp
  | .eq => .Eq | .ne => .NotEq | .lt => .Lt | .le => .LtE | .gt => .Gt | .ge => .GtE | .isin => .In | .notin => .NotIn | .is => .Is | .isnot => .IsNot
theorem op_cmp {o : Cm} {d e : D} {b' : Bool} (he : cmpD o d e = some b') (ra : Dat s.heap Z a d) (rb : Dat s.heap Z b e) (hu : A.units + 66 < cLine) :
    wpAny (model prog w) A (compareOp (cmOp o) a b) (OpPost Z s (.fz (.bool b'))) E s := by
  cases o with
  | eq => exact cmp_eq he ra rb (by omega)
  | ne =>
    obtain ⟨c, hc, rfl⟩ := Option.map_eq_some_iff.mp he
    exact cmp_ne hc ra rb (by omega)
  | lt =>
    unfold cmpD ltD at he; dsimp only at he; split at he <;> cases he
    obtain ⟨t, rfl⟩ := ra.int; obtain ⟨u, rfl⟩ := rb.int; exact lt_int .bool
  | le =>
    unfold cmpD leD at he; dsimp only at he; split at he <;> cases he
    obtain ⟨t, rfl⟩ := ra.int; obtain ⟨u, rfl⟩ := rb.int; exact PyProof.Rows.le_int .bool
  | gt =>
    unfold cmpD ltD at he; dsimp only at he; split at he <;> cases he
    obtain ⟨t, rfl⟩ := ra.int; obtain ⟨u, rfl⟩ := rb.int; exact gt_int .bool
  | ge =>
    unfold cmpD leD at he; dsimp only at he; split at he <;> cases he
    obtain ⟨t, rfl⟩ := ra.int; obtain ⟨u, rfl⟩ := rb.int; exact PyProof.Rows.ge_int .bool
  | isin => exact cmp_in he ra rb hu
  | notin =>
    obtain ⟨c, hc, rfl⟩ := Option.map_eq_some_iff.mp he
    exact cmp_notin hc ra rb hu
  | is =>
    obtain ⟨h1, h2⟩ := cmp_is he ra rb
    exact wpAny_is_plain h1 (by rw [h2]; exact .bool)
  | isnot =>
    obtain ⟨c, hc, rfl⟩ := Option.map_eq_some_iff.mp he
    obtain ⟨h1, h2⟩ := cmp_is hc ra rb
    exact wpAny_isNot_plain h1 (by rw [h2]; exact .bool)
end
end Mv

end

section
set_option maxRecDepth 100000
set_option linter.unusedSectionVars false
set_option linter.unusedVariables false
namespace Mv
open PySem PyProof.Rows
variable [Hp]

section
variable {A : Around} {E : Value → Shared → Prop} {s : Shared} {Z : Addr → Prop} {a b : Value}

theorem op_truth {d : D} (ra : Dat s.heap Z a d) {Q : Bool → Shared → Prop} (h : ∀ tk, Q (truthD d) { s with toks := tk }) : wpAny (model prog w) A (truthy a) Q E s := by
  cases d with
  | none => obtain rfl := ra.none; exact fun _ _ _ => h s.toks
  | bool b => obtain rfl := ra.bool; exact wpAny_truthy_bool (h s.toks)
  | int i => obtain ⟨t, rfl⟩ := ra.int; exact PyProof.Rows.truthy_int (h s.toks)
  | str x =>
    obtain ⟨t, rfl, _, hz⟩ := ra.str
    have hz' : x.length ≤ 16777216 := hz
    refine P.truthy_str (by omega) ?_
    have e : ((x.length : Int) != 0) = truthD (.str x) := by
      show _ = (x.cps.size != 0)
      show ((x.cps.size : Int) != 0) = _
      cases x.cps.size with
      | zero => rfl
      | succ n => rfl
    rw [e]; exact h _
  | list ds =>
    obtain ⟨l, vs, n, rfl, hl, hn, R⟩ := ra.list
    refine wpAny_truthy_list hl.isList (by rw [List.size_toArray]; simp only [Sz] at hn; omega) ?_
    have e : (!vs.toArray.isEmpty) = truthD (.list ds) := by
      cases R <;> rfl
    rw [e]; exact h _
  | tuple ds =>
    obtain ⟨l, vs, n, rfl, hl, hn, R, _⟩ := ra.tuple
    refine truthy_tuple ⟨_, hl, rfl, _, rfl⟩ (by rw [List.size_toArray]; simp only [Sz] at hn; omega) ?_
    have e : (!vs.toArray.isEmpty) = truthD (.tuple ds) := by
      cases R <;> rfl
    rw [e]; exact h _
  | dict kvs =>
    obtain ⟨l, kv, rfl, hd, hn, R⟩ := ra.dict
    refine wpAny_truthy_dict (knd := strKind prog w) hd.1 hd.2 (by simp only [Sz] at hn; omega) ?_
    have e : (!kv.isEmpty) = truthD (.dict kvs) := by cases R <;> rfl
    rw [e]; exact h _

theorem op_not {d : D} (ra : Dat s.heap Z a d) : wpAny (model prog w) A (unaryOp .Not a) (OpPost Z s (.fz (.bool (!truthD d)))) E s :=
  not_of (op_truth ra fun tk => .valT (.bool _))
theorem op_neg {d e : D} (he : negD d = some e) (ra : Dat s.heap Z a d) : wpAny (model prog w) A (unaryOp .USub a) (OpPost Z s (.fz e)) E s := by
  unfold negD at he
  split at he <;> cases he
  obtain ⟨t, rfl⟩ := ra.int
  exact PyProof.Rows.neg_int .int

theorem seqIndex_of {α : Type} {xs : List α} {i : Int} {x : α} (h : idxOf xs i = some x) : ∃ k, seqIndex? i xs.length = some k ∧ xs[k]? = some x := by
  unfold idxOf at h
  unfold seqIndex?
  split at h
  · rename_i q
    have hk := (List.getElem?_eq_some_iff.mp h).1
    refine ⟨i.toNat, ?_, h⟩
    have e : (if i < 0 then i + (xs.length : Int) else i) = i := if_neg (by omega)
    simp only [e]
    rw [if_pos (by simp; omega)]
  · split at h
    · rename_i q1 q2
      have hk := (List.getElem?_eq_some_iff.mp h).1
      refine ⟨(i + xs.length).toNat, ?_, h⟩
      have e : (if i < 0 then i + (xs.length : Int) else i) = i + xs.length := if_pos (by omega)
      simp only [e]
      rw [if_pos (by simp; omega)]
    · cases h
theorem idx_bound {α : Type} {xs : List α} {i : Int} {x : α} (h : idxOf xs i = some x) (hz : xs.length ≤ Sz) : -(2 ^ 63 : Int) ≤ i ∧ i < 2 ^ 63 := by
  unfold idxOf at h
  simp only [Sz] at hz
  split at h
  · have := (List.getElem?_eq_some_iff.mp h).1; omega
  · split at h
    · omega
    · cases h

theorem op_getItem {d e r : D} (he : idxD d e = some r) (ra : Dat s.heap Z a d) (rb : Dat s.heap Z b e) :
    ∃ T id, s.TypeIs a T ∧ typeLookup (.type T) "__getitem__" = pure (some (.builtin id)) ∧ wpAny (model prog w) A (getItem a b) (OpPost Z s (.fz r)) E s := by
  unfold idxD at he
  split at he
  · rename_i ds i
    obtain ⟨l, vs, n, rfl, hl, hn, R⟩ := ra.list; obtain ⟨t, rfl⟩ := rb.int
    refine ⟨_, _, ⟨_, hl, rfl⟩, slot_list_getitem.lookup, ?_⟩
    have hb := idx_bound he (by rw [← R.length]; exact hn)
    unfold idxOf at he
    split at he
    · obtain ⟨v, hv, rv⟩ := R.get he
      exact wpAny_getItem_list hl.isList (by assumption) hb.2 (by simpa using hv) (.val rv)
    · split at he
      · obtain ⟨v, hv, rv⟩ := R.get he
        exact wpAny_getItem_list_neg hl.isList (by omega) (by rw [List.size_toArray, R.length]; omega) hb.1 (by rw [List.size_toArray, R.length]; simpa using hv) (.val rv)
      · cases he
  · rename_i ds i
    obtain ⟨l, vs, n, rfl, hl, hn, R, zl⟩ := ra.tuple; obtain ⟨t, rfl⟩ := rb.int
    refine ⟨_, _, ⟨_, hl, rfl⟩, slot_tuple_getitem.lookup, ?_⟩
    have hb := idx_bound he (by rw [← R.length]; exact hn)
    obtain ⟨k, hk, hx⟩ := seqIndex_of he
    obtain ⟨v, hv, rv⟩ := R.get hx
    exact P.getItem_tuple hl hb.1 hb.2 (by rw [List.size_toArray, R.length]; exact hk) (by simpa using hv) (.val rv)
  · rename_i x i
    obtain ⟨c, hc, rfl⟩ := Option.map_eq_some_iff.mp he
    obtain ⟨t, rfl, ho, hz⟩ := ra.str; obtain ⟨u, rfl⟩ := rb.int
    have hb := idx_bound hc (by rw [Array.length_toList]; exact hz)
    obtain ⟨k, hk, hx⟩ := seqIndex_of hc
    have hat : Txt.charAt x i = some c := by
      unfold Txt.charAt
      rw [show seqIndex? i x.length = some k from by rw [Array.length_toList] at hk; exact hk]
      show x.cps[k]? = some c
      rw [← Array.getElem?_toList]; exact hx
    refine ⟨_, _, rfl, slot_str_getitem.lookup, SB.getItem (by show (!(decide (i < -(2 ^ 63 : Int)) || decide (i ≥ 2 ^ 63))) = true; simp; omega) (by rw [hat]; rfl) ?_⟩
    have e : Txt.item x i = ⟨#[c]⟩ := by unfold Txt.item; rw [hat]; rfl
    rw [e]
    refine .valT (.str _ _ ?_ (by show 1 ≤ 16777216; omega))
    unfold PyData.strOk at ho ⊢
    rw [← Array.all_toList, List.all_eq_true] at ho
    have hm : c ∈ x.cps.toList := List.mem_of_getElem? hx
    simpa using ho c hm
  · rename_i kvs k
    obtain ⟨l, kv, rfl, hd, hn, R⟩ := ra.dict; obtain ⟨t, rfl, _, _⟩ := rb.str
    rcases R.get (k := k) with ⟨h1, h2⟩ | ⟨v, d', h1, h2, rv⟩
    · rw [h1] at he; exact nos he
    · rw [h1] at he; obtain rfl := sos he
      exact ⟨_, _, hd.2.typeIs, slot_dict_getitem.lookup, wpAny_getItem_of (knd := strKind prog w) (strKind_is _ _ k t) hd.2.mapOf h2 (.valT rv)⟩
  · cases he

theorem clamp_clip (n : Nat) (i : Int) : clampI n i = clipAt n i := rfl
theorem lo_part {v : Value} {d : D} {n l : Nat} (r : Dat s.heap Z v d) (h : loOf n d = some l) : ∃ k : Option Int, IsPart v k ∧ l = k.elim 0 (clipAt n) := by
  unfold loOf at h
  split at h <;> cases h
  · obtain rfl := r.none; exact ⟨none, .none, rfl⟩
  · obtain ⟨t, rfl⟩ := r.int; exact ⟨some _, .int _ t, clamp_clip _ _⟩
theorem hi_part {v : Value} {d : D} {n l : Nat} (r : Dat s.heap Z v d) (h : hiOf n d = some l) : ∃ k : Option Int, IsPart v k ∧ l = k.elim n (clipAt n) := by
  unfold hiOf at h
  split at h <;> cases h
  · obtain rfl := r.none; exact ⟨none, .none, rfl⟩
  · obtain ⟨t, rfl⟩ := r.int; exact ⟨some _, .int _ t, clamp_clip _ _⟩

theorem part_slice {v : Value} {k : Option Int} {Q : Option Int → Shared → Prop} (p : IsPart v k) (h : Q k s) : wpAny (model prog w) A (Builtin.Slice.slicePartIndex v) Q E s := by
  cases p with
  | none => exact slicePart_none h
  | int i t => exact slicePart_int h
theorem adjust_gen (lo hi : Option Int) (n : Nat) : Builtin.Slice.sliceAdjust lo hi 1 (n : Int) = (((lo.elim 0 (clipAt n) : Nat) : Int), ((hi.elim n (clipAt n) : Nat) : Int)) := by
  unfold Builtin.Slice.sliceAdjust
  have h1 : ¬ ((1 : Int) < 0) := by omega
  simp only [h1, if_false]
  congr 1
  · cases lo with
    | none => rfl
    | some i => simp only [Option.elim]; rw [clipAt_cast]; split <;> omega
  · cases hi with
    | none => rfl
    | some i => simp only [Option.elim]; rw [clipAt_cast]; split <;> omega
theorem places_gen (a b : Nat) : Builtin.Slice.slicePlaces (a : Int) (b : Int) 1 = b - a := by
  unfold Builtin.Slice.slicePlaces
  have h1 : (1 : Int) > 0 := by omega
  simp only [h1, if_true, Int.ediv_one]
  split <;> omega
theorem sliceApplied_gen {sl : Addr} {n : Nat} {vl vu : Value} {lo hi : Option Int} {Q : Int × Int × Nat → Shared → Prop} (hs : s.heap.IsSliceOf sl vl vu .none) (pl : IsPart vl lo) (pu : IsPart vu hi)
    (h : Q (((lo.elim 0 (clipAt n) : Nat) : Int), 1, hi.elim n (clipAt n) - lo.elim 0 (clipAt n)) s) : wpAny (model prog w) A (Builtin.Slice.sliceApplied (.ref sl) (pure (n : Int))) Q E s := by
  obtain ⟨os, hos, hcs, hds⟩ := id hs
  unfold Builtin.Slice.sliceApplied Builtin.Slice.sliceFields
  refine wpAny_bind (wpAny_bind (wpAny_field hos hds (x := vl) rfl (wpAny_bind (wpAny_field hos hds (x := vu) rfl (wpAny_bind (wpAny_field hos hds (x := .none) rfl (wpAny_pure ?_)))))))
  refine wpAny_bind (slicePart_none ?_)
  show wpAny _ _ (if ((1 : Int) == 0) = true then _ else _) _ _ s
  rw [if_neg (by decide)]
  refine wpAny_bind (part_slice pl (wpAny_bind (part_slice pu (wpAny_bind (wpAny_pure ?_)))))
  show wpAny _ _ (match Builtin.Slice.sliceAdjust lo hi 1 (n : Int) with | (lo, hi) => pure (lo, (1 : Int), Builtin.Slice.slicePlaces lo hi 1)) _ _ s
  rw [adjust_gen]
  show wpAny _ _ (pure (_, (1 : Int), Builtin.Slice.slicePlaces _ _ 1)) _ _ s
  rw [places_gen]
  exact wpAny_pure h
theorem pick_gen (xs : Array Value) (a k : Nat) : ((List.range k).filterMap fun (j : Nat) => xs[((a : Int) + (j : Int) * 1).toNat]?).toArray = ((xs.toList.drop a).take k).toArray := by
  have e : (fun (j : Nat) => xs[((a : Int) + (j : Int) * 1).toNat]?) = fun j => xs[a + j]? := by
    funext j
    have : ((a : Int) + (j : Int) * 1).toNat = a + j := by omega
    rw [this]
  rw [e]
  have := pick_run xs a k
  rw [List.filterMap_map] at this
  exact congrArg List.toArray this
theorem getItem_tuple_slice {t sl : Addr} {items : Array Value} {vl vu : Value} {lo hi : Option Int} {Q : Value → Shared → Prop} (ht : IsTup s.heap t items) (hs : s.heap.IsSliceOf sl vl vu .none) (pl : IsPart vl lo) (pu : IsPart vu hi)
    (h0 : lo.elim 0 (clipAt items.size) = 0 → hi.elim items.size (clipAt items.size) = items.size → Q (.ref t) s)
    (h : Q (.ref s.heap.objs.size) { s with heap := s.heap.push { cls := .type "tuple", data := .seq ((items.toList.drop (lo.elim 0 (clipAt items.size))).take (hi.elim items.size (clipAt items.size) - lo.elim 0 (clipAt items.size))).toArray } })
    (hsz : items.size ≤ sizeLine) : wpAny (model prog w) A (getItem (.ref t) (.ref sl)) Q E s := by
  have hdrop : sizeOk (.seq ((items.toList.drop (lo.elim 0 (clipAt items.size))).take (hi.elim items.size (clipAt items.size) - lo.elim 0 (clipAt items.size))).toArray) := by
    show _ ≤ sizeLine
    rw [List.size_toArray, List.length_take, List.length_drop, Array.length_toList]
    omega
  obtain ⟨os, hos, hcs, hds⟩ := id hs
  have hTs : s.TypeIs (.ref sl) "slice" := ⟨os, hos, hcs⟩
  unfold getItem
  try with_reducible refine wpAny_holding ?_
  first | refine wpAny_bind (wpAny_pure ?_) | skip
  refine wpAny_bind (wpAny_sequenceKey ht.typeIs (by decide) ?_)
  refine wpAny_bind (wpAny_callSpecial?_slot (name := Str.ofString "__getitem__") ht.typeIs slot_tuple_getitem
    (wpAny_call_entry slot_tuple_getitem ht.typeIs entry_tuple_getitem ?_ (args_tuple_getitem _ _)))
  show wpAny _ _ (Builtin.Tuple.tupleItemsOf (.ref t) >>= _) _ _ s
  refine wpAny_bind (tupleItemsOf_ ht ?_)
  refine wpAny_bind (wpAny_typeOf hTs ?_)
  rw [if_pos (by decide)]
  refine wpAny_bind (sliceApplied_gen hs pl pu ?_)
  generalize hlo : lo.elim 0 (clipAt items.size) = p at *
  generalize hhi : hi.elim items.size (clipAt items.size) = q at *
  show wpAny _ _ (if ((p : Int) == 0 && (1 : Int) == 1 && (q - p) == items.size) = true then _ else _) _ _ s
  split
  · rename_i hc
    simp only [Bool.and_eq_true, beq_iff_eq] at hc
    have hp : p = 0 := by omega
    have hq : q = items.size := by omega
    unfold Builtin.Tuple.tupleIsExact
    refine wpAny_bind (wpAny_bind (wpAny_typeOf ht.typeIs (wpAny_pure ?_)))
    rw [if_pos (by decide)]
    exact wpAny_bind (wpAny_rule (wpAny_pure ⟨_, rfl, wpAny_pure (h0 hp hq)⟩))
  · rw [pick_gen]
    first
      | exact wpAny_bind (m := Builtin.Tuple.tupleExact _) (wpAny_newObj_type (wpAny_pure ⟨_, rfl, wpAny_pure h⟩) hdrop)
      | exact wpAny_bind (m := Builtin.Tuple.tupleExact _) (wpAny_newObj_type (wpAny_bind (wpAny_pure (wpAny_pure ⟨_, rfl, wpAny_pure h⟩))) hdrop)
      | exact wpAny_bind (wpAny_bind (m := Builtin.Tuple.tupleExact _) (wpAny_newObj_type (wpAny_pure (wpAny_pure ⟨_, rfl, wpAny_pure h⟩)) hdrop))
      | exact wpAny_bind (wpAny_bind (m := Builtin.Tuple.tupleExact _) (wpAny_newObj_type (wpAny_pure ⟨_, rfl, wpAny_pure h⟩) hdrop))

theorem OpPost.after {r : Rv} {v : Value} {s' : Shared} {h₁ : Heap} (k : ∀ b o, s.heap.get? b = some o → h₁.get? b = some o) (p : OpPost Z { s with heap := h₁ } r v s') : OpPost Z s r v s' := by
  obtain ⟨h', tk, rfl, k', q⟩ := p
  refine ⟨h', tk, rfl, fun b o e => k' b o (k b o e), ?_⟩
  have old : ∀ a, h₁.get? a = none → s.heap.get? a = none := fun a e => by
    cases q : s.heap.get? a with
    | none => rfl
    | some o => rw [k a o q] at e; cases e
  cases q with
  | old r => exact .old r
  | new e e' r => exact .new (old _ e) e' r
  | own e r => exact .own (old _ e) r

theorem op_slice {d l h : D} {r : Rv} {vl vu : Value} (he : slcD d l h = some r) (ra : Dat s.heap Z a d) (rl : Dat s.heap Z vl l) (rh : Dat s.heap Z vu h) :
    ∃ T id, ({ s with heap := s.heap.push { cls := .type "slice", data := .fields #[vl, vu, .none] } } : Shared).TypeIs a T ∧ typeLookup (.type T) "__getitem__" = pure (some (.builtin id)) ∧
      wpAny (model prog w) A (getItem a (.ref s.heap.objs.size)) (OpPost Z s r) E { s with heap := s.heap.push { cls := .type "slice", data := .fields #[vl, vu, .none] } } := by
  unfold slcD at he
  split at he
  · obtain ⟨l, vs, n, rfl, hl, hn, R⟩ := ra.list
    split at he
    · rename_i p q hp hq
      cases he
      rw [← R.length] at hp hq
      obtain ⟨kl, pl, rfl⟩ := lo_part rl hp
      obtain ⟨kh, ph, rfl⟩ := hi_part rh hq
      refine ⟨_, _, ⟨_, push_keeps _ _ _ hl, rfl⟩, slot_list_getitem.lookup, wpAny_getItem_list_slice (s := { s with heap := s.heap.push _ }) (IsL.push hl _).isList (Heap.IsSliceOf.new ..) pl ph .none (by simp) ?_ (by rw [List.size_toArray, ← sz_line]; exact hn)⟩
      rw [slicePick_plain]
      refine .after (h₁ := s.heap.push { cls := .type "slice", data := .fields #[vl, vu, .none] }) (push_keeps _) ?_
      simp only [List.size_toArray]
      exact .newL (((R.drop _).take _).mono (fun a o _ e => push_keeps _ a o e) fun _ z => z) (by rw [List.length_take, List.length_drop]; omega)
    · cases he
  · obtain ⟨l, vs, n, rfl, hl, hn, R, zl⟩ := ra.tuple
    split at he
    · rename_i p q hp hq
      cases he
      rw [← R.length] at hp hq
      obtain ⟨kl, pl, rfl⟩ := lo_part rl hp
      obtain ⟨kh, ph, rfl⟩ := hi_part rh hq
      refine ⟨_, _, ⟨_, push_keeps _ _ _ hl, rfl⟩, slot_tuple_getitem.lookup, getItem_tuple_slice (s := { s with heap := s.heap.push _ }) ⟨_, IsT.push hl _, rfl, _, rfl⟩ (Heap.IsSliceOf.new ..) pl ph (fun h1 h2 => ?_) ?_ (by rw [List.size_toArray, ← sz_line]; exact hn)⟩
      · refine .after (h₁ := s.heap.push { cls := .type "slice", data := .fields #[vl, vu, .none] }) (push_keeps _) (.val ?_)
        rw [List.size_toArray] at h1 h2
        unfold cutL
        rw [h1, h2, List.drop_zero, Nat.sub_zero, List.take_of_length_le (by rw [R.length]; exact Nat.le_refl _)]
        exact .tuple zl (IsT.push hl _) hn (R.mono (fun a o _ e => push_keeps _ a o e) fun _ z => z)
      · refine .after (h₁ := s.heap.push { cls := .type "slice", data := .fields #[vl, vu, .none] }) (push_keeps _) ?_
        simp only [List.size_toArray]
        exact .newT (((R.drop _).take _).mono (fun a o _ e => push_keeps _ a o e) fun _ z => z) (by rw [List.length_take, List.length_drop]; omega)
    · cases he
  · cases he
end
end Mv

end

section
set_option maxRecDepth 100000
set_option linter.unusedSectionVars false
set_option linter.unusedVariables false
namespace Mv
open PySem PyProof.Rows
variable [Hp]

noncomputable def tyName : Ty → String
  | .tup => "tuple" | .int => "int" | .bool => "bool" | .str => "str" | .list => "list"

section
variable {A : Around} {E : Value → Shared → Prop} {s : Shared} {Z : Addr → Prop} {a b : Value}

theorem op_len {d : D} {n : Nat} (he : lenD d = some n) (ra : Dat s.heap Z a d) : wpAny (model prog w) A (call (.builtin "len") [a]) (OpPost Z s (.fz (.int n))) E s := by
  unfold lenD at he
  split at he <;> cases he
  · obtain ⟨l, vs, k, rfl, hl, hn, R⟩ := ra.list
    simp only [Sz] at hn
    refine Calls.call_len_list hl.isList (by rw [List.size_toArray]; omega) ?_
    rw [List.size_toArray, R.length]; exact .int
  · obtain ⟨l, vs, k, rfl, hl, hn, R, _⟩ := ra.tuple
    simp only [Sz] at hn
    refine P.len_tuple hl (by rw [List.size_toArray]; omega) ?_
    rw [List.size_toArray, R.length]; exact .int
  · obtain ⟨t, rfl, _, hz⟩ := ra.str
    simp only [Sz] at hz
    exact P.len_str (by unfold Str.length; omega) .int

theorem op_isi {d : D} (t : Ty) (ra : Dat s.heap Z a d) : wpAny (model prog w) A (call (.builtin "isinstance") [a, .type (tyName t)]) (OpPost Z s (.fz (.bool (isiD t d)))) E s := by
  cases d with
  | none => obtain rfl := ra.none; cases t <;> first | exact IsiPair.NoneType_tuple (.valT (.bool _)) | exact IsiPair.NoneType_int (.valT (.bool _)) | exact IsiPair.NoneType_bool (.valT (.bool _)) | exact IsiPair.NoneType_str (.valT (.bool _)) | exact IsiPair.NoneType_list (.valT (.bool _))
  | bool b => obtain rfl := ra.bool; cases t <;> first | exact IsiPair.bool_tuple (.valT (.bool _)) | exact IsiPair.bool_int .bool | exact IsiPair.bool_bool .bool | exact IsiPair.bool_str (.valT (.bool _)) | exact IsiPair.bool_list (.valT (.bool _))
  | int i => obtain ⟨u, rfl⟩ := ra.int; cases t <;> first | exact IsiPair.int_tuple (.valT (.bool _)) | exact IsiPair.int_int .bool | exact IsiPair.int_bool (.valT (.bool _)) | exact IsiPair.int_str (.valT (.bool _)) | exact IsiPair.int_list (.valT (.bool _))
  | str x => obtain ⟨u, rfl, _⟩ := ra.str; cases t <;> first | exact IsiPair.str_tuple (.valT (.bool _)) | exact IsiPair.str_int (.valT (.bool _)) | exact IsiPair.str_bool (.valT (.bool _)) | exact IsiPair.str_str .bool | exact IsiPair.str_list (.valT (.bool _))
  | list ds =>
    obtain ⟨l, vs, k, rfl, hl, hn, R⟩ := ra.list
    cases t <;> first | exact IsiPair.list_tuple hl rfl (.valT (.bool _)) | exact IsiPair.list_int hl rfl (.valT (.bool _)) | exact IsiPair.list_bool hl rfl (.valT (.bool _)) | exact IsiPair.list_str hl rfl (.valT (.bool _)) | exact IsiPair.list_list hl rfl .bool
  | tuple ds =>
    obtain ⟨l, vs, k, rfl, hl, hn, R, _⟩ := ra.tuple
    cases t <;> first | exact IsiPair.tuple_tuple hl rfl .bool | exact IsiPair.tuple_int hl rfl (.valT (.bool _)) | exact IsiPair.tuple_bool hl rfl (.valT (.bool _)) | exact IsiPair.tuple_str hl rfl (.valT (.bool _)) | exact IsiPair.tuple_list hl rfl (.valT (.bool _))
  | dict kvs =>
    obtain ⟨l, kv, rfl, hd, hn, R⟩ := ra.dict
    obtain ⟨o, _, _, ho, hc, _⟩ := hd.2
    cases t <;> first | exact IsiPair.dict_tuple ho hc.1 (.valT (.bool _)) | exact IsiPair.dict_int ho hc.1 (.valT (.bool _)) | exact IsiPair.dict_bool ho hc.1 (.valT (.bool _)) | exact IsiPair.dict_str ho hc.1 (.valT (.bool _)) | exact IsiPair.dict_list ho hc.1 (.valT (.bool _))

theorem op_abs {i : Int} (ra : Dat s.heap Z a (.int i)) : wpAny (model prog w) A (call (.builtin "abs") [a]) (OpPost Z s (.fz (.int i.natAbs))) E s := by
  obtain ⟨u, rfl⟩ := ra.int
  refine call_abs_int fun u tk => ?_
  have e : (if i < 0 then -i else i) = ((i.natAbs : Nat) : Int) := by split <;> omega
  rw [e]; exact .int
theorem op_intb {b' : Bool} (ra : Dat s.heap Z a (.bool b')) : wpAny (model prog w) A (call (.type "int") [a]) (OpPost Z s (.fz (.int (if b' then 1 else 0)))) E s := by
  obtain rfl := ra.bool
  exact call_int_bool .int
theorem op_tupleL {ds : List D} (ra : Dat s.heap Z a (.list ds)) : wpAny (model prog w) A (call (.type "tuple") [a]) (OpPost Z s (.fz (.tuple ds))) E s := by
  obtain ⟨l, vs, k, rfl, hl, hn, R⟩ := ra.list
  refine call_tuple_list hl.isList (fun h' hk => ?_) (by rw [List.size_toArray, ← sz_line]; exact hn)
  refine .after (h₁ := h') hk ?_
  exact .newT (R.mono (fun a o _ e => hk a o e) fun _ z => z) hn
theorem op_tupleT {ds : List D} (ra : Dat s.heap Z a (.tuple ds)) : wpAny (model prog w) A (call (.type "tuple") [a]) (OpPost Z s (.fz (.tuple ds))) E s := by
  obtain ⟨l, vs, k, rfl, hl, hn, R, zl⟩ := ra.tuple
  exact call_tuple_same ⟨_, hl, rfl, _, rfl⟩ (.val (.tuple zl hl hn R))
theorem op_listS {ds : List D} (ra : Dat s.heap Z a (.list ds) ∨ Dat s.heap Z a (.tuple ds)) : wpAny (model prog w) A (call (.type "list") [a]) (OpPost Z s (.own (.list ds))) E s := by
  rcases ra with ra | ra
  · obtain ⟨l, vs, k, rfl, hl, hn, R⟩ := ra.list
    exact call_list_seq l (.inl rfl) hl rfl rfl (fun h' c' hk hD => ⟨h', s.toks, rfl, hk, .own (heap_size_none _) (.list hD hn (R.mono (fun a o _ e => hk a o e) fun _ z => z))⟩) (by rw [List.size_toArray, ← sz_line]; exact hn)
  · obtain ⟨l, vs, k, rfl, hl, hn, R, _⟩ := ra.tuple
    exact call_list_seq l (.inr rfl) hl rfl rfl (fun h' c' hk hD => ⟨h', s.toks, rfl, hk, .own (heap_size_none _) (.list hD hn (R.mono (fun a o _ e => hk a o e) fun _ z => z))⟩) (by rw [List.size_toArray, ← sz_line]; exact hn)

theorem sum_ints : ∀ {ds : List D} {k : Int} {r : D}, sumD k ds = some r → ∃ f : Nat → Int, (∀ i d, ds[i]? = some d → d = PyData.int (f i)) ∧ r = PyData.int (k + preSum f ds.length)
  | [], k, r, h => by cases h; exact ⟨fun _ => 0, fun i d e => by simp at e, by simp [preSum]⟩
  | .int b :: ds, k, r, h => by
    obtain ⟨f, h1, rfl⟩ := sum_ints (ds := ds) h
    refine ⟨fun i => match i with | 0 => b | i + 1 => f i, fun i d e => ?_, ?_⟩
    · cases i with
      | zero => simp at e; exact e.symm
      | succ i => exact h1 i d (by simpa using e)
    · have : ∀ n, preSum (fun i => match i with | 0 => b | i + 1 => f i) (n + 1) = b + preSum f n := by
        intro n
        induction n with
        | zero => simp [preSum]
        | succ n ih => rw [preSum, ih, preSum]; simp only; omega
      rw [List.length_cons, this]; congr 1; omega
  | .none :: _, _, _, h => by cases h
  | .bool _ :: _, _, _, h => by cases h
  | .str _ :: _, _, _, h => by cases h
  | .list _ :: _, _, _, h => by cases h
  | .tuple _ :: _, _, _, h => by cases h
  | .dict _ :: _, _, _, h => by cases h
theorem op_sum {ds : List D} {r : D} (hh : A.handled = none) (he : sumD 0 ds = some r) (ra : Dat s.heap Z a (.list ds)) : wpAny (model prog w) A (call (.builtin "sum") [a]) (OpPost Z s (.fz r)) E s := by
  obtain ⟨l, vs, k, rfl, hl, hn, R⟩ := ra.list
  obtain ⟨f, hf, rfl⟩ := sum_ints he
  refine call_sum_walkG (wpAny_pyIter_list hl.isList ?_)
  have hne : l ≠ s.heap.objs.size := Nat.ne_of_lt (Heap.lt_size hl)
  refine ⟨_, _, _, _, _, _, f, rfl, Walks.list (A := A.in1) hh s.heap.objs.size l hne vs.toArray, ⟨⟨_, Heap.get?_push_size _ rfl, rfl, rfl⟩, (IsL.push hl _).isList⟩, fun b hb => ?_, fun i v hv => ?_, fun h' tk t' hk => ?_⟩
  · rw [Heap.size_push]
    simp at hb
    rcases hb with rfl | rfl
    · exact Nat.lt_succ_self _
    · exact Nat.lt_succ_of_lt (Heap.lt_size hl)
  · have hv' : vs[i]? = some v := by simpa using hv
    obtain ⟨d, hd, rv⟩ := R.getV hv'
    have := hf i d hd
    subst this
    obtain ⟨t, e⟩ := (Rep.dat rv).int
    exact ⟨t, e⟩
  · have e : (0 : Int) + preSum f ds.length = preSum f vs.toArray.size := by rw [List.size_toArray, R.length]; omega
    rw [e]
    refine ⟨h', tk, rfl, fun b o q => hk b o (fun m => ?_) (push_keeps _ b o q), .old (.int _ _)⟩
    simp at m
    exact absurd (Heap.lt_size q) (by rw [m]; exact Nat.lt_irrefl _)
theorem all_bools : ∀ {ds : List D} {r : Bool}, allB ds = some r → ∃ f : Nat → Bool, (∀ i d, ds[i]? = some d → d = PyData.bool (f i)) ∧ r = (List.range ds.length).all f
  | [], r, h => by cases h; exact ⟨fun _ => true, fun i d e => by simp at e, by simp⟩
  | .bool b :: ds, r, h => by
    obtain ⟨c, hc, rfl⟩ := Option.map_eq_some_iff.mp h
    obtain ⟨f, h1, rfl⟩ := all_bools (ds := ds) hc
    refine ⟨fun i => match i with | 0 => b | i + 1 => f i, fun i d e => ?_, ?_⟩
    · cases i with
      | zero => simp at e; exact e.symm
      | succ i => exact h1 i d (by simpa using e)
    · rw [List.length_cons, List.range_succ_eq_map, List.all_cons, List.all_map]; rfl
  | .int _ :: _, _, h => by cases h
  | .none :: _, _, h => by cases h
  | .str _ :: _, _, h => by cases h
  | .list _ :: _, _, h => by cases h
  | .tuple _ :: _, _, h => by cases h
  | .dict _ :: _, _, h => by cases h
theorem op_all {ds : List D} {r : Bool} (hh : A.handled = none) (he : allB ds = some r) (ra : Dat s.heap Z a (.list ds)) : wpAny (model prog w) A (call (.builtin "all") [a]) (OpPost Z s (.fz (.bool r))) E s := by
  obtain ⟨l, vs, k, rfl, hl, hn, R⟩ := ra.list
  obtain ⟨f, hf, rfl⟩ := all_bools he
  refine call_all_walk (wpAny_pyIter_list hl.isList ?_)
  have hne : l ≠ s.heap.objs.size := Nat.ne_of_lt (Heap.lt_size hl)
  refine ⟨_, _, _, _, _, _, f, rfl, Walks.list (A := A.in1) hh s.heap.objs.size l hne vs.toArray, ⟨⟨_, Heap.get?_push_size _ rfl, rfl, rfl⟩, (IsL.push hl _).isList⟩, fun i v s' Q E' hv hq => ?_, fun h' tk hk => ?_⟩
  · have hv' : vs[i]? = some v := by simpa using hv
    obtain ⟨d, hd, rv⟩ := R.getV hv'
    have := hf i d hd
    subst this
    obtain rfl := (Rep.dat rv).bool
    exact wpAny_truthy_bool hq
  · have e : (List.range ds.length).all f = (List.range vs.toArray.size).all f := by rw [List.size_toArray, R.length]
    rw [e]
    refine ⟨h', tk, rfl, fun b o q => hk b o (fun m => ?_) (push_keeps _ b o q), .old (.bool _)⟩
    simp at m
    exact absurd (Heap.lt_size q) (by rw [m]; exact Nat.lt_irrefl _)
end
end Mv

end

section
set_option maxRecDepth 100000
set_option linter.unusedSectionVars false
set_option linter.unusedVariables false
namespace Mv
open PySem PyProof.Rows

structure Tb where
  fn : List DefRec
  gl : List Str
  cl : List Str := []
  sub : List (Str × List Str × List Str) := []
  sbt : List (List Str × List Str × List Str) := []
structure Sc where
  names : List (Str × NameKind)
  vars : List (Str × Nat)
  hi : Nat

noncomputable def Sc.isG (sc : Sc) (x : Str) : Prop := sc.names.lookup x = some .globalImplicit ∧ (x == ("__debug__" : Str)) = false
noncomputable def Sc.isV (sc : Sc) (x : Str) (i : Nat) : Prop := sc.vars.lookup x = some i ∧ (x == ("__debug__" : Str)) = false

inductive ConstIs : Const → D → Prop
  | none : ConstIs .none .none
  | bool (b : Bool) : ConstIs (.bool b) (.bool b)
  | int (i : Int) : ConstIs (.int i) (.int i)
  | str (x : Str) : PyData.strOk x = true → x.cps.size ≤ Sz → ConstIs (.str x) (.str x)

noncomputable def opOf : Op2 → Operator
  | .add => .Add | .sub => .Sub | .mul => .Mult | .fdiv => .FloorDiv | .mod => .Mod | .pow => .Pow

mutual
noncomputable def bvE : Ex → List Nat
  | .lit _ => [] | .gl _ => [] | .var _ => [] | .pl _ => [] | .isx _ _ _ => []
  | .dsel _ es _ => bvEs es
  | .tup es => bvEs es
  | .list es => bvEs es
  | .op2 _ a b => bvE a ++ bvE b
  | .neg a => bvE a
  | .not a => bvE a
  | .cmp _ a b => bvE a ++ bvE b
  | .cmp2 _ _ a b c => bvE a ++ bvE b ++ bvE c
  | .and es => bvEs es
  | .or es => bvEs es
  | .ite c a b => bvE c ++ bvE a ++ bvE b
  | .idx a i => bvE a ++ bvE i
  | .slc a l h => bvE a ++ bvE l ++ bvE h
  | .call _ es => bvEs es
  | .bi _ es => bvEs es
  | .comp e t _ src cs => tgtVars t ++ bvE e ++ bvEs src ++ bvEs cs
noncomputable def bvEs : List Ex → List Nat
  | [] => []
  | e :: es => bvE e ++ bvEs es
end
noncomputable def plX : Ex → List Nat
  | .pl (.var i) => [i]
  | .pl (.attr i _) => [i]
  | _ => []
noncomputable def Apart (x : Ex) (bv : List Nat) : Prop := ∀ i ∈ plX x, i ∉ bv

noncomputable def biName : Bi → Str
  | .len => "len" | .isi _ => "isinstance" | .sum => "sum" | .all => "all" | .abs => "abs" | .int => "int" | .str => "str" | .tuple => "tuple" | .list => "list"
  | _ => "len"
noncomputable def Bi.one : Bi → Bool
  | .len => true | .sum => true | .all => true | .abs => true | .int => true | .tuple => true | .list => true
  | _ => false
noncomputable def compSc (scope : Scope) (sc : Sc) (v : Str) (i : Nat) : Sc := ⟨scope.names, (v, i) :: sc.vars.filter fun p => decide (scope.names.lookup p.1 = some .free), i + 1⟩
structure CompOk (scope : Scope) (sc : Sc) (v : Str) : Prop where
  kind : scope.kind = .function
  names : ∀ x ∈ scope.names, x.2 = .local → scope.names.lookup x.1 = some .local
  cell : ∀ x ∈ scope.names, x.2 ≠ .cell
  loc : scope.names.lookup v = some .local
  free : ∀ x ∈ scope.names, x.2 = .free → scope.names.lookup x.1 = some .free ∧ (x.1 == ("__classdict__" : Str)) = false ∧ (∃ i, sc.vars.lookup x.1 = some i) ∧ (sc.names.lookup x.1 = some .cell ∨ sc.names.lookup x.1 = some .free)
  nodup : ((scope.names.filter fun x => x.2 == .free).map (·.1)).Nodup

inductive KS : List (Option Expr) → List Str → Prop
  | nil : KS [] []
  | cons {k : Str} {kk : Nat} {p : Pos} {es : List (Option Expr)} {ks : List Str} : KS es ks → KS (some (.Constant (.str k) kk p) :: es) (k :: ks)
inductive NS (sc : Sc) : List Expr → List Str → Prop
  | nil : NS sc [] []
  | cons {x : Str} {p : Pos} {es : List Expr} {xs : List Str} : sc.isG x → NS sc es xs → NS sc (.Name x p :: es) (x :: xs)
mutual
inductive CE (tb : Tb) : Sc → Expr → Ex → Prop
  | lit {sc : Sc} {c : Const} {k : Nat} {pos : Pos} {d : D} : ConstIs c d → CE tb sc (.Constant c k pos) (.lit d)
  | var {sc : Sc} {x : Str} {pos : Pos} {i : Nat} : sc.isV x i → CE tb sc (.Name x pos) (.var i)
  | pl {sc : Sc} {x : Str} {pos : Pos} {i : Nat} : sc.isV x i → CE tb sc (.Name x pos) (.pl (.var i))
  | gl {sc : Sc} {x : Str} {pos : Pos} {k : Nat} : sc.isG x → tb.gl[k]? = some x → CE tb sc (.Name x pos) (.gl k)
  | tup {sc : Sc} {es : List Expr} {k : Nat} {pos : Pos} {xs : List Ex} : CEs tb sc es xs → xs.length ≤ 1000 → CE tb sc (.Tuple es k pos) (.tup xs)
  | list {sc : Sc} {es : List Expr} {pos : Pos} {xs : List Ex} : CEs tb sc es xs → xs.length ≤ 1000 → CE tb sc (.List es pos) (.list xs)
  | op2 {sc : Sc} {a b : Expr} {pos : Pos} {o : Op2} {x y : Ex} : CE tb sc a x → CE tb sc b y → Apart x (bvE y) → CE tb sc (.BinOp a (opOf o) b pos) (.op2 o x y)
  | neg {sc : Sc} {a : Expr} {pos : Pos} {x : Ex} : CE tb sc a x → CE tb sc (.UnaryOp .USub a pos) (.neg x)
  | not {sc : Sc} {a : Expr} {pos : Pos} {x : Ex} : CE tb sc a x → CE tb sc (.UnaryOp .Not a pos) (.not x)
  | cmp {sc : Sc} {a b : Expr} {pos : Pos} {o : Cm} {x y : Ex} : CE tb sc a x → CE tb sc b y → Apart x (bvE y) → CE tb sc (.Compare a [cmOp o] [b] pos) (.cmp o x y)
  | cmp2 {sc : Sc} {a b e : Expr} {pos : Pos} {o p : Cm} {x y z : Ex} : CE tb sc a x → CE tb sc b y → CE tb sc e z → CE tb sc (.Compare a [cmOp o, cmOp p] [b, e] pos) (.cmp2 o p x y z)
  | and {sc : Sc} {es : List Expr} {pos : Pos} {xs : List Ex} : CEs tb sc es xs → CE tb sc (.BoolOp .And es pos) (.and xs)
  | or {sc : Sc} {es : List Expr} {pos : Pos} {xs : List Ex} : CEs tb sc es xs → CE tb sc (.BoolOp .Or es pos) (.or xs)
  | ite {sc : Sc} {t a b : Expr} {pos : Pos} {x y z : Ex} : CE tb sc t x → CE tb sc a y → CE tb sc b z → CE tb sc (.IfExp t a b pos) (.ite x y z)
  | idx {sc : Sc} {a i : Expr} {pos : Pos} {x z : Ex} : CE tb sc a x → CE tb sc i z → Apart x (bvE z) → CE tb sc (.Subscript a i pos) (.idx x z)
  | slc {sc : Sc} {a : Expr} {lo hi : Option Expr} {p pos : Pos} {x l h : Ex} : CE tb sc a x → CEo tb sc lo l → CEo tb sc hi h → Apart x (bvE l ++ bvE h) → CE tb sc (.Subscript a (.Slice lo hi none p) pos) (.slc x l h)
  | call {sc : Sc} {f : Nat} {d : DefRec} {p pos : Pos} {args : List Expr} {xs : List Ex} : tb.fn[f]? = some d → sc.isG d.name → CEs tb sc args xs → args.length ≤ 29 → CE tb sc (.Call (.Name d.name p) args [] pos) (.call f xs)
  | bi1 {sc : Sc} {b : Bi} {p pos : Pos} {a : Expr} {x : Ex} : b.one = true → sc.isG (biName b) → CE tb sc a x → CE tb sc (.Call (.Name (biName b) p) [a] [] pos) (.bi b [x])
  | isi {sc : Sc} {t : Ty} {p p' pos : Pos} {a : Expr} {x : Ex} : sc.isG "isinstance" → sc.isG (tyName t) → CE tb sc a x → CE tb sc (.Call (.Name "isinstance" p) [a, .Name (tyName t) p'] [] pos) (.bi (.isi t) [x])
  | comp {sc : Sc} {elt iter : Expr} {v : Str} {pv pos : Pos} {ifs : List Expr} {scope : Scope} {i : Nat} {it : Itk} {src conds : List Ex} {x : Ex} : IT tb sc iter it src → CompOk scope sc v → sc.hi ≤ i →
      CE tb (compSc scope sc v i) elt x → CEs tb (compSc scope sc v i) ifs conds → i ∉ bvE x → i ∉ bvEs conds → CE tb sc (.ListComp elt [⟨.Name v pv, iter, ifs, 0⟩] scope pos) (.comp x (.one i) it src conds)
  | isx {sc : Sc} {x C : Str} {p p1 p2 pos : Pos} {i : Nat} {yes no : List Str} : sc.isG "isinstance" → sc.isV x i → sc.isG C → tb.sub.lookup C = some (yes, no) → CE tb sc (.Call (.Name "isinstance" p) [.Name x p1, .Name C p2] [] pos) (.isx i yes no)
  | isxt {sc : Sc} {x : Str} {cs : List Str} {es : List Expr} {p p1 p2 pos : Pos} {k i : Nat} {yes no : List Str} : sc.isG "isinstance" → sc.isV x i → NS sc es cs → cs.length ≤ 1000 → tb.sbt.lookup cs = some (yes, no) → CE tb sc (.Call (.Name "isinstance" p) [.Name x p1, .Tuple es k p2] [] pos) (.isx i yes no)
  | dsel {sc : Sc} {kes : List (Option Expr)} {ks : List Str} {vals : List Expr} {xs : List Ex} {x : Str} {i : Nat} {dp p pos : Pos} : KS kes ks → CEs tb sc vals xs → sc.isV x i → ks.Nodup → ks.length = xs.length → ks ≠ [] ∧ ks.length ≤ 15 → CE tb sc (.Subscript (.Dict kes vals dp) (.Name x p) pos) (.dsel ks xs i)
inductive CEs (tb : Tb) : Sc → List Expr → List Ex → Prop
  | nil {sc : Sc} : CEs tb sc [] []
  | cons {sc : Sc} {e : Expr} {es : List Expr} {x : Ex} {xs : List Ex} : CE tb sc e x → CEs tb sc es xs → Apart x (bvEs xs) → CEs tb sc (e :: es) (x :: xs)
inductive CEo (tb : Tb) : Sc → Option Expr → Ex → Prop
  | none {sc : Sc} : CEo tb sc none (.lit .none)
  | some {sc : Sc} {e : Expr} {x : Ex} : CE tb sc e x → CEo tb sc (some e) x
inductive IT (tb : Tb) : Sc → Expr → Itk → List Ex → Prop
  | seq {sc : Sc} {e : Expr} {x : Ex} : CE tb sc e x → IT tb sc e .seq [x]
  | range {sc : Sc} {p pos : Pos} {e : Expr} {x : Ex} : sc.isG "range" → CE tb sc e x → IT tb sc (.Call (.Name "range" p) [e] [] pos) .range [x]
end

noncomputable def noComp : Expr → Bool
  | .ListComp .. => false
  | .SetComp .. => false
  | .DictComp .. => false
  | _ => true
inductive EPl (e : Expr) : Prop
  | mk : (∀ (env : Env) (rest : List Expr), starEach (e :: rest) env = (false, eval e env) :: starEach rest env) → (∀ op, behindInMarks op e = false) → (∀ (env : Env) (v : Value), foldedSetIterable e env v = pure v) →
    (∀ o i, subscripted e false o i = operate [o, i] (getItem o i)) → (∀ (o i : Expr) (p : Pos) (l : Nat) (env : Env), swapsWith e (some (.Subscript o i p)) l env = pure false) →
    (noComp e = true → ∀ (t : Option Expr) (l : Nat) (env : Env), swapsWith e t l env = pure false) → EPl e
theorem CE.epl {tb : Tb} {sc : Sc} {e : Expr} {x : Ex} (h : CE tb sc e x) : EPl e := by
  cases h with
  | comp => exact ⟨fun _ _ => rfl, fun _ => rfl, fun _ _ => rfl, fun _ _ => rfl, fun _ _ _ _ _ => rfl, fun h => nomatch h⟩
  | _ => exact ⟨fun _ _ => rfl, fun _ => rfl, fun _ _ => rfl, fun _ _ => rfl, fun _ _ _ _ _ => rfl, fun _ _ _ _ => rfl⟩
theorem CE.star {tb : Tb} {sc : Sc} {e : Expr} {x : Ex} (h : CE tb sc e x) (env : Env) (rest : List Expr) : starEach (e :: rest) env = (false, eval e env) :: starEach rest env := let ⟨a, _, _, _, _, _⟩ := h.epl; a env rest
theorem CE.noSet {tb : Tb} {sc : Sc} {e : Expr} {x : Ex} (h : CE tb sc e x) (op : CmpOp) : behindInMarks op e = false := let ⟨_, a, _, _, _, _⟩ := h.epl; a op
theorem CE.noFold {tb : Tb} {sc : Sc} {e : Expr} {x : Ex} (h : CE tb sc e x) (env : Env) (v : Value) : foldedSetIterable e env v = pure v := let ⟨_, _, a, _, _, _⟩ := h.epl; a env v
theorem CE.isPlain {tb : Tb} {sc : Sc} {e : Expr} {x : Ex} (h : CE tb sc e x) (o i : Value) : subscripted e false o i = operate [o, i] (getItem o i) := let ⟨_, _, _, a, _, _⟩ := h.epl; a o i
theorem swaps_plain {tb : Tb} {sc : Sc} {env : Env} {e : Expr} {z : Ex} {t : Option Expr} {l : Nat} (ce : CE tb sc e z) (h : noComp e = true) : swapsWith e t l env = pure false := let ⟨_, _, _, _, _, a⟩ := ce.epl; a h t l env
theorem IT.noFold {tb : Tb} {sc : Sc} {e : Expr} {it : Itk} {src : List Ex} (h : IT tb sc e it src) (env : Env) (v : Value) : foldedSetIterable e env v = pure v := by
  cases h with
  | seq h => exact h.noFold env v
  | range _ _ => rfl

theorem bnd_some {α β : Type} {m : Out α} {k : α → Frame → Out β} {o : Except Str β × Frame} (h : bndK m k = some o) : (∃ e fr, m = some (.error e, fr) ∧ o = (.error e, fr)) ∨ ∃ a fr, m = some (.ok a, fr) ∧ k a fr = some o := by
  rcases m with _ | ⟨_ | a, fr⟩
  · cases h
  · exact .inl ⟨_, _, rfl, (Option.some.inj h).symm⟩
  · exact .inr ⟨_, _, rfl, h⟩
theorem bndN_some {α β : Type} {m : Out α} {k : α → Frame → Out β} {o : Except Str β × Frame} (h : bndNK m k = some o) : ∃ a fr, m = some (.ok a, fr) ∧ k a fr = some o := by
  rcases m with _ | ⟨_ | a, fr⟩
  · exact nos h
  · exact nos h
  · exact ⟨_, _, rfl, h⟩
theorem okO_eq {α : Type} {fr : Frame} {m : Option α} {o : Except Str α × Frame} (h : okO fr m = some o) : ∃ a, m = some a ∧ o = (.ok a, fr) := by
  cases m with
  | none => cases h
  | some a => exact ⟨a, rfl, (Option.some.inj h).symm⟩
theorem okV_eq {fr : Frame} {m : Option Rv} {o : Except Str Rv × Frame} (h : okV fr m = some o) : ∃ a, m = some a ∧ o = (.ok a, fr) := by
  rcases m with _ | ⟨_ | _ | _⟩
  · exact nos h
  · exact ⟨_, rfl, (sos h).symm⟩
  · exact ⟨_, rfl, (sos h).symm⟩
  · exact nos h
end Mv

end

section
set_option maxRecDepth 100000
set_option linter.unusedSectionVars false
set_option linter.unusedVariables false
namespace Mv
open PySem PyProof.Rows
variable [Hp]

theorem rdL.det {h : Heap} {l : Loc} {v v' : Value} (x : rdL h l v) (z : rdL h l v') : v = v' := by
  cases l with
  | dict a n =>
    obtain ⟨m, ⟨o, es, ep, ho, hd, hk, hf⟩, e⟩ := x
    obtain ⟨m', ⟨o', es', ep', ho', hd', hk', hf'⟩, e'⟩ := z
    rw [ho] at ho'; cases ho'
    rw [hd] at hd'; cases hd'
    rw [← hf, hf', e'] at e; cases e; rfl
  | cell a =>
    obtain ⟨o, ho, hd⟩ := x
    obtain ⟨o', ho', hd'⟩ := z
    rw [ho] at ho'; cases ho'
    rw [hd] at hd'; cases hd'; rfl

noncomputable def FrOk (F : Addr → Prop) (A : Around) : Prop := ∃ l, A.frames = some l ∧ ∀ e ∈ l, e.scope.kind ≠ .module ∧ ∃ L, e.frame = some L ∧ F L
structure EnvOk (A : Around) (sc : Sc) (env : Env) (y : Lay) : Prop where
  stk : FrOk (fun a => y.F a ∨ a = y.L) A
  hi : ∀ i l, y.loc i = some l → i < sc.hi
  kind : env.scope.kind = .function
  glob : env.globals = mainGlobals
  blt : env.builtins = builtinsNs
  frame : env.frame = some y.L
  var : ∀ x i, sc.vars.lookup x = some i → (env.kindOf x = some .local ∧ y.loc i = some (.dict env.locals x)) ∨ ((env.kindOf x = some .cell ∨ (env.kindOf x = some .free ∧ (x == ("__classdict__" : Str)) = false)) ∧ ∃ c, env.cells.lookup x = some c ∧ y.loc i = some (.cell c))
  gl : ∀ x, sc.names.lookup x = some .globalImplicit → env.kindOf x = some .globalImplicit
  cf : ∀ x, sc.names.lookup x = some .cell ∨ sc.names.lookup x = some .free → env.kindOf x = some .cell ∨ env.kindOf x = some .free

noncomputable def biNames : List Str := ["len", "isinstance", "sum", "all", "abs", "int", "str", "tuple", "list", "bool", "range", "set"]

noncomputable def Asked (B : Heap) (C : Addr) (V : Value) (b : Bool) : Prop := ∀ (prog : Program) (w : World) (A : Around) (E : Value → Shared → Prop) (s : Shared) (a : Addr) (o : Obj), (∀ a o, B.get? a = some o → s.heap.get? a = some o) → s.heap.get? a = some o → (o.cls = .ref C ∧ o.dict = none ∧ ∃ vs, o.data = .fields vs) →
  (∀ Q : Bool → Shared → Prop, Q b s → wpAny (model prog w) A (excMatches (.ref a) V) Q E s) ∧ ∀ Q : Value → Shared → Prop, (∀ tk, Q (.bool b) { s with toks := tk }) → wpAny (model prog w) A (call (.builtin "isinstance") [.ref a, V]) Q E s
noncomputable def AskedT (B : Heap) (C : Addr) (Vs : List Value) (b : Bool) : Prop := ∀ (prog : Program) (w : World) (A : Around) (E : Value → Shared → Prop) (s : Shared) (a tp : Addr) (o : Obj), (∀ a o, B.get? a = some o → s.heap.get? a = some o) → s.heap.get? a = some o → (o.cls = .ref C ∧ o.dict = none ∧ ∃ vs, o.data = .fields vs) →
  s.heap.get? tp = some { cls := .type "tuple", data := .seq Vs.toArray } → ∀ Q : Value → Shared → Prop, (∀ tk, Q (.bool b) { s with toks := tk }) → wpAny (model prog w) A (call (.builtin "isinstance") [.ref a, .ref tp]) Q E s
noncomputable def LoadAs (mg mb : Str → Option Value) : List Str → List Value → Prop
  | [], [] => True
  | x :: xs, v :: vs => (mg x = some v ∨ (mg x = none ∧ mb x = some v)) ∧ LoadAs mg mb xs vs
  | _, _ => False
structure Gd (B : Heap) (mg mb : Str → Option Value) (glob : List D) (tb : Tb) : Prop where
  g : B.Ns mainGlobals mg
  b : B.Ns builtinsNs mb
  nl : B.NoLimit
  bt : ∀ x : Str, x ≠ "__name__" → mb x = bootBuiltins x
  fn : ∀ (f : Nat) (d : DefRec), tb.fn[f]? = some d → ∃ a o pm code doc, mg d.name = some (.ref a) ∧ B.get? a = some o ∧ o.data = .func (Calls.docDef d.name d.params d.body d.scope pm code doc) ∧ B.CodeRec code d.name
  gl : ∀ (k : Nat) (x : Str) (d : D), tb.gl[k]? = some x → glob[k]? = some d → ∃ v, mg x = some v ∧ ∀ (h : Heap) (Z : Addr → Prop), (∀ a o, B.get? a = some o → h.get? a = some o) → (∀ a o, B.get? a = some o → Z a) → Rep h Z v d
  bi : ∀ x ∈ biNames, mg x = none
  cl : ∀ k ∈ tb.cl, ∃ C Bb newId initId bm, OwnClsQ k C bm newId mg B ∧ ExcBaseFacts Bb newId initId bm
  ask : ∀ c yes no, tb.sub.lookup c = some (yes, no) → ∃ V, (mg c = some V ∨ (mg c = none ∧ mb c = some V)) ∧ ∀ k C, mg k = some (.ref C) → (k ∈ yes → Asked B C V true) ∧ (k ∈ no → Asked B C V false)
  askT : ∀ cs yes no, tb.sbt.lookup cs = some (yes, no) → ∃ Vs, LoadAs mg mb cs Vs ∧ ∀ k C, mg k = some (.ref C) → (k ∈ yes → AskedT B C Vs true) ∧ (k ∈ no → AskedT B C Vs false)

section
variable {B : Heap} {y : Lay} {bv bv' : List Nat} {own own' : Addr → Option Nat} {Z Z' : Addr → Prop} {s s' : Shared} {fr fr' : Frame}

inductive PostE (B : Heap) (y : Lay) (bv : List Nat) (own : Addr → Option Nat) (Z : Addr → Prop) (s : Shared) (out : Except Str Rv × Frame) (v : Value) (s' : Shared) : Prop
  | mk (r : Rv) (own' : Addr → Option Nat) (Z' : Addr → Prop) : out.1 = .ok r → Inv B y own' Z' s'.heap out.2 → Step y bv own Z s own' Z' s' → RvAt y own' Z' s.heap s'.heap r v → PostE B y bv own Z s out v s'

theorem RvAt.dat {h₀ h : Heap} {r : Rv} {v : Value} {d : D} (I : Inv B y own Z h fr) (q : RvAt y own Z h₀ h r v) (e : rvD fr r = some d) : Dat h Z v d := by
  cases r with
  | fz d' => cases e; exact .inl q
  | own d' => cases e; obtain ⟨a, rfl, _, _, _, _, w⟩ := q; exact .inr ⟨a, rfl, w⟩
  | pl p =>
    cases p with
    | attr i a => exact q.elim
    | var i =>
      obtain ⟨l, hl, hr⟩ := q
      simp only [rvD, plGet] at e
      split at e
      · rename_i d' hs
        cases e
        obtain ⟨l', v', hl', hr', R⟩ := I.at' i _ hs (by intro n; cases n)
        rw [hl] at hl'; cases hl'
        obtain rfl := hr.det hr'
        exact .inl R
      · rename_i d' hs
        cases e
        obtain ⟨l', v', hl', hr', a, rfl, oa, w⟩ := I.at' i _ hs (by intro n; cases n)
        rw [hl] at hl'; cases hl'
        obtain rfl := hr.det hr'
        exact .inr ⟨a, rfl, w⟩
      · cases e

theorem RvAt.freeze {r : Rv} {v : Value} {d : D} (I : Inv B y own' Z' s'.heap fr) (S : Step y bv own Z s own' Z' s') (q : RvAt y own' Z' s.heap s'.heap r v) (e : rvV r = some d) :
    ∃ Z'', Inv B y own' Z'' s'.heap fr ∧ Step y bv own Z s own' Z'' s' ∧ Rep s'.heap Z'' v d := by
  cases r with
  | fz d' => cases e; exact ⟨Z', I, S, q⟩
  | own d' =>
    cases e
    obtain ⟨a, rfl, n0, nw, nf, nz, w⟩ := q
    obtain ⟨o, ho⟩ := w.live
    exact ⟨_, I.addZ nw nf ho, S.addZ n0, w.rep (fun _ z => .inl z) (.inr rfl)⟩
  | pl p => cases e

theorem OpPost.post {s₂ : Shared} {Z₂ : Addr → Prop} {own₂ : Addr → Option Nat} {r : Rv} {v : Value} {s₃ : Shared} (I : Inv B y own₂ Z₂ s₂.heap fr) (S : Step y bv own Z s own₂ Z₂ s₂) (p : OpPost Z₂ s₂ r v s₃) : PostE B y bv own Z s (.ok r, fr) v s₃ := by
  obtain ⟨h', tk, rfl, k, q⟩ := p
  cases q with
  | old R => exact ⟨_, own₂, Z₂, rfl, I.grow k, S.trans (.grow k), R⟩
  | new e e' R => exact ⟨_, own₂, _, rfl, I.growZ k e e', S.trans (.growZ k e), R⟩
  | @own a d e w =>
    have f := I.fresh e
    exact ⟨_, own₂, Z₂, rfl, I.grow k, S.trans (.grow k), a, rfl, S.old a e, f.1, f.2.1, f.2.2, w⟩
theorem PostE.val {d : D} {v : Value} (I : Inv B y own' Z' s'.heap fr) (S : Step y bv own Z s own' Z' s') (R : Rep s'.heap Z' v d) : PostE B y bv own Z s (.ok (.fz d), fr) v s' := ⟨_, own', Z', rfl, I, S, R⟩

theorem plVars_of {r : Rv} {d : D} (e : rvV r = some d) : plVars r = [] := by cases r <;> first | rfl | cases e
end

section
variable {A : Around} {E : Value → Shared → Prop} {env : Env} {B : Heap} {mg mb : Str → Option Value} {glob : List D} {tb : Tb} {sc : Sc} {y : Lay} {c : Cfg} {n : Nat}
  {bv : List Nat} {own own₁ : Addr → Option Nat} {Z Z₁ : Addr → Prop} {s s₁ : Shared} {fr fr₁ : Frame}

theorem load_var {x : Str} {i : Nat} {pos : Pos} {l : Loc} {v : Value} {Q : Value → Shared → Prop} (en : EnvOk A sc env y) (hv : sc.isV x i) (hl : y.loc i = some l) (hr : rdL s.heap l v) (h : Q v s) :
    wpAny (model prog w) A (eval (.Name x pos) env) Q E s := by
  refine wpAny_Name ?_ hv.2
  rcases en.var x i hv.1 with ⟨hk, e⟩ | ⟨hk | ⟨hk, hc⟩, c, hc', e⟩
  · rw [hl] at e; cases e
    obtain ⟨m, hn, hm⟩ := hr
    exact wpAny_loadName_local en.kind hk hn hm h
  · rw [hl] at e; cases e
    exact wpAny_loadName_cell en.kind hk hc' hr h
  · rw [hl] at e; cases e
    exact wpAny_loadName_free en.kind hk hc' hr h hc
theorem load_glob {x : Str} {pos : Pos} {v : Value} {Q : Value → Shared → Prop} (gd : Gd B mg mb glob tb) (en : EnvOk A sc env y) (I : Inv B y own Z s.heap fr) (hx : sc.isG x) (hv : mg x = some v) (h : Q v s) :
    wpAny (model prog w) A (eval (.Name x pos) env) Q E s :=
  Calls.Name_function_global en.kind (en.gl x hx.1) (Calls.loadGlobal_global (by rw [en.glob]; exact gd.g.keeps I.base) hv h) hx.2
theorem load_blt {x : Str} {pos : Pos} {v : Value} {Q : Value → Shared → Prop} (gd : Gd B mg mb glob tb) (en : EnvOk A sc env y) (I : Inv B y own Z s.heap fr) (hx : sc.isG x) (hm : x ∈ biNames) (hn : x ≠ "__name__") (hv : bootBuiltins x = some v) (h : Q v s) :
    wpAny (model prog w) A (eval (.Name x pos) env) Q E s :=
  Calls.Name_function_global en.kind (en.gl x hx.1) (Calls.loadGlobal_builtin (by rw [en.glob]; exact gd.g.keeps I.base) (gd.bi x hm) (by rw [en.blt]; exact gd.b.keeps I.base) ((gd.bt x hn).trans hv) h) hx.2
end

noncomputable def biVal : Bi → Value
  | .len => .builtin "len" | .isi _ => .builtin "isinstance" | .sum => .builtin "sum" | .all => .builtin "all" | .abs => .builtin "abs" | .int => .type "int" | .str => .type "str" | .tuple => .type "tuple" | .list => .type "list"
  | _ => .builtin "len"
theorem biName_mem (b : Bi) : biName b ∈ biNames := by cases b <;> (dsimp only [biName]; decide)
theorem biName_ne (b : Bi) : biName b ≠ ("__name__" : Str) := by cases b <;> (dsimp only [biName]; decide)
theorem boot_bi (b : Bi) : bootBuiltins (biName b) = some (biVal b) := by
  cases b <;> (dsimp only [biName, biVal]; boot_fast)
theorem boot_ty (t : Ty) : bootBuiltins (tyName t) = some (.type (tyName t)) := by
  cases t <;> (dsimp only [tyName]; boot_fast)
theorem boot_range : bootBuiltins "range" = some (.type "range") := by boot_fast
end Mv

end

section
set_option maxRecDepth 100000
set_option linter.unusedSectionVars false
set_option linter.unusedVariables false
namespace Mv
open PySem PyProof.Rows
variable [Hp]

structure Gh (B : Heap) (F : Addr → Prop) (own : Addr → Option Nat) (Z : Addr → Prop) (h : Heap) : Prop where
  base : ∀ a o, B.get? a = some o → h.get? a = some o
  zb : ∀ a o, B.get? a = some o → Z a
  zo : ∀ a, Z a → own a = none
  zF : ∀ a, Z a → ¬ F a
  oF : ∀ a, own a ≠ none → ¬ F a
  zlv : ∀ a, Z a → ∃ o, h.get? a = some o
  olv : ∀ a, own a ≠ none → ∃ o, h.get? a = some o
  flv : ∀ a, F a → ∃ o, h.get? a = some o ∧ NR o
structure GStep (F : Addr → Prop) (own : Addr → Option Nat) (Z : Addr → Prop) (s : Shared) (own' : Addr → Option Nat) (Z' : Addr → Prop) (s' : Shared) : Prop where
  sh : ∃ h' tk, s' = { s with heap := h', toks := tk }
  ext : Ext (fun a => own a ≠ none) F s.heap s'.heap
  zm : ∀ a, Z a → Z' a
  zn : ∀ a, Z' a → Z a ∨ own a ≠ none ∨ s.heap.get? a = none
  on : ∀ a i, own' a = some i → own a = some i ∨ s.heap.get? a = none
noncomputable def SlotsAt (own : Addr → Option Nat) (Z : Addr → Prop) (h : Heap) (args : List Slot) (vs : List Value) : Prop :=
  args.length = vs.length ∧ ∀ (k : Nat) (sl : Slot) (v : Value), args[k]? = some sl → vs[k]? = some v → sl ≠ .no ∧ SlotV h Z (fun a => own a = some k) sl v
noncomputable def RetAt (F : Addr → Prop) (own : Addr → Option Nat) (Z : Addr → Prop) (h₀ h : Heap) : Rv → Value → Prop
  | .fz d, v => Rep h Z v d
  | .own d, v => ∃ a, v = .ref a ∧ h₀.get? a = none ∧ own a = none ∧ ¬ F a ∧ ¬ Z a ∧ OwnAt h Z a d
  | .pl _, _ => False
noncomputable def OutsAt (own : Addr → Option Nat) (Z : Addr → Prop) (h : Heap) : Nat → List Slot → List Value → List Slot → Prop
  | k, sl :: ss, v :: vs, outs => if sl.lent = true then ∃ o os, outs = o :: os ∧ (o ≠ .no → SlotV h Z (fun a => own a = some k) o v) ∧ OutsAt own Z h (k + 1) ss vs os else OutsAt own Z h (k + 1) ss vs outs
  | _, _, _, _ => True
inductive ExcIs (B h : Heap) (P : Addr → Prop) (a : Addr) (nm : Str) : Prop
  | mk (pa : P a) (oe : Obj) (vs : Array Value) (C : Addr) (m : Str → Option Value) : h.get? a = some oe → (oe.cls = .ref C ∧ oe.dict = none) → oe.data = .fields vs → B.Ns mainGlobals m → m nm = some (.ref C) →
    (vs[1]? = some .none ∨ ∃ T oT ts, vs[1]? = some (.ref T) ∧ T ≠ a ∧ h.get? T = some oT ∧ oT.data = .fields ts ∧ ts[3]? = some .none ∧ P T) → ExcIs B h P a nm
theorem ExcIs.mono {B h : Heap} {P P' : Addr → Prop} {a : Addr} {nm : Str} (x : ExcIs B h P a nm) (k : ∀ b o, h.get? b = some o → P b → P' b) : ExcIs B h P' a nm := by
  obtain ⟨p, oe, vs, C, m, he, hc, hd, hn, hm, ht⟩ := x
  exact ⟨k a _ he p, oe, vs, C, m, he, hc, hd, hn, hm, ht.imp id fun ⟨T, oT, ts, h1, h2, h3, h4, h5, h6⟩ => ⟨T, oT, ts, h1, h2, h3, h4, h5, k T _ h3 h6⟩⟩
inductive CallPost (B : Heap) (F : Addr → Prop) (own : Addr → Option Nat) (Z : Addr → Prop) (s : Shared) (args : List Slot) (vs : List Value) (res : Except Str Rv) (outs : List Slot) (r : Result) (s' : Shared) : Prop
  | mk (own' : Addr → Option Nat) (Z' : Addr → Prop) : Gh B F own' Z' s'.heap → GStep F own Z s own' Z' s' → OutsAt own' Z' s'.heap 0 args vs outs →
    ((∃ rv v, res = .ok rv ∧ r = .ok (.ret v) ∧ RetAt F own' Z' s.heap s'.heap rv v) ∨
      ∃ nm a, res = .error nm ∧ r = .error (.ref a) ∧ ExcIs B s'.heap (fun b => s.heap.get? b = none ∧ own' b = none ∧ ¬ F b ∧ ¬ Z' b) a nm) → CallPost B F own Z s args vs res outs r s'
noncomputable def CallSpec (prog : Program) (w : World) (B : Heap) (mg : Str → Option Value) (tb : Tb) (n : Nat) (call : Bool → Nat → List Slot → Option (Except Str Rv × List Slot)) : Prop :=
  ∀ hd f args res outs, call hd f args = some (res, outs) → ∀ (d : DefRec), tb.fn[f]? = some d → ∀ fa, mg d.name = some (.ref fa) → ∀ (A : Around) (F : Addr → Prop) (own : Addr → Option Nat) (Z : Addr → Prop) (s : Shared) (vs : List Value),
    A.depth + n ≤ 999 → A.units + 4 * n ≤ 4000 → (hd = false → A.handled = none) → FrOk F A → Gh B F own Z s.heap → SlotsAt own Z s.heap args vs →
    codeAny (model prog w) A (.call (.ref fa) ⟨vs, []⟩) (CallPost B F own Z s args vs res outs) s

noncomputable def posOf (rs : List Rv) (i : Nat) : Nat → Option Nat
  | k => match rs with
    | [] => none
    | .pl (.var j) :: rs => if j = i then some k else posOf rs i (k + 1)
    | _ :: rs => posOf rs i (k + 1)

theorem posOf_get : ∀ {rs : List Rv} {i k j : Nat}, posOf rs i k = some j → k ≤ j ∧ rs[j - k]? = some (.pl (.var i))
  | [], _, _, _, h => by simp [posOf] at h
  | r :: rs, i, k, j, h => by
    have tail : posOf rs i (k + 1) = some j → k ≤ j ∧ (r :: rs)[j - k]? = some (.pl (.var i)) := fun h => by
      obtain ⟨h1, h2⟩ := posOf_get h
      refine ⟨by omega, ?_⟩
      obtain ⟨m, rfl⟩ : ∃ m, j = k + 1 + m := ⟨j - (k + 1), by omega⟩
      rw [show k + 1 + m - k = m + 1 from by omega, List.getElem?_cons_succ]
      rw [show k + 1 + m - (k + 1) = m from by omega] at h2
      exact h2
    unfold posOf at h
    split at h
    · rename_i e; cases e
    · rename_i j' rs' e
      cases e
      split at h
      · rename_i q; cases h; subst q; exact ⟨Nat.le_refl _, by simp⟩
      · exact tail h
    · rename_i e; cases e; exact tail h
theorem mem_roots : ∀ {rs : List Rv} {j i : Nat}, rs[j]? = some (.pl (.var i)) → i ∈ roots rs
  | [], _, _, h => by simp at h
  | r :: rs, 0, i, h => by simp at h; subst h; simp [roots]
  | r :: rs, j + 1, i, h => by
    have := mem_roots (rs := rs) (j := j) (by simpa using h)
    cases r with
    | pl p => cases p <;> simp [roots, this]
    | fz _ => simpa [roots] using this
    | own _ => simpa [roots] using this
theorem posOf_at : ∀ {rs : List Rv} {j i k : Nat}, (roots rs).Nodup → rs[j]? = some (.pl (.var i)) → posOf rs i k = some (k + j)
  | [], _, _, _, _, h => by simp at h
  | r :: rs, 0, i, k, _, h => by simp at h; subst h; simp [posOf]
  | r :: rs, j + 1, i, k, nd, h => by
    have h' : rs[j]? = some (.pl (.var i)) := by simpa using h
    have e : k + (j + 1) = k + 1 + j := by omega
    unfold posOf
    cases r with
    | pl p =>
      cases p with
      | var j' =>
        simp only [roots, List.nodup_cons] at nd
        dsimp only
        rw [if_neg (fun q : j' = i => nd.1 (by rw [q]; exact mem_roots h')), e]; exact posOf_at nd.2 h'
      | attr _ _ => rw [e]; exact posOf_at (by simpa [roots] using nd) h'
    | fz _ => rw [e]; exact posOf_at (by simpa [roots] using nd) h'
    | own _ => rw [e]; exact posOf_at (by simpa [roots] using nd) h'

noncomputable def frz : Rv → Rv
  | .own d => .fz d
  | r => r
noncomputable def RvsAt (y : Lay) (own : Addr → Option Nat) (Z : Addr → Prop) (h₀ h : Heap) : List Rv → List Value → Prop
  | [], [] => True
  | r :: rs, v :: vs => RvAt y own Z h₀ h (frz r) v ∧ RvsAt y own Z h₀ h rs vs
  | _, _ => False
theorem RvsAt.length {y : Lay} {own : Addr → Option Nat} {Z : Addr → Prop} {h₀ h : Heap} : ∀ {rs : List Rv} {vs : List Value}, RvsAt y own Z h₀ h rs vs → rs.length = vs.length
  | [], [], _ => rfl
  | _ :: rs, _ :: vs, h => by rw [List.length_cons, List.length_cons, RvsAt.length h.2]
  | [], _ :: _, h => h.elim
  | _ :: _, [], h => h.elim
theorem RvsAt.get {y : Lay} {own : Addr → Option Nat} {Z : Addr → Prop} {h₀ h : Heap} : ∀ {rs : List Rv} {vs : List Value} {k : Nat} {r : Rv} {v : Value}, RvsAt y own Z h₀ h rs vs → rs[k]? = some r → vs[k]? = some v → RvAt y own Z h₀ h (frz r) v
  | [], [], _, _, _, _, e, _ => by simp at e
  | r :: rs, v :: vs, 0, _, _, h, e, e' => by simp at e e'; subst e; subst e'; exact h.1
  | r :: rs, v :: vs, k + 1, _, _, h, e, e' => RvsAt.get h.2 (by simpa using e) (by simpa using e')
  | [], _ :: _, _, _, _, h, _, _ => h.elim
  | _ :: _, [], _, _, _, h, _, _ => h.elim
noncomputable def argSlot (fr : Frame) : Rv → Option Slot
  | .fz d => some (Slot.fz d)
  | .own d => some (.fz d)
  | .pl (.var i) => (match fr[i]? with
    | some (.fz d) => some (.fz d)
    | some (.own d) => some (.own d)
    | some (.inst c as) => some (.inst c as)
    | some (.exc c) => some (.exc c)
    | _ => none)
  | .pl (.attr _ _) => none
theorem argSlots_cons {fr : Frame} {r : Rv} {rs : List Rv} {ss : List Slot} (h : argSlots fr (r :: rs) = some ss) : ∃ sl ss', ss = sl :: ss' ∧ argSlot fr r = some sl ∧ argSlots fr rs = some ss' := by
  unfold argSlots at h
  split at h
  · rename_i sl ss' h1 h2
    cases h
    refine ⟨sl, ss', rfl, ?_, h2⟩
    cases r with
    | fz d => exact h1
    | own d => exact h1
    | pl p => cases p <;> exact h1
  · cases h
theorem argSlots_get {fr : Frame} : ∀ {rs : List Rv} {ss : List Slot}, argSlots fr rs = some ss → rs.length = ss.length ∧ ∀ (k : Nat) (r : Rv), rs[k]? = some r → ∃ sl, ss[k]? = some sl ∧ argSlot fr r = some sl
  | [], ss, h => by simp only [argSlots] at h; cases h; exact ⟨rfl, fun k r e => by simp at e⟩
  | r :: rs, ss, h => by
    obtain ⟨sl, ss', rfl, h1, h2⟩ := argSlots_cons h
    obtain ⟨h3, h4⟩ := argSlots_get h2
    refine ⟨by simp [h3], fun k r' e => ?_⟩
    cases k with
    | zero => simp at e; subst e; exact ⟨sl, rfl, h1⟩
    | succ k => simpa using h4 k r' (by simpa using e)
theorem argSlot_lent {fr : Frame} {r : Rv} {sl : Slot} (h : argSlot fr r = some sl) (hl : sl.lent = true) : ∃ i, r = .pl (.var i) ∧ fr[i]? = some sl := by
  unfold argSlot at h
  split at h
  · cases h; cases hl
  · cases h; cases hl
  · rename_i i
    refine ⟨i, rfl, ?_⟩
    split at h
    · cases h; cases hl
    · cases h; assumption
    · cases h; assumption
    · cases h; assumption
    · cases h
  · cases h

noncomputable def ownC (own : Addr → Option Nat) (rs : List Rv) (a : Addr) : Option Nat := (own a).bind fun i => posOf rs i 0
noncomputable def rootAt (rs : List Rv) (k : Nat) : Option Nat := match rs[k]? with
  | some (.pl (.var i)) => some i
  | _ => none
noncomputable def ownB (own ownN : Addr → Option Nat) (rs : List Rv) (a : Addr) : Option Nat := match ownN a with
  | some k => rootAt rs k
  | none => match own a with
    | some i => (match posOf rs i 0 with
      | some _ => none
      | none => some i)
    | none => none

theorem ownC_some {own : Addr → Option Nat} {rs : List Rv} {a : Addr} {k : Nat} (h : ownC own rs a = some k) : ∃ i, own a = some i ∧ posOf rs i 0 = some k := Option.bind_eq_some_iff.mp h
theorem ownC_ne {own : Addr → Option Nat} {rs : List Rv} {a : Addr} (h : ownC own rs a ≠ none) : own a ≠ none := fun e => h (by unfold ownC; rw [e]; rfl)

section
variable {B : Heap} {y : Lay} {own : Addr → Option Nat} {Z : Addr → Prop} {s s' : Shared} {fr : Frame} {rs : List Rv} {ss outs : List Slot} {vs : List Value}

theorem call_gh (I : Inv B y own Z s.heap fr) (rs : List Rv) : Gh B (fun a => y.F a ∨ a = y.L) (ownC own rs) Z s.heap where
  base := I.base
  zb := I.zb
  zo := fun a z => by unfold ownC; rw [I.zo a z]; rfl
  zF := fun a z f => f.elim (I.zF a z) fun e => I.zL (e ▸ z)
  oF := fun a h f => f.elim (I.oF a (ownC_ne h)) fun e => ownC_ne h (e ▸ I.oL)
  zlv := I.zlv
  olv := fun a h => I.olv a (ownC_ne h)
  flv := fun a f => f.elim (I.flv a) fun e => let ⟨m, o, _, _, h, hd, _⟩ := I.nsL; ⟨o, e ▸ h, fun vs q => by rw [hd] at q; cases q⟩

theorem call_slots (I : Inv B y own Z s.heap fr) {h₀ : Heap} (hr : RvsAt y own Z h₀ s.heap rs vs) (hs : argSlots fr rs = some ss) (nd : (roots rs).Nodup) : SlotsAt (ownC own rs) Z s.heap ss vs := by
  obtain ⟨hlen, hget⟩ := argSlots_get hs
  refine ⟨by rw [← hlen, hr.length], fun k sl v e e' => ?_⟩
  have hk : k < rs.length := by rw [hlen]; exact (List.getElem?_eq_some_iff.mp e).1
  obtain ⟨sl', e2, h2⟩ := hget k _ (List.getElem?_eq_getElem hk)
  rw [e] at e2; cases e2
  have q := hr.get (List.getElem?_eq_getElem hk) e'
  generalize hrk : rs[k] = r at *
  have hrk' : rs[k]? = some r := by rw [List.getElem?_eq_getElem hk, hrk]
  cases r with
  | fz d => cases h2; exact ⟨(fun n => by cases n), q⟩
  | own d => cases h2; exact ⟨(fun n => by cases n), q⟩
  | pl p =>
    cases p with
    | attr i a => cases h2
    | var i =>
      obtain ⟨l, hl, hv⟩ := q
      have key : ∀ sl, fr[i]? = some sl → sl ≠ .no → SlotV s.heap Z (fun a => own a = some i) sl v := fun sl e n => by
        obtain ⟨l', v', hl', hv', q⟩ := I.at' i sl e n
        rw [hl] at hl'; cases hl'
        obtain rfl := hv.det hv'
        exact q
      have mo : ∀ a, own a = some i → ownC own rs a = some k := fun a e => by
        unfold ownC; rw [e]; show posOf rs i 0 = _; rw [posOf_at nd hrk', Nat.zero_add]
      simp only [argSlot] at h2
      split at h2
      · rename_i d e9; cases h2; exact ⟨(fun n => by cases n), key _ e9 (by intro n; cases n)⟩
      · rename_i d e9; cases h2; exact ⟨(fun n => by cases n), (key _ e9 (by intro n; cases n)).mono (fun _ _ _ e => e) (fun _ z => z) mo fun _ _ _ e => e⟩
      · rename_i e9; cases h2; exact (key _ e9 (by intro n; cases n)).elim
      · rename_i e9; cases h2; exact ⟨(fun n => by cases n), (key _ e9 (by intro n; cases n)).mono (fun _ _ _ e => e) (fun _ z => z) mo fun _ _ _ e => e⟩
      · cases h2

theorem Ns_slots {h h' : Heap} {a : Addr} {m : Str → Option Value} (hn : h.Ns a m) (k : ∀ o, h.get? a = some o → ∃ sl, h'.get? a = some { o with slots := sl }) : h'.Ns a m := by
  obtain ⟨o, es, ep, ho, r⟩ := hn
  obtain ⟨sl, e⟩ := k o ho
  exact ⟨_, es, ep, e, r⟩

theorem copyOut_get {own' : Addr → Option Nat} {Z' : Addr → Prop} {h : Heap} : ∀ {rs : List Rv} {ss outs : List Slot} {vs : List Value} {fr : Frame} {k j : Nat} {sl : Slot}, OutsAt own' Z' h k ss vs outs → rs.length = ss.length → ss.length = vs.length →
    (∀ (m : Nat) (r : Rv) (sl : Slot), rs[m]? = some r → ss[m]? = some sl → sl.lent = true → ∃ i, r = .pl (.var i)) → (copyOut fr rs ss outs)[j]? = some sl →
    (∃ (m : Nat) (s0 : Slot) (v : Value), rs[m]? = some (.pl (.var j)) ∧ ss[m]? = some s0 ∧ s0.lent = true ∧ vs[m]? = some v ∧ (sl ≠ .no → SlotV h Z' (fun a => own' a = some (k + m)) sl v)) ∨ (fr[j]? = some sl ∧ ((roots rs).Nodup → ∀ (m : Nat) (s0 : Slot), rs[m]? = some (.pl (.var j)) → ss[m]? = some s0 → s0.lent = false))
  | [], ss, outs, vs, fr, k, j, sl, _, _, _, _, e => by
    refine .inr ⟨?_, fun _ m s0 e => by simp at e⟩
    simpa [copyOut] using e
  | r :: rs, [], _, _, _, _, _, _, _, h, _, _, _ => by simp at h
  | r :: rs, s0 :: ss, outs, [], _, _, _, _, _, _, h, _, _ => by simp at h
  | r :: rs, s0 :: ss, outs, v :: vs, fr, k, j, sl, O, h1, h2, hl, e => by
    have h1' : rs.length = ss.length := by simpa using h1
    have h2' : ss.length = vs.length := by simpa using h2
    have hl' : ∀ (m : Nat) (r : Rv) (sl : Slot), rs[m]? = some r → ss[m]? = some sl → sl.lent = true → ∃ i, r = .pl (.var i) := fun m r sl e1 e2 => hl (m + 1) r sl (by simpa using e1) (by simpa using e2)
    unfold OutsAt at O
    unfold copyOut at e
    by_cases q : s0.lent = true
    · rw [if_pos q] at O
      obtain ⟨o, os, rfl, hv, O⟩ := O
      obtain ⟨i, rfl⟩ := hl 0 r s0 rfl rfl q
      rw [if_pos q] at e
      dsimp only at e
      rcases copyOut_get O h1' h2' hl' e with ⟨m, s1, v', a1, a2, a3, a4, a5⟩ | ⟨a1, a2⟩
      · exact .inl ⟨m + 1, s1, v', by simpa using a1, by simpa using a2, a3, by simpa using a4, fun n => by have := a5 n; rwa [show k + 1 + m = k + (m + 1) from by omega] at this⟩
      · rcases set_get a1 with ⟨rfl, rfl⟩ | ⟨hne, a1⟩
        · exact .inl ⟨0, s0, v, rfl, rfl, q, rfl, hv⟩
        · refine .inr ⟨a1, fun nd m s1 e1 e2 => ?_⟩
          cases m with
          | zero => simp at e1; exact absurd e1.symm hne
          | succ m => exact a2 (by simp only [roots, List.nodup_cons] at nd; exact nd.2) m s1 (by simpa using e1) (by simpa using e2)
    · rw [if_neg q] at O e
      rcases copyOut_get O h1' h2' hl' e with ⟨m, s1, v', a1, a2, a3, a4, a5⟩ | ⟨a1, a2⟩
      · exact .inl ⟨m + 1, s1, v', by simpa using a1, by simpa using a2, a3, by simpa using a4, fun n => by have := a5 n; rwa [show k + 1 + m = k + (m + 1) from by omega] at this⟩
      · refine .inr ⟨a1, fun nd m s1 e1 e2 => ?_⟩
        cases m with
        | zero => simp at e2; subst e2; simpa using q
        | succ m =>
          refine a2 ?_ m s1 (by simpa using e1) (by simpa using e2)
          cases r with
          | pl p =>
            cases p with
            | var i => simp only [roots, List.nodup_cons] at nd; exact nd.2
            | attr _ _ => simpa [roots] using nd
          | fz _ => simpa [roots] using nd
          | own _ => simpa [roots] using nd
end
end Mv

end

section
set_option maxRecDepth 100000
set_option linter.unusedSectionVars false
set_option linter.unusedVariables false
namespace Mv
open PySem PyProof.Rows
variable [Hp]
section
variable {B : Heap} {y : Lay} {own : Addr → Option Nat} {Z : Addr → Prop} {s s' : Shared} {fr : Frame} {rs : List Rv} {ss outs : List Slot} {vs : List Value}

theorem ownB_some {own ownN : Addr → Option Nat} {rs : List Rv} {a : Addr} {i : Nat} (h : ownB own ownN rs a = some i) : (∃ k, ownN a = some k ∧ rs[k]? = some (.pl (.var i))) ∨ (ownN a = none ∧ own a = some i ∧ posOf rs i 0 = none) := by
  unfold ownB at h
  split at h
  · rename_i k hk
    unfold rootAt at h
    split at h
    · rename_i j hj; cases h; exact .inl ⟨k, hk, hj⟩
    · cases h
  · rename_i hk
    split at h
    · rename_i j hj
      split at h
      · cases h
      · rename_i hp; cases h; exact .inr ⟨hk, hj, hp⟩
    · cases h

theorem call_back {res : Except Str Rv} {r : Result} (I : Inv B y own Z s.heap fr) {h₀ : Heap} (hr : RvsAt y own Z h₀ s.heap rs vs) (hs : argSlots fr rs = some ss) (nd : (roots rs).Nodup)
    (P : CallPost B (fun a => y.F a ∨ a = y.L) (ownC own rs) Z s ss vs res outs r s') :
    ∃ own' Z', Inv B y own' Z' s'.heap (copyOut fr rs ss outs) ∧ Step y [] own Z s own' Z' s' ∧ ((∃ rv v, res = .ok rv ∧ r = .ok (.ret v) ∧ RvAt y own' Z' s.heap s'.heap rv v) ∨
      ∃ nm a, res = .error nm ∧ r = .error (.ref a) ∧ ExcIs B s'.heap (fun b => s.heap.get? b = none ∧ ¬ y.wr own' b ∧ ¬ y.F b ∧ ¬ Z' b) a nm) := by
  obtain ⟨ownN, Z', G, S, O, R⟩ := P
  obtain ⟨hlen, hget⟩ := argSlots_get hs
  have hlen' : ss.length = vs.length := by rw [← hlen, hr.length]
  -- what stays
  have nwr : ∀ a, own a = none → ¬ ((fun a => ownC own rs a ≠ none) a) := fun a e q => ownC_ne q e
  have keep : ∀ a o, s.heap.get? a = some o → own a = none → ¬ y.F a → a ≠ y.L → s'.heap.get? a = some o := fun a o e n f l => S.ext.keep a o e (nwr a n) fun q => q.elim f l
  have keepC : ∀ a o, s.heap.get? a = some o → ownC own rs a = none → ¬ y.F a → a ≠ y.L → s'.heap.get? a = some o := fun a o e n f l => S.ext.keep a o e (fun q => q n) fun q => q.elim f l
  have keepZ : ∀ a o, Z a → s.heap.get? a = some o → s'.heap.get? a = some o := fun a o z e => keep a o e (I.zo a z) (I.zF a z) fun q => I.zL (q ▸ z)
  have slL : ∀ o, s.heap.get? y.L = some o → ∃ sl, s'.heap.get? y.L = some { o with slots := sl } := fun o e => S.ext.fram y.L o (.inr rfl) e
  have rdk : ∀ i l v, y.loc i = some l → rdL s.heap l v → rdL s'.heap l v := fun i l v hl hv => by
    by_cases q : l.addr = y.L
    · cases l with
      | dict a x =>
        obtain ⟨m, hn, hm⟩ := hv
        have q' : a = y.L := q
        subst q'
        exact ⟨m, Ns_slots hn slL, hm⟩
      | cell a => exact absurd q (I.wf.cl i a hl)
    · exact hv.keeps fun o e => keep _ o e (I.ol i l hl) (I.wf.nf i l hl) q
  have okk : ∀ i l, y.loc i = some l → okL s.heap l → okL s'.heap l := fun i l hl hv => by
    by_cases q : l.addr = y.L
    · cases l with
      | dict a x =>
        obtain ⟨m, hn⟩ := hv
        have q' : a = y.L := q
        subst q'
        exact ⟨m, Ns_slots hn slL⟩
      | cell a => exact absurd q (I.wf.cl i a hl)
    · exact hv.keeps fun o e => keep _ o e (I.ol i l hl) (I.wf.nf i l hl) q
  have nN : ∀ a o, s.heap.get? a = some o → ownC own rs a = none → ownN a = none := fun a o e n => by
    cases q : ownN a with
    | none => rfl
    | some k =>
      rcases S.on a k q with q | q
      · rw [n] at q; cases q
      · rw [e] at q; cases q
  have oB : ∀ a i, ownB own ownN rs a = some i → own a = some i ∨ s.heap.get? a = none := fun a i q => by
    rcases ownB_some q with ⟨k, hk, hj⟩ | ⟨_, q, _⟩
    · rcases S.on a k hk with q | q
      · obtain ⟨i', hi, hp⟩ := ownC_some q
        have := posOf_at (k := 0) nd hj
        rw [Nat.zero_add] at this
        obtain ⟨_, h2⟩ := posOf_get hp
        rw [Nat.sub_zero, hj] at h2
        cases h2
        exact .inl hi
      · exact .inr q
    · exact .inl q
  have oBn : ∀ a, ownB own ownN rs a ≠ none → own a ≠ none ∨ s.heap.get? a = none := fun a q => by
    cases e : ownB own ownN rs a with
    | none => exact absurd e q
    | some i => exact (oB a i e).imp (fun h => by rw [h]; exact fun n => by cases n) id
  have oBk : ∀ a, ownB own ownN rs a ≠ none → ownN a ≠ none ∨ (ownC own rs a = none ∧ own a ≠ none) := fun a q => by
    cases e : ownB own ownN rs a with
    | none => exact absurd e q
    | some i =>
      rcases ownB_some e with ⟨k, hk, _⟩ | ⟨_, h, hp⟩
      · exact .inl (by rw [hk]; exact fun n => by cases n)
      · exact .inr ⟨by unfold ownC; rw [h]; exact hp, by rw [h]; exact fun n => by cases n⟩
  have zn : ∀ a, Z' a → Z a ∨ own a ≠ none ∨ s.heap.get? a = none := fun a z => (S.zn a z).imp id fun q => q.imp ownC_ne id
  have live : ∀ a o, s.heap.get? a = some o → ∃ o', s'.heap.get? a = some o' := S.ext.live
  have wf' := I.wf
  have inv : Inv B y (ownB own ownN rs) Z' s'.heap (copyOut fr rs ss outs) := by
    refine ⟨I.wf, G.base, G.zb, fun a z => ?_, fun i l hl z => ?_, fun i l hl => ?_, fun z => ?_, ?_, fun a z f => G.zF a z (.inl f), fun a q f => ?_, G.zlv, fun a q => ?_, fun a f => G.flv a (.inl f), fun i l hl => okk i l hl (I.ok i l hl), ?_, fun j sl e n => ?_⟩
    · -- zo
      cases q : ownB own ownN rs a with
      | none => rfl
      | some i =>
        rcases ownB_some q with ⟨k, hk, _⟩ | ⟨hN, ho, hp⟩
        · rw [G.zo a z] at hk; cases hk
        · rcases S.zn a z with z | z | z
          · rw [I.zo a z] at ho; cases ho
          · exact absurd (by unfold ownC; rw [ho]; exact hp) z
          · obtain ⟨o, e⟩ := I.olv a (by rw [ho]; exact fun n => by cases n); rw [z] at e; cases e
    · -- zl
      obtain ⟨o, e⟩ := (I.ok i l hl).live
      rcases S.zn _ z with z | z | z
      · exact I.zl i l hl z
      · exact ownC_ne z (I.ol i l hl)
      · rw [z] at e; cases e
    · -- ol
      cases q : ownB own ownN rs l.addr with
      | none => rfl
      | some k =>
        obtain ⟨o, e⟩ := (I.ok i l hl).live
        rcases oB _ _ q with q | q
        · rw [I.ol i l hl] at q; cases q
        · rw [q] at e; cases e
    · exact G.zF _ z (.inr rfl)
    · cases q : ownB own ownN rs y.L with
      | none => rfl
      | some k =>
        obtain ⟨m, o, _, _, e, _⟩ := I.nsL
        rcases oB _ _ q with q | q
        · rw [I.oL] at q; cases q
        · rw [q] at e; cases e
    · rcases oBk a q with q | ⟨q, q'⟩
      · exact G.oF a q (.inl f)
      · exact I.oF a q' f
    · rcases oBk a q with q | ⟨q, q'⟩
      · exact G.olv a q
      · obtain ⟨o, e⟩ := I.olv a q'; exact live a o e
    · obtain ⟨m, hn⟩ := I.nsL; exact ⟨m, Ns_slots hn slL⟩
    · -- the slots
      rcases copyOut_get O hlen hlen' (fun m r sl e1 e2 hl => by
        obtain ⟨sl', e3, h3⟩ := hget m r e1
        rw [e2] at e3; cases e3
        obtain ⟨i, h, _⟩ := argSlot_lent h3 hl
        exact ⟨i, h⟩) e with ⟨m, s0, v', a1, a2, a3, a4, a5⟩ | ⟨a1, a2⟩
      · have q := hr.get a1 a4
        obtain ⟨l, hl, hv⟩ := q
        refine ⟨l, v', hl, rdk j l v' hl hv, (a5 n).mono (fun _ _ _ e => e) (fun _ z => z) (fun b hb => ?_) fun _ _ _ e => e⟩
        rw [Nat.zero_add] at hb
        show ownB own ownN rs b = some j
        unfold ownB; rw [hb]; dsimp only; unfold rootAt; rw [a1]
      · obtain ⟨l, v', hl, hv, q⟩ := I.at' j sl a1 n
        refine ⟨l, v', hl, rdk j l v' hl hv, ?_⟩
        cases sl with
        | no => exact absurd rfl n
        | fz d => exact Rep.mono keepZ S.zm q
        | own d =>
          obtain ⟨a, rfl, oa, w⟩ := q
          have oa' : own a = some j := oa
          obtain ⟨o, ho⟩ := w.live
          have hp : posOf rs j 0 = none := by
            cases q : posOf rs j 0 with
            | none => rfl
            | some m =>
              obtain ⟨_, h2⟩ := posOf_get q
              rw [Nat.sub_zero] at h2
              obtain ⟨s1, e1, h1⟩ := hget m _ h2
              have : s1 = .own d := by simp only [argSlot, a1] at h1; exact (Option.some.inj h1).symm
              subst this
              exact absurd (a2 nd m _ h2 e1) (by intro q; cases q)
          have hC : ownC own rs a = none := by unfold ownC; rw [oa']; exact hp
          refine ⟨a, rfl, ?_, w.mono keepZ S.zm fun o e => keepC a o e hC (I.oF a (by rw [oa']; exact fun n => by cases n)) fun q => by rw [q, I.oL] at oa'; cases oa'⟩
          show ownB own ownN rs a = some j
          unfold ownB; rw [nN a o ho hC, oa']; dsimp only; rw [hp]
        | inst _ _ => exact q.elim
        | exc k => exact SlotV.mono (sl := .exc k) (O := fun _ => False) keepZ S.zm (fun _ f => f.elim) (fun _ _ f => f.elim) q
  have nwB : ∀ a, s.heap.get? a = none → ownN a = none → ¬ y.wr (ownB own ownN rs) a := fun a e0 on wr => by
    have f := I.fresh e0
    rcases wr with wr | wr | wr
    · rcases oBk a wr with q | ⟨_, q⟩
      · exact q on
      · exact f.1 (.inl q)
    · exact f.1 (.inr (.inl wr))
    · exact f.1 (.inr (.inr wr))
  refine ⟨ownB own ownN rs, Z', inv, ⟨S.sh, ⟨fun a o e nw nf => ?_, live, fun a o f e => S.ext.fram a o (.inl f) e⟩, S.zm, zn, oB, fun i l v _ hl hv => rdk i l v hl hv⟩, ?_⟩
  · refine keep a o e ?_ nf fun q => nw (.inr (.inl q))
    cases q : own a with
    | none => rfl
    | some i => exact absurd (.inl (by rw [q]; exact fun n => by cases n)) nw
  · rcases R with ⟨rv, v, e1, e2, R⟩ | ⟨nm, a, e1, e2, X⟩
    · refine .inl ⟨rv, v, e1, e2, ?_⟩
      cases rv with
      | fz d => exact R
      | own d =>
        obtain ⟨a, rfl, e0, on, nf, nz, w⟩ := R
        exact ⟨a, rfl, e0, nwB a e0 on, fun q => nf (.inl q), nz, w⟩
      | pl p => exact R.elim
    · exact .inr ⟨nm, a, e1, e2, X.mono fun b _ _ ⟨h1, h2, h3, h4⟩ => ⟨h1, nwB b h1 h2, fun q => h3 (.inl q), h4⟩⟩
end
end Mv

end

section
set_option maxRecDepth 100000
set_option linter.unusedSectionVars false
set_option linter.unusedVariables false
namespace Mv
open PySem PyProof.Rows
variable [Hp]

inductive PostX {β : Type} (B : Heap) (y : Lay) (bv : List Nat) (own : Addr → Option Nat) (Z : Addr → Prop) (s : Shared) (out : Except Str β × Frame) (e : Value) (s' : Shared) : Prop
  | mk (nm : Str) (a : Addr) (own' : Addr → Option Nat) (Z' : Addr → Prop) : out.1 = .error nm → e = .ref a → Inv B y own' Z' s'.heap out.2 → Step y bv own Z s own' Z' s' → ExcIs B s'.heap (fun b => s.heap.get? b = none ∧ ¬ y.wr own' b ∧ ¬ y.F b ∧ ¬ Z' b) a nm → PostX B y bv own Z s out e s'
section
variable {B : Heap} {y : Lay} {bv bv' : List Nat} {own own₁ : Addr → Option Nat} {Z Z₁ : Addr → Prop} {s s₁ s' : Shared} {e : Value}
theorem PostX.elim {β : Type} {p : Prop} {r : β} {f : Frame} (x : PostX B y bv own Z s ((.ok r : Except Str β), f) e s') : p := by
  obtain ⟨_, _, _, _, q, _⟩ := x; cases q
theorem PostX.up {β γ : Type} {nm : Str} {f : Frame} (hb : ∀ i ∈ bv, i ∈ bv') (S : Step y bv' own Z s own₁ Z₁ s₁) (x : PostX B y bv own₁ Z₁ s₁ ((.error nm : Except Str β), f) e s') : PostX B y bv' own Z s ((.error nm : Except Str γ), f) e s' := by
  obtain ⟨nm', a, own', Z', q, e1, I, S', X⟩ := x
  cases q
  exact ⟨_, a, own', Z', rfl, e1, I, S.trans (S'.sub hb), X.mono fun b _ _ h => ⟨S.old b h.1, h.2⟩⟩
theorem PostX.sub {β : Type} {out : Except Str β × Frame} (hb : ∀ i ∈ bv, i ∈ bv') (S : Step y bv' own Z s own₁ Z₁ s₁) (x : PostX B y bv own₁ Z₁ s₁ out e s') : PostX B y bv' own Z s out e s' := by
  obtain ⟨nm, a, own', Z', q, e1, I, S', X⟩ := x
  exact ⟨nm, a, own', Z', q, e1, I, S.trans (S'.sub hb), X.mono fun b _ _ h => ⟨S.old b h.1, h.2⟩⟩
end

structure Rn (prog : Program) (w : World) (A : Around) (B : Heap) (mg mb : Str → Option Value) (tb : Tb) (c : Cfg) (n : Nat) : Prop where
  gd : Gd B mg mb c.glob tb
  cs : CallSpec prog w B mg tb n c.call
  dep : A.depth + n ≤ 999
  un : A.units + 4 * n ≤ 4000
  hh : c.hd = false → A.handled = none

section
variable {c : Cfg}
theorem evAnd_val : ∀ {es : List Ex} {fr fr' : Frame} {r : Rv}, evAnd c es fr = some (.ok r, fr') → ∃ d, rvV r = some d
  | [], _, _, _, h => by cases h
  | [e], fr, fr', r, h => by
    rw [evAnd_one] at h
    rcases bnd_some h with ⟨_, _, _, q⟩ | ⟨a, f, _, q⟩
    · cases q
    · split at q
      · cases q
      · cases q; exact ⟨_, by assumption⟩
  | e :: e' :: es, fr, fr', r, h => by
    rw [evAnd_cons] at h
    rcases bnd_some h with ⟨_, _, _, q⟩ | ⟨a, f, _, q⟩
    · cases q
    · split at q
      · cases q
      · split at q
        · exact evAnd_val q
        · cases q; exact ⟨_, by assumption⟩
theorem evOr_val : ∀ {es : List Ex} {fr fr' : Frame} {r : Rv}, evOr c es fr = some (.ok r, fr') → ∃ d, rvV r = some d
  | [], _, _, _, h => by cases h
  | [e], fr, fr', r, h => by
    rw [evOr_one] at h
    rcases bnd_some h with ⟨_, _, _, q⟩ | ⟨a, f, _, q⟩
    · cases q
    · split at q
      · cases q
      · cases q; exact ⟨_, by assumption⟩
  | e :: e' :: es, fr, fr', r, h => by
    rw [evOr_cons] at h
    rcases bnd_some h with ⟨_, _, _, q⟩ | ⟨a, f, _, q⟩
    · cases q
    · split at q
      · cases q
      · split at q
        · cases q; exact ⟨_, by assumption⟩
        · exact evOr_val q

noncomputable def VO (m : Out Rv) : Prop := ∀ r fr', m = some (.ok r, fr') → ∃ d, rvV r = some d
namespace VO
variable {fr : Frame}
theorem no : VO none := fun _ _ h => nos h
theorem fz {d : D} : VO (some (.ok (.fz d), fr)) := fun _ _ h => by cases h; exact ⟨_, rfl⟩
theorem own {d : D} : VO (some (.ok (.own d), fr)) := fun _ _ h => by cases h; exact ⟨_, rfl⟩
theorem err {e : Str} : VO (some (.error e, fr)) := fun _ _ h => by cases h
theorem bd {α : Type} {m : Out α} {k : α → Frame → Out Rv} (h : ∀ a fr, VO (k a fr)) : VO (bndK m k) := by
  rcases m with _ | ⟨_ | a, f⟩
  · exact no
  · exact err
  · exact h a f
theorem bdN {α : Type} {m : Out α} {k : α → Frame → Out Rv} (h : ∀ a fr, VO (k a fr)) : VO (bndNK m k) := by
  rcases m with _ | ⟨_ | a, f⟩
  · exact no
  · exact no
  · exact h a f
theorem okv {m : Option Rv} : VO (okV fr m) := by
  rcases m with _ | ⟨_ | _ | _⟩
  · exact no
  · exact fz
  · exact own
  · exact no
theorem okf {α : Type} {f : α → D} {m : Option α} : VO (okO fr (m.map fun a => Rv.fz (f a))) := by
  cases m with
  | none => exact no
  | some a => exact fz
theorem okl {α : Type} {f : α → D} {m : Option α} : VO (okO fr (m.map fun a => Rv.own (f a))) := by
  cases m with
  | none => exact no
  | some a => exact own
theorem it {p : Prop} [Decidable p] {a b : Out Rv} (h : VO a) (k : VO b) : VO (if p then a else b) := by
  by_cases q : p
  · rw [if_pos q]; exact h
  · rw [if_neg q]; exact k
theorem self {r : Rv} : VO (match rvV r with | none => none | some _ => some (.ok r, fr)) := by
  rcases r with _ | _ | _
  · exact fz
  · exact own
  · exact no
theorem o1 {α : Type} {o : Option α} {F : Option α → Out Rv} (h : ∀ a, VO (F (some a))) (k : VO (F none)) : VO (F o) := by
  cases o with
  | none => exact k
  | some a => exact h a
end VO
theorem callO_vo {f : Nat} {rs : List Rv} {fr : Frame} : VO (callO c f rs fr) := by
  unfold callO
  cases argSlots fr rs with
  | none => exact .no
  | some ss =>
    refine .it ?_ .no
    rcases c.call c.hd f ss with _ | ⟨_ | r, o⟩
    · exact .no
    · exact .err
    · exact .self
theorem ev_vo (x : Ex) (fr : Frame) (hx : ∀ p, x ≠ .pl p) : VO (ev c x fr) := by
  cases x with
  | lit d => exact .fz
  | gl k => rw [ev_gl]; cases c.glob[k]? with
    | none => exact .no
    | some d => exact .fz
  | var i => rw [ev_var]; rcases fr[i]? with _ | ⟨_ | _ | _ | _ | _⟩ <;> first | exact .no | exact .fz
  | pl p => exact absurd rfl (hx p)
  | tup es => exact .bd fun _ _ => .okf
  | list es => exact .bd fun _ _ => .okl
  | op2 o a b =>
    exact .bd fun x _ => .bd fun y fr => by
      cases rvD fr x <;> cases rvD fr y <;> first | exact .no | exact .okv
  | neg a => exact .bd fun x _ => by cases rvV x <;> first | exact .no | exact .okf (f := id)
  | not a => exact .bd fun x fr => by cases rvD fr x <;> first | exact .no | exact .fz
  | cmp o a b =>
    exact .bd fun x _ => .bd fun y fr => by
      cases rvD fr x <;> cases rvD fr y <;> first | exact .no | exact .okf
  | cmp2 o p a b e =>
    exact .bd fun x _ => .bd fun y fr => by
      cases rvV x <;> cases rvV y <;> first | exact .no | skip
      rename_i d d'
      show VO (match cmpD o d d' with | none => none | some t => _)
      cases cmpD o d d' with
      | none => exact .no
      | some t => exact .it (.bd fun z fr => by cases rvV z <;> first | exact .no | exact .okf) .fz
  | and es => exact fun _ _ h => evAnd_val h
  | or es => exact fun _ _ h => evOr_val h
  | ite t a b =>
    exact .bd fun x fr => by
      cases rvD fr x <;> first | exact .no | exact .it (.bd fun _ _ => .self) (.bd fun _ _ => .self)
  | idx a i =>
    exact .bd fun x _ => .bd fun y fr => by
      cases rvD fr x <;> cases rvV y <;> first | exact .no | exact .okf (f := id)
  | slc a l u =>
    exact .bd fun x _ => .bd fun y _ => .bd fun z fr => by
      cases rvD fr x <;> cases rvV y <;> cases rvV z <;> first | exact .no | exact .okv
  | call f args => exact .bd fun _ _ => callO_vo
  | bi b args => exact .it .no (.bd fun rs fr => by cases rvDs fr rs <;> first | exact .no | exact .okv)
  | comp elt t it src conds =>
    exact .it .no (.bd fun rs fr => by
      cases rvVs rs with
      | none => exact .no
      | some ds =>
        show VO (match iterD it ds with | none => none | some items => _)
        cases iterD it ds with
        | none => exact .no
        | some items => exact .bdN fun _ _ => .own)
  | dsel ks es i =>
    exact .bd fun rs fr => by
      cases rvVs rs with
      | none => exact .no
      | some ds => rcases fr[i]? with _ | ⟨_ | ⟨_ | _ | _ | _ | _ | _ | _⟩ | _ | _ | _⟩ <;> first | exact .no | exact .okf (f := id)
  | isx i yes no => rw [ev_isx]; rcases fr[i]? with _ | ⟨_ | _ | _ | _ | _⟩ <;> first | exact .no | exact .it .fz (.it .fz .no)
theorem ev_val {x : Ex} {fr fr' : Frame} {r : Rv} (h : ev c x fr = some (.ok r, fr')) : (∃ d, rvV r = some d) ∨ ∃ p, r = .pl p ∧ x = .pl p := by
  by_cases hx : ∃ p, x = .pl p
  · obtain ⟨p, rfl⟩ := hx
    rw [ev_pl] at h
    by_cases q : plLive fr p = true
    · rw [if_pos q] at h; cases h; exact .inr ⟨p, rfl, rfl⟩
    · rw [if_neg q] at h; exact nos h
  · exact .inl (ev_vo x fr (fun p q => hx ⟨p, q⟩) r fr' h)

theorem apart_of {x : Ex} {fr fr' : Frame} {r : Rv} {bv : List Nat} (h : ev c x fr = some (.ok r, fr')) (ap : Apart x bv) : ∀ i ∈ plVars r, i ∉ bv := by
  rcases ev_val h with ⟨d, e⟩ | ⟨p, rfl, rfl⟩
  · rw [plVars_of e]; intro i hi; cases hi
  · intro i hi
    refine ap i ?_
    cases p <;> exact hi
end

section
variable {A : Around} {B : Heap} {mg mb : Str → Option Value} {tb : Tb} {c : Cfg} {n : Nat} {env : Env} {sc : Sc} {y : Lay}
  {bv bv' : List Nat} {own own₁ : Addr → Option Nat} {Z Z₁ : Addr → Prop} {s s₁ : Shared} {fr fr₁ : Frame}

noncomputable def SE (prog : Program) (w : World) (A : Around) (B : Heap) (c : Cfg) (y : Lay) (m : Sem Value) (x : Ex) : Prop := ∀ (own : Addr → Option Nat) (Z : Addr → Prop) (s : Shared) (fr : Frame) (out : Except Str Rv × Frame), ev c x fr = some out → Inv B y own Z s.heap fr →
  wpAny (model prog w) A m (PostE B y (bvE x) own Z s out) (PostX B y (bvE x) own Z s out) s
inductive PostT (B : Heap) (y : Lay) (bv : List Nat) (own : Addr → Option Nat) (Z : Addr → Prop) (s : Shared) (out : Except Str Rv × Frame) (b : Bool) (s' : Shared) : Prop
  | mk (r : Rv) (d : D) (own' : Addr → Option Nat) (Z' : Addr → Prop) : out.1 = .ok r → rvD out.2 r = some d → b = truthD d → Inv B y own' Z' s'.heap out.2 → Step y bv own Z s own' Z' s' → PostT B y bv own Z s out b s'
noncomputable def ST (prog : Program) (w : World) (A : Around) (B : Heap) (c : Cfg) (y : Lay) (m : Sem Bool) (x : Ex) : Prop := ∀ (own : Addr → Option Nat) (Z : Addr → Prop) (s : Shared) (fr : Frame) (out : Except Str Rv × Frame), ev c x fr = some out → (∀ r, out.1 = .ok r → ∃ d, rvD out.2 r = some d) → Inv B y own Z s.heap fr →
  wpAny (model prog w) A m (PostT B y (bvE x) own Z s out) (PostX B y (bvE x) own Z s out) s

theorem seqE {β : Type} {m : Sem Value} {mo : Out Rv} {k : Rv → Frame → Out β} {out : Except Str β × Frame} {Q : Value → Shared → Prop} (hk : bndK mo k = some out) (S : Step y bv' own Z s own₁ Z₁ s₁) (hb : ∀ i ∈ bv, i ∈ bv')
    (H : ∀ o, mo = some o → wpAny (model prog w) A m (PostE B y bv own₁ Z₁ s₁ o) (PostX B y bv own₁ Z₁ s₁ o) s₁)
    (K : ∀ r fr₂ own₂ Z₂ s₂ v, mo = some (.ok r, fr₂) → k r fr₂ = some out → Inv B y own₂ Z₂ s₂.heap fr₂ → Step y bv own₁ Z₁ s₁ own₂ Z₂ s₂ → Step y bv' own Z s own₂ Z₂ s₂ → RvAt y own₂ Z₂ s₁.heap s₂.heap r v → Q v s₂) :
    wpAny (model prog w) A m Q (PostX B y bv' own Z s out) s₁ := by
  rcases bnd_some hk with ⟨e, f, hm, rfl⟩ | ⟨r, f, hm, hk⟩
  · refine wpAny_mono (H _ hm) (fun v s' p => ?_) fun _ _ x => x.up hb S
    obtain ⟨r, _, _, q, _⟩ := p; cases q
  · refine wpAny_mono (H _ hm) (fun v s' p => ?_) fun _ _ x => x.elim
    obtain ⟨r', own', Z', q, I, S', R⟩ := p
    cases q
    exact K r f own' Z' s' v hm hk I S' (S.trans (S'.sub hb)) R
theorem seqT {β : Type} {m : Sem Bool} {mo : Out Rv} {k : Rv → Frame → Out β} {out : Except Str β × Frame} {Q : Bool → Shared → Prop} (hk : bndK mo k = some out) (S : Step y bv' own Z s own₁ Z₁ s₁) (hb : ∀ i ∈ bv, i ∈ bv')
    (hd : ∀ r fr₂, k r fr₂ = some out → ∃ d, rvD fr₂ r = some d)
    (H : ∀ o, mo = some o → (∀ r, o.1 = .ok r → ∃ d, rvD o.2 r = some d) → wpAny (model prog w) A m (PostT B y bv own₁ Z₁ s₁ o) (PostX B y bv own₁ Z₁ s₁ o) s₁)
    (K : ∀ r d fr₂ own₂ Z₂ s₂, k r fr₂ = some out → rvD fr₂ r = some d → Inv B y own₂ Z₂ s₂.heap fr₂ → Step y bv own₁ Z₁ s₁ own₂ Z₂ s₂ → Step y bv' own Z s own₂ Z₂ s₂ → Q (truthD d) s₂) :
    wpAny (model prog w) A m Q (PostX B y bv' own Z s out) s₁ := by
  rcases bnd_some hk with ⟨e, f, hm, rfl⟩ | ⟨r, f, hm, hk⟩
  · refine wpAny_mono (H _ hm fun r q => by cases q) (fun v s' p => ?_) fun _ _ x => x.up hb S
    obtain ⟨r, _, _, _, q, _⟩ := p; cases q
  · refine wpAny_mono (H _ hm fun r' q => by cases q; exact hd r f hk) (fun v s' p => ?_) fun _ _ x => x.elim
    obtain ⟨r', d, own', Z', q, e, rfl, I, S'⟩ := p
    cases q
    exact K r d f own' Z' s' hk e I S' (S.trans (S'.sub hb))

theorem toks_step {tk : Nat} (S : Step y bv own Z s own₁ Z₁ s₁) : Step y bv own Z s own₁ Z₁ { s₁ with toks := tk } :=
  S.trans (Step.grow (tk := tk) (fun _ _ e => e))
theorem ST.of {e : Expr} {x : Ex} (H : SE prog w A B c y (eval e env) x) (he : isTrue e env (eval e env) = (do let v ← eval e env; standAt e.pos; holding [v] (truthy v))) : ST prog w A B c y (isTrue e env (eval e env)) x := by
  intro own Z s fr out h hd I
  refine isTrue_plain (wpAny_mono (H own Z s fr out h I) (fun v s' p => ?_) fun _ _ x => x) he
  obtain ⟨r, own', Z', e, I', S, R⟩ := p
  obtain ⟨d, hr⟩ := hd r e
  exact op_truth (R.dat I' hr) fun tk => ⟨r, d, own', Z', e, hr, rfl, I', toks_step S⟩

/-! ### leaves -/
theorem se_lit {k : Const} {kk : Nat} {pos : Pos} {d : D} (hk : ConstIs k d) : SE prog w A B c y (eval (.Constant k kk pos) env) (.lit d) := by
  intro own Z s fr out h I
  cases h
  cases hk with
  | none => exact wpAny_Constant_none (.val I .refl .none)
  | bool b => exact wpAny_Constant_bool (.val I .refl (.bool b))
  | int i => exact wpAny_Constant_int (.val (s' := { s with toks := s.toks + 1 }) I (toks_step .refl) (.int i _))
  | str x hx hz => exact wpAny_Constant_str (.val (s' := { s with toks := s.toks + 1 }) I (toks_step .refl) (.str x _ hx hz))
theorem se_gl {x : Str} {pos : Pos} {k : Nat} (R : Rn prog w A B mg mb tb c n) (en : EnvOk A sc env y) (hx : sc.isG x) (hk : tb.gl[k]? = some x) : SE prog w A B c y (eval (.Name x pos) env) (.gl k) := by
  intro own Z s fr out h I
  rw [ev_gl] at h
  split at h
  · rename_i d hd
    cases h
    obtain ⟨v, hv, hr⟩ := R.gd.gl k x d hk hd
    exact load_glob R.gd en I hx hv (.val I .refl (hr _ _ I.base I.zb))
  · cases h
theorem se_var {x : Str} {pos : Pos} {i : Nat} (en : EnvOk A sc env y) (hx : sc.isV x i) : SE prog w A B c y (eval (.Name x pos) env) (.var i) := by
  intro own Z s fr out h I
  rw [ev_var] at h
  split at h
  · rename_i d hd
    cases h
    obtain ⟨l, v, hl, hr, q⟩ := I.at' i _ hd (by intro n; cases n)
    exact load_var en hx hl hr (.val I .refl q)
  · rename_i d hd
    cases h
    obtain ⟨l, a, hl, hr, oa, q, I'⟩ := I.freeze hd
    exact load_var en hx hl hr (.val I' (.freeze oa) q)
  · cases h
theorem se_pl {x : Str} {pos : Pos} {i : Nat} (en : EnvOk A sc env y) (hx : sc.isV x i) : SE prog w A B c y (eval (.Name x pos) env) (.pl (.var i)) := by
  intro own Z s fr out h I
  rw [ev_pl] at h
  split at h
  · rename_i hl
    cases h
    simp only [plLive] at hl
    split at hl
    · rename_i sl e
      obtain ⟨l, v, hl, hr, q⟩ := I.at' i _ e (by rintro rfl; cases hl)
      exact load_var en hx hl hr ⟨_, own, Z, rfl, I, .refl, l, hl, hr⟩
    · cases hl
  · cases h
end
end Mv

end

section
set_option maxRecDepth 100000
set_option linter.unusedSectionVars false
set_option linter.unusedVariables false
namespace Mv
open PySem PyProof.Rows
variable [Hp]

section
variable {A : Around} {B : Heap} {mg mb : Str → Option Value} {tb : Tb} {c : Cfg} {n : Nat} {env : Env} {sc : Sc} {y : Lay}
  {bv bv' : List Nat} {own own₁ : Addr → Option Nat} {Z Z₁ : Addr → Prop} {s s₁ : Shared} {fr fr₁ : Frame}

theorem Rn.cl (R : Rn prog w A B mg mb tb c n) : A.units + 66 < cLine := by
  have := R.un
  show A.units + 66 < 9900
  omega

theorem inl_ {a b : List Nat} : ∀ i ∈ a, i ∈ a ++ b := fun i h => List.mem_append_left _ h
theorem inr_ {a b : List Nat} : ∀ i ∈ b, i ∈ a ++ b := fun i h => List.mem_append_right _ h

theorem se_op2 {ea eb : Expr} {o : Op2} {xa xb : Ex} {pos : Pos} (Ha : SE prog w A B c y (eval ea env) xa) (Hb : SE prog w A B c y (eval eb env) xb) (ap : Apart xa (bvE xb)) : SE prog w A B c y (eval (.BinOp ea (opOf o) eb pos) env) (.op2 o xa xb) := by
  intro own Z s fr out h I
  rw [ev_op2] at h
  refine wpAny_BinOp (seqE (bv := bvE xa) (bv' := bvE xa ++ bvE xb) h .refl inl_ (fun o e => Ha own Z s fr o e I) fun r fr₁ own₁ Z₁ s₁ v e₁ h I₁ S₁ S R => ?_)
  refine seqE (bv := bvE xb) h S inr_ (fun o e => Hb own₁ Z₁ s₁ fr₁ o e I₁) fun r' fr₂ own₂ Z₂ s₂ v' e₂ h I₂ S₂ S R' => ?_
  have R2 := S₂.rv I₁ (apart_of e₁ ap) R
  split at h
  · rename_i d e hd he
    obtain ⟨q, hq, rfl⟩ := okV_eq h
    exact wpAny_mono (E := PostX B y (bvE xa ++ bvE xb) own Z s (.ok q, fr₂)) (op_bin (by cases o <;> rfl) hq (R2.dat I₂ hd) (R'.dat I₂ he)) (fun v s' p => p.post I₂ S) fun _ _ x => x
  · cases h
theorem se_neg {ea : Expr} {xa : Ex} {pos : Pos} (Ha : SE prog w A B c y (eval ea env) xa) : SE prog w A B c y (eval (.UnaryOp .USub ea pos) env) (.neg xa) := by
  intro own Z s fr out h I
  rw [ev_neg] at h
  refine UnaryOp_ (seqE (bv := bvE xa) h .refl (fun _ h => h) (fun o e => Ha own Z s fr o e I) fun r fr₁ own₁ Z₁ s₁ v e₁ h I₁ S₁ S R => ?_)
  split at h
  · rename_i d hd
    obtain ⟨q, hq, rfl⟩ := okO_eq h
    rw [Option.map_eq_some_iff] at hq; obtain ⟨e, he, rfl⟩ := hq
    have hd' : rvD fr₁ r = some d := by cases r <;> first | exact hd | cases hd
    exact wpAny_mono (op_neg he (R.dat I₁ hd')) (fun v s' p => p.post I₁ S) fun _ _ x => x
  · cases h
theorem se_not {ea : Expr} {xa : Ex} {pos : Pos} (Ha : SE prog w A B c y (eval ea env) xa) : SE prog w A B c y (eval (.UnaryOp .Not ea pos) env) (.not xa) := by
  intro own Z s fr out h I
  rw [ev_not] at h
  refine UnaryOp_ (seqE (bv := bvE xa) h .refl (fun _ h => h) (fun o e => Ha own Z s fr o e I) fun r fr₁ own₁ Z₁ s₁ v e₁ h I₁ S₁ S R => ?_)
  split at h
  · rename_i d hd
    cases h
    exact wpAny_mono (op_not (R.dat I₁ hd)) (fun v s' p => p.post I₁ S) fun _ _ x => x
  · cases h
theorem st_not {ea : Expr} {xa : Ex} {pos : Pos} {whole : Sem Value} (Ha : ST prog w A B c y (isTrue ea env (eval ea env)) xa) : ST prog w A B c y (isTrue (.UnaryOp .Not ea pos) env whole) (.not xa) := by
  intro own Z s fr out h _ I
  rw [ev_not] at h
  refine isTrue_not (seqT (bv := bvE xa) h .refl (fun _ h => h) (fun r fr₂ h => ?_) (fun o e hd => Ha own Z s fr o e hd I) fun r d fr₁ own₁ Z₁ s₁ h hd I₁ S₁ S => ?_)
  · split at h
    · exact ⟨_, by assumption⟩
    · cases h
  · rw [hd] at h
    cases h
    exact ⟨_, _, own₁, Z₁, rfl, rfl, rfl, I₁, S⟩
theorem se_cmp {ea eb : Expr} {o : Cm} {xa xb : Ex} {pos : Pos} (R : Rn prog w A B mg mb tb c n) (Ha : SE prog w A B c y (eval ea env) xa) (Hb : SE prog w A B c y (eval eb env) xb) (ap : Apart xa (bvE xb)) (hm : behindInMarks (cmOp o) eb = false) : SE prog w A B c y (eval (.Compare ea [cmOp o] [eb] pos) env) (.cmp o xa xb) := by
  intro own Z s fr out h I
  rw [ev_cmp] at h
  refine wpAny_Compare1 (seqE (bv := bvE xa) (bv' := bvE xa ++ bvE xb) h .refl inl_ (fun o e => Ha own Z s fr o e I) fun r fr₁ own₁ Z₁ s₁ v e₁ h I₁ S₁ S R1 => ?_) hm
  refine seqE (bv := bvE xb) h S inr_ (fun o e => Hb own₁ Z₁ s₁ fr₁ o e I₁) fun r' fr₂ own₂ Z₂ s₂ v' e₂ h I₂ S₂ S R' => ?_
  have R2 := S₂.rv I₁ (apart_of e₁ ap) R1
  split at h
  · rename_i d e hd he
    obtain ⟨q, hq, rfl⟩ := okO_eq h
    rw [Option.map_eq_some_iff] at hq; obtain ⟨b, hb, rfl⟩ := hq
    exact wpAny_mono (op_cmp hb (R2.dat I₂ hd) (R'.dat I₂ he) R.cl) (fun v s' p => p.post I₂ S) fun _ _ x => x
  · cases h
theorem OpPost.boolV {Z : Addr → Prop} {s s' : Shared} {b : Bool} {v : Value} (p : OpPost Z s (.fz (.bool b)) v s') : v = .bool b ∧ ∃ h' tk, s' = { s with heap := h', toks := tk } ∧ ∀ a o, s.heap.get? a = some o → h'.get? a = some o := by
  obtain ⟨h', tk, rfl, k, q⟩ := p
  cases q with
  | old R => exact ⟨Dat.bool (.inl R), h', tk, rfl, k⟩
  | new e e' R => exact ⟨Dat.bool (.inl R), h', tk, rfl, k⟩
theorem st_cmp {ea eb : Expr} {o : Cm} {xa xb : Ex} {pos : Pos} {whole : Sem Value} (R : Rn prog w A B mg mb tb c n) (Ha : SE prog w A B c y (eval ea env) xa) (Hb : SE prog w A B c y (eval eb env) xb) (ap : Apart xa (bvE xb)) (hm : behindInMarks (cmOp o) eb = false) : ST prog w A B c y (isTrue (.Compare ea [cmOp o] [eb] pos) env whole) (.cmp o xa xb) := by
  intro own Z s fr out h _ I
  rw [ev_cmp] at h
  refine wpAny_isTrue_Compare1 (seqE (bv := bvE xa) (bv' := bvE xa ++ bvE xb) h .refl inl_ (fun o e => Ha own Z s fr o e I) fun r fr₁ own₁ Z₁ s₁ v e₁ h I₁ S₁ S R1 => ?_) hm
  refine seqE (bv := bvE xb) h S inr_ (fun o e => Hb own₁ Z₁ s₁ fr₁ o e I₁) fun r' fr₂ own₂ Z₂ s₂ v' e₂ h I₂ S₂ S R' => ?_
  have R2 := S₂.rv I₁ (apart_of e₁ ap) R1
  split at h
  · rename_i d e hd he
    obtain ⟨q, hq, rfl⟩ := okO_eq h
    rw [Option.map_eq_some_iff] at hq; obtain ⟨b, hb, rfl⟩ := hq
    refine wpAny_mono (op_cmp hb (R2.dat I₂ hd) (R'.dat I₂ he) R.cl) (fun v s' p => ?_) fun _ _ x => x
    obtain ⟨rfl, h', tk, rfl, k⟩ := p.boolV
    exact wpAny_truthy_bool ⟨_, _, own₂, Z₂, rfl, rfl, rfl, I₂.grow k, S.trans (.grow k)⟩
  · cases h
theorem lastMarks2 {o p : CmpOp} {b e : Expr} (h : behindInMarks p e = false) : lastMarks [o, p] [b, e] = false := by
  simpa [lastMarks] using h
theorem rvV_D {fr : Frame} {r : Rv} {d : D} (h : rvV r = some d) : rvD fr r = some d := by cases r <;> first | exact h | cases h
theorem rv_apart {r : Rv} {d : D} {bv : List Nat} (h : rvV r = some d) : ∀ i ∈ plVars r, i ∉ bv := by rw [plVars_of h]; intro i hi; cases hi
theorem se_cmp2 {ea eb ec : Expr} {o p : Cm} {xa xb xc : Ex} {pos : Pos} (R : Rn prog w A B mg mb tb c n) (Ha : SE prog w A B c y (eval ea env) xa) (Hb : SE prog w A B c y (eval eb env) xb) (Hc : SE prog w A B c y (eval ec env) xc) (hm : behindInMarks (cmOp p) ec = false) :
    SE prog w A B c y (eval (.Compare ea [cmOp o, cmOp p] [eb, ec] pos) env) (.cmp2 o p xa xb xc) := by
  intro own Z s fr out h I
  rw [ev_cmp2] at h
  refine Compare_chain (seqE (bv := bvE xa) (bv' := bvE xa ++ bvE xb ++ bvE xc) h .refl (fun i h => inl_ i (inl_ i h)) (fun o e => Ha own Z s fr o e I) fun r fr₁ own₁ Z₁ s₁ v e₁ h I₁ S₁ S R1 => ?_) (lastMarks2 hm)
  refine chain_link (seqE (bv := bvE xb) h S (fun i h => inl_ i (inr_ i h)) (fun o e => Hb own₁ Z₁ s₁ fr₁ o e I₁) fun r' fr₂ own₂ Z₂ s₂ v' e₂ h I₂ S₂ S R' => ?_)
  split at h
  · rename_i d e hd he
    have R2 := S₂.rv I₁ (rv_apart hd) R1
    split at h
    · cases h
    · rename_i t ht
      refine wpAny_mono (op_cmp ht (R2.dat I₂ (rvV_D hd)) (R'.dat I₂ (rvV_D he)) R.cl) (fun v s' p => ?_) fun _ _ x => x
      obtain ⟨rfl, h', tk, rfl, k⟩ := p.boolV
      refine wpAny_truthy_bool ?_
      cases t with
      | false =>
        rw [if_neg (by simp)] at h ⊢
        cases h
        exact .val (I₂.grow k) (S.trans (.grow k)) (.bool _)
      | true =>
        rw [if_pos rfl] at h ⊢
        have I₃ := I₂.grow k
        have S₃ : Step y (bvE xb) own₂ Z₂ s₂ own₂ Z₂ { s₂ with heap := h', toks := tk } := .grow k
        refine chain_last (seqE (bv := bvE xc) h (S.trans (.grow k)) inr_ (fun o e => Hc own₂ Z₂ _ fr₂ o e I₃) fun r3 fr₃ own₃ Z₃ s₃ v3 e₃ h I₃' S₃' S R3 => ?_)
        split at h
        · rename_i d3 hd3
          obtain ⟨q, hq, rfl⟩ := okO_eq h
          rw [Option.map_eq_some_iff] at hq; obtain ⟨b, hb, rfl⟩ := hq
          have Rb := S₃'.rv I₃ (rv_apart he) (S₃.rv I₂ (rv_apart he) R')
          exact wpAny_mono (op_cmp hb (Rb.dat I₃' (rvV_D he)) (R3.dat I₃' (rvV_D hd3)) R.cl) (fun v s' p => p.post I₃' S) fun _ _ x => x
        · cases h
  · cases h
theorem st_cmp2 {ea eb ec : Expr} {o p : Cm} {xa xb xc : Ex} {pos : Pos} {whole : Sem Value} (R : Rn prog w A B mg mb tb c n) (Ha : SE prog w A B c y (eval ea env) xa) (Hb : SE prog w A B c y (eval eb env) xb) (Hc : SE prog w A B c y (eval ec env) xc) (hm : behindInMarks (cmOp p) ec = false) :
    ST prog w A B c y (isTrue (.Compare ea [cmOp o, cmOp p] [eb, ec] pos) env whole) (.cmp2 o p xa xb xc) := by
  intro own Z s fr out h _ I
  rw [ev_cmp2] at h
  refine isTrue_chain (seqE (bv := bvE xa) (bv' := bvE xa ++ bvE xb ++ bvE xc) h .refl (fun i h => inl_ i (inl_ i h)) (fun o e => Ha own Z s fr o e I) fun r fr₁ own₁ Z₁ s₁ v e₁ h I₁ S₁ S R1 => ?_) (lastMarks2 hm)
  refine test_link (seqE (bv := bvE xb) h S (fun i h => inl_ i (inr_ i h)) (fun o e => Hb own₁ Z₁ s₁ fr₁ o e I₁) fun r' fr₂ own₂ Z₂ s₂ v' e₂ h I₂ S₂ S R' => ?_)
  split at h
  · rename_i d e hd he
    have R2 := S₂.rv I₁ (rv_apart hd) R1
    split at h
    · cases h
    · rename_i t ht
      refine wpAny_mono (op_cmp ht (R2.dat I₂ (rvV_D hd)) (R'.dat I₂ (rvV_D he)) R.cl) (fun v s' p => ?_) fun _ _ x => x
      obtain ⟨rfl, h', tk, rfl, k⟩ := p.boolV
      refine wpAny_truthy_bool ?_
      cases t with
      | false =>
        rw [if_neg (by simp)] at h ⊢
        cases h
        exact ⟨_, _, own₂, Z₂, rfl, rfl, rfl, I₂.grow k, S.trans (.grow k)⟩
      | true =>
        rw [if_pos rfl] at h ⊢
        have I₃ := I₂.grow k
        have S₃ : Step y (bvE xb) own₂ Z₂ s₂ own₂ Z₂ { s₂ with heap := h', toks := tk } := .grow k
        refine test_last (seqE (bv := bvE xc) h (S.trans (.grow k)) inr_ (fun o e => Hc own₂ Z₂ _ fr₂ o e I₃) fun r3 fr₃ own₃ Z₃ s₃ v3 e₃ h I₃' S₃' S R3 => ?_)
        split at h
        · rename_i d3 hd3
          obtain ⟨q, hq, rfl⟩ := okO_eq h
          rw [Option.map_eq_some_iff] at hq; obtain ⟨b, hb, rfl⟩ := hq
          have Rb := S₃'.rv I₃ (rv_apart he) (S₃.rv I₂ (rv_apart he) R')
          refine wpAny_mono (op_cmp hb (Rb.dat I₃' (rvV_D he)) (R3.dat I₃' (rvV_D hd3)) R.cl) (fun v s' p => ?_) fun _ _ x => x
          obtain ⟨rfl, h', tk, rfl, k⟩ := p.boolV
          exact wpAny_truthy_bool ⟨_, _, own₃, Z₃, rfl, rfl, rfl, I₃'.grow k, S.trans (.grow k)⟩
        · cases h
  · cases h
theorem se_ite {et ea eb : Expr} {xt xa xb : Ex} {pos : Pos} (Ht : ST prog w A B c y (isTrue et env (eval et env)) xt) (Ha : SE prog w A B c y (eval ea env) xa) (Hb : SE prog w A B c y (eval eb env) xb) : SE prog w A B c y (eval (.IfExp et ea eb pos) env) (.ite xt xa xb) := by
  intro own Z s fr out h I
  rw [ev_ite] at h
  refine IfExp_ (seqT (bv := bvE xt) (bv' := bvE xt ++ bvE xa ++ bvE xb) h .refl (fun i h => inl_ i (inl_ i h)) (fun r fr₂ h => ?_) (fun o e hd => Ht own Z s fr o e hd I) fun r d fr₁ own₁ Z₁ s₁ h hd I₁ S₁ S => ?_)
  · split at h
    · exact ⟨_, by assumption⟩
    · cases h
  · rw [hd] at h
    dsimp only at h
    split at h
    · rename_i ht
      rw [if_pos ht]
      refine seqE (bv := bvE xa) h S (fun i h => inl_ i (inr_ i h)) (fun o e => Ha own₁ Z₁ s₁ fr₁ o e I₁) fun r' fr₂ own₂ Z₂ s₂ v' e₂ h I₂ S₂ S' R' => ?_
      split at h
      · cases h
      · cases h; exact ⟨_, own₂, Z₂, rfl, I₂, S', R'.since S₁.old⟩
    · rename_i ht
      rw [if_neg ht]
      refine seqE (bv := bvE xb) h S inr_ (fun o e => Hb own₁ Z₁ s₁ fr₁ o e I₁) fun r' fr₂ own₂ Z₂ s₂ v' e₂ h I₂ S₂ S' R' => ?_
      split at h
      · cases h
      · cases h; exact ⟨_, own₂, Z₂, rfl, I₂, S', R'.since S₁.old⟩
theorem st_ite {et ea eb : Expr} {xt xa xb : Ex} {pos : Pos} {whole : Sem Value} (Ht : ST prog w A B c y (isTrue et env (eval et env)) xt) (Ha : ST prog w A B c y (isTrue ea env (eval ea env)) xa) (Hb : ST prog w A B c y (isTrue eb env (eval eb env)) xb) :
    ST prog w A B c y (isTrue (.IfExp et ea eb pos) env whole) (.ite xt xa xb) := by
  intro own Z s fr out h _ I
  rw [ev_ite] at h
  refine isTrue_IfExp (seqT (bv := bvE xt) (bv' := bvE xt ++ bvE xa ++ bvE xb) h .refl (fun i h => inl_ i (inl_ i h)) (fun r fr₂ h => ?_) (fun o e hd => Ht own Z s fr o e hd I) fun r d fr₁ own₁ Z₁ s₁ h hd I₁ S₁ S => ?_)
  · split at h
    · exact ⟨_, by assumption⟩
    · cases h
  · rw [hd] at h
    dsimp only at h
    have dd : ∀ (r : Rv) (fr₂ : Frame), (match rvV r with | none => none | some _ => some ((Except.ok r : Except Str Rv), fr₂)) = some out → ∃ d, rvD fr₂ r = some d := fun r fr₂ h => by
      split at h
      · cases h
      · exact ⟨_, rvV_D (by assumption)⟩
    split at h
    · rename_i ht
      rw [if_pos ht]
      refine seqT (bv := bvE xa) h S (fun i h => inl_ i (inr_ i h)) dd (fun o e hd => Ha own₁ Z₁ s₁ fr₁ o e hd I₁) fun r' d' fr₂ own₂ Z₂ s₂ h e I₂ S₂ S' => ?_
      split at h
      · cases h
      · cases h; exact ⟨_, _, own₂, Z₂, rfl, e, rfl, I₂, S'⟩
    · rename_i ht
      rw [if_neg ht]
      refine seqT (bv := bvE xb) h S inr_ dd (fun o e hd => Hb own₁ Z₁ s₁ fr₁ o e hd I₁) fun r' d' fr₂ own₂ Z₂ s₂ h e I₂ S₂ S' => ?_
      split at h
      · cases h
      · cases h; exact ⟨_, _, own₂, Z₂, rfl, e, rfl, I₂, S'⟩
theorem se_idx {ea eb : Expr} {xa xb : Ex} {pos : Pos} (Ha : SE prog w A B c y (eval ea env) xa) (Hb : SE prog w A B c y (eval eb env) xb) (ap : Apart xa (bvE xb)) (hs : ∀ o i, subscripted eb false o i = operate [o, i] (getItem o i)) : SE prog w A B c y (eval (.Subscript ea eb pos) env) (.idx xa xb) := by
  intro own Z s fr out h I
  rw [ev_idx] at h
  refine Subscript_ (seqE (bv := bvE xa) (bv' := bvE xa ++ bvE xb) h .refl inl_ (fun o e => Ha own Z s fr o e I) fun r fr₁ own₁ Z₁ s₁ v e₁ h I₁ S₁ S R => ?_)
  refine seqE (bv := bvE xb) h S inr_ (fun o e => Hb own₁ Z₁ s₁ fr₁ o e I₁) fun r' fr₂ own₂ Z₂ s₂ v' e₂ h I₂ S₂ S R' => ?_
  have R2 := S₂.rv I₁ (apart_of e₁ ap) R
  split at h
  · rename_i d e hd he
    obtain ⟨q, hq, rfl⟩ := okO_eq h
    rw [Option.map_eq_some_iff] at hq; obtain ⟨b, hb, rfl⟩ := hq
    obtain ⟨T, id, hT, hl, hg⟩ := op_getItem (A := A) (E := PostX B y (bvE xa ++ bvE xb) own Z s ((.ok (.fz b) : Except Str Rv), fr₂)) hb (R2.dat I₂ hd) (R'.dat I₂ (rvV_D he))
    exact tail_any hT hl (wpAny_mono hg (fun v s' p => p.post I₂ S) fun _ _ x => x) (hs _ _)
  · cases h
theorem se_slc {ea : Expr} {lo hi : Option Expr} {xa xl xh : Ex} {p pos : Pos} (Ha : SE prog w A B c y (eval ea env) xa) (Hl : SE prog w A B c y (evalPart lo env) xl) (Hh : SE prog w A B c y (evalPart hi env) xh) (ap : Apart xa (bvE xl ++ bvE xh)) :
    SE prog w A B c y (eval (.Subscript ea (.Slice lo hi none p) pos) env) (.slc xa xl xh) := by
  intro own Z s fr out h I
  rw [ev_slc] at h
  refine Subscript_ (seqE (bv := bvE xa) (bv' := bvE xa ++ bvE xl ++ bvE xh) h .refl (fun i h => inl_ i (inl_ i h)) (fun o e => Ha own Z s fr o e I) fun r fr₁ own₁ Z₁ s₁ v e₁ h I₁ S₁ S R => ?_)
  refine wpAny_Slice (seqE (bv := bvE xl) h S (fun i h => inl_ i (inr_ i h)) (fun o e => Hl own₁ Z₁ s₁ fr₁ o e I₁) fun r2 fr₂ own₂ Z₂ s₂ v2 e₂ h I₂ S₂ S R' => ?_)
  refine seqE (bv := bvE xh) h S inr_ (fun o e => Hh own₂ Z₂ s₂ fr₂ o e I₂) fun r3 fr₃ own₃ Z₃ s₃ v3 e₃ h I₃ S₃ S R3 => ?_
  refine wpAny_of_eq (evalPart_none _) ?_
  split at h
  · rename_i d l u hd hl hu
    obtain ⟨q, hq, rfl⟩ := okV_eq h
    have Ra := S₃.rv I₂ (fun i hi hb => apart_of e₁ ap i hi (inr_ i hb)) (S₂.rv I₁ (fun i hi hb => apart_of e₁ ap i hi (inl_ i hb)) R)
    have Rl := S₃.rv I₂ (rv_apart hl) R'
    obtain ⟨T, id, hT, hlk, hg⟩ := op_slice (A := A) (E := PostX B y (bvE xa ++ bvE xl ++ bvE xh) own Z s ((.ok q : Except Str Rv), fr₃)) hq (Ra.dat I₃ hd) (Rl.dat I₃ (rvV_D hl)) (R3.dat I₃ (rvV_D hu))
    exact tail_any hT hlk (wpAny_mono hg (fun v s' p => p.post I₃ S) fun _ _ x => x) rfl
  · cases h
end
end Mv

end

section
set_option maxRecDepth 100000
set_option linter.unusedSectionVars false
set_option linter.unusedVariables false
namespace Mv
open PySem PyProof.Rows
variable [Hp]

noncomputable def F2 (P : Expr → Ex → Prop) : List Expr → List Ex → Prop
  | [], [] => True
  | e :: es, x :: xs => P e x ∧ Apart x (bvEs xs) ∧ F2 P es xs
  | _, _ => False

section
variable {A : Around} {B : Heap} {mg mb : Str → Option Value} {tb : Tb} {c : Cfg} {n : Nat} {env : Env} {sc : Sc} {y : Lay}
  {bv bv' : List Nat} {own own₁ : Addr → Option Nat} {Z Z₁ : Addr → Prop} {s s₁ : Shared} {fr fr₁ : Frame}

theorem PostE.from {out : Except Str Rv × Frame} {v : Value} {s' : Shared} (hb : ∀ i ∈ bv, i ∈ bv') (S : Step y bv' own Z s own₁ Z₁ s₁) (p : PostE B y bv own₁ Z₁ s₁ out v s') : PostE B y bv' own Z s out v s' := by
  obtain ⟨r, own', Z', e, I, S', R⟩ := p
  exact ⟨r, own', Z', e, I, S.trans (S'.sub hb), R.since S.old⟩
theorem PostT.from {out : Except Str Rv × Frame} {v : Bool} {s' : Shared} (hb : ∀ i ∈ bv, i ∈ bv') (S : Step y bv' own Z s own₁ Z₁ s₁) (p : PostT B y bv own₁ Z₁ s₁ out v s') : PostT B y bv' own Z s out v s' := by
  obtain ⟨r, d, own', Z', e, e', ev, I, S'⟩ := p
  exact ⟨r, d, own', Z', e, e', ev, I, S.trans (S'.sub hb)⟩

theorem se_and {pos : Pos} : ∀ {es : List Expr} {xs : List Ex}, F2 (fun e x => SE prog w A B c y (eval e env) x) es xs → SE prog w A B c y (eval (.BoolOp .And es pos) env) (.and xs)
  | [], [], _ => by intro own Z s fr out h I; cases h
  | [e], [x], F => by
    intro own Z s fr out h I
    rw [ev_and, evAnd_one] at h
    refine BoolOp_one (seqE (bv := bvE x) (bv' := bvE x ++ []) h .refl inl_ (fun o e => F.1 own Z s fr o e I) fun r fr₁ own₁ Z₁ s₁ v e₁ h I₁ S₁ S R => ?_)
    split at h
    · cases h
    · cases h; exact ⟨_, own₁, Z₁, rfl, I₁, S, R⟩
  | e :: e' :: es, x :: x' :: xs, F => by
    intro own Z s fr out h I
    rw [ev_and, evAnd_cons] at h
    refine BoolOp_and (seqE (bv := bvE x) (bv' := bvE x ++ bvEs (x' :: xs)) h .refl inl_ (fun o e => F.1 own Z s fr o e I) fun r fr₁ own₁ Z₁ s₁ v e₁ h I₁ S₁ S R => ?_)
    split at h
    · cases h
    · rename_i d hd
      refine op_truth (R.dat I₁ (rvV_D hd)) fun tk => ?_
      split at h
      · rename_i ht
        rw [if_pos ht]
        have S' := toks_step (tk := tk) S
        exact wpAny_mono (se_and (pos := pos) F.2.2 own₁ Z₁ { s₁ with toks := tk } fr₁ out h I₁) (fun v s' p => p.from inr_ S') fun e s' p => p.sub inr_ S'
      · rename_i ht
        rw [if_neg ht]
        cases h
        exact ⟨_, own₁, Z₁, rfl, I₁, toks_step S, R⟩
  | [], _ :: _, F => F.elim
  | _ :: _, [], F => F.elim
  | [_], _ :: _ :: _, F => F.2.2.elim
  | _ :: _ :: _, [_], F => F.2.2.elim
theorem se_or {pos : Pos} : ∀ {es : List Expr} {xs : List Ex}, F2 (fun e x => SE prog w A B c y (eval e env) x) es xs → SE prog w A B c y (eval (.BoolOp .Or es pos) env) (.or xs)
  | [], [], _ => by intro own Z s fr out h I; cases h
  | [e], [x], F => by
    intro own Z s fr out h I
    rw [ev_or, evOr_one] at h
    refine BoolOp_one (seqE (bv := bvE x) (bv' := bvE x ++ []) h .refl inl_ (fun o e => F.1 own Z s fr o e I) fun r fr₁ own₁ Z₁ s₁ v e₁ h I₁ S₁ S R => ?_)
    split at h
    · cases h
    · cases h; exact ⟨_, own₁, Z₁, rfl, I₁, S, R⟩
  | e :: e' :: es, x :: x' :: xs, F => by
    intro own Z s fr out h I
    rw [ev_or, evOr_cons] at h
    refine BoolOp_or (seqE (bv := bvE x) (bv' := bvE x ++ bvEs (x' :: xs)) h .refl inl_ (fun o e => F.1 own Z s fr o e I) fun r fr₁ own₁ Z₁ s₁ v e₁ h I₁ S₁ S R => ?_)
    split at h
    · cases h
    · rename_i d hd
      refine op_truth (R.dat I₁ (rvV_D hd)) fun tk => ?_
      split at h
      · rename_i ht
        rw [if_pos ht]
        cases h
        exact ⟨_, own₁, Z₁, rfl, I₁, toks_step S, R⟩
      · rename_i ht
        rw [if_neg ht]
        have S' := toks_step (tk := tk) S
        exact wpAny_mono (se_or (pos := pos) F.2.2 own₁ Z₁ { s₁ with toks := tk } fr₁ out h I₁) (fun v s' p => p.from inr_ S') fun e s' p => p.sub inr_ S'
  | [], _ :: _, F => F.elim
  | _ :: _, [], F => F.elim
  | [_], _ :: _ :: _, F => F.2.2.elim
  | _ :: _ :: _, [_], F => F.2.2.elim
theorem st_and {pos : Pos} {whole : Sem Value} : ∀ {es : List Expr} {xs : List Ex}, F2 (fun e x => ST prog w A B c y (isTrue e env (eval e env)) x) es xs → ST prog w A B c y (isTrue (.BoolOp .And es pos) env whole) (.and xs)
  | [], [], _ => by intro own Z s fr out h _ I; cases h
  | [e], [x], F => by
    intro own Z s fr out h _ I
    rw [ev_and, evAnd_one] at h
    refine isTrue_and (seqT (bv := bvE x) (bv' := bvE x ++ []) h .refl inl_ (fun r fr₂ h => ?_) (fun o e hd => F.1 own Z s fr o e hd I) fun r d fr₁ own₁ Z₁ s₁ h hd I₁ S₁ S => ?_)
    · split at h
      · cases h
      · exact ⟨_, rvV_D (by assumption)⟩
    · split at h
      · cases h
      · cases h
        cases ht : truthD d with
        | true => exact isTrue_and_nil ⟨_, _, own₁, Z₁, rfl, hd, ht.symm, I₁, S⟩
        | false => exact ⟨_, _, own₁, Z₁, rfl, hd, ht.symm, I₁, S⟩
  | e :: e' :: es, x :: x' :: xs, F => by
    intro own Z s fr out h hd0 I
    rw [ev_and, evAnd_cons] at h
    refine isTrue_and (seqT (bv := bvE x) (bv' := bvE x ++ bvEs (x' :: xs)) h .refl inl_ (fun r fr₂ h => ?_) (fun o e hd => F.1 own Z s fr o e hd I) fun r d fr₁ own₁ Z₁ s₁ h hd I₁ S₁ S => ?_)
    · split at h
      · cases h
      · exact ⟨_, rvV_D (by assumption)⟩
    · split at h
      · cases h
      · rename_i d' hd'
        have hd2 := rvV_D (fr := fr₁) hd'
        rw [hd] at hd2; cases hd2
        split at h
        · rename_i ht
          rw [if_pos ht]
          exact wpAny_mono (st_and (pos := pos) F.2.2 own₁ Z₁ s₁ fr₁ out h hd0 I₁) (fun v s' p => p.from inr_ S) fun e s' p => p.sub inr_ S
        · rename_i ht
          rw [if_neg ht]
          cases h
          exact ⟨_, _, own₁, Z₁, rfl, hd, by simpa using (by simpa using ht : truthD d = false).symm, I₁, S⟩
  | [], _ :: _, F => F.elim
  | _ :: _, [], F => F.elim
  | [_], _ :: _ :: _, F => F.2.2.elim
  | _ :: _ :: _, [_], F => F.2.2.elim
theorem st_or {pos : Pos} {whole : Sem Value} : ∀ {es : List Expr} {xs : List Ex}, F2 (fun e x => ST prog w A B c y (isTrue e env (eval e env)) x) es xs → ST prog w A B c y (isTrue (.BoolOp .Or es pos) env whole) (.or xs)
  | [], [], _ => by intro own Z s fr out h _ I; cases h
  | [e], [x], F => by
    intro own Z s fr out h _ I
    rw [ev_or, evOr_one] at h
    refine isTrue_or (seqT (bv := bvE x) (bv' := bvE x ++ []) h .refl inl_ (fun r fr₂ h => ?_) (fun o e hd => F.1 own Z s fr o e hd I) fun r d fr₁ own₁ Z₁ s₁ h hd I₁ S₁ S => ?_)
    · split at h
      · cases h
      · exact ⟨_, rvV_D (by assumption)⟩
    · split at h
      · cases h
      · cases h
        cases ht : truthD d with
        | true => exact ⟨_, _, own₁, Z₁, rfl, hd, ht.symm, I₁, S⟩
        | false => exact isTrue_or_nil ⟨_, _, own₁, Z₁, rfl, hd, ht.symm, I₁, S⟩
  | e :: e' :: es, x :: x' :: xs, F => by
    intro own Z s fr out h hd0 I
    rw [ev_or, evOr_cons] at h
    refine isTrue_or (seqT (bv := bvE x) (bv' := bvE x ++ bvEs (x' :: xs)) h .refl inl_ (fun r fr₂ h => ?_) (fun o e hd => F.1 own Z s fr o e hd I) fun r d fr₁ own₁ Z₁ s₁ h hd I₁ S₁ S => ?_)
    · split at h
      · cases h
      · exact ⟨_, rvV_D (by assumption)⟩
    · split at h
      · cases h
      · rename_i d' hd'
        have hd2 := rvV_D (fr := fr₁) hd'
        rw [hd] at hd2; cases hd2
        split at h
        · rename_i ht
          rw [if_pos ht]
          cases h
          exact ⟨_, _, own₁, Z₁, rfl, hd, ht.symm, I₁, S⟩
        · rename_i ht
          rw [if_neg ht]
          exact wpAny_mono (st_or (pos := pos) F.2.2 own₁ Z₁ s₁ fr₁ out h hd0 I₁) (fun v s' p => p.from inr_ S) fun e s' p => p.sub inr_ S
  | [], _ :: _, F => F.elim
  | _ :: _, [], F => F.elim
  | [_], _ :: _ :: _, F => F.2.2.elim
  | _ :: _ :: _, [_], F => F.2.2.elim

/-! ### several expressions -/
inductive PostEs (B : Heap) (y : Lay) (bv : List Nat) (own : Addr → Option Nat) (Z : Addr → Prop) (s : Shared) (out : Except Str (List Rv) × Frame) (vs : List Value) (s' : Shared) : Prop
  | mk (rs : List Rv) (own' : Addr → Option Nat) (Z' : Addr → Prop) : out.1 = .ok rs → Inv B y own' Z' s'.heap out.2 → Step y bv own Z s own' Z' s' → RvsAt y own' Z' s.heap s'.heap rs vs → PostEs B y bv own Z s out vs s'

theorem RvAt.frz {s' : Shared} {own' : Addr → Option Nat} {Z' : Addr → Prop} {r : Rv} {v : Value} (I : Inv B y own' Z' s'.heap fr) (S : Step y bv own Z s own' Z' s') (q : RvAt y own' Z' s.heap s'.heap r v) :
    ∃ Z'', Inv B y own' Z'' s'.heap fr ∧ Step y bv own Z s own' Z'' s' ∧ RvAt y own' Z'' s.heap s'.heap (frz r) v ∧ ∀ a, Z' a → Z'' a := by
  cases r with
  | fz d => exact ⟨Z', I, S, q, fun _ z => z⟩
  | own d =>
    obtain ⟨a, rfl, n0, nw, nf, nz, w⟩ := q
    obtain ⟨o, ho⟩ := w.live
    exact ⟨_, I.addZ nw nf ho, S.addZ n0, w.rep (fun _ z => .inl z) (.inr rfl), fun _ z => .inl z⟩
  | pl p => exact ⟨Z', I, S, q, fun _ z => z⟩
theorem plVars_frz (r : Rv) : plVars (frz r) = plVars r := by cases r <;> rfl
theorem RvsAt.since {h₀ h₁ h : Heap} (k : ∀ a, h₁.get? a = none → h₀.get? a = none) : ∀ {rs : List Rv} {vs : List Value}, RvsAt y own Z h₁ h rs vs → RvsAt y own Z h₀ h rs vs
  | [], [], _ => trivial
  | _ :: _, _ :: _, q => ⟨q.1.since k, RvsAt.since k q.2⟩
  | [], _ :: _, q => q.elim
  | _ :: _, [], q => q.elim
theorem RvsAt.repAll {h₀ h : Heap} : ∀ {rs : List Rv} {vs : List Value} {ds : List D}, RvsAt y own Z h₀ h rs vs → rvVs rs = some ds → RepAll h Z vs ds
  | [], [], ds, _, e => by cases e; exact .nil
  | r :: rs, v :: vs, ds, q, e => by
    simp only [rvVs] at e
    split at e
    · rename_i d ds' hd hds
      cases e
      refine .cons ?_ (RvsAt.repAll q.2 hds)
      have := q.1
      cases r with
      | fz d' => cases hd; exact this
      | own d' => cases hd; exact this
      | pl p => cases hd
    · cases e
  | [], _ :: _, _, q, _ => q.elim
  | _ :: _, [], _, q, _ => q.elim
theorem rvD_frz {fr : Frame} {r : Rv} {d : D} (h : rvD fr r = some d) : rvD fr (frz r) = some d := by cases r <;> exact h

theorem se_s {pos : Pos} : ∀ {es : List Expr} {xs : List Ex}, F2 (fun e x => CE tb sc e x ∧ SE prog w A B c y (eval e env) x) es xs → ∀ (own : Addr → Option Nat) (Z : Addr → Prop) (s : Shared) (fr : Frame) (out : Except Str (List Rv) × Frame), evs c xs fr = some out → Inv B y own Z s.heap fr →
    wpAny (model prog w) A (spliced (backTo pos (starEach es env))) (PostEs B y (bvEs xs) own Z s out) (PostX B y (bvEs xs) own Z s out) s
  | [], [], _ => by
    intro own Z s fr out h I
    cases h
    exact spliced_none ⟨[], own, Z, rfl, I, .refl, trivial⟩
  | e :: es, x :: xs, F => by
    intro own Z s fr out h I
    rw [evs_cons] at h
    refine spliced_more (seqE (bv := bvE x) (bv' := bvE x ++ bvEs xs) h .refl inl_ (fun o e => F.1.2 own Z s fr o e I) fun r fr₁ own₁ Z₁ s₁ v e₁ h I₁ S₁ S R => ?_) (F.1.1.star env es)
    obtain ⟨Z₂, I₂, S₂, R₂, _⟩ := R.frz I₁ S
    have ap : ∀ i ∈ plVars (frz r), i ∉ bvEs xs := by rw [plVars_frz]; exact apart_of e₁ F.2.1
    rcases bnd_some h with ⟨e', f, hm, rfl⟩ | ⟨rs, f, hm, h⟩
    · refine wpAny_mono (se_s (pos := pos) F.2.2 own₁ Z₂ s₁ fr₁ _ hm I₂) (fun vs s' p => ?_) fun e s' p => p.up inr_ S₂
      obtain ⟨_, _, _, q, _⟩ := p; cases q
    · refine wpAny_mono (se_s (pos := pos) F.2.2 own₁ Z₂ s₁ fr₁ _ hm I₂) (fun vs s' p => ?_) fun e s' p => p.elim
      obtain ⟨rs', own', Z', q, I', S', R'⟩ := p
      cases q
      cases h
      exact ⟨r :: rs, own', Z', rfl, I', S₂.trans (S'.sub inr_), S'.rv I₂ ap R₂, R'.since S₂.old⟩
  | [], _ :: _, F => F.elim
  | _ :: _, [], F => F.elim

theorem seqEs {β : Type} {m : Sem (List Value)} {mo : Out (List Rv)} {k : List Rv → Frame → Out β} {out : Except Str β × Frame} {Q : List Value → Shared → Prop} (hk : bndK mo k = some out) (S : Step y bv' own Z s own₁ Z₁ s₁) (hb : ∀ i ∈ bv, i ∈ bv')
    (H : ∀ o, mo = some o → wpAny (model prog w) A m (PostEs B y bv own₁ Z₁ s₁ o) (PostX B y bv own₁ Z₁ s₁ o) s₁)
    (K : ∀ rs fr₂ own₂ Z₂ s₂ vs, mo = some (.ok rs, fr₂) → k rs fr₂ = some out → Inv B y own₂ Z₂ s₂.heap fr₂ → Step y bv own₁ Z₁ s₁ own₂ Z₂ s₂ → Step y bv' own Z s own₂ Z₂ s₂ → RvsAt y own₂ Z₂ s₁.heap s₂.heap rs vs → Q vs s₂) :
    wpAny (model prog w) A m Q (PostX B y bv' own Z s out) s₁ := by
  rcases bnd_some hk with ⟨e, f, hm, rfl⟩ | ⟨r, f, hm, hk⟩
  · refine wpAny_mono (H _ hm) (fun v s' p => ?_) fun _ _ x => x.up hb S
    obtain ⟨r, _, _, q, _⟩ := p; cases q
  · refine wpAny_mono (H _ hm) (fun v s' p => ?_) fun _ _ x => x.elim
    obtain ⟨r', own', Z', q, I, S', R⟩ := p
    cases q
    exact K r f own' Z' s' v hm hk I S' (S.trans (S'.sub hb)) R

theorem evs_len : ∀ {xs : List Ex} {fr fr' : Frame} {rs : List Rv}, evs c xs fr = some (.ok rs, fr') → rs.length = xs.length
  | [], _, _, _, h => by cases h; rfl
  | x :: xs, _, _, _, h => by
    rw [evs_cons] at h
    rcases bnd_some h with ⟨_, _, _, q⟩ | ⟨a, f, _, q⟩
    · cases q
    · rcases bnd_some q with ⟨_, _, _, q⟩ | ⟨a', f', h', q⟩
      · cases q
      · cases q; rw [List.length_cons, List.length_cons, evs_len h']

theorem se_tup {es : List Expr} {xs : List Ex} {k : Nat} {pos : Pos} (F : F2 (fun e x => CE tb sc e x ∧ SE prog w A B c y (eval e env) x) es xs) (hl : xs.length ≤ 1000) : SE prog w A B c y (eval (.Tuple es k pos) env) (.tup xs) := by
  intro own Z s fr out h I
  rw [ev_tup] at h
  refine Tuple_ (seqEs (bv := bvEs xs) h .refl (fun _ h => h) (fun o e => se_s F own Z s fr o e I) fun rs fr₁ own₁ Z₁ s₁ vs e₁ h I₁ S₁ S R => ?_)
  obtain ⟨q, hq, rfl⟩ := okO_eq h
  rw [Option.map_eq_some_iff] at hq; obtain ⟨ds, hds, rfl⟩ := hq
  have hz : vs.length ≤ Sz := by rw [← R.length, evs_len e₁]; exact Nat.le_trans hl (by decide)
  exact wpAny_newObj_type ((OpPost.newT (R.repAll hds) hz).post I₁ S) (by show vs.toArray.size ≤ sizeLine; rw [List.size_toArray, ← sz_line]; exact hz)
theorem se_list {es : List Expr} {xs : List Ex} {pos : Pos} (F : F2 (fun e x => CE tb sc e x ∧ SE prog w A B c y (eval e env) x) es xs) (hl : xs.length ≤ 1000) : SE prog w A B c y (eval (.List es pos) env) (.list xs) := by
  intro own Z s fr out h I
  rw [ev_list] at h
  refine List_ (seqEs (bv := bvEs xs) h .refl (fun _ h => h) (fun o e => se_s F own Z s fr o e I) fun rs fr₁ own₁ Z₁ s₁ vs e₁ h I₁ S₁ S R => ?_)
  obtain ⟨q, hq, rfl⟩ := okO_eq h
  rw [Option.map_eq_some_iff] at hq; obtain ⟨ds, hds, rfl⟩ := hq
  have hz : vs.length ≤ Sz := by rw [← R.length, evs_len e₁]; exact Nat.le_trans hl (by decide)
  exact wpAny_newObj_type ((OpPost.newL (R.repAll hds) hz).post I₁ S) (by show vs.toArray.size ≤ sizeLine; rw [List.size_toArray, ← sz_line]; exact hz)
end
end Mv

end

section
set_option maxRecDepth 100000
set_option linter.unusedSectionVars false
set_option linter.unusedVariables false
namespace Mv
open PySem PyProof.Rows
variable [Hp]

section
variable {A : Around} {B : Heap} {mg mb : Str → Option Value} {tb : Tb} {c : Cfg} {n : Nat} {env : Env} {sc : Sc} {y : Lay}
  {bv bv' : List Nat} {own own₁ : Addr → Option Nat} {Z Z₁ : Addr → Prop} {s s₁ : Shared} {fr fr₁ : Frame}

theorem args_fn {es : List Expr} {xs : List Ex} {pos : Pos} {f : Value} {Q : Args → Shared → Prop} {E : Value → Shared → Prop} (F : F2 (fun e x => CE tb sc e x ∧ SE prog w A B c y (eval e env) x) es xs)
    (h : wpAny (model prog w) A (spliced (backTo pos (starEach es env))) (fun vs s' => Q ⟨vs, []⟩ s') E s) : wpAny (model prog w) A (evalArgs f true (backTo pos (starEach es env)) []) Q E s := by
  cases es with
  | nil =>
    unfold evalArgs
    show wpAny _ A (spliced [] >>= _) Q E s
    refine wpAny_bind (wpAny_mono h (fun vs s' h' => wpAny_holding (wpAny_bind (wpAny_pure (wpAny_bind (wpAny_pure (wpAny_pure h')))))) fun _ _ x => x)
  | cons e es =>
    cases xs with
    | nil => exact F.elim
    | cons x xs =>
      rw [F.1.1.star env es] at h ⊢
      exact Calls.evalArgs_plain h

theorem se_call {f : Nat} {d : DefRec} {es : List Expr} {xs : List Ex} {p pos : Pos} (R : Rn prog w A B mg mb tb c n) (en : EnvOk A sc env y) (hf : tb.fn[f]? = some d) (hg : sc.isG d.name)
    (F : F2 (fun e x => CE tb sc e x ∧ SE prog w A B c y (eval e env) x) es xs) : SE prog w A B c y (eval (.Call (.Name d.name p) es [] pos) env) (.call f xs) := by
  intro own Z s fr out h I
  rw [ev_call] at h
  obtain ⟨a, o, pm, code, doc, hm, ho, hd, hcr⟩ := R.gd.fn f d hf
  refine Call_Name rfl (load_glob R.gd en I hg hm ?_)
  refine Calls.callWith_function (o := o) (fd := Calls.docDef d.name d.params d.body d.scope pm code doc) (args_fn F ?_)
  refine seqEs (bv := bvEs xs) h .refl (fun _ h => h) (fun o e => se_s F own Z s fr o e I) fun rs fr₁ own₁ Z₁ s₁ vs e₁ h I₁ S₁ S Rs => ?_
  refine ⟨⟨I₁.base a o ho, hd⟩, ?_⟩
  unfold callO at h
  split at h
  · cases h
  · rename_i ss hss
    split at h
    · rename_i nd
      have key : ∀ res outs, c.call c.hd f ss = some (res, outs) → codeAny (model prog w) A (.call (.ref a) ⟨[] ++ vs, []⟩) (CallPost B (fun a => y.F a ∨ a = y.L) (ownC own₁ rs) Z₁ s₁ ss vs res outs) s₁ := fun res outs hc =>
        R.cs c.hd f ss res outs hc d hf a hm A _ _ _ _ vs R.dep R.un R.hh en.stk (call_gh I₁ rs) (call_slots I₁ Rs hss nd)
      split at h
      · cases h
      · rename_i e' outs hc
        refine wpAny_call (codeAny_mono (key _ _ hc) fun r s' P => ?_)
        cases h
        obtain ⟨own', Z', I', S', ⟨rv, v, q, _⟩ | ⟨nm, ea, q, rfl, X⟩⟩ := call_back I₁ Rs hss nd P
        · cases q
        · cases q
          exact ⟨_, ea, own', Z', rfl, rfl, I', S.trans (S'.sub fun i h => by cases h), X.mono fun b _ _ h => ⟨S.old b h.1, h.2⟩⟩
      · rename_i r outs hc
        split at h
        · cases h
        · rename_i dv hdv
          cases h
          refine wpAny_call (codeAny_mono (key _ _ hc) fun r s' P => ?_)
          obtain ⟨own', Z', I', S', ⟨rv, v, q, rfl, R'⟩ | ⟨nm, ea, q, _⟩⟩ := call_back I₁ Rs hss nd P
          rotate_left
          · cases q
          cases q
          exact ⟨_, own', Z', rfl, I', S.trans (S'.sub fun i h => by cases h), R'.since S.old⟩
    · cases h

theorem op_bi1 {b : Bi} {d : D} {r : Rv} {a : Value} {E : Value → Shared → Prop} (hb : b.one = true) (he : biD b [d] = some r) (hh : b.loops = true → A.handled = none) (ra : Dat s.heap Z a d) : wpAny (model prog w) A (call (biVal b) [a]) (OpPost Z s r) E s := by
  cases b with
  | len =>
    rw [b_len] at he
    cases hl : lenD d with
    | none => rw [hl] at he; exact nos he
    | some n => rw [hl] at he; obtain rfl := sos he; exact op_len hl ra
  | isi t => cases hb
  | sum =>
    cases d <;> first | exact nos he | skip
    obtain ⟨n, hn, rfl⟩ := Option.map_eq_some_iff.mp he
    exact op_sum (hh rfl) hn ra
  | all =>
    cases d <;> first | exact nos he | skip
    obtain ⟨n, hn, rfl⟩ := Option.map_eq_some_iff.mp he
    exact op_all (hh rfl) hn ra
  | abs =>
    cases d <;> first | exact nos he | skip
    obtain rfl := sos he
    exact op_abs ra
  | int =>
    cases d <;> first | exact nos he | skip
    obtain rfl := sos he
    exact op_intb ra
  | str => cases hb
  | tuple =>
    cases d <;> first | exact nos he | skip
    all_goals obtain rfl := sos he
    · exact op_tupleL ra
    · exact op_tupleT ra
  | list =>
    cases d <;> first | exact nos he | skip
    all_goals obtain rfl := sos he
    · exact op_listS (.inl ra)
    · exact op_listS (.inr ra)
  | _ => cases hb

theorem biCall {b : Bi} {pos : Pos} {args : List (Bool × Sem Value)} {Q : Value → Shared → Prop} {E : Value → Shared → Prop} (hplain : args.any (·.1) = false)
    (h : wpAny (model prog w) A (evalArgs (biVal b) true args []) (fun a s₁ => wpAny (model prog w) A (call (biVal b) ([] ++ a.pos) a.kw) Q E s₁) E s) :
    wpAny (model prog w) A (callWith pos (biVal b) [] args []) Q E s := by
  cases b with
  | len => exact Calls.callWith_builtin (first := []) hplain h
  | isi t => exact Calls.callWith_builtin (first := []) hplain h
  | sum => exact Calls.callWith_builtin (first := []) hplain h
  | all => exact Calls.callWith_builtin (first := []) hplain h
  | abs => exact Calls.callWith_builtin (first := []) hplain h
  | int => exact PyProof.Rows.callWith_type (first := []) hplain h
  | str => exact PyProof.Rows.callWith_type (first := []) hplain h
  | tuple => exact PyProof.Rows.callWith_type (first := []) hplain h
  | list => exact PyProof.Rows.callWith_type (first := []) hplain h
  | _ => exact Calls.callWith_builtin (first := []) hplain h

theorem se_bi1 {b : Bi} {e : Expr} {x : Ex} {p pos : Pos} (R : Rn prog w A B mg mb tb c n) (en : EnvOk A sc env y) (hb : b.one = true) (hg : sc.isG (biName b)) (hc : CE tb sc e x) (H : SE prog w A B c y (eval e env) x) :
    SE prog w A B c y (eval (.Call (.Name (biName b) p) [e] [] pos) env) (.bi b [x]) := by
  intro own Z s fr out h I
  rw [ev_bi] at h
  split at h
  · cases h
  · rename_i hl
    refine Call_Name (args := [e]) rfl (load_blt R.gd en I hg (biName_mem b) (biName_ne b) (boot_bi b) ?_)
    have F : F2 (fun e x => CE tb sc e x ∧ SE prog w A B c y (eval e env) x) [e] [x] := ⟨⟨hc, H⟩, (fun i _ h => by cases h), trivial⟩
    refine biCall (by rw [hc.star env []]; rfl) (args_fn F ?_)
    refine seqEs (bv := bvEs [x]) h .refl (fun _ h => h) (fun o e => se_s F own Z s fr o e I) fun rs fr₁ own₁ Z₁ s₁ vs e₁ h I₁ S₁ S Rs => ?_
    have hlen : rs.length = 1 := evs_len e₁
    match rs, vs, hlen, Rs with
    | [r], [v], _, Rs =>
      cases hr : rvD fr₁ r with
      | none => simp only [rvDs, hr] at h; cases h
      | some d =>
        simp only [rvDs, hr] at h
        obtain ⟨q, hq, rfl⟩ := okV_eq h
        refine wpAny_mono (op_bi1 hb hq (fun h' => R.hh ?_) (Rs.1.dat I₁ (rvD_frz hr))) (fun v s' p => p.post I₁ S) fun _ _ x => x
        cases hh : c.hd with
        | false => rfl
        | true => exact absurd (by rw [hh, h']; rfl) hl

theorem tyName_mem (t : Ty) : (tyName t : Str) ∈ biNames := by cases t <;> (dsimp only [tyName]; decide)
theorem tyName_ne (t : Ty) : (tyName t : Str) ≠ ("__name__" : Str) := by cases t <;> (dsimp only [tyName]; decide)
theorem se_isi {t : Ty} {e : Expr} {x : Ex} {p p' pos : Pos} (R : Rn prog w A B mg mb tb c n) (en : EnvOk A sc env y) (hg : sc.isG "isinstance") (hg' : sc.isG (tyName t)) (hc : CE tb sc e x) (H : SE prog w A B c y (eval e env) x) :
    SE prog w A B c y (eval (.Call (.Name "isinstance" p) [e, .Name (tyName t) p'] [] pos) env) (.bi (.isi t) [x]) := by
  intro own Z s fr out h I
  rw [ev_bi] at h
  rw [if_neg (by simp [Bi.loops])] at h
  refine Call_Name (args := [e, .Name (tyName t) p']) rfl (load_blt R.gd en I hg (biName_mem (.isi t)) (biName_ne (.isi t)) (boot_bi (.isi t)) ?_)
  refine biCall (b := .isi t) (by rw [hc.star env]; rfl) ?_
  rw [hc.star env]
  refine Calls.evalArgs_plain (Calls.spliced_cons ?_)
  rw [evs_cons] at h
  refine seqE (bv := bvE x) (bv' := bvE x ++ []) (k := fun r fr => match rvD fr r with | some d => okV fr (biD (.isi t) [d]) | none => none) (out := out) ?_ .refl inl_ (fun o e => H own Z s fr o e I) fun r fr₁ own₁ Z₁ s₁ v e₁ h I₁ S₁ S R1 => ?_
  · rcases he : ev c x fr with _ | ⟨_ | r, f⟩
    · rw [he] at h; exact h
    · rw [he] at h; exact h
    · rw [he] at h
      refine Eq.trans ?_ h
      show (match rvD f r with | some d => okV f (biD (.isi t) [d]) | none => none) = _
      simp only [evs_nil, bnd_ok, rvDs]
      cases rvD f r with
      | none => rfl
      | some d => rfl
  · split at h
    · rename_i d hd
      obtain ⟨q, hq, rfl⟩ := okV_eq h
      obtain rfl := sos hq
      refine Calls.spliced_cons (load_blt R.gd en I₁ hg' (tyName_mem t) (tyName_ne t) (boot_ty t) (Calls.spliced_nil ?_))
      exact wpAny_mono (op_isi t (R1.dat I₁ hd)) (fun v s' p => p.post I₁ S) fun _ _ x => x
    · cases h
theorem load_cls {x : Str} {pos : Pos} {V : Value} {E : Value → Shared → Prop} {Q : Value → Shared → Prop} (gd : Gd B mg mb c.glob tb) (en : EnvOk A sc env y) (I : Inv B y own Z s.heap fr) (hx : sc.isG x) (hv : mg x = some V ∨ (mg x = none ∧ mb x = some V)) (h : Q V s) :
    wpAny (model prog w) A (eval (.Name x pos) env) Q E s := by
  rcases hv with hv | ⟨h1, h2⟩
  · exact load_glob gd en I hx hv h
  · exact Calls.Name_function_global en.kind (en.gl x hx.1) (Calls.loadGlobal_builtin (by rw [en.glob]; exact gd.g.keeps I.base) h1 (by rw [en.blt]; exact gd.b.keeps I.base) h2 h) hx.2
theorem exc_mg {k : Str} {v : Value} (gd : Gd B mg mb c.glob tb) (I : Inv B y own Z s.heap fr) (sv : SlotV s.heap Z (fun a => own a = none) (.exc k) v) : ∃ a o C, v = .ref a ∧ s.heap.get? a = some o ∧ (o.cls = .ref C ∧ o.dict = none ∧ ∃ vs, o.data = .fields vs) ∧ mg k = some (.ref C) := by
  obtain ⟨a, o, C, m, rfl, za, e, hc, zm, hn, hm⟩ := sv
  refine ⟨a, o, C, rfl, e, hc, ?_⟩
  obtain ⟨o', es', ep', ho', hd', hk', hf'⟩ := gd.g.keeps I.base
  obtain ⟨o, es, ep, ho, hd, hk, hf⟩ := hn
  rw [ho] at ho'; cases ho'
  rw [hd] at hd'; cases hd'
  rw [← hf, hf'] at hm; exact hm
theorem exc_asked {yes no : List Str} {k : Str} {v V : Value} {b : Bool} (gd : Gd B mg mb c.glob tb) (I : Inv B y own Z s.heap fr) (ha : ∀ k C, mg k = some (.ref C) → (k ∈ yes → Asked B C V true) ∧ (k ∈ no → Asked B C V false)) (hb : (b = true ∧ k ∈ yes) ∨ (b = false ∧ k ∈ no))
    (sv : SlotV s.heap Z (fun a => own a = none) (.exc k) v) : ∃ a o C, v = .ref a ∧ s.heap.get? a = some o ∧ (o.cls = .ref C ∧ o.dict = none ∧ ∃ vs, o.data = .fields vs) ∧ Asked B C V b := by
  obtain ⟨a, o, C, rfl, e, hc, hk⟩ := exc_mg gd I sv
  refine ⟨a, o, C, rfl, e, hc, ?_⟩
  rcases hb with ⟨rfl, hb⟩ | ⟨rfl, hb⟩
  · exact (ha k C hk).1 hb
  · exact (ha k C hk).2 hb
theorem isx_out {k : Str} {yes no : List Str} {out : Except Str Rv × Frame} (h : (if yes.contains k = true then some (.ok (.fz (.bool true)), fr) else if no.contains k = true then some (.ok (.fz (.bool false)), fr) else none) = some out) : ∃ b, ((b = true ∧ k ∈ yes) ∨ (b = false ∧ k ∈ no)) ∧ out = (.ok (.fz (.bool b)), fr) := by
  by_cases q : yes.contains k = true
  · rw [if_pos q] at h; exact ⟨true, .inl ⟨rfl, List.contains_iff_mem.mp q⟩, (sos h).symm⟩
  · rw [if_neg q] at h
    by_cases q : no.contains k = true
    · rw [if_pos q] at h; exact ⟨false, .inr ⟨rfl, List.contains_iff_mem.mp q⟩, (sos h).symm⟩
    · rw [if_neg q] at h; exact nos h
theorem se_isx {x cn : Str} {i : Nat} {yes no : List Str} {p p1 p2 pos : Pos} (R : Rn prog w A B mg mb tb c n) (en : EnvOk A sc env y) (hg : sc.isG "isinstance") (hx : sc.isV x i) (hc : sc.isG cn) (hs : tb.sub.lookup cn = some (yes, no)) :
    SE prog w A B c y (eval (.Call (.Name "isinstance" p) [.Name x p1, .Name cn p2] [] pos) env) (.isx i yes no) := by
  intro own Z s fr out h I
  rw [ev_isx] at h
  obtain ⟨V, hV, ha⟩ := R.gd.ask cn yes no hs
  split at h
  · rename_i k hk
    obtain ⟨l, v, hl, hr, sv⟩ := I.at' i _ hk (by intro q; cases q)
    obtain ⟨b, hb, rfl⟩ := isx_out h
    obtain ⟨a, o, C, rfl, e, ho, ask⟩ := exc_asked R.gd I ha hb sv
    refine Call_Name (args := [.Name x p1, .Name cn p2]) rfl (load_blt R.gd en I hg (biName_mem (.isi .int)) (biName_ne (.isi .int)) (boot_bi (.isi .int)) ?_)
    refine biCall (b := .isi .int) rfl ?_
    refine Calls.evalArgs_plain (Calls.spliced_cons (load_var en hx hl hr ?_))
    refine Calls.spliced_cons (load_cls R.gd en I hc hV (Calls.spliced_nil ?_))
    exact (ask prog w A _ s a o I.base e ho).2 _ fun tk => .val (s' := { s with toks := tk }) I (toks_step .refl) (.bool b)
  · exact nos h
end
end Mv

end

section
set_option maxRecDepth 100000
set_option linter.unusedSectionVars false
set_option linter.unusedVariables false
namespace Mv
open PySem PyProof.Rows
variable [Hp]

noncomputable def Loose (y : Lay) (own : Addr → Option Nat) (Z : Addr → Prop) (h₀ h : Heap) (b : Addr) : Prop := h₀.get? b = none ∧ ¬ y.wr own b ∧ ¬ y.F b ∧ ¬ Z b ∧ ∃ o, h.get? b = some o

section
variable {B : Heap} {y : Lay} {bv bv' : List Nat} {own own' own'' : Addr → Option Nat} {Z Z' Z'' : Addr → Prop} {s s' s'' : Shared} {h h' h₀ : Heap} {fr fr' : Frame} {X : Addr → Prop}

theorem Step.loose (x : Step y bv own Z s own' Z' s') {b : Addr} (l : Loose y own Z h₀ s.heap b) : Loose y own' Z' h₀ s'.heap b ∧ ∀ o, s.heap.get? b = some o → s'.heap.get? b = some o := by
  obtain ⟨n0, nw, nf, nz, o, ho⟩ := l
  refine ⟨⟨n0, fun w => ?_, nf, fun z => ?_, x.ext.live b o ho⟩, fun o e => x.ext.keep b o e nw nf⟩
  · rcases wr_mono x.on b w with w | w
    · exact nw w
    · rw [w] at ho; cases ho
  · rcases x.zn b z with z | z | z
    · exact nz z
    · exact nw (.inl z)
    · rw [z] at ho; cases ho

theorem Inv.other (I : Inv B y own Z h fr) (hx : ∀ b, X b → ¬ y.wr own b ∧ ¬ y.F b ∧ ¬ Z b) (k : ∀ b o, ¬ X b → h.get? b = some o → h'.get? b = some o) : Inv B y own Z h' fr where
  wf := I.wf
  base := fun a o e => k a o (fun q => (hx a q).2.2 (I.zb a o e)) (I.base a o e)
  zb := I.zb
  zo := I.zo
  zl := I.zl
  ol := I.ol
  zL := I.zL
  oL := I.oL
  zF := I.zF
  oF := I.oF
  zlv := fun a z => let ⟨o, e⟩ := I.zlv a z; ⟨o, k a o (fun q => (hx a q).2.2 z) e⟩
  olv := fun a z => let ⟨o, e⟩ := I.olv a z; ⟨o, k a o (fun q => (hx a q).1 (.inl z)) e⟩
  flv := fun a z => let ⟨o, e, nr⟩ := I.flv a z; ⟨o, k a o (fun q => (hx a q).2.1 z) e, nr⟩
  ok := fun i l e => (I.ok i l e).keeps fun o => k _ o fun q => (hx _ q).1 (.inr (.inr ⟨i, l, e, rfl⟩))
  nsL := let ⟨m, hn⟩ := I.nsL; ⟨m, hn.at' fun o => k _ o fun q => (hx _ q).1 (.inr (.inl rfl))⟩
  at' := fun i sl e n => let ⟨l, v, hl, r, q⟩ := I.at' i sl e n; ⟨l, v, hl, r.keeps fun o => k _ o fun q => (hx _ q).1 (.inr (.inr ⟨i, l, hl, rfl⟩)),
    q.mono (fun a o z => k a o fun q => (hx a q).2.2 z) (fun _ z => z) (fun _ z => z) fun a o z => k a o fun q => (hx a q).1 (.inl (by rw [z]; exact fun n => by cases n))⟩

theorem Step.other (x : Step y bv own Z s own' Z' s') {tk : Nat} (hx : ∀ b, X b → s.heap.get? b = none ∧ ¬ y.wr own' b) (k : ∀ b o, ¬ X b → s'.heap.get? b = some o → h'.get? b = some o) : Step y bv own Z s own' Z' { s' with heap := h', toks := tk } := by
  have nx : ∀ a o, s.heap.get? a = some o → ¬ X a := fun a o e q => by rw [(hx a q).1] at e; cases e
  refine ⟨?_, ⟨fun a o e nw nf => k a o (nx a o e) (x.ext.keep a o e nw nf), fun a o e => ?_, fun a o f e => ?_⟩, x.zm, x.zn, x.on, fun i l v n hl r => (x.bind i l v n hl r).keeps fun o => k _ o fun q => (hx _ q).2 (.inr (.inr ⟨i, l, hl, rfl⟩))⟩
  · obtain ⟨h, tk', rfl⟩ := x.sh; exact ⟨_, _, rfl⟩
  · obtain ⟨o', e'⟩ := x.ext.live a o e; exact ⟨o', k a o' (nx a o e) e'⟩
  · obtain ⟨sl, e'⟩ := x.ext.fram a o f e; exact ⟨sl, k a _ (nx a o e) e'⟩

theorem Loose.other {b : Addr} (l : Loose y own Z h₀ h b) (k : ∃ o, h'.get? b = some o) : Loose y own Z h₀ h' b := ⟨l.1, l.2.1, l.2.2.1, l.2.2.2.1, k⟩
end

noncomputable def goers : List String := ["enumerate", "zip", "dict_itemiterator", "dict_reverseitemiterator", "odict_iterator", "itertools.zip_longest", "itertools.pairwise"]
structure Wk (prog : Program) (w : World) (A : Around) (y : Lay) (I : Addr) (items : List D) (fp wr : List Addr) (P : Nat → Value → Prop) (St : Nat → Heap → Prop) : Prop where
  wk : Walks prog w A I fp wr items.length P St
  lv : ∀ i h, St i h → ∀ b ∈ fp, ∃ o, h.get? b = some o
  cls : ∀ i h, St i h → ∃ o T, h.get? I = some o ∧ o.cls = .type T ∧ goers.contains T = false

structure WkAt (y : Lay) (items : List D) (fp wr : List Addr) (P : Nat → Value → Prop) (St : Nat → Heap → Prop) (h₀ : Heap) (own : Addr → Option Nat) (Z : Addr → Prop) (h : Heap) (k : Nat) : Prop where
  st : St k h
  fp : ∀ b ∈ fp, Z b ∨ Loose y own Z h₀ h b
  wr : ∀ b ∈ wr, Loose y own Z h₀ h b
  it : ∀ i v, i < items.length → P i v → ∃ d, items[i]? = some d ∧ Rep h Z v d

section
variable {A : Around} {B : Heap} {y : Lay} {bv bv' : List Nat} {own own' own'' : Addr → Option Nat} {Z Z' Z'' : Addr → Prop} {s s' s'' : Shared} {h h' h₀ : Heap} {fr fr' : Frame} {I : Addr} {items : List D} {fp wr : List Addr} {P : Nat → Value → Prop} {St : Nat → Heap → Prop} {k : Nat}

theorem WkAt.step (W : Wk prog w A y I items fp wr P St) (x : WkAt y items fp wr P St h₀ own Z s.heap k) (i : Inv B y own Z s.heap fr) (S : Step y bv own Z s own' Z' s') : WkAt y items fp wr P St h₀ own' Z' s'.heap k where
  st := W.wk.frame k _ _ x.st fun b hb o e => (x.fp b hb).elim (fun z => i.keepZ S.ext b o z e) fun l => (S.loose l).2 o e
  fp := fun b hb => (x.fp b hb).imp (S.zm b) fun l => (S.loose l).1
  wr := fun b hb => (S.loose (x.wr b hb)).1
  it := fun j v hj p => let ⟨d, e, r⟩ := x.it j v hj p; ⟨d, e, S.rep i r⟩

theorem WkAt.other (W : Wk prog w A y I items fp wr P St) (x : WkAt y items fp wr P St h₀ own Z h k) {X : Addr → Prop} (hx : ∀ b, X b → ¬ Z b ∧ b ∉ fp) (kp : ∀ b o, ¬ X b → h.get? b = some o → h'.get? b = some o) : WkAt y items fp wr P St h₀ own Z h' k where
  st := W.wk.frame k _ _ x.st fun b hb o e => kp b o (fun q => (hx b q).2 hb) e
  fp := fun b hb => (x.fp b hb).imp id fun l => l.other (let ⟨o, e⟩ := l.2.2.2.2; ⟨o, kp b o (fun q => (hx b q).2 hb) e⟩)
  wr := fun b hb => (x.wr b hb).other (let ⟨o, e⟩ := (x.wr b hb).2.2.2.2; ⟨o, kp b o (fun q => (hx b q).2 (W.wk.sub b hb)) e⟩)
  it := fun j v hj p => let ⟨d, e, r⟩ := x.it j v hj p; ⟨d, e, r.mono (fun a o z => kp a o fun q => (hx a q).1 z) fun _ z => z⟩

theorem next_item {d : D} {Q : Option Value → Shared → Prop} {E : Value → Shared → Prop} (W : Wk prog w A y I items fp wr P St) (x : WkAt y items fp wr P St s.heap own' Z' s'.heap k) (i : Inv B y own' Z' s'.heap fr) (S : Step y bv own Z s own' Z' s') (hd : items[k]? = some d)
    (h : ∀ v s'', Rep s''.heap Z' v d → WkAt y items fp wr P St s.heap own' Z' s''.heap (k + 1) → Inv B y own' Z' s''.heap fr → Step y bv own Z s own' Z' s'' → (∀ b o, b ∉ wr → s'.heap.get? b = some o → s''.heap.get? b = some o) → (∃ h' tk, s'' = { s' with heap := h', toks := tk }) → Q (some v) s'') :
    wpAny (model prog w) A (pyNext (.ref I)) Q E s' := by
  have hk : k < items.length := (List.getElem?_eq_some_iff.mp hd).1
  refine W.wk.item k s' Q E hk x.st fun v h' tk hv hst kp => ?_
  have hX : ∀ b, b ∈ wr → ¬ y.wr own' b ∧ ¬ y.F b ∧ ¬ Z' b := fun b hb => ⟨(x.wr b hb).2.1, (x.wr b hb).2.2.1, (x.wr b hb).2.2.2.1⟩
  have kz : ∀ a o, Z' a → s'.heap.get? a = some o → h'.get? a = some o := fun a o z e => kp a o (fun q => (hX a q).2.2 z) e
  obtain ⟨d', e, r⟩ := x.it k v hk hv
  rw [hd] at e; cases e
  refine h v { s' with heap := h', toks := tk } (r.mono kz fun _ z => z) ⟨hst, fun b hb => (x.fp b hb).imp id fun l => l.other (W.lv _ _ hst b hb), fun b hb => (x.wr b hb).other (W.lv _ _ hst b (W.wk.sub b hb)), fun j v hj p => ?_⟩ (i.other hX kp) (S.other (X := fun b => b ∈ wr) (fun b hb => ⟨(x.wr b hb).1, (hX b hb).1⟩) kp) kp ⟨_, _, rfl⟩
  obtain ⟨d, e, r⟩ := x.it j v hj p
  exact ⟨d, e, r.mono kz fun _ z => z⟩
theorem next_done {Q : Option Value → Shared → Prop} {E : Value → Shared → Prop} (W : Wk prog w A y I items fp wr P St) (x : WkAt y items fp wr P St s.heap own' Z' s'.heap items.length) (i : Inv B y own' Z' s'.heap fr) (S : Step y bv own Z s own' Z' s')
    (h : ∀ s'', Inv B y own' Z' s''.heap fr → Step y bv own Z s own' Z' s'' → (∀ b o, b ∉ wr → s'.heap.get? b = some o → s''.heap.get? b = some o) → (∃ h' tk, s'' = { s' with heap := h', toks := tk }) → Q none s'') :
    wpAny (model prog w) A (pyNext (.ref I)) Q E s' := by
  refine W.wk.done s' Q E x.st fun h' tk kp => ?_
  have hX : ∀ b, b ∈ wr → ¬ y.wr own' b ∧ ¬ y.F b ∧ ¬ Z' b := fun b hb => ⟨(x.wr b hb).2.1, (x.wr b hb).2.2.1, (x.wr b hb).2.2.2.1⟩
  exact h { s' with heap := h', toks := tk } (i.other hX kp) (S.other (X := fun b => b ∈ wr) (fun b hb => ⟨(x.wr b hb).1, (hX b hb).1⟩) kp) kp ⟨_, _, rfl⟩
end

/-! ### iteration's sources -/
inductive PostI (prog : Program) (w : World) (A : Around) (B : Heap) (y : Lay) (it : Itk) (bv : List Nat) (own : Addr → Option Nat) (Z : Addr → Prop) (s : Shared) (out : Except Str (List Rv) × Frame) (itv : Value) (s' : Shared) : Prop
  | mk (rs : List Rv) (ds items : List D) (own' : Addr → Option Nat) (Z' : Addr → Prop) (I : Addr) (fp wr : List Addr) (P : Nat → Value → Prop) (St : Nat → Heap → Prop) : out.1 = .ok rs → rvVs rs = some ds → iterD it ds = some items → items.length ≤ Sz → itv = .ref I → Inv B y own' Z' s'.heap out.2 → Step y bv own Z s own' Z' s' → Wk prog w A y I items fp wr P St → WkAt y items fp wr P St s.heap own' Z' s'.heap 0 → PostI prog w A B y it bv own Z s out itv s'
noncomputable def SI (prog : Program) (w : World) (A : Around) (B : Heap) (c : Cfg) (y : Lay) (m : Sem Value) (it : Itk) (src : List Ex) : Prop := ∀ (own : Addr → Option Nat) (Z : Addr → Prop) (s : Shared) (fr : Frame) (out : Except Str (List Rv) × Frame), evs c src fr = some out →
  (∀ rs, out.1 = .ok rs → ∃ ds items, rvVs rs = some ds ∧ iterD it ds = some items) → c.hd = false → Inv B y own Z s.heap fr →
  wpAny (model prog w) A m (fun x s₁ => wpAny (model prog w) A (pyIter x) (PostI prog w A B y it (bvEs src) own Z s out) (PostX B y (bvEs src) own Z s out) s₁) (PostX B y (bvEs src) own Z s out) s

section
variable {A : Around} {B : Heap} {mg mb : Str → Option Value} {tb : Tb} {c : Cfg} {n : Nat} {env : Env} {sc : Sc} {y : Lay}
  {bv bv' : List Nat} {own own₁ : Addr → Option Nat} {Z Z₁ : Addr → Prop} {s s₁ : Shared} {fr fr₁ : Frame}

theorem evs_one {x : Ex} {out : Except Str (List Rv) × Frame} (h : evs c [x] fr = some out) : bndK (ev c x fr) (fun r fr => some (.ok [r], fr)) = some out := by
  rw [evs_cons] at h
  rcases he : ev c x fr with _ | ⟨_ | r, f⟩
  · rw [he] at h; exact h
  · rw [he] at h; exact h
  · rw [he] at h; exact h

theorem wk_new {o : Obj} {items : List D} {fp : List Addr} {P : Nat → Value → Prop} {St : Nat → Heap → Prop} (I : Inv B y own₁ Z₁ s₁.heap fr) (S : Step y bv own Z s own₁ Z₁ s₁) (he : (s₁.heap.push o).get? s₁.heap.objs.size = some o) (hst : St 0 (s₁.heap.push o))
    (hfp : ∀ b ∈ fp, b = s₁.heap.objs.size ∨ Z₁ b) (hit : ∀ i v, i < items.length → P i v → ∃ d, items[i]? = some d ∧ Rep s₁.heap Z₁ v d) :
    WkAt y items fp [s₁.heap.objs.size] P St s.heap own₁ Z₁ (s₁.heap.push o) 0 := by
  have e := heap_size_none s₁.heap
  have f := I.fresh e
  have lo : Loose y own₁ Z₁ s.heap (s₁.heap.push o) s₁.heap.objs.size := ⟨S.old _ e, f.1, f.2.1, f.2.2, o, he⟩
  refine ⟨hst, fun b hb => (hfp b hb).elim (fun q => .inr (q ▸ lo)) .inl, fun b hb => ?_, fun i v hi p => ?_⟩
  · cases hb with
    | head => exact lo
    | tail _ h => cases h
  · obtain ⟨d, e, r⟩ := hit i v hi p
    exact ⟨d, e, r.mono (fun a o _ => push_keeps _ a o) fun _ z => z⟩

theorem si_seq {e : Expr} {x : Ex} (R : Rn prog w A B mg mb tb c n) (H : SE prog w A B c y (eval e env) x) : SI prog w A B c y (eval e env) .seq [x] := by
  intro own Z s fr out h hv hhd I
  have h := evs_one h
  have hh := R.hh hhd
  refine seqE (bv := bvE x) (bv' := bvE x ++ []) h .refl inl_ (fun o e => H own Z s fr o e I) fun r fr₁ own₁ Z₁ s₁ v e₁ h I₁ S₁ S R1 => ?_
  cases h
  obtain ⟨ds, items, hds, hit⟩ := hv _ rfl
  simp only [rvVs] at hds
  cases hr : rvV r with
  | none => rw [hr] at hds; cases hds
  | some d =>
    rw [hr] at hds
    cases hds
    obtain ⟨Z₂, I₂, S₂, R₂⟩ := R1.freeze I₁ S hr
    have fin : ∀ (o : Obj) (fp : List Addr) (P : Nat → Value → Prop) (St : Nat → Heap → Prop), items.length ≤ Sz → Wk prog w A y s₁.heap.objs.size items fp [s₁.heap.objs.size] P St → WkAt y items fp [s₁.heap.objs.size] P St s.heap own₁ Z₂ (s₁.heap.push o) 0 →
        PostI prog w A B y .seq (bvE x ++ []) own Z s (.ok [r], fr₁) (.ref s₁.heap.objs.size) { s₁ with heap := s₁.heap.push o } := fun o fp P St hl W WA =>
      ⟨[r], [d], items, own₁, Z₂, _, fp, _, P, St, rfl, by simp [rvVs, hr], hit, hl, rfl, I₂.grow (push_keeps o), S₂.trans (.grow (tk := s₁.toks) (push_keeps o)), W, WA⟩
    have lt : ∀ a o, s₁.heap.get? a = some o → a ≠ s₁.heap.objs.size := fun a o e q => by rw [q, heap_size_none] at e; cases e
    cases d with
    | list xs =>
      cases hit
      cases R₂ with
      | @list a vs _ m za hl hn Rs =>
      refine wpAny_pyIter_list hl.isList (fin _ _ _ _ (by rw [← Rs.length]; exact hn) ⟨?_, fun i h st b hb => ?_, fun i h st => let ⟨o, e, hc, _⟩ := st.1; ⟨o, _, e, hc, by decide⟩⟩ (wk_new (fp := [s₁.heap.objs.size, a]) (P := fun i v => vs.toArray[i]? = some v) (St := fun i h => h.IsListIter s₁.heap.objs.size a i ∧ h.IsList a vs.toArray) I₂ S₂ (Heap.get?_push_size _ rfl) ⟨⟨_, Heap.get?_push_size _ rfl, rfl, rfl⟩, (IsL.push hl _).isList⟩ (fun b hb => ?_) fun i v _ p => ?_))
      · have := Walks.list (prog := prog) (w := w) (A := A) hh s₁.heap.objs.size a (lt _ _ hl) vs.toArray
        rw [show vs.toArray.size = items.length from (List.size_toArray ..).trans Rs.length] at this; exact this
      · rcases List.mem_cons.mp hb with rfl | hb
        · obtain ⟨o, e, _⟩ := st.1; exact ⟨o, e⟩
        · rw [List.mem_singleton] at hb; subst hb; obtain ⟨o, e, _⟩ := st.2; exact ⟨o, e⟩
      · rcases List.mem_cons.mp hb with rfl | hb
        · exact .inl rfl
        · rw [List.mem_singleton] at hb; subst hb; exact .inr za
      · exact Rs.getV (by simpa using p)
    | tuple xs =>
      cases hit
      cases R₂ with
      | @tuple a vs _ m za hl hn Rs =>
      have ht : s₁.heap.IsTuple a vs.toArray := ⟨_, hl, rfl, _, rfl⟩
      refine wpAny_pyIter_tuple ht (fin _ _ _ _ (by rw [← Rs.length]; exact hn) ⟨?_, fun i h st b hb => ?_, fun i h st => let ⟨o, e, hc, _⟩ := st.1; ⟨o, _, e, hc, by decide⟩⟩ (wk_new (fp := [s₁.heap.objs.size, a]) (P := fun i v => vs.toArray[i]? = some v) (St := fun i h => h.IsTupleIter s₁.heap.objs.size a i ∧ h.IsTuple a vs.toArray) I₂ S₂ (Heap.get?_push_size _ rfl) ⟨⟨_, Heap.get?_push_size _ rfl, rfl, rfl⟩, ⟨_, push_keeps _ _ _ hl, rfl, _, rfl⟩⟩ (fun b hb => ?_) fun i v _ p => ?_))
      · have := Walks.tuple (prog := prog) (w := w) (A := A) hh s₁.heap.objs.size a (lt _ _ hl) vs.toArray
        rw [show vs.toArray.size = items.length from (List.size_toArray ..).trans Rs.length] at this; exact this
      · rcases List.mem_cons.mp hb with rfl | hb
        · obtain ⟨o, e, _⟩ := st.1; exact ⟨o, e⟩
        · rw [List.mem_singleton] at hb; subst hb; obtain ⟨o, e, _⟩ := st.2; exact ⟨o, e⟩
      · rcases List.mem_cons.mp hb with rfl | hb
        · exact .inl rfl
        · rw [List.mem_singleton] at hb; subst hb; exact .inr za
      · exact Rs.getV (by simpa using p)
    | str x =>
      cases hit
      cases R₂ with
      | str _ t hx hz =>
      have key : ∀ (o : Obj) (T : String), goers.contains T = false → (∀ A' : Around, A'.handled = none → Walks prog w A' s₁.heap.objs.size [s₁.heap.objs.size] [s₁.heap.objs.size] x.cps.size (SignAt x) (fun i h => h.IsStrIter s₁.heap.objs.size T x t i)) → (s₁.heap.push o).IsStrIter s₁.heap.objs.size T x t 0 → (s₁.heap.push o).get? s₁.heap.objs.size = some o →
          PostI prog w A B y .seq (bvE _ ++ []) own Z s (.ok [r], fr₁) (.ref s₁.heap.objs.size) { s₁ with heap := s₁.heap.push o } := fun o T hT W st he => by
        refine fin o _ _ _ (by rw [List.length_map, Array.length_toList]; exact hz) ⟨?_, fun i h st b hb => ?_, fun i h st => let ⟨o, e, hc, _⟩ := st; ⟨o, _, e, hc, hT⟩⟩ (wk_new (fp := [s₁.heap.objs.size]) (P := SignAt x) (St := fun i h => h.IsStrIter s₁.heap.objs.size T x t i) I₂ S₂ he st (fun b hb => .inl (by rwa [List.mem_singleton] at hb)) fun i v _ p => ?_)
        · have := W A hh
          rw [show x.cps.size = (x.cps.toList.map fun c => PyData.str ⟨#[c]⟩).length from by simp] at this; exact this
        · rw [List.mem_singleton] at hb; subst hb; obtain ⟨o, e, _⟩ := st; exact ⟨o, e⟩
        · obtain ⟨c, u, hc, rfl⟩ := p
          refine ⟨.str ⟨#[c]⟩, by rw [List.getElem?_map, Array.getElem?_toList, hc]; rfl, .str _ u ?_ (by show 1 ≤ Sz; decide)⟩
          have hmem : c ∈ x.cps := Array.mem_of_getElem? hc
          unfold PyData.strOk at hx ⊢
          rw [Array.all_eq_true'] at hx ⊢
          intro z hz'
          rw [show (⟨#[c]⟩ : Str).cps = #[c] from rfl, Array.mem_singleton] at hz'
          subst hz'
          exact hx _ hmem
      cases ha : x.cps.all (· < 128)
      · exact wpAny_pyIter_wide ha (key _ _ (by decide) (fun A' hA => Walks.strWide hA _ x t) ⟨_, Heap.get?_push_size _ rfl, rfl, rfl⟩ (Heap.get?_push_size _ rfl))
      · exact wpAny_pyIter_ascii ha (key _ _ (by decide) (fun A' hA => Walks.strAscii hA _ x t) ⟨_, Heap.get?_push_size _ rfl, rfl, rfl⟩ (Heap.get?_push_size _ rfl))
    | none => cases hit
    | bool b => cases hit
    | int i => cases hit
    | dict kvs => cases hit

theorem si_range {e : Expr} {x : Ex} {p pos : Pos} (R : Rn prog w A B mg mb tb c n) (en : EnvOk A sc env y) (hg : sc.isG "range") (hc : CE tb sc e x) (H : SE prog w A B c y (eval e env) x) : SI prog w A B c y (eval (.Call (.Name "range" p) [e] [] pos) env) .range [x] := by
  intro own Z s fr out h hv hhd I
  have h := evs_one h
  have hh := R.hh hhd
  refine Call_Name (args := [e]) rfl (load_blt R.gd en I hg (by decide) (by decide) boot_range ?_)
  refine PyProof.Rows.callWith_type (first := []) (by rw [hc.star env []]; rfl) ?_
  rw [hc.star env []]
  refine Calls.evalArgs_plain (Calls.spliced_cons ?_)
  refine seqE (bv := bvE x) (bv' := bvE x ++ []) h .refl inl_ (fun o e => H own Z s fr o e I) fun r fr₁ own₁ Z₁ s₁ v e₁ h I₁ S₁ S R1 => ?_
  cases h
  obtain ⟨ds, items, hds, hit⟩ := hv _ rfl
  simp only [rvVs] at hds
  cases hr : rvV r with
  | none => rw [hr] at hds; cases hds
  | some d =>
    rw [hr] at hds
    cases hds
    cases d with
    | int i =>
      obtain ⟨t, rfl⟩ := (R1.dat I₁ (rvV_D hr)).int
      have hit0 := hit
      simp only [iterD] at hit
      split at hit
      · rename_i hi
        cases hit
        refine Calls.spliced_nil (call_range_1 ?_)
        have hlo : -1000000000 ≤ i := hi.1
        have hhi : i ≤ 16777216 := hi.2
        refine wpAny_pyIter_range (IsRange.new ..) (small_one (by omega) (by omega) (by omega) (by omega)) ?_
        let s₂ : Shared := { s₁ with heap := s₁.heap.push { cls := .type "range", data := .fields #[.int 0 s₁.toks, .int i t, .int 1 (s₁.toks + 1)] }, toks := s₁.toks + 1 + 1 }
        have I₂ : Inv B y own₁ Z₁ s₂.heap fr₁ := I₁.grow (push_keeps _)
        have S₂ : Step y (bvE x ++ []) own Z s own₁ Z₁ s₂ := S.trans (.grow (push_keeps _))
        have e0 : Builtin.Range.rangeSize 0 i 1 = (i.toNat : Int) := by rw [rangeSize_nat]; simp
        have hlen : (rangeL 0 i.toNat).length = i.toNat := by simp [rangeL]
        have W := Walks.range (prog := prog) (w := w) (A := A) hh s₂.heap.objs.size 0 1 i.toNat
        refine ⟨[r], [.int i], rangeL 0 i.toNat, own₁, Z₁, s₂.heap.objs.size, _, _, _, _, rfl, by simp [rvVs, hr], hit0, by rw [hlen]; show i.toNat ≤ 16777216; omega, rfl, I₂.grow (push_keeps _), S₂.trans (.grow (tk := s₂.toks) (push_keeps _)), ⟨by rw [hlen]; exact W, fun j h st b hb => ?_, fun i h st => ⟨_, _, st, rfl, by decide⟩⟩, wk_new (s₁ := s₂) I₂ S₂ (Heap.get?_push_size _ rfl) ?_ (fun b hb => .inl (by rwa [List.mem_singleton] at hb)) fun j v hj p => ?_⟩
        · rw [List.mem_singleton] at hb; subst hb; exact ⟨_, st⟩
        · show IsRangeIter (s₂.heap.push _) _ _ _ _
          rw [show (0 : Int) + ((0 : Nat) : Int) * 1 = 0 from by simp, show ((i.toNat : Int) - ((0 : Nat) : Int)) = Builtin.Range.rangeSize 0 i 1 from by rw [e0]; simp]
          exact Heap.get?_push_size _ rfl
        · obtain ⟨u, rfl⟩ := p
          rw [hlen] at hj
          refine ⟨.int (0 + (j : Int)), by simp [rangeL, hj], ?_⟩
          rw [Int.mul_one]
          exact .int _ u
      · cases hit
    | none => cases hit
    | bool b => cases hit
    | str b => cases hit
    | list b => cases hit
    | tuple b => cases hit
    | dict b => cases hit
end
end Mv

end

section
set_option maxRecDepth 100000
set_option linter.unusedSectionVars false
set_option linter.unusedVariables false
namespace Mv
open PySem PyProof.Rows
variable [Hp]

noncomputable def mkP (env : Env) (pos : Pos) : List (Option Expr) → List Expr → List (Sem Value × Sem Value)
  | some k :: ks, v :: vs => (eval k env, do let x ← eval v env; standAt pos; pure x) :: mkP env pos ks vs
  | _, _ => []
theorem mkP_shape {env : Env} {pos : Pos} : ∀ {kes : List (Option Expr)} {ks : List Str} (vals : List Expr), KS kes ks → ((evalEachOpt kes env).zip ((evalEach vals env).map fun v => do let x ← v; standAt pos; pure x) = (mkP env pos kes vals).map fun p => (some p.1, p.2)) ∧ ((mkP env pos kes vals).length = min ks.length vals.length)
  | _, _, vals, .nil => ⟨rfl, by simp [mkP]⟩
  | _, _, [], .cons t => ⟨rfl, by simp [mkP]⟩
  | _, _, v :: vals, .cons t => by
    obtain ⟨h1, h2⟩ := mkP_shape (env := env) (pos := pos) vals t
    refine ⟨congrArg (_ :: ·) h1, ?_⟩
    show (mkP env pos _ vals).length + 1 = _
    rw [h2, List.length_cons, List.length_cons]; omega
theorem dlook_get : ∀ {ks : List Str} {ds : List D} {x : Str} {d : D}, dlook ks ds x = some d → ∃ j : Nat, ks[j]? = some x ∧ ds[j]? = some d
  | [], _, _, _, h => nos h
  | _ :: _, [], _, _, h => nos h
  | k :: ks, d' :: ds, x, d, h => by
    have h : (if k = x then some d' else dlook ks ds x) = some d := h
    by_cases q : k = x
    · rw [if_pos q] at h; exact ⟨0, by rw [q]; rfl, h⟩
    · rw [if_neg q] at h; obtain ⟨j, h1, h2⟩ := dlook_get h; exact ⟨j + 1, h1, h2⟩

section
variable {A : Around} {B : Heap} {mg mb : Str → Option Value} {tb : Tb} {c : Cfg} {n : Nat} {env : Env} {sc : Sc} {y : Lay}
  {bv bv' : List Nat} {own own₁ : Addr → Option Nat} {Z Z₁ : Addr → Prop} {s s₁ : Shared} {fr fr₁ : Frame}

noncomputable def PostP (prog : Program) (w : World) (B : Heap) (y : Lay) (bv : List Nat) (own : Addr → Option Nat) (Z : Addr → Prop) (s : Shared) (ks : List Str) (out : Except Str (List Rv) × Frame) (prs : List (Value × Value)) (s' : Shared) : Prop :=
  ∃ vs, PostEs B y bv own Z s out vs s' ∧ Carries (strKind prog w) prs (ks.zip vs)

theorem pairs_s {pos : Pos} : ∀ {kes : List (Option Expr)} {ks : List Str}, KS kes ks → ∀ {es : List Expr} {xs : List Ex}, F2 (fun e x => CE tb sc e x ∧ SE prog w A B c y (eval e env) x) es xs → ks.length = xs.length → ∀ (own : Addr → Option Nat) (Z : Addr → Prop) (s : Shared) (fr : Frame) (out : Except Str (List Rv) × Frame), evs c xs fr = some out → Inv B y own Z s.heap fr →
    wpAny (model prog w) A (evalPairs (mkP env pos kes es)) (PostP prog w B y (bvEs xs) own Z s ks out) (PostX B y (bvEs xs) own Z s out) s
  | _, _, .nil, [], [], _, _ => by
    intro own Z s fr out h I
    cases h
    exact evalPairs_nil ⟨[], ⟨[], own, Z, rfl, I, .refl, trivial⟩, trivial⟩
  | _, _, .cons (k := k) (kk := kk) (p := kp) t, e :: es, x :: xs, F, hl => by
    intro own Z s fr out h I
    rw [evs_cons] at h
    refine evalPairs_cons (wpAny_Constant_str (k := kk) (pos := kp) ?_)
    refine wpAny_bind (seqE (s₁ := { s with toks := s.toks + 1 }) (bv := bvE x) (bv' := bvE x ++ bvEs xs) h (toks_step .refl) inl_ (fun o e => F.1.2 own Z { s with toks := s.toks + 1 } fr o e I) fun r fr₁ own₁ Z₁ s₁ v e₁ h I₁ S₁ S R => wpAny_bind (wpAny_standAt (wpAny_pure ?_)))
    obtain ⟨Z₂, I₂, S₂, R₂, _⟩ := R.frz I₁ (S₁.sub (bv' := bvE x ++ bvEs xs) inl_)
    have S₂' : Step y (bvE x ++ bvEs xs) own Z s own₁ Z₂ s₁ := (toks_step (tk := s.toks + 1) .refl).trans S₂
    have ap : ∀ i ∈ plVars (frz r), i ∉ bvEs xs := by rw [plVars_frz]; exact apart_of e₁ F.2.1
    rcases bnd_some h with ⟨e', f, hm, rfl⟩ | ⟨rs, f, hm, h⟩
    · refine wpAny_mono (pairs_s (pos := pos) t F.2.2 (by simpa using hl) own₁ Z₂ s₁ fr₁ _ hm I₂) (fun vs s' p => ?_) fun e s' p => p.up inr_ S₂'
      obtain ⟨_, ⟨_, _, _, q, _⟩, _⟩ := p; cases q
    · refine wpAny_mono (pairs_s (pos := pos) t F.2.2 (by simpa using hl) own₁ Z₂ s₁ fr₁ _ hm I₂) (fun vs s' p => ?_) fun e s' p => p.elim
      obtain ⟨vs', ⟨rs', own', Z', q, I', S', R'⟩, C⟩ := p
      cases q
      cases h
      exact ⟨v :: vs', ⟨r :: rs, own', Z', rfl, I', S₂'.trans (S'.sub inr_), S'.rv I₂ ap R₂, R'.since S₂'.old⟩, strKind_is prog w k _, rfl, C⟩
  | _, _, .nil, _ :: _, _ :: _, _, hl => by simp at hl
  | _, _, .cons _, [], [], _, hl => by simp at hl
  | _, _, _, [], _ :: _, F, _ => F.elim
  | _, _, _, _ :: _, [], F, _ => F.elim

theorem F2_len {P : Expr → Ex → Prop} : ∀ {es : List Expr} {xs : List Ex}, F2 P es xs → es.length = xs.length
  | [], [], _ => rfl
  | _ :: _, _ :: _, F => congrArg (· + 1) (F2_len F.2.2)
  | [], _ :: _, F => F.elim
  | _ :: _, [], F => F.elim

theorem se_dsel {kes : List (Option Expr)} {ks : List Str} {vals : List Expr} {xs : List Ex} {x : Str} {i : Nat} {dp p pos : Pos} (en : EnvOk A sc env y) (hk : KS kes ks) (F : F2 (fun e x => CE tb sc e x ∧ SE prog w A B c y (eval e env) x) vals xs) (hx : sc.isV x i) (nd : ks.Nodup) (hl : ks.length = xs.length) (h15 : ks ≠ [] ∧ ks.length ≤ 15) :
    SE prog w A B c y (eval (.Subscript (.Dict kes vals dp) (.Name x p) pos) env) (.dsel ks xs i) := by
  intro own Z s fr out h I
  rw [ev_dsel] at h
  obtain ⟨sh, shl⟩ := mkP_shape (env := env) (pos := dp) vals hk
  have hml : (mkP env dp kes vals).length = ks.length := by rw [shl, F2_len F, ← hl]; omega
  have hne : mkP env dp kes vals ≠ [] := fun q => h15.1 (List.eq_nil_of_length_eq_zero (by rw [← hml, q]; rfl))
  refine Subscript_ (wpAny_Dict_pairs (knd := strKind prog w) sh hne (by rw [hml]; exact h15.2) ?_)
  have kp0 : ∀ b o, s.heap.get? b = some o → (s.heap.push { cls := .type "dict", data := .dict #[] }).get? b = some o := fun b o e => push_keeps _ b o e
  have I0 : Inv B y own Z (s.heap.push { cls := .type "dict", data := .dict #[] }) fr := I.grow kp0
  have S0 : Step y (bvEs xs) own Z s own Z { s with heap := s.heap.push { cls := .type "dict", data := .dict #[] } } := .grow (tk := s.toks) kp0
  have nD := heap_size_none s.heap
  have fD := I.fresh nD
  have LD : Loose y own Z s.heap (s.heap.push { cls := .type "dict", data := .dict #[] }) s.heap.objs.size := ⟨nD, fD.1, fD.2.1, fD.2.2, _, Heap.get?_push_size _ rfl⟩
  rcases bnd_some h with ⟨e', f, hm, rfl⟩ | ⟨rs, f, hm, h⟩
  · refine wpAny_mono (pairs_s (pos := dp) hk F hl own Z { s with heap := s.heap.push { cls := .type "dict", data := .dict #[] } } fr _ hm I0) (fun prs s' p => ?_) fun e s' p => p.up (fun _ h => h) S0
    obtain ⟨_, ⟨_, _, _, q, _⟩, _⟩ := p; cases q
  · refine wpAny_mono (pairs_s (pos := dp) hk F hl own Z { s with heap := s.heap.push { cls := .type "dict", data := .dict #[] } } fr _ hm I0) (fun prs s₁ p => ?_) fun e s' p => p.elim
    obtain ⟨vs, ⟨rs', own₁, Z₁, q, I₁, S₁, R⟩, C⟩ := p
    cases q
    dsimp only at I₁
    obtain ⟨LD₁, kD⟩ := S₁.loose LD
    refine ⟨ks.zip vs, C, (let ⟨o, es, ep, e, r⟩ := Heap.DictOf.new (knd := strKind prog w) s.heap; ⟨o, es, ep, kD o e, r⟩), fun h' hD sb => ?_⟩
    have hX : ∀ b, b = s.heap.objs.size → ¬ y.wr own₁ b ∧ ¬ y.F b ∧ ¬ Z₁ b := fun b q => by subst q; exact ⟨LD₁.2.1, LD₁.2.2.1, LD₁.2.2.2.1⟩
    have kp : ∀ b o, ¬ b = s.heap.objs.size → s₁.heap.get? b = some o → h'.get? b = some o := fun b o q e => sb.extBut b o q e
    have I₂ : Inv B y own₁ Z₁ h' f := I₁.other hX kp
    have S₂ : Step y (bvEs xs) own Z s own₁ Z₁ { s₁ with heap := h', toks := s₁.toks + prs.length } := (S0.trans S₁).other (X := fun b => b = s.heap.objs.size) (fun b q => ⟨q ▸ nD, (hX b q).1⟩) kp
    cases hds : rvVs rs with
    | none => rw [hds] at h; exact nos h
    | some ds =>
      rw [hds] at h
      have RA : RepAll s₁.heap Z₁ vs ds := R.repAll hds
      have RA' : RepAll h' Z₁ vs ds := RA.mono (fun b o z e => kp b o (fun q => (hX b q).2.2 z) e) fun _ z => z
      rcases hsl : f[i]? with _ | ⟨_ | ⟨_ | _ | _ | kx | _ | _ | _⟩ | _ | _ | _⟩ <;> rw [hsl] at h <;> first | exact nos h | skip
      obtain ⟨q, hq, rfl⟩ := okO_eq h
      rw [Option.map_eq_some_iff] at hq; obtain ⟨d, hd, rfl⟩ := hq
      obtain ⟨j, hj1, hj2⟩ := dlook_get hd
      obtain ⟨v, hv, rv⟩ := RA'.get hj2
      obtain ⟨l, kv, hl', hr, sv⟩ := I₂.at' i _ hsl (by intro z; cases z)
      have sv : Rep h' Z₁ kv (.str kx) := sv
      cases sv with
      | str _ t o1 o2 =>
      refine load_var (s := { s₁ with heap := h', toks := s₁.toks + prs.length }) en hx hl' hr ?_
      have hz : (ks.zip vs)[j]? = some (kx, v) := by rw [List.getElem?_zip_eq_some]; exact ⟨hj1, hv⟩
      have hn : ((ks.zip vs).map (·.1)).Nodup := by rw [List.map_fst_zip (by rw [hl, R.length.symm, evs_len hm]; exact Nat.le_refl _)]; exact nd
      rw [merged_nil_of_nodup _ hn] at hD
      exact tail_any (s := { s₁ with heap := h', toks := s₁.toks + prs.length }) hD.typeIs slot_dict_getitem.lookup (wpAny_getItem_of (strKind_is prog w kx t) hD.mapOf (valueAt_of_get hn hz) (.val (s' := { s₁ with heap := h', toks := s₁.toks + prs.length + 1 }) I₂ (toks_step S₂) rv)) rfl

theorem names_s {E : Value → Shared → Prop} (gd : Gd B mg mb c.glob tb) (en : EnvOk A sc env y) (I : Inv B y own Z s.heap fr) {pos : Pos} : ∀ {es : List Expr} {xs : List Str} {Vs : List Value}, NS sc es xs → LoadAs mg mb xs Vs → ∀ {Q : List Value → Shared → Prop}, Q Vs s → wpAny (model prog w) A (spliced (backTo pos (starEach es env))) Q E s
  | _, _, [], .nil, _, _, h => spliced_none h
  | _, _, _ :: _, .cons hg t, hv, _, h => spliced_more (load_cls gd en I hg hv.1 (names_s gd en I t hv.2 h)) rfl
  | _, _, _ :: _, .nil, hv, _, _ => hv.elim
  | _, _, [], .cons _ _, hv, _, _ => hv.elim
theorem LoadAs.len {mg mb : Str → Option Value} : ∀ {xs : List Str} {Vs : List Value}, LoadAs mg mb xs Vs → Vs.length = xs.length
  | [], [], _ => rfl
  | _ :: _, _ :: _, h => congrArg (· + 1) h.2.len
  | [], _ :: _, h => h.elim
  | _ :: _, [], h => h.elim
theorem se_isxt {x : Str} {cs : List Str} {es : List Expr} {k i : Nat} {yes no : List Str} {p p1 p2 pos : Pos} (R : Rn prog w A B mg mb tb c n) (en : EnvOk A sc env y) (hg : sc.isG "isinstance") (hx : sc.isV x i) (hc : NS sc es cs) (h1000 : cs.length ≤ 1000) (hs : tb.sbt.lookup cs = some (yes, no)) :
    SE prog w A B c y (eval (.Call (.Name "isinstance" p) [.Name x p1, .Tuple es k p2] [] pos) env) (.isx i yes no) := by
  intro own Z s fr out h I
  rw [ev_isx] at h
  obtain ⟨Vs, hV, ha⟩ := R.gd.askT cs yes no hs
  split at h
  · rename_i kn hk
    obtain ⟨l, v, hl, hr, sv⟩ := I.at' i _ hk (by intro q; cases q)
    obtain ⟨b, hb, rfl⟩ := isx_out h
    obtain ⟨a, o, C, rfl, e, ho, hmg⟩ := exc_mg R.gd I sv
    have ask : AskedT B C Vs b := by
      rcases hb with ⟨rfl, hb⟩ | ⟨rfl, hb⟩
      · exact (ha kn C hmg).1 hb
      · exact (ha kn C hmg).2 hb
    refine Call_Name (args := [.Name x p1, .Tuple es k p2]) rfl (load_blt R.gd en I hg (biName_mem (.isi .int)) (biName_ne (.isi .int)) (boot_bi (.isi .int)) ?_)
    refine biCall (b := .isi .int) rfl ?_
    refine Calls.evalArgs_plain (Calls.spliced_cons (load_var en hx hl hr ?_))
    refine Calls.spliced_cons (Tuple_ (k := k) (names_s R.gd en I hc hV ?_))
    refine wpAny_newObj_type (Calls.spliced_nil ?_) (by show Vs.toArray.size ≤ sizeLine; rw [List.size_toArray, hV.len, ← sz_line]; exact Nat.le_trans h1000 (by decide))
    have kp : ∀ b o, s.heap.get? b = some o → (s.heap.push { cls := .type "tuple", data := .seq Vs.toArray }).get? b = some o := push_keeps _
    exact ask prog w A _ { s with heap := s.heap.push { cls := .type "tuple", data := .seq Vs.toArray } } a s.heap.objs.size o (fun a o e => kp a o (I.base a o e)) (kp _ _ e) ho (Heap.get?_push_size _ rfl) _ fun tk => .val (s' := { s with heap := s.heap.push { cls := .type "tuple", data := .seq Vs.toArray }, toks := tk }) (I.grow kp) (.grow kp) (.bool b)
  · exact nos h
end
end Mv

end

section
set_option maxRecDepth 100000
set_option linter.unusedSectionVars false
set_option linter.unusedVariables false
namespace Mv
open PySem PyProof.Rows
variable [Hp]

section
variable {A : Around} {E : Value → Shared → Prop} {B : Heap} {env : Env} {sc : Sc} {y : Lay}
  {bv bv' : List Nat} {own own' own₁ : Addr → Option Nat} {Z Z' Z₁ : Addr → Prop} {s s' s₁ : Shared} {fr fr₁ : Frame} {h h' : Heap}

structure Put (y : Lay) (i : Nat) (l : Loc) (v : Value) (h h' : Heap) : Prop where
  keep : ∀ a o, a ≠ l.addr → h.get? a = some o → h'.get? a = some o
  live : ∃ o, h'.get? l.addr = some o
  rd : rdL h' l v
  oth : ∀ j k w, j ≠ i → y.loc j = some k → rdL h k w → rdL h' k w
  ok : ∀ j k, y.loc j = some k → okL h' k
  ns : ∃ m, h'.Ns y.L m

theorem Put.fz (p : Put y i l v s.heap h') (I : Inv B y own Z s.heap fr) (hl : y.loc i = some l) {d : D} (R : Rep s.heap Z v d) : Inv B y own Z h' (fr.set i (.fz d)) := I.setFz hl p.keep p.live p.rd p.oth p.ok p.ns R
theorem Put.step {i : Nat} {l : Loc} {v : Value} {tk : Nat} (p : Put y i l v s.heap h') (hl : y.loc i = some l) (I : Inv B y own Z s.heap fr) : Step y [i] own Z s own Z { s with heap := h', toks := tk } where
  sh := ⟨_, _, rfl⟩
  ext := by
    have ne : ∀ a, ¬ y.wr own a → a ≠ l.addr := fun a nw q => nw (.inr (.inr ⟨i, l, hl, q.symm⟩))
    refine ⟨fun a o e nw nf => p.keep a o (ne a nw) e, fun a o e => ?_, fun a o f e => ⟨o.slots, p.keep a o (fun q => I.wf.nf i l hl (q ▸ f)) e⟩⟩
    by_cases q : a = l.addr
    · exact q ▸ p.live
    · exact ⟨o, p.keep a o q e⟩
  zm := fun _ z => z
  zn := fun _ z => .inl z
  on := fun _ _ e => .inl e
  bind := fun j k w n hk r => p.oth j k w (fun q => n (by rw [q]; exact List.mem_singleton.mpr rfl)) hk r
theorem Put.owned {i : Nat} {l : Loc} {a : Addr} (p : Put y i l (.ref a) s.heap h') (I : Inv B y own Z s.heap fr) (hl : y.loc i = some l) {d : D} (nw : ¬ y.wr own a) (nf : ¬ y.F a) (nz : ¬ Z a) (W : OwnAt s.heap Z a d) : Inv B y (addO own a i) Z h' (fr.set i (.own d)) :=
  I.setOwn hl p.keep p.rd p.oth p.ok p.ns nw nf nz W

theorem store_put {x : Str} {i : Nat} {l : Loc} {v : Value} {Q : Unit → Shared → Prop} (en : EnvOk A sc env y) (hv : sc.vars.lookup x = some i) (hf : env.kindOf x ≠ some .free) (hl : y.loc i = some l) (I : Inv B y own Z s.heap fr)
    (h : ∀ h' tk, Put y i l v s.heap h' → Q () { s with heap := h', toks := tk }) : wpAny (model prog w) A (storeName env x v) Q E s := by
  rcases en.var x i hv with ⟨hk, e⟩ | ⟨hk | ⟨hk, _⟩, c, hc, e⟩
  · rw [hl] at e; cases e
    obtain ⟨m, hn⟩ := I.ok i _ hl
    refine wpAny_storeName_local hk hn (fun h' hn' hs => h h' _ ?_) (by rw [en.kind]; rfl)
    refine ⟨fun a o q e => hs.extBut a o q e, let ⟨o, _, _, e, _⟩ := hn'; ⟨o, e⟩, ⟨_, hn', by simp⟩, fun j k w hj hk' r => ?_, fun j k hk' => ?_, ?_⟩
    · by_cases q : k.addr = env.locals
      · obtain ⟨a, x', z, e1, e2, hxz⟩ := I.wf.apart j i k _ hk' hl hj q
        cases e2
        subst e1
        obtain ⟨m', hm', e'⟩ := r
        have em : m' x' = m x' := by
          obtain ⟨o, es, ep, ho, hd, hk1, hf1⟩ := hm'
          obtain ⟨o', es', ep', ho', hd', hk2, hf2⟩ := hn
          rw [ho] at ho'; cases ho'
          rw [hd] at hd'; cases hd'
          rw [← hf1, hf2]
        exact ⟨_, hn', by show (if x' = x then some v else m x') = some w; rw [if_neg hxz, ← em, e']⟩
      · exact r.keeps fun o e => hs.extBut _ o q e
    · by_cases q : k.addr = env.locals
      · cases k with
        | dict a z => cases q; exact ⟨_, hn'⟩
        | cell a =>
          by_cases hij : j = i
          · subst hij; rw [hl] at hk'; cases hk'
          · obtain ⟨a, x', z, e1, e2, hxz⟩ := I.wf.apart j i _ _ hk' hl hij q; cases e1
      · exact (I.ok j k hk').keeps fun o e => hs.extBut _ o q e
    · by_cases q : y.L = env.locals
      · exact ⟨_, q ▸ hn'⟩
      · obtain ⟨m, hm⟩ := I.nsL; exact ⟨m, hm.sameBut hs q⟩
  · rw [hl] at e; cases e
    obtain ⟨v₀, hv₀⟩ := I.ok i _ hl
    refine wpAny_storeName_cell en.kind hk hc hv₀ fun h' hc' hs => ?_
    have P : Put y i (.cell c) v s.heap h' := by
      refine ⟨fun a o q e => hs.extBut a o q e, let ⟨o, e, _⟩ := hc'; ⟨o, e⟩, hc', fun j k w hj hk' r => ?_, fun j k hk' => ?_, ?_⟩
      · by_cases q : k.addr = c
        · obtain ⟨a, x', z, e1, e2, hxz⟩ := I.wf.apart j i k _ hk' hl hj q
          cases e2
        · exact r.keeps fun o e => hs.extBut _ o q e
      · by_cases q : k.addr = c
        · by_cases hij : j = i
          · subst hij; rw [hl] at hk'; cases hk'; exact ⟨_, hc'⟩
          · obtain ⟨a, x', z, e1, e2, hxz⟩ := I.wf.apart j i _ _ hk' hl hij q; cases e2
        · exact (I.ok j k hk').keeps fun o e => hs.extBut _ o q e
      · obtain ⟨m, hm⟩ := I.nsL
        exact ⟨m, hm.sameBut hs fun q => I.wf.cl i c hl q.symm⟩
    exact h h' s.toks P
  · exact absurd hk hf

/-! ### a block of its own in a frame -/
noncomputable def Lay.put (y : Lay) (i : Nat) (l : Loc) : Lay := { y with loc := fun j => if j = i then some l else y.loc j }
theorem put_self {i : Nat} {l : Loc} : (y.put i l).loc i = some l := by simp [Lay.put]
theorem put_ne {i j : Nat} {l : Loc} (h : j ≠ i) : (y.put i l).loc j = y.loc j := by simp [Lay.put, h]
theorem put_cases {i j : Nat} {l k : Loc} (h : (y.put i l).loc j = some k) : (j = i ∧ k = l) ∨ (j ≠ i ∧ y.loc j = some k) := by
  by_cases q : j = i
  · subst q; rw [put_self] at h; exact .inl ⟨rfl, (Option.some.inj h).symm⟩
  · rw [put_ne q] at h; exact .inr ⟨q, h⟩
theorem put_get {i j : Nat} {l k : Loc} (hi : y.loc i = none) (h : y.loc j = some k) : (y.put i l).loc j = some k := by
  by_cases q : j = i
  · subst q; rw [hi] at h; cases h
  · rw [put_ne q]; exact h

theorem put_wr {i : Nat} {C : Addr} {x : Str} {a : Addr} (h : (y.put i (.dict C x)).wr own a) : y.wr own a ∨ a = C := by
  rcases h with h | h | ⟨j, k, hk, rfl⟩
  · exact .inl (.inl h)
  · exact .inl (.inr (.inl h))
  · rcases put_cases hk with ⟨_, rfl⟩ | ⟨_, hk⟩
    · exact .inr rfl
    · exact .inl (.inr (.inr ⟨j, k, hk, rfl⟩))
theorem wr_put {i : Nat} {l : Loc} {a : Addr} (hi : y.loc i = none) (h : y.wr own a) : (y.put i l).wr own a := by
  rcases h with h | h | ⟨j, k, hk, rfl⟩
  · exact .inl h
  · exact .inr (.inl h)
  · exact .inr (.inr ⟨j, k, put_get hi hk, rfl⟩)

theorem Inv.put {i : Nat} {C : Addr} {x : Str} {m : Str → Option Value} (I : Inv B y own Z h fr) (hi : y.loc i = none) (nw : ¬ y.wr own C) (nf : ¬ y.F C) (nz : ¬ Z C) (hn : h.Ns C m) : Inv B (y.put i (.dict C x)) own Z h fr := by
  have nC : ∀ j k, y.loc j = some k → k.addr ≠ C := fun j k e q => nw (.inr (.inr ⟨j, k, e, q⟩))
  refine ⟨⟨fun j j' k k' hk hk' hne hq => ?_, fun j k hk => ?_, I.wf.nL, fun j a hk => ?_⟩, I.base, I.zb, I.zo, fun j k hk => ?_, fun j k hk => ?_, I.zL, I.oL, I.zF, I.oF, I.zlv, I.olv, I.flv, fun j k hk => ?_, I.nsL, fun j sl e n => ?_⟩
  · rcases put_cases hk with ⟨rfl, rfl⟩ | ⟨hj, hk⟩ <;> rcases put_cases hk' with ⟨rfl, rfl⟩ | ⟨hj', hk'⟩
    · exact absurd rfl hne
    · exact absurd hq.symm (nC _ _ hk')
    · exact absurd hq (nC _ _ (by assumption))
    · exact I.wf.apart j j' k k' hk hk' hne hq
  · rcases put_cases hk with ⟨rfl, rfl⟩ | ⟨hj, hk⟩
    · exact nf
    · exact I.wf.nf j k hk
  · rcases put_cases hk with ⟨rfl, q⟩ | ⟨hj, hk⟩
    · cases q
    · exact I.wf.cl j a hk
  · rcases put_cases hk with ⟨rfl, rfl⟩ | ⟨hj, hk⟩
    · exact nz
    · exact I.zl j k hk
  · rcases put_cases hk with ⟨rfl, rfl⟩ | ⟨hj, hk⟩
    · show own C = none
      cases q : own C with
      | none => rfl
      | some z => exact absurd (.inl (by rw [q]; exact fun n => by cases n)) nw
    · exact I.ol j k hk
  · rcases put_cases hk with ⟨rfl, rfl⟩ | ⟨hj, hk⟩
    · exact ⟨m, hn⟩
    · exact I.ok j k hk
  · obtain ⟨l, v, hl, r⟩ := I.at' j sl e n
    exact ⟨l, v, put_get hi hl, r⟩
theorem Inv.unput {i : Nat} {l : Loc} (I : Inv B (y.put i l) own Z h fr) (wf : y.Wf) (hi : y.loc i = none) (hf : ∀ sl, fr[i]? = some sl → sl = .no) : Inv B y own Z h fr where
  wf := wf
  base := I.base
  zb := I.zb
  zo := I.zo
  zl := fun j k hk => I.zl j k (put_get hi hk)
  ol := fun j k hk => I.ol j k (put_get hi hk)
  zL := I.zL
  oL := I.oL
  zF := I.zF
  oF := I.oF
  zlv := I.zlv
  olv := I.olv
  flv := I.flv
  ok := fun j k hk => I.ok j k (put_get hi hk)
  nsL := I.nsL
  at' := fun j sl e n => by
    obtain ⟨k, v, hk, r⟩ := I.at' j sl e n
    rcases put_cases hk with ⟨rfl, rfl⟩ | ⟨hj, hk⟩
    · exact absurd (hf sl e) n
    · exact ⟨k, v, hk, r⟩
theorem Step.put {i : Nat} {C : Addr} {x : Str} (S : Step y bv own Z s own' Z' s') (hi : y.loc i = none) (hC : s.heap.get? C = none) : Step (y.put i (.dict C x)) bv own Z s own' Z' s' where
  sh := S.sh
  ext := ⟨fun a o e nw nf => S.ext.keep a o e (fun q => nw (wr_put hi q)) nf, S.ext.live, S.ext.fram⟩
  zm := S.zm
  zn := S.zn
  on := S.on
  bind := fun j k v n hk r => by
    rcases put_cases hk with ⟨rfl, rfl⟩ | ⟨hj, hk⟩
    · obtain ⟨m, ⟨o, _, _, e, _⟩, _⟩ := r; rw [hC] at e; cases e
    · exact S.bind j k v n hk r
theorem Step.unput {i : Nat} {C : Addr} {x : Str} (S : Step (y.put i (.dict C x)) bv own Z s own' Z' s') (hi : y.loc i = none) (hC : s.heap.get? C = none) : Step y bv own Z s own' Z' s' where
  sh := S.sh
  ext := ⟨fun a o e nw nf => S.ext.keep a o e (fun q => (put_wr q).elim nw fun q => by rw [q, hC] at e; cases e) nf, S.ext.live, S.ext.fram⟩
  zm := S.zm
  zn := S.zn
  on := S.on
  bind := fun j k v n hk r => S.bind j k v n (put_get hi hk) r
end

/-! ### a comprehension's names -/
noncomputable def clF (env : Env) : List (Str × NameKind) → List (Str × Addr) → List (Str × Addr)
  | [], acc => acc
  | (n, k) :: r, acc => if k == .free then clF env r ((n, (env.cells.lookup n).getD 0) :: acc) else clF env r acc
theorem closureFor_some {scope : Scope} {env : Env} (h : ∀ x ∈ scope.names, x.2 = .free → ∃ c, env.cells.lookup x.1 = some c) : closureFor scope env = pure (clF env scope.names []) := by
  simp only [closureFor]
  suffices H : ∀ (l : List (Str × NameKind)) (acc : List (Str × Addr)), (∀ x ∈ l, x.2 = .free → ∃ c, env.cells.lookup x.1 = some c) → (forIn l acc fun x r => match x with
      | (name, kind) => if (kind == NameKind.free) = true then do let a ← cellOf env name; pure (ForInStep.yield ((name, a) :: r)) else pure (ForInStep.yield r)) = (pure (clF env l acc) : Sem (List (Str × Addr))) by
    rw [H _ _ h]
    rfl
  intro l
  induction l with
  | nil => intro acc _; rfl
  | cons x l ih =>
    intro acc hx
    obtain ⟨n, k⟩ := x
    rw [List.forIn_cons]
    cases hk : k == NameKind.free with
    | false =>
      dsimp only
      rw [hk, if_neg Bool.false_ne_true]
      refine Eq.trans ?_ ((ih acc fun x hm => hx x (List.mem_cons_of_mem _ hm)).trans ?_)
      · rfl
      · simp [clF, hk]
    | true =>
      dsimp only
      rw [hk, if_pos rfl]
      obtain ⟨c, hc⟩ := hx (n, k) List.mem_cons_self (by simpa using hk)
      have hc' : env.cells.lookup n = some c := hc
      have : cellOf env n = pure c := by unfold cellOf; rw [hc']
      rw [this]
      refine Eq.trans ?_ ((ih ((n, c) :: acc) fun x hm => hx x (List.mem_cons_of_mem _ hm)).trans ?_)
      · rfl
      · simp [clF, hk, hc']
theorem clF_ok {env : Env} : ∀ (l : List (Str × NameKind)) (acc : List (Str × Addr)), (∀ x ∈ l, x.2 = .free → ∃ c, env.cells.lookup x.1 = some c) → (∀ p ∈ acc, env.cells.lookup p.1 = some p.2) → ∀ p ∈ clF env l acc, env.cells.lookup p.1 = some p.2
  | [], acc, _, h => h
  | (n, k) :: l, acc, hx, h => by
    have hx' : ∀ x ∈ l, x.2 = .free → ∃ c, env.cells.lookup x.1 = some c := fun x hm => hx x (List.mem_cons_of_mem _ hm)
    unfold clF
    split
    · rename_i hk
      refine clF_ok l _ hx' fun p hp => ?_
      rcases List.mem_cons.mp hp with rfl | hp
      · obtain ⟨c, hc⟩ := hx (n, k) List.mem_cons_self (by simpa using hk)
        have hc' : env.cells.lookup n = some c := hc
        simp [hc']
      · exact h p hp
    · exact clF_ok l acc hx' h
theorem clF_acc {env : Env} : ∀ (l : List (Str × NameKind)) (acc : List (Str × Addr)), ∀ p ∈ acc, p ∈ clF env l acc
  | [], acc, p, h => h
  | (n, k) :: l, acc, p, h => by
    unfold clF
    split
    · exact clF_acc l _ p (List.mem_cons_of_mem _ h)
    · exact clF_acc l _ p h
theorem clF_mem {env : Env} : ∀ (l : List (Str × NameKind)) (acc : List (Str × Addr)) (x : Str × NameKind), x ∈ l → x.2 = .free → ∃ c, (x.1, c) ∈ clF env l acc
  | [], _, _, h, _ => by cases h
  | (n, k) :: l, acc, x, h, hx => by
    rcases List.mem_cons.mp h with rfl | h
    · have hk : k = .free := hx
      subst hk
      exact ⟨(env.cells.lookup n).getD 0, by unfold clF; exact clF_acc l _ _ List.mem_cons_self⟩
    · unfold clF
      split
      · exact clF_mem l _ x h hx
      · exact clF_mem l _ x h hx
theorem lookup_of_mem {α : Type} : ∀ {l : List (Str × α)} {x : Str} {c : α}, (x, c) ∈ l → ∃ c', l.lookup x = some c' ∧ (x, c') ∈ l
  | [], _, _, h => by cases h
  | (n, a) :: l, x, c, h => by
    rw [List.lookup_cons]
    cases hx : x == n with
    | true => simp only [beq_iff_eq] at hx; subst hx; exact ⟨a, rfl, List.mem_cons_self⟩
    | false =>
      rcases List.mem_cons.mp h with q | h
      · cases q; simp at hx
      · obtain ⟨c', e, m⟩ := lookup_of_mem h
        exact ⟨c', e, List.mem_cons_of_mem _ m⟩
theorem mem_of_lookup {α : Type} : ∀ {l : List (Str × α)} {x : Str} {c : α}, l.lookup x = some c → (x, c) ∈ l
  | [], _, _, h => by cases h
  | (n, a) :: l, x, c, h => by
    rw [List.lookup_cons] at h
    cases hx : x == n with
    | true => rw [hx] at h; cases h; simp only [beq_iff_eq] at hx; subst hx; exact List.mem_cons_self
    | false => rw [hx] at h; exact List.mem_cons_of_mem _ (mem_of_lookup h)
theorem lookup_relabel_other {env : Env} {k : NameKind} (hk : k ≠ .free) : ∀ {names : List (Str × NameKind)} {x : Str}, names.lookup x = some k →
    (names.map fun (n, k) => if (k == NameKind.free && env.scope.kind == .function && env.kindOf n == some .cell) then (n, NameKind.cell) else (n, k)).lookup x = some k
  | [], _, h => by simp at h
  | (n, k') :: r, x, h => by
    have ih := @lookup_relabel_other env k hk r x
    show List.lookup x ((if (k' == NameKind.free && env.scope.kind == .function && env.kindOf n == some .cell) = true then (n, NameKind.cell) else (n, k')) :: _) = _
    cases hx : x == n with
    | true =>
      simp only [List.lookup_cons, hx] at h
      cases h
      have : (k == NameKind.free) = false := by simpa using hk
      simp [List.lookup_cons, hx, this]
    | false =>
      simp only [List.lookup_cons, hx] at h
      by_cases hc : (k' == NameKind.free && env.scope.kind == .function && env.kindOf n == some .cell) = true
      · rw [if_pos hc]; simp only [List.lookup_cons, hx]; exact ih h
      · rw [if_neg hc]; simp only [List.lookup_cons, hx]; exact ih h
theorem lookup_relabel_free {env : Env} : ∀ {names : List (Str × NameKind)} {x : Str}, names.lookup x = some .free →
    (names.map fun (n, k) => if (k == NameKind.free && env.scope.kind == .function && env.kindOf n == some .cell) then (n, NameKind.cell) else (n, k)).lookup x = some .free ∨
    (names.map fun (n, k) => if (k == NameKind.free && env.scope.kind == .function && env.kindOf n == some .cell) then (n, NameKind.cell) else (n, k)).lookup x = some .cell
  | [], _, h => by simp at h
  | (n, k') :: r, x, h => by
    have ih := @lookup_relabel_free env r x
    rw [List.map_cons]
    cases hx : x == n with
    | true =>
      simp only [List.lookup_cons, hx] at h
      cases h
      by_cases hc : (NameKind.free == NameKind.free && env.scope.kind == .function && env.kindOf n == some .cell) = true
      · right; show List.lookup x ((if _ then _ else _) :: _) = _; rw [if_pos hc]; simp only [List.lookup_cons, hx]
      · left; show List.lookup x ((if _ then _ else _) :: _) = _; rw [if_neg hc]; simp only [List.lookup_cons, hx]
    | false =>
      simp only [List.lookup_cons, hx] at h
      show List.lookup x ((if _ then _ else _) :: _) = _ ∨ List.lookup x ((if _ then _ else _) :: _) = _
      by_cases hc : (k' == NameKind.free && env.scope.kind == .function && env.kindOf n == some .cell) = true
      · rw [if_pos hc]; simp only [List.lookup_cons, hx]; exact ih h
      · rw [if_neg hc]; simp only [List.lookup_cons, hx]; exact ih h

theorem lookup_filter {p : Str × Nat → Bool} : ∀ {l : List (Str × Nat)} {x : Str} {i : Nat}, (∀ a b c, p (a, b) = p (a, c)) → (l.filter p).lookup x = some i → l.lookup x = some i ∧ p (x, i) = true
  | [], _, _, _, h => by cases h
  | (n, j) :: l, x, i, hp, h => by
    rw [List.lookup_cons]
    by_cases q : p (n, j) = true
    · rw [List.filter_cons_of_pos q, List.lookup_cons] at h
      cases hx : x == n with
      | true => rw [hx] at h; cases h; simp only [beq_iff_eq] at hx; subst hx; exact ⟨rfl, q⟩
      | false => rw [hx] at h; exact lookup_filter hp h
    · rw [List.filter_cons_of_neg q] at h
      obtain ⟨h1, h2⟩ := lookup_filter hp h
      cases hx : x == n with
      | true => simp only [beq_iff_eq] at hx; subst hx; rw [hp x i j] at h2; exact absurd h2 q
      | false => exact ⟨h1, h2⟩

theorem comp_env {scope : Scope} {sc : Sc} {env : Env} {y : Lay} {v : Str} {i : Nat} {C : Addr} (en : EnvOk A sc env y) (ok : CompOk scope sc v) (hi : sc.hi ≤ i) :
    closureFor scope env = pure (clF env scope.names []) ∧ EnvOk A (compSc scope sc v i) (compEnvC scope (clF env scope.names []) C env) (y.put i (.dict C v)) := by
  have cells : ∀ x ∈ scope.names, x.2 = .free → ∃ c, env.cells.lookup x.1 = some c := fun x hx hf => by
    obtain ⟨h1, h0, ⟨j, hj⟩, h3⟩ := ok.free x hx hf
    rcases en.var x.1 j hj with ⟨hk, _⟩ | ⟨_, c, hc, _⟩
    · rcases en.cf x.1 h3 with q | q <;> (rw [hk] at q; cases q)
    · exact ⟨c, hc⟩
  refine ⟨closureFor_some cells, ⟨en.stk, fun j l hl => ?_, ok.kind, en.glob, en.blt, en.frame, fun x j hx => ?_, fun x hx => ?_, fun x hx => ?_⟩⟩
  · show j < i + 1
    rcases put_cases hl with ⟨rfl, _⟩ | ⟨_, hl⟩
    · omega
    · have := en.hi j l hl; omega
  · show (_ = _ ∧ _) ∨ _
    unfold compSc at hx
    dsimp only at hx
    rw [List.lookup_cons] at hx
    cases hxv : x == v with
    | true =>
      rw [hxv] at hx; cases hx
      simp only [beq_iff_eq] at hxv; subst hxv
      exact .inl ⟨lookup_relabel_local ok.loc, put_self⟩
    | false =>
      rw [hxv] at hx
      obtain ⟨h1, h2⟩ := lookup_filter (fun _ _ _ => rfl) hx
      have hfree : scope.names.lookup x = some .free := by simpa using h2
      have hmem := mem_of_lookup hfree
      obtain ⟨_, h0, _, h3⟩ := ok.free _ hmem rfl
      right
      rcases en.var x j h1 with ⟨hk, _⟩ | ⟨_, c, hc, hl⟩
      · rcases en.cf x h3 with q | q <;> (rw [hk] at q; cases q)
      · refine ⟨?_, c, ?_, ?_⟩
        · rcases lookup_relabel_free (env := env) hfree with q | q
          · exact .inr ⟨q, h0⟩
          · exact .inl q
        · obtain ⟨c1, hm⟩ := clF_mem (env := env) scope.names [] _ hmem rfl
          obtain ⟨c2, e2, m2⟩ := lookup_of_mem hm
          have := clF_ok scope.names [] cells (fun p hp => by cases hp) _ m2
          have : env.cells.lookup x = some c2 := this
          rw [hc] at this; cases this
          exact e2
        · refine (put_ne ?_).trans hl
          have := en.hi j _ hl; omega
  · exact lookup_relabel_other (by intro q; cases q) hx
  · rcases hx with hx | hx
    · exact .inl (lookup_relabel_other (by intro q; cases q) hx)
    · exact (lookup_relabel_free hx).symm
end Mv

end

section
set_option maxRecDepth 100000
set_option linter.unusedSectionVars false
set_option linter.unusedVariables false
namespace Mv
open PySem PyProof.Rows
variable [Hp]

section
variable {A : Around} {B : Heap} {mg mb : Str → Option Value} {tb : Tb} {c : Cfg} {n : Nat} {env : Env} {sc : Sc} {y : Lay}
  {bv bv' : List Nat} {own own₁ : Addr → Option Nat} {Z Z₁ : Addr → Prop} {s s₁ : Shared} {fr fr₁ : Frame}

noncomputable def PostB (B : Heap) (y : Lay) (bv : List Nat) (own : Addr → Option Nat) (Z : Addr → Prop) (s : Shared) (out : Except Str Bool × Frame) (b : Bool) (s' : Shared) : Prop :=
  ∃ own' Z', out.1 = .ok b ∧ Inv B y own' Z' s'.heap out.2 ∧ Step y bv own Z s own' Z' s'

theorem tests_false {Q : Bool → Shared → Prop} {E : Value → Shared → Prop} : ∀ {ifs : List Expr}, Q false s →
    wpAny (model prog w) A (forIn ifs false fun c r => if r = true then do let ok ← isTrue c env (eval c env); pure (ForInStep.yield ok) else pure (ForInStep.yield r)) Q E s
  | [], h => wpAny_pure h
  | e :: es, h => by
    simp only [List.forIn_cons, Bool.false_eq_true, if_false]
    exact wpAny_bind (wpAny_pure (tests_false h))

theorem conds_sound : ∀ {ifs : List Expr} {conds : List Ex}, F2 (fun e x => ST prog w A B c y (isTrue e env (eval e env)) x) ifs conds → ∀ (own : Addr → Option Nat) (Z : Addr → Prop) (s : Shared) (fr : Frame) (out : Except Str Bool × Frame), evConds c conds fr = some out → Inv B y own Z s.heap fr →
    wpAny (model prog w) A (forIn ifs true fun c r => if r = true then do let ok ← isTrue c env (eval c env); pure (ForInStep.yield ok) else pure (ForInStep.yield r)) (PostB B y (bvEs conds) own Z s out) (PostX B y (bvEs conds) own Z s out) s
  | [], [], _ => by
    intro own Z s fr out h I
    cases h
    exact wpAny_pure ⟨own, Z, rfl, I, .refl⟩
  | e :: es, x :: xs, F => by
    intro own Z s fr out h I
    rw [evConds_cons] at h
    simp only [List.forIn_cons, if_true]
    refine wpAny_bind (wpAny_bind (seqT (bv := bvE x) (bv' := bvE x ++ bvEs xs) h .refl inl_ (fun r fr₂ h => ?_) (fun o e hd => F.1 own Z s fr o e hd I) fun r d fr₁ own₁ Z₁ s₁ h hd I₁ S₁ S => ?_))
    · split at h
      · cases h
      · exact ⟨_, by assumption⟩
    · rw [hd] at h
      dsimp only at h
      refine wpAny_pure ?_
      dsimp only
      cases ht : truthD d with
      | true =>
        rw [ht, if_pos rfl] at h
        refine wpAny_mono (conds_sound F.2.2 own₁ Z₁ s₁ fr₁ out h I₁) (fun b s' p => ?_) fun e s' p => p.sub inr_ S
        obtain ⟨own', Z', e, I', S'⟩ := p
        exact ⟨own', Z', e, I', S.trans (S'.sub inr_)⟩
      | false =>
        rw [ht, if_neg Bool.false_ne_true] at h
        cases h
        exact tests_false ⟨own₁, Z₁, rfl, I₁, S⟩
  | [], _ :: _, F => F.elim
  | _ :: _, [], F => F.elim

theorem clr_one {fr : Frame} {i : Nat} : ∀ sl, (clr fr [i])[i]? = some sl → sl = .no := fun sl e => by
  rcases set_get e with ⟨_, q⟩ | ⟨q, _⟩
  · exact q
  · exact absurd rfl q

inductive CInv (B : Heap) (y : Lay) (bv : List Nat) (own : Addr → Option Nat) (Z : Addr → Prop) (s : Shared) (items : List D) (fp wr : List Addr) (P : Nat → Value → Prop) (St : Nat → Heap → Prop) (Da : Addr) (c : Cfg) (x : Ex) (i : Nat) (conds : List Ex) (out : Except Str Rv × Frame) (m : Nat) (s' : Shared) : Prop
  | mk (k : Nat) (own' : Addr → Option Nat) (Z' : Addr → Prop) (fr' : Frame) (vs : List Value) (ds0 : List D) : m = items.length + 1 - k → k ≤ items.length → Inv B y own' Z' s'.heap fr' → Step y bv own Z s own' Z' s' →
      WkAt y items fp wr P St s.heap own' Z' s'.heap k → Loose y own' Z' s.heap s'.heap Da → s'.heap.PlainList Da vs.toArray → RepAll s'.heap Z' vs ds0 → ds0.length ≤ k →
      bndNK (compB c fr' x (.one i) conds (items.drop k)) (fun ds1 fr => some (.ok (.own (.list (ds0 ++ ds1))), fr)) = some out → CInv B y bv own Z s items fp wr P St Da c x i conds out m s'
theorem comp_loop {elt iter : Expr} {v : Str} {pv pos : Pos} {ifs : List Expr} {scope : Scope} {i : Nat} {conds : List Ex} {x : Ex} {out : Except Str Rv × Frame} {It Da : Addr} {items : List D} {fp wr : List Addr} {P : Nat → Value → Prop} {St : Nat → Heap → Prop} {l : Loc} {R : Result → Shared → Prop}
    (en : EnvOk A sc env y) (hv : sc.vars.lookup v = some i) (hk : env.kindOf v = some .local) (hl : y.loc i = some l) (hX : SE prog w A B c y (eval elt env) x) (hC : F2 (fun e x => ST prog w A B c y (isTrue e env (eval e env)) x) ifs conds)
    (bvI : ∀ j ∈ [i], j ∈ bv) (bvX : ∀ j ∈ bvE x, j ∈ bv) (bvC : ∀ j ∈ bvEs conds, j ∈ bv) (W : Wk prog w A y It items fp wr P St) (hlen : items.length ≤ Sz) (hfpD : Da ∉ fp) (sD : s.heap.get? Da = none)
    (I₁ : Inv B y own₁ Z₁ s₁.heap fr₁) (S₁ : Step y bv own Z s own₁ Z₁ s₁) (WA₁ : WkAt y items fp wr P St s.heap own₁ Z₁ s₁.heap 0) (LD₁ : Loose y own₁ Z₁ s.heap s₁.heap Da) (hacc : s₁.heap.PlainList Da ([] : List Value).toArray)
    (h : bndNK (compB c fr₁ x (.one i) conds items) (fun ds fr => some (.ok (.own (.list ds)), fr)) = some out)
    (K : ∀ (s' : Shared) (own' : Addr → Option Nat) (Z' : Addr → Prop) (ds : List D) (fr' : Frame), out = (.ok (.own (.list ds)), clr fr' [i]) → Inv B y own' Z' s'.heap fr' → Step y bv own Z s own' Z' s' → Loose y own' Z' s.heap s'.heap Da → OwnAt s'.heap Z' Da (.list ds) → R (.ok .next) s') :
    codeAny (model prog w) A (.compLoop (.ListComp elt [⟨.Name v pv, iter, ifs, 0⟩] scope pos) 0 (.ref It) (.ref Da) env) R s₁ := by
  refine codeAny_compLoop_tests (CInv B y bv own Z s items fp wr P St Da c x i conds out) ?_ (items.length + 1)
    ⟨0, own₁, Z₁, fr₁, [], [], rfl, Nat.zero_le _, I₁, S₁, WA₁, LD₁, hacc, .nil, Nat.zero_le _, by rw [List.drop_zero]; exact h⟩
  clear h I₁ S₁ WA₁ LD₁ hacc
  rintro m s' ⟨k, own', Z', fr', vs, ds0, rfl, hk', I', S', WA', LD', hpl, RA, hdl, hh⟩
  by_cases hkl : k < items.length
  · clear K
    have hd : items[k]? = some items[k] := List.getElem?_eq_getElem hkl
    rw [List.drop_eq_getElem_cons hkl] at hh
    generalize items[k] = d at hd hh
    rw [compB_cons] at hh
    refine next_item W WA' I' S' hd fun val s₅ Rv₅ WA₅ I₅ S₅ kp₅ sh₅ => ?_
    have kD : ∀ o, s'.heap.get? Da = some o → s₅.heap.get? Da = some o := fun o e => kp₅ Da o (fun hm => hfpD (W.wk.sub Da hm)) e
    have LD₅ := LD'.other (h' := s₅.heap) (let ⟨n, e⟩ := hpl; ⟨_, kD _ e⟩)
    have hpl₅ := hpl.at kD
    have hvl : vs.length ≤ items.length := by rw [RA.length]; omega
    have RA₅ : RepAll s₅.heap Z' vs ds0 := RA.mono (fun a o z => kp₅ a o fun q => (WA'.wr a q).2.2.2.1 z) fun _ z => z
    clear kD hpl LD' RA S' WA' I' kp₅
    simp only [tgtVars] at hh
    have I₅c := I₅.clr [i]
    generalize clr fr' [i] = fr₅ at hh I₅c
    simp only [asgT] at hh
    split at hh
    · cases hh
    · rename_i fr₆ hfr₆
      obtain ⟨_, rfl⟩ := ifn hfr₆
      refine wpAny_assign_Name (store_put en hv (by rw [hk]; intro q; cases q) hl I₅c fun h₆ tk PT => ?_)
      have I₆ := PT.fz I₅c hl Rv₅
      have S56 := PT.step (tk := tk) hl I₅c
      have S₆ := S₅.trans (S56.sub bvI)
      have WA₆ := WA₅.step W I₅c S56
      obtain ⟨LD₆, kD₆⟩ := S56.loose LD₅
      have hpl₆ := hpl₅.at kD₆
      have RA₆ := S56.repAll I₅c RA₅
      clear S56 kD₆ hpl₅ RA₅ LD₅ WA₅ S₅ Rv₅ PT I₅c hfr₆
      rcases hcv : evConds c conds (fr₅.set i (.fz d)) with _ | ⟨e7 | b, fr₇⟩
      · rw [hcv] at hh; cases hh
      · rw [hcv] at hh; exact nos hh
      · rw [hcv] at hh
        refine wpAny_mono (conds_sound hC own' Z' { s₅ with heap := h₆, toks := tk } _ _ hcv I₆) (fun b' s₇ p => ?_) fun _ _ x => x.elim
        obtain ⟨own₇, Z₇, q, I₇, S67⟩ := p
        cases q
        have S₇ := S₆.trans (S67.sub bvC)
        have WA₇ := WA₆.step W I₆ S67
        obtain ⟨LD₇, kD₇⟩ := S67.loose LD₆
        have hpl₇ := hpl₆.at kD₇
        have RA₇ := S67.repAll I₆ RA₆
        clear S67 kD₇ hpl₆ RA₆ LD₆ WA₆ S₆ I₆
        rw [bnd_ok] at hh
        cases b with
        | false =>
          rw [if_neg Bool.false_ne_true] at hh ⊢
          exact ⟨items.length + 1 - (k + 1), by omega, k + 1, own₇, Z₇, fr₇, vs, ds0, rfl, hkl, I₇, S₇, WA₇, LD₇, hpl₇, RA₇, Nat.le_succ_of_le hdl, hh⟩
        | true =>
          rw [if_pos rfl] at hh ⊢
          rcases hev : ev c x fr₇ with _ | ⟨e8 | r, fr₈⟩
          · rw [hev] at hh; cases hh
          · rw [hev] at hh; exact nos hh
          · rw [hev, bnd_ok] at hh
            refine wpAny_mono (hX own₇ Z₇ s₇ _ _ hev I₇) (fun val s₈ p => ?_) fun _ _ x => x.elim
            obtain ⟨r', own₈, Z₈, q, I₈, S78, R₈⟩ := p
            cases q
            cases hr : rvV r with
            | none => rw [hr] at hh; cases hh
            | some d' =>
              rw [hr] at hh
              obtain ⟨Z₉, I₉, S79, R₉⟩ := R₈.freeze I₈ S78 hr
              have S₉ := S₇.trans (S79.sub bvX)
              have WA₉ := WA₇.step W I₇ S79
              obtain ⟨LD₉, kD₉⟩ := S79.loose LD₇
              have hpl₉ := hpl₇.at kD₉
              have RA₉ := S79.repAll I₇ RA₇
              clear S79 kD₉ hpl₇ RA₇ LD₇ WA₇ S₇ I₇ R₈ I₈ S78
              refine wpAny_list_append_plain (hsz := by rw [List.size_toArray, ← sz_line]; omega) hpl₉ fun h₁₀ hp₁₀ hs₁₀ => ?_
              have kp : ∀ b o, ¬ b = Da → s₈.heap.get? b = some o → h₁₀.get? b = some o := fun b o q e => hs₁₀.extBut b o q e
              have hXX : ∀ b, b = Da → ¬ y.wr own₈ b ∧ ¬ y.F b ∧ ¬ Z₉ b := fun b q => by subst q; exact ⟨LD₉.2.1, LD₉.2.2.1, LD₉.2.2.2.1⟩
              have kz : ∀ a o, Z₉ a → s₈.heap.get? a = some o → h₁₀.get? a = some o := fun a o z e => kp a o (fun q => (hXX a q).2.2 z) e
              refine ⟨items.length + 1 - (k + 1), by omega, k + 1, own₈, Z₉, fr₈, vs ++ [val], ds0 ++ [d'], rfl, hkl, I₉.other hXX kp, S₉.other (tk := s₈.toks) (X := fun b => b = Da) (fun b q => ⟨q ▸ sD, (hXX b q).1⟩) kp,
                WA₉.other W (X := fun b => b = Da) (fun b q => ⟨(hXX b q).2.2, q ▸ hfpD⟩) kp, LD₉.other (let ⟨n, e⟩ := hp₁₀; ⟨_, e⟩), by simpa using hp₁₀, (RA₉.mono kz fun _ z => z).append (.cons (R₉.mono kz fun _ z => z) .nil), by rw [List.length_append]; simp; exact hdl, ?_⟩
              rcases hcb : compB c fr₈ x (.one i) conds (items.drop (k + 1)) with _ | ⟨_ | ds1, f⟩
              · rw [hcb] at hh; cases hh
              · rw [hcb] at hh; exact hh
              · rw [hcb] at hh
                refine Eq.trans ?_ hh
                show some ((Except.ok (Rv.own (.list (ds0 ++ [d'] ++ ds1))) : Except Str Rv), f) = some (Except.ok (Rv.own (.list (ds0 ++ d' :: ds1))), f)
                rw [List.append_assoc]; rfl
  · have hke : k = items.length := by omega
    subst hke
    rw [List.drop_length, compB_nil] at hh
    have hout : out = (.ok (.own (.list (ds0 ++ []))), clr fr' [i]) := (Option.some.inj hh).symm
    rw [List.append_nil] at hout
    refine next_done W WA' I' S' fun s'' I'' S'' kp _ => ?_
    have kD : ∀ o, s'.heap.get? Da = some o → s''.heap.get? Da = some o := fun o e => kp Da o (fun hm => hfpD (W.wk.sub Da hm)) e
    have kz : ∀ a o, Z' a → s'.heap.get? a = some o → s''.heap.get? a = some o := fun a o z => kp a o fun q => (WA'.wr a q).2.2.2.1 z
    obtain ⟨n, e⟩ := hpl.at kD
    exact K s'' own' Z' ds0 fr' hout I'' S'' (LD'.other (h' := s''.heap) ⟨_, e⟩) (.list e (by rw [RA.length]; omega) (RA.mono kz fun _ z => z))
theorem comp_any {elt iter : Expr} {v : Str} {pv pos pos' : Pos} {ifs : List Expr} {scope : Scope} {i : Nat} {it : Itk} {src conds : List Ex} {x : Ex} {out : Except Str Rv × Frame} {use : Option (Value → Sem Unit)} {Q : Value → Shared → Prop} {E : Value → Shared → Prop}
    (en : EnvOk A sc env y) (ok : CompOk scope sc v) (hi : sc.hi ≤ i) (hI : SI prog w A B c y (eval iter env) it src) (hfold : ∀ v, foldedSetIterable iter env v = pure v)
    (hX : ∀ env y, EnvOk A (compSc scope sc v i) env y → SE prog w A B c y (eval elt env) x) (hC : ∀ env y, EnvOk A (compSc scope sc v i) env y → F2 (fun e x => ST prog w A B c y (isTrue e env (eval e env)) x) ifs conds)
    (h : ev c (.comp x (.one i) it src conds) fr = some out) (I : Inv B y own Z s.heap fr)
    (hE : ∀ e s', PostX B y (bvE (.comp x (.one i) it src conds)) own Z s out e s' → E e s')
    (K : ∀ (Da C : Addr) (s' : Shared) (own' : Addr → Option Nat) (Z' : Addr → Prop) (ds : List D) (fr' : Frame) (m : Str → Option Value), out = (.ok (.own (.list ds)), fr') → Inv B y own' Z' s'.heap fr' → Step y (bvE (.comp x (.one i) it src conds)) own Z s own' Z' s' →
      RvAt y own' Z' s.heap s'.heap (.own (.list ds)) (.ref Da) → Loose y own' Z' s.heap s'.heap C → s'.heap.Ns C m → Da ≠ C → compPost (model prog w) A E use Q (.ref Da) C (.ok .next) s') :
    wpAny (model prog w) A (comprehension (.ListComp elt [⟨.Name v pv, iter, ifs, 0⟩] scope pos) scope env pos' (newList []) false (eval iter env) use) Q E s := by
  have hyi : y.loc i = none := by
    cases q : y.loc i with
    | none => rfl
    | some l => have := en.hi i l q; omega
  rw [ev_comp] at h
  cases hhd : c.hd with
  | true => rw [hhd] at h; cases h
  | false =>
  rw [hhd, if_neg Bool.false_ne_true] at h
  have bvS : ∀ j ∈ bvEs src, j ∈ bvE (.comp x (.one i) it src conds) := fun j hj => List.mem_append_left _ (List.mem_append_right _ hj)
  have bvX : ∀ j ∈ bvE x, j ∈ bvE (.comp x (.one i) it src conds) := fun j hj => List.mem_append_left _ (List.mem_append_left _ (List.mem_append_right _ hj))
  have bvC : ∀ j ∈ bvEs conds, j ∈ bvE (.comp x (.one i) it src conds) := fun j hj => List.mem_append_right _ hj
  have bvI : ∀ j ∈ [i], j ∈ bvE (.comp x (.one i) it src conds) := fun j hj => List.mem_append_left _ (List.mem_append_left _ (List.mem_append_left _ hj))
  generalize hbv : bvE (.comp x (.one i) it src conds) = bv at *
  have env' := fun C => (comp_env (C := C) en ok hi)
  refine wpAny_comprehension_free (use := use) rfl hfold (env' 0).1 ok.kind ok.names ?_
  rcases bnd_some h with ⟨e, f, hm, rfl⟩ | ⟨rs, fr₁, hm, h⟩
  · refine wpAny_mono (hI own Z s fr _ hm (fun rs q => by cases q) hhd I) (fun x s₁ p => wpAny_mono p (fun itv s₂ p => ?_) fun _ _ x => hE _ _ (x.up bvS .refl)) fun _ _ x => hE _ _ (x.up bvS .refl)
    obtain ⟨_, _, _, _, _, _, _, _, _, _, q, _⟩ := p; cases q
  · split at h
    · cases h
    · rename_i ds hds
      split at h
      · cases h
      · rename_i items hitems
        refine wpAny_mono (hI own Z s fr _ hm (fun rs q => by cases q; exact ⟨ds, items, hds, hitems⟩) hhd I) (fun xv s₁ p => wpAny_mono p (fun itv s₂ p => ?_) fun _ _ x => x.elim) fun _ _ x => x.elim
        obtain ⟨rs', ds', items', own₁, Z₁, It, fp, wr, P, St, q, hds', hit', hlen, rfl, I₂, S₂, W, WA⟩ := p
        cases q
        rw [hds] at hds'; cases hds'
        rw [hitems] at hit'; cases hit'
        dsimp only at I₂
        have S₂ := S₂.sub bvS
        -- the list and the block
        refine wpAny_newObj_type (wpAny_newFunctionEnv ok.cell (by intro z hz; cases hz) (fun h₁ hns₁ hsb₁ => ?_) ok.kind)
        dsimp only at hns₁ hsb₁ ⊢
        generalize hH2 : s₂.heap.push { cls := .type "list", dict := none, data := .seq ([] : List Value).toArray } = H2 at hns₁ hsb₁ ⊢
        let Da := s₂.heap.objs.size
        let C := H2.objs.size
        have hsz : H2.objs.size = s₂.heap.objs.size + 1 := by rw [← hH2, Heap.size_push]
        have hDC : Da ≠ C := by show s₂.heap.objs.size ≠ H2.objs.size; omega
        have nC : s₂.heap.get? C = none := by
          cases e : s₂.heap.get? C with
          | none => rfl
          | some o => have := Heap.lt_size e; exact absurd this (by show ¬ H2.objs.size < _; omega)
        have nD : s₂.heap.get? Da = none := heap_size_none _
        have old : ∀ b o, s₂.heap.get? b = some o → h₁.get? b = some o := fun b o e => by
          have hb := Heap.lt_size e
          exact hsb₁.extBut b o (Nat.ne_of_lt (Nat.lt_trans hb (by rw [hsz]; exact Nat.lt_succ_self _))) (Heap.get?_push_of_some _ (hH2 ▸ Heap.get?_push_of_some _ e))
        have hacc : h₁.PlainList Da ([] : List Value).toArray := ⟨_, hsb₁.extBut _ _ hDC (Heap.get?_push_of_some _ (hH2 ▸ Heap.get?_push_size _ rfl))⟩
        have fC := I₂.fresh nC
        have fD := I₂.fresh nD
        have sC : s.heap.get? C = none := S₂.old _ nC
        have sD : s.heap.get? Da = none := S₂.old _ nD
        have en' : EnvOk A (compSc scope sc v i) (compEnvC scope (clF env scope.names []) C env) (y.put i (.dict C v)) := (env' C).2
        have hfpD : Da ∉ fp := fun hm => by obtain ⟨o, e⟩ := W.lv 0 _ WA.st Da hm; rw [nD] at e; cases e
        have W' : Wk prog w A (y.put i (.dict C v)) It items fp wr P St := ⟨W.wk, W.lv, W.cls⟩
        -- the turns
        let s₄ : Shared := { s₂ with heap := h₁, toks := s₂.toks + ([] : List (Str × Value)).length }
        have I₄ : Inv B (y.put i (.dict C v)) own₁ Z₁ s₄.heap fr₁ := (I₂.grow old).put hyi fC.1 fC.2.1 fC.2.2 hns₁
        have S₄ : Step (y.put i (.dict C v)) bv own Z s own₁ Z₁ s₄ := (S₂.trans (.grow old)).put hyi sC
        have lp : ∀ {b : Addr}, Loose y own₁ Z₁ s.heap s₂.heap b → Loose (y.put i (.dict C v)) own₁ Z₁ s.heap s₄.heap b := fun {b} l => by
          obtain ⟨l1, l2, l3, l4, o, l5⟩ := l
          exact ⟨l1, fun q => (put_wr q).elim l2 (fun q => by rw [q, nC] at l5; cases l5), l3, l4, o, old b o l5⟩
        have WA₄ : WkAt (y.put i (.dict C v)) items fp wr P St s.heap own₁ Z₁ s₄.heap 0 :=
          ⟨W.wk.frame 0 _ _ WA.st fun b _ o e => old b o e, fun b hb => (WA.fp b hb).imp id lp, fun b hb => lp (WA.wr b hb), fun j v hj p => let ⟨d, e, r⟩ := WA.it j v hj p; ⟨d, e, r.mono (fun a o _ => old a o) fun _ z => z⟩⟩
        have LD : Loose (y.put i (.dict C v)) own₁ Z₁ s.heap s₄.heap Da := ⟨sD, fun q => (put_wr q).elim fD.1 fun q => hDC q, fD.2.1, fD.2.2, let ⟨n, e⟩ := hacc; ⟨_, e⟩⟩
        have loop : codeAny (model prog w) A (.compLoop (.ListComp elt [⟨.Name v pv, iter, ifs, 0⟩] scope pos) 0 (.ref It) (.ref Da) (compEnvC scope (clF env scope.names []) C env)) (compPost (model prog w) A E use Q (.ref Da) C) s₄ := by
          refine comp_loop en' (by simp [compSc]) (lookup_relabel_local ok.loc) put_self (hX _ _ en') (hC _ _ en') bvI bvX bvC W' hlen hfpD sD I₄ S₄ WA₄ LD hacc h fun s'' own' Z' ds0 fr' hout I'' S'' LD'' OA => ?_
          obtain ⟨m, hm⟩ := I''.ok i _ put_self
          refine K Da C s'' own' Z' ds0 _ m hout ((I''.clr [i]).unput I.wf hyi clr_one) (S''.unput hyi sC) ⟨Da, rfl, sD, fun q => LD''.2.1 (wr_put hyi q), LD''.2.2.1, LD''.2.2.2.1, OA⟩ ⟨sC, fun q => ?_, I''.wf.nf i _ put_self, I''.zl i _ put_self, let ⟨o, _, _, e, _⟩ := hm; ⟨o, e⟩⟩ hm hDC
          rcases q with q | q | ⟨j, l, hl, q⟩
          · exact q (I''.ol i _ put_self)
          · obtain ⟨m, o, _, _, e, _⟩ := I₂.nsL; rw [← q, nC] at e; cases e
          · obtain ⟨o, e⟩ := (I₂.ok j l hl).live; rw [q, nC] at e; cases e
        exact codeAny_compStart_list loop (W.wk.self 0 _ _ _ WA₄.st loop)

theorem se_comp {elt iter : Expr} {v : Str} {pv pos : Pos} {ifs : List Expr} {scope : Scope} {i : Nat} {it : Itk} {src conds : List Ex} {x : Ex}
    (en : EnvOk A sc env y) (ok : CompOk scope sc v) (hi : sc.hi ≤ i) (hI : SI prog w A B c y (eval iter env) it src) (hfold : ∀ v, foldedSetIterable iter env v = pure v)
    (hX : ∀ env y, EnvOk A (compSc scope sc v i) env y → SE prog w A B c y (eval elt env) x) (hC : ∀ env y, EnvOk A (compSc scope sc v i) env y → F2 (fun e x => ST prog w A B c y (isTrue e env (eval e env)) x) ifs conds) :
    SE prog w A B c y (eval (.ListComp elt [⟨.Name v pv, iter, ifs, 0⟩] scope pos) env) (.comp x (.one i) it src conds) := by
  intro own Z s fr out h I
  rw [eval_ListComp]
  refine comp_any (use := none) en ok hi hI hfold hX hC h I (fun _ _ x => x) fun D C s' own' Z' ds fr' m ho I' S' R' LC hm hDC => ?_
  subst ho
  refine ⟨m, hm, fun h' hs => ?_⟩
  obtain ⟨a, q, n0, nw, nf, nz, W⟩ := R'
  cases q
  have kp : ∀ b o, ¬ b = C → s'.heap.get? b = some o → h'.get? b = some o := fun b o q e => hs.extBut b o q e
  have hXX : ∀ b, b = C → ¬ y.wr own' b ∧ ¬ y.F b ∧ ¬ Z' b := fun b q => by subst q; exact ⟨LC.2.1, LC.2.2.1, LC.2.2.2.1⟩
  exact ⟨_, own', Z', rfl, I'.other hXX kp, S'.other (X := fun b => b = C) (fun b q => ⟨q ▸ LC.1, (hXX b q).1⟩) kp, _, rfl, n0, nw, nf, nz, W.mono (fun a o z => kp a o fun q => (hXX a q).2.2 z) (fun _ z => z) fun o e => kp _ o hDC e⟩
end
end Mv

end

section
set_option maxRecDepth 100000
set_option linter.unusedSectionVars false
set_option linter.unusedVariables false
namespace Mv
open PySem PyProof.Rows
variable [Hp]

theorem F2.imp {P Q : Expr → Ex → Prop} (h : ∀ e x, P e x → Q e x) : ∀ {es : List Expr} {xs : List Ex}, F2 P es xs → F2 Q es xs
  | [], [], _ => trivial
  | _ :: _, _ :: _, F => ⟨h _ _ F.1, F.2.1, F.2.2.imp h⟩
  | [], _ :: _, F => F.elim
  | _ :: _, [], F => F.elim

section
variable {A : Around} {B : Heap} {mg mb : Str → Option Value} {tb : Tb} {c : Cfg} {n : Nat}

noncomputable abbrev M1 (prog : Program) (w : World) (A : Around) (B : Heap) (c : Cfg) (sc : Sc) (e : Expr) (x : Ex) : Prop := ∀ (env : Env) (y : Lay), EnvOk A sc env y → SE prog w A B c y (eval e env) x ∧ ST prog w A B c y (isTrue e env (eval e env)) x
noncomputable abbrev M2 (prog : Program) (w : World) (A : Around) (B : Heap) (tb : Tb) (c : Cfg) (sc : Sc) (es : List Expr) (xs : List Ex) : Prop := ∀ (env : Env) (y : Lay), EnvOk A sc env y → F2 (fun e x => CE tb sc e x ∧ SE prog w A B c y (eval e env) x ∧ ST prog w A B c y (isTrue e env (eval e env)) x) es xs
noncomputable abbrev M3 (prog : Program) (w : World) (A : Around) (B : Heap) (c : Cfg) (sc : Sc) (o : Option Expr) (x : Ex) : Prop := ∀ (env : Env) (y : Lay), EnvOk A sc env y → SE prog w A B c y (evalPart o env) x
noncomputable abbrev M4 (prog : Program) (w : World) (A : Around) (B : Heap) (c : Cfg) (sc : Sc) (e : Expr) (it : Itk) (src : List Ex) : Prop := ∀ (env : Env) (y : Lay), EnvOk A sc env y → SI prog w A B c y (eval e env) it src

theorem sound_all (R : Rn prog w A B mg mb tb c n) : (∀ sc e x, CE tb sc e x → M1 prog w A B c sc e x) ∧ (∀ sc es xs, CEs tb sc es xs → M2 prog w A B tb c sc es xs) ∧ ∀ sc e it src, IT tb sc e it src → M4 prog w A B c sc e it src := by
  have both : ∀ {sc : Sc} {e : Expr} {x : Ex}, (∀ env y, EnvOk A sc env y → SE prog w A B c y (eval e env) x) → (∀ env, isTrue e env (eval e env) = (do let v ← eval e env; standAt e.pos; holding [v] (truthy v))) → M1 prog w A B c sc e x :=
    fun H he env y en => ⟨H env y en, .of (H env y en) (he env)⟩
  have p2 : ∀ {sc : Sc} {es : List Expr} {xs : List Ex} {env : Env} {y : Lay}, F2 (fun e x => CE tb sc e x ∧ SE prog w A B c y (eval e env) x ∧ ST prog w A B c y (isTrue e env (eval e env)) x) es xs → F2 (fun e x => CE tb sc e x ∧ SE prog w A B c y (eval e env) x) es xs := fun F => F.imp fun _ _ h => ⟨h.1, h.2.1⟩
  have pe : ∀ {sc : Sc} {es : List Expr} {xs : List Ex} {env : Env} {y : Lay}, F2 (fun e x => CE tb sc e x ∧ SE prog w A B c y (eval e env) x ∧ ST prog w A B c y (isTrue e env (eval e env)) x) es xs → F2 (fun e x => SE prog w A B c y (eval e env) x) es xs := fun F => F.imp fun _ _ h => h.2.1
  have pt : ∀ {sc : Sc} {es : List Expr} {xs : List Ex} {env : Env} {y : Lay}, F2 (fun e x => CE tb sc e x ∧ SE prog w A B c y (eval e env) x ∧ ST prog w A B c y (isTrue e env (eval e env)) x) es xs → F2 (fun e x => ST prog w A B c y (isTrue e env (eval e env)) x) es xs := fun F => F.imp fun _ _ h => h.2.2
  have c_lit : ∀ {sc : Sc} {k : Const} {kk : Nat} {pos : Pos} {d : D} (a : ConstIs k d), M1 prog w A B c sc (.Constant k kk pos) (.lit d) := fun a => both (fun env y en => se_lit a) fun _ => rfl
  have c_var : ∀ {sc : Sc} {x : Str} {pos : Pos} {i : Nat} (a : sc.isV x i), M1 prog w A B c sc (.Name x pos) (.var i) := fun a => both (fun env y en => se_var en a) fun _ => rfl
  have c_pl : ∀ {sc : Sc} {x : Str} {pos : Pos} {i : Nat} (a : sc.isV x i), M1 prog w A B c sc (.Name x pos) (.pl (.var i)) := fun a => both (fun env y en => se_pl en a) fun _ => rfl
  have c_gl : ∀ {sc : Sc} {x : Str} {pos : Pos} {k : Nat} (a : sc.isG x) (b : tb.gl[k]? = some x), M1 prog w A B c sc (.Name x pos) (.gl k) := fun a b => both (fun env y en => se_gl R en a b) fun _ => rfl
  have c_tup : ∀ {sc : Sc} {es : List Expr} {k : Nat} {pos : Pos} {xs : List Ex} (a : CEs tb sc es xs) (b : xs.length ≤ 1000), M2 prog w A B tb c sc es xs → M1 prog w A B c sc (.Tuple es k pos) (.tup xs) := fun a b ih => both (fun env y en => se_tup (p2 (ih env y en)) b) fun _ => rfl
  have c_list : ∀ {sc : Sc} {es : List Expr} {pos : Pos} {xs : List Ex} (a : CEs tb sc es xs) (b : xs.length ≤ 1000), M2 prog w A B tb c sc es xs → M1 prog w A B c sc (.List es pos) (.list xs) := fun a b ih => both (fun env y en => se_list (p2 (ih env y en)) b) fun _ => rfl
  have c_op2 : ∀ {sc : Sc} {a b : Expr} {pos : Pos} {o : Op2} {x z : Ex} (h1 : CE tb sc a x) (h2 : CE tb sc b z) (h3 : Apart x (bvE z)), M1 prog w A B c sc a x → M1 prog w A B c sc b z → M1 prog w A B c sc (.BinOp a (opOf o) b pos) (.op2 o x z) :=
    fun h1 h2 h3 i1 i2 => both (fun env y en => se_op2 (i1 env y en).1 (i2 env y en).1 h3) fun _ => rfl
  have c_neg : ∀ {sc : Sc} {a : Expr} {pos : Pos} {x : Ex} (h1 : CE tb sc a x), M1 prog w A B c sc a x → M1 prog w A B c sc (.UnaryOp .USub a pos) (.neg x) := fun h1 i1 => both (fun env y en => se_neg (i1 env y en).1) fun _ => rfl
  have c_not : ∀ {sc : Sc} {a : Expr} {pos : Pos} {x : Ex} (h1 : CE tb sc a x), M1 prog w A B c sc a x → M1 prog w A B c sc (.UnaryOp .Not a pos) (.not x) := fun h1 i1 env y en => ⟨se_not (i1 env y en).1, st_not (i1 env y en).2⟩
  have c_cmp : ∀ {sc : Sc} {a b : Expr} {pos : Pos} {o : Cm} {x z : Ex} (h1 : CE tb sc a x) (h2 : CE tb sc b z) (h3 : Apart x (bvE z)), M1 prog w A B c sc a x → M1 prog w A B c sc b z → M1 prog w A B c sc (.Compare a [cmOp o] [b] pos) (.cmp o x z) :=
    fun h1 h2 h3 i1 i2 env y en => ⟨se_cmp R (i1 env y en).1 (i2 env y en).1 h3 (h2.noSet _), st_cmp R (i1 env y en).1 (i2 env y en).1 h3 (h2.noSet _)⟩
  have c_cmp2 : ∀ {sc : Sc} {a b e : Expr} {pos : Pos} {o p : Cm} {x z u : Ex} (h1 : CE tb sc a x) (h2 : CE tb sc b z) (h3 : CE tb sc e u), M1 prog w A B c sc a x → M1 prog w A B c sc b z → M1 prog w A B c sc e u → M1 prog w A B c sc (.Compare a [cmOp o, cmOp p] [b, e] pos) (.cmp2 o p x z u) :=
    fun h1 h2 h3 i1 i2 i3 env y en => ⟨se_cmp2 R (i1 env y en).1 (i2 env y en).1 (i3 env y en).1 (h3.noSet _), st_cmp2 R (i1 env y en).1 (i2 env y en).1 (i3 env y en).1 (h3.noSet _)⟩
  have c_and : ∀ {sc : Sc} {es : List Expr} {pos : Pos} {xs : List Ex} (a : CEs tb sc es xs), M2 prog w A B tb c sc es xs → M1 prog w A B c sc (.BoolOp .And es pos) (.and xs) := fun a ih env y en => ⟨se_and (pe (ih env y en)), st_and (pt (ih env y en))⟩
  have c_or : ∀ {sc : Sc} {es : List Expr} {pos : Pos} {xs : List Ex} (a : CEs tb sc es xs), M2 prog w A B tb c sc es xs → M1 prog w A B c sc (.BoolOp .Or es pos) (.or xs) := fun a ih env y en => ⟨se_or (pe (ih env y en)), st_or (pt (ih env y en))⟩
  have c_ite : ∀ {sc : Sc} {t a b : Expr} {pos : Pos} {x z u : Ex} (h1 : CE tb sc t x) (h2 : CE tb sc a z) (h3 : CE tb sc b u), M1 prog w A B c sc t x → M1 prog w A B c sc a z → M1 prog w A B c sc b u → M1 prog w A B c sc (.IfExp t a b pos) (.ite x z u) :=
    fun h1 h2 h3 i1 i2 i3 env y en => ⟨se_ite (i1 env y en).2 (i2 env y en).1 (i3 env y en).1, st_ite (i1 env y en).2 (i2 env y en).2 (i3 env y en).2⟩
  have c_idx : ∀ {sc : Sc} {a i : Expr} {pos : Pos} {x z : Ex} (h1 : CE tb sc a x) (h2 : CE tb sc i z) (h3 : Apart x (bvE z)), M1 prog w A B c sc a x → M1 prog w A B c sc i z → M1 prog w A B c sc (.Subscript a i pos) (.idx x z) :=
    fun h1 h2 h3 i1 i2 => both (fun env y en => se_idx (i1 env y en).1 (i2 env y en).1 h3 h2.isPlain) fun _ => rfl
  have c_slc : ∀ {sc : Sc} {a : Expr} {lo hi : Option Expr} {p pos : Pos} {x l u : Ex} (h1 : CE tb sc a x) (h2 : CEo tb sc lo l) (h3 : CEo tb sc hi u) (h4 : Apart x (bvE l ++ bvE u)), M1 prog w A B c sc a x → M3 prog w A B c sc lo l → M3 prog w A B c sc hi u → M1 prog w A B c sc (.Subscript a (.Slice lo hi none p) pos) (.slc x l u) :=
    fun h1 h2 h3 h4 i1 i2 i3 => both (fun env y en => se_slc (i1 env y en).1 (i2 env y en) (i3 env y en) h4) fun _ => rfl
  have c_call : ∀ {sc : Sc} {f : Nat} {d : DefRec} {p pos : Pos} {args : List Expr} {xs : List Ex} (h1 : tb.fn[f]? = some d) (h2 : sc.isG d.name) (h3 : CEs tb sc args xs) (h4 : args.length ≤ 29), M2 prog w A B tb c sc args xs → M1 prog w A B c sc (.Call (.Name d.name p) args [] pos) (.call f xs) :=
    fun h1 h2 h3 h4 ih => both (fun env y en => se_call R en h1 h2 (p2 (ih env y en))) fun _ => rfl
  have c_bi1 : ∀ {sc : Sc} {b : Bi} {p pos : Pos} {a : Expr} {x : Ex} (h1 : b.one = true) (h2 : sc.isG (biName b)) (h3 : CE tb sc a x), M1 prog w A B c sc a x → M1 prog w A B c sc (.Call (.Name (biName b) p) [a] [] pos) (.bi b [x]) :=
    fun h1 h2 h3 i1 => both (fun env y en => se_bi1 R en h1 h2 h3 (i1 env y en).1) fun _ => rfl
  have c_isi : ∀ {sc : Sc} {t : Ty} {p p' pos : Pos} {a : Expr} {x : Ex} (h1 : sc.isG "isinstance") (h2 : sc.isG (tyName t)) (h3 : CE tb sc a x), M1 prog w A B c sc a x → M1 prog w A B c sc (.Call (.Name "isinstance" p) [a, .Name (tyName t) p'] [] pos) (.bi (.isi t) [x]) :=
    fun h1 h2 h3 i1 => both (fun env y en => se_isi R en h1 h2 h3 (i1 env y en).1) fun _ => rfl
  have c_comp : ∀ {sc : Sc} {elt iter : Expr} {v : Str} {pv pos : Pos} {ifs : List Expr} {scope : Scope} {i : Nat} {it : Itk} {src conds : List Ex} {x : Ex} (h1 : IT tb sc iter it src) (h2 : CompOk scope sc v) (h3 : sc.hi ≤ i) (h4 : CE tb (compSc scope sc v i) elt x) (h5 : CEs tb (compSc scope sc v i) ifs conds) (h6 : i ∉ bvE x) (h7 : i ∉ bvEs conds),
      M4 prog w A B c sc iter it src → M1 prog w A B c (compSc scope sc v i) elt x → M2 prog w A B tb c (compSc scope sc v i) ifs conds → M1 prog w A B c sc (.ListComp elt [⟨.Name v pv, iter, ifs, 0⟩] scope pos) (.comp x (.one i) it src conds) :=
    fun h1 h2 h3 h4 h5 h6 h7 i1 i2 i3 => both (fun env y en => se_comp en h2 h3 (i1 env y en) (h1.noFold env) (fun env y en => (i2 env y en).1) fun env y en => pt (i3 env y en)) fun _ => rfl
  have c_isx : ∀ {sc : Sc} {x C : Str} {p p1 p2 pos : Pos} {i : Nat} {yes no : List Str} (h1 : sc.isG "isinstance") (h2 : sc.isV x i) (h3 : sc.isG C) (h4 : tb.sub.lookup C = some (yes, no)), M1 prog w A B c sc (.Call (.Name "isinstance" p) [.Name x p1, .Name C p2] [] pos) (.isx i yes no) :=
    fun h1 h2 h3 h4 => both (fun env y en => se_isx R en h1 h2 h3 h4) fun _ => rfl
  have c_isxt : ∀ {sc : Sc} {x : Str} {cs : List Str} {es : List Expr} {p p1 p2 pos : Pos} {k i : Nat} {yes no : List Str} (h1 : sc.isG "isinstance") (h2 : sc.isV x i) (h3 : NS sc es cs) (h4 : cs.length ≤ 1000) (h5 : tb.sbt.lookup cs = some (yes, no)), M1 prog w A B c sc (.Call (.Name "isinstance" p) [.Name x p1, .Tuple es k p2] [] pos) (.isx i yes no) :=
    fun h1 h2 h3 h4 h5 => both (fun env y en => se_isxt R en h1 h2 h3 h4 h5) fun _ => rfl
  have c_dsel : ∀ {sc : Sc} {kes : List (Option Expr)} {ks : List Str} {vals : List Expr} {xs : List Ex} {x : Str} {i : Nat} {dp p pos : Pos} (h1 : KS kes ks) (h2 : CEs tb sc vals xs) (h3 : sc.isV x i) (h4 : ks.Nodup) (h5 : ks.length = xs.length) (h6 : ks ≠ [] ∧ ks.length ≤ 15), M2 prog w A B tb c sc vals xs → M1 prog w A B c sc (.Subscript (.Dict kes vals dp) (.Name x p) pos) (.dsel ks xs i) :=
    fun h1 h2 h3 h4 h5 h6 ih => both (fun env y en => se_dsel en h1 (p2 (ih env y en)) h3 h4 h5 h6) fun _ => rfl
  have c_nil : ∀ {sc : Sc}, M2 prog w A B tb c sc [] [] := fun env y en => trivial
  have c_cons : ∀ {sc : Sc} {e : Expr} {es : List Expr} {x : Ex} {xs : List Ex} (h1 : CE tb sc e x) (h2 : CEs tb sc es xs) (h3 : Apart x (bvEs xs)), M1 prog w A B c sc e x → M2 prog w A B tb c sc es xs → M2 prog w A B tb c sc (e :: es) (x :: xs) :=
    fun h1 h2 h3 i1 i2 env y en => ⟨⟨h1, i1 env y en⟩, h3, i2 env y en⟩
  have c_none : ∀ {sc : Sc}, M3 prog w A B c sc none (.lit .none) := fun {sc} env y en own Z s fr out h I => by
    cases h
    exact wpAny_evalPart_none (.val I .refl .none)
  have c_some : ∀ {sc : Sc} {e : Expr} {x : Ex} (h1 : CE tb sc e x), M1 prog w A B c sc e x → M3 prog w A B c sc (some e) x := fun h1 i1 env y en own Z s fr out h I => wpAny_evalPart_some ((i1 env y en).1 own Z s fr out h I)
  have c_seq : ∀ {sc : Sc} {e : Expr} {x : Ex} (h1 : CE tb sc e x), M1 prog w A B c sc e x → M4 prog w A B c sc e .seq [x] := fun h1 i1 env y en => si_seq R (i1 env y en).1
  have c_range : ∀ {sc : Sc} {p pos : Pos} {e : Expr} {x : Ex} (h0 : sc.isG "range") (h1 : CE tb sc e x), M1 prog w A B c sc e x → M4 prog w A B c sc (.Call (.Name "range" p) [e] [] pos) .range [x] := fun h0 h1 i1 env y en => si_range R en h0 h1 (i1 env y en).1
  exact ⟨fun sc e x h => @CE.rec tb (fun sc e x _ => M1 prog w A B c sc e x) (fun sc es xs _ => M2 prog w A B tb c sc es xs) (fun sc o x _ => M3 prog w A B c sc o x) (fun sc e it src _ => M4 prog w A B c sc e it src) c_lit c_var c_pl c_gl c_tup c_list c_op2 c_neg c_not c_cmp c_cmp2 c_and c_or c_ite c_idx c_slc c_call c_bi1 c_isi c_comp c_isx c_isxt c_dsel c_nil c_cons c_none c_some c_seq c_range sc e x h, fun sc es xs h => @CEs.rec tb (fun sc e x _ => M1 prog w A B c sc e x) (fun sc es xs _ => M2 prog w A B tb c sc es xs) (fun sc o x _ => M3 prog w A B c sc o x) (fun sc e it src _ => M4 prog w A B c sc e it src) c_lit c_var c_pl c_gl c_tup c_list c_op2 c_neg c_not c_cmp c_cmp2 c_and c_or c_ite c_idx c_slc c_call c_bi1 c_isi c_comp c_isx c_isxt c_dsel c_nil c_cons c_none c_some c_seq c_range sc es xs h, fun sc e it src h => @IT.rec tb (fun sc e x _ => M1 prog w A B c sc e x) (fun sc es xs _ => M2 prog w A B tb c sc es xs) (fun sc o x _ => M3 prog w A B c sc o x) (fun sc e it src _ => M4 prog w A B c sc e it src) c_lit c_var c_pl c_gl c_tup c_list c_op2 c_neg c_not c_cmp c_cmp2 c_and c_or c_ite c_idx c_slc c_call c_bi1 c_isi c_comp c_isx c_isxt c_dsel c_nil c_cons c_none c_some c_seq c_range sc e it src h⟩
end
end Mv

end

section
set_option maxRecDepth 100000
set_option linter.unusedSectionVars false
set_option linter.unusedVariables false
namespace Mv
open PySem PyProof.Rows

inductive TGs (sc : Sc) : List Expr → List Nat → Prop
  | nil : TGs sc [] []
  | cons {x : Str} {p : Pos} {i : Nat} {es : List Expr} {is : List Nat} : sc.isV x i → TGs sc es is → TGs sc (.Name x p :: es) (i :: is)
inductive TG (sc : Sc) : Expr → Tgt → Prop
  | one {x : Str} {p : Pos} {i : Nat} : sc.isV x i → TG sc (.Name x p) (.one i)
  | tup {es : List Expr} {is : List Nat} {k : Nat} {p : Pos} : TGs sc es is → TG sc (.Tuple es k p) (.tup is)
mutual
inductive CS (tb : Tb) (sc : Sc) : Stmt → St → Prop
  | asg {x : Str} {p pos : Pos} {value : Expr} {i : Nat} {e : Ex} : sc.isV x i → CE tb sc value e → CS tb sc (.Assign [.Name x p] value pos) (.asg (.one i) e)
  | exp {e : Expr} {pos : Pos} {z : Ex} : CE tb sc e z → noComp e = true → CS tb sc (.Expr e pos) (.exp z)
  | iff {t : Expr} {a b : List Stmt} {pos : Pos} {z : Ex} {xa xb : List St} : CE tb sc t z → CSs tb sc a xa → CSs tb sc b xb → CS tb sc (.If t a b pos) (.iff z xa xb)
  | ret {e : Expr} {pos : Pos} {z : Ex} : CE tb sc e z → CS tb sc (.Return (some e) pos) (.ret z)
  | retN {pos : Pos} : CS tb sc (.Return none pos) (.ret (.lit .none))
  | for1 {g : Expr} {pos : Pos} {iter : Expr} {body : List Stmt} {t : Tgt} {it : Itk} {src : List Ex} {xb : List St} {tmp : List Nat} : TG sc g t → IT tb sc iter it src → CSs tb sc body xb → CS tb sc (.For g iter body [] pos) (.for_ t it src xb tmp)
  | raise {k msg : Str} {np cpos pos ap : Pos} {kk : Nat} : sc.isG k → k ∈ tb.cl → CS tb sc (.Raise (some (.Call (.Name k np) [.Constant (.str msg) kk ap] [] cpos)) none pos) (.raise k)
  | try1 {x cn : Str} {p hp pos : Pos} {i : Nat} {yes no : List Str} {body hs : List Stmt} {h0 : Stmt} {xb xh : List St} : sc.isV x i → sc.names.lookup x = some .local → sc.isG cn → tb.sub.lookup cn = some (yes, no) → CSs tb sc body xb → CSs tb sc (h0 :: hs) xh →
      CS tb sc (.Try body [.ExceptHandler (some (.Name cn p)) (some x) (h0 :: hs) hp] [] [] pos) (.try_ xb yes i xh)
  | pass {pos : Pos} : CS tb sc (.Pass pos) (.exp (.lit .none))
inductive CSs (tb : Tb) (sc : Sc) : List Stmt → List St → Prop
  | nil : CSs tb sc [] []
  | cons {s : Stmt} {ss : List Stmt} {z : St} {zs : List St} : CS tb sc s z → CSs tb sc ss zs → CSs tb sc (s :: ss) (z :: zs)
end

variable [Hp]
/-! ### what an expression binds lies above the frame's names -/
theorem bv_hi {tb : Tb} : (∀ sc e x, CE tb sc e x → ∀ j ∈ bvE x, sc.hi ≤ j) ∧ ∀ sc e it src, IT tb sc e it src → ∀ j ∈ bvEs src, sc.hi ≤ j := by
  have nil : ∀ {sc : Sc} {j : Nat}, j ∈ ([] : List Nat) → sc.hi ≤ j := fun h => by cases h
  have app : ∀ {sc : Sc} {a b : List Nat}, (∀ j ∈ a, sc.hi ≤ j) → (∀ j ∈ b, sc.hi ≤ j) → ∀ j ∈ a ++ b, sc.hi ≤ j := fun h1 h2 j hj => (List.mem_append.mp hj).elim (h1 j) (h2 j)
  have comp : ∀ {sc : Sc} {elt iter : Expr} {v : Str} {ifs : List Expr} {scope : Scope} {i : Nat} {it : Itk} {src conds : List Ex} {x : Ex} (h1 : IT tb sc iter it src) (h2 : CompOk scope sc v) (h3 : sc.hi ≤ i) (h4 : CE tb (compSc scope sc v i) elt x) (h5 : CEs tb (compSc scope sc v i) ifs conds) (h6 : i ∉ bvE x) (h7 : i ∉ bvEs conds),
      (∀ j ∈ bvEs src, sc.hi ≤ j) → (∀ j ∈ bvE x, (compSc scope sc v i).hi ≤ j) → (∀ j ∈ bvEs conds, (compSc scope sc v i).hi ≤ j) → ∀ j ∈ bvE (.comp x (.one i) it src conds), sc.hi ≤ j := fun {sc _ _ v _ scope i _ _ _ _} h1 h2 h3 h4 h5 h6 h7 i1 i2 i3 => by
    have up : ∀ j, (compSc scope sc v i).hi ≤ j → sc.hi ≤ j := fun j h => Nat.le_trans h3 (Nat.le_trans (Nat.le_succ i) h)
    exact app (app (app (fun j hj => by rw [show tgtVars (.one i) = [i] from rfl, List.mem_singleton] at hj; subst hj; exact h3) fun j hj => up j (i2 j hj)) i1) fun j hj => up j (i3 j hj)
  refine ⟨fun sc e x h => @CE.rec tb (fun sc _ x _ => ∀ j ∈ bvE x, sc.hi ≤ j) (fun sc _ xs _ => ∀ j ∈ bvEs xs, sc.hi ≤ j) (fun sc _ x _ => ∀ j ∈ bvE x, sc.hi ≤ j) (fun sc _ _ src _ => ∀ j ∈ bvEs src, sc.hi ≤ j) (fun _ j hj => nil hj) (fun _ j hj => nil hj) (fun _ j hj => nil hj) (fun _ _ j hj => nil hj) (fun _ _ ih => ih) (fun _ _ ih => ih) (fun _ _ _ a b => app a b) (fun _ a => a) (fun _ a => a) (fun _ _ _ a b => app a b) (fun _ _ _ a b e => app (app a b) e) (fun _ a => a) (fun _ a => a) (fun _ _ _ a b e => app (app a b) e)
    (fun _ _ _ a b => app a b) (fun _ _ _ _ a b e => app (app a b) e) (fun _ _ _ _ a => a) (fun _ _ _ a => app a fun _ h => nil h) (fun _ _ _ a => app a fun _ h => nil h) comp (fun _ _ _ _ j hj => nil hj) (fun _ _ _ _ _ j hj => nil hj) (fun _ _ _ _ _ _ a => a) (fun j hj => nil hj) (fun _ _ _ a b => app a b) (fun j hj => nil hj) (fun _ a => a) (fun _ a => app a fun _ h => nil h) (fun _ _ a => app a fun _ h => nil h) sc e x h, fun sc e it src h => @IT.rec tb (fun sc _ x _ => ∀ j ∈ bvE x, sc.hi ≤ j) (fun sc _ xs _ => ∀ j ∈ bvEs xs, sc.hi ≤ j) (fun sc _ x _ => ∀ j ∈ bvE x, sc.hi ≤ j) (fun sc _ _ src _ => ∀ j ∈ bvEs src, sc.hi ≤ j) (fun _ j hj => nil hj) (fun _ j hj => nil hj) (fun _ j hj => nil hj) (fun _ _ j hj => nil hj) (fun _ _ ih => ih) (fun _ _ ih => ih) (fun _ _ _ a b => app a b) (fun _ a => a) (fun _ a => a) (fun _ _ _ a b => app a b) (fun _ _ _ a b e => app (app a b) e) (fun _ a => a) (fun _ a => a) (fun _ _ _ a b e => app (app a b) e)
    (fun _ _ _ a b => app a b) (fun _ _ _ _ a b e => app (app a b) e) (fun _ _ _ _ a => a) (fun _ _ _ a => app a fun _ h => nil h) (fun _ _ _ a => app a fun _ h => nil h) comp (fun _ _ _ _ j hj => nil hj) (fun _ _ _ _ _ j hj => nil hj) (fun _ _ _ _ _ _ a => a) (fun j hj => nil hj) (fun _ _ _ a b => app a b) (fun j hj => nil hj) (fun _ a => a) (fun _ a => app a fun _ h => nil h) (fun _ _ a => app a fun _ h => nil h) sc e it src h⟩

section
variable {A : Around} {B : Heap} {mg mb : Str → Option Value} {tb : Tb} {c : Cfg} {n : Nat} {env : Env} {sc : Sc} {y : Lay}
  {bv bv' : List Nat} {own own₁ own₀ own' : Addr → Option Nat} {Z Z₁ Z₀ Z' : Addr → Prop} {s s₁ s₀ s' : Shared} {fr fr₁ : Frame}

theorem Step.strong (S : Step y bv own Z s own' Z' s') (en : EnvOk A sc env y) (h : ∀ j ∈ bv, sc.hi ≤ j) : Step y [] own Z s own' Z' s' :=
  { S with bind := fun i l v _ hl r => S.bind i l v (fun q => by have := h i q; have := en.hi i l hl; omega) hl r }

theorem PostX.strong {β : Type} {out : Except Str β × Frame} {v : Value} {bvx : List Nat} (en : EnvOk A sc env y) (h : ∀ j ∈ bvx, sc.hi ≤ j) (S : Step y bv own₀ Z₀ s₀ own Z s) (x : PostX B y bvx own Z s out v s') : PostX B y bv own₀ Z₀ s₀ out v s' := by
  obtain ⟨nm, a, own', Z', q, e1, I, S', X⟩ := x
  exact ⟨nm, a, own', Z', q, e1, I, S.trans ((S'.strong en h).sub fun _ h => by cases h), X.mono fun b _ _ h => ⟨S.old b h.1, h.2⟩⟩
noncomputable def FlowIs (y : Lay) (s₀ : Shared) (own' : Addr → Option Nat) (Z' : Addr → Prop) (s' : Shared) (f : Flow) : Ctl → Prop
  | .next => f = .next
  | .ret r => ∃ v, f = .ret v ∧ RvAt y own' Z' s₀.heap s'.heap r v ∧ ∃ d, rvV r = some d
inductive PostS (B : Heap) (y : Lay) (bv : List Nat) (s₀ : Shared) (own : Addr → Option Nat) (Z : Addr → Prop) (s : Shared) (out : Except Str Ctl × Frame) (f : Flow) (s' : Shared) : Prop
  | mk (k : Ctl) (own' : Addr → Option Nat) (Z' : Addr → Prop) : out.1 = .ok k → Inv B y own' Z' s'.heap out.2 → Step y bv own Z s own' Z' s' → FlowIs y s₀ own' Z' s' f k → PostS B y bv s₀ own Z s out f s'
noncomputable def SS (prog : Program) (w : World) (A : Around) (B : Heap) (c : Cfg) (y : Lay) (bv : List Nat) (own₀ : Addr → Option Nat) (Z₀ : Addr → Prop) (s₀ : Shared) (m : Sem Flow) (z : List St) : Prop :=
  ∀ (own : Addr → Option Nat) (Z : Addr → Prop) (s : Shared) (fr : Frame) (out : Except Str Ctl × Frame), exSs c z fr = some out → Inv B y own Z s.heap fr → Step y bv own₀ Z₀ s₀ own Z s → wpAny (model prog w) A m (PostS B y bv s₀ own Z s out) (PostX B y bv own Z s out) s
noncomputable def SS1 (prog : Program) (w : World) (A : Around) (B : Heap) (c : Cfg) (y : Lay) (bv : List Nat) (own₀ : Addr → Option Nat) (Z₀ : Addr → Prop) (s₀ : Shared) (m : Sem Flow) (z : St) : Prop :=
  ∀ (own : Addr → Option Nat) (Z : Addr → Prop) (s : Shared) (fr : Frame) (out : Except Str Ctl × Frame), exS c z fr = some out → Inv B y own Z s.heap fr → Step y bv own₀ Z₀ s₀ own Z s → wpAny (model prog w) A m (PostS B y bv s₀ own Z s out) (PostX B y bv own Z s out) s

theorem seqS {β : Type} {e : Expr} {x : Ex} {k : Rv → Frame → Out β} {out : Except Str β × Frame} {Q : Value → Shared → Prop} (en : EnvOk A sc env y) (ce : CE tb sc e x) (H : SE prog w A B c y (eval e env) x) (hk : bndK (ev c x fr) k = some out) (I : Inv B y own Z s.heap fr) (S : Step y bv own₀ Z₀ s₀ own Z s)
    (K : ∀ r fr₂ own₂ Z₂ s₂ v, ev c x fr = some (.ok r, fr₂) → k r fr₂ = some out → Inv B y own₂ Z₂ s₂.heap fr₂ → Step y [] own Z s own₂ Z₂ s₂ → Step y bv own₀ Z₀ s₀ own₂ Z₂ s₂ → RvAt y own₂ Z₂ s.heap s₂.heap r v → Q v s₂) :
    wpAny (model prog w) A (eval e env) Q (PostX B y bv own₀ Z₀ s₀ out) s := by
  refine wpAny_mono (seqE (bv := bvE x) hk .refl (fun _ h => h) (fun o e => H own Z s fr o e I) fun r fr₂ own₂ Z₂ s₂ v e₁ h I₂ S₁ _ R => ?_) (fun v s' q => q) fun _ s' p => p.strong en (bv_hi.1 sc e x ce) S
  have S' := S₁.strong en (bv_hi.1 sc e x ce)
  exact K r fr₂ own₂ Z₂ s₂ v e₁ h I₂ S' (S.trans (S'.sub fun _ h => by cases h)) R
theorem seqST {β : Type} {e : Expr} {x : Ex} {k : Rv → Frame → Out β} {out : Except Str β × Frame} {Q : Bool → Shared → Prop} (en : EnvOk A sc env y) (ce : CE tb sc e x) (H : ST prog w A B c y (isTrue e env (eval e env)) x) (hk : bndK (ev c x fr) k = some out) (I : Inv B y own Z s.heap fr) (S : Step y bv own₀ Z₀ s₀ own Z s)
    (hd : ∀ r fr₂, k r fr₂ = some out → ∃ d, rvD fr₂ r = some d)
    (K : ∀ r d fr₂ own₂ Z₂ s₂, k r fr₂ = some out → rvD fr₂ r = some d → Inv B y own₂ Z₂ s₂.heap fr₂ → Step y bv own₀ Z₀ s₀ own₂ Z₂ s₂ → Q (truthD d) s₂) :
    wpAny (model prog w) A (isTrue e env (eval e env)) Q (PostX B y bv own₀ Z₀ s₀ out) s := by
  refine wpAny_mono (seqT (bv := bvE x) hk .refl (fun _ h => h) hd (fun o e hd => H own Z s fr o e hd I) fun r d fr₂ own₂ Z₂ s₂ h hd I₂ S₁ _ => ?_) (fun v s' q => q) fun _ s' p => p.strong en (bv_hi.1 sc e x ce) S
  exact K r d fr₂ own₂ Z₂ s₂ h hd I₂ (S.trans ((S₁.strong en (bv_hi.1 sc e x ce)).sub fun _ h => by cases h))

theorem Step.addO {a : Addr} {i : Nat} (S : Step y bv own Z s own' Z' s') (e : s.heap.get? a = none) : Step y bv own Z s (addO own' a i) Z' s' :=
  ⟨S.sh, S.ext, S.zm, S.zn, fun b j q => by
      by_cases h : b = a
      · exact .inr (h ▸ e)
      · rw [addO_ne h] at q; exact S.on b j q, S.bind⟩

theorem store_asg {x : Str} {i : Nat} {r : Rv} {v : Value} {fr₂ : Frame} {h₀ : Heap} {Q : Unit → Shared → Prop} {E : Value → Shared → Prop} (en : EnvOk A sc env y) (hv : sc.vars.lookup x = some i) (hf : env.kindOf x ≠ some .free) (hl : ∃ l, y.loc i = some l) (hb : i ∉ c.pin → i ∈ bv)
    (he : asgT c.pin fr (.one i) r = some fr₂) (I : Inv B y own Z s.heap fr) (S : Step y bv own₀ Z₀ s₀ own Z s) (hh : ∀ a, h₀.get? a = none → s₀.heap.get? a = none) (R : RvAt y own Z h₀ s.heap r v)
    (K : ∀ own' Z' s', (∃ h' tk, s' = { s with heap := h', toks := tk }) → (∀ l, y.loc i = some l → ∀ a o, a ≠ l.addr → s.heap.get? a = some o → s'.heap.get? a = some o) → (∀ a, own' a ≠ none → own a ≠ none ∨ v = .ref a) → (∀ a, Z' a → Z a) → Inv B y own' Z' s'.heap fr₂ → Step y bv own₀ Z₀ s₀ own' Z' s' → Q () s') : wpAny (model prog w) A (storeName env x v) Q E s := by
  obtain ⟨l, hl⟩ := hl
  simp only [asgT] at he
  split at he
  · cases he
  · rename_i hp
    have hbi : i ∈ bv := hb (by simpa using hp)
    have hsub : ∀ j ∈ [i], j ∈ bv := fun j hj => by rw [List.mem_singleton] at hj; subst hj; exact hbi
    split at he
    · cases he
      exact store_put en hv hf hl I fun h' tk P => K own Z _ ⟨_, _, rfl⟩ (fun l' hl' => by rw [hl] at hl'; cases hl'; exact P.keep) (fun a h => .inl h) (fun a z => z) (P.fz I hl R) (S.trans ((P.step hl I).sub hsub))
    · cases he
      obtain ⟨a, rfl, n0, nw, nf, nz, W⟩ := R
      refine store_put en hv hf hl I fun h' tk P => K (addO own a i) Z _ ⟨_, _, rfl⟩ (fun l' hl' => by rw [hl] at hl'; cases hl'; exact P.keep) (fun b h => ?_) (fun a z => z) (P.owned I hl nw nf nz W) ((S.trans ((P.step hl I).sub hsub)).addO (hh a n0))
      by_cases q : b = a
      · subst q; exact .inr rfl
      · rw [addO_ne q] at h; exact .inl h
    · cases he

structure FnOk (A : Around) (sc : Sc) (env : Env) (y : Lay) (c : Cfg) (bv : List Nat) (own₀ : Addr → Option Nat) : Prop where
  en : EnvOk A sc env y
  nf : ∀ x i, sc.vars.lookup x = some i → env.kindOf x ≠ some .free
  bv : ∀ i, i ∉ c.pin → i < sc.hi → i ∈ bv
  pin : ∀ a i, own₀ a = some i → i ∈ c.pin
  ni : interactive env = false
  kd : ∀ x, env.kindOf x = sc.names.lookup x
  top : ∃ outer, A.frames = some (env :: outer)

theorem FnOk.loc {x : Str} {i : Nat} (ok : FnOk A sc env y c bv own₀) (h : sc.vars.lookup x = some i) : ∃ l, y.loc i = some l := by
  rcases ok.en.var x i h with ⟨_, e⟩ | ⟨_, c, _, e⟩ <;> exact ⟨_, e⟩
theorem FnOk.bvi {x : Str} {i : Nat} (ok : FnOk A sc env y c bv own₀) (h : sc.vars.lookup x = some i) : i ∉ c.pin → i ∈ bv := fun hp => by
  obtain ⟨l, hl⟩ := ok.loc h
  exact ok.bv i hp (ok.en.hi i l hl)

theorem ss_asg {x : Str} {i : Nat} {p pos : Pos} {value : Expr} {e : Ex} (R : Rn prog w A B mg mb tb c n) (ok : FnOk A sc env y c bv own₀) (hx : sc.isV x i) (ce : CE tb sc value e) :
    SS1 prog w A B c y bv own₀ Z₀ s₀ (exec (.Assign [.Name x p] value pos) env) (.asg (.one i) e) := by
  intro own Z s fr out h I S
  rw [exS_asg, show (c.hd && (Tgt.one i).isTup) = false from Bool.and_false _, if_neg Bool.false_ne_true] at h
  have plain : swapsWith value (some (.Name x p)) pos.line env = pure false → wpAny (model prog w) A (exec (.Assign [.Name x p] value pos) env) (PostS B y bv s₀ own Z s out) (PostX B y bv own Z s out) s := fun hs => by
    refine wpAny_Assign_Name (seqS ok.en ce ((sound_all R).1 sc _ _ ce env y ok.en).1 h I .refl fun r fr₂ own₂ Z₂ s₂ v e₁ h I₂ S₁ S₂ R₂ => ?_) hs
    split at h
    · rename_i fr₃ he
      cases h
      exact store_asg ok.en hx.1 (ok.nf x i hx.1) (ok.loc hx.1) (ok.bvi hx.1) he I₂ S₂ (fun _ q => q) R₂ fun own' Z' s' _ _ _ _ I' S' => ⟨.next, own', Z', rfl, I', S', rfl⟩
    · cases h
  by_cases hc : noComp value = true
  · exact plain (swaps_plain ce hc)
  · cases ce with
    | @comp _ elt iter v pv _ ifs scope j it src conds z h1 h2 h3 h4 h5 h6 h7 =>
      rename_i cpos
      have hsw : swapsWith (.ListComp elt [⟨.Name v pv, iter, ifs, 0⟩] scope cpos) (some (.Name x p)) pos.line env = pure (env.blockKind == .function && env.kindOf x == some .local && p.line == cpos.line
        && !(scope.names.any fun (n, k) => n == x && (k == .local || k == .cell))) := rfl
      generalize hb : (env.blockKind == .function && env.kindOf x == some .local && p.line == cpos.line && !(scope.names.any fun (n, k) => n == x && (k == .local || k == .cell))) = b at hsw
      cases b with
      | false => exact plain hsw
      | true =>
        rw [exec_Assign_Name_used _ _ _ _ hsw]
        refine wpAny_bind (wpAny_standAt (wpAny_bind ?_))
        show wpAny _ A (do let _ ← comprehension (.ListComp elt [⟨.Name v pv, iter, ifs, 0⟩] scope cpos) scope env _ (newList []) false (eval iter env) (some (assign (.Name x p) env))) _ _ s
        have all := sound_all R
        rcases bnd_some h with ⟨e, f, hm, rfl⟩ | ⟨r, f, hm, h⟩
        · refine wpAny_bind (comp_any (use := some (assign (.Name x p) env)) ok.en h2 h3 (all.2.2 _ _ _ _ h1 env y ok.en) (h1.noFold env) (fun env y en => (all.1 _ _ _ h4 env y en).1) (fun env y en => (all.2.1 _ _ _ h5 env y en).imp fun _ _ q => q.2.2) hm I (fun _ s' p => (p.strong ok.en (bv_hi.1 sc _ _ (CE.comp (pv := pv) (pos := cpos) h1 h2 h3 h4 h5 h6 h7)) .refl).up (fun _ h => h) .refl) fun Da C s' own' Z' ds fr' m ho I' S' R' LC hm hDC => ?_)
          cases ho
        · refine wpAny_bind (comp_any (use := some (assign (.Name x p) env)) ok.en h2 h3 (all.2.2 _ _ _ _ h1 env y ok.en) (h1.noFold env) (fun env y en => (all.1 _ _ _ h4 env y en).1) (fun env y en => (all.2.1 _ _ _ h5 env y en).imp fun _ _ q => q.2.2) hm I (fun e s' p => p.elim) fun Da C s' own' Z' ds fr' m ho I' S' R' LC hm' hDC => ?_)
          cases ho
          split at h
          · rename_i fr₃ he
            cases h
            have ce : CE tb sc (.ListComp elt [⟨.Name v pv, iter, ifs, 0⟩] scope cpos) (.comp z (.one j) it src conds) := .comp h1 h2 h3 h4 h5 h6 h7
            have S'' := S'.strong ok.en (bv_hi.1 sc _ _ ce)
            have S₃ : Step y bv own Z s own' Z' s' := S''.sub fun _ h => by cases h
            refine wpAny_assign_Name (store_asg ok.en hx.1 (ok.nf x i hx.1) (ok.loc hx.1) (ok.bvi hx.1) he I' S₃ (fun _ q => q) R' fun own₄ Z₄ s₄ hsh hkp hown hZ I₄ S₄ => ?_)
            obtain ⟨l, hl⟩ := ok.loc hx.1
            have hCl : C ≠ l.addr := fun q => LC.2.1 (.inr (.inr ⟨i, l, hl, q.symm⟩))
            have hC₄ : s₄.heap.Ns C m := hm'.at' fun o ho => hkp l hl C o hCl ho
            have hXX : ∀ b, b = C → ¬ y.wr own₄ b ∧ ¬ y.F b ∧ ¬ Z₄ b := fun b q => by
              subst q
              refine ⟨fun q => ?_, LC.2.2.1, fun q => LC.2.2.2.1 (hZ _ q)⟩
              rcases q with q | q
              · rcases hown _ q with q | q
                · exact LC.2.1 (.inl q)
                · cases q; exact hDC rfl
              · exact LC.2.1 (.inr q)
            refine ⟨m, hC₄, fun h' hs => wpAny_pure (wpAny_pure ?_)⟩
            have kp : ∀ b o, ¬ b = C → s₄.heap.get? b = some o → h'.get? b = some o := fun b o q e => hs.extBut b o q e
            exact ⟨.next, own₄, Z₄, rfl, I₄.other hXX kp, S₄.other (tk := s₄.toks) (X := fun b => b = C) (fun b q => ⟨q ▸ LC.1, (hXX b q).1⟩) kp, rfl⟩
          · cases h
    | _ => exact absurd rfl hc
theorem names_asg {Q : Unit → Shared → Prop} {E : Value → Shared → Prop} (ok : FnOk A sc env y c bv own₀) : ∀ {es : List Expr} {is : List Nat}, TGs sc es is → ∀ {vs : List Value} {ds : List D} {fr fr₂ : Frame} {s : Shared} {own : Addr → Option Nat} {Z : Addr → Prop}, RepAll s.heap Z vs ds → asgs c.pin fr is ds = some fr₂ → Inv B y own Z s.heap fr →
    (∀ s', (∃ h' tk, s' = { s with heap := h', toks := tk }) → Inv B y own Z s'.heap fr₂ → Step y bv own Z s own Z s' → Q () s') → wpAny (model prog w) A (assignInOrder ((assignEach es env).map (·.2)) vs) Q E s
  | _, _, .nil, vs, ds, fr, fr₂, s, own, Z, R, h, I, K => by
    cases ds with
    | nil => obtain rfl := sos h; exact assignInOrder_nil (K s ⟨_, _, rfl⟩ I .refl)
    | cons d ds => exact nos h
  | _, _, .cons (i := i) (is := is) hx t, vs, ds, fr, fr₂, s, own, Z, R, h, I, K => by
    cases R with
    | nil => exact nos h
    | @cons v vs d ds r R =>
      have h : (if c.pin.contains i then none else asgs c.pin (fr.set i (.fz d)) is ds) = some fr₂ := h
      by_cases q : c.pin.contains i = true
      · rw [if_pos q] at h; exact nos h
      rw [if_neg q] at h
      obtain ⟨l, hl⟩ := ok.loc hx.1
      refine assignInOrder_cons (wpAny_assign_Name (store_put ok.en hx.1 (ok.nf _ i hx.1) hl I fun h' tk P => ?_))
      have S1 : Step y bv own Z s own Z { s with heap := h', toks := tk } := (P.step hl I).sub fun j hj => by rw [List.mem_singleton.mp hj]; exact ok.bvi hx.1 fun z => q (List.contains_iff_mem.mpr z)
      refine names_asg ok t (S1.repAll I R) h (P.fz I hl r) fun s' sh I' S' => K s' ?_ I' (S1.trans S')
      obtain ⟨h2, tk2, rfl⟩ := sh; exact ⟨_, _, rfl⟩
theorem TGs.len : ∀ {es : List Expr} {is : List Nat}, TGs sc es is → (assignEach es env).length = is.length ∧ (assignEach es env).findIdx? (·.1) = none
  | _, _, .nil => ⟨rfl, rfl⟩
  | _, _, .cons _ t => ⟨congrArg (· + 1) t.len.1, by
      show ((false, _) :: assignEach _ env).findIdx? (·.1) = none
      rw [List.findIdx?_cons]; simp [t.len.2]⟩
theorem asgs_len {pin : List Nat} : ∀ {is : List Nat} {ds : List D} {fr fr₂ : Frame}, asgs pin fr is ds = some fr₂ → is.length = ds.length
  | [], [], _, _, _ => rfl
  | [], _ :: _, _, _, h => nos h
  | _ :: _, [], _, _, h => nos h
  | i :: is, d :: ds, fr, fr₂, h => by
    have h : (if pin.contains i then none else asgs pin (fr.set i (.fz d)) is ds) = some fr₂ := h
    by_cases q : pin.contains i = true
    · rw [if_pos q] at h; exact nos h
    · rw [if_neg q] at h; exact congrArg (· + 1) (asgs_len h)
theorem tgt_asg {g : Expr} {t : Tgt} {v : Value} {d : D} {fr fr₂ : Frame} {Q : Unit → Shared → Prop} {E : Value → Shared → Prop} (ok : FnOk A sc env y c bv own₀) (hh : A.handled = none) (tg : TG sc g t) (he : asgT c.pin fr t (.fz d) = some fr₂) (I : Inv B y own Z s.heap fr) (R : Rep s.heap Z v d)
    (K : ∀ s', (∃ h' tk, s' = { s with heap := h', toks := tk }) → Inv B y own Z s'.heap fr₂ → Step y bv own Z s own Z s' → Q () s') : wpAny (model prog w) A (assign g env v) Q E s := by
  cases tg with
  | @one x p i hx =>
    have h : (if c.pin.contains i then none else some (fr.set i (.fz d))) = some fr₂ := he
    obtain ⟨q, rfl⟩ := ifn h
    obtain ⟨l, hl⟩ := ok.loc hx.1
    exact wpAny_assign_Name (store_put ok.en hx.1 (ok.nf _ i hx.1) hl I fun h' tk P => K _ ⟨_, _, rfl⟩ (P.fz I hl R) ((P.step hl I).sub fun j hj => by rw [List.mem_singleton.mp hj]; exact ok.bvi hx.1 fun z => q (List.contains_iff_mem.mpr z)))
  | tup t =>
    cases R with
    | @tuple a vs n ds z ht hn R =>
      have he : asgs c.pin fr _ ds = some fr₂ := he
      refine assign_Tuple_tuple hh ⟨_, ht, rfl, _, rfl⟩ (by rw [t.len.1, asgs_len he, List.size_toArray, R.length]) t.len.2 fun h' ext => ?_
      have kp : ∀ b o, s.heap.get? b = some o → h'.get? b = some o := fun b o e => ext b o (Nat.ne_of_lt (Heap.lt_size e)) e
      refine names_asg (s := { s with heap := h' }) ok t (R.mono (fun b o _ => kp b o) fun _ z => z) he (I.grow kp) fun s' sh I' S' => K s' ?_ I' ((Step.grow (tk := s.toks) kp).trans S')
      obtain ⟨h2, tk2, rfl⟩ := sh; exact ⟨_, _, rfl⟩
    | _ => exact nos he
end
end Mv

end

section
set_option maxRecDepth 100000
set_option linter.unusedSectionVars false
set_option linter.unusedVariables false
namespace Mv
open PySem PyProof.Rows
variable [Hp]

section
variable {A : Around} {E : Value → Shared → Prop} {s : Shared}
end

section
variable {A : Around} {B : Heap} {mg mb : Str → Option Value} {tb : Tb} {c : Cfg} {n : Nat} {env : Env} {sc : Sc} {y : Lay}
  {bv bv' : List Nat} {own own₁ own₀ own' : Addr → Option Nat} {Z Z₁ Z₀ Z' : Addr → Prop} {s s₁ s₀ s' : Shared} {fr fr₁ : Frame}

theorem PostS.from {out : Except Str Ctl × Frame} {f : Flow} {s'' : Shared} (S : Step y bv own Z s own' Z' s') (p : PostS B y bv s₀ own' Z' s' out f s'') : PostS B y bv s₀ own Z s out f s'' := by
  obtain ⟨k, o, z, e, I, S', r⟩ := p
  exact ⟨k, o, z, e, I, S.trans S', r⟩
theorem ss_exp {e : Expr} {pos : Pos} {z : Ex} (R : Rn prog w A B mg mb tb c n) (ok : FnOk A sc env y c bv own₀) (ce : CE tb sc e z) (hc : noComp e = true) : SS1 prog w A B c y bv own₀ Z₀ s₀ (exec (.Expr e pos) env) (.exp z) := by
  intro own Z s fr out h I S
  rw [exS_exp] at h
  refine wpAny_Expr_any (seqS ok.en ce ((sound_all R).1 sc _ _ ce env y ok.en).1 h I .refl fun r fr₁ own₁ Z₁ s₁ v e₁ h I₁ S₁ S' R₁ => ?_) ok.ni (swaps_plain ce hc)
  cases h
  exact ⟨.next, own₁, Z₁, rfl, I₁, S', rfl⟩
theorem ss_pass {pos : Pos} : SS1 prog w A B c y bv own₀ Z₀ s₀ (exec (.Pass pos) env) (.exp (.lit .none)) := by
  intro own Z s fr out h I S
  cases h
  exact wpAny_Pass ⟨.next, own, Z, rfl, I, .refl, rfl⟩
theorem ss_ret {e : Expr} {pos : Pos} {z : Ex} (R : Rn prog w A B mg mb tb c n) (ok : FnOk A sc env y c bv own₀) (ce : CE tb sc e z) : SS1 prog w A B c y bv own₀ Z₀ s₀ (exec (.Return (some e) pos) env) (.ret z) := by
  intro own Z s fr out h I S
  rw [exS_ret] at h
  refine wpAny_Return_some (seqS ok.en ce ((sound_all R).1 sc _ _ ce env y ok.en).1 h I .refl fun r fr₁ own₁ Z₁ s₁ v e₁ h I₁ S₁ S' R₁ => ?_)
  split at h
  · cases h
  · rename_i hne
    cases h
    refine ⟨.ret r, own₁, Z₁, rfl, I₁, S', v, rfl, R₁.since S.old, ?_⟩
    rcases ev_val e₁ with q | ⟨p, rfl, _⟩
    · exact q
    · exact absurd rfl (hne p)
theorem ss_retN {pos : Pos} : SS1 prog w A B c y bv own₀ Z₀ s₀ (exec (.Return none pos) env) (.ret (.lit .none)) := by
  intro own Z s fr out h I S
  cases h
  exact wpAny_Return_none ⟨.ret (.fz .none), own, Z, rfl, I, .refl, .none, rfl, .none, _, rfl⟩
theorem ss_nil : SS prog w A B c y bv own₀ Z₀ s₀ (execs [] env) [] := by
  intro own Z s fr out h I S
  cases h
  exact wpAny_execs_nil ⟨.next, own, Z, rfl, I, .refl, rfl⟩
theorem ss_cons {st : Stmt} {ss : List Stmt} {z : St} {zs : List St} (H1 : SS1 prog w A B c y bv own₀ Z₀ s₀ (exec st env) z) (H2 : SS prog w A B c y bv own₀ Z₀ s₀ (execs ss env) zs) : SS prog w A B c y bv own₀ Z₀ s₀ (execs (st :: ss) env) (z :: zs) := by
  intro own Z s fr out h I S
  rw [exSs_cons] at h
  refine wpAny_execs_cons ?_
  rcases bnd_some h with ⟨e, f, hm, rfl⟩ | ⟨k, f, hm, h⟩
  · refine wpAny_mono (H1 own Z s fr _ hm I S) (fun fl s' p => ?_) fun _ _ x => x
    obtain ⟨_, _, _, q, _⟩ := p; cases q
  · refine wpAny_mono (H1 own Z s fr _ hm I S) (fun fl s' p => ?_) fun _ _ x => x.elim
    obtain ⟨k', own', Z', q, I', S', r⟩ := p
    cases q
    cases k with
    | next =>
      cases r
      refine wpAny_mono (H2 own' Z' s' f out h I' (S.trans S')) (fun fl s'' p => ?_) fun _ _ x => x.sub (fun _ h => h) S'
      exact p.from S'
    | ret rv =>
      cases h
      obtain ⟨v, rfl, r⟩ := r
      exact ⟨.ret rv, own', Z', rfl, I', S', v, rfl, r⟩
theorem ss_iff {t : Expr} {a b : List Stmt} {pos : Pos} {z : Ex} {xa xb : List St} (R : Rn prog w A B mg mb tb c n) (ok : FnOk A sc env y c bv own₀) (ce : CE tb sc t z) (Ha : SS prog w A B c y bv own₀ Z₀ s₀ (execs a env) xa) (Hb : SS prog w A B c y bv own₀ Z₀ s₀ (execs b env) xb) :
    SS1 prog w A B c y bv own₀ Z₀ s₀ (exec (.If t a b pos) env) (.iff z xa xb) := by
  intro own Z s fr out h I S
  rw [exS_iff] at h
  refine wpAny_If (seqST ok.en ce ((sound_all R).1 sc _ _ ce env y ok.en).2 h I .refl (fun r fr₂ h => ?_) fun r d fr₂ own₂ Z₂ s₂ h hd I₂ S₂ => ?_)
  · split at h
    · exact ⟨_, by assumption⟩
    · cases h
  · rw [hd] at h
    dsimp only at h
    split at h
    · rename_i ht; rw [if_pos ht]; exact wpAny_mono (Ha own₂ Z₂ s₂ fr₂ out h I₂ (S.trans S₂)) (fun fl s'' p => p.from S₂) fun _ _ x => x.sub (fun _ h => h) S₂
    · rename_i ht; rw [if_neg ht]; exact wpAny_mono (Hb own₂ Z₂ s₂ fr₂ out h I₂ (S.trans S₂)) (fun fl s'' p => p.from S₂) fun _ _ x => x.sub (fun _ h => h) S₂

theorem tgo {g : Expr} {It : Addr} {v : Value} {o : Obj} {T : String} {Q : Unit → Shared → Prop} {E : Value → Shared → Prop} (he : s.heap.get? It = some o) (hc : o.cls = .type T) (hT : goers.contains T = false) (h : Q () s) : wpAny (model prog w) A (letOwnedTupleGo g (.ref It) v) Q E s := by
  have key : wpAny (model prog w) A (do
      let (.ref r, .ref a) := (Value.ref It, v) | return
      let o ← load r
      match o.cls, o.data with
      | .type n, .fields vs =>
        if ["enumerate", "zip", "dict_itemiterator", "dict_reverseitemiterator", "odict_iterator", "itertools.zip_longest", "itertools.pairwise"].contains n && vs[0]? == some (rawInt a) then
          rule "for.unpacks-the-owned-tuple"
          updateField r 0 .none
      | _, _ => pure ()) Q E s := by
    cases v with
    | ref a =>
      refine wpAny_bind (wpAny_load he ?_)
      obtain ⟨c, d, dt, sl⟩ := o
      cases hc
      cases dt with
      | fields vs =>
        dsimp only
        rw [if_neg (by rw [show (["enumerate", "zip", "dict_itemiterator", "dict_reverseitemiterator", "odict_iterator", "itertools.zip_longest", "itertools.pairwise"].contains T) = false from hT, Bool.false_and]; exact Bool.false_ne_true)]
        exact wpAny_pure h
      | _ => exact wpAny_pure h
    | _ => exact wpAny_pure h
  cases g with
  | Tuple es k p => exact key
  | List es p => exact key
  | _ => exact wpAny_pure h
inductive FInv (B : Heap) (y : Lay) (bv : List Nat) (own : Addr → Option Nat) (Z : Addr → Prop) (s : Shared) (items : List D) (fp wr : List Addr) (P : Nat → Value → Prop) (St : Nat → Heap → Prop) (c : Cfg) (t : Tgt) (xb : List Mv.St) (tmp : List Nat) (out : Except Str Ctl × Frame) (m : Nat) (s' : Shared) : Prop
  | mk (k : Nat) (own' : Addr → Option Nat) (Z' : Addr → Prop) (fr' : Frame) : m = items.length + 1 - k → k ≤ items.length → Inv B y own' Z' s'.heap fr' → Step y bv own Z s own' Z' s' → WkAt y items fp wr P St s.heap own' Z' s'.heap k →
      forB c fr' t xb tmp (items.drop k) = some out → FInv B y bv own Z s items fp wr P St c t xb tmp out m s'
theorem ss_for {g : Expr} {pos : Pos} {iter : Expr} {body : List Stmt} {t : Tgt} {it : Itk} {src : List Ex} {xb : List St} {tmp : List Nat} (R : Rn prog w A B mg mb tb c n) (ok : FnOk A sc env y c bv own₀) (tg : TG sc g t) (hit : IT tb sc iter it src) (Hb : SS prog w A B c y bv own₀ Z₀ s₀ (execs body env) xb) :
    SS1 prog w A B c y bv own₀ Z₀ s₀ (exec (.For g iter body [] pos) env) (.for_ t it src xb tmp) := by
  intro own Z s fr out h I S
  rw [exS_for] at h
  cases hhd : c.hd with
  | true => rw [hhd] at h; cases h
  | false =>
  rw [hhd, if_neg Bool.false_ne_true] at h
  have hI := (sound_all R).2.2 _ _ _ _ hit env y ok.en
  refine wpAny_For ?_ (hit.noFold env)
  rcases bnd_some h with ⟨e, f, hm, rfl⟩ | ⟨rs, fr₁, hm, h⟩
  · refine wpAny_mono (hI own Z s fr _ hm (fun rs q => by cases q) hhd I) (fun x s₁ p => wpAny_mono p (fun itv s₂ p => ?_) fun _ _ x => (x.strong ok.en (bv_hi.2 sc _ _ _ hit) .refl).up (fun _ h => h) .refl) fun _ _ x => (x.strong ok.en (bv_hi.2 sc _ _ _ hit) .refl).up (fun _ h => h) .refl
    obtain ⟨_, _, _, _, _, _, _, _, _, _, q, _⟩ := p; cases q
  · split at h
    · cases h
    · rename_i ds hds
      split at h
      · cases h
      · rename_i items hitems
        refine wpAny_mono (hI own Z s fr _ hm (fun rs q => by cases q; exact ⟨ds, items, hds, hitems⟩) hhd I) (fun xv s₁ p => wpAny_mono p (fun itv s₂ p => ?_) fun _ _ x => x.elim) fun _ _ x => x.elim
        obtain ⟨rs', ds', items', own₁, Z₁, It, fp, wr, P, St, q, hds', hit', hlen, rfl, I₂, S₂, W, WA⟩ := p
        cases q
        rw [hds] at hds'; cases hds'
        rw [hitems] at hit'; cases hit'
        dsimp only at I₂
        have S₂ : Step y bv own Z s own₁ Z₁ s₂ := (S₂.strong ok.en (bv_hi.2 sc _ _ _ hit)).sub fun _ h => by cases h
        refine codeAny_forLoop_any (FInv B y bv own Z s items fp wr P St c t xb tmp out) ?_ (items.length + 1) ⟨0, own₁, Z₁, fr₁, rfl, Nat.zero_le _, I₂, S₂, WA, by rw [List.drop_zero]; exact h⟩
        rintro m s' ⟨k, own', Z', fr', rfl, hk, I', S', WA', hh⟩
        by_cases hkl : k < items.length
        · have hd : items[k]? = some items[k] := List.getElem?_eq_getElem hkl
          rw [List.drop_eq_getElem_cons hkl] at hh
          generalize items[k] = d at hd hh
          rw [forB_cons] at hh
          refine next_item W WA' I' S' hd fun val s₅ Rv₅ WA₅ I₅ S₅ kp₅ sh₅ => ?_
          have I₅c := I₅.clr tmp
          split at hh
          · cases hh
          · rename_i fr₆ he
            obtain ⟨oI, TI, eI, cI, gI⟩ := W.cls _ _ WA₅.st
            refine tgo eI cI gI (tgt_asg ok (R.hh hhd) tg he I₅c Rv₅ fun s₆ _ I₆ S₆ => ?_)
            have WA₆ := WA₅.step W I₅c S₆
            have S₆' := S₅.trans S₆
            obtain ⟨kk, f, hm, hh⟩ := bndN_some hh
            · refine wpAny_mono (Hb own' Z' s₆ fr₆ _ hm I₆ (S.trans S₆')) (fun fl s₇ p => ?_) fun _ _ x => x.elim
              obtain ⟨k', own₇, Z₇, q, I₇, S₇, r⟩ := p
              cases q
              dsimp only at I₇
              cases kk with
              | next =>
                cases r
                exact ⟨items.length + 1 - (k + 1), by omega, k + 1, own₇, Z₇, f, rfl, hkl, I₇, S₆'.trans S₇, WA₆.step W I₆ S₇, hh⟩
              | ret rv =>
                cases hh
                obtain ⟨v, rfl, r⟩ := r
                exact ⟨.ret rv, own₇, Z₇, rfl, I₇, S₆'.trans S₇, v, rfl, r⟩
        · have hke : k = items.length := by omega
          subst hke
          rw [List.drop_length, forB_nil] at hh
          cases hh
          refine next_done W WA' I' S' fun s'' I'' S'' kp _ => wpAny_execs_nil ⟨.next, own', Z', rfl, I''.clr tmp, S'', rfl⟩

end
end Mv

end

section
set_option maxRecDepth 100000
set_option linter.unusedSectionVars false
set_option linter.unusedVariables false
namespace Mv
open PySem PyProof.Rows
variable [Hp]

structure Lv (P fs : Addr → Prop) (h h' : Heap) : Prop where
  keep : ∀ b o, h.get? b = some o → ¬ P b → ¬ fs b → h'.get? b = some o
  slot : ∀ b o, fs b → ¬ P b → h.get? b = some o → ∃ sl, h'.get? b = some { o with slots := sl }
  live : ∀ b o, h.get? b = some o → ∃ o', h'.get? b = some o'
theorem Lv.trans {P fs : Addr → Prop} {h h' h'' : Heap} (x : Lv P fs h h') (z : Lv P fs h' h'') : Lv P fs h h'' where
  keep := fun b o e p f => z.keep b o (x.keep b o e p f) p f
  slot := fun b o f p e => let ⟨_, e'⟩ := x.slot b o f p e; let ⟨sl, e''⟩ := z.slot b _ f p e'; ⟨sl, e''⟩
  live := fun b o e => let ⟨o', e'⟩ := x.live b o e; z.live b o' e'
theorem Lv.upd {P fs : Addr → Prop} {h : Heap} {T : Addr} {f : Obj → Obj} {o : Obj} (p : P T) (e : h.get? T = some o) (q : (f o).isFreed = false) : Lv P fs h (h.update T f) where
  keep := fun b o e n _ => (Heap.get?_update_other h f fun q : T = b => n (q ▸ p)).trans e
  slot := fun b o _ n e => ⟨o.slots, (Heap.get?_update_other h f fun q : T = b => n (q ▸ p)).trans e⟩
  live := fun b o' e' => by
    by_cases z : b = T
    · subst z; exact ⟨_, Heap.get?_update_self f e q⟩
    · exact ⟨o', (Heap.get?_update_other h f (Ne.symm z)).trans e'⟩
theorem Lv.push {P fs : Addr → Prop} {h : Heap} (o : Obj) : Lv P fs h (h.push o) where
  keep := fun b o e _ _ => push_keeps _ b o e
  slot := fun b o _ _ e => ⟨o.slots, push_keeps _ b o e⟩
  live := fun b o e => ⟨o, push_keeps _ b o e⟩
theorem Lv.slots {P fs : Addr → Prop} {h h' : Heap} {S : List Addr} (x : Heap.SlotsOnly S h h') (k : ∀ b ∈ S, fs b) : Lv P fs h h' where
  keep := fun b o e _ f => (x.2.1 b fun q => f (k b q)).trans e
  slot := fun b o _ _ e => x.2.2 b o e
  live := fun b o e => let ⟨_, e⟩ := x.2.2 b o e; ⟨_, e⟩

theorem dict_map (o : Obj) (f : Array Value → Array Value) : (Obj.mapFields f o).dict = o.dict := by obtain ⟨c, d, dt, sl⟩ := o; cases dt <;> rfl
noncomputable def ExcTr (B h : Heap) (P : Addr → Prop) (a : Addr) (nm : Str) : Prop :=
  P a ∧ ∃ oe vs C m, h.get? a = some oe ∧ (oe.cls = .ref C ∧ oe.dict = none) ∧ oe.data = .fields vs ∧ B.Ns mainGlobals m ∧ m nm = some (.ref C) ∧
    ∃ T oT ts, vs[1]? = some (.ref T) ∧ T ≠ a ∧ h.get? T = some oT ∧ oT.data = .fields ts ∧ ts[3]? = some .none ∧ P T
theorem ExcTr.is {B h : Heap} {P : Addr → Prop} {a : Addr} {nm : Str} : ExcTr B h P a nm → ExcIs B h P a nm := fun ⟨p, oe, vs, C, m, h1, h2, h3, h4, h5, h6⟩ => ⟨p, oe, vs, C, m, h1, h2, h3, h4, h5, .inr h6⟩
section
variable {M : Model} {A : Around} {E : Value → Shared → Prop} {s : Shared} {env : Env} {outer : List Env} {B : Heap} {L a : Addr} {nm : Str} {P : Addr → Prop} {Q : Unit → Shared → Prop}

theorem entry_exc {oe : Obj} {vs : Array Value} {C : Addr} {m : Str → Option Value} {head : Value} {hadNext : Bool} (hfr : A.frames = some (env :: outer)) (hl : s.heap.FunFrames B (env :: outer)) (hf : env.frame = some L) (he : s.heap.get? a = some oe) (hd : oe.data = .fields vs) (hsz : 1 < vs.size)
    (hc : oe.cls = .ref C ∧ oe.dict = none) (hn : B.Ns mainGlobals m) (hm : m nm = some (.ref C)) (pa : P a) (hP : ∀ b, s.heap.get? b = none → P b)
    (k : ∀ h', Lv P (fun b => b ∈ (env :: outer).filterMap (·.frame)) s.heap h' → ExcTr B h' P a nm → Q () { s with heap := h' }) :
    wpAny M A (do let fa ← frameOf env; let pl ← entryPlaceOf L hadNext; let b ← EntryCells.newEntry head fa .none (rawInt L) .none pl; setField (.ref a) 1 b) (fun _ s' => wpAny M A (setFlight (.ref a) none) Q E s') E s := by
  have ha : a ∉ (env :: outer).filterMap (·.frame) := fun q => by
    obtain ⟨_, o, ho, nr⟩ := hl.mem q
    rw [he] at ho; cases ho; exact nr vs hd
  refine wpAny_bind (wpAny_frameOf_fun hfr hl hf fun h₁ x₁ => ?_)
  refine wpAny_bind (wpAny_entryPlaceOf fun pl hpl => ?_)
  unfold EntryCells.newEntry newFields
  refine wpAny_bind (wpAny_newObj_type ?_ (hpl.sizeOk5 _ _ _ _ _))
  have e₁ : h₁.get? a = some oe := (x₁.2.1 a ha).trans he
  generalize hT : ({ cls := .type "traceback", dict := none, data := .fields ([head, .ref L, .none, rawInt L, .none] ++ (if pl.isEmpty then List.replicate 6 Value.none else pl)).toArray } : Obj) = oT
  have e₂ := Heap.get?_push_of_some (h := h₁) oT e₁
  refine wpAny_setField e₂ hd hsz ?_
  have ne : h₁.objs.size ≠ a := Nat.ne_of_gt (Heap.lt_size e₁)
  have hd₃ := Obj.data_mapFields hd (·.setIfInBounds 1 (Value.ref h₁.objs.size))
  have fr₃ := Obj.isFreed_of_fields hd₃
  have e₃ := Heap.get?_update_self (Obj.mapFields (·.setIfInBounds 1 (Value.ref h₁.objs.size))) e₂ fr₃
  have hTf : oT.isFreed = false := by rw [← hT]; rfl
  have t₃ := (Heap.get?_update_other (h₁.push oT) (Obj.mapFields (·.setIfInBounds 1 (Value.ref h₁.objs.size))) (Ne.symm ne)).trans (Heap.get?_push_size h₁ hTf)
  obtain ⟨ts, hts, hsz3⟩ : ∃ ts, oT.data = .fields ts ∧ 3 < ts.size := ⟨_, by rw [← hT], by simp only [List.size_toArray, List.length_append, List.length_cons, List.length_nil]; omega⟩
  refine wpAny_setFlight_none e₃ hd₃ (tb := h₁.objs.size) (by simp [hsz]) t₃ hts hsz3 (k _ ?_ ?_)
  · have pT : P h₁.objs.size := hP _ (by rw [x₁.1]; exact heap_size_none _)
    exact ((Lv.slots x₁ fun b q => q).trans (Lv.push oT)).trans ((Lv.upd pa e₂ fr₃).trans (Lv.upd pT t₃ (Obj.isFreed_of_fields (Obj.data_mapFields hts _))))
  · have pT : P h₁.objs.size := hP _ (by rw [x₁.1]; exact heap_size_none _)
    refine ⟨pa, _, _, C, m, (Heap.get?_update_other _ _ ne).trans e₃, ⟨(Obj.cls_mapFields _ _).trans hc.1, (dict_map _ _).trans hc.2⟩, hd₃, hn, hm, ⟨h₁.objs.size, _, _, by simp [hsz], ne, Heap.get?_update_self _ t₃ (Obj.isFreed_of_fields (Obj.data_mapFields hts _)), Obj.data_mapFields hts _, ?_, pT⟩⟩
    simp [hsz3]

theorem leave_exc (hfr : A.frames = some (env :: outer)) (hl : s.heap.FunFrames B (env :: outer)) (hf : env.frame = some L) (X : ExcIs B s.heap P a nm) (hP : ∀ b, s.heap.get? b = none → P b)
    (k : ∀ h', Lv P (fun b => b ∈ (env :: outer).filterMap (·.frame)) s.heap h' → ExcTr B h' P a nm → Q () { s with heap := h' }) :
    wpAny M A (noteFrame (.ref a) env) (fun _ s' => wpAny M A (setFlight (.ref a) none) Q E s') E s := by
  obtain ⟨pa, oe, vs, C, m, he, hc, hd, hn, hm, ht⟩ := X
  unfold noteFrame
  simp only [hf]
  rcases ht with h1 | ⟨T, oT, ts, h1, ne, eT, hdT, h3, pT⟩
  · refine wpAny_bind (wpAny_field he hd h1 ?_)
    rw [if_neg (by decide)]
    exact entry_exc hfr hl hf he hd (Array.getElem?_eq_some_iff.mp h1).1 hc hn hm pa hP k
  · refine wpAny_bind (wpAny_field he hd h1 ?_)
    rw [if_pos (show (Value.ref T != Value.none) = true from by simp)]
    refine wpAny_bind (wpAny_field eT hdT h3 ?_)
    rw [if_neg (show ¬ ((Value.none == rawInt L) = true) from by simp [rawInt])]
    refine wpAny_bind (wpAny_setField eT hdT (Array.getElem?_eq_some_iff.mp h3).1 ?_)
    have fT := Obj.isFreed_of_fields (Obj.data_mapFields hdT (·.setIfInBounds 3 Value.none))
    have u : Lv P (fun b => b ∈ (env :: outer).filterMap (·.frame)) s.heap (s.heap.update T (Obj.mapFields (·.setIfInBounds 3 Value.none))) := Lv.upd pT eT fT
    have hl' : (s.heap.update T (Obj.mapFields (·.setIfInBounds 3 Value.none))).FunFrames B (env :: outer) := hl.of_keeps fun b o hb nr => ⟨o, (Heap.get?_update_other _ _ fun q => by subst q; rw [eT] at hb; cases hb; exact nr ts hdT).trans hb, rfl⟩
    refine entry_exc (s := { s with heap := s.heap.update T (Obj.mapFields (·.setIfInBounds 3 Value.none)) }) hfr hl' hf ((Heap.get?_update_other _ _ ne).trans he) hd (Array.getElem?_eq_some_iff.mp h1).1 hc hn hm pa (fun b e => hP b ?_) fun h' x y => k h' (u.trans x) y
    cases q : s.heap.get? b with
    | none => rfl
    | some o => obtain ⟨o', e'⟩ := u.live b o q; rw [e] at e'; cases e'

theorem land_exc (X : ExcTr B s.heap P a nm) (k : ∀ h', Lv P (fun _ => False) s.heap h' → ExcTr B h' P a nm → Q () { s with heap := h' }) : wpAny M A (setFlight (.ref a) none) Q E s := by
  obtain ⟨pa, oe, vs, C, m, he, hc, hd, hn, hm, T, oT, ts, h1, ne, eT, hdT, h3, pT⟩ := X
  have sz := (Array.getElem?_eq_some_iff.mp h3).1
  have fT := Obj.isFreed_of_fields (Obj.data_mapFields hdT (·.setIfInBounds 3 Value.none))
  refine wpAny_setFlight_none he hd h1 eT hdT sz (k _ (Lv.upd pT eT fT) ⟨pa, oe, vs, C, m, (Heap.get?_update_other _ _ ne).trans he, hc, hd, hn, hm, T, _, _, h1, ne, Heap.get?_update_self _ eT fT, Obj.data_mapFields hdT _, ?_, pT⟩)
  simp [sz]
end

section
variable {B : Heap} {y : Lay} {bv bv' : List Nat} {own own' : Addr → Option Nat} {Z Z' : Addr → Prop} {s s' : Shared} {h' : Heap} {fr : Frame} {P fs : Addr → Prop}
theorem Ns_lv (I : Inv B y own Z s.heap fr) (x : Lv P fs s.heap h') (hp : ∀ b, P b → ¬ y.wr own b ∧ ¬ y.F b ∧ ¬ Z b) (hf : ∀ b, fs b → y.F b ∨ b = y.L) {i : Nat} {l : Loc} (hl : y.loc i = some l) :
    (∀ v, rdL s.heap l v → rdL h' l v) ∧ (okL s.heap l → okL h' l) := by
  have np : ¬ P l.addr := fun p => (hp _ p).1 (.inr (.inr ⟨i, l, hl, rfl⟩))
  by_cases q : fs l.addr
  · have hL : l.addr = y.L := (hf _ q).elim (fun f => absurd f (I.wf.nf i l hl)) id
    cases l with
    | dict b x' => exact ⟨fun v ⟨m, hn, hm⟩ => ⟨m, Ns_slots hn fun o => x.slot b o q np, hm⟩, fun ⟨m, hn⟩ => ⟨m, Ns_slots hn fun o => x.slot b o q np⟩⟩
    | cell b => exact absurd hL (I.wf.cl i b hl)
  · exact ⟨fun v r => r.keeps fun o e => x.keep _ o e np q, fun r => r.keeps fun o e => x.keep _ o e np q⟩
theorem Inv.lv (I : Inv B y own Z s.heap fr) (x : Lv P fs s.heap h') (hp : ∀ b, P b → ¬ y.wr own b ∧ ¬ y.F b ∧ ¬ Z b) (hf : ∀ b, fs b → y.F b ∨ b = y.L) : Inv B y own Z h' fr := by
  have kz : ∀ a o, Z a → s.heap.get? a = some o → h'.get? a = some o := fun a o z e => x.keep a o e (fun p => (hp a p).2.2 z) fun f => (hf a f).elim (I.zF a z) fun q => I.zL (q ▸ z)
  have ko : ∀ a o, own a ≠ none → s.heap.get? a = some o → h'.get? a = some o := fun a o z e => x.keep a o e (fun p => (hp a p).1 (.inl z)) fun f => (hf a f).elim (I.oF a z) fun q => z (q ▸ I.oL)
  refine ⟨I.wf, fun a o e => kz a o (I.zb a o e) (I.base a o e), I.zb, I.zo, I.zl, I.ol, I.zL, I.oL, I.zF, I.oF, fun a z => ?_, fun a z => ?_, fun a f => ?_, fun i l hl => (Ns_lv I x hp hf hl).2 (I.ok i l hl), ?_, fun i sl e n => ?_⟩
  · obtain ⟨o, e⟩ := I.zlv a z; exact ⟨o, kz a o z e⟩
  · obtain ⟨o, e⟩ := I.olv a z; exact ⟨o, ko a o z e⟩
  · obtain ⟨o, e, nr⟩ := I.flv a f
    have np : ¬ P a := fun p => (hp a p).2.1 f
    by_cases q : fs a
    · obtain ⟨sl, e'⟩ := x.slot a o q np e; exact ⟨_, e', nr⟩
    · exact ⟨o, x.keep a o e np q, nr⟩
  · obtain ⟨m, hn⟩ := I.nsL
    have np : ¬ P y.L := fun p => (hp _ p).1 (.inr (.inl rfl))
    by_cases q : fs y.L
    · exact ⟨m, Ns_slots hn fun o => x.slot _ o q np⟩
    · exact ⟨m, hn.at' fun o e => x.keep _ o e np q⟩
  · obtain ⟨l, v, hl, r, q⟩ := I.at' i sl e n
    exact ⟨l, v, hl, (Ns_lv I x hp hf hl).1 v r, q.mono kz (fun _ z => z) (fun _ z => z) fun a o z => ko a o (by rw [z]; exact fun n => by cases n)⟩
theorem Step.lv (S : Step y bv own Z s own' Z' s') (I : Inv B y own' Z' s'.heap fr) (x : Lv P fs s'.heap h') (hp : ∀ b, P b → s.heap.get? b = none ∧ ¬ y.wr own' b ∧ ¬ y.F b ∧ ¬ Z' b) (hf : ∀ b, fs b → y.F b ∨ b = y.L) {tk : Nat} : Step y bv own Z s own' Z' { s' with heap := h', toks := tk } where
  sh := by obtain ⟨h₁, tk₁, rfl⟩ := S.sh; exact ⟨_, _, rfl⟩
  ext := ⟨fun a o e nw nf => x.keep a o (S.ext.keep a o e nw nf) (fun p => by rw [(hp a p).1] at e; cases e) fun f => (hf a f).elim nf fun q => nw (.inr (.inl q)),
    fun a o e => let ⟨o', e'⟩ := S.ext.live a o e; x.live a o' e',
    fun a o f e => by
      obtain ⟨sl, e'⟩ := S.ext.fram a o f e
      have np : ¬ P a := fun p => (hp a p).2.2.1 f
      by_cases q : fs a
      · obtain ⟨sl', e''⟩ := x.slot a _ q np e'; exact ⟨sl', e''⟩
      · exact ⟨sl, x.keep a _ e' np q⟩⟩
  zm := S.zm
  zn := S.zn
  on := S.on
  bind := fun i l v n hl r => (Ns_lv I x (fun b p => (hp b p).2) hf hl).1 v (S.bind i l v n hl r)
theorem frames_fun {A : Around} (I : Inv B y own Z s.heap fr) (st : FrOk (fun a => y.F a ∨ a = y.L) A) : ∃ l, A.frames = some l ∧ s.heap.FunFrames B l ∧ ∀ b ∈ l.filterMap (·.frame), y.F b ∨ b = y.L := by
  obtain ⟨l, hl, hk⟩ := st
  refine ⟨l, hl, ?_, fun b hb => ?_⟩
  · clear hl
    induction l with
    | nil => trivial
    | cons e l ih =>
      obtain ⟨h1, L, h2, h3⟩ := hk e (.head _)
      refine ⟨h1, ?_, ih fun e he => hk e (.tail _ he)⟩
      have nz : ¬ Z L := fun z => h3.elim (I.zF L z) fun q => I.zL (q ▸ z)
      have nb : B.get? L = none := by
        cases q : B.get? L with
        | none => rfl
        | some o => exact absurd (I.zb L o q) nz
      rcases h3 with h3 | h3
      · obtain ⟨o, ho, nr⟩ := I.flv L h3; exact ⟨L, o, h2, nb, ho, nr⟩
      · obtain ⟨m, o, _, _, ho, hd, _⟩ := I.nsL; exact ⟨L, o, h2, nb, h3 ▸ ho, fun vs q => by rw [hd] at q; cases q⟩
  · obtain ⟨e, he, h1⟩ := List.mem_filterMap.mp hb
    obtain ⟨_, L, h2, h3⟩ := hk e he
    rw [h2] at h1; cases h1; exact h3
end
end Mv

end

section
set_option maxRecDepth 100000
set_option linter.unusedSectionVars false
set_option linter.unusedVariables false
namespace Mv
open PySem PyProof.Rows
variable [Hp]

theorem Ns_det {h : Heap} {a : Addr} {m m' : Str → Option Value} (x : h.Ns a m) (z : h.Ns a m') (k : Str) : m k = m' k := by
  obtain ⟨o, es, ep, ho, hd, hk, hf⟩ := x
  obtain ⟨o', es', ep', ho', hd', hk', hf'⟩ := z
  rw [ho] at ho'; cases ho'
  rw [hd] at hd'; cases hd'
  rw [← hf, hf']

section
variable {A : Around} {B : Heap} {mg mb : Str → Option Value} {tb : Tb} {c : Cfg} {n : Nat} {env : Env} {sc : Sc} {y : Lay}
  {bv bv' : List Nat} {own own₁ own₀ own' : Addr → Option Nat} {Z Z₁ Z₀ Z' : Addr → Prop} {s s₁ s₀ s' : Shared} {fr fr₁ : Frame}

theorem ss_raise {k msg : Str} {np cpos pos ap : Pos} {kk : Nat} (R : Rn prog w A B mg mb tb c n) (ok : FnOk A sc env y c bv own₀) (hg : sc.isG k) (hk : k ∈ tb.cl) :
    SS1 prog w A B c y bv own₀ Z₀ s₀ (exec (.Raise (some (.Call (.Name k np) [.Constant (.str msg) kk ap] [] cpos)) none pos) env) (.raise k) := by
  intro own Z s fr out h I S
  rw [exS_raise] at h
  cases hhd : c.hd with
  | true => rw [hhd] at h; exact nos h
  | false =>
  rw [hhd, if_neg Bool.false_ne_true] at h
  obtain rfl := sos h
  obtain ⟨C, Bb, newId, initId, bm, O, FB⟩ := R.gd.cl k hk
  obtain ⟨tl, N, nm, q, bs, hdct, sn, sub, ab, col, dd, k0, k1, k2, k3, k5, mN, hC, hN, hq, T⟩ := O.obj
  refine wpAny_Raise_call_subT (C := C) (nm := nm) (q := q) (N := N) (bs := bs) (bm := tl) (hdct := hdct) (sn := sn) (sub := sub) (ab := ab) (col := col) (dd := dd) (k0 := k0) (k1 := k1) (k2 := k2) (k3 := k3) (k5 := k5)
    FB (mN := mN) (T.tail.hasType FB.hasBase) (R.hh hhd) rfl (hq _ (.head _)) (load_glob R.gd ok.en I hg O.bound ⟨rfl, ?_⟩)
  refine Calls.evalArgs_plain (Calls.spliced_cons (wpAny_Constant_str (k := kk) (pos := ap) (Calls.spliced_nil ?_)))
  refine ⟨rfl, (by show 1 ≤ sizeLine; decide), I.base _ _ hC, hN.keeps I.base, T.tail.keeps I.base, fun h' e hm => ?_⟩
  obtain ⟨t, he, _, _⟩ := hm.there
  have f := I.fresh hm.new
  exact ⟨k, e, own, Z, rfl, rfl, I.grow hm.keeps, .grow hm.keeps, ⟨hm.new, f⟩, _, _, C, mg, he, ⟨rfl, rfl⟩, rfl, R.gd.g, O.bound, .inl rfl⟩

theorem ss_try {x cn : Str} {p hp pos : Pos} {i : Nat} {yes no : List Str} {body hs : List Stmt} {h0 : Stmt} {xb xh : List St} (R : Rn prog w A B mg mb tb c n) (ok : FnOk A sc env y c bv own₀) (hx : sc.isV x i) (hxl : sc.names.lookup x = some .local) (hcn : sc.isG cn) (hs' : tb.sub.lookup cn = some (yes, no))
    (Hb : SS prog w A B c y bv own₀ Z₀ s₀ (execs body env) xb) (Hh : ∀ a, SS prog w (A.mark (some (.ref a))) B { c with hd := true } y bv own₀ Z₀ s₀ (execs (h0 :: hs) env) xh) :
    SS1 prog w A B c y bv own₀ Z₀ s₀ (exec (.Try body [.ExceptHandler (some (.Name cn p)) (some x) (h0 :: hs) hp] [] [] pos) env) (.try_ xb yes i xh) := by
  intro own Z s fr out h I S
  rw [exS_try] at h
  cases hhd : c.hd with
  | true => rw [hhd] at h; exact nos h
  | false =>
  rw [hhd, if_neg Bool.false_ne_true] at h
  refine wpAny_Try_except ?_
  rcases hb : exSs c xb fr with _ | ⟨nm | k, fr₁⟩
  · rw [hb] at h; exact nos h
  · rw [hb, tryO_err] at h
    by_cases hy : yes.contains nm = true ∧ ¬ c.pin.contains i = true
    rotate_left
    · rw [if_neg hy] at h; exact nos h
    rw [if_pos hy] at h
    rcases hh : exSs { c with hd := true } xh (fr₁.set i (.exc nm)) with _ | ⟨e | k, fr₂⟩
    · rw [hh] at h; exact nos h
    · rw [hh] at h; exact nos h
    rw [hh, tryH_ok] at h
    obtain rfl := sos h
    refine wpAny_mono (Hb own Z s fr _ hb I S) (fun fl s' p => ?_) fun ev s₁ p => ?_
    · obtain ⟨_, _, _, q, _⟩ := p; cases q
    obtain ⟨nm', a, own₁, Z₁, q1, rfl, I₁, S₁, X⟩ := p
    cases q1
    dsimp only at I₁
    obtain ⟨outer, hfr⟩ := ok.top
    obtain ⟨l, hl', FF, hfs⟩ := frames_fun I₁ ok.en.stk
    rw [hfr] at hl'; cases hl'
    obtain ⟨V, hV, ask⟩ := R.gd.ask cn yes no hs'
    refine leave_exc hfr FF ok.en.frame X (fun b e => ⟨S₁.old b e, I₁.fresh e⟩) fun h₂ lv X₂ => ?_
    have I₂ : Inv B y own₁ Z₁ h₂ fr₁ := I₁.lv lv (fun b p => p.2) hfs
    have S₂ : Step y bv own Z s own₁ Z₁ { s₁ with heap := h₂ } := S₁.lv I₁ lv (fun b p => p) hfs
    have en' : EnvOk (A.mark (some (.ref a))) sc env y := { ok.en with stk := ok.en.stk }
    refine wpAny_handleBy_cons (codeAny_handlers_test (load_cls (s := { s₁ with heap := h₂ }) R.gd en' I₂ hcn hV ?_)) (by intro q; cases q)
    obtain ⟨pa, oe, vs, C, m, he, hc, hrest⟩ := id X₂
    have hmk : mg nm = some (.ref C) := (Ns_det R.gd.g hrest.2.1 nm).trans hrest.2.2.1
    refine ((ask nm C hmk).1 (List.contains_iff_mem.mp hy.1) prog w _ _ { s₁ with heap := h₂ } a oe I₂.base he ⟨hc.1, hc.2, vs, hrest.1⟩).1 _ ?_
    dsimp only
    refine codeAny_handlers_suite_as (land_exc (s := { s₁ with heap := h₂ }) X₂ fun h₃ lv₃ X₃ => ?_)
    have I₃ : Inv B y own₁ Z₁ h₃ fr₁ := Inv.lv (s := { s₁ with heap := h₂ }) I₂ lv₃ (fun b p => p.2) fun _ f => f.elim
    have S₃ : Step y bv own Z s own₁ Z₁ { s₁ with heap := h₃ } := S₂.lv I₂ lv₃ (fun b p => p) fun _ f => f.elim
    obtain ⟨pa, oe, vs, C, m, he, hc, hrest⟩ := X₃
    have I₄ := I₃.addZ pa.2.1 pa.2.2.1 he
    have S₄ := S₃.addZ pa.1
    obtain ⟨l, hl⟩ := ok.loc hx.1
    have hib : i ∈ bv := ok.bvi hx.1 fun q => hy.2 (List.contains_iff_mem.mpr q)
    refine store_put (s := { s₁ with heap := h₃ }) en' hx.1 (ok.nf x i hx.1) hl I₄ fun h₅ tk PT => ?_
    have sv : SlotV h₅ (fun b => Z₁ b ∨ b = a) (fun b => own₁ b = some i) (.exc nm) (.ref a) := by
      obtain ⟨o, es, ep, ho, hd, hk, hf⟩ := id R.gd.g
      have zm : Z₁ mainGlobals ∨ mainGlobals = a := .inl (I₁.zb _ o ho)
      refine ⟨a, oe, C, mg, rfl, .inr rfl, PT.keep a oe (fun q => I₄.zl i l hl (.inr q.symm)) he, ⟨hc.1, hc.2, vs, hrest.1⟩, zm, ?_, (Ns_det R.gd.g hrest.2.1 nm).trans hrest.2.2.1⟩
      exact (R.gd.g.keeps I₄.base).at' fun o e => PT.keep _ o (fun q => I₄.zl i l hl (q ▸ zm)) e
    have I₅ : Inv B y own₁ (fun b => Z₁ b ∨ b = a) h₅ (fr₁.set i (.exc nm)) := (I₄.chg hl PT.keep PT.oth PT.ok PT.ns).setSl hl PT.rd sv
    have S₅ : Step y bv own Z s own₁ (fun b => Z₁ b ∨ b = a) { s₁ with heap := h₅, toks := tk } := S₄.trans ((PT.step (s := { s₁ with heap := h₃ }) hl I₄).sub fun j hj => by rw [List.mem_singleton.mp hj]; exact hib)
    refine wpAny_mono (Hh a own₁ _ { s₁ with heap := h₅, toks := tk } _ _ hh I₅ (S.trans S₅)) (fun fl s₆ p => ?_) fun _ _ x => x.elim
    obtain ⟨k', own₆, Z₆, q, I₆, S₆, r⟩ := p
    cases q
    dsimp only at I₆ ⊢
    have hkl : env.kindOf x = some .local := (ok.kd x).trans hxl
    have hle : l = .dict env.locals x := by
      rcases ok.en.var x i hx.1 with ⟨_, e⟩ | ⟨q | ⟨q, _⟩, _⟩
      · rw [hl] at e; exact Option.some.inj e
      · rw [hkl] at q; cases q
      · rw [hkl] at q; cases q
    subst hle
    obtain ⟨m₆, hn₆⟩ := I₆.ok i _ hl
    refine wpAny_nameGoes_keeps hkl hn₆ (by rw [ok.en.kind]; rfl) fun h₇ v hn₇ sb => ?_
    have kp : ∀ b o, b ≠ env.locals → s₆.heap.get? b = some o → h₇.get? b = some o := fun b o q e => sb.extBut b o q e
    have oth : ∀ j k w, j ≠ i → y.loc j = some k → rdL s₆.heap k w → rdL h₇ k w := fun j k w hj hk r => by
      by_cases q : k.addr = env.locals
      · obtain ⟨b, x', z, e1, e2, hxz⟩ := I₆.wf.apart j i k _ hk hl hj q
        cases e2
        subst e1
        obtain ⟨m', hm', e'⟩ := r
        refine ⟨_, hn₇, ?_⟩
        show (if x' = x then v else m₆ x') = some w
        rw [if_neg hxz, ← Ns_det hm' hn₆, e']
      · exact r.keeps fun o e => kp _ o q e
    have okk : ∀ j k, y.loc j = some k → okL h₇ k := fun j k hk => by
      by_cases q : k.addr = env.locals
      · cases k with
        | dict b z => cases q; exact ⟨_, hn₇⟩
        | cell b =>
          by_cases hij : j = i
          · subst hij; rw [hl] at hk; cases hk
          · obtain ⟨_, _, _, e1, _⟩ := I₆.wf.apart j i _ _ hk hl hij q; cases e1
      · exact (I₆.ok j k hk).keeps fun o e => kp _ o q e
    have nsL : ∃ m, h₇.Ns y.L m := by
      by_cases q : y.L = env.locals
      · exact ⟨_, q ▸ hn₇⟩
      · obtain ⟨m, hm⟩ := I₆.nsL; exact ⟨m, hm.sameBut sb q⟩
    have S67 : Step y bv own₆ Z₆ s₆ own₆ Z₆ { s₆ with heap := h₇, toks := s₆.toks + 1 } := by
      refine ⟨⟨_, _, rfl⟩, ⟨fun b o e nw _ => kp b o (fun q => nw (.inr (.inr ⟨i, _, hl, q.symm⟩))) e, fun b o e => ?_, fun b o f e => ⟨o.slots, kp b o (fun q => I₆.wf.nf i _ hl (q ▸ f)) e⟩⟩, fun _ z => z, fun _ z => .inl z, fun _ _ e => .inl e, fun j k w nb hk r => oth j k w (fun q => nb (q ▸ hib)) hk r⟩
      by_cases q : b = env.locals
      · subst q; obtain ⟨o', _, _, e', _⟩ := hn₇; exact ⟨o', e'⟩
      · exact ⟨o, kp b o q e⟩
    refine ⟨k, own₆, Z₆, rfl, I₆.chg hl kp oth okk nsL, (S₅.trans S₆).trans S67, ?_⟩
    cases k with
    | next => exact r
    | ret rv =>
      obtain ⟨v, rfl, r, d, hd⟩ := r
      exact ⟨v, rfl, S67.rv I₆ (fun j hj => by rw [plVars_of hd] at hj; cases hj) r, d, hd⟩
  · rw [hb, tryO_ok] at h
    obtain rfl := sos h
    refine wpAny_mono (Hb own Z s fr _ hb I S) (fun fl s' p => ?_) fun _ _ x => x.elim
    obtain ⟨k', own', Z', q, I', S', r⟩ := p
    cases q
    cases k with
    | next => cases r; exact wpAny_execs_nil ⟨.next, own', Z', rfl, I', S', rfl⟩
    | ret rv => obtain ⟨v, rfl, r⟩ := r; exact ⟨.ret rv, own', Z', rfl, I', S', v, rfl, r⟩
end
end Mv

end

section
set_option maxRecDepth 100000
set_option linter.unusedSectionVars false
set_option linter.unusedVariables false
namespace Mv
open PySem PyProof.Rows

/-! ### a def -/
noncomputable def scOf (d : DefRec) (names : List Str) : Sc := ⟨d.scope.names, names.zipIdx, names.length⟩
structure FOk (tb : Tb) (d : DefRec) (fn : Fn) (names : List Str) : Prop where
  nd : names.Nodup
  np : fn.np ≤ names.length
  kinds : ∀ x ∈ names, d.scope.names.lookup x = some .local ∨ d.scope.names.lookup x = some .cell
  bind : ∀ vs : List Value, vs.length = fn.np → ∀ pm code doc, bindArgs (Calls.docDef d.name d.params d.body d.scope pm code doc) ⟨vs, []⟩ = pure ((names.take fn.np).zip vs)
  body : CSs tb (scOf d names) d.body fn.body
  co : d.scope.isCoroutine = false
  gen : d.scope.isGenerator = false
  kind : d.scope.kind = .function
  nofree : ∀ x ∈ d.scope.names, x.2 ≠ .free

variable [Hp]
section
variable {A : Around} {B : Heap} {mg mb : Str → Option Value} {tb : Tb} {c : Cfg} {n : Nat} {env : Env} {sc : Sc} {y : Lay}
  {bv bv' : List Nat} {own own₁ own₀ own' : Addr → Option Nat} {Z Z₁ Z₀ Z' : Addr → Prop} {s s₁ s₀ s' : Shared} {fr fr₁ : Frame}

theorem Rn.mark (R : Rn prog w A B mg mb tb c n) (a : Addr) : Rn prog w (A.mark (some (.ref a))) B mg mb tb { c with hd := true } n := ⟨R.gd, R.cs, R.dep, R.un, fun q => by cases q⟩
theorem FnOk.mark (ok : FnOk A sc env y c bv own₀) (a : Addr) : FnOk (A.mark (some (.ref a))) sc env y { c with hd := true } bv own₀ := ⟨{ ok.en with stk := ok.en.stk }, ok.nf, ok.bv, ok.pin, ok.ni, ok.kd, ok.top⟩
theorem ss_all : ∀ {ss : List Stmt} {zs : List St}, CSs tb sc ss zs → ∀ (A : Around) (c : Cfg) (R : Rn prog w A B mg mb tb c n) (ok : FnOk A sc env y c bv own₀), SS prog w A B c y bv own₀ Z₀ s₀ (execs ss env) zs := by
  have H := @CSs.rec tb sc (fun st z _ => ∀ (A : Around) (c : Cfg) (R : Rn prog w A B mg mb tb c n) (ok : FnOk A sc env y c bv own₀), SS1 prog w A B c y bv own₀ Z₀ s₀ (exec st env) z)
    (fun ss zs _ => ∀ (A : Around) (c : Cfg) (R : Rn prog w A B mg mb tb c n) (ok : FnOk A sc env y c bv own₀), SS prog w A B c y bv own₀ Z₀ s₀ (execs ss env) zs)
    (fun hx ce A c R ok => ss_asg R ok hx ce) (fun ce hc A c R ok => ss_exp R ok ce hc) (fun ce _ _ ia ib A c R ok => ss_iff R ok ce (ia A c R ok) (ib A c R ok)) (fun ce A c R ok => ss_ret R ok ce) (fun A c R ok => ss_retN)
    (fun tg hit _ ib A c R ok => ss_for R ok tg hit (ib A c R ok)) (fun hg hk A c R ok => ss_raise R ok hg hk) (fun hx hl hcn hs _ _ ib ih A c R ok => ss_try R ok hx hl hcn hs (ib A c R ok) fun a => ih _ _ (R.mark a) (ok.mark a)) (fun A c R ok => ss_pass) (fun A c R ok => ss_nil) (fun _ _ i1 i2 A c R ok => ss_cons (i1 A c R ok) (i2 A c R ok))
  intro ss zs h; exact H h
end

theorem bindL_skip {k : Str → Option NameKind} : ∀ (bs : List (Str × Value)) (m : Str → Option Value) (x : Str), x ∉ bs.map (·.1) → bindL k bs m x = m x
  | [], _, _, _ => rfl
  | (n, v) :: r, m, x, h => by
    simp only [List.map_cons, List.mem_cons, not_or] at h
    unfold bindL
    rw [bindL_skip r _ x h.2]
    split
    · exact if_neg h.1
    · rfl
theorem bindL_get {k : Str → Option NameKind} : ∀ (bs : List (Str × Value)) (m : Str → Option Value) (i : Nat) (x : Str) (v : Value), (bs.map (·.1)).Nodup → bs[i]? = some (x, v) → k x = some .local → bindL k bs m x = some v
  | [], _, _, _, _, _, h, _ => by simp at h
  | (n, u) :: r, m, 0, x, v, hn, h, hk => by
    simp at h
    obtain ⟨rfl, rfl⟩ := h
    unfold bindL
    rw [bindL_skip r _ n (List.nodup_cons.mp hn).1, if_pos hk]
    simp
  | (n, u) :: r, m, i + 1, x, v, hn, h, hk => by
    unfold bindL
    exact bindL_get r _ i x v (List.nodup_cons.mp hn).2 (by simpa using h) hk
theorem bindC_skip {k : Str → Option NameKind} : ∀ (bs : List (Str × Value)) (m : Str → Option Value) (x : Str), x ∉ bs.map (·.1) → bindC k bs m x = m x
  | [], _, _, _ => rfl
  | (n, v) :: r, m, x, h => by
    simp only [List.map_cons, List.mem_cons, not_or] at h
    unfold bindC
    rw [bindC_skip r _ x h.2]
    split
    · rfl
    · exact if_neg h.1
theorem bindC_get {k : Str → Option NameKind} : ∀ (bs : List (Str × Value)) (m : Str → Option Value) (i : Nat) (x : Str) (v : Value), (bs.map (·.1)).Nodup → bs[i]? = some (x, v) → k x ≠ some .local → bindC k bs m x = some v
  | [], _, _, _, _, _, h, _ => by simp at h
  | (n, u) :: r, m, 0, x, v, hn, h, hk => by
    simp at h
    obtain ⟨rfl, rfl⟩ := h
    unfold bindC
    rw [bindC_skip r _ n (List.nodup_cons.mp hn).1, if_neg hk]
    simp
  | (n, u) :: r, m, i + 1, x, v, hn, h, hk => by
    unfold bindC
    exact bindC_get r _ i x v (List.nodup_cons.mp hn).2 (by simpa using h) hk

theorem cellsFrom_acc : ∀ (names : List (Str × NameKind)) (n : Nat) (acc : List (Str × Addr)) (p : Str × Addr), p ∈ acc → p ∈ cellsFrom n names acc
  | [], _, _, _, h => h
  | (nm, k) :: r, n, acc, p, h => by
    unfold cellsFrom
    split
    · exact cellsFrom_acc r _ _ p (List.mem_cons_of_mem _ h)
    · exact cellsFrom_acc r _ _ p h
theorem cellsFrom_mem : ∀ (names : List (Str × NameKind)) (n : Nat) (acc : List (Str × Addr)) (x : Str), (x, NameKind.cell) ∈ names → ∃ c, (x, c) ∈ cellsFrom n names acc
  | [], _, _, _, h => by cases h
  | (nm, k) :: r, n, acc, x, h => by
    unfold cellsFrom
    rcases List.mem_cons.mp h with q | h
    · cases q
      rw [if_pos (by decide)]
      exact ⟨n, cellsFrom_acc r _ _ _ List.mem_cons_self⟩
    · split
      · exact cellsFrom_mem r _ _ x h
      · exact cellsFrom_mem r _ _ x h

theorem zipIdx_lookup : ∀ {names : List Str} {x : Str} {i k : Nat}, (names.zipIdx k).lookup x = some i → k ≤ i ∧ names[i - k]? = some x
  | [], _, _, _, h => by cases h
  | a :: l, x, i, k, h => by
    rw [List.zipIdx_cons, List.lookup_cons] at h
    cases hx : x == a with
    | true =>
      rw [hx] at h; cases h
      simp only [beq_iff_eq] at hx
      subst hx
      exact ⟨Nat.le_refl _, by simp⟩
    | false =>
      rw [hx] at h
      obtain ⟨h1, h2⟩ := zipIdx_lookup h
      refine ⟨by omega, ?_⟩
      obtain ⟨m, rfl⟩ : ∃ m, i = k + 1 + m := ⟨i - (k + 1), by omega⟩
      rw [show k + 1 + m - k = m + 1 from by omega, List.getElem?_cons_succ]
      rw [show k + 1 + m - (k + 1) = m from by omega] at h2
      exact h2

noncomputable def fnLoc (kindOf : Str → Option NameKind) (L : Addr) (cells : List (Str × Addr)) (names : List Str) (i : Nat) : Option Loc := match names[i]? with
  | none => none
  | some x => if kindOf x = some .local then some (.dict L x) else (cells.lookup x).map .cell
theorem fnLoc_some {k : Str → Option NameKind} {L : Addr} {cells : List (Str × Addr)} {names : List Str} {i : Nat} {l : Loc} (h : fnLoc k L cells names i = some l) :
    ∃ x, names[i]? = some x ∧ ((k x = some .local ∧ l = .dict L x) ∨ (k x ≠ some .local ∧ ∃ c, cells.lookup x = some c ∧ l = .cell c)) := by
  unfold fnLoc at h
  split at h
  · cases h
  · rename_i x hx
    refine ⟨x, hx, ?_⟩
    split at h
    · rename_i hk; cases h; exact .inl ⟨hk, rfl⟩
    · rename_i hk
      rw [Option.map_eq_some_iff] at h
      obtain ⟨c, hc, rfl⟩ := h
      exact .inr ⟨hk, c, hc, rfl⟩

noncomputable def clean (own : Addr → Option Nat) (pin : List Nat) (a : Addr) : Option Nat := match own a with
  | some k => if k ∈ pin then some k else none
  | none => none
theorem clean_some {own : Addr → Option Nat} {pin : List Nat} {a : Addr} {k : Nat} (h : clean own pin a = some k) : own a = some k ∧ k ∈ pin := by
  unfold clean at h
  split at h
  · rename_i j hj
    split at h
    · rename_i hp; cases h; exact ⟨hj, hp⟩
    · cases h
  · cases h
theorem clean_ne {own : Addr → Option Nat} {pin : List Nat} {a : Addr} (h : clean own pin a ≠ none) : own a ≠ none := fun e => h (by unfold clean; rw [e])
theorem pins_mem : ∀ {args : List Slot} {k j : Nat} {sl : Slot}, args[j]? = some sl → sl.lent = true → k + j ∈ pinsOf k args
  | [], _, _, _, h, _ => by simp at h
  | a :: r, k, 0, sl, h, hl => by
    simp at h; subst h
    unfold pinsOf; rw [if_pos hl]; exact List.mem_cons_self
  | a :: r, k, j + 1, sl, h, hl => by
    have := pins_mem (k := k + 1) (j := j) (args := r) (by simpa using h) hl
    rw [show k + 1 + j = k + (j + 1) from by omega] at this
    unfold pinsOf
    split
    · exact List.mem_cons_of_mem _ this
    · exact this

theorem outs_at {own' : Addr → Option Nat} {Z' : Addr → Prop} {h : Heap} : ∀ {args : List Slot} {vs : List Value} {fr : Frame} {k : Nat}, (∀ (j : Nat) (sl o : Slot) (v : Value), args[j]? = some sl → sl.lent = true → vs[j]? = some v → fr[j]? = some o → o ≠ .no → SlotV h Z' (fun a => own' a = some (k + j)) o v) → OutsAt own' Z' h k args vs (outsOf args fr)
  | [], vs, fr, k, _ => by unfold OutsAt; trivial
  | a :: r, [], fr, k, _ => by unfold OutsAt; trivial
  | a :: r, v :: vs, fr, k, H => by
    have tl : ∀ (j : Nat) (sl o : Slot) (u : Value), r[j]? = some sl → sl.lent = true → vs[j]? = some u → fr.tail[j]? = some o → o ≠ .no → SlotV h Z' (fun a => own' a = some (k + 1 + j)) o u := fun j sl o u e1 hl e2 e3 n => by
      have := H (j + 1) sl o u (by simpa using e1) hl (by simpa using e2) (by
        cases fr with
        | nil => simp at e3
        | cons x xs => simpa using e3) n
      rwa [show k + (j + 1) = k + 1 + j from by omega] at this
    have ih := outs_at tl
    unfold OutsAt outsOf
    split
    · rename_i hl
      refine ⟨fr.headD .no, outsOf r fr.tail, rfl, fun n => ?_, ih⟩
      cases fr with
      | nil => exact absurd rfl n
      | cons x xs => exact H 0 a x v rfl hl rfl rfl n
    · exact ih

theorem nodup_get {l : List Str} {i j : Nat} (hn : l.Nodup) (hi : i < l.length) (h : l[i]? = l[j]?) : i = j := by
  exact (List.getElem?_inj hi hn).mp h
theorem nlt {a b : Addr} (h : a < b) (k : b ≤ a) : False := Nat.lt_irrefl _ (Nat.lt_of_lt_of_le h k)

theorem call_sound {B : Heap} {mg mb : Str → Option Value} {tb : Tb} {P : Pr} (gd : Gd B mg mb P.glob tb) (fok : ∀ (f : Nat) (fn : Fn) (d : DefRec), P.fns[f]? = some fn → tb.fn[f]? = some d → ∃ names, FOk tb d fn names) :
    ∀ n, CallSpec prog w B mg tb n (callF P n)
  | 0 => by intro hd f args res outs h; cases h
  | n + 1 => by
    intro hd f args res outs h d hd' fa hfa A F own Z s vs hdep hun hhd fro G SA
    have ih := call_sound gd fok n
    unfold callF at h
    split at h
    · cases h
    · rename_i fn hfn
      split at h
      · rename_i hlen
        obtain ⟨names, ok⟩ := fok f fn d hfn hd'
        obtain ⟨a, o, pm, code, doc, hm, ho, hdat, hcr⟩ := gd.fn f d hd'
        rw [hfa] at hm; cases hm
        have hvl : vs.length = fn.np := by rw [← SA.1, hlen]
        have hroom : A.depth < recursionLimit := by show A.depth < 1000; omega
        let fd := Calls.docDef d.name d.params d.body d.scope pm code doc
        have hbn : ((names.take fn.np).zip vs).map (·.1) = names.take fn.np := List.map_fst_zip (by rw [List.length_take, hvl]; omega)
        refine codeAny_call_cells (fd := fd) (body := d.body) hroom (G.base fa o ho) hdat (gd.nl.keeps G.base) (hcr.keeps G.base) rfl (ok.bind vs hvl pm code doc) rfl (fun x hx => ?_) (fun s₁ IC => ?_) ok.co ok.gen ok.kind
        · have hxn : x.1 ∈ names := by
            have : x.1 ∈ ((names.take fn.np).zip vs).map (·.1) := List.mem_map.mpr ⟨x, hx, rfl⟩
            rw [hbn] at this
            exact List.mem_of_mem_take this
          rcases ok.kinds x.1 hxn with q | q
          · exact .inl q
          · refine .inr ⟨q, ?_⟩
            obtain ⟨c, hc⟩ := cellsFrom_mem d.scope.names (s.heap.objs.size + 1) [] x.1 (mem_of_lookup q)
            obtain ⟨c', e, _⟩ := lookup_of_mem hc
            exact Option.isSome_iff_exists.mpr ⟨c', e⟩
        · generalize henv : callEnvC fd s.heap.objs.size fa = env at IC
          have eL : env.locals = s.heap.objs.size := by rw [← henv]; rfl
          have eK : ∀ x, env.kindOf x = d.scope.names.lookup x := fun x => by rw [← henv]; rfl
          have eC : env.cells = cellsFrom (s.heap.objs.size + 1) d.scope.names [] := by rw [← henv]; rfl
          let y : Lay := ⟨fnLoc env.kindOf env.locals env.cells names, env.locals, F⟩
          have up : ∀ b, (∃ o, s.heap.get? b = some o) → b < env.locals := fun b ⟨o, e⟩ => by rw [eL]; exact Heap.lt_size e
          have lg : ∀ i l, y.loc i = some l → env.locals ≤ l.addr := fun i l hl => by
            obtain ⟨x, _, ⟨_, rfl⟩ | ⟨_, c, hc, rfl⟩⟩ := fnLoc_some hl
            · exact Nat.le_refl _
            · exact Nat.le_of_lt (IC.above x c (mem_of_lookup hc))
          have hi : ∀ i l, y.loc i = some l → i < names.length := fun i l hl => by
            obtain ⟨x, hx, _⟩ := fnLoc_some hl
            exact (List.getElem?_eq_some_iff.mp hx).1
          have locS : ∀ i x, names[i]? = some x → ∃ l, y.loc i = some l ∧ ((env.kindOf x = some .local ∧ l = .dict env.locals x) ∨ (env.kindOf x = some .cell ∧ ∃ c, env.cells.lookup x = some c ∧ l = .cell c)) := fun i x hx => by
            have hxm : x ∈ names := List.mem_of_getElem? hx
            rcases ok.kinds x hxm with q | q
            · refine ⟨.dict env.locals x, ?_, .inl ⟨by rw [eK]; exact q, rfl⟩⟩
              show fnLoc _ _ _ _ _ = _
              unfold fnLoc; rw [hx]; dsimp only; rw [if_pos (by rw [eK]; exact q)]
            · obtain ⟨c, hc⟩ := cellsFrom_mem d.scope.names (s.heap.objs.size + 1) [] x (mem_of_lookup q)
              obtain ⟨c', e, _⟩ := lookup_of_mem hc
              rw [← eC] at e
              refine ⟨.cell c', ?_, .inr ⟨by rw [eK]; exact q, c', e, rfl⟩⟩
              show fnLoc _ _ _ _ _ = _
              unfold fnLoc; rw [hx]; dsimp only; rw [if_neg (by rw [eK, q]; intro z; cases z), e]; rfl
          have en : EnvOk (A.deeper env) (scOf d names) env y := by
            refine ⟨?_, hi, by rw [← henv]; exact ok.kind, by rw [← henv]; rfl, by rw [← henv]; rfl, (by show env.frame = some env.locals; rw [eL, ← henv]; rfl), fun x i hx => ?_, fun x hx => by rw [eK]; exact hx, fun x hx => by rw [eK]; exact hx⟩
            · obtain ⟨l, hl, hk⟩ := fro
              refine ⟨_, Around.frames_deeper hl, fun e he => ?_⟩
              rcases List.mem_cons.mp he with he | he
              · rw [he]
                exact ⟨(by rw [← henv]; show d.scope.kind ≠ .module; rw [ok.kind]; intro q; cases q), _, (by show _ = some env.locals; rw [eL, ← henv]; rfl), .inr rfl⟩
              · obtain ⟨h1, L, h2, h3⟩ := hk e he; exact ⟨h1, L, h2, .inl h3⟩
            obtain ⟨_, hx⟩ := zipIdx_lookup hx
            rw [Nat.sub_zero] at hx
            obtain ⟨l, hl, ⟨hk, rfl⟩ | ⟨hk, c, hc, rfl⟩⟩ := locS i x hx
            · exact .inl ⟨hk, hl⟩
            · exact .inr ⟨.inl hk, c, hc, hl⟩
          let pin := pinsOf 0 args
          let own₀ := clean own pin
          let bv := (List.range names.length).filter fun i => decide (i ∉ pin)
          have fnok : FnOk (A.deeper env) (scOf d names) env y ⟨P.glob, callF P n, pin, hd⟩ bv own₀ := by
            refine ⟨en, fun x i hx => ?_, fun i hp hlt => List.mem_filter.mpr ⟨List.mem_range.mpr hlt, by simpa using hp⟩, fun a i q => (clean_some q).2, ?_, fun x => eK x, let ⟨l, hl, _⟩ := fro; ⟨l, Around.frames_deeper hl⟩⟩
            · obtain ⟨_, hx⟩ := zipIdx_lookup hx
              rw [eK]
              rcases ok.kinds x (List.mem_of_getElem? hx) with q | q <;> (rw [q]; intro z; cases z)
            · unfold interactive; rw [← henv]; show (d.scope.kind == .module && _) = false; rw [ok.kind]; rfl
          have Rn' : Rn prog w (A.deeper env) B mg mb tb ⟨P.glob, callF P n, pin, hd⟩ n := ⟨gd, ih, by show A.depth + 1 + n ≤ 999; omega, by show A.units + 3 + 4 * n ≤ 4000; omega, fun q => hhd q⟩
          have kp := IC.toInCall.keep
          have nb : ((names.take fn.np).zip vs |>.map (·.1)).Nodup := by rw [hbn]; exact ok.nd.sublist (List.take_sublist _ _)
          -- where the arguments lie
          have argRd : ∀ (i : Nat) (v : Value), vs[i]? = some v → ∃ l, y.loc i = some l ∧ rdL s₁.heap l v := fun i v hv => by
            have hil : i < fn.np := by rw [← hvl]; exact (List.getElem?_eq_some_iff.mp hv).1
            have hin : i < names.length := Nat.lt_of_lt_of_le hil ok.np
            obtain ⟨l, hl, hc⟩ := locS i _ (List.getElem?_eq_getElem hin)
            have hz : ((names.take fn.np).zip vs)[i]? = some (names[i], v) := by
              rw [List.getElem?_zip_eq_some]
              exact ⟨by rw [List.getElem?_take]; simp [hil, hin], hv⟩
            refine ⟨l, hl, ?_⟩
            rcases hc with ⟨hk, rfl⟩ | ⟨hk, c, hc, rfl⟩
            · exact ⟨_, IC.toInCall.ns, bindL_get _ _ i _ v nb hz hk⟩
            · have := IC.cell _ c hc
              rw [bindC_get _ _ i _ v nb hz (by rw [hk]; intro z; cases z)] at this
              exact this
          have I₁ : Inv B y own₀ Z s₁.heap (args ++ List.replicate (fn.nv - fn.np) .no) := by
            refine ⟨⟨fun i j l k hl hk hne hq => ?_, fun i l hl f => ?_, fun f => ?_, fun i c hl q => ?_⟩, fun b o e => kp b o (G.base b o e), G.zb, fun b z => ?_, fun i l hl z => ?_, fun i l hl => ?_, fun z => ?_, ?_, G.zF, fun b q => G.oF b (clean_ne q), fun b z => ?_, fun b q => ?_, fun b f => ?_, fun i l hl => ?_, ⟨_, IC.toInCall.ns⟩, fun i sl e n => ?_⟩
            · obtain ⟨x, hx, h1⟩ := fnLoc_some hl
              obtain ⟨z, hz, h2⟩ := fnLoc_some hk
              have hxz : x ≠ z := fun q => hne (by
                exact (nodup_get ok.nd (List.getElem?_eq_some_iff.mp hx).1 (by rw [hx, hz, q])))
              rcases h1 with ⟨_, rfl⟩ | ⟨_, c, hc, rfl⟩ <;> rcases h2 with ⟨_, rfl⟩ | ⟨_, c', hc', rfl⟩
              · exact ⟨_, x, z, rfl, rfl, hxz⟩
              · have := IC.above z c' (mem_of_lookup hc')
                have q : env.locals = c' := hq
                exact (nlt this (Nat.le_of_eq q.symm)).elim
              · have := IC.above x c (mem_of_lookup hc)
                have q : c = env.locals := hq
                exact (nlt this (Nat.le_of_eq q)).elim
              · have q : c = c' := hq
                subst q
                exact absurd (name_of_addr IC.apart (mem_of_lookup hc) (mem_of_lookup hc')) hxz
            · obtain ⟨o, e, _⟩ := G.flv _ f; exact nlt (up _ ⟨o, e⟩) (lg i l hl)
            · obtain ⟨o, e, _⟩ := G.flv _ f; exact Nat.lt_irrefl _ (up _ ⟨o, e⟩)
            · obtain ⟨x, hx, ⟨_, q'⟩ | ⟨_, c', hc, q'⟩⟩ := fnLoc_some hl
              · cases q'
              · cases q'
                have := IC.above x c (mem_of_lookup hc)
                have q : c = env.locals := q
                exact nlt this (Nat.le_of_eq q)
            · cases q : clean own pin b with
              | none => exact q
              | some k => exact absurd (clean_some q).1 (by rw [G.zo b z]; intro z; cases z)
            · exact nlt (up _ (G.zlv _ z)) (lg i l hl)
            · cases q : own₀ l.addr with
              | none => rfl
              | some k => exact (nlt (up _ (G.olv _ (by rw [(clean_some q).1]; exact fun z => by cases z))) (lg i l hl)).elim
            · exact Nat.lt_irrefl _ (up _ (G.zlv _ z))
            · show own₀ env.locals = none
              cases q : own₀ env.locals with
              | none => rfl
              | some k => exact absurd (up _ (G.olv _ (by rw [(clean_some q).1]; exact fun z => by cases z))) (Nat.lt_irrefl _)
            · obtain ⟨o, e⟩ := G.zlv b z; exact ⟨o, kp b o e⟩
            · obtain ⟨o, e⟩ := G.olv b (clean_ne q); exact ⟨o, kp b o e⟩
            · obtain ⟨o, e, nr⟩ := G.flv b f; exact ⟨o, kp b o e, nr⟩
            · obtain ⟨x, hx, ⟨_, rfl⟩ | ⟨_, c, hc, rfl⟩⟩ := fnLoc_some hl
              · exact ⟨_, IC.toInCall.ns⟩
              · exact ⟨_, IC.cell x c hc⟩
            · rw [List.getElem?_append] at e
              split at e
              · rename_i hlt
                have hv : i < vs.length := by rw [← SA.1]; exact hlt
                obtain ⟨_, sv⟩ := SA.2 i sl vs[i] e (List.getElem?_eq_getElem hv)
                obtain ⟨l, hl, hr⟩ := argRd i _ (List.getElem?_eq_getElem hv)
                refine ⟨l, _, hl, hr, ?_⟩
                cases sl with
                | no => exact absurd rfl n
                | fz dd => exact Rep.mono (fun b o _ => kp b o) (fun _ z => z) sv
                | own dd =>
                  obtain ⟨b, hb, ob, W⟩ := sv
                  refine ⟨b, hb, ?_, W.mono (fun b o _ => kp b o) (fun _ z => z) fun o => kp b o⟩
                  show clean own pin b = some i
                  have ob' : own b = some i := ob
                  have hp : i ∈ pin := by have := pins_mem (k := 0) e rfl; rwa [Nat.zero_add] at this
                  unfold clean; rw [ob']; dsimp only; rw [if_pos hp]
                | inst _ _ => exact sv.elim
                | exc _ => exact SlotV.mono (sl := .exc _) (O := fun _ => False) (fun b o _ => kp b o) (fun _ z => z) (fun _ f => f.elim) (fun _ _ f => f.elim) sv
              · rw [List.getElem?_replicate] at e
                split at e
                · cases e; exact absurd rfl n
                · cases e
          -- back
          have back : ∀ (own' : Addr → Option Nat) (Z' : Addr → Prop) (fr' : Frame) (s' : Shared), Inv B y own' Z' s'.heap fr' → Step y bv own₀ Z s₁ own' Z' s' → Gh B F own' Z' s'.heap ∧ GStep F own Z s own' Z' s' ∧ OutsAt own' Z' s'.heap 0 args vs (outsOf args fr') := fun own' Z' fr' s' I' S' => by
            have nwr : ∀ b o, s.heap.get? b = some o → own b = none → ¬ y.wr own₀ b := fun b o e q w => by
              rcases w with w | w | ⟨i, l, hl, w⟩
              · exact clean_ne w q
              · exact nlt (up b ⟨o, e⟩) (Nat.le_of_eq (Eq.symm w))
              · exact nlt (up b ⟨o, e⟩) (w ▸ lg i l hl)
            obtain ⟨h1, tk1, e1⟩ := IC.toInCall.same
            refine ⟨⟨I'.base, I'.zb, I'.zo, I'.zF, I'.oF, I'.zlv, I'.olv, I'.flv⟩, ⟨?_, ⟨fun b o e nw nf => ?_, fun b o e => S'.ext.live b o (kp b o e), fun b o f e => S'.ext.fram b o f (kp b o e)⟩, S'.zm, fun b z => ?_, fun b i q => ?_⟩, outs_at fun j sl o v ej hl ev ef n => ?_⟩
            · obtain ⟨h2, tk2, e2⟩ := S'.sh; exact ⟨h2, tk2, by rw [e2, e1]⟩
            · refine S'.ext.keep b o (kp b o e) (nwr b o e ?_) nf
              cases q : own b with
              | none => rfl
              | some z => exact absurd (by rw [q]; exact fun z => by cases z) nw
            · rcases S'.zn b z with z | z | z
              · exact .inl z
              · exact .inr (.inl (clean_ne z))
              · refine .inr (.inr ?_)
                cases q : s.heap.get? b with
                | none => rfl
                | some o => rw [kp b o q] at z; cases z
            · rcases S'.on b i q with q | q
              · exact .inl (clean_some q).1
              · refine .inr ?_
                cases z : s.heap.get? b with
                | none => rfl
                | some o => rw [kp b o z] at q; cases q
            · obtain ⟨l, hl', hr⟩ := argRd j v ev
              have hp : j ∈ pin := by have := pins_mem (k := 0) ej hl; rwa [Nat.zero_add] at this
              have hr' := S'.bind j l v (fun q => by have := (List.mem_filter.mp q).2; simp [hp] at this) hl' hr
              obtain ⟨l2, v2, hl2, hr2, sv⟩ := I'.at' j o ef n
              rw [hl'] at hl2; cases hl2
              obtain rfl := hr'.det hr2
              rw [Nat.zero_add]; exact sv
          have fresh : ∀ b, s₁.heap.get? b = none → s.heap.get? b = none := fun b e0 => by
            cases z : s.heap.get? b with
            | none => rfl
            | some o => rw [kp b o z] at e0; cases e0
          have unown : ∀ (own' : Addr → Option Nat) b, ¬ y.wr own' b → own' b = none := fun own' b nw => by
            cases q : own' b with
            | none => rfl
            | some z => exact absurd (.inl (by rw [q]; exact fun z => by cases z)) nw
          -- the run
          have run := fun out h => ss_all (Z₀ := Z) (s₀ := s₁) ok.body _ _ Rn' fnok own₀ Z s₁ _ out h I₁ .refl
          split at h
          · cases h
          · rename_i e fr' hex
            cases h
            refine wpAny_mono (run _ hex) (fun fl s' p => ?_) fun e s' p => ?_
            · obtain ⟨_, _, _, q, _⟩ := p; cases q
            obtain ⟨nm, a, own', Z', q, rfl, I', S', X⟩ := p
            cases q
            dsimp only at I'
            obtain ⟨outer, hfr⟩ := fnok.top
            obtain ⟨l, hl', FF, hfs⟩ := frames_fun I' en.stk
            rw [hfr] at hl'; cases hl'
            unfold leaving
            refine wpAny_bind (leave_exc hfr FF en.frame X (fun b e => ⟨S'.old b e, I'.fresh e⟩) fun h₂ lv X₂ => ?_)
            have I₂ : Inv B y own' Z' h₂ fr' := I'.lv lv (fun b p => p.2) hfs
            have S₂ : Step y bv own₀ Z s₁ own' Z' { s' with heap := h₂ } := S'.lv I' lv (fun b p => p) hfs
            obtain ⟨g, gs, os⟩ := back own' Z' fr' { s' with heap := h₂ } I₂ S₂
            exact ⟨own', Z', g, gs, os, .inr ⟨_, a, rfl, rfl, X₂.is.mono fun b _ _ h => ⟨fresh b h.1, unown own' b h.2.1, h.2.2.1, h.2.2.2⟩⟩⟩
          · rename_i fr' hex
            cases h
            refine wpAny_mono (run _ hex) (fun fl s' p => ?_) fun _ _ x => x.elim
            obtain ⟨k', own', Z', q, I', S', r⟩ := p
            cases q
            obtain ⟨g, gs, os⟩ := back own' Z' _ _ I' S'
            cases r
            exact ⟨own', Z', g, gs, os, .inl ⟨_, _, rfl, rfl, .none⟩⟩
          · rename_i rv fr' hex
            cases h
            refine wpAny_mono (run _ hex) (fun fl s' p => ?_) fun _ _ x => x.elim
            obtain ⟨k', own', Z', q, I', S', r⟩ := p
            cases q
            obtain ⟨g, gs, os⟩ := back own' Z' _ _ I' S'
            obtain ⟨v, rfl, r, dd, hdd⟩ := r
            refine ⟨own', Z', g, gs, os, .inl ⟨_, v, rfl, rfl, ?_⟩⟩
            cases rv with
            | fz d => exact r
            | own d =>
              obtain ⟨b, rfl, e0, nw, nf, nz, W⟩ := r
              exact ⟨b, rfl, fresh b e0, unown own' b nw, nf, nz, W⟩
            | pl p => cases hdd
      · cases h
end Mv

end

section
set_option maxRecDepth 100000
set_option linter.unusedSectionVars false
set_option linter.unusedVariables false
namespace Mv
open PySem PyProof.Rows

noncomputable def isGB (sc : Sc) (x : Str) : Bool := decide (sc.names.lookup x = some .globalImplicit) && !(x == ("__debug__" : Str))
noncomputable def isVB (sc : Sc) (x : Str) (i : Nat) : Bool := decide (sc.vars.lookup x = some i) && !(x == ("__debug__" : Str))
theorem isGB_ok {sc : Sc} {x : Str} (h : isGB sc x = true) : sc.isG x := by
  simp only [isGB, Bool.and_eq_true, decide_eq_true_eq, Bool.not_eq_true'] at h; exact h
theorem isVB_ok {sc : Sc} {x : Str} {i : Nat} (h : isVB sc x i = true) : sc.isV x i := by
  simp only [isVB, Bool.and_eq_true, decide_eq_true_eq, Bool.not_eq_true'] at h; exact h
noncomputable def constB : Const → D → Bool
  | .none, .none => true
  | .bool a, .bool b => a == b
  | .int a, .int b => a == b
  | .str a, .str b => decide (a = b) && PyData.strOk a && decide (a.cps.size ≤ Sz)
  | _, _ => false
theorem constB_ok {k : Const} {d : D} (h : constB k d = true) : ConstIs k d := by
  unfold constB at h
  split at h
  · exact .none
  · simp only [beq_iff_eq] at h; subst h; exact .bool _
  · simp only [beq_iff_eq] at h; subst h; exact .int _
  · simp only [Bool.and_eq_true, decide_eq_true_eq] at h; obtain ⟨⟨rfl, h1⟩, h2⟩ := h; exact .str _ h1 h2
  · cases h
noncomputable def apartB (x : Ex) (bv : List Nat) : Bool := (plX x).all fun i => !bv.contains i
theorem apartB_ok {x : Ex} {bv : List Nat} (h : apartB x bv = true) : Apart x bv := fun i hi hb => by
  simp only [apartB, List.all_eq_true] at h
  have := h i hi
  simp [hb] at this
noncomputable def compB_ (scope : Scope) (sc : Sc) (v : Str) : Bool :=
  decide (scope.kind = .function) && (scope.names.all fun x => decide (x.2 = .local → scope.names.lookup x.1 = some .local)) && (scope.names.all fun x => decide (x.2 ≠ .cell)) && decide (scope.names.lookup v = some .local) &&
  (scope.names.all fun x => decide (x.2 = .free → scope.names.lookup x.1 = some .free ∧ (x.1 == ("__classdict__" : Str)) = false ∧ (sc.vars.lookup x.1).isSome = true ∧ (sc.names.lookup x.1 = some .cell ∨ sc.names.lookup x.1 = some .free))) &&
  decide (((scope.names.filter fun x => x.2 == .free).map (·.1)).Nodup)
theorem compB__ok {scope : Scope} {sc : Sc} {v : Str} (h : compB_ scope sc v = true) : CompOk scope sc v := by
  simp only [compB_, Bool.and_eq_true, decide_eq_true_eq, List.all_eq_true] at h
  obtain ⟨⟨⟨⟨⟨h1, h2⟩, h3⟩, h4⟩, h5⟩, h6⟩ := h
  exact ⟨h1, h2, h3, h4, fun x hx hf => let ⟨a, b, c, d⟩ := h5 x hx hf; ⟨a, b, Option.isSome_iff_exists.mp c, d⟩, h6⟩

structure Ck (p : Prop) where
  val : Bool
  ok : val = true → p
namespace Ck
variable {p q : Prop}
noncomputable def no : Ck p := ⟨false, fun h => nomatch h⟩
noncomputable def dec (p : Prop) [Decidable p] : Ck p := ⟨decide p, of_decide_eq_true⟩
noncomputable def ofB {b : Bool} (h : b = true → p) : Ck p := ⟨b, h⟩
theorem and_ok {a b : Bool} (h : (a && b) = true) : a = true ∧ b = true := by cases a <;> cases b <;> first | exact ⟨rfl, rfl⟩ | cases h
noncomputable def and (a : Ck p) (b : Ck q) : Ck (p ∧ q) := ⟨a.val && b.val, fun h => ⟨a.ok (and_ok h).1, b.ok (and_ok h).2⟩⟩
noncomputable def map (a : Ck p) (f : p → q) : Ck q := ⟨a.val, fun h => f (a.ok h)⟩
end Ck

noncomputable def ckV (sc : Sc) (x : Str) (i : Nat) : Ck (sc.isV x i) := .ofB isVB_ok
noncomputable def ckG (sc : Sc) (x : Str) : Ck (sc.isG x) := .ofB isGB_ok
noncomputable def ckA (x : Ex) (bv : List Nat) : Ck (Apart x bv) := .ofB apartB_ok
noncomputable def ckN (i : Nat) (l : List Nat) : Ck (i ∉ l) := .dec _
section
variable {tb : Tb} {sc : Sc}
theorem k_op2 {a b : Expr} {op : Operator} {pos : Pos} {o : Op2} {x y : Ex} (h : op = opOf o ∧ CE tb sc a x ∧ CE tb sc b y ∧ Apart x (bvE y)) : CE tb sc (.BinOp a op b pos) (.op2 o x y) := by
  obtain ⟨rfl, a, b, c⟩ := h; exact .op2 a b c
theorem k_cmp {a b : Expr} {op : CmpOp} {pos : Pos} {o : Cm} {x y : Ex} (h : op = cmOp o ∧ CE tb sc a x ∧ CE tb sc b y ∧ Apart x (bvE y)) : CE tb sc (.Compare a [op] [b] pos) (.cmp o x y) := by
  obtain ⟨rfl, a, b, c⟩ := h; exact .cmp a b c
theorem k_cmp2 {a b e : Expr} {op op' : CmpOp} {pos : Pos} {o p : Cm} {x y z : Ex} (h : (op = cmOp o ∧ op' = cmOp p) ∧ CE tb sc a x ∧ CE tb sc b y ∧ CE tb sc e z) : CE tb sc (.Compare a [op, op'] [b, e] pos) (.cmp2 o p x y z) := by
  obtain ⟨⟨rfl, rfl⟩, a, b, c⟩ := h; exact .cmp2 a b c
noncomputable def fnIs (tb : Tb) (f : Nat) (v : Str) : Bool := match tb.fn[f]? with
  | some d => decide (d.name = v)
  | none => false
theorem fnIs_ok {f : Nat} {v : Str} (h : fnIs tb f v = true) : ∃ d, tb.fn[f]? = some d ∧ d.name = v := by
  unfold fnIs at h
  cases q : tb.fn[f]? with
  | none => rw [q] at h; cases h
  | some d => rw [q] at h; exact ⟨d, rfl, of_decide_eq_true h⟩
theorem k_call {f : Nat} {v : Str} {p pos : Pos} {args : List Expr} {xs : List Ex} (h : (∃ d, tb.fn[f]? = some d ∧ d.name = v) ∧ sc.isG v ∧ CEs tb sc args xs ∧ args.length ≤ 29) : CE tb sc (.Call (.Name v p) args [] pos) (.call f xs) := by
  obtain ⟨⟨d, hd, rfl⟩, a, b, c⟩ := h; exact .call hd a b c
theorem k_bi1 {b : Bi} {v : Str} {p pos : Pos} {a : Expr} {x : Ex} (h : b.one = true ∧ v = biName b ∧ sc.isG v ∧ CE tb sc a x) : CE tb sc (.Call (.Name v p) [a] [] pos) (.bi b [x]) := by
  obtain ⟨a, rfl, b, c⟩ := h; exact .bi1 a b c
theorem k_isi {t : Ty} {v u : Str} {p p' pos : Pos} {a : Expr} {x : Ex} (h : v = ("isinstance" : Str) ∧ u = (tyName t : Str) ∧ sc.isG v ∧ sc.isG u ∧ CE tb sc a x) : CE tb sc (.Call (.Name v p) [a, .Name u p'] [] pos) (.bi (.isi t) [x]) := by
  obtain ⟨rfl, rfl, a, b, c⟩ := h; exact .isi a b c
theorem k_isx {v x cn : Str} {p p1 p2 pos : Pos} {i : Nat} {yes no : List Str} (h : v = ("isinstance" : Str) ∧ sc.isG v ∧ sc.isV x i ∧ sc.isG cn ∧ tb.sub.lookup cn = some (yes, no)) : CE tb sc (.Call (.Name v p) [.Name x p1, .Name cn p2] [] pos) (.isx i yes no) := by
  obtain ⟨rfl, a, b, c, d⟩ := h; exact .isx a b c d
noncomputable def nsOf : List Expr → Option (List Str)
  | [] => some []
  | .Name x _ :: es => (nsOf es).map (x :: ·)
  | _ => none
noncomputable def ckNS (sc : Sc) : (es : List Expr) → (xs : List Str) → Ck (NS sc es xs)
  | [], [] => ⟨true, fun _ => .nil⟩
  | .Name x _ :: es, x' :: xs => ((Ck.dec (x = x')).and ((ckG sc x).and (ckNS sc es xs))).map fun h => h.1 ▸ .cons h.2.1 h.2.2
  | _, _ => .no
noncomputable def ckKS : (es : List (Option Expr)) → (xs : List Str) → Ck (KS es xs)
  | [], [] => ⟨true, fun _ => .nil⟩
  | some (.Constant (.str k) _ _) :: es, k' :: ks => ((Ck.dec (k = k')).and (ckKS es ks)).map fun h => h.1 ▸ .cons h.2
  | _, _ => .no
theorem k_isxt {v x : Str} {cs : List Str} {es : List Expr} {p p1 p2 pos : Pos} {k i : Nat} {yes no : List Str} (h : v = ("isinstance" : Str) ∧ sc.isG v ∧ sc.isV x i ∧ NS sc es cs ∧ cs.length ≤ 1000 ∧ tb.sbt.lookup cs = some (yes, no)) : CE tb sc (.Call (.Name v p) [.Name x p1, .Tuple es k p2] [] pos) (.isx i yes no) := by
  obtain ⟨rfl, a, b, c, d, e⟩ := h; exact .isxt a b c d e
noncomputable def Ck.or {p : Prop} (a b : Ck p) : Ck p := ⟨a.val || b.val, fun h => (Bool.or_eq_true_iff.mp h).elim a.ok b.ok⟩
theorem k_range {v : Str} {p pos : Pos} {e : Expr} {x : Ex} (h : v = ("range" : Str) ∧ sc.isG v ∧ CE tb sc e x) : IT tb sc (.Call (.Name v p) [e] [] pos) .range [x] := by
  obtain ⟨rfl, a, b⟩ := h; exact .range a b
end

mutual
noncomputable def chkE (tb : Tb) : Nat → (sc : Sc) → (x : Ex) → (e : Expr) → Ck (CE tb sc e x)
  | 0, _, _, _ => .no
  | n + 1, sc, x, e => match x with
    | .lit d => (match e with
      | .Constant k _ _ => .ofB fun h => .lit (constB_ok (k := k) (d := d) h)
      | _ => .no)
    | .var i => (match e with
      | .Name v _ => (ckV sc v i).map .var
      | _ => .no)
    | .pl (.var i) => (match e with
      | .Name v _ => (ckV sc v i).map .pl
      | _ => .no)
    | .gl k => (match e with
      | .Name v _ => ((ckG sc v).and (.dec (tb.gl[k]? = some v))).map fun h => .gl h.1 h.2
      | _ => .no)
    | .tup xs => (match e with
      | .Tuple es _ _ => ((chkEs tb n sc xs es).and (.dec (xs.length ≤ 1000))).map fun h => .tup h.1 h.2
      | _ => .no)
    | .list xs => (match e with
      | .List es _ => ((chkEs tb n sc xs es).and (.dec (xs.length ≤ 1000))).map fun h => .list h.1 h.2
      | _ => .no)
    | .op2 o a b => (match e with
      | .BinOp ea op eb _ => ((Ck.dec (op = opOf o)).and ((chkE tb n sc a ea).and ((chkE tb n sc b eb).and (ckA a (bvE b))))).map k_op2
      | _ => .no)
    | .neg a => (match e with
      | .UnaryOp .USub ea _ => (chkE tb n sc a ea).map .neg
      | _ => .no)
    | .not a => (match e with
      | .UnaryOp .Not ea _ => (chkE tb n sc a ea).map .not
      | _ => .no)
    | .cmp o a b => (match e with
      | .Compare ea [op] [eb] _ => ((Ck.dec (op = cmOp o)).and ((chkE tb n sc a ea).and ((chkE tb n sc b eb).and (ckA a (bvE b))))).map k_cmp
      | _ => .no)
    | .cmp2 o p a b u => (match e with
      | .Compare ea [op, op'] [eb, eu] _ => ((Ck.dec (op = cmOp o ∧ op' = cmOp p)).and ((chkE tb n sc a ea).and ((chkE tb n sc b eb).and (chkE tb n sc u eu)))).map k_cmp2
      | _ => .no)
    | .and xs => (match e with
      | .BoolOp .And es _ => (chkEs tb n sc xs es).map .and
      | _ => .no)
    | .or xs => (match e with
      | .BoolOp .Or es _ => (chkEs tb n sc xs es).map .or
      | _ => .no)
    | .ite t a b => (match e with
      | .IfExp et ea eb _ => ((chkE tb n sc t et).and ((chkE tb n sc a ea).and (chkE tb n sc b eb))).map fun h => .ite h.1 h.2.1 h.2.2
      | _ => .no)
    | .idx a i => (match e with
      | .Subscript ea ei _ => ((chkE tb n sc a ea).and ((chkE tb n sc i ei).and (ckA a (bvE i)))).map fun h => .idx h.1 h.2.1 h.2.2
      | _ => .no)
    | .slc a l h => (match e with
      | .Subscript ea (.Slice lo hi none _) _ => ((chkE tb n sc a ea).and ((chkO tb n sc l lo).and ((chkO tb n sc h hi).and (ckA a (bvE l ++ bvE h))))).map fun h => .slc h.1 h.2.1 h.2.2.1 h.2.2.2
      | _ => .no)
    | .call f xs => (match e with
      | .Call (.Name v _) es [] _ => ((Ck.ofB fnIs_ok).and ((ckG sc v).and ((chkEs tb n sc xs es).and (.dec (es.length ≤ 29))))).map k_call
      | _ => .no)
    | .bi b [a] => (match e with
      | .Call (.Name v _) [ea] [] _ => ((Ck.dec (b.one = true)).and ((Ck.dec (v = biName b)).and ((ckG sc v).and (chkE tb n sc a ea)))).map k_bi1
      | .Call (.Name v _) [ea, .Name u _] [] _ => (match b with
        | .isi t => ((Ck.dec (v = ("isinstance" : Str))).and ((Ck.dec (u = (tyName t : Str))).and ((ckG sc v).and ((ckG sc u).and (chkE tb n sc a ea))))).map k_isi
        | _ => .no)
      | _ => .no)
    | .comp elt (.one i) it src conds => (match e with
      | .ListComp ee [⟨.Name v _, iter, ifs, 0⟩] scope _ => ((chkI tb n sc it src iter).and ((Ck.ofB (compB__ok (scope := scope) (sc := sc) (v := v))).and ((Ck.dec (sc.hi ≤ i)).and ((chkE tb n (compSc scope sc v i) elt ee).and ((chkEs tb n (compSc scope sc v i) conds ifs).and ((ckN i (bvE elt)).and (ckN i (bvEs conds)))))))).map fun ⟨h1, h2, h3, h4, h5, h6, h7⟩ => .comp h1 h2 h3 h4 h5 h6 h7
      | _ => .no)
    | .isx i yes no => (match e with
      | .Call (.Name v _) [.Name x _, .Name cn _] [] _ => ((Ck.dec (v = ("isinstance" : Str))).and ((ckG sc v).and ((ckV sc x i).and ((ckG sc cn).and (.dec (tb.sub.lookup cn = some (yes, no))))))).map k_isx
      | .Call (.Name v _) [.Name x _, .Tuple es _ _] [] _ => (match nsOf es with
        | none => .no
        | some cs => ((Ck.dec (v = ("isinstance" : Str))).and ((ckG sc v).and ((ckV sc x i).and ((ckNS sc es cs).and (.dec (cs.length ≤ 1000 ∧ tb.sbt.lookup cs = some (yes, no))))))).map k_isxt)
      | _ => .no)
    | .dsel ks xs i => (match e with
      | .Subscript (.Dict kes vals _) (.Name x _) _ => ((ckKS kes ks).and ((chkEs tb n sc xs vals).and ((ckV sc x i).and (.dec (ks.Nodup ∧ ks.length = xs.length ∧ ks ≠ [] ∧ ks.length ≤ 15))))).map fun h => .dsel h.1 h.2.1 h.2.2.1 h.2.2.2.1 h.2.2.2.2.1 h.2.2.2.2.2
      | _ => .no)
    | _ => .no
noncomputable def chkEs (tb : Tb) : Nat → (sc : Sc) → (xs : List Ex) → (es : List Expr) → Ck (CEs tb sc es xs)
  | 0, _, _, _ => .no
  | n + 1, sc, xs, es => match xs with
    | [] => (match es with
      | [] => ⟨true, fun _ => .nil⟩
      | _ :: _ => .no)
    | x :: xs => (match es with
      | [] => .no
      | e :: es => ((chkE tb n sc x e).and ((chkEs tb n sc xs es).and (ckA x (bvEs xs)))).map fun h => .cons h.1 h.2.1 h.2.2)
noncomputable def chkO (tb : Tb) : Nat → (sc : Sc) → (x : Ex) → (o : Option Expr) → Ck (CEo tb sc o x)
  | 0, _, _, _ => .no
  | n + 1, sc, x, o => match o with
    | some e => (chkE tb n sc x e).map .some
    | none => (match x with
      | .lit .none => ⟨true, fun _ => .none⟩
      | _ => .no)
noncomputable def chkI (tb : Tb) : Nat → (sc : Sc) → (it : Itk) → (src : List Ex) → (e : Expr) → Ck (IT tb sc e it src)
  | 0, _, _, _, _ => .no
  | n + 1, sc, it, src, e => match src with
    | [x] => (match it with
      | .seq => (chkE tb n sc x e).map .seq
      | .range => (match e with
        | .Call (.Name v _) [e] [] _ => ((Ck.dec (v = ("range" : Str))).and ((ckG sc v).and (chkE tb n sc x e))).map k_range
        | _ => .no)
      | _ => .no)
    | _ => .no
end

noncomputable def ckTs (sc : Sc) : (es : List Expr) → (is : List Nat) → Ck (TGs sc es is)
  | [], [] => ⟨true, fun _ => .nil⟩
  | .Name x _ :: es, i :: is => ((ckV sc x i).and (ckTs sc es is)).map fun h => .cons h.1 h.2
  | _, _ => .no
noncomputable def ckT (sc : Sc) (g : Expr) (t : Tgt) : Ck (TG sc g t) := match t with
  | .one i => (match g with
    | .Name x _ => (ckV sc x i).map .one
    | _ => .no)
  | .tup is => (match g with
    | .Tuple es _ _ => (ckTs sc es is).map .tup
    | _ => .no)
theorem k_raise {tb : Tb} {sc : Sc} {k k' msg : Str} {np cpos pos ap : Pos} {kk : Nat} (h : (k' = k ∧ k' ∈ tb.cl) ∧ sc.isG k') : CS tb sc (.Raise (some (.Call (.Name k' np) [.Constant (.str msg) kk ap] [] cpos)) none pos) (.raise k) := by
  obtain ⟨⟨rfl, a⟩, b⟩ := h; exact .raise b a
theorem sub_yes {tb : Tb} {cn : Str} {yes : List Str} (h : ((tb.sub.lookup cn).map (·.1) == some yes) = true) : ∃ no, tb.sub.lookup cn = some (yes, no) := by
  cases q : tb.sub.lookup cn with
  | none => rw [q] at h; cases h
  | some p => rw [q] at h; obtain ⟨a, b⟩ := p; simp at h; subst h; exact ⟨b, rfl⟩
mutual
noncomputable def chkS (tb : Tb) (sc : Sc) : Nat → (z : St) → (s : Stmt) → Ck (CS tb sc s z)
  | 0, _, _ => .no
  | n + 1, z, s => match z with
    | .asg (.one i) e => (match s with
      | .Assign [.Name x _] value _ => ((ckV sc x i).and (chkE tb n sc e value)).map fun h => .asg h.1 h.2
      | _ => .no)
    | .exp e => (match s with
      | .Expr v _ => ((chkE tb n sc e v).and (.dec (noComp v = true))).map fun h => .exp h.1 h.2
      | .Pass _ => (match e with
        | .lit .none => ⟨true, fun _ => .pass⟩
        | _ => .no)
      | _ => .no)
    | .iff t a b => (match s with
      | .If et sa sb _ => ((chkE tb n sc t et).and ((chkSs tb sc n a sa).and (chkSs tb sc n b sb))).map fun h => .iff h.1 h.2.1 h.2.2
      | _ => .no)
    | .ret e => (match s with
      | .Return (some v) _ => (chkE tb n sc e v).map .ret
      | .Return none _ => (match e with
        | .lit .none => ⟨true, fun _ => .retN⟩
        | _ => .no)
      | _ => .no)
    | .for_ t it src body tmp => (match s with
      | .For g iter sb [] _ => ((ckT sc g t).and ((chkI tb n sc it src iter).and (chkSs tb sc n body sb))).map fun h => .for1 h.1 h.2.1 h.2.2
      | _ => .no)
    | .raise k => (match s with
      | .Raise (some (.Call (.Name k' _) [.Constant (.str _) _ _] [] _)) none _ => ((Ck.dec (k' = k ∧ k' ∈ tb.cl)).and (ckG sc k')).map k_raise
      | _ => .no)
    | .try_ xb yes i xh => (match s with
      | .Try body [.ExceptHandler (some (.Name cn _)) (some x) (h0 :: hs) _] [] [] _ => ((ckV sc x i).and ((Ck.dec (sc.names.lookup x = some .local)).and ((ckG sc cn).and ((Ck.ofB (sub_yes (tb := tb) (cn := cn) (yes := yes))).and ((chkSs tb sc n xb body).and (chkSs tb sc n xh (h0 :: hs))))))).map fun ⟨h1, h2, h3, ⟨_, h4⟩, h5, h6⟩ => .try1 h1 h2 h3 h4 h5 h6
      | _ => .no)
    | _ => .no
noncomputable def chkSs (tb : Tb) (sc : Sc) : Nat → (zs : List St) → (ss : List Stmt) → Ck (CSs tb sc ss zs)
  | 0, _, _ => .no
  | n + 1, zs, ss => match zs with
    | [] => (match ss with
      | [] => ⟨true, fun _ => .nil⟩
      | _ :: _ => .no)
    | z :: zs => (match ss with
      | [] => .no
      | s :: ss => ((chkS tb sc n z s).and (chkSs tb sc n zs ss)).map fun h => .cons h.1 h.2)
end
end Mv

end

section
set_option maxRecDepth 100000
set_option linter.unusedSectionVars false
set_option linter.unusedVariables false
namespace Mv
open PySem PyProof.Rows

theorem zip_lookup : ∀ {ns : List Str} {vs : List Value}, ns.length = vs.length → ∀ x ∈ ns, ((ns.zip vs).lookup x).isNone = false
  | [], _, _, x, h => by cases h
  | n :: ns, [], h, _, _ => by simp at h
  | n :: ns, v :: vs, h, x, hx => by
    rw [List.zip_cons_cons, List.lookup_cons]
    cases q : x == n with
    | true => rfl
    | false =>
      rcases List.mem_cons.mp hx with rfl | hx
      · simp at q
      · exact zip_lookup (by simpa using h) x hx
theorem lookup_skip {n : Str} {v : Value} {l : List (Str × Value)} {x : Str} (h : x ≠ n) : ((n, v) :: l).lookup x = l.lookup x := by
  rw [List.lookup_cons]
  have : (x == n) = false := by simpa using h
  rw [this]
theorem zip_map : ∀ {ns : List Str} {vs : List Value}, ns.length = vs.length → ns.Nodup → (ns.filterMap fun n => ((ns.zip vs).lookup n).map (n, ·)) = ns.zip vs
  | [], _, _, _ => rfl
  | n :: ns, [], h, _ => by simp at h
  | n :: ns, v :: vs, h, nd => by
    obtain ⟨h1, h2⟩ := List.nodup_cons.mp nd
    have e : (ns.filterMap fun x => (((n, v) :: ns.zip vs).lookup x).map (x, ·)) = ns.filterMap fun x => ((ns.zip vs).lookup x).map (x, ·) := by
      clear nd h2 h
      suffices H : ∀ l : List Str, (∀ x ∈ l, x ≠ n) → (l.filterMap fun x => (((n, v) :: ns.zip vs).lookup x).map (x, ·)) = l.filterMap fun x => ((ns.zip vs).lookup x).map (x, ·) from H ns fun x hx q => h1 (q ▸ hx)
      intro l
      induction l with
      | nil => intro _; rfl
      | cons a l ih =>
        intro hl
        rw [List.filterMap_cons, List.filterMap_cons, lookup_skip (hl a List.mem_cons_self), ih fun x hx => hl x (List.mem_cons_of_mem _ hx)]
    rw [List.zip_cons_cons, List.filterMap_cons]
    simp only [List.lookup_cons_self, Option.map_some]
    rw [e, zip_map (by simpa using h) h2]

theorem bind_plain {name : Str} {args : List Arg} {kd : List (Option Expr)} {df : List Expr} {body : List Stmt} {scope : Scope} {pm code doc : Value} {vs : List Value} (hl : (args.map (·.arg)).length = vs.length) (nd : (args.map (·.arg)).Nodup) :
    bindArgs (Calls.docDef name ⟨[], args, none, [], kd, none, df⟩ body scope pm code doc) ⟨vs, []⟩ = pure ((args.map (·.arg)).zip vs) := by
  unfold bindArgs
  simp only [Calls.docDef, List.map_nil, List.nil_append, List.forIn_nil, seqItems?]
  simp only [Option.isSome_none, Option.isNone_none, Bool.and_true, hl, gt_iff_lt, Nat.lt_irrefl, decide_false, Bool.false_eq_true, if_false]
  have hm : (List.filter (fun n => (List.lookup n ((List.map (fun x => x.arg) args).zip vs)).isNone) (List.map (fun x => x.arg) args)) = [] := by
    rw [List.filter_eq_nil_iff]; intro x hx; rw [zip_lookup hl x hx]; simp
  change (if (!(List.filter (fun n => (List.lookup n ((List.map (fun x => x.arg) args).zip vs)).isNone) (List.take (vs.length - (List.drop (0 - vs.length) ([] : List Value)).length) (List.map (fun x => x.arg) args))).isEmpty) = true then _ else _) = _
  rw [List.drop_nil, List.length_nil, Nat.sub_zero, List.take_of_length_le (Nat.le_of_eq hl), hm, if_neg (by simp)]
  change (forIn ((List.drop (vs.length - (List.drop (0 - vs.length) ([] : List Value)).length) (List.map (fun x => x.arg) args)).zip (List.drop (0 - vs.length) ([] : List Value))) _ _ >>= _) = _
  rw [List.drop_nil, List.zip_nil_right, List.forIn_nil]
  change (pure _ : Sem (List (Str × Value))) = _
  rw [List.append_nil, zip_map hl nd]
end Mv

end

section
set_option maxRecDepth 100000
set_option linter.unusedSectionVars false
set_option linter.unusedVariables false
namespace Mv
open PySem PySem.W PyProof.Rows

noncomputable def fokB (tb : Tb) (d : DefRec) (fn : Fn) (names : List Str) : Bool :=
  decide names.Nodup && decide (fn.np ≤ names.length) && (names.all fun x => decide (d.scope.names.lookup x = some .local ∨ d.scope.names.lookup x = some .cell)) && (chkSs tb (scOf d names) 300 fn.body d.body).val &&
  !d.scope.isCoroutine && !d.scope.isGenerator && decide (d.scope.kind = .function) && (d.scope.names.all fun x => decide (x.2 ≠ .free)) && (match d.params with
    | ⟨[], args, none, [], _, none, _⟩ => decide (args.map (·.arg) = names.take fn.np)
    | _ => false)
theorem fokB_ok {tb : Tb} {d : DefRec} {fn : Fn} {names : List Str} (h : fokB tb d fn names = true) : FOk tb d fn names := by
  simp only [fokB, Bool.and_eq_true, decide_eq_true_eq, List.all_eq_true, Bool.not_eq_true'] at h
  obtain ⟨⟨⟨⟨⟨⟨⟨⟨h1, h2⟩, h3⟩, h4⟩, h5⟩, h6⟩, h7⟩, h8⟩, h9⟩ := h
  refine ⟨h1, h2, h3, fun vs hv pm code doc => ?_, (chkSs _ _ 300 _ _).ok h4, h5, h6, h7, h8⟩
  split at h9
  · rename_i args kd df hp
    simp only [decide_eq_true_eq] at h9
    rw [hp, ← h9]
    refine bind_plain ?_ ?_
    · rw [h9, List.length_take, hv]; omega
    · rw [h9]; exact h1.sublist (List.take_sublist _ _)
  · cases h9
noncomputable def fnsB (tb : Tb) : List DefRec → List Fn → List (List Str) → Bool
  | d :: ds, fn :: fns, ns :: nss => fokB tb d fn ns && fnsB tb ds fns nss
  | _, [], _ => true
  | _, _, _ => false
theorem fnsB_ok {tb : Tb} : ∀ {ds : List DefRec} {fns : List Fn} {nss : List (List Str)}, fnsB tb ds fns nss = true → ∀ (f : Nat) (fn : Fn) (d : DefRec), fns[f]? = some fn → ds[f]? = some d → ∃ names, FOk tb d fn names
  | d :: ds, fn :: fns, ns :: nss, h, 0, _, _, h1, h2 => by
    simp only [fnsB, Bool.and_eq_true] at h
    simp at h1 h2; subst h1; subst h2
    exact ⟨ns, fokB_ok h.1⟩
  | d :: ds, fn :: fns, ns :: nss, h, f + 1, _, _, h1, h2 => by
    simp only [fnsB, Bool.and_eq_true] at h
    exact fnsB_ok h.2 f _ _ (by simpa using h1) (by simpa using h2)
  | _, [], _, _, _, _, _, h1, _ => by simp at h1
  | [], _ :: _, _, h, _, _, _, _, _ => by simp [fnsB] at h
  | _ :: _, _ :: _, [], h, _, _, _, _, _ => by simp [fnsB] at h

noncomputable def freeB (p : Program) (loose : List Str) : Bool :=
  biNames.all fun x => !startupNames.contains x && !loose.contains x && !((recsOf p).map (·.name)).contains x && !((litsOf p).map (·.1)).contains x && !((clssOf p loose).map (·.name)).contains x

variable [hp : Hp]
section
variable {p : Program} {loose : List Str} {mean : ExcName → Option Value} {mg mb : Str → Option Value} {h : Heap}
theorem Gd.of_top {gl : List Str} {glob : List D} {cl : List Str} {sb : List (Str × List Str × List Str)} {sbt : List (List Str × List Str × List Str)} (T : Top p loose mean mg mb h) (hf : freeB p loose = true)
    (hcl : ∀ k ∈ cl, ∃ C Bb newId initId bm, OwnClsQ k C bm newId mg h ∧ ExcBaseFacts Bb newId initId bm)
    (hask : ∀ c yes no, sb.lookup c = some (yes, no) → ∃ V, (mg c = some V ∨ (mg c = none ∧ mb c = some V)) ∧ ∀ k C, mg k = some (.ref C) → (k ∈ yes → Asked h C V true) ∧ (k ∈ no → Asked h C V false))
    (haskT : ∀ cs yes no, sbt.lookup cs = some (yes, no) → ∃ Vs, LoadAs mg mb cs Vs ∧ ∀ k C, mg k = some (.ref C) → (k ∈ yes → AskedT h C Vs true) ∧ (k ∈ no → AskedT h C Vs false))
    (hgl : ∀ (k : Nat) (x : Str) (d : D), gl[k]? = some x → glob[k]? = some d → ∃ v, mg x = some v ∧ ∀ (h' : Heap) (Z : Addr → Prop), (∀ a o, h.get? a = some o → h'.get? a = some o) → (∀ a o, h.get? a = some o → Z a) → Rep h' Z v d) : Gd h mg mb glob ⟨recsOf p, gl, cl, sb, sbt⟩ where
  g := T.g
  b := T.b
  nl := T.nolimit
  bt := T.builtins
  fn := fun f d hd => T.fn d (List.mem_of_getElem? hd)
  gl := hgl
  bi := fun x hx => by
    simp only [freeB, List.all_eq_true, Bool.and_eq_true, Bool.not_eq_true', List.contains_eq_mem, decide_eq_false_iff_not] at hf
    obtain ⟨⟨⟨⟨h1, h2⟩, h3⟩, h4⟩, h5⟩ := hf x hx
    exact T.free x h1 h2 h3 h4 h5
  cl := hcl
  ask := hask
  askT := haskT
theorem const_int {x : Str} {i : Int} (T : Top p loose mean mg mb h) (hv : valOf p x = some (.int i)) : ∃ v, mg x = some v ∧ ∀ (h' : Heap) (Z : Addr → Prop), (∀ a o, h.get? a = some o → h'.get? a = some o) → (∀ a o, h.get? a = some o → Z a) → Rep h' Z v (.int i) := by
  obtain ⟨v, hm, hr⟩ := T.const x _ hv
  refine ⟨v, hm, fun h' Z _ _ => ?_⟩
  cases hr h with
  | int i t => exact .int i t
theorem loose_int {lv : List (Str × WData)} {x : Str} {i : Int} (V : LooseAre lv mg h) (hm : (x, WData.int i) ∈ lv) : ∃ v, mg x = some v ∧ ∀ (h' : Heap) (Z : Addr → Prop), (∀ a o, h.get? a = some o → h'.get? a = some o) → (∀ a o, h.get? a = some o → Z a) → Rep h' Z v (.int i) := by
  obtain ⟨v, hg, hr⟩ := V.val _ hm
  refine ⟨v, hg, fun h' Z _ _ => ?_⟩
  cases hr with
  | int i t => exact .int i t
end

theorem ints_rep {P : Params} {h : Heap} {Z : Addr → Prop} : ∀ {vs : List Value} {xs : List Int}, WellAll P h vs (ofPys (xs.map .int)) → RepAll h Z vs (xs.map .int)
  | vs, [], W => by cases W; exact .nil
  | vs, x :: xs, W => by
    cases W with
    | cons a b =>
      cases a with
      | int _ t => exact .cons (.int _ t) (ints_rep b)

theorem law_top {p : Program} {loose : List Str} {mean mean' : ExcName → Option Value} {mg mb : Str → Option Value} {s₁ : Shared} {P : Pr} {gl : List Str} {nss : List (List Str)} {f n : Nat} {d : DefRec} {fa l : Addr} {xs : List Int} {outs : List Slot} {cls : List Str} {sb : List (Str × List Str × List Str)} {sbt : List (List Str × List Str × List Str)}
    {c : ClaimW} {cl : Str → Option Addr} {args : List WData}
    (T : Top p loose mean mg mb s₁.heap) (hall : fnsB ⟨recsOf p, gl, cls, sb, sbt⟩ (recsOf p) P.fns nss = true) (hfree : freeB p loose = true)
    (hcl : ∀ k ∈ cls, ∃ C Bb newId initId bm, OwnClsQ k C bm newId mg s₁.heap ∧ ExcBaseFacts Bb newId initId bm)
    (hask : ∀ c yes no, sb.lookup c = some (yes, no) → ∃ V, (mg c = some V ∨ (mg c = none ∧ mb c = some V)) ∧ ∀ k C, mg k = some (.ref C) → (k ∈ yes → Asked s₁.heap C V true) ∧ (k ∈ no → Asked s₁.heap C V false))
    (haskT : ∀ cs yes no, sbt.lookup cs = some (yes, no) → ∃ Vs, LoadAs mg mb cs Vs ∧ ∀ k C, mg k = some (.ref C) → (k ∈ yes → AskedT s₁.heap C Vs true) ∧ (k ∈ no → AskedT s₁.heap C Vs false))
    (hgl : ∀ (k : Nat) (x : Str) (d : D), gl[k]? = some x → P.glob[k]? = some d → ∃ v, mg x = some v ∧ ∀ (h' : Heap) (Z : Addr → Prop), (∀ a o, s₁.heap.get? a = some o → h'.get? a = some o) → (∀ a o, s₁.heap.get? a = some o → Z a) → Rep h' Z v d)
    (hd : (recsOf p)[f]? = some d) (hfa : mg d.name = some (.ref fa)) (W : Well w.params s₁.heap (.ref l) (ofPy (.list (xs.map .int)))) (hlen : xs.length ≤ Sz) (hn : n ≤ 600) (hgen : s₁.gens = #[])
    (hr : ∀ cls, c.raises args cls = false) (hp : c.post args (.bool true) args = true)
    (h : callF P n false f [.fz (.list (xs.map .int))] = some (.ok (.fz (.bool true)), outs)) :
    codeAny (model prog w) callerA (.call (.ref fa) ⟨[.ref l], []⟩) (GoodWG c cl mean' args s₁) s₁ := by
  have gd : Gd s₁.heap mg mb P.glob ⟨recsOf p, gl, cls, sb, sbt⟩ := Gd.of_top T hfree hcl hask haskT hgl
  have cs := call_sound gd (fun f fn d h1 h2 => fnsB_ok hall f fn d h1 h2) n
  have hcm : claimMargin = 300 := by decide
  refine codeAny_mono (cs false f _ _ _ h d hd fa hfa callerA (fun _ => False) (fun _ => none) (fun a => ∃ o, s₁.heap.get? a = some o) s₁ [.ref l] ?_ ?_ (fun _ => rfl) ⟨[], rfl, fun _ h => by cases h⟩ ⟨fun _ _ e => e, fun a o e => ⟨o, e⟩, fun _ _ => rfl, fun _ _ f => f, fun _ _ f => f, fun _ z => z, fun _ z => absurd rfl z, fun _ f => f.elim⟩ ⟨rfl, fun k sl v e1 e2 => ?_⟩) fun r s' p => ?_
  · show 1 + claimMargin + n ≤ 999; omega
  · show 4 + 4 * n ≤ 4000; omega
  · cases k with
    | zero =>
      simp at e1 e2
      subst e1; subst e2
      refine ⟨(fun q => by cases q), ?_⟩
      cases W with
      | @list _ vs ws hget hall =>
        exact .list ⟨_, hget⟩ hget (by rw [(ints_rep (Z := fun _ => True) hall).length, List.length_map]; exact hlen) (ints_rep hall)
    | succ k => simp at e1
  · obtain ⟨own', Z', G, S, _, ⟨rv, v, q, rfl, R⟩ | ⟨nm, a, q, _⟩⟩ := p
    rotate_left
    · cases q
    cases q
    obtain ⟨h', tk, rfl⟩ := S.sh
    refine GoodW.toG ⟨.inl ⟨v, .bool true, [], rfl, hr, ?_, hp, fun _ => ⟨List.nodup_nil, fun a ha => by cases ha⟩⟩, G.base, rfl, hgen⟩
    cases R
    exact .bool true
end Mv

end

section
set_option maxRecDepth 100000
set_option linter.unusedSectionVars false
set_option linter.unusedVariables false
namespace Mv
open PySem PySem.W PyProof.Rows

section
variable {prog : Program} {w : World} {A : Around} {E : Value → Shared → Prop} {s : Shared} {K : Frag} {x D : Addr} {ox : Obj}
theorem exc_class {Q : Option Value → Shared → Prop} (X : K.In s.heap) (I : InstAt s.heap x ox D none) (hga : findIn K (.ref D) "__getattribute__" = some (some (.builtin "BaseException.__getattribute__"))) (hgt : findIn K (.ref D) "__getattr__" = some none)
    (hf : findObj K D none "__class__" = some (.bind (.builtin "getset_descriptor.__get__") (.builtin "object.__class__"))) (hmB : mroIn K D (.type "BaseException") = some true) (hmo : mroIn K D (.type "object") = some true)
    (h : Q (some (.ref D)) { s with toks := s.toks + 1 }) : wpAny (model prog w) A (getAttr? (.ref x) "__class__") Q E s := by
  obtain ⟨hh, g, d, t, os⟩ := s
  have L0 := I.type (M := model prog w)
  have L1 := looks_findIn (M := model prog w) X hga
  have L2 := looks_findIn (M := model prog w) X hgt
  have L3 := looks_find (M := model prog w) X I hf
  have L4 := looks_mroIn (M := model prog w) X hmB
  unfold getAttr? getAttrBy? getAttrBy
  refine wpAny_bind (wpAny_mkText (wpAny_bind (wpAny_attempt (wpAny_holding (wpAny_bind (L0.at (wpAny_bind (L1.at ?_))))))))
  dsimp only
  rw [if_neg (by simp)]
  have f3 := (PySem.F.attrBase_ValueError).ga.bind (.ref x)
  repeat (any_goals (first | assumption | with_reducible refine Looks.at (by assumption) ?_ | wp_step))
  refine codeAny_call_builtin (PySem.F.attrBase_ValueError).ga.plain PySem.F.entry_bexc_ga ?_
  have hk : builtinKind "BaseException.__getattribute__" = some .slot := by decide +kernel
  have hsplit : splitId "BaseException.__getattribute__" = some ("BaseException", "__getattribute__") := by decide +kernel
  have ha := PySem.F.args_bexc_ga (.ref x) (.str "__class__" t)
  simp only [checkBuiltinCall, hk, hsplit, List.cons_append, List.nil_append]
  refine wpAny_bind ?_
  unfold isInstance
  repeat (any_goals (first | assumption | with_reducible refine Looks.at (by assumption) ?_ | wp_step))
  refine class_get (s := ⟨hh, g, d, t + 1, os⟩) (od := none) X I hmo ?_
  repeat (any_goals (first | assumption | wp_step))

theorem kitx_exc (hga : findIn K (.ref D) "__getattribute__" = some (some (.builtin "BaseException.__getattribute__"))) (hgt : findIn K (.ref D) "__getattr__" = some none)
    (hf : findObj K D none "__class__" = some (.bind (.builtin "getset_descriptor.__get__") (.builtin "object.__class__"))) (hmB : mroIn K D (.type "BaseException") = some true) (hmo : mroIn K D (.type "object") = some true) (hcl : (clsIn K D).isSome = true) :
    KitX K (.ref x) (.ref D) (fun h => ∃ ox, InstAt h x ox D none) where
  ty := fun _ _ _ ⟨_, I⟩ => I.type
  it := fun _ _ X _ => by
    obtain ⟨cd, hc⟩ := Option.isSome_iff_exists.mp hcl
    unfold clsIn at hc
    split at hc
    · rename_i ho
      intro A' Q' E' s' k q
      unfold isType loadHead
      exact wpAny_bind (wpAny_loadPart (k _ _ (X _ _ ho)) (wpAny_pure q))
    · cases hc
  ne := fun h tp dd its n sl X htp => by
    obtain ⟨cd, hc⟩ := Option.isSome_iff_exists.mp hcl
    refine Bool.eq_false_iff.mpr fun q => ?_
    have e : D = tp := Value.ref.inj (beq_iff_eq.mp q)
    subst e
    unfold clsIn at hc
    split at hc
    · rename_i ho
      have z := (X _ _ ho).symm.trans htp
      cases z
    · cases hc
  ca := fun X ⟨_, I⟩ k => exc_class X I hga hgt hf hmB hmo k
end

theorem asked_of {K : Frag} {B : Heap} {D : Addr} {V : Value} {b : Bool} (X : K.In B) (hga : findIn K (.ref D) "__getattribute__" = some (some (.builtin "BaseException.__getattribute__"))) (hgt : findIn K (.ref D) "__getattr__" = some none)
    (hf : findObj K D none "__class__" = some (.bind (.builtin "getset_descriptor.__get__") (.builtin "object.__class__"))) (hmB : mroIn K D (.type "BaseException") = some true) (hmo : mroIn K D (.type "object") = some true) (hcl : (clsIn K D).isSome = true)
    (h1 : kitOne K (.ref D) V = some b) (h2 : exmOne K (.ref D) V = some b) : Asked B D V b := by
  intro prog w A E s a o hB ha hc
  have X' := X.keeps hB
  have I : InstAt s.heap a o D none := ⟨ha, hc.1, by obtain ⟨_, _, vs, hd⟩ := hc; obtain ⟨c, d, dt, sl⟩ := o; cases hd; rfl, by rw [hc.2.1]; trivial⟩
  exact ⟨fun Q q => exm_one X' I.type h2 A Q E s (fun _ _ e => e) q, fun Q q => kia_one (kitx_exc hga hgt hf hmB hmo hcl) X' ⟨o, I⟩ h1 (by intro z; cases z) q⟩
theorem askedT_of {K : Frag} {B : Heap} {D : Addr} {Vs : List Value} {b : Bool} (X : K.In B) (hga : findIn K (.ref D) "__getattribute__" = some (some (.builtin "BaseException.__getattribute__"))) (hgt : findIn K (.ref D) "__getattr__" = some none)
    (hf : findObj K D none "__class__" = some (.bind (.builtin "getset_descriptor.__get__") (.builtin "object.__class__"))) (hmB : mroIn K D (.type "BaseException") = some true) (hmo : mroIn K D (.type "object") = some true) (hcl : (clsIn K D).isSome = true)
    (h1 : kitAny K (.ref D) Vs = some b) : AskedT B D Vs b := by
  intro prog w A E s a tp o hB ha hc ht Q q
  have I : InstAt s.heap a o D none := ⟨ha, hc.1, by obtain ⟨_, _, vs, hd⟩ := hc; obtain ⟨c, d, dt, sl⟩ := o; cases hd; rfl, by rw [hc.2.1]; trivial⟩
  exact kia_tup (kitx_exc hga hgt hf hmB hmo hcl) (X.keeps hB) ⟨o, I⟩ ht h1 (by intro z; cases z) q
end Mv

end

section
set_option maxRecDepth 100000
set_option linter.unusedSectionVars false
set_option linter.unusedVariables false
namespace Mv
open PySem PySem.W PyProof.Rows

noncomputable def isBind (r : Option Builtin.ObjectAttr.Found) : Bool := match r with
  | some (.bind (.builtin g) (.builtin a)) => g == "getset_descriptor.__get__" && a == "object.__class__"
  | _ => false
theorem isBind_ok {r : Option Builtin.ObjectAttr.Found} (h : isBind r = true) : r = some (.bind (.builtin "getset_descriptor.__get__") (.builtin "object.__class__")) := by
  unfold isBind at h
  split at h
  · rw [Bool.and_eq_true, beq_iff_eq, beq_iff_eq] at h
    obtain ⟨rfl, rfl⟩ := h; rfl
  · cases h
noncomputable def excOk (K : Frag) (D : Addr) : Bool :=
  (findIn K (.ref D) "__getattribute__" == some (some (.builtin "BaseException.__getattribute__"))) && (findIn K (.ref D) "__getattr__" == some none) && isBind (findObj K D none "__class__") && (mroIn K D (.type "BaseException") == some true) && (mroIn K D (.type "object") == some true) && (clsIn K D).isSome
noncomputable def ask1 (K : Frag) (V : Value) (b : Bool) (g : Option Value) : Bool := match g with
  | some (.ref D) => excOk K D && (kitOne K (.ref D) V == some b) && (exmOne K (.ref D) V == some b)
  | _ => false
noncomputable def askT1 (K : Frag) (Vs : List Value) (b : Bool) (g : Option Value) : Bool := match g with
  | some (.ref D) => excOk K D && (kitAny K (.ref D) Vs == some b)
  | _ => false
theorem ask1_ok [Hp] {K : Frag} {B : Heap} {V : Value} {b : Bool} {D : Addr} (X : K.In B) (h : ask1 K V b (some (.ref D)) = true) : Asked B D V b := by
  simp only [ask1, excOk, Bool.and_eq_true, beq_iff_eq] at h
  obtain ⟨⟨⟨⟨⟨⟨⟨h1, h2⟩, h3⟩, h4⟩, h5⟩, h6⟩, h7⟩, h8⟩ := h
  exact asked_of X h1 h2 (isBind_ok h3) h4 h5 h6 h7 h8
theorem askT1_ok [Hp] {K : Frag} {B : Heap} {Vs : List Value} {b : Bool} {D : Addr} (X : K.In B) (h : askT1 K Vs b (some (.ref D)) = true) : AskedT B D Vs b := by
  simp only [askT1, excOk, Bool.and_eq_true, beq_iff_eq] at h
  obtain ⟨⟨⟨⟨⟨⟨h1, h2⟩, h3⟩, h4⟩, h5⟩, h6⟩, h7⟩ := h
  exact askedT_of X h1 h2 (isBind_ok h3) h4 h5 h6 h7
noncomputable def entB (K : Frag) (g : Str → Option Value) (V : Value) (yes no : List Str) : Bool := (yes.all fun k => ask1 K V true (g k)) && no.all fun k => ask1 K V false (g k)
noncomputable def entT (K : Frag) (g : Str → Option Value) (Vs : List Value) (yes no : List Str) : Bool := (yes.all fun k => askT1 K Vs true (g k)) && no.all fun k => askT1 K Vs false (g k)
theorem entB_ok [Hp] {K : Frag} {B : Heap} {g : Str → Option Value} {V : Value} {yes no : List Str} (X : K.In B) (h : entB K g V yes no = true) : ∀ k C, g k = some (.ref C) → (k ∈ yes → Asked B C V true) ∧ (k ∈ no → Asked B C V false) := by
  simp only [entB, Bool.and_eq_true, List.all_eq_true] at h
  exact fun k C hk => ⟨fun hm => ask1_ok X (hk ▸ h.1 k hm), fun hm => ask1_ok X (hk ▸ h.2 k hm)⟩
theorem entT_ok [Hp] {K : Frag} {B : Heap} {g : Str → Option Value} {Vs : List Value} {yes no : List Str} (X : K.In B) (h : entT K g Vs yes no = true) : ∀ k C, g k = some (.ref C) → (k ∈ yes → AskedT B C Vs true) ∧ (k ∈ no → AskedT B C Vs false) := by
  simp only [entT, Bool.and_eq_true, List.all_eq_true] at h
  exact fun k C hk => ⟨fun hm => askT1_ok X (hk ▸ h.1 k hm), fun hm => askT1_ok X (hk ▸ h.2 k hm)⟩
noncomputable def glOf (K : Frag) (x : Str) : Option Value := match K.lookup mainGlobals with
  | some ⟨_, _, .dict es _, _⟩ => nsFind es x
  | _ => none
theorem glOf_ok {K : Frag} {h : Heap} {mg : Str → Option Value} (X : K.In h) (g : h.Ns mainGlobals mg) {es : Array DictEntry} {c : Value} {d : Option Addr} {ep : Nat} {sl : Array (Option Value)} (hk : K.lookup mainGlobals = some ⟨c, d, .dict es ep, sl⟩) (x : Str) : mg x = glOf K x := by
  obtain ⟨o, es', ep', ho, hd, _, hf⟩ := g
  have := X _ _ hk
  rw [this] at ho; cases ho
  cases hd
  unfold glOf
  rw [hk]
  exact (hf x).symm
theorem lookup_mem {α β : Type} [BEq α] [LawfulBEq α] {l : List (α × β)} {a : α} {b : β} (h : l.lookup a = some b) : (a, b) ∈ l := by
  induction l with
  | nil => cases h
  | cons p l ih =>
    obtain ⟨x, y⟩ := p
    rw [List.lookup_cons] at h
    cases q : a == x with
    | true => rw [q] at h; cases h; rw [beq_iff_eq] at q; rw [q]; exact .head _
    | false => rw [q] at h; exact .tail _ (ih h)
theorem owns_raise {p : Program} {loose : List Str} {mean : ExcName → Option Value} {mg mb : Str → Option Value} {h : Heap} (T : Top p loose mean mg mb h) {cls : List Str} {Bb nid iid : String} {bm : List Value} (FB : ExcBaseFacts Bb nid iid bm)
    (hc : (cls.all fun k => (ownsOf p).any fun o => decide (o.name = k) && decide (o.newId = nid) && (o.bm == bm)) = true) : ∀ k ∈ cls, ∃ C Bb newId initId bm, OwnClsQ k C bm newId mg h ∧ ExcBaseFacts Bb newId initId bm := fun k hk => by
  rw [List.all_eq_true] at hc
  obtain ⟨o, ho, hq⟩ := List.any_eq_true.mp (hc k hk)
  simp only [Bool.and_eq_true, decide_eq_true_eq, beq_iff_eq] at hq
  obtain ⟨⟨rfl, rfl⟩, rfl⟩ := hq
  obtain ⟨C, O, _⟩ := T.own o ho
  exact ⟨C, _, _, _, _, O, FB⟩
end Mv

end

section
open PySem PySem.W PyProof.Rows
set_option maxRecDepth 100000
set_option maxHeartbeats 8000000
namespace H02
abbrev row := PySem.Challenge.rw_uf010005_02.row
abbrev p : Program := RowW.prog (OpenRow.toRowW row)
noncomputable def view : Program := { p with main := { p.main with body := [1,2,3,4,5,6,7,8,9,10,12,13,14,15,17,18,19,20,21,22,23,25,26,27,28,29,30,31,32,33,34,35,36,37,38].filterMap fun i => p.main.body[i]? } }
noncomputable def loose : List Str := [Str.ofString "GREAT"]
noncomputable def lv : List (Str × WData) := [(Str.ofString "GREAT", WData.int 1000000000000000000)]
noncomputable def K : Params → Frag := fun P => [
(3, { cls := Value.type "dict", data := Data.dict #[{ hash := PyData.keyHash P (Str.ofString "__name__"), key := Value.str (Str.ofString "__name__") 165, val := Value.str (Str.ofString "law_uf010005_02") 431 }, { hash := PyData.keyHash P (Str.ofString "__doc__"), key := Value.str (Str.ofString "__doc__") 166, val := Value.none }, { hash := PyData.keyHash P (Str.ofString "__package__"), key := Value.str (Str.ofString "__package__") 167, val := Value.none }, { hash := PyData.keyHash P (Str.ofString "__loader__"), key := Value.str (Str.ofString "__loader__") 168, val := Value.builtin "__main__.__loader__#opaque" }, { hash := PyData.keyHash P (Str.ofString "__spec__"), key := Value.str (Str.ofString "__spec__") 169, val := Value.none }, { hash := PyData.keyHash P (Str.ofString "__annotations__"), key := Value.str (Str.ofString "__annotations__") 170, val := Value.ref 6 }, { hash := PyData.keyHash P (Str.ofString "__builtins__"), key := Value.str (Str.ofString "__builtins__") 171, val := Value.ref 4 }, { hash := PyData.keyHash P (Str.ofString "__file__"), key := Value.str (Str.ofString "__file__") 173, val := Value.str (Str.ofString "/claim/cut.py") 172 }, { hash := PyData.keyHash P (Str.ofString "__cached__"), key := Value.str (Str.ofString "__cached__") 174, val := Value.none }, { hash := PyData.keyHash P (Str.ofString "HalfError"), key := Value.str (Str.ofString "HalfError") 206, val := Value.ref 24 }, { hash := PyData.keyHash P (Str.ofString "NoNumber"), key := Value.str (Str.ofString "NoNumber") 222, val := Value.ref 37 }, { hash := PyData.keyHash P (Str.ofString "NoList"), key := Value.str (Str.ofString "NoList") 238, val := Value.ref 49 }, { hash := PyData.keyHash P (Str.ofString "NoFirst"), key := Value.str (Str.ofString "NoFirst") 254, val := Value.ref 61 }, { hash := PyData.keyHash P (Str.ofString "NoDown"), key := Value.str (Str.ofString "NoDown") 270, val := Value.ref 73 }, { hash := PyData.keyHash P (Str.ofString "ByNought"), key := Value.str (Str.ofString "ByNought") 286, val := Value.ref 85 }, { hash := PyData.keyHash P (Str.ofString "TooGreat"), key := Value.str (Str.ofString "TooGreat") 302, val := Value.ref 97 }, { hash := PyData.keyHash P (Str.ofString "TooLong"), key := Value.str (Str.ofString "TooLong") 318, val := Value.ref 109 }, { hash := PyData.keyHash P (Str.ofString "NotKept"), key := Value.str (Str.ofString "NotKept") 334, val := Value.ref 121 }, { hash := PyData.keyHash P (Str.ofString "NoText"), key := Value.str (Str.ofString "NoText") 350, val := Value.ref 133 }, { hash := PyData.keyHash P (Str.ofString "GREAT"), key := Value.str (Str.ofString "GREAT") 356, val := Value.int 1000000000000000000 355 }, { hash := PyData.keyHash P (Str.ofString "HEAVIEST"), key := Value.str (Str.ofString "HEAVIEST") 358, val := Value.int 50 357 }, { hash := PyData.keyHash P (Str.ofString "room_left"), key := Value.str (Str.ofString "room_left") 369, val := Value.ref 142 }, { hash := PyData.keyHash P (Str.ofString "is_value"), key := Value.str (Str.ofString "is_value") 376, val := Value.ref 149 }, { hash := PyData.keyHash P (Str.ofString "SINGLES"), key := Value.str (Str.ofString "SINGLES") 383, val := Value.ref 150 }, { hash := PyData.keyHash P (Str.ofString "fitting"), key := Value.str (Str.ofString "fitting") 390, val := Value.ref 157 }, { hash := PyData.keyHash P (Str.ofString "number_done"), key := Value.str (Str.ofString "number_done") 399, val := Value.ref 164 }, { hash := PyData.keyHash P (Str.ofString "down"), key := Value.str (Str.ofString "down") 406, val := Value.ref 171 }, { hash := PyData.keyHash P (Str.ofString "list_done"), key := Value.str (Str.ofString "list_done") 414, val := Value.ref 178 }, { hash := PyData.keyHash P (Str.ofString "joined"), key := Value.str (Str.ofString "joined") 422, val := Value.ref 185 }, { hash := PyData.keyHash P (Str.ofString "done"), key := Value.str (Str.ofString "done") 430, val := Value.ref 192 }, { hash := PyData.keyHash P (Str.ofString "_law_cell_at"), key := Value.str (Str.ofString "_law_cell_at") 440, val := Value.ref 199 }, { hash := PyData.keyHash P (Str.ofString "_law_next"), key := Value.str (Str.ofString "_law_next") 448, val := Value.ref 206 }, { hash := PyData.keyHash P (Str.ofString "_law_value"), key := Value.str (Str.ofString "_law_value") 454, val := Value.ref 211 }, { hash := PyData.keyHash P (Str.ofString "_law_same"), key := Value.str (Str.ofString "_law_same") 463, val := Value.ref 218 }, { hash := PyData.keyHash P (Str.ofString "_law_weight"), key := Value.str (Str.ofString "_law_weight") 469, val := Value.ref 223 }, { hash := PyData.keyHash P (Str.ofString "_law_fit"), key := Value.str (Str.ofString "_law_fit") 476, val := Value.ref 230 }, { hash := PyData.keyHash P (Str.ofString "_law_counted"), key := Value.str (Str.ofString "_law_counted") 485, val := Value.ref 237 }, { hash := PyData.keyHash P (Str.ofString "_law_taken"), key := Value.str (Str.ofString "_law_taken") 493, val := Value.ref 244 }, { hash := PyData.keyHash P (Str.ofString "_law_done"), key := Value.str (Str.ofString "_law_done") 501, val := Value.ref 251 }, { hash := PyData.keyHash P (Str.ofString "_law_word"), key := Value.str (Str.ofString "_law_word") 509, val := Value.ref 258 }, { hash := PyData.keyHash P (Str.ofString "_law_answer"), key := Value.str (Str.ofString "_law_answer") 518, val := Value.ref 265 }, { hash := PyData.keyHash P (Str.ofString "_law_given"), key := Value.str (Str.ofString "_law_given") 527, val := Value.ref 272 }, { hash := PyData.keyHash P (Str.ofString "_law_ends_good"), key := Value.str (Str.ofString "_law_ends_good") 539, val := Value.ref 279 }, { hash := PyData.keyHash P (Str.ofString "law"), key := Value.str (Str.ofString "law") 545, val := Value.ref 284 }] 44 }),
  (23, { cls := Value.type "dict", data := Data.dict #[{ hash := PyData.keyHash P (Str.ofString "__module__"), key := Value.str (Str.ofString "__module__") 196, val := Value.str (Str.ofString "halfrun.errors") 187 }, { hash := PyData.keyHash P (Str.ofString "__firstlineno__"), key := Value.str (Str.ofString "__firstlineno__") 200, val := Value.int 2 199 }, { hash := PyData.keyHash P (Str.ofString "__static_attributes__"), key := Value.str (Str.ofString "__static_attributes__") 201, val := Value.ref 22 }, { hash := PyData.keyHash P (Str.ofString "__weakref__"), key := Value.str (Str.ofString "__weakref__") 203, val := Value.ref 25 }, { hash := PyData.keyHash P (Str.ofString "__doc__"), key := Value.str (Str.ofString "__doc__") 204, val := Value.none }] 3 }),
  (24, { cls := Value.type "type", data := Data.cls { name := Str.ofString "HalfError", bases := [Value.type "ValueError"], mro := [Value.ref 24, Value.type "ValueError", Value.type "Exception", Value.type "BaseException", Value.type "object"], ns := 23, qualname := Str.ofString "HalfError", subclasses := [Value.ref 37, Value.ref 49, Value.ref 61, Value.ref 73, Value.ref 85, Value.ref 97, Value.ref 109, Value.ref 121, Value.ref 133] }, slots := #[some (Value.ref 15), none, some (Value.str (Str.ofString "HalfError") 189), some (Value.str (Str.ofString "HalfError") 197), some (Value.builtin "ValueError.__new__"), some (Value.bool true)] }),
  (36, { cls := Value.type "dict", data := Data.dict #[{ hash := PyData.keyHash P (Str.ofString "__module__"), key := Value.str (Str.ofString "__module__") 214, val := Value.str (Str.ofString "halfrun.errors") 187 }, { hash := PyData.keyHash P (Str.ofString "__firstlineno__"), key := Value.str (Str.ofString "__firstlineno__") 218, val := Value.int 4 217 }, { hash := PyData.keyHash P (Str.ofString "__static_attributes__"), key := Value.str (Str.ofString "__static_attributes__") 219, val := Value.ref 35 }, { hash := PyData.keyHash P (Str.ofString "__doc__"), key := Value.str (Str.ofString "__doc__") 220, val := Value.none }] 2 }),
  (37, { cls := Value.type "type", data := Data.cls { name := Str.ofString "NoNumber", bases := [Value.ref 24], mro := [Value.ref 37, Value.ref 24, Value.type "ValueError", Value.type "Exception", Value.type "BaseException", Value.type "object"], ns := 36, qualname := Str.ofString "NoNumber" }, slots := #[some (Value.ref 28), none, some (Value.str (Str.ofString "NoNumber") 207), some (Value.str (Str.ofString "NoNumber") 215), some (Value.builtin "ValueError.__new__"), some (Value.bool true)] }),
  (48, { cls := Value.type "dict", data := Data.dict #[{ hash := PyData.keyHash P (Str.ofString "__module__"), key := Value.str (Str.ofString "__module__") 230, val := Value.str (Str.ofString "halfrun.errors") 187 }, { hash := PyData.keyHash P (Str.ofString "__firstlineno__"), key := Value.str (Str.ofString "__firstlineno__") 234, val := Value.int 6 233 }, { hash := PyData.keyHash P (Str.ofString "__static_attributes__"), key := Value.str (Str.ofString "__static_attributes__") 235, val := Value.ref 47 }, { hash := PyData.keyHash P (Str.ofString "__doc__"), key := Value.str (Str.ofString "__doc__") 236, val := Value.none }] 2 }),
  (49, { cls := Value.type "type", data := Data.cls { name := Str.ofString "NoList", bases := [Value.ref 24], mro := [Value.ref 49, Value.ref 24, Value.type "ValueError", Value.type "Exception", Value.type "BaseException", Value.type "object"], ns := 48, qualname := Str.ofString "NoList" }, slots := #[some (Value.ref 40), none, some (Value.str (Str.ofString "NoList") 223), some (Value.str (Str.ofString "NoList") 231), some (Value.builtin "ValueError.__new__"), some (Value.bool true)] }),
  (60, { cls := Value.type "dict", data := Data.dict #[{ hash := PyData.keyHash P (Str.ofString "__module__"), key := Value.str (Str.ofString "__module__") 246, val := Value.str (Str.ofString "halfrun.errors") 187 }, { hash := PyData.keyHash P (Str.ofString "__firstlineno__"), key := Value.str (Str.ofString "__firstlineno__") 250, val := Value.int 8 249 }, { hash := PyData.keyHash P (Str.ofString "__static_attributes__"), key := Value.str (Str.ofString "__static_attributes__") 251, val := Value.ref 59 }, { hash := PyData.keyHash P (Str.ofString "__doc__"), key := Value.str (Str.ofString "__doc__") 252, val := Value.none }] 2 }),
  (61, { cls := Value.type "type", data := Data.cls { name := Str.ofString "NoFirst", bases := [Value.ref 24], mro := [Value.ref 61, Value.ref 24, Value.type "ValueError", Value.type "Exception", Value.type "BaseException", Value.type "object"], ns := 60, qualname := Str.ofString "NoFirst" }, slots := #[some (Value.ref 52), none, some (Value.str (Str.ofString "NoFirst") 239), some (Value.str (Str.ofString "NoFirst") 247), some (Value.builtin "ValueError.__new__"), some (Value.bool true)] }),
  (72, { cls := Value.type "dict", data := Data.dict #[{ hash := PyData.keyHash P (Str.ofString "__module__"), key := Value.str (Str.ofString "__module__") 262, val := Value.str (Str.ofString "halfrun.errors") 187 }, { hash := PyData.keyHash P (Str.ofString "__firstlineno__"), key := Value.str (Str.ofString "__firstlineno__") 266, val := Value.int 10 265 }, { hash := PyData.keyHash P (Str.ofString "__static_attributes__"), key := Value.str (Str.ofString "__static_attributes__") 267, val := Value.ref 71 }, { hash := PyData.keyHash P (Str.ofString "__doc__"), key := Value.str (Str.ofString "__doc__") 268, val := Value.none }] 2 }),
  (73, { cls := Value.type "type", data := Data.cls { name := Str.ofString "NoDown", bases := [Value.ref 24], mro := [Value.ref 73, Value.ref 24, Value.type "ValueError", Value.type "Exception", Value.type "BaseException", Value.type "object"], ns := 72, qualname := Str.ofString "NoDown" }, slots := #[some (Value.ref 64), none, some (Value.str (Str.ofString "NoDown") 255), some (Value.str (Str.ofString "NoDown") 263), some (Value.builtin "ValueError.__new__"), some (Value.bool true)] }),
  (84, { cls := Value.type "dict", data := Data.dict #[{ hash := PyData.keyHash P (Str.ofString "__module__"), key := Value.str (Str.ofString "__module__") 278, val := Value.str (Str.ofString "halfrun.errors") 187 }, { hash := PyData.keyHash P (Str.ofString "__firstlineno__"), key := Value.str (Str.ofString "__firstlineno__") 282, val := Value.int 12 281 }, { hash := PyData.keyHash P (Str.ofString "__static_attributes__"), key := Value.str (Str.ofString "__static_attributes__") 283, val := Value.ref 83 }, { hash := PyData.keyHash P (Str.ofString "__doc__"), key := Value.str (Str.ofString "__doc__") 284, val := Value.none }] 2 }),
  (85, { cls := Value.type "type", data := Data.cls { name := Str.ofString "ByNought", bases := [Value.ref 24], mro := [Value.ref 85, Value.ref 24, Value.type "ValueError", Value.type "Exception", Value.type "BaseException", Value.type "object"], ns := 84, qualname := Str.ofString "ByNought" }, slots := #[some (Value.ref 76), none, some (Value.str (Str.ofString "ByNought") 271), some (Value.str (Str.ofString "ByNought") 279), some (Value.builtin "ValueError.__new__"), some (Value.bool true)] }),
  (96, { cls := Value.type "dict", data := Data.dict #[{ hash := PyData.keyHash P (Str.ofString "__module__"), key := Value.str (Str.ofString "__module__") 294, val := Value.str (Str.ofString "halfrun.errors") 187 }, { hash := PyData.keyHash P (Str.ofString "__firstlineno__"), key := Value.str (Str.ofString "__firstlineno__") 298, val := Value.int 14 297 }, { hash := PyData.keyHash P (Str.ofString "__static_attributes__"), key := Value.str (Str.ofString "__static_attributes__") 299, val := Value.ref 95 }, { hash := PyData.keyHash P (Str.ofString "__doc__"), key := Value.str (Str.ofString "__doc__") 300, val := Value.none }] 2 }),
  (97, { cls := Value.type "type", data := Data.cls { name := Str.ofString "TooGreat", bases := [Value.ref 24], mro := [Value.ref 97, Value.ref 24, Value.type "ValueError", Value.type "Exception", Value.type "BaseException", Value.type "object"], ns := 96, qualname := Str.ofString "TooGreat" }, slots := #[some (Value.ref 88), none, some (Value.str (Str.ofString "TooGreat") 287), some (Value.str (Str.ofString "TooGreat") 295), some (Value.builtin "ValueError.__new__"), some (Value.bool true)] }),
  (108, { cls := Value.type "dict", data := Data.dict #[{ hash := PyData.keyHash P (Str.ofString "__module__"), key := Value.str (Str.ofString "__module__") 310, val := Value.str (Str.ofString "halfrun.errors") 187 }, { hash := PyData.keyHash P (Str.ofString "__firstlineno__"), key := Value.str (Str.ofString "__firstlineno__") 314, val := Value.int 16 313 }, { hash := PyData.keyHash P (Str.ofString "__static_attributes__"), key := Value.str (Str.ofString "__static_attributes__") 315, val := Value.ref 107 }, { hash := PyData.keyHash P (Str.ofString "__doc__"), key := Value.str (Str.ofString "__doc__") 316, val := Value.none }] 2 }),
  (109, { cls := Value.type "type", data := Data.cls { name := Str.ofString "TooLong", bases := [Value.ref 24], mro := [Value.ref 109, Value.ref 24, Value.type "ValueError", Value.type "Exception", Value.type "BaseException", Value.type "object"], ns := 108, qualname := Str.ofString "TooLong" }, slots := #[some (Value.ref 100), none, some (Value.str (Str.ofString "TooLong") 303), some (Value.str (Str.ofString "TooLong") 311), some (Value.builtin "ValueError.__new__"), some (Value.bool true)] }),
  (120, { cls := Value.type "dict", data := Data.dict #[{ hash := PyData.keyHash P (Str.ofString "__module__"), key := Value.str (Str.ofString "__module__") 326, val := Value.str (Str.ofString "halfrun.errors") 187 }, { hash := PyData.keyHash P (Str.ofString "__firstlineno__"), key := Value.str (Str.ofString "__firstlineno__") 330, val := Value.int 18 329 }, { hash := PyData.keyHash P (Str.ofString "__static_attributes__"), key := Value.str (Str.ofString "__static_attributes__") 331, val := Value.ref 119 }, { hash := PyData.keyHash P (Str.ofString "__doc__"), key := Value.str (Str.ofString "__doc__") 332, val := Value.none }] 2 }),
  (121, { cls := Value.type "type", data := Data.cls { name := Str.ofString "NotKept", bases := [Value.ref 24], mro := [Value.ref 121, Value.ref 24, Value.type "ValueError", Value.type "Exception", Value.type "BaseException", Value.type "object"], ns := 120, qualname := Str.ofString "NotKept" }, slots := #[some (Value.ref 112), none, some (Value.str (Str.ofString "NotKept") 319), some (Value.str (Str.ofString "NotKept") 327), some (Value.builtin "ValueError.__new__"), some (Value.bool true)] }),
  (132, { cls := Value.type "dict", data := Data.dict #[{ hash := PyData.keyHash P (Str.ofString "__module__"), key := Value.str (Str.ofString "__module__") 342, val := Value.str (Str.ofString "halfrun.errors") 187 }, { hash := PyData.keyHash P (Str.ofString "__firstlineno__"), key := Value.str (Str.ofString "__firstlineno__") 346, val := Value.int 20 345 }, { hash := PyData.keyHash P (Str.ofString "__static_attributes__"), key := Value.str (Str.ofString "__static_attributes__") 347, val := Value.ref 131 }, { hash := PyData.keyHash P (Str.ofString "__doc__"), key := Value.str (Str.ofString "__doc__") 348, val := Value.none }] 2 }),
  (133, { cls := Value.type "type", data := Data.cls { name := Str.ofString "NoText", bases := [Value.ref 24], mro := [Value.ref 133, Value.ref 24, Value.type "ValueError", Value.type "Exception", Value.type "BaseException", Value.type "object"], ns := 132, qualname := Str.ofString "NoText" }, slots := #[some (Value.ref 124), none, some (Value.str (Str.ofString "NoText") 335), some (Value.str (Str.ofString "NoText") 343), some (Value.builtin "ValueError.__new__"), some (Value.bool true)] }),
  (150, { cls := Value.type "tuple", data := Data.seq #[Value.str (Str.ofString "down") 379, Value.str (Str.ofString "first") 380, Value.str (Str.ofString "rest") 381, Value.str (Str.ofString "empty") 382] })]
noncomputable def K_as : List Addr := [3, 23, 24, 36, 37, 48, 49, 60, 61, 72, 73, 84, 85, 96, 97, 108, 109, 120, 121, 132, 133, 150]
theorem K_eq : ∀ P, K_as = (K P).map (·.1) := fun _ => by kernel_rfl
noncomputable abbrev H : Hook := kHook K K_as K_eq
theorem left : LeftO p view loose (fun s => xlAt view lv s && recOk (RowW.records (OpenRow.toRowW row)) s) (Hook.obs H) (Hook.val H) 5792 := fun w => by kernel_rfl
theorem said : PySem.Challenge.rw_uf010005_02.wellSaid = true := by kernel_rfl
end H02

end

section
open PySem PySem.W PyProof.Rows
set_option maxRecDepth 100000
set_option maxHeartbeats 8000000
namespace H02
theorem isd : (defOf view (OpenRow.toRowW row).name).isSome = true := by kernel_rfl
noncomputable abbrev dk : DefRec × List (Str × Expr) := (defOf view (OpenRow.toRowW row).name).get isd
theorem hdef : defOf view row.name = some (dk.1, dk.2) := (Option.some_get isd).symm
theorem hp : row.prog.theDef row.name = some (dk.1.params, dk.1.body, dk.1.scope) := by kernel_rfl
theorem hk : kwWritten? dk.1.params.kwonlyargs dk.1.params.kw_defaults = some dk.2 := by kernel_rfl
theorem hok : (chainsOk view && opensWell row.prog && (frees row.toRowW && row.within.isEmpty)) = true := by kernel_rfl
theorem hbare : row.prog.bare := ⟨rfl, rfl, rfl, rfl, rfl, by decide +kernel⟩
theorem hw : row.toRowW.promised := by w_witness2
theorem hwr : (!row.writes || row.records.isEmpty) = true := by kernel_rfl
theorem hd (call : WalkO view loose (XL view lv) (Hook.says H) row.toRowW dk.1 dk.2 fun f vs => PySem.call f vs) : PySem.Challenge.rw_uf010005_02.Holds :=
  holds_law said fun k1 => holds_open (q := view) (loose := loose) (Xt := fun s => xlAt view lv s && recOk (RowW.records (OpenRow.toRowW row)) s) (XP := XL view lv) (Yf := Hook.obs H) (Ya := Hook.val H) (YP := Hook.says H) (N := 5792)
    left (Hook.of H) (Hook.keeps H) (fun s e => xl_of s (Bool.and_eq_true_iff.mp e).1) XL.keeps hdef hp hk (fun s e => recFacts_of (Bool.and_eq_true_iff.mp e).2) hwr k1 hok hbare hw call
end H02

end

section
set_option maxRecDepth 100000
namespace L02
open PySem Mv
noncomputable abbrev S (l : List Nat) : D := .str ⟨l.toArray⟩
noncomputable abbrev x_HalfError : Str := ⟨#[72, 97, 108, 102, 69, 114, 114, 111, 114]⟩
noncomputable abbrev x_NoNumber : Str := ⟨#[78, 111, 78, 117, 109, 98, 101, 114]⟩
noncomputable abbrev x_NoList : Str := ⟨#[78, 111, 76, 105, 115, 116]⟩
noncomputable abbrev x_NoFirst : Str := ⟨#[78, 111, 70, 105, 114, 115, 116]⟩
noncomputable abbrev x_NoDown : Str := ⟨#[78, 111, 68, 111, 119, 110]⟩
noncomputable abbrev x_ByNought : Str := ⟨#[66, 121, 78, 111, 117, 103, 104, 116]⟩
noncomputable abbrev x_TooGreat : Str := ⟨#[84, 111, 111, 71, 114, 101, 97, 116]⟩
noncomputable abbrev x_TooLong : Str := ⟨#[84, 111, 111, 76, 111, 110, 103]⟩
noncomputable abbrev x_NotKept : Str := ⟨#[78, 111, 116, 75, 101, 112, 116]⟩
noncomputable abbrev x_NoText : Str := ⟨#[78, 111, 84, 101, 120, 116]⟩
noncomputable def g_GREAT : D := (.int 1000000000000000000)
noncomputable def g_HEAVIEST : D := (.int 50)
noncomputable def g_SINGLES : D := (.tuple [(S [100, 111, 119, 110]), (S [102, 105, 114, 115, 116]), (S [114, 101, 115, 116]), (S [101, 109, 112, 116, 121])])
/- 0 thing, 1 room, 2 is_number, 3 left, 4 part -/
noncomputable def f_room_left : Fn := ⟨2, 5, 
   [.iff (.cmp .lt (.var 1) (.lit (.int 1))) [.ret (.neg (.lit (.int 1)))] [],
    .iff (.not (.bi (.isi .tup) [(.var 0)])) [.asg (.one 2) (.and [(.bi (.isi .int) [(.var 0)]), (.not (.bi (.isi .bool) [(.var 0)])), (.cmp2 .lt .lt (.neg (.gl 0)) (.var 0) (.gl 0))]),
      .ret (.ite (.var 2) (.op2 .sub (.var 1) (.lit (.int 1))) (.neg (.lit (.int 1))))] [],
    .asg (.one 3) (.op2 .sub (.var 1) (.lit (.int 1))),
    .for_ (.one 4) .seq [(.var 0)] [.asg (.one 3) (.call 0 [(.var 4), (.var 3)]),
      .iff (.cmp .lt (.var 3) (.lit (.int 0))) [.ret (.neg (.lit (.int 1)))] []] [4],
    .ret (.var 3)]⟩

/- 0 thing -/
noncomputable def f_is_value : Fn := ⟨1, 1, 
   [.ret (.cmp .ge (.call 0 [(.var 0), (.gl 1)]) (.lit (.int 0)))]⟩

/- 0 thing -/
noncomputable def f_fitting : Fn := ⟨1, 1, 
   [.iff (.not (.call 1 [(.var 0)])) [.raise x_TooGreat] [],
    .ret (.var 0)]⟩

/- 0 operation, 1 one, 2 other -/
noncomputable def f_number_done : Fn := ⟨3, 3, 
   [.iff (.or [(.bi (.isi .tup) [(.var 1)]), (.bi (.isi .tup) [(.var 2)])]) [.raise x_NoNumber] [],
    .iff (.cmp .eq (.var 0) (.lit (S [112, 108, 117, 115]))) [.ret (.op2 .add (.var 1) (.var 2))] [],
    .iff (.cmp .eq (.var 0) (.lit (S [109, 105, 110, 117, 115]))) [.ret (.op2 .sub (.var 1) (.var 2))] [],
    .iff (.cmp .eq (.var 0) (.lit (S [116, 105, 109, 101, 115]))) [.ret (.op2 .mul (.var 1) (.var 2))] [],
    .iff (.cmp .eq (.var 0) (.lit (S [108, 101, 115, 115]))) [.ret (.bi .int [(.cmp .lt (.var 1) (.var 2))])] [],
    .iff (.cmp .eq (.var 2) (.lit (.int 0))) [.raise x_ByNought] [],
    .ret (.op2 .fdiv (.var 1) (.var 2))]⟩

/- 0 value -/
noncomputable def f_down : Fn := ⟨1, 1, 
   [.iff (.bi (.isi .tup) [(.var 0)]) [.raise x_NoNumber] [],
    .iff (.cmp .lt (.var 0) (.lit (.int 1))) [.raise x_NoDown] [],
    .ret (.op2 .sub (.var 0) (.lit (.int 1)))]⟩

/- 0 operation, 1 value -/
noncomputable def f_list_done : Fn := ⟨2, 2, 
   [.iff (.not (.bi (.isi .tup) [(.var 1)])) [.raise x_NoList] [],
    .iff (.cmp .eq (.var 0) (.lit (S [101, 109, 112, 116, 121]))) [.ret (.bi .int [(.cmp .eq (.bi .len [(.var 1)]) (.lit (.int 0)))])] [],
    .iff (.cmp .eq (.bi .len [(.var 1)]) (.lit (.int 0))) [.raise x_NoFirst] [],
    .iff (.cmp .eq (.var 0) (.lit (S [102, 105, 114, 115, 116]))) [.ret (.idx (.var 1) (.lit (.int 0)))] [],
    .ret (.slc (.var 1) (.lit (.int 1)) (.lit .none))]⟩

/- 0 value, 1 other -/
noncomputable def f_joined : Fn := ⟨2, 2, 
   [.iff (.not (.bi (.isi .tup) [(.var 1)])) [.raise x_NoList] [],
    .ret (.op2 .add (.tup [(.var 0)]) (.var 1))]⟩

/- 0 operation, 1 values -/
noncomputable def f_done : Fn := ⟨2, 2, 
   [.iff (.cmp .eq (.var 0) (.lit (S [108, 105, 115, 116]))) [.ret (.call 2 [(.bi .tuple [(.var 1)])])] [],
    .iff (.cmp .eq (.var 0) (.lit (S [100, 111, 119, 110]))) [.ret (.call 4 [(.idx (.var 1) (.lit (.int 0)))])] [],
    .iff (.cmp .isin (.var 0) (.gl 2)) [.ret (.call 5 [(.var 0), (.idx (.var 1) (.lit (.int 0)))])] [],
    .iff (.cmp .eq (.var 0) (.lit (S [115, 97, 109, 101]))) [.ret (.bi .int [(.cmp .eq (.idx (.var 1) (.lit (.int 0))) (.idx (.var 1) (.lit (.int 1))))])] [],
    .iff (.cmp .eq (.var 0) (.lit (S [106, 111, 105, 110]))) [.ret (.call 2 [(.call 6 [(.idx (.var 1) (.lit (.int 0))), (.idx (.var 1) (.lit (.int 1)))])])] [],
    .ret (.call 2 [(.call 3 [(.var 0), (.idx (.var 1) (.lit (.int 0))), (.idx (.var 1) (.lit (.int 1)))])])]⟩

/- 0 _law_script, 1 _law_k -/
noncomputable def f_l_cell_at : Fn := ⟨2, 2, 
   [.iff (.cmp .lt (.var 1) (.bi .len [(.var 0)])) [.ret (.idx (.var 0) (.var 1))] [],
    .ret (.lit (.int 0))]⟩

/- 0 _law_pick, 1 _law_more -/
noncomputable def f_l_next : Fn := ⟨1, 2, 
   [.asg (.one 1) (.op2 .mod (.op2 .add (.op2 .mul (.var 0) (.lit (.int 48271))) (.lit (.int 11))) (.lit (.int 2147483647))),
    .ret (.op2 .mod (.op2 .mul (.var 1) (.var 1)) (.lit (.int 2147483629)))]⟩

/- 0 _law_pick, 1 _law_some, 2 c:_law_k -/
noncomputable def f_l_value : Fn := ⟨1, 3, 
   [.asg (.one 1) (.list [(.lit (.int 0)), (.lit (.int 1)), (.lit (.int 2)), (.lit (.int 3)), (.lit (.int 5)), (.neg (.lit (.int 1))), (.neg (.lit (.int 4))), (.tup []), (.tup [(.lit (.int 1))]), (.tup [(.lit (.int 2)), (.lit (.int 0))]), (.tup [(.lit (.int 1)), (.lit (.int 2)), (.lit (.int 3))]), (.tup [(.tup []), (.lit (.int 1))]), (.tup [(.tup [(.lit (.int 1)), (.lit (.int 2))]), (.tup [(.lit (.int 3))])]), (.tup [(.lit (.int 4)), (.tup [(.lit (.int 5)), (.tup [(.lit (.int 6))])])])]),
    .iff (.cmp .eq (.op2 .mod (.var 0) (.lit (.int 16))) (.lit (.int 14))) [.ret (.op2 .add (.op2 .sub (.op2 .mod (.op2 .fdiv (.var 0) (.lit (.int 16))) (.op2 .sub (.op2 .mul (.lit (.int 2)) (.op2 .pow (.lit (.int 10)) (.lit (.int 18)))) (.lit (.int 1)))) (.op2 .pow (.lit (.int 10)) (.lit (.int 18)))) (.lit (.int 1)))] [],
    .iff (.cmp .eq (.op2 .mod (.var 0) (.lit (.int 16))) (.lit (.int 15))) [.ret (.bi .tuple [(.comp (.op2 .mod (.op2 .fdiv (.var 0) (.lit (.int 16))) (.op2 .add (.var 2) (.lit (.int 2)))) (.one 2) .range [(.op2 .mod (.op2 .fdiv (.var 0) (.lit (.int 16))) (.lit (.int 9)))] [])])] [],
    .ret (.idx (.var 1) (.op2 .mod (.var 0) (.lit (.int 16))))]⟩

/- 0 _law_found, 1 _law_due, 2 _law_k -/
noncomputable def f_l_same : Fn := ⟨2, 3, 
   [.iff (.bi (.isi .tup) [(.var 1)]) [.iff (.or [(.not (.bi (.isi .tup) [(.var 0)])), (.cmp .ne (.bi .len [(.var 0)]) (.bi .len [(.var 1)]))]) [.ret (.lit (.bool false))] [],
      .for_ (.one 2) .range [(.bi .len [(.var 1)])] [.iff (.not (.call 11 [(.idx (.var 0) (.var 2)), (.idx (.var 1) (.var 2))])) [.ret (.lit (.bool false))] []] [2],
      .ret (.lit (.bool true))] [],
    .iff (.bi (.isi .str) [(.var 1)]) [.ret (.and [(.bi (.isi .str) [(.var 0)]), (.cmp .eq (.var 0) (.var 1))])] [],
    .ret (.and [(.bi (.isi .int) [(.var 0)]), (.not (.bi (.isi .bool) [(.var 0)])), (.cmp .eq (.var 0) (.var 1))])]⟩

/- 0 _law_value_here, 1 c:_law_one -/
noncomputable def f_l_weight : Fn := ⟨1, 2, 
   [.iff (.bi (.isi .tup) [(.var 0)]) [.ret (.op2 .add (.lit (.int 1)) (.bi .sum [(.comp (.call 12 [(.var 1)]) (.one 1) .seq [(.var 0)] [])]))] [],
    .ret (.lit (.int 1))]⟩

/- 0 _law_value_here -/
noncomputable def f_l_fit : Fn := ⟨1, 1, 
   [.iff (.bi (.isi .tup) [(.var 0)]) [.ret (.tup [(.cmp .le (.call 12 [(.var 0)]) (.lit (.int 50))), (.idx (.list [(.var 0), (.lit (S [84, 111, 111, 71, 114, 101, 97, 116]))]) (.bi .int [(.cmp .gt (.call 12 [(.var 0)]) (.lit (.int 50)))]))])] [],
    .ret (.tup [(.cmp .lt (.bi .abs [(.var 0)]) (.op2 .pow (.lit (.int 10)) (.lit (.int 18)))), (.idx (.list [(.var 0), (.lit (S [84, 111, 111, 71, 114, 101, 97, 116]))]) (.bi .int [(.cmp .ge (.bi .abs [(.var 0)]) (.op2 .pow (.lit (.int 10)) (.lit (.int 18))))]))])]⟩

/- 0 _law_operation, 1 _law_one, 2 _law_other -/
noncomputable def f_l_counted : Fn := ⟨3, 3, 
   [.iff (.or [(.bi (.isi .tup) [(.var 1)]), (.bi (.isi .tup) [(.var 2)])]) [.ret (.tup [(.lit (.bool false)), (.lit (S [78, 111, 78, 117, 109, 98, 101, 114]))])] [],
    .iff (.cmp .eq (.var 0) (.lit (S [111, 118, 101, 114]))) [.iff (.cmp .eq (.var 2) (.lit (.int 0))) [.ret (.tup [(.lit (.bool false)), (.lit (S [66, 121, 78, 111, 117, 103, 104, 116]))])] [],
      .ret (.call 13 [(.op2 .fdiv (.var 1) (.var 2))])] [],
    .iff (.cmp .eq (.var 0) (.lit (S [108, 101, 115, 115]))) [.ret (.tup [(.lit (.bool true)), (.bi .int [(.cmp .lt (.var 1) (.var 2))])])] [],
    .ret (.call 13 [(.dsel [⟨#[112, 108, 117, 115]⟩, ⟨#[109, 105, 110, 117, 115]⟩, ⟨#[116, 105, 109, 101, 115]⟩] [(.op2 .add (.var 1) (.var 2)), (.op2 .sub (.var 1) (.var 2)), (.op2 .mul (.var 1) (.var 2))] 0)])]⟩

/- 0 _law_operation, 1 _law_value_here -/
noncomputable def f_l_taken : Fn := ⟨2, 2, 
   [.iff (.cmp .eq (.var 0) (.lit (S [100, 111, 119, 110]))) [.iff (.bi (.isi .tup) [(.var 1)]) [.ret (.tup [(.lit (.bool false)), (.lit (S [78, 111, 78, 117, 109, 98, 101, 114]))])] [],
      .ret (.tup [(.cmp .gt (.var 1) (.lit (.int 0))), (.idx (.list [(.op2 .sub (.var 1) (.lit (.int 1))), (.lit (S [78, 111, 68, 111, 119, 110]))]) (.bi .int [(.cmp .le (.var 1) (.lit (.int 0)))]))])] [],
    .iff (.not (.bi (.isi .tup) [(.var 1)])) [.ret (.tup [(.lit (.bool false)), (.lit (S [78, 111, 76, 105, 115, 116]))])] [],
    .iff (.cmp .eq (.var 0) (.lit (S [101, 109, 112, 116, 121]))) [.ret (.tup [(.lit (.bool true)), (.bi .int [(.cmp .eq (.bi .len [(.var 1)]) (.lit (.int 0)))])])] [],
    .iff (.cmp .eq (.bi .len [(.var 1)]) (.lit (.int 0))) [.ret (.tup [(.lit (.bool false)), (.lit (S [78, 111, 70, 105, 114, 115, 116]))])] [],
    .iff (.cmp .eq (.var 0) (.lit (S [102, 105, 114, 115, 116]))) [.ret (.tup [(.lit (.bool true)), (.idx (.var 1) (.lit (.int 0)))])] [],
    .ret (.tup [(.lit (.bool true)), (.slc (.var 1) (.lit (.int 1)) (.lit .none))])]⟩

/- 0 _law_operation, 1 _law_values -/
noncomputable def f_l_done : Fn := ⟨2, 2, 
   [.iff (.cmp .eq (.var 0) (.lit (S [108, 105, 115, 116]))) [.ret (.call 13 [(.bi .tuple [(.var 1)])])] [],
    .iff (.cmp .eq (.var 0) (.lit (S [115, 97, 109, 101]))) [.ret (.tup [(.lit (.bool true)), (.bi .int [(.cmp .eq (.idx (.var 1) (.lit (.int 0))) (.idx (.var 1) (.lit (.int 1))))])])] [],
    .iff (.cmp .isin (.var 0) (.tup [(.lit (S [102, 105, 114, 115, 116])), (.lit (S [114, 101, 115, 116])), (.lit (S [101, 109, 112, 116, 121])), (.lit (S [100, 111, 119, 110]))])) [.ret (.call 15 [(.var 0), (.idx (.var 1) (.lit (.int 0)))])] [],
    .iff (.cmp .ne (.var 0) (.lit (S [106, 111, 105, 110]))) [.ret (.call 14 [(.var 0), (.idx (.var 1) (.lit (.int 0))), (.idx (.var 1) (.lit (.int 1)))])] [],
    .iff (.not (.bi (.isi .tup) [(.idx (.var 1) (.lit (.int 1)))])) [.ret (.tup [(.lit (.bool false)), (.lit (S [78, 111, 76, 105, 115, 116]))])] [],
    .ret (.call 13 [(.op2 .add (.tup [(.idx (.var 1) (.lit (.int 0)))]) (.idx (.var 1) (.lit (.int 1))))])]⟩

/- 0 _law_e, 1 _law_words -/
noncomputable def f_l_word : Fn := ⟨1, 2, 
   [.asg (.one 1) (.op2 .add (.op2 .mul (.list [(.lit (S [78, 111, 78, 117, 109, 98, 101, 114]))]) (.bi .int [(.isx 0 [x_NoNumber] [x_HalfError, x_NoList, x_NoFirst, x_NoDown, x_ByNought, x_TooGreat, x_TooLong, x_NotKept, x_NoText])])) (.op2 .mul (.list [(.lit (S [78, 111, 76, 105, 115, 116]))]) (.bi .int [(.isx 0 [x_NoList] [x_HalfError, x_NoNumber, x_NoFirst, x_NoDown, x_ByNought, x_TooGreat, x_TooLong, x_NotKept, x_NoText])]))),
    .asg (.one 1) (.op2 .add (.op2 .add (.var 1) (.op2 .mul (.list [(.lit (S [78, 111, 70, 105, 114, 115, 116]))]) (.bi .int [(.isx 0 [x_NoFirst] [x_HalfError, x_NoNumber, x_NoList, x_NoDown, x_ByNought, x_TooGreat, x_TooLong, x_NotKept, x_NoText])]))) (.op2 .mul (.list [(.lit (S [78, 111, 68, 111, 119, 110]))]) (.bi .int [(.isx 0 [x_NoDown] [x_HalfError, x_NoNumber, x_NoList, x_NoFirst, x_ByNought, x_TooGreat, x_TooLong, x_NotKept, x_NoText])]))),
    .asg (.one 1) (.op2 .add (.op2 .add (.var 1) (.op2 .mul (.list [(.lit (S [66, 121, 78, 111, 117, 103, 104, 116]))]) (.bi .int [(.isx 0 [x_ByNought] [x_HalfError, x_NoNumber, x_NoList, x_NoFirst, x_NoDown, x_TooGreat, x_TooLong, x_NotKept, x_NoText])]))) (.op2 .mul (.list [(.lit (S [84, 111, 111, 71, 114, 101, 97, 116]))]) (.bi .int [(.isx 0 [x_TooGreat] [x_HalfError, x_NoNumber, x_NoList, x_NoFirst, x_NoDown, x_ByNought, x_TooLong, x_NotKept, x_NoText])]))),
    .asg (.one 1) (.op2 .add (.var 1) (.op2 .mul (.list [(.lit (S [111, 116, 104, 101, 114]))]) (.bi .int [(.isx 0 [x_TooLong, x_NotKept, x_NoText] [x_HalfError, x_NoNumber, x_NoList, x_NoFirst, x_NoDown, x_ByNought, x_TooGreat])]))),
    .iff (.or [(.cmp .ne (.bi .len [(.var 1)]) (.lit (.int 1))), (.not (.isx 0 [x_HalfError, x_NoNumber, x_NoList, x_NoFirst, x_NoDown, x_ByNought, x_TooGreat, x_TooLong, x_NotKept, x_NoText] []))]) [.ret (.lit (S [111, 116, 104, 101, 114]))] [],
    .ret (.idx (.var 1) (.lit (.int 0)))]⟩

/- 0 _law_operation, 1 _law_values, 2 _law_e -/
noncomputable def f_l_answer : Fn := ⟨2, 3, 
   [.try_ [.ret (.tup [(.lit (.bool true)), (.call 7 [(.var 0), (.var 1)])])] [x_HalfError, x_NoNumber, x_NoList, x_NoFirst, x_NoDown, x_ByNought, x_TooGreat, x_TooLong, x_NotKept, x_NoText] 2 [.ret (.tup [(.lit (.bool false)), (.call 17 [(.pl (.var 2))])])]]⟩

/- 0 _law_script, 1 _law_k, 2 _law_cell -/
noncomputable def f_l_given : Fn := ⟨2, 3, 
   [.asg (.one 2) (.call 8 [(.var 0), (.op2 .add (.lit (.int 2)) (.var 1))]),
    .iff (.cmp .eq (.op2 .mod (.call 8 [(.var 0), (.lit (.int 1))]) (.lit (.int 4))) (.lit (.int 1))) [.ret (.bi .tuple [(.op2 .mul (.list [(.op2 .mod (.op2 .fdiv (.var 2) (.lit (.int 9))) (.lit (.int 100)))]) (.op2 .add (.lit (.int 40)) (.op2 .mod (.var 2) (.lit (.int 10)))))])] [],
    .iff (.and [(.cmp .eq (.op2 .mod (.call 8 [(.var 0), (.lit (.int 1))]) (.lit (.int 4))) (.lit (.int 3))), (.cmp .gt (.op2 .mod (.var 2) (.lit (.int 5))) (.lit (.int 0)))]) [.ret (.op2 .mul (.op2 .sub (.op2 .sub (.op2 .pow (.lit (.int 10)) (.lit (.int 18))) (.lit (.int 1))) (.op2 .mul (.op2 .mod (.op2 .fdiv (.var 2) (.lit (.int 10))) (.lit (.int 3))) (.op2 .mod (.op2 .fdiv (.var 2) (.lit (.int 30))) (.lit (.int 5))))) (.idx (.list [(.lit (.int 1)), (.neg (.lit (.int 1)))]) (.op2 .mod (.op2 .fdiv (.var 2) (.lit (.int 5))) (.lit (.int 2)))))] [],
    .iff (.and [(.cmp .eq (.op2 .mod (.call 8 [(.var 0), (.lit (.int 1))]) (.lit (.int 4))) (.lit (.int 2))), (.cmp .gt (.op2 .mod (.var 2) (.lit (.int 3))) (.lit (.int 0)))]) [.ret (.op2 .mul (.op2 .sub (.op2 .add (.op2 .pow (.lit (.int 10)) (.lit (.int 9))) (.op2 .mod (.op2 .fdiv (.var 2) (.lit (.int 6))) (.lit (.int 5)))) (.lit (.int 2))) (.idx (.list [(.lit (.int 1)), (.neg (.lit (.int 1)))]) (.op2 .mod (.op2 .fdiv (.var 2) (.lit (.int 3))) (.lit (.int 2)))))] [],
    .ret (.call 10 [(.var 2)])]⟩

/- 0 _law_most, 1 _law_some, 2 _law_operation, 3 _law_values, 4 _law_found, 5 _law_due -/
noncomputable def f_l_ends_good : Fn := ⟨0, 6, 
   [.asg (.one 0) (.op2 .sub (.op2 .pow (.lit (.int 10)) (.lit (.int 18))) (.lit (.int 1))),
    .asg (.one 1) (.list [(.tup [(.lit (S [112, 108, 117, 115])), (.list [(.var 0), (.lit (.int 1))])]), (.tup [(.lit (S [112, 108, 117, 115])), (.list [(.op2 .sub (.lit (.int 0)) (.var 0)), (.neg (.lit (.int 1)))])]), (.tup [(.lit (S [109, 105, 110, 117, 115])), (.list [(.op2 .sub (.lit (.int 0)) (.var 0)), (.lit (.int 1))])]), (.tup [(.lit (S [109, 105, 110, 117, 115])), (.list [(.lit (.int 0)), (.var 0)])])]),
    .asg (.one 1) (.op2 .add (.var 1) (.list [(.tup [(.lit (S [116, 105, 109, 101, 115])), (.list [(.op2 .pow (.lit (.int 10)) (.lit (.int 9))), (.op2 .pow (.lit (.int 10)) (.lit (.int 9)))])]), (.tup [(.lit (S [116, 105, 109, 101, 115])), (.list [(.op2 .pow (.lit (.int 10)) (.lit (.int 9))), (.op2 .sub (.op2 .pow (.lit (.int 10)) (.lit (.int 9))) (.lit (.int 1)))])])])),
    .asg (.one 1) (.op2 .add (.var 1) (.list [(.tup [(.lit (S [111, 118, 101, 114])), (.list [(.neg (.lit (.int 7))), (.lit (.int 2))])]), (.tup [(.lit (S [111, 118, 101, 114])), (.list [(.lit (.int 0)), (.lit (.int 0))])])])),
    .asg (.one 1) (.op2 .add (.var 1) (.list [(.tup [(.lit (S [111, 118, 101, 114])), (.list [(.tup []), (.lit (.int 0))])]), (.tup [(.lit (S [108, 101, 115, 115])), (.list [(.lit (.int 3)), (.lit (.int 3))])]), (.tup [(.lit (S [100, 111, 119, 110])), (.list [(.lit (.int 0))])]), (.tup [(.lit (S [100, 111, 119, 110])), (.list [(.lit (.int 1))])]), (.tup [(.lit (S [106, 111, 105, 110])), (.list [(.lit (.int 1)), (.op2 .mul (.tup [(.lit (.int 0))]) (.lit (.int 48)))])])])),
    .asg (.one 1) (.op2 .add (.var 1) (.list [(.tup [(.lit (S [106, 111, 105, 110])), (.list [(.lit (.int 1)), (.op2 .mul (.tup [(.lit (.int 0))]) (.lit (.int 49)))])]), (.tup [(.lit (S [108, 105, 115, 116])), (.list [(.op2 .mul (.tup [(.lit (.int 0))]) (.lit (.int 24))), (.op2 .mul (.tup [(.lit (.int 0))]) (.lit (.int 24)))])]), (.tup [(.lit (S [102, 105, 114, 115, 116])), (.list [(.tup [])])]), (.tup [(.lit (S [114, 101, 115, 116])), (.list [(.tup [(.lit (.int 1))])])])])),
    .for_ (.tup [2, 3]) .seq [(.var 1)] [.asg (.one 4) (.call 18 [(.var 2), (.var 3)]),
      .asg (.one 5) (.call 16 [(.var 2), (.var 3)]),
      .iff (.or [(.cmp .ne (.idx (.var 4) (.lit (.int 0))) (.idx (.var 5) (.lit (.int 0)))), (.not (.call 11 [(.idx (.var 4) (.lit (.int 1))), (.idx (.var 5) (.lit (.int 1)))]))]) [.ret (.lit (.bool false))] []] [2, 3, 4, 5],
    .ret (.lit (.bool true))]⟩

/- 0 _law_script, 1 _law_word_here, 2 _law_many, 3 _law_values, 4 _law_due, 5 _law_turn, 6 _law_handed, 7 _law_found, 8 c:_law_k -/
noncomputable def f_law : Fn := ⟨1, 9, 
   [.asg (.one 1) (.list [(.lit (S [112, 108, 117, 115])), (.lit (S [109, 105, 110, 117, 115])), (.lit (S [116, 105, 109, 101, 115])), (.lit (S [111, 118, 101, 114])), (.lit (S [108, 101, 115, 115])), (.lit (S [115, 97, 109, 101])), (.lit (S [106, 111, 105, 110])), (.lit (S [102, 105, 114, 115, 116])), (.lit (S [114, 101, 115, 116])), (.lit (S [101, 109, 112, 116, 121])), (.lit (S [100, 111, 119, 110])), (.lit (S [108, 105, 115, 116]))]),
    .asg (.one 1) (.idx (.var 1) (.op2 .mod (.call 8 [(.var 0), (.lit (.int 0))]) (.lit (.int 12)))),
    .asg (.one 2) (.lit (.int 2)),
    .iff (.cmp .isin (.var 1) (.tup [(.lit (S [102, 105, 114, 115, 116])), (.lit (S [114, 101, 115, 116])), (.lit (S [101, 109, 112, 116, 121])), (.lit (S [100, 111, 119, 110]))])) [.asg (.one 2) (.lit (.int 1))] [],
    .iff (.cmp .eq (.var 1) (.lit (S [108, 105, 115, 116]))) [.asg (.one 2) (.op2 .mod (.op2 .fdiv (.call 8 [(.var 0), (.lit (.int 0))]) (.lit (.int 12))) (.lit (.int 9)))] [],
    .asg (.one 3) (.comp (.call 19 [(.var 0), (.var 8)]) (.one 8) .range [(.var 2)] []),
    .asg (.one 4) (.call 16 [(.var 1), (.var 3)]),
    .for_ (.one 5) .range [(.lit (.int 2))] [.asg (.one 6) (.bi .list [(.var 3)]),
      .asg (.one 7) (.call 18 [(.var 1), (.var 6)]),
      .iff (.or [(.cmp .ne (.idx (.var 7) (.lit (.int 0))) (.idx (.var 4) (.lit (.int 0)))), (.not (.call 11 [(.idx (.var 7) (.lit (.int 1))), (.idx (.var 4) (.lit (.int 1)))])), (.cmp .ne (.var 6) (.var 3))]) [.ret (.lit (.bool false))] [],
      .iff (.cmp .ne (.call 18 [(.lit (S [106, 111, 105, 110])), (.list [(.lit (.int 1)), (.tup [])])]) (.tup [(.lit (.bool true)), (.tup [(.lit (.int 1))])])) [.ret (.lit (.bool false))] []] [5, 6, 7],
    .ret (.call 20 [])]⟩

noncomputable def P : Pr := ⟨[g_GREAT, g_HEAVIEST, g_SINGLES], [f_room_left, f_is_value, f_fitting, f_number_done, f_down, f_list_done, f_joined, f_done, f_l_cell_at, f_l_next, f_l_value, f_l_same, f_l_weight, f_l_fit, f_l_counted, f_l_taken, f_l_done, f_l_word, f_l_answer, f_l_given, f_l_ends_good, f_law]⟩
noncomputable def nss : List (List Str) := [(["thing", "room", "is_number", "left", "part"] : List Str),
  (["thing"] : List Str),
  (["thing"] : List Str),
  (["operation", "one", "other"] : List Str),
  (["value"] : List Str),
  (["operation", "value"] : List Str),
  (["value", "other"] : List Str),
  (["operation", "values"] : List Str),
  (["_law_script", "_law_k"] : List Str),
  (["_law_pick", "_law_more"] : List Str),
  (["_law_pick", "_law_some"] : List Str),
  (["_law_found", "_law_due", "_law_k"] : List Str),
  (["_law_value_here"] : List Str),
  (["_law_value_here"] : List Str),
  (["_law_operation", "_law_one", "_law_other"] : List Str),
  (["_law_operation", "_law_value_here"] : List Str),
  (["_law_operation", "_law_values"] : List Str),
  (["_law_e", "_law_words"] : List Str),
  (["_law_operation", "_law_values", "_law_e"] : List Str),
  (["_law_script", "_law_k", "_law_cell"] : List Str),
  (["_law_most", "_law_some", "_law_operation", "_law_values", "_law_found", "_law_due"] : List Str),
  (["_law_script", "_law_word_here", "_law_many", "_law_values", "_law_due", "_law_turn", "_law_handed", "_law_found"] : List Str)]
noncomputable def gls : List Str := ["GREAT", "HEAVIEST", "SINGLES"]
noncomputable def cls : List Str := [x_HalfError, x_NoNumber, x_NoList, x_NoFirst, x_NoDown, x_ByNought, x_TooGreat, x_TooLong, x_NotKept, x_NoText]
noncomputable def sb : List (Str × List Str × List Str) := [(x_NoNumber, [x_NoNumber], [x_HalfError, x_NoList, x_NoFirst, x_NoDown, x_ByNought, x_TooGreat, x_TooLong, x_NotKept, x_NoText]), (x_NoList, [x_NoList], [x_HalfError, x_NoNumber, x_NoFirst, x_NoDown, x_ByNought, x_TooGreat, x_TooLong, x_NotKept, x_NoText]), (x_NoFirst, [x_NoFirst], [x_HalfError, x_NoNumber, x_NoList, x_NoDown, x_ByNought, x_TooGreat, x_TooLong, x_NotKept, x_NoText]), (x_NoDown, [x_NoDown], [x_HalfError, x_NoNumber, x_NoList, x_NoFirst, x_ByNought, x_TooGreat, x_TooLong, x_NotKept, x_NoText]), (x_ByNought, [x_ByNought], [x_HalfError, x_NoNumber, x_NoList, x_NoFirst, x_NoDown, x_TooGreat, x_TooLong, x_NotKept, x_NoText]), (x_TooGreat, [x_TooGreat], [x_HalfError, x_NoNumber, x_NoList, x_NoFirst, x_NoDown, x_ByNought, x_TooLong, x_NotKept, x_NoText]), (⟨#[86, 97, 108, 117, 101, 69, 114, 114, 111, 114]⟩, [x_HalfError, x_NoNumber, x_NoList, x_NoFirst, x_NoDown, x_ByNought, x_TooGreat, x_TooLong, x_NotKept, x_NoText], []), (x_HalfError, [x_HalfError, x_NoNumber, x_NoList, x_NoFirst, x_NoDown, x_ByNought, x_TooGreat, x_TooLong, x_NotKept, x_NoText], [])]
noncomputable def sbt : List (List Str × List Str × List Str) := [([x_TooLong, x_NotKept, x_NoText], [x_TooLong, x_NotKept, x_NoText], [x_HalfError, x_NoNumber, x_NoList, x_NoFirst, x_NoDown, x_ByNought, x_TooGreat])]
end L02

end

section
open PySem PySem.W PyProof.Rows Mv
set_option maxRecDepth 100000
set_option maxHeartbeats 8000000
namespace L02
theorem chk : fnsB ⟨recsOf H02.view, gls, cls, sb, sbt⟩ (recsOf H02.view) P.fns nss = true := by decide +kernel
theorem chkF : freeB H02.view (looseW H02.view H02.loose) = true := by decide +kernel
theorem chkC : (cls.all fun k => (ownsOf H02.view).any fun o => decide (o.name = k) && decide (o.newId = "ValueError.__new__") && (o.bm == [.type "ValueError", .type "Exception", .type "BaseException", .type "object"])) = true := by decide +kernel
noncomputable def VOf (K : Frag) (x : Str) : Value := (glOf K x).getD (.type "ValueError")
theorem chkA (P : Params) : (sb.all fun e => entB (H02.K P) (glOf (H02.K P)) (VOf (H02.K P) e.1) e.2.1 e.2.2 && ((glOf (H02.K P) e.1).isSome || decide (e.1 = (⟨#[86, 97, 108, 117, 101, 69, 114, 114, 111, 114]⟩ : Str)))) = true := by kernel_rfl
theorem chkT (P : Params) : (sbt.all fun e => entT (H02.K P) (glOf (H02.K P)) (e.1.map (VOf (H02.K P))) e.2.1 e.2.2 && e.1.all fun x => (glOf (H02.K P) x).isSome) = true := by kernel_rfl
theorem bootVE : bootBuiltins (⟨#[86, 97, 108, 117, 101, 69, 114, 114, 111, 114]⟩ : Str) = some (.type "ValueError") := by kernel_rfl
theorem kG (P : Params) : ∃ c d es ep sl, (H02.K P).lookup mainGlobals = some ⟨c, d, .dict es ep, sl⟩ := ⟨_, _, _, _, _, rfl⟩
theorem gSing (P : Params) : glOf (H02.K P) (Str.ofString "SINGLES") = some (.ref 150) := by kernel_rfl
theorem kSing (P : Params) : (H02.K P).lookup 150 = some { cls := .type "tuple", data := .seq [Value.str ⟨[100, 111, 119, 110].toArray⟩ 379, .str ⟨[102, 105, 114, 115, 116].toArray⟩ 380, .str ⟨[114, 101, 115, 116].toArray⟩ 381, .str ⟨[101, 109, 112, 116, 121].toArray⟩ 382].toArray } := by kernel_rfl
theorem vHeav : valOf H02.view (Str.ofString "HEAVIEST") = some (.int 50) := by kernel_rfl
end L02

end

section
set_option maxRecDepth 100000
set_option linter.unusedVariables false
set_option linter.unusedSimpArgs false
namespace L02
open PySem Mv
noncomputable abbrev w_plus : D := S [112, 108, 117, 115]
noncomputable abbrev w_minus : D := S [109, 105, 110, 117, 115]
noncomputable abbrev w_times : D := S [116, 105, 109, 101, 115]
noncomputable abbrev w_over : D := S [111, 118, 101, 114]
noncomputable abbrev w_less : D := S [108, 101, 115, 115]
noncomputable abbrev w_same : D := S [115, 97, 109, 101]
noncomputable abbrev w_join : D := S [106, 111, 105, 110]
noncomputable abbrev w_first : D := S [102, 105, 114, 115, 116]
noncomputable abbrev w_rest : D := S [114, 101, 115, 116]
noncomputable abbrev w_empty : D := S [101, 109, 112, 116, 121]
noncomputable abbrev w_down : D := S [100, 111, 119, 110]
noncomputable abbrev w_list : D := S [108, 105, 115, 116]
noncomputable abbrev t_NoNumber : D := S [78, 111, 78, 117, 109, 98, 101, 114]
noncomputable abbrev t_NoList : D := S [78, 111, 76, 105, 115, 116]
noncomputable abbrev t_NoFirst : D := S [78, 111, 70, 105, 114, 115, 116]
noncomputable abbrev t_NoDown : D := S [78, 111, 68, 111, 119, 110]
noncomputable abbrev t_ByNought : D := S [66, 121, 78, 111, 117, 103, 104, 116]
noncomputable abbrev t_TooGreat : D := S [84, 111, 111, 71, 114, 101, 97, 116]
theorem P_g0 : P.glob[0]? = some (.int 1000000000000000000) := rfl
theorem P_g1 : P.glob[1]? = some (.int 50) := rfl
theorem len_some (n : Nat) : (Option.map (fun (n : Int) => Rv.fz (PyData.int n)) (do let a ← some n; pure (a : Int))) = some (.fz (.int n)) := rfl
theorem call_0 (n : Nat) (hd : Bool) (a b : Slot) : callF P (n+1) hd 0 [a, b] = runF P n hd f_room_left [a, b] := rfl
theorem call_1 (n : Nat) (hd : Bool) (a : Slot) : callF P (n+1) hd 1 [a] = runF P n hd f_is_value [a] := rfl
theorem call_2 (n : Nat) (hd : Bool) (a : Slot) : callF P (n+1) hd 2 [a] = runF P n hd f_fitting [a] := rfl
theorem call_3 (n : Nat) (hd : Bool) (a b c : Slot) : callF P (n+1) hd 3 [a, b, c] = runF P n hd f_number_done [a, b, c] := rfl
theorem call_7 (n : Nat) (hd : Bool) (a b : Slot) : callF P (n+1) hd 7 [a, b] = runF P n hd f_done [a, b] := rfl
theorem call_8 (n : Nat) (hd : Bool) (a b : Slot) : callF P (n+1) hd 8 [a, b] = runF P n hd f_l_cell_at [a, b] := rfl
theorem call_10 (n : Nat) (hd : Bool) (a : Slot) : callF P (n+1) hd 10 [a] = runF P n hd f_l_value [a] := rfl
theorem call_11 (n : Nat) (hd : Bool) (a b : Slot) : callF P (n+1) hd 11 [a, b] = runF P n hd f_l_same [a, b] := rfl
theorem call_12 (n : Nat) (hd : Bool) (a : Slot) : callF P (n+1) hd 12 [a] = runF P n hd f_l_weight [a] := rfl
theorem call_13 (n : Nat) (hd : Bool) (a : Slot) : callF P (n+1) hd 13 [a] = runF P n hd f_l_fit [a] := rfl
theorem call_14 (n : Nat) (hd : Bool) (a b c : Slot) : callF P (n+1) hd 14 [a, b, c] = runF P n hd f_l_counted [a, b, c] := rfl
theorem call_16 (n : Nat) (hd : Bool) (a b : Slot) : callF P (n+1) hd 16 [a, b] = runF P n hd f_l_done [a, b] := rfl
theorem call_19 (n : Nat) (hd : Bool) (a b : Slot) : callF P (n+1) hd 19 [a, b] = runF P n hd f_l_given [a, b] := rfl
theorem call_21 (n : Nat) (hd : Bool) (a : Slot) : callF P (n+1) hd 21 [a] = runF P n hd f_law [a] := rfl
theorem na2 : Int.natAbs 2 = 2 := rfl
theorem na3 : Int.natAbs 3 = 3 := rfl
theorem na4 : Int.natAbs 4 = 4 := rfl
theorem na5 : Int.natAbs 5 = 5 := rfl
theorem na6 : Int.natAbs 6 = 6 := rfl
theorem na9 : Int.natAbs 9 = 9 := rfl
theorem na10 : Int.natAbs 10 = 10 := rfl
theorem na12 : Int.natAbs 12 = 12 := rfl
theorem na16 : Int.natAbs 16 = 16 := rfl
theorem na30 : Int.natAbs 30 = 30 := rfl
theorem na100 : Int.natAbs 100 = 100 := rfl
theorem bndN_ite {α β : Type} (p : Prop) [Decidable p] (m m' : Out α) (k : Kt α β) : @bndN α β (if p then m else m') k = if p then @bndN α β m k else @bndN α β m' k := by split <;> rfl
theorem bndN_err {α β : Type} (e : Str) (fr : Mv.Frame) (k : Kt α β) : @bndN α β (some (.error e, fr)) k = none := rfl
open _root_.Mv renaming runF_eq → Q0, finF_ret → Q1, finF_next → Q2, finF_err → Q3, finF_ite → Q4, bnd_none → Q5, bnd_ok → Q6, bnd_err → Q7, bnd_ite → Q8, bndN_ok → Q9, bndN_none → Qa, exS_raise → Qd, exS_try → Qe, tryO_ok → Qf, tryO_err → Qg, tryH_ok → Qh, ev_isx → Qi, ev_dsel → Qj, okO_some → Qk, okO_none → Ql, okV_fz → Qm, okV_own → Qn, okV_none → Qo, ev_lit → Qp, ev_gl → Qq, ev_var → Qr, ev_pl → Qs, ev_tup → Qt, ev_list → Qu, ev_op2 → Qv, ev_neg → Qw, ev_not → Qx, ev_cmp → Qy, ev_cmp2 → Qz, ev_and → Q10, ev_or → Q11, ev_ite → Q12, ev_idx → Q13, ev_slc → Q14, ev_call → Q15, ev_bi → Q16, ev_comp → Q17, compB_nil → Q18, evs_nil → Q19, evs_cons → Q1a, evAnd_one → Q1b, evAnd_cons → Q1c, evOr_one → Q1d, evOr_cons → Q1e, evConds_nil → Q1f, evConds_cons → Q1g, exS_asg → Q1h, Tgt.isTup → Q1i, exS_iff → Q1j, exS_ret → Q1k, exS_for → Q1l, forB_nil → Q1m, exSs_nil → Q1n, exSs_cons → Q1o, pinsOf → Q1p, Slot.lent → Q1q, Slot.live → Q1r, plLive → Q1s, rvVs → Q1t, rvDs → Q1u, b_len → Q1v, b_isi → Q1w, b_sum → Q1x, b_tupL → Q1y, b_tupT → Q1z, b_abs → Q20, b_int → Q21, b_listL → Q22, plGet → Q23, callO → Q24, argSlots → Q25, roots → Q26, copyOut → Q27, cmpD → Q28, e_int → Q29, e_bool → Q2a, e_list → Q2b, e_tuple → Q2c, e_str → Q2d, outsOf → Q2e, o_addI → Q2f, o_addT → Q2g, o_addL → Q2h, o_sub → Q2i, o_mulI → Q2j, o_mulT → Q2k, o_mulL → Q2l, o_fdiv → Q2m, o_mod → Q2n, o_pow → Q2o, negD → Q2p, asgT → Q2q, asgs → Q2r, tgtVars → Q2s, idxD → Q2t, isiD → Q2u, i_bb → Q2v, truthD → Q2w, lenD → Q2x, iterD → Q2y, Bi.loops → Q31
open _root_.L02 renaming bndN_ite → Qb, bndN_err → Qc, P_g0 → Q2z, P_g1 → Q30, len_some → Q43, na10 → Q44, na12 → Q45, na16 → Q46, na30 → Q47, na100 → Q48
open _root_.Bool renaming and_false → Q32, false_and → Q33, false_eq_true → Q3d, not_true → Q3e, not_false → Q3f, not_eq_true → Q3j
open _root_.List renaming cons_append → Q34, nil_append → Q35, append_nil → Q36, replicate → Q37, getElem?_cons_zero → Q38, getElem?_cons_succ → Q39, set_cons_zero → Q3a, set_cons_succ → Q3b, contains_nil → Q3c, nodup_nil → Q3i
open _root_.Option renaming map_some → Q3g, map_none → Q3h
open _root_.Nat renaming reduceAdd → Q3k, reduceSub → Q3l, reduceMul → Q3m, reduceLT → Q3n, reduceLeDiff → Q3o, reduceEqDiff → Q3p, reducePow → Q40, le_refl → Q41
open _root_.Int renaming reduceAdd → Q3q, reduceNeg → Q3r, reducePow → Q3s, reduceSub → Q3t, reduceMul → Q3u, reduceLT → Q3v, reduceLE → Q3w, reduceEq → Q3x, reduceToNat → Q3y, natAbs_natCast → Q3z, le_refl → Q42

/-! ### weights, goodness, the room -/
noncomputable def goodN (i : Int) : Bool := decide (-1000000000000000000 < i) && decide (i < 1000000000000000000)
mutual
noncomputable def dep : D → Nat
  | .tuple ds => deps ds + 1
  | _ => 0
noncomputable def deps : List D → Nat
  | [] => 0
  | d :: ds => max (dep d) (deps ds)
end
mutual
noncomputable def wt : D → Nat
  | .tuple ds => 1 + wts ds
  | _ => 1
noncomputable def wts : List D → Nat
  | [] => 0
  | d :: ds => wt d + wts ds
end
mutual
noncomputable def good : D → Bool
  | .tuple ds => goods ds
  | .int i => goodN i
  | _ => false
noncomputable def goods : List D → Bool
  | [] => true
  | d :: ds => good d && goods ds
end
theorem wt_pos (d : D) : 1 ≤ wt d := by cases d <;> simp [wt]

noncomputable def roomV (d : D) (r : Int) : Int := if good d = true ∧ (wt d : Int) ≤ r then r - wt d else -1
theorem roomV_pos {d : D} {r : Int} (h : good d = true ∧ (wt d : Int) ≤ r) : roomV d r = r - wt d := if_pos h
theorem roomV_neg {d : D} {r : Int} (h : ¬ (good d = true ∧ (wt d : Int) ≤ r)) : roomV d r = -1 := if_neg h
theorem room_loop (n : Nat) (t : D) (r0 : Int) (ih : ∀ (d : D) (r : Int), dep d < n → callF P n false 0 [.fz d, .fz (.int r)] = some (.ok (.fz (.int (roomV d r))), [])) : ∀ (ds : List D) (left : Int) (s4 : Slot), deps ds < n → 0 ≤ left →
    ((goods ds = true ∧ (wts ds : Int) ≤ left) → forB ⟨P.glob, callF P n, [], false⟩ [.fz t, .fz (.int r0), .no, .fz (.int left), s4] (.one 4) [.asg (.one 3) (.call 0 [(.var 4), (.var 3)]), .iff (.cmp .lt (.var 3) (.lit (.int 0))) [.ret (.neg (.lit (.int 1)))] []] [4] ds = some (.ok .next, [.fz t, .fz (.int r0), .no, .fz (.int (left - wts ds)), .no])) ∧
    (¬ (goods ds = true ∧ (wts ds : Int) ≤ left) → ∃ fr, forB ⟨P.glob, callF P n, [], false⟩ [.fz t, .fz (.int r0), .no, .fz (.int left), s4] (.one 4) [.asg (.one 3) (.call 0 [(.var 4), (.var 3)]), .iff (.cmp .lt (.var 3) (.lit (.int 0))) [.ret (.neg (.lit (.int 1)))] []] [4] ds = some (.ok (.ret (.fz (.int (-1)))), fr))
  | [], left, s4, _, hl => by
    refine ⟨fun _ => ?_, fun h => absurd ⟨rfl, by simpa [wts] using hl⟩ h⟩
    rw [forB_nil]
    simp only [Q0,Q1,Q2,Q3,Q4,Q5,Q6,Q7,Q8,Q9,Qa,Qb,Qc,Qd,Qe,Qf,Qg,Qh,Qi,Qj,Qk,Ql,Qm,Qn,Qo,Qp,Qq,Qr,Qs,Qt,Qu,Qv,Qw,Qx,Qy,Qz,Q10,Q11,Q12,Q13,Q14,Q15,Q16,Q17,Q18,Q19,Q1a,Q1b,Q1c,Q1d,Q1e,Q1f,Q1g,Q1h,Q1i,Q1i,Q1j,Q1k,Q1l,Q1m,Q1n,Q1o,Q1p,Q1q,Q1r,Q1s,rvV,Q1t,rvD,Q1u,Q1v,Q1w,Q1x,Q1y,Q1z,Q20,Q21,Q22,Q23,Q24,Q25,Q26,Q27,Q28,Q29,Q2a,Q2b,Q2c,Q2d,leD,ltD,Q2e,Q2f,Q2g,Q2h,Q2i,Q2j,Q2k,Q2l,Q2m,Q2n,Q2o,Q2p,Q2q,Q2r,clr,Q2s,Q2t,Q2u,Q2v,beq_self_eq_true,Q2w,Q2x,Q2y,Q2z,Q30,Q31,Q32,Q33,Q34,Q35,Q36,Q37,Q38,Q39,Q3a,Q3b,Q3c,Q3d,if_false,if_true,Q3e,Q3f,Q3g,Q3h,decide_eq_true_eq,Q3i,Q3j,Q3k,Q3l,Q3m,Q3n,Q3o,Q3p,reduceIte,reduceCtorEq,Q3q,Q3r,Q3s,Q3t,Q3u,Q3v,Q3w,Q3x,Q3y,Q3z,and_true,true_and,and_self,Q40,Q41,Q42,Q43,na2,na3,na4,na5,na6,na9,Q44,Q45,Q46,Q47,Q48,ne_eq,not_false_eq_true]
    simp [wts]
  | d :: ds, left, s4, h, hl => by
    have h1 : dep d < n := by simp only [deps] at h; omega
    have h2 : deps ds < n := by simp only [deps] at h; omega
    have rc := room_loop n t r0 ih ds
    rw [forB_cons]
    simp only [Q0,Q1,Q2,Q3,Q4,Q5,Q6,Q7,Q8,Q9,Qa,Qb,Qc,Qd,Qe,Qf,Qg,Qh,Qi,Qj,Qk,Ql,Qm,Qn,Qo,Qp,Qq,Qr,Qs,Qt,Qu,Qv,Qw,Qx,Qy,Qz,Q10,Q11,Q12,Q13,Q14,Q15,Q16,Q17,Q18,Q19,Q1a,Q1b,Q1c,Q1d,Q1e,Q1f,Q1g,Q1h,Q1i,Q1i,Q1j,Q1k,Q1l,Q1m,Q1n,Q1o,Q1p,Q1q,Q1r,Q1s,rvV,Q1t,rvD,Q1u,Q1v,Q1w,Q1x,Q1y,Q1z,Q20,Q21,Q22,Q23,Q24,Q25,Q26,Q27,Q28,Q29,Q2a,Q2b,Q2c,Q2d,leD,ltD,Q2e,Q2f,Q2g,Q2h,Q2i,Q2j,Q2k,Q2l,Q2m,Q2n,Q2o,Q2p,Q2q,Q2r,clr,Q2s,Q2t,Q2u,Q2v,beq_self_eq_true,Q2w,Q2x,Q2y,Q2z,Q30,Q31,Q32,Q33,Q34,Q35,Q36,Q37,Q38,Q39,Q3a,Q3b,Q3c,Q3d,if_false,if_true,Q3e,Q3f,Q3g,Q3h,decide_eq_true_eq,Q3i,Q3j,Q3k,Q3l,Q3m,Q3n,Q3o,Q3p,reduceIte,reduceCtorEq,Q3q,Q3r,Q3s,Q3t,Q3u,Q3v,Q3w,Q3x,Q3y,Q3z,and_true,true_and,and_self,Q40,Q41,Q42,Q43,na2,na3,na4,na5,na6,na9,Q44,Q45,Q46,Q47,Q48,ne_eq,not_false_eq_true]
    simp only [ih d left h1]
    simp only [Q0,Q1,Q2,Q3,Q4,Q5,Q6,Q7,Q8,Q9,Qa,Qb,Qc,Qd,Qe,Qf,Qg,Qh,Qi,Qj,Qk,Ql,Qm,Qn,Qo,Qp,Qq,Qr,Qs,Qt,Qu,Qv,Qw,Qx,Qy,Qz,Q10,Q11,Q12,Q13,Q14,Q15,Q16,Q17,Q18,Q19,Q1a,Q1b,Q1c,Q1d,Q1e,Q1f,Q1g,Q1h,Q1i,Q1i,Q1j,Q1k,Q1l,Q1m,Q1n,Q1o,Q1p,Q1q,Q1r,Q1s,rvV,Q1t,rvD,Q1u,Q1v,Q1w,Q1x,Q1y,Q1z,Q20,Q21,Q22,Q23,Q24,Q25,Q26,Q27,Q28,Q29,Q2a,Q2b,Q2c,Q2d,leD,ltD,Q2e,Q2f,Q2g,Q2h,Q2i,Q2j,Q2k,Q2l,Q2m,Q2n,Q2o,Q2p,Q2q,Q2r,clr,Q2s,Q2t,Q2u,Q2v,beq_self_eq_true,Q2w,Q2x,Q2y,Q2z,Q30,Q31,Q32,Q33,Q34,Q35,Q36,Q37,Q38,Q39,Q3a,Q3b,Q3c,Q3d,if_false,if_true,Q3e,Q3f,Q3g,Q3h,decide_eq_true_eq,Q3i,Q3j,Q3k,Q3l,Q3m,Q3n,Q3o,Q3p,reduceIte,reduceCtorEq,Q3q,Q3r,Q3s,Q3t,Q3u,Q3v,Q3w,Q3x,Q3y,Q3z,and_true,true_and,and_self,Q40,Q41,Q42,Q43,na2,na3,na4,na5,na6,na9,Q44,Q45,Q46,Q47,Q48,ne_eq,not_false_eq_true]
    have eg : goods (d :: ds) = (good d && goods ds) := rfl
    have ew : wts (d :: ds) = wt d + wts ds := rfl
    rw [eg, ew]
    by_cases hg : good d = true ∧ (wt d : Int) ≤ left
    · rw [roomV_pos hg, if_neg (show ¬ (left - (wt d : Int) < 0) from by omega)]
      obtain ⟨q1, q2⟩ := rc (left - wt d) (.fz d) h2 (by omega)
      refine ⟨fun z => ?_, fun z => q2 fun z' => z ⟨by rw [hg.1, z'.1]; rfl, by have := z'.2; push_cast; omega⟩⟩
      have z1 := z.1
      rw [hg.1, Bool.true_and] at z1
      rw [q1 ⟨z1, by have := z.2; push_cast at this; omega⟩]
      have : left - ↑(wt d) - ↑(wts ds) = left - ↑(wt d + wts ds) := by push_cast; omega
      rw [this]
    · rw [roomV_neg hg, if_pos (show (-1 : Int) < 0 from by decide)]
      refine ⟨fun z => absurd ⟨?_, by have := z.2; push_cast at this; omega⟩ hg, fun _ => ⟨_, rfl⟩⟩
      have z1 := z.1
      rw [Bool.and_eq_true] at z1
      exact z1.1

theorem room_eq : ∀ (n : Nat) (d : D) (r : Int), dep d < n → callF P n false 0 [.fz d, .fz (.int r)] = some (.ok (.fz (.int (roomV d r))), []) := by
  intro n
  induction n with
  | zero => intro d r h; omega
  | succ n ih =>
    intro d r h
    rw [call_0, f_room_left]
    simp only [Q0,Q1,Q2,Q3,Q4,Q5,Q6,Q7,Q8,Q9,Qa,Qb,Qc,Qd,Qe,Qf,Qg,Qh,Qi,Qj,Qk,Ql,Qm,Qn,Qo,Qp,Qq,Qr,Qs,Qt,Qu,Qv,Qw,Qx,Qy,Qz,Q10,Q11,Q12,Q13,Q14,Q15,Q16,Q17,Q18,Q19,Q1a,Q1b,Q1c,Q1d,Q1e,Q1f,Q1g,Q1h,Q1i,Q1i,Q1j,Q1k,Q1l,Q1m,Q1n,Q1o,Q1p,Q1q,Q1r,Q1s,rvV,Q1t,rvD,Q1u,Q1v,Q1w,Q1x,Q1y,Q1z,Q20,Q21,Q22,Q23,Q24,Q25,Q26,Q27,Q28,Q29,Q2a,Q2b,Q2c,Q2d,leD,ltD,Q2e,Q2f,Q2g,Q2h,Q2i,Q2j,Q2k,Q2l,Q2m,Q2n,Q2o,Q2p,Q2q,Q2r,clr,Q2s,Q2t,Q2u,Q2v,beq_self_eq_true,Q2w,Q2x,Q2y,Q2z,Q30,Q31,Q32,Q33,Q34,Q35,Q36,Q37,Q38,Q39,Q3a,Q3b,Q3c,Q3d,if_false,if_true,Q3e,Q3f,Q3g,Q3h,decide_eq_true_eq,Q3i,Q3j,Q3k,Q3l,Q3m,Q3n,Q3o,Q3p,reduceIte,reduceCtorEq,Q3q,Q3r,Q3s,Q3t,Q3u,Q3v,Q3w,Q3x,Q3y,Q3z,and_true,true_and,and_self,Q40,Q41,Q42,Q43,na2,na3,na4,na5,na6,na9,Q44,Q45,Q46,Q47,Q48,ne_eq,not_false_eq_true]
    by_cases h1 : r < 1
    · rw [if_pos h1, roomV_neg (by have := wt_pos d; omega)]
    · rw [if_neg h1]
      cases d with
      | tuple ds =>
        simp only [Q0,Q1,Q2,Q3,Q4,Q5,Q6,Q7,Q8,Q9,Qa,Qb,Qc,Qd,Qe,Qf,Qg,Qh,Qi,Qj,Qk,Ql,Qm,Qn,Qo,Qp,Qq,Qr,Qs,Qt,Qu,Qv,Qw,Qx,Qy,Qz,Q10,Q11,Q12,Q13,Q14,Q15,Q16,Q17,Q18,Q19,Q1a,Q1b,Q1c,Q1d,Q1e,Q1f,Q1g,Q1h,Q1i,Q1i,Q1j,Q1k,Q1l,Q1m,Q1n,Q1o,Q1p,Q1q,Q1r,Q1s,rvV,Q1t,rvD,Q1u,Q1v,Q1w,Q1x,Q1y,Q1z,Q20,Q21,Q22,Q23,Q24,Q25,Q26,Q27,Q28,Q29,Q2a,Q2b,Q2c,Q2d,leD,ltD,Q2e,Q2f,Q2g,Q2h,Q2i,Q2j,Q2k,Q2l,Q2m,Q2n,Q2o,Q2p,Q2q,Q2r,clr,Q2s,Q2t,Q2u,Q2v,beq_self_eq_true,Q2w,Q2x,Q2y,Q2z,Q30,Q31,Q32,Q33,Q34,Q35,Q36,Q37,Q38,Q39,Q3a,Q3b,Q3c,Q3d,if_false,if_true,Q3e,Q3f,Q3g,Q3h,decide_eq_true_eq,Q3i,Q3j,Q3k,Q3l,Q3m,Q3n,Q3o,Q3p,reduceIte,reduceCtorEq,Q3q,Q3r,Q3s,Q3t,Q3u,Q3v,Q3w,Q3x,Q3y,Q3z,and_true,true_and,and_self,Q40,Q41,Q42,Q43,na2,na3,na4,na5,na6,na9,Q44,Q45,Q46,Q47,Q48,ne_eq,not_false_eq_true]
        have eg : good (.tuple ds) = goods ds := rfl
        have ew : wt (.tuple ds) = 1 + wts ds := rfl
        obtain ⟨q1, q2⟩ := room_loop n (.tuple ds) r ih ds (r - 1) .no (by simp only [dep] at h; omega) (by omega)
        by_cases hg : goods ds = true ∧ (wts ds : Int) ≤ r - 1
        · rw [q1 hg]
          simp only [Q0,Q1,Q2,Q3,Q4,Q5,Q6,Q7,Q8,Q9,Qa,Qb,Qc,Qd,Qe,Qf,Qg,Qh,Qi,Qj,Qk,Ql,Qm,Qn,Qo,Qp,Qq,Qr,Qs,Qt,Qu,Qv,Qw,Qx,Qy,Qz,Q10,Q11,Q12,Q13,Q14,Q15,Q16,Q17,Q18,Q19,Q1a,Q1b,Q1c,Q1d,Q1e,Q1f,Q1g,Q1h,Q1i,Q1i,Q1j,Q1k,Q1l,Q1m,Q1n,Q1o,Q1p,Q1q,Q1r,Q1s,rvV,Q1t,rvD,Q1u,Q1v,Q1w,Q1x,Q1y,Q1z,Q20,Q21,Q22,Q23,Q24,Q25,Q26,Q27,Q28,Q29,Q2a,Q2b,Q2c,Q2d,leD,ltD,Q2e,Q2f,Q2g,Q2h,Q2i,Q2j,Q2k,Q2l,Q2m,Q2n,Q2o,Q2p,Q2q,Q2r,clr,Q2s,Q2t,Q2u,Q2v,beq_self_eq_true,Q2w,Q2x,Q2y,Q2z,Q30,Q31,Q32,Q33,Q34,Q35,Q36,Q37,Q38,Q39,Q3a,Q3b,Q3c,Q3d,if_false,if_true,Q3e,Q3f,Q3g,Q3h,decide_eq_true_eq,Q3i,Q3j,Q3k,Q3l,Q3m,Q3n,Q3o,Q3p,reduceIte,reduceCtorEq,Q3q,Q3r,Q3s,Q3t,Q3u,Q3v,Q3w,Q3x,Q3y,Q3z,and_true,true_and,and_self,Q40,Q41,Q42,Q43,na2,na3,na4,na5,na6,na9,Q44,Q45,Q46,Q47,Q48,ne_eq,not_false_eq_true]
          rw [roomV_pos ⟨by rw [eg]; exact hg.1, by rw [ew]; push_cast; omega⟩, ew]
          have : r - 1 - (wts ds : Int) = r - ((1 + wts ds : Nat) : Int) := by push_cast; omega
          rw [this]
        · obtain ⟨fr, q⟩ := q2 hg
          rw [q]
          simp only [Q0,Q1,Q2,Q3,Q4,Q5,Q6,Q7,Q8,Q9,Qa,Qb,Qc,Qd,Qe,Qf,Qg,Qh,Qi,Qj,Qk,Ql,Qm,Qn,Qo,Qp,Qq,Qr,Qs,Qt,Qu,Qv,Qw,Qx,Qy,Qz,Q10,Q11,Q12,Q13,Q14,Q15,Q16,Q17,Q18,Q19,Q1a,Q1b,Q1c,Q1d,Q1e,Q1f,Q1g,Q1h,Q1i,Q1i,Q1j,Q1k,Q1l,Q1m,Q1n,Q1o,Q1p,Q1q,Q1r,Q1s,rvV,Q1t,rvD,Q1u,Q1v,Q1w,Q1x,Q1y,Q1z,Q20,Q21,Q22,Q23,Q24,Q25,Q26,Q27,Q28,Q29,Q2a,Q2b,Q2c,Q2d,leD,ltD,Q2e,Q2f,Q2g,Q2h,Q2i,Q2j,Q2k,Q2l,Q2m,Q2n,Q2o,Q2p,Q2q,Q2r,clr,Q2s,Q2t,Q2u,Q2v,beq_self_eq_true,Q2w,Q2x,Q2y,Q2z,Q30,Q31,Q32,Q33,Q34,Q35,Q36,Q37,Q38,Q39,Q3a,Q3b,Q3c,Q3d,if_false,if_true,Q3e,Q3f,Q3g,Q3h,decide_eq_true_eq,Q3i,Q3j,Q3k,Q3l,Q3m,Q3n,Q3o,Q3p,reduceIte,reduceCtorEq,Q3q,Q3r,Q3s,Q3t,Q3u,Q3v,Q3w,Q3x,Q3y,Q3z,and_true,true_and,and_self,Q40,Q41,Q42,Q43,na2,na3,na4,na5,na6,na9,Q44,Q45,Q46,Q47,Q48,ne_eq,not_false_eq_true]
          rw [roomV_neg (fun z => hg ⟨by rw [eg] at z; exact z.1, by have := z.2; rw [ew] at this; push_cast at this; omega⟩)]
      | int i =>
        simp only [Q0,Q1,Q2,Q3,Q4,Q5,Q6,Q7,Q8,Q9,Qa,Qb,Qc,Qd,Qe,Qf,Qg,Qh,Qi,Qj,Qk,Ql,Qm,Qn,Qo,Qp,Qq,Qr,Qs,Qt,Qu,Qv,Qw,Qx,Qy,Qz,Q10,Q11,Q12,Q13,Q14,Q15,Q16,Q17,Q18,Q19,Q1a,Q1b,Q1c,Q1d,Q1e,Q1f,Q1g,Q1h,Q1i,Q1i,Q1j,Q1k,Q1l,Q1m,Q1n,Q1o,Q1p,Q1q,Q1r,Q1s,rvV,Q1t,rvD,Q1u,Q1v,Q1w,Q1x,Q1y,Q1z,Q20,Q21,Q22,Q23,Q24,Q25,Q26,Q27,Q28,Q29,Q2a,Q2b,Q2c,Q2d,leD,ltD,Q2e,Q2f,Q2g,Q2h,Q2i,Q2j,Q2k,Q2l,Q2m,Q2n,Q2o,Q2p,Q2q,Q2r,clr,Q2s,Q2t,Q2u,Q2v,beq_self_eq_true,Q2w,Q2x,Q2y,Q2z,Q30,Q31,Q32,Q33,Q34,Q35,Q36,Q37,Q38,Q39,Q3a,Q3b,Q3c,Q3d,if_false,if_true,Q3e,Q3f,Q3g,Q3h,decide_eq_true_eq,Q3i,Q3j,Q3k,Q3l,Q3m,Q3n,Q3o,Q3p,reduceIte,reduceCtorEq,Q3q,Q3r,Q3s,Q3t,Q3u,Q3v,Q3w,Q3x,Q3y,Q3z,and_true,true_and,and_self,Q40,Q41,Q42,Q43,na2,na3,na4,na5,na6,na9,Q44,Q45,Q46,Q47,Q48,ne_eq,not_false_eq_true]
        have eg : good (.int i) = goodN i := rfl
        have ew : wt (.int i) = 1 := rfl
        by_cases h2 : -1000000000000000000 < i
        · by_cases h3 : i < 1000000000000000000
          · rw [if_pos h2, if_pos h3, roomV_pos ⟨by rw [eg]; simp [goodN, h2, h3], by rw [ew]; omega⟩]; rfl
          · rw [if_pos h2, if_neg h3, roomV_neg (fun z => h3 (by have := z.1; rw [eg] at this; simp [goodN] at this; exact this.2))]
        · rw [if_neg h2, roomV_neg (fun z => h2 (by have := z.1; rw [eg] at this; simp [goodN] at this; exact this.1))]
      | none => simp only [Q0,Q1,Q2,Q3,Q4,Q5,Q6,Q7,Q8,Q9,Qa,Qb,Qc,Qd,Qe,Qf,Qg,Qh,Qi,Qj,Qk,Ql,Qm,Qn,Qo,Qp,Qq,Qr,Qs,Qt,Qu,Qv,Qw,Qx,Qy,Qz,Q10,Q11,Q12,Q13,Q14,Q15,Q16,Q17,Q18,Q19,Q1a,Q1b,Q1c,Q1d,Q1e,Q1f,Q1g,Q1h,Q1i,Q1i,Q1j,Q1k,Q1l,Q1m,Q1n,Q1o,Q1p,Q1q,Q1r,Q1s,rvV,Q1t,rvD,Q1u,Q1v,Q1w,Q1x,Q1y,Q1z,Q20,Q21,Q22,Q23,Q24,Q25,Q26,Q27,Q28,Q29,Q2a,Q2b,Q2c,Q2d,leD,ltD,Q2e,Q2f,Q2g,Q2h,Q2i,Q2j,Q2k,Q2l,Q2m,Q2n,Q2o,Q2p,Q2q,Q2r,clr,Q2s,Q2t,Q2u,Q2v,beq_self_eq_true,Q2w,Q2x,Q2y,Q2z,Q30,Q31,Q32,Q33,Q34,Q35,Q36,Q37,Q38,Q39,Q3a,Q3b,Q3c,Q3d,if_false,if_true,Q3e,Q3f,Q3g,Q3h,decide_eq_true_eq,Q3i,Q3j,Q3k,Q3l,Q3m,Q3n,Q3o,Q3p,reduceIte,reduceCtorEq,Q3q,Q3r,Q3s,Q3t,Q3u,Q3v,Q3w,Q3x,Q3y,Q3z,and_true,true_and,and_self,Q40,Q41,Q42,Q43,na2,na3,na4,na5,na6,na9,Q44,Q45,Q46,Q47,Q48,ne_eq,not_false_eq_true]; rfl
      | bool b => simp only [Q0,Q1,Q2,Q3,Q4,Q5,Q6,Q7,Q8,Q9,Qa,Qb,Qc,Qd,Qe,Qf,Qg,Qh,Qi,Qj,Qk,Ql,Qm,Qn,Qo,Qp,Qq,Qr,Qs,Qt,Qu,Qv,Qw,Qx,Qy,Qz,Q10,Q11,Q12,Q13,Q14,Q15,Q16,Q17,Q18,Q19,Q1a,Q1b,Q1c,Q1d,Q1e,Q1f,Q1g,Q1h,Q1i,Q1i,Q1j,Q1k,Q1l,Q1m,Q1n,Q1o,Q1p,Q1q,Q1r,Q1s,rvV,Q1t,rvD,Q1u,Q1v,Q1w,Q1x,Q1y,Q1z,Q20,Q21,Q22,Q23,Q24,Q25,Q26,Q27,Q28,Q29,Q2a,Q2b,Q2c,Q2d,leD,ltD,Q2e,Q2f,Q2g,Q2h,Q2i,Q2j,Q2k,Q2l,Q2m,Q2n,Q2o,Q2p,Q2q,Q2r,clr,Q2s,Q2t,Q2u,Q2v,beq_self_eq_true,Q2w,Q2x,Q2y,Q2z,Q30,Q31,Q32,Q33,Q34,Q35,Q36,Q37,Q38,Q39,Q3a,Q3b,Q3c,Q3d,if_false,if_true,Q3e,Q3f,Q3g,Q3h,decide_eq_true_eq,Q3i,Q3j,Q3k,Q3l,Q3m,Q3n,Q3o,Q3p,reduceIte,reduceCtorEq,Q3q,Q3r,Q3s,Q3t,Q3u,Q3v,Q3w,Q3x,Q3y,Q3z,and_true,true_and,and_self,Q40,Q41,Q42,Q43,na2,na3,na4,na5,na6,na9,Q44,Q45,Q46,Q47,Q48,ne_eq,not_false_eq_true]; rfl
      | str b => simp only [Q0,Q1,Q2,Q3,Q4,Q5,Q6,Q7,Q8,Q9,Qa,Qb,Qc,Qd,Qe,Qf,Qg,Qh,Qi,Qj,Qk,Ql,Qm,Qn,Qo,Qp,Qq,Qr,Qs,Qt,Qu,Qv,Qw,Qx,Qy,Qz,Q10,Q11,Q12,Q13,Q14,Q15,Q16,Q17,Q18,Q19,Q1a,Q1b,Q1c,Q1d,Q1e,Q1f,Q1g,Q1h,Q1i,Q1i,Q1j,Q1k,Q1l,Q1m,Q1n,Q1o,Q1p,Q1q,Q1r,Q1s,rvV,Q1t,rvD,Q1u,Q1v,Q1w,Q1x,Q1y,Q1z,Q20,Q21,Q22,Q23,Q24,Q25,Q26,Q27,Q28,Q29,Q2a,Q2b,Q2c,Q2d,leD,ltD,Q2e,Q2f,Q2g,Q2h,Q2i,Q2j,Q2k,Q2l,Q2m,Q2n,Q2o,Q2p,Q2q,Q2r,clr,Q2s,Q2t,Q2u,Q2v,beq_self_eq_true,Q2w,Q2x,Q2y,Q2z,Q30,Q31,Q32,Q33,Q34,Q35,Q36,Q37,Q38,Q39,Q3a,Q3b,Q3c,Q3d,if_false,if_true,Q3e,Q3f,Q3g,Q3h,decide_eq_true_eq,Q3i,Q3j,Q3k,Q3l,Q3m,Q3n,Q3o,Q3p,reduceIte,reduceCtorEq,Q3q,Q3r,Q3s,Q3t,Q3u,Q3v,Q3w,Q3x,Q3y,Q3z,and_true,true_and,and_self,Q40,Q41,Q42,Q43,na2,na3,na4,na5,na6,na9,Q44,Q45,Q46,Q47,Q48,ne_eq,not_false_eq_true]; rfl
      | list b => simp only [Q0,Q1,Q2,Q3,Q4,Q5,Q6,Q7,Q8,Q9,Qa,Qb,Qc,Qd,Qe,Qf,Qg,Qh,Qi,Qj,Qk,Ql,Qm,Qn,Qo,Qp,Qq,Qr,Qs,Qt,Qu,Qv,Qw,Qx,Qy,Qz,Q10,Q11,Q12,Q13,Q14,Q15,Q16,Q17,Q18,Q19,Q1a,Q1b,Q1c,Q1d,Q1e,Q1f,Q1g,Q1h,Q1i,Q1i,Q1j,Q1k,Q1l,Q1m,Q1n,Q1o,Q1p,Q1q,Q1r,Q1s,rvV,Q1t,rvD,Q1u,Q1v,Q1w,Q1x,Q1y,Q1z,Q20,Q21,Q22,Q23,Q24,Q25,Q26,Q27,Q28,Q29,Q2a,Q2b,Q2c,Q2d,leD,ltD,Q2e,Q2f,Q2g,Q2h,Q2i,Q2j,Q2k,Q2l,Q2m,Q2n,Q2o,Q2p,Q2q,Q2r,clr,Q2s,Q2t,Q2u,Q2v,beq_self_eq_true,Q2w,Q2x,Q2y,Q2z,Q30,Q31,Q32,Q33,Q34,Q35,Q36,Q37,Q38,Q39,Q3a,Q3b,Q3c,Q3d,if_false,if_true,Q3e,Q3f,Q3g,Q3h,decide_eq_true_eq,Q3i,Q3j,Q3k,Q3l,Q3m,Q3n,Q3o,Q3p,reduceIte,reduceCtorEq,Q3q,Q3r,Q3s,Q3t,Q3u,Q3v,Q3w,Q3x,Q3y,Q3z,and_true,true_and,and_self,Q40,Q41,Q42,Q43,na2,na3,na4,na5,na6,na9,Q44,Q45,Q46,Q47,Q48,ne_eq,not_false_eq_true]; rfl
      | dict b => simp only [Q0,Q1,Q2,Q3,Q4,Q5,Q6,Q7,Q8,Q9,Qa,Qb,Qc,Qd,Qe,Qf,Qg,Qh,Qi,Qj,Qk,Ql,Qm,Qn,Qo,Qp,Qq,Qr,Qs,Qt,Qu,Qv,Qw,Qx,Qy,Qz,Q10,Q11,Q12,Q13,Q14,Q15,Q16,Q17,Q18,Q19,Q1a,Q1b,Q1c,Q1d,Q1e,Q1f,Q1g,Q1h,Q1i,Q1i,Q1j,Q1k,Q1l,Q1m,Q1n,Q1o,Q1p,Q1q,Q1r,Q1s,rvV,Q1t,rvD,Q1u,Q1v,Q1w,Q1x,Q1y,Q1z,Q20,Q21,Q22,Q23,Q24,Q25,Q26,Q27,Q28,Q29,Q2a,Q2b,Q2c,Q2d,leD,ltD,Q2e,Q2f,Q2g,Q2h,Q2i,Q2j,Q2k,Q2l,Q2m,Q2n,Q2o,Q2p,Q2q,Q2r,clr,Q2s,Q2t,Q2u,Q2v,beq_self_eq_true,Q2w,Q2x,Q2y,Q2z,Q30,Q31,Q32,Q33,Q34,Q35,Q36,Q37,Q38,Q39,Q3a,Q3b,Q3c,Q3d,if_false,if_true,Q3e,Q3f,Q3g,Q3h,decide_eq_true_eq,Q3i,Q3j,Q3k,Q3l,Q3m,Q3n,Q3o,Q3p,reduceIte,reduceCtorEq,Q3q,Q3r,Q3s,Q3t,Q3u,Q3v,Q3w,Q3x,Q3y,Q3z,and_true,true_and,and_self,Q40,Q41,Q42,Q43,na2,na3,na4,na5,na6,na9,Q44,Q45,Q46,Q47,Q48,ne_eq,not_false_eq_true]; rfl

theorem is_value_eq (n : Nat) (d : D) (h : dep d < n) : callF P (n+1) false 1 [.fz d] = some (.ok (.fz (.bool (good d && decide (wt d ≤ 50)))), []) := by
  rw [call_1, f_is_value]
  simp only [Q0,Q1,Q2,Q3,Q4,Q5,Q6,Q7,Q8,Q9,Qa,Qb,Qc,Qd,Qe,Qf,Qg,Qh,Qi,Qj,Qk,Ql,Qm,Qn,Qo,Qp,Qq,Qr,Qs,Qt,Qu,Qv,Qw,Qx,Qy,Qz,Q10,Q11,Q12,Q13,Q14,Q15,Q16,Q17,Q18,Q19,Q1a,Q1b,Q1c,Q1d,Q1e,Q1f,Q1g,Q1h,Q1i,Q1i,Q1j,Q1k,Q1l,Q1m,Q1n,Q1o,Q1p,Q1q,Q1r,Q1s,rvV,Q1t,rvD,Q1u,Q1v,Q1w,Q1x,Q1y,Q1z,Q20,Q21,Q22,Q23,Q24,Q25,Q26,Q27,Q28,Q29,Q2a,Q2b,Q2c,Q2d,leD,ltD,Q2e,Q2f,Q2g,Q2h,Q2i,Q2j,Q2k,Q2l,Q2m,Q2n,Q2o,Q2p,Q2q,Q2r,clr,Q2s,Q2t,Q2u,Q2v,beq_self_eq_true,Q2w,Q2x,Q2y,Q2z,Q30,Q31,Q32,Q33,Q34,Q35,Q36,Q37,Q38,Q39,Q3a,Q3b,Q3c,Q3d,if_false,if_true,Q3e,Q3f,Q3g,Q3h,decide_eq_true_eq,Q3i,Q3j,Q3k,Q3l,Q3m,Q3n,Q3o,Q3p,reduceIte,reduceCtorEq,Q3q,Q3r,Q3s,Q3t,Q3u,Q3v,Q3w,Q3x,Q3y,Q3z,and_true,true_and,and_self,Q40,Q41,Q42,Q43,na2,na3,na4,na5,na6,na9,Q44,Q45,Q46,Q47,Q48,ne_eq,not_false_eq_true]
  simp only [room_eq n d 50 h]
  simp only [Q0,Q1,Q2,Q3,Q4,Q5,Q6,Q7,Q8,Q9,Qa,Qb,Qc,Qd,Qe,Qf,Qg,Qh,Qi,Qj,Qk,Ql,Qm,Qn,Qo,Qp,Qq,Qr,Qs,Qt,Qu,Qv,Qw,Qx,Qy,Qz,Q10,Q11,Q12,Q13,Q14,Q15,Q16,Q17,Q18,Q19,Q1a,Q1b,Q1c,Q1d,Q1e,Q1f,Q1g,Q1h,Q1i,Q1i,Q1j,Q1k,Q1l,Q1m,Q1n,Q1o,Q1p,Q1q,Q1r,Q1s,rvV,Q1t,rvD,Q1u,Q1v,Q1w,Q1x,Q1y,Q1z,Q20,Q21,Q22,Q23,Q24,Q25,Q26,Q27,Q28,Q29,Q2a,Q2b,Q2c,Q2d,leD,ltD,Q2e,Q2f,Q2g,Q2h,Q2i,Q2j,Q2k,Q2l,Q2m,Q2n,Q2o,Q2p,Q2q,Q2r,clr,Q2s,Q2t,Q2u,Q2v,beq_self_eq_true,Q2w,Q2x,Q2y,Q2z,Q30,Q31,Q32,Q33,Q34,Q35,Q36,Q37,Q38,Q39,Q3a,Q3b,Q3c,Q3d,if_false,if_true,Q3e,Q3f,Q3g,Q3h,decide_eq_true_eq,Q3i,Q3j,Q3k,Q3l,Q3m,Q3n,Q3o,Q3p,reduceIte,reduceCtorEq,Q3q,Q3r,Q3s,Q3t,Q3u,Q3v,Q3w,Q3x,Q3y,Q3z,and_true,true_and,and_self,Q40,Q41,Q42,Q43,na2,na3,na4,na5,na6,na9,Q44,Q45,Q46,Q47,Q48,ne_eq,not_false_eq_true]
  have : decide (0 ≤ roomV d 50) = (good d && decide (wt d ≤ 50)) := by
    by_cases hg : good d = true ∧ (wt d : Int) ≤ 50
    · rw [roomV_pos hg, hg.1]
      have h1 : wt d ≤ 50 := by omega
      have h2 : (0 : Int) ≤ 50 - wt d := by omega
      simp [h1]; omega
    · rw [roomV_neg hg]
      symm
      rw [show decide (0 ≤ (-1 : Int)) = false from rfl, Bool.and_eq_false_iff]
      cases hq : good d with
      | false => exact .inl rfl
      | true => right; simp only [decide_eq_false_iff_not]; intro z; exact hg ⟨hq, by omega⟩
  rw [this]

theorem deps_tuple (ds : List D) : dep (.tuple ds) = deps ds + 1 := rfl
noncomputable def fitB (d : D) : Bool := good d && decide (wt d ≤ 50)
noncomputable def fitD (d : D) : D := if fitB d = true then d else t_TooGreat
theorem fit_eq (n : Nat) (d : D) (h : dep d < n) : callF P (n+2) false 2 [.fz d] = if fitB d = true then some (.ok (.fz d), []) else some (.error x_TooGreat, []) := by
  rw [call_2, f_fitting]
  simp only [Q0,Q1,Q2,Q3,Q4,Q5,Q6,Q7,Q8,Q9,Qa,Qb,Qc,Qd,Qe,Qf,Qg,Qh,Qi,Qj,Qk,Ql,Qm,Qn,Qo,Qp,Qq,Qr,Qs,Qt,Qu,Qv,Qw,Qx,Qy,Qz,Q10,Q11,Q12,Q13,Q14,Q15,Q16,Q17,Q18,Q19,Q1a,Q1b,Q1c,Q1d,Q1e,Q1f,Q1g,Q1h,Q1i,Q1i,Q1j,Q1k,Q1l,Q1m,Q1n,Q1o,Q1p,Q1q,Q1r,Q1s,rvV,Q1t,rvD,Q1u,Q1v,Q1w,Q1x,Q1y,Q1z,Q20,Q21,Q22,Q23,Q24,Q25,Q26,Q27,Q28,Q29,Q2a,Q2b,Q2c,Q2d,leD,ltD,Q2e,Q2f,Q2g,Q2h,Q2i,Q2j,Q2k,Q2l,Q2m,Q2n,Q2o,Q2p,Q2q,Q2r,clr,Q2s,Q2t,Q2u,Q2v,beq_self_eq_true,Q2w,Q2x,Q2y,Q2z,Q30,Q31,Q32,Q33,Q34,Q35,Q36,Q37,Q38,Q39,Q3a,Q3b,Q3c,Q3d,if_false,if_true,Q3e,Q3f,Q3g,Q3h,decide_eq_true_eq,Q3i,Q3j,Q3k,Q3l,Q3m,Q3n,Q3o,Q3p,reduceIte,reduceCtorEq,Q3q,Q3r,Q3s,Q3t,Q3u,Q3v,Q3w,Q3x,Q3y,Q3z,and_true,true_and,and_self,Q40,Q41,Q42,Q43,na2,na3,na4,na5,na6,na9,Q44,Q45,Q46,Q47,Q48,ne_eq,not_false_eq_true]
  simp only [is_value_eq n d h]
  simp only [Q0,Q1,Q2,Q3,Q4,Q5,Q6,Q7,Q8,Q9,Qa,Qb,Qc,Qd,Qe,Qf,Qg,Qh,Qi,Qj,Qk,Ql,Qm,Qn,Qo,Qp,Qq,Qr,Qs,Qt,Qu,Qv,Qw,Qx,Qy,Qz,Q10,Q11,Q12,Q13,Q14,Q15,Q16,Q17,Q18,Q19,Q1a,Q1b,Q1c,Q1d,Q1e,Q1f,Q1g,Q1h,Q1i,Q1i,Q1j,Q1k,Q1l,Q1m,Q1n,Q1o,Q1p,Q1q,Q1r,Q1s,rvV,Q1t,rvD,Q1u,Q1v,Q1w,Q1x,Q1y,Q1z,Q20,Q21,Q22,Q23,Q24,Q25,Q26,Q27,Q28,Q29,Q2a,Q2b,Q2c,Q2d,leD,ltD,Q2e,Q2f,Q2g,Q2h,Q2i,Q2j,Q2k,Q2l,Q2m,Q2n,Q2o,Q2p,Q2q,Q2r,clr,Q2s,Q2t,Q2u,Q2v,beq_self_eq_true,Q2w,Q2x,Q2y,Q2z,Q30,Q31,Q32,Q33,Q34,Q35,Q36,Q37,Q38,Q39,Q3a,Q3b,Q3c,Q3d,if_false,if_true,Q3e,Q3f,Q3g,Q3h,decide_eq_true_eq,Q3i,Q3j,Q3k,Q3l,Q3m,Q3n,Q3o,Q3p,reduceIte,reduceCtorEq,Q3q,Q3r,Q3s,Q3t,Q3u,Q3v,Q3w,Q3x,Q3y,Q3z,and_true,true_and,and_self,Q40,Q41,Q42,Q43,na2,na3,na4,na5,na6,na9,Q44,Q45,Q46,Q47,Q48,ne_eq,not_false_eq_true]
  show _ = if (good d && decide (wt d ≤ 50)) = true then _ else _
  generalize (good d && decide (wt d ≤ 50)) = b
  cases b <;> simp only [Q0,Q1,Q2,Q3,Q4,Q5,Q6,Q7,Q8,Q9,Qa,Qb,Qc,Qd,Qe,Qf,Qg,Qh,Qi,Qj,Qk,Ql,Qm,Qn,Qo,Qp,Qq,Qr,Qs,Qt,Qu,Qv,Qw,Qx,Qy,Qz,Q10,Q11,Q12,Q13,Q14,Q15,Q16,Q17,Q18,Q19,Q1a,Q1b,Q1c,Q1d,Q1e,Q1f,Q1g,Q1h,Q1i,Q1i,Q1j,Q1k,Q1l,Q1m,Q1n,Q1o,Q1p,Q1q,Q1r,Q1s,rvV,Q1t,rvD,Q1u,Q1v,Q1w,Q1x,Q1y,Q1z,Q20,Q21,Q22,Q23,Q24,Q25,Q26,Q27,Q28,Q29,Q2a,Q2b,Q2c,Q2d,leD,ltD,Q2e,Q2f,Q2g,Q2h,Q2i,Q2j,Q2k,Q2l,Q2m,Q2n,Q2o,Q2p,Q2q,Q2r,clr,Q2s,Q2t,Q2u,Q2v,beq_self_eq_true,Q2w,Q2x,Q2y,Q2z,Q30,Q31,Q32,Q33,Q34,Q35,Q36,Q37,Q38,Q39,Q3a,Q3b,Q3c,Q3d,if_false,if_true,Q3e,Q3f,Q3g,Q3h,decide_eq_true_eq,Q3i,Q3j,Q3k,Q3l,Q3m,Q3n,Q3o,Q3p,reduceIte,reduceCtorEq,Q3q,Q3r,Q3s,Q3t,Q3u,Q3v,Q3w,Q3x,Q3y,Q3z,and_true,true_and,and_self,Q40,Q41,Q42,Q43,na2,na3,na4,na5,na6,na9,Q44,Q45,Q46,Q47,Q48,ne_eq,not_false_eq_true]
theorem sum_wts : ∀ (ds : List D) (a : Int), sumD a (ds.map fun d => .int (wt d)) = some (.int (a + wts ds))
  | [], a => by simp [sumD, wts]
  | d :: ds, a => by
    rw [List.map_cons, sumD, sum_wts ds]
    have : a + (wt d : Int) + wts ds = a + (wts (d :: ds) : Nat) := by rw [show wts (d :: ds) = wt d + wts ds from rfl]; push_cast; omega
    rw [this]
theorem w_loop (n : Nat) (t : Slot) (ih : ∀ d : D, dep d < n → callF P n false 12 [.fz d] = some (.ok (.fz (.int (wt d))), [])) : ∀ (ds : List D) (s1 : Slot), deps ds < n →
    compB ⟨P.glob, callF P n, [], false⟩ [t, s1] (.call 12 [(.var 1)]) (.one 1) [] ds = some (.ok (ds.map fun d => .int (wt d)), [t, .no])
  | [], s1, _ => by rw [compB_nil]; simp only [Q0,Q1,Q2,Q3,Q4,Q5,Q6,Q7,Q8,Q9,Qa,Qb,Qc,Qd,Qe,Qf,Qg,Qh,Qi,Qj,Qk,Ql,Qm,Qn,Qo,Qp,Qq,Qr,Qs,Qt,Qu,Qv,Qw,Qx,Qy,Qz,Q10,Q11,Q12,Q13,Q14,Q15,Q16,Q17,Q18,Q19,Q1a,Q1b,Q1c,Q1d,Q1e,Q1f,Q1g,Q1h,Q1i,Q1i,Q1j,Q1k,Q1l,Q1m,Q1n,Q1o,Q1p,Q1q,Q1r,Q1s,rvV,Q1t,rvD,Q1u,Q1v,Q1w,Q1x,Q1y,Q1z,Q20,Q21,Q22,Q23,Q24,Q25,Q26,Q27,Q28,Q29,Q2a,Q2b,Q2c,Q2d,leD,ltD,Q2e,Q2f,Q2g,Q2h,Q2i,Q2j,Q2k,Q2l,Q2m,Q2n,Q2o,Q2p,Q2q,Q2r,clr,Q2s,Q2t,Q2u,Q2v,beq_self_eq_true,Q2w,Q2x,Q2y,Q2z,Q30,Q31,Q32,Q33,Q34,Q35,Q36,Q37,Q38,Q39,Q3a,Q3b,Q3c,Q3d,if_false,if_true,Q3e,Q3f,Q3g,Q3h,decide_eq_true_eq,Q3i,Q3j,Q3k,Q3l,Q3m,Q3n,Q3o,Q3p,reduceIte,reduceCtorEq,Q3q,Q3r,Q3s,Q3t,Q3u,Q3v,Q3w,Q3x,Q3y,Q3z,and_true,true_and,and_self,Q40,Q41,Q42,Q43,na2,na3,na4,na5,na6,na9,Q44,Q45,Q46,Q47,Q48,ne_eq,not_false_eq_true]; rfl
  | d :: ds, s1, h => by
    have h1 : dep d < n := by simp only [deps] at h; omega
    have h2 : deps ds < n := by simp only [deps] at h; omega
    rw [compB_cons]
    simp only [Q0,Q1,Q2,Q3,Q4,Q5,Q6,Q7,Q8,Q9,Qa,Qb,Qc,Qd,Qe,Qf,Qg,Qh,Qi,Qj,Qk,Ql,Qm,Qn,Qo,Qp,Qq,Qr,Qs,Qt,Qu,Qv,Qw,Qx,Qy,Qz,Q10,Q11,Q12,Q13,Q14,Q15,Q16,Q17,Q18,Q19,Q1a,Q1b,Q1c,Q1d,Q1e,Q1f,Q1g,Q1h,Q1i,Q1i,Q1j,Q1k,Q1l,Q1m,Q1n,Q1o,Q1p,Q1q,Q1r,Q1s,rvV,Q1t,rvD,Q1u,Q1v,Q1w,Q1x,Q1y,Q1z,Q20,Q21,Q22,Q23,Q24,Q25,Q26,Q27,Q28,Q29,Q2a,Q2b,Q2c,Q2d,leD,ltD,Q2e,Q2f,Q2g,Q2h,Q2i,Q2j,Q2k,Q2l,Q2m,Q2n,Q2o,Q2p,Q2q,Q2r,clr,Q2s,Q2t,Q2u,Q2v,beq_self_eq_true,Q2w,Q2x,Q2y,Q2z,Q30,Q31,Q32,Q33,Q34,Q35,Q36,Q37,Q38,Q39,Q3a,Q3b,Q3c,Q3d,if_false,if_true,Q3e,Q3f,Q3g,Q3h,decide_eq_true_eq,Q3i,Q3j,Q3k,Q3l,Q3m,Q3n,Q3o,Q3p,reduceIte,reduceCtorEq,Q3q,Q3r,Q3s,Q3t,Q3u,Q3v,Q3w,Q3x,Q3y,Q3z,and_true,true_and,and_self,Q40,Q41,Q42,Q43,na2,na3,na4,na5,na6,na9,Q44,Q45,Q46,Q47,Q48,ne_eq,not_false_eq_true]
    simp only [ih d h1]
    simp only [Q0,Q1,Q2,Q3,Q4,Q5,Q6,Q7,Q8,Q9,Qa,Qb,Qc,Qd,Qe,Qf,Qg,Qh,Qi,Qj,Qk,Ql,Qm,Qn,Qo,Qp,Qq,Qr,Qs,Qt,Qu,Qv,Qw,Qx,Qy,Qz,Q10,Q11,Q12,Q13,Q14,Q15,Q16,Q17,Q18,Q19,Q1a,Q1b,Q1c,Q1d,Q1e,Q1f,Q1g,Q1h,Q1i,Q1i,Q1j,Q1k,Q1l,Q1m,Q1n,Q1o,Q1p,Q1q,Q1r,Q1s,rvV,Q1t,rvD,Q1u,Q1v,Q1w,Q1x,Q1y,Q1z,Q20,Q21,Q22,Q23,Q24,Q25,Q26,Q27,Q28,Q29,Q2a,Q2b,Q2c,Q2d,leD,ltD,Q2e,Q2f,Q2g,Q2h,Q2i,Q2j,Q2k,Q2l,Q2m,Q2n,Q2o,Q2p,Q2q,Q2r,clr,Q2s,Q2t,Q2u,Q2v,beq_self_eq_true,Q2w,Q2x,Q2y,Q2z,Q30,Q31,Q32,Q33,Q34,Q35,Q36,Q37,Q38,Q39,Q3a,Q3b,Q3c,Q3d,if_false,if_true,Q3e,Q3f,Q3g,Q3h,decide_eq_true_eq,Q3i,Q3j,Q3k,Q3l,Q3m,Q3n,Q3o,Q3p,reduceIte,reduceCtorEq,Q3q,Q3r,Q3s,Q3t,Q3u,Q3v,Q3w,Q3x,Q3y,Q3z,and_true,true_and,and_self,Q40,Q41,Q42,Q43,na2,na3,na4,na5,na6,na9,Q44,Q45,Q46,Q47,Q48,ne_eq,not_false_eq_true]
    rw [w_loop n t ih ds _ h2]
    rfl
theorem wt_tuple (ds : List D) : (wt (.tuple ds) : Int) = 1 + (0 + wts ds) := by rw [show wt (.tuple ds) = 1 + wts ds from rfl]; push_cast; omega
theorem lweight_eq : ∀ (n : Nat) (d : D), dep d < n → callF P n false 12 [.fz d] = some (.ok (.fz (.int (wt d))), []) := by
  intro n
  induction n with
  | zero => intro d h; omega
  | succ n ih =>
    intro d h
    rw [call_12, f_l_weight]
    cases d with
    | tuple ds =>
      simp only [Q0,Q1,Q2,Q3,Q4,Q5,Q6,Q7,Q8,Q9,Qa,Qb,Qc,Qd,Qe,Qf,Qg,Qh,Qi,Qj,Qk,Ql,Qm,Qn,Qo,Qp,Qq,Qr,Qs,Qt,Qu,Qv,Qw,Qx,Qy,Qz,Q10,Q11,Q12,Q13,Q14,Q15,Q16,Q17,Q18,Q19,Q1a,Q1b,Q1c,Q1d,Q1e,Q1f,Q1g,Q1h,Q1i,Q1i,Q1j,Q1k,Q1l,Q1m,Q1n,Q1o,Q1p,Q1q,Q1r,Q1s,rvV,Q1t,rvD,Q1u,Q1v,Q1w,Q1x,Q1y,Q1z,Q20,Q21,Q22,Q23,Q24,Q25,Q26,Q27,Q28,Q29,Q2a,Q2b,Q2c,Q2d,leD,ltD,Q2e,Q2f,Q2g,Q2h,Q2i,Q2j,Q2k,Q2l,Q2m,Q2n,Q2o,Q2p,Q2q,Q2r,clr,Q2s,Q2t,Q2u,Q2v,beq_self_eq_true,Q2w,Q2x,Q2y,Q2z,Q30,Q31,Q32,Q33,Q34,Q35,Q36,Q37,Q38,Q39,Q3a,Q3b,Q3c,Q3d,if_false,if_true,Q3e,Q3f,Q3g,Q3h,decide_eq_true_eq,Q3i,Q3j,Q3k,Q3l,Q3m,Q3n,Q3o,Q3p,reduceIte,reduceCtorEq,Q3q,Q3r,Q3s,Q3t,Q3u,Q3v,Q3w,Q3x,Q3y,Q3z,and_true,true_and,and_self,Q40,Q41,Q42,Q43,na2,na3,na4,na5,na6,na9,Q44,Q45,Q46,Q47,Q48,ne_eq,not_false_eq_true]
      simp only [w_loop n _ ih ds _ (by rw [deps_tuple] at h; omega)]
      simp only [Q0,Q1,Q2,Q3,Q4,Q5,Q6,Q7,Q8,Q9,Qa,Qb,Qc,Qd,Qe,Qf,Qg,Qh,Qi,Qj,Qk,Ql,Qm,Qn,Qo,Qp,Qq,Qr,Qs,Qt,Qu,Qv,Qw,Qx,Qy,Qz,Q10,Q11,Q12,Q13,Q14,Q15,Q16,Q17,Q18,Q19,Q1a,Q1b,Q1c,Q1d,Q1e,Q1f,Q1g,Q1h,Q1i,Q1i,Q1j,Q1k,Q1l,Q1m,Q1n,Q1o,Q1p,Q1q,Q1r,Q1s,rvV,Q1t,rvD,Q1u,Q1v,Q1w,Q1x,Q1y,Q1z,Q20,Q21,Q22,Q23,Q24,Q25,Q26,Q27,Q28,Q29,Q2a,Q2b,Q2c,Q2d,leD,ltD,Q2e,Q2f,Q2g,Q2h,Q2i,Q2j,Q2k,Q2l,Q2m,Q2n,Q2o,Q2p,Q2q,Q2r,clr,Q2s,Q2t,Q2u,Q2v,beq_self_eq_true,Q2w,Q2x,Q2y,Q2z,Q30,Q31,Q32,Q33,Q34,Q35,Q36,Q37,Q38,Q39,Q3a,Q3b,Q3c,Q3d,if_false,if_true,Q3e,Q3f,Q3g,Q3h,decide_eq_true_eq,Q3i,Q3j,Q3k,Q3l,Q3m,Q3n,Q3o,Q3p,reduceIte,reduceCtorEq,Q3q,Q3r,Q3s,Q3t,Q3u,Q3v,Q3w,Q3x,Q3y,Q3z,and_true,true_and,and_self,Q40,Q41,Q42,Q43,na2,na3,na4,na5,na6,na9,Q44,Q45,Q46,Q47,Q48,ne_eq,not_false_eq_true]
      rw [sum_wts]
      simp only [Q0,Q1,Q2,Q3,Q4,Q5,Q6,Q7,Q8,Q9,Qa,Qb,Qc,Qd,Qe,Qf,Qg,Qh,Qi,Qj,Qk,Ql,Qm,Qn,Qo,Qp,Qq,Qr,Qs,Qt,Qu,Qv,Qw,Qx,Qy,Qz,Q10,Q11,Q12,Q13,Q14,Q15,Q16,Q17,Q18,Q19,Q1a,Q1b,Q1c,Q1d,Q1e,Q1f,Q1g,Q1h,Q1i,Q1i,Q1j,Q1k,Q1l,Q1m,Q1n,Q1o,Q1p,Q1q,Q1r,Q1s,rvV,Q1t,rvD,Q1u,Q1v,Q1w,Q1x,Q1y,Q1z,Q20,Q21,Q22,Q23,Q24,Q25,Q26,Q27,Q28,Q29,Q2a,Q2b,Q2c,Q2d,leD,ltD,Q2e,Q2f,Q2g,Q2h,Q2i,Q2j,Q2k,Q2l,Q2m,Q2n,Q2o,Q2p,Q2q,Q2r,clr,Q2s,Q2t,Q2u,Q2v,beq_self_eq_true,Q2w,Q2x,Q2y,Q2z,Q30,Q31,Q32,Q33,Q34,Q35,Q36,Q37,Q38,Q39,Q3a,Q3b,Q3c,Q3d,if_false,if_true,Q3e,Q3f,Q3g,Q3h,decide_eq_true_eq,Q3i,Q3j,Q3k,Q3l,Q3m,Q3n,Q3o,Q3p,reduceIte,reduceCtorEq,Q3q,Q3r,Q3s,Q3t,Q3u,Q3v,Q3w,Q3x,Q3y,Q3z,and_true,true_and,and_self,Q40,Q41,Q42,Q43,na2,na3,na4,na5,na6,na9,Q44,Q45,Q46,Q47,Q48,ne_eq,not_false_eq_true]
      rw [wt_tuple]
    | none => simp only [Q0,Q1,Q2,Q3,Q4,Q5,Q6,Q7,Q8,Q9,Qa,Qb,Qc,Qd,Qe,Qf,Qg,Qh,Qi,Qj,Qk,Ql,Qm,Qn,Qo,Qp,Qq,Qr,Qs,Qt,Qu,Qv,Qw,Qx,Qy,Qz,Q10,Q11,Q12,Q13,Q14,Q15,Q16,Q17,Q18,Q19,Q1a,Q1b,Q1c,Q1d,Q1e,Q1f,Q1g,Q1h,Q1i,Q1i,Q1j,Q1k,Q1l,Q1m,Q1n,Q1o,Q1p,Q1q,Q1r,Q1s,rvV,Q1t,rvD,Q1u,Q1v,Q1w,Q1x,Q1y,Q1z,Q20,Q21,Q22,Q23,Q24,Q25,Q26,Q27,Q28,Q29,Q2a,Q2b,Q2c,Q2d,leD,ltD,Q2e,Q2f,Q2g,Q2h,Q2i,Q2j,Q2k,Q2l,Q2m,Q2n,Q2o,Q2p,Q2q,Q2r,clr,Q2s,Q2t,Q2u,Q2v,beq_self_eq_true,Q2w,Q2x,Q2y,Q2z,Q30,Q31,Q32,Q33,Q34,Q35,Q36,Q37,Q38,Q39,Q3a,Q3b,Q3c,Q3d,if_false,if_true,Q3e,Q3f,Q3g,Q3h,decide_eq_true_eq,Q3i,Q3j,Q3k,Q3l,Q3m,Q3n,Q3o,Q3p,reduceIte,reduceCtorEq,Q3q,Q3r,Q3s,Q3t,Q3u,Q3v,Q3w,Q3x,Q3y,Q3z,and_true,true_and,and_self,Q40,Q41,Q42,Q43,na2,na3,na4,na5,na6,na9,Q44,Q45,Q46,Q47,Q48,ne_eq,not_false_eq_true]; rfl
    | bool b => simp only [Q0,Q1,Q2,Q3,Q4,Q5,Q6,Q7,Q8,Q9,Qa,Qb,Qc,Qd,Qe,Qf,Qg,Qh,Qi,Qj,Qk,Ql,Qm,Qn,Qo,Qp,Qq,Qr,Qs,Qt,Qu,Qv,Qw,Qx,Qy,Qz,Q10,Q11,Q12,Q13,Q14,Q15,Q16,Q17,Q18,Q19,Q1a,Q1b,Q1c,Q1d,Q1e,Q1f,Q1g,Q1h,Q1i,Q1i,Q1j,Q1k,Q1l,Q1m,Q1n,Q1o,Q1p,Q1q,Q1r,Q1s,rvV,Q1t,rvD,Q1u,Q1v,Q1w,Q1x,Q1y,Q1z,Q20,Q21,Q22,Q23,Q24,Q25,Q26,Q27,Q28,Q29,Q2a,Q2b,Q2c,Q2d,leD,ltD,Q2e,Q2f,Q2g,Q2h,Q2i,Q2j,Q2k,Q2l,Q2m,Q2n,Q2o,Q2p,Q2q,Q2r,clr,Q2s,Q2t,Q2u,Q2v,beq_self_eq_true,Q2w,Q2x,Q2y,Q2z,Q30,Q31,Q32,Q33,Q34,Q35,Q36,Q37,Q38,Q39,Q3a,Q3b,Q3c,Q3d,if_false,if_true,Q3e,Q3f,Q3g,Q3h,decide_eq_true_eq,Q3i,Q3j,Q3k,Q3l,Q3m,Q3n,Q3o,Q3p,reduceIte,reduceCtorEq,Q3q,Q3r,Q3s,Q3t,Q3u,Q3v,Q3w,Q3x,Q3y,Q3z,and_true,true_and,and_self,Q40,Q41,Q42,Q43,na2,na3,na4,na5,na6,na9,Q44,Q45,Q46,Q47,Q48,ne_eq,not_false_eq_true]; rfl
    | int b => simp only [Q0,Q1,Q2,Q3,Q4,Q5,Q6,Q7,Q8,Q9,Qa,Qb,Qc,Qd,Qe,Qf,Qg,Qh,Qi,Qj,Qk,Ql,Qm,Qn,Qo,Qp,Qq,Qr,Qs,Qt,Qu,Qv,Qw,Qx,Qy,Qz,Q10,Q11,Q12,Q13,Q14,Q15,Q16,Q17,Q18,Q19,Q1a,Q1b,Q1c,Q1d,Q1e,Q1f,Q1g,Q1h,Q1i,Q1i,Q1j,Q1k,Q1l,Q1m,Q1n,Q1o,Q1p,Q1q,Q1r,Q1s,rvV,Q1t,rvD,Q1u,Q1v,Q1w,Q1x,Q1y,Q1z,Q20,Q21,Q22,Q23,Q24,Q25,Q26,Q27,Q28,Q29,Q2a,Q2b,Q2c,Q2d,leD,ltD,Q2e,Q2f,Q2g,Q2h,Q2i,Q2j,Q2k,Q2l,Q2m,Q2n,Q2o,Q2p,Q2q,Q2r,clr,Q2s,Q2t,Q2u,Q2v,beq_self_eq_true,Q2w,Q2x,Q2y,Q2z,Q30,Q31,Q32,Q33,Q34,Q35,Q36,Q37,Q38,Q39,Q3a,Q3b,Q3c,Q3d,if_false,if_true,Q3e,Q3f,Q3g,Q3h,decide_eq_true_eq,Q3i,Q3j,Q3k,Q3l,Q3m,Q3n,Q3o,Q3p,reduceIte,reduceCtorEq,Q3q,Q3r,Q3s,Q3t,Q3u,Q3v,Q3w,Q3x,Q3y,Q3z,and_true,true_and,and_self,Q40,Q41,Q42,Q43,na2,na3,na4,na5,na6,na9,Q44,Q45,Q46,Q47,Q48,ne_eq,not_false_eq_true]; rfl
    | str b => simp only [Q0,Q1,Q2,Q3,Q4,Q5,Q6,Q7,Q8,Q9,Qa,Qb,Qc,Qd,Qe,Qf,Qg,Qh,Qi,Qj,Qk,Ql,Qm,Qn,Qo,Qp,Qq,Qr,Qs,Qt,Qu,Qv,Qw,Qx,Qy,Qz,Q10,Q11,Q12,Q13,Q14,Q15,Q16,Q17,Q18,Q19,Q1a,Q1b,Q1c,Q1d,Q1e,Q1f,Q1g,Q1h,Q1i,Q1i,Q1j,Q1k,Q1l,Q1m,Q1n,Q1o,Q1p,Q1q,Q1r,Q1s,rvV,Q1t,rvD,Q1u,Q1v,Q1w,Q1x,Q1y,Q1z,Q20,Q21,Q22,Q23,Q24,Q25,Q26,Q27,Q28,Q29,Q2a,Q2b,Q2c,Q2d,leD,ltD,Q2e,Q2f,Q2g,Q2h,Q2i,Q2j,Q2k,Q2l,Q2m,Q2n,Q2o,Q2p,Q2q,Q2r,clr,Q2s,Q2t,Q2u,Q2v,beq_self_eq_true,Q2w,Q2x,Q2y,Q2z,Q30,Q31,Q32,Q33,Q34,Q35,Q36,Q37,Q38,Q39,Q3a,Q3b,Q3c,Q3d,if_false,if_true,Q3e,Q3f,Q3g,Q3h,decide_eq_true_eq,Q3i,Q3j,Q3k,Q3l,Q3m,Q3n,Q3o,Q3p,reduceIte,reduceCtorEq,Q3q,Q3r,Q3s,Q3t,Q3u,Q3v,Q3w,Q3x,Q3y,Q3z,and_true,true_and,and_self,Q40,Q41,Q42,Q43,na2,na3,na4,na5,na6,na9,Q44,Q45,Q46,Q47,Q48,ne_eq,not_false_eq_true]; rfl
    | list b => simp only [Q0,Q1,Q2,Q3,Q4,Q5,Q6,Q7,Q8,Q9,Qa,Qb,Qc,Qd,Qe,Qf,Qg,Qh,Qi,Qj,Qk,Ql,Qm,Qn,Qo,Qp,Qq,Qr,Qs,Qt,Qu,Qv,Qw,Qx,Qy,Qz,Q10,Q11,Q12,Q13,Q14,Q15,Q16,Q17,Q18,Q19,Q1a,Q1b,Q1c,Q1d,Q1e,Q1f,Q1g,Q1h,Q1i,Q1i,Q1j,Q1k,Q1l,Q1m,Q1n,Q1o,Q1p,Q1q,Q1r,Q1s,rvV,Q1t,rvD,Q1u,Q1v,Q1w,Q1x,Q1y,Q1z,Q20,Q21,Q22,Q23,Q24,Q25,Q26,Q27,Q28,Q29,Q2a,Q2b,Q2c,Q2d,leD,ltD,Q2e,Q2f,Q2g,Q2h,Q2i,Q2j,Q2k,Q2l,Q2m,Q2n,Q2o,Q2p,Q2q,Q2r,clr,Q2s,Q2t,Q2u,Q2v,beq_self_eq_true,Q2w,Q2x,Q2y,Q2z,Q30,Q31,Q32,Q33,Q34,Q35,Q36,Q37,Q38,Q39,Q3a,Q3b,Q3c,Q3d,if_false,if_true,Q3e,Q3f,Q3g,Q3h,decide_eq_true_eq,Q3i,Q3j,Q3k,Q3l,Q3m,Q3n,Q3o,Q3p,reduceIte,reduceCtorEq,Q3q,Q3r,Q3s,Q3t,Q3u,Q3v,Q3w,Q3x,Q3y,Q3z,and_true,true_and,and_self,Q40,Q41,Q42,Q43,na2,na3,na4,na5,na6,na9,Q44,Q45,Q46,Q47,Q48,ne_eq,not_false_eq_true]; rfl
    | dict b => simp only [Q0,Q1,Q2,Q3,Q4,Q5,Q6,Q7,Q8,Q9,Qa,Qb,Qc,Qd,Qe,Qf,Qg,Qh,Qi,Qj,Qk,Ql,Qm,Qn,Qo,Qp,Qq,Qr,Qs,Qt,Qu,Qv,Qw,Qx,Qy,Qz,Q10,Q11,Q12,Q13,Q14,Q15,Q16,Q17,Q18,Q19,Q1a,Q1b,Q1c,Q1d,Q1e,Q1f,Q1g,Q1h,Q1i,Q1i,Q1j,Q1k,Q1l,Q1m,Q1n,Q1o,Q1p,Q1q,Q1r,Q1s,rvV,Q1t,rvD,Q1u,Q1v,Q1w,Q1x,Q1y,Q1z,Q20,Q21,Q22,Q23,Q24,Q25,Q26,Q27,Q28,Q29,Q2a,Q2b,Q2c,Q2d,leD,ltD,Q2e,Q2f,Q2g,Q2h,Q2i,Q2j,Q2k,Q2l,Q2m,Q2n,Q2o,Q2p,Q2q,Q2r,clr,Q2s,Q2t,Q2u,Q2v,beq_self_eq_true,Q2w,Q2x,Q2y,Q2z,Q30,Q31,Q32,Q33,Q34,Q35,Q36,Q37,Q38,Q39,Q3a,Q3b,Q3c,Q3d,if_false,if_true,Q3e,Q3f,Q3g,Q3h,decide_eq_true_eq,Q3i,Q3j,Q3k,Q3l,Q3m,Q3n,Q3o,Q3p,reduceIte,reduceCtorEq,Q3q,Q3r,Q3s,Q3t,Q3u,Q3v,Q3w,Q3x,Q3y,Q3z,and_true,true_and,and_self,Q40,Q41,Q42,Q43,na2,na3,na4,na5,na6,na9,Q44,Q45,Q46,Q47,Q48,ne_eq,not_false_eq_true]; rfl
noncomputable def good1 (d : D) : Prop := (∃ i, d = .int i) ∨ ∃ ds, d = .tuple ds ∧ goods ds = true
theorem ix0 (a b : D) : idxOf [a, b] (0 : Int) = some a := rfl
theorem ix1 (a b : D) : idxOf [a, b] (1 : Int) = some b := rfl
theorem lfit_eq (n : Nat) (d : D) (h : dep d < n) (hd : good1 d) : callF P (n+1) false 13 [.fz d] = some (.ok (.fz (.tuple [.bool (fitB d), fitD d])), []) := by
  rw [call_13, f_l_fit]
  rcases hd with ⟨i, rfl⟩ | ⟨ds, rfl, hg⟩
  · simp only [Q0,Q1,Q2,Q3,Q4,Q5,Q6,Q7,Q8,Q9,Qa,Qb,Qc,Qd,Qe,Qf,Qg,Qh,Qi,Qj,Qk,Ql,Qm,Qn,Qo,Qp,Qq,Qr,Qs,Qt,Qu,Qv,Qw,Qx,Qy,Qz,Q10,Q11,Q12,Q13,Q14,Q15,Q16,Q17,Q18,Q19,Q1a,Q1b,Q1c,Q1d,Q1e,Q1f,Q1g,Q1h,Q1i,Q1i,Q1j,Q1k,Q1l,Q1m,Q1n,Q1o,Q1p,Q1q,Q1r,Q1s,rvV,Q1t,rvD,Q1u,Q1v,Q1w,Q1x,Q1y,Q1z,Q20,Q21,Q22,Q23,Q24,Q25,Q26,Q27,Q28,Q29,Q2a,Q2b,Q2c,Q2d,leD,ltD,Q2e,Q2f,Q2g,Q2h,Q2i,Q2j,Q2k,Q2l,Q2m,Q2n,Q2o,Q2p,Q2q,Q2r,clr,Q2s,Q2t,Q2u,Q2v,beq_self_eq_true,Q2w,Q2x,Q2y,Q2z,Q30,Q31,Q32,Q33,Q34,Q35,Q36,Q37,Q38,Q39,Q3a,Q3b,Q3c,Q3d,if_false,if_true,Q3e,Q3f,Q3g,Q3h,decide_eq_true_eq,Q3i,Q3j,Q3k,Q3l,Q3m,Q3n,Q3o,Q3p,reduceIte,reduceCtorEq,Q3q,Q3r,Q3s,Q3t,Q3u,Q3v,Q3w,Q3x,Q3y,Q3z,and_true,true_and,and_self,Q40,Q41,Q42,Q43,na2,na3,na4,na5,na6,na9,Q44,Q45,Q46,Q47,Q48,ne_eq,not_false_eq_true]
    have e : fitB (.int i) = decide ((i.natAbs : Int) < 1000000000000000000) := by
      have e0 : fitB (.int i) = (goodN i && true) := rfl
      rw [e0]
      unfold goodN
      rw [Bool.and_true, ← Bool.decide_and]
      exact decide_eq_decide.mpr (by omega)
    unfold fitD
    by_cases q : (i.natAbs : Int) < 1000000000000000000
    · rw [e, decide_eq_true q, if_neg (by omega)]
      simp only [Bool.false_eq_true, if_false, if_true, ix0]
      simp only [Q0,Q1,Q2,Q3,Q4,Q5,Q6,Q7,Q8,Q9,Qa,Qb,Qc,Qd,Qe,Qf,Qg,Qh,Qi,Qj,Qk,Ql,Qm,Qn,Qo,Qp,Qq,Qr,Qs,Qt,Qu,Qv,Qw,Qx,Qy,Qz,Q10,Q11,Q12,Q13,Q14,Q15,Q16,Q17,Q18,Q19,Q1a,Q1b,Q1c,Q1d,Q1e,Q1f,Q1g,Q1h,Q1i,Q1i,Q1j,Q1k,Q1l,Q1m,Q1n,Q1o,Q1p,Q1q,Q1r,Q1s,rvV,Q1t,rvD,Q1u,Q1v,Q1w,Q1x,Q1y,Q1z,Q20,Q21,Q22,Q23,Q24,Q25,Q26,Q27,Q28,Q29,Q2a,Q2b,Q2c,Q2d,leD,ltD,Q2e,Q2f,Q2g,Q2h,Q2i,Q2j,Q2k,Q2l,Q2m,Q2n,Q2o,Q2p,Q2q,Q2r,clr,Q2s,Q2t,Q2u,Q2v,beq_self_eq_true,Q2w,Q2x,Q2y,Q2z,Q30,Q31,Q32,Q33,Q34,Q35,Q36,Q37,Q38,Q39,Q3a,Q3b,Q3c,Q3d,if_false,if_true,Q3e,Q3f,Q3g,Q3h,decide_eq_true_eq,Q3i,Q3j,Q3k,Q3l,Q3m,Q3n,Q3o,Q3p,reduceIte,reduceCtorEq,Q3q,Q3r,Q3s,Q3t,Q3u,Q3v,Q3w,Q3x,Q3y,Q3z,and_true,true_and,and_self,Q40,Q41,Q42,Q43,na2,na3,na4,na5,na6,na9,Q44,Q45,Q46,Q47,Q48,ne_eq,not_false_eq_true]
    · rw [e, decide_eq_false q, if_pos (by omega)]
      simp only [Bool.false_eq_true, if_false, if_true, ix1]
      simp only [Q0,Q1,Q2,Q3,Q4,Q5,Q6,Q7,Q8,Q9,Qa,Qb,Qc,Qd,Qe,Qf,Qg,Qh,Qi,Qj,Qk,Ql,Qm,Qn,Qo,Qp,Qq,Qr,Qs,Qt,Qu,Qv,Qw,Qx,Qy,Qz,Q10,Q11,Q12,Q13,Q14,Q15,Q16,Q17,Q18,Q19,Q1a,Q1b,Q1c,Q1d,Q1e,Q1f,Q1g,Q1h,Q1i,Q1i,Q1j,Q1k,Q1l,Q1m,Q1n,Q1o,Q1p,Q1q,Q1r,Q1s,rvV,Q1t,rvD,Q1u,Q1v,Q1w,Q1x,Q1y,Q1z,Q20,Q21,Q22,Q23,Q24,Q25,Q26,Q27,Q28,Q29,Q2a,Q2b,Q2c,Q2d,leD,ltD,Q2e,Q2f,Q2g,Q2h,Q2i,Q2j,Q2k,Q2l,Q2m,Q2n,Q2o,Q2p,Q2q,Q2r,clr,Q2s,Q2t,Q2u,Q2v,beq_self_eq_true,Q2w,Q2x,Q2y,Q2z,Q30,Q31,Q32,Q33,Q34,Q35,Q36,Q37,Q38,Q39,Q3a,Q3b,Q3c,Q3d,if_false,if_true,Q3e,Q3f,Q3g,Q3h,decide_eq_true_eq,Q3i,Q3j,Q3k,Q3l,Q3m,Q3n,Q3o,Q3p,reduceIte,reduceCtorEq,Q3q,Q3r,Q3s,Q3t,Q3u,Q3v,Q3w,Q3x,Q3y,Q3z,and_true,true_and,and_self,Q40,Q41,Q42,Q43,na2,na3,na4,na5,na6,na9,Q44,Q45,Q46,Q47,Q48,ne_eq,not_false_eq_true]
  · simp only [Q0,Q1,Q2,Q3,Q4,Q5,Q6,Q7,Q8,Q9,Qa,Qb,Qc,Qd,Qe,Qf,Qg,Qh,Qi,Qj,Qk,Ql,Qm,Qn,Qo,Qp,Qq,Qr,Qs,Qt,Qu,Qv,Qw,Qx,Qy,Qz,Q10,Q11,Q12,Q13,Q14,Q15,Q16,Q17,Q18,Q19,Q1a,Q1b,Q1c,Q1d,Q1e,Q1f,Q1g,Q1h,Q1i,Q1i,Q1j,Q1k,Q1l,Q1m,Q1n,Q1o,Q1p,Q1q,Q1r,Q1s,rvV,Q1t,rvD,Q1u,Q1v,Q1w,Q1x,Q1y,Q1z,Q20,Q21,Q22,Q23,Q24,Q25,Q26,Q27,Q28,Q29,Q2a,Q2b,Q2c,Q2d,leD,ltD,Q2e,Q2f,Q2g,Q2h,Q2i,Q2j,Q2k,Q2l,Q2m,Q2n,Q2o,Q2p,Q2q,Q2r,clr,Q2s,Q2t,Q2u,Q2v,beq_self_eq_true,Q2w,Q2x,Q2y,Q2z,Q30,Q31,Q32,Q33,Q34,Q35,Q36,Q37,Q38,Q39,Q3a,Q3b,Q3c,Q3d,if_false,if_true,Q3e,Q3f,Q3g,Q3h,decide_eq_true_eq,Q3i,Q3j,Q3k,Q3l,Q3m,Q3n,Q3o,Q3p,reduceIte,reduceCtorEq,Q3q,Q3r,Q3s,Q3t,Q3u,Q3v,Q3w,Q3x,Q3y,Q3z,and_true,true_and,and_self,Q40,Q41,Q42,Q43,na2,na3,na4,na5,na6,na9,Q44,Q45,Q46,Q47,Q48,ne_eq,not_false_eq_true]
    simp only [lweight_eq n _ h]
    simp only [Q0,Q1,Q2,Q3,Q4,Q5,Q6,Q7,Q8,Q9,Qa,Qb,Qc,Qd,Qe,Qf,Qg,Qh,Qi,Qj,Qk,Ql,Qm,Qn,Qo,Qp,Qq,Qr,Qs,Qt,Qu,Qv,Qw,Qx,Qy,Qz,Q10,Q11,Q12,Q13,Q14,Q15,Q16,Q17,Q18,Q19,Q1a,Q1b,Q1c,Q1d,Q1e,Q1f,Q1g,Q1h,Q1i,Q1i,Q1j,Q1k,Q1l,Q1m,Q1n,Q1o,Q1p,Q1q,Q1r,Q1s,rvV,Q1t,rvD,Q1u,Q1v,Q1w,Q1x,Q1y,Q1z,Q20,Q21,Q22,Q23,Q24,Q25,Q26,Q27,Q28,Q29,Q2a,Q2b,Q2c,Q2d,leD,ltD,Q2e,Q2f,Q2g,Q2h,Q2i,Q2j,Q2k,Q2l,Q2m,Q2n,Q2o,Q2p,Q2q,Q2r,clr,Q2s,Q2t,Q2u,Q2v,beq_self_eq_true,Q2w,Q2x,Q2y,Q2z,Q30,Q31,Q32,Q33,Q34,Q35,Q36,Q37,Q38,Q39,Q3a,Q3b,Q3c,Q3d,if_false,if_true,Q3e,Q3f,Q3g,Q3h,decide_eq_true_eq,Q3i,Q3j,Q3k,Q3l,Q3m,Q3n,Q3o,Q3p,reduceIte,reduceCtorEq,Q3q,Q3r,Q3s,Q3t,Q3u,Q3v,Q3w,Q3x,Q3y,Q3z,and_true,true_and,and_self,Q40,Q41,Q42,Q43,na2,na3,na4,na5,na6,na9,Q44,Q45,Q46,Q47,Q48,ne_eq,not_false_eq_true]
    simp only [lweight_eq n _ h]
    simp only [Q0,Q1,Q2,Q3,Q4,Q5,Q6,Q7,Q8,Q9,Qa,Qb,Qc,Qd,Qe,Qf,Qg,Qh,Qi,Qj,Qk,Ql,Qm,Qn,Qo,Qp,Qq,Qr,Qs,Qt,Qu,Qv,Qw,Qx,Qy,Qz,Q10,Q11,Q12,Q13,Q14,Q15,Q16,Q17,Q18,Q19,Q1a,Q1b,Q1c,Q1d,Q1e,Q1f,Q1g,Q1h,Q1i,Q1i,Q1j,Q1k,Q1l,Q1m,Q1n,Q1o,Q1p,Q1q,Q1r,Q1s,rvV,Q1t,rvD,Q1u,Q1v,Q1w,Q1x,Q1y,Q1z,Q20,Q21,Q22,Q23,Q24,Q25,Q26,Q27,Q28,Q29,Q2a,Q2b,Q2c,Q2d,leD,ltD,Q2e,Q2f,Q2g,Q2h,Q2i,Q2j,Q2k,Q2l,Q2m,Q2n,Q2o,Q2p,Q2q,Q2r,clr,Q2s,Q2t,Q2u,Q2v,beq_self_eq_true,Q2w,Q2x,Q2y,Q2z,Q30,Q31,Q32,Q33,Q34,Q35,Q36,Q37,Q38,Q39,Q3a,Q3b,Q3c,Q3d,if_false,if_true,Q3e,Q3f,Q3g,Q3h,decide_eq_true_eq,Q3i,Q3j,Q3k,Q3l,Q3m,Q3n,Q3o,Q3p,reduceIte,reduceCtorEq,Q3q,Q3r,Q3s,Q3t,Q3u,Q3v,Q3w,Q3x,Q3y,Q3z,and_true,true_and,and_self,Q40,Q41,Q42,Q43,na2,na3,na4,na5,na6,na9,Q44,Q45,Q46,Q47,Q48,ne_eq,not_false_eq_true]
    have e : fitB (.tuple ds) = decide ((wt (.tuple ds) : Int) ≤ 50) := by
      show (goods ds && decide (wt (.tuple ds) ≤ 50)) = _
      rw [hg, Bool.true_and]
      exact decide_eq_decide.mpr (by omega)
    unfold fitD
    by_cases q : (wt (.tuple ds) : Int) ≤ 50
    · rw [e, decide_eq_true q, if_neg (by omega)]
      simp only [Bool.false_eq_true, if_false, if_true, ix0]
      simp only [Q0,Q1,Q2,Q3,Q4,Q5,Q6,Q7,Q8,Q9,Qa,Qb,Qc,Qd,Qe,Qf,Qg,Qh,Qi,Qj,Qk,Ql,Qm,Qn,Qo,Qp,Qq,Qr,Qs,Qt,Qu,Qv,Qw,Qx,Qy,Qz,Q10,Q11,Q12,Q13,Q14,Q15,Q16,Q17,Q18,Q19,Q1a,Q1b,Q1c,Q1d,Q1e,Q1f,Q1g,Q1h,Q1i,Q1i,Q1j,Q1k,Q1l,Q1m,Q1n,Q1o,Q1p,Q1q,Q1r,Q1s,rvV,Q1t,rvD,Q1u,Q1v,Q1w,Q1x,Q1y,Q1z,Q20,Q21,Q22,Q23,Q24,Q25,Q26,Q27,Q28,Q29,Q2a,Q2b,Q2c,Q2d,leD,ltD,Q2e,Q2f,Q2g,Q2h,Q2i,Q2j,Q2k,Q2l,Q2m,Q2n,Q2o,Q2p,Q2q,Q2r,clr,Q2s,Q2t,Q2u,Q2v,beq_self_eq_true,Q2w,Q2x,Q2y,Q2z,Q30,Q31,Q32,Q33,Q34,Q35,Q36,Q37,Q38,Q39,Q3a,Q3b,Q3c,Q3d,if_false,if_true,Q3e,Q3f,Q3g,Q3h,decide_eq_true_eq,Q3i,Q3j,Q3k,Q3l,Q3m,Q3n,Q3o,Q3p,reduceIte,reduceCtorEq,Q3q,Q3r,Q3s,Q3t,Q3u,Q3v,Q3w,Q3x,Q3y,Q3z,and_true,true_and,and_self,Q40,Q41,Q42,Q43,na2,na3,na4,na5,na6,na9,Q44,Q45,Q46,Q47,Q48,ne_eq,not_false_eq_true]
    · rw [e, decide_eq_false q, if_pos (by omega)]
      simp only [Bool.false_eq_true, if_false, if_true, ix1]
      simp only [Q0,Q1,Q2,Q3,Q4,Q5,Q6,Q7,Q8,Q9,Qa,Qb,Qc,Qd,Qe,Qf,Qg,Qh,Qi,Qj,Qk,Ql,Qm,Qn,Qo,Qp,Qq,Qr,Qs,Qt,Qu,Qv,Qw,Qx,Qy,Qz,Q10,Q11,Q12,Q13,Q14,Q15,Q16,Q17,Q18,Q19,Q1a,Q1b,Q1c,Q1d,Q1e,Q1f,Q1g,Q1h,Q1i,Q1i,Q1j,Q1k,Q1l,Q1m,Q1n,Q1o,Q1p,Q1q,Q1r,Q1s,rvV,Q1t,rvD,Q1u,Q1v,Q1w,Q1x,Q1y,Q1z,Q20,Q21,Q22,Q23,Q24,Q25,Q26,Q27,Q28,Q29,Q2a,Q2b,Q2c,Q2d,leD,ltD,Q2e,Q2f,Q2g,Q2h,Q2i,Q2j,Q2k,Q2l,Q2m,Q2n,Q2o,Q2p,Q2q,Q2r,clr,Q2s,Q2t,Q2u,Q2v,beq_self_eq_true,Q2w,Q2x,Q2y,Q2z,Q30,Q31,Q32,Q33,Q34,Q35,Q36,Q37,Q38,Q39,Q3a,Q3b,Q3c,Q3d,if_false,if_true,Q3e,Q3f,Q3g,Q3h,decide_eq_true_eq,Q3i,Q3j,Q3k,Q3l,Q3m,Q3n,Q3o,Q3p,reduceIte,reduceCtorEq,Q3q,Q3r,Q3s,Q3t,Q3u,Q3v,Q3w,Q3x,Q3y,Q3z,and_true,true_and,and_self,Q40,Q41,Q42,Q43,na2,na3,na4,na5,na6,na9,Q44,Q45,Q46,Q47,Q48,ne_eq,not_false_eq_true]

/-! ### the same -/
mutual
noncomputable def sm : D → Bool
  | .tuple ds => sms ds
  | .int _ => true
  | .str _ => true
  | _ => false
noncomputable def sms : List D → Bool
  | [] => true
  | d :: ds => sm d && sms ds
end
mutual
theorem sm_good : ∀ d : D, good d = true → sm d = true
  | .tuple ds, h => sms_good ds h
  | .int _, _ => rfl
  | .str _, h => by cases h
  | .none, h => by cases h
  | .bool _, h => by cases h
  | .list _, h => by cases h
  | .dict _, h => by cases h
theorem sms_good : ∀ ds : List D, goods ds = true → sms ds = true
  | [], _ => rfl
  | d :: ds, h => by
    have h : (good d && goods ds) = true := h
    rw [Bool.and_eq_true] at h
    show (sm d && sms ds) = true
    rw [sm_good d h.1, sms_good ds h.2]; rfl
end
theorem len_wts : ∀ ds : List D, ds.length ≤ wts ds
  | [] => Nat.le_refl _
  | d :: ds => by
    have := len_wts ds
    have h1 := wt_pos d
    show ds.length + 1 ≤ wt d + wts ds
    omega
theorem deps_get {ds : List D} {k : Nat} (h : k < ds.length) : dep ds[k] ≤ deps ds := by
  induction ds generalizing k with
  | nil => cases h
  | cons d ds ih =>
    have e : deps (d :: ds) = max (dep d) (deps ds) := rfl
    cases k with
    | zero => simp only [List.getElem_cons_zero]; omega
    | succ k => simp only [List.getElem_cons_succ]; have := ih (by simpa using h); omega
theorem sms_get {ds : List D} {k : Nat} (h : k < ds.length) (hs : sms ds = true) : sm ds[k] = true := by
  induction ds generalizing k with
  | nil => cases h
  | cons d ds ih =>
    have hs : (sm d && sms ds) = true := hs
    rw [Bool.and_eq_true] at hs
    cases k with
    | zero => exact hs.1
    | succ k => exact ih (by simpa using h) hs.2
theorem wts_get {ds : List D} {k : Nat} (h : k < ds.length) : wt ds[k] ≤ wts ds := by
  induction ds generalizing k with
  | nil => cases h
  | cons d ds ih =>
    have e : wts (d :: ds) = wt d + wts ds := rfl
    cases k with
    | zero => simp only [List.getElem_cons_zero]; omega
    | succ k => simp only [List.getElem_cons_succ]; have := ih (by simpa using h); omega
theorem idx_nat {ds : List D} {k : Nat} (h : k < ds.length) : idxOf ds (0 + (k : Int)) = some ds[k] := by
  unfold idxOf
  rw [if_pos (by omega), show (0 + (k : Int)).toNat = k from by omega]
  exact List.getElem?_eq_getElem h
theorem same_loop (n : Nat) (ds : List D) (ih : ∀ d : D, dep d < n → sm d = true → wt d ≤ 1000 → callF P n false 11 [.fz d, .fz d] = some (.ok (.fz (.bool true)), [])) (h1 : deps ds < n) (h2 : sms ds = true) (h3 : wts ds ≤ 1000) : ∀ (ks : List Nat) (s2 : Slot), (∀ k ∈ ks, k < ds.length) →
    forB ⟨P.glob, callF P n, [], false⟩ [.fz (.tuple ds), .fz (.tuple ds), s2] (.one 2) [.iff (.not (.call 11 [(.idx (.var 0) (.var 2)), (.idx (.var 1) (.var 2))])) [.ret (.lit (.bool false))] []] [2] (ks.map fun (k : Nat) => .int (0 + k)) = some (.ok .next, [.fz (.tuple ds), .fz (.tuple ds), .no])
  | [], s2, _ => by rw [List.map_nil, forB_nil]; simp only [Q0,Q1,Q2,Q3,Q4,Q5,Q6,Q7,Q8,Q9,Qa,Qb,Qc,Qd,Qe,Qf,Qg,Qh,Qi,Qj,Qk,Ql,Qm,Qn,Qo,Qp,Qq,Qr,Qs,Qt,Qu,Qv,Qw,Qx,Qy,Qz,Q10,Q11,Q12,Q13,Q14,Q15,Q16,Q17,Q18,Q19,Q1a,Q1b,Q1c,Q1d,Q1e,Q1f,Q1g,Q1h,Q1i,Q1i,Q1j,Q1k,Q1l,Q1m,Q1n,Q1o,Q1p,Q1q,Q1r,Q1s,rvV,Q1t,rvD,Q1u,Q1v,Q1w,Q1x,Q1y,Q1z,Q20,Q21,Q22,Q23,Q24,Q25,Q26,Q27,Q28,Q29,Q2a,Q2b,Q2c,Q2d,leD,ltD,Q2e,Q2f,Q2g,Q2h,Q2i,Q2j,Q2k,Q2l,Q2m,Q2n,Q2o,Q2p,Q2q,Q2r,clr,Q2s,Q2t,Q2u,Q2v,beq_self_eq_true,Q2w,Q2x,Q2y,Q2z,Q30,Q31,Q32,Q33,Q34,Q35,Q36,Q37,Q38,Q39,Q3a,Q3b,Q3c,Q3d,if_false,if_true,Q3e,Q3f,Q3g,Q3h,decide_eq_true_eq,Q3i,Q3j,Q3k,Q3l,Q3m,Q3n,Q3o,Q3p,reduceIte,reduceCtorEq,Q3q,Q3r,Q3s,Q3t,Q3u,Q3v,Q3w,Q3x,Q3y,Q3z,and_true,true_and,and_self,Q40,Q41,Q42,Q43,na2,na3,na4,na5,na6,na9,Q44,Q45,Q46,Q47,Q48,ne_eq,not_false_eq_true]
  | k :: ks, s2, hk => by
    have hk0 := hk k List.mem_cons_self
    have rc := same_loop n ds ih h1 h2 h3 ks (.fz (.int (0 + k))) fun j hj => hk j (List.mem_cons_of_mem _ hj)
    rw [List.map_cons, forB_cons]
    simp only [Q0,Q1,Q2,Q3,Q4,Q5,Q6,Q7,Q8,Q9,Qa,Qb,Qc,Qd,Qe,Qf,Qg,Qh,Qi,Qj,Qk,Ql,Qm,Qn,Qo,Qp,Qq,Qr,Qs,Qt,Qu,Qv,Qw,Qx,Qy,Qz,Q10,Q11,Q12,Q13,Q14,Q15,Q16,Q17,Q18,Q19,Q1a,Q1b,Q1c,Q1d,Q1e,Q1f,Q1g,Q1h,Q1i,Q1i,Q1j,Q1k,Q1l,Q1m,Q1n,Q1o,Q1p,Q1q,Q1r,Q1s,rvV,Q1t,rvD,Q1u,Q1v,Q1w,Q1x,Q1y,Q1z,Q20,Q21,Q22,Q23,Q24,Q25,Q26,Q27,Q28,Q29,Q2a,Q2b,Q2c,Q2d,leD,ltD,Q2e,Q2f,Q2g,Q2h,Q2i,Q2j,Q2k,Q2l,Q2m,Q2n,Q2o,Q2p,Q2q,Q2r,clr,Q2s,Q2t,Q2u,Q2v,beq_self_eq_true,Q2w,Q2x,Q2y,Q2z,Q30,Q31,Q32,Q33,Q34,Q35,Q36,Q37,Q38,Q39,Q3a,Q3b,Q3c,Q3d,if_false,if_true,Q3e,Q3f,Q3g,Q3h,decide_eq_true_eq,Q3i,Q3j,Q3k,Q3l,Q3m,Q3n,Q3o,Q3p,reduceIte,reduceCtorEq,Q3q,Q3r,Q3s,Q3t,Q3u,Q3v,Q3w,Q3x,Q3y,Q3z,and_true,true_and,and_self,Q40,Q41,Q42,Q43,na2,na3,na4,na5,na6,na9,Q44,Q45,Q46,Q47,Q48,ne_eq,not_false_eq_true]
    rw [idx_nat hk0]
    simp only [Q0,Q1,Q2,Q3,Q4,Q5,Q6,Q7,Q8,Q9,Qa,Qb,Qc,Qd,Qe,Qf,Qg,Qh,Qi,Qj,Qk,Ql,Qm,Qn,Qo,Qp,Qq,Qr,Qs,Qt,Qu,Qv,Qw,Qx,Qy,Qz,Q10,Q11,Q12,Q13,Q14,Q15,Q16,Q17,Q18,Q19,Q1a,Q1b,Q1c,Q1d,Q1e,Q1f,Q1g,Q1h,Q1i,Q1i,Q1j,Q1k,Q1l,Q1m,Q1n,Q1o,Q1p,Q1q,Q1r,Q1s,rvV,Q1t,rvD,Q1u,Q1v,Q1w,Q1x,Q1y,Q1z,Q20,Q21,Q22,Q23,Q24,Q25,Q26,Q27,Q28,Q29,Q2a,Q2b,Q2c,Q2d,leD,ltD,Q2e,Q2f,Q2g,Q2h,Q2i,Q2j,Q2k,Q2l,Q2m,Q2n,Q2o,Q2p,Q2q,Q2r,clr,Q2s,Q2t,Q2u,Q2v,beq_self_eq_true,Q2w,Q2x,Q2y,Q2z,Q30,Q31,Q32,Q33,Q34,Q35,Q36,Q37,Q38,Q39,Q3a,Q3b,Q3c,Q3d,if_false,if_true,Q3e,Q3f,Q3g,Q3h,decide_eq_true_eq,Q3i,Q3j,Q3k,Q3l,Q3m,Q3n,Q3o,Q3p,reduceIte,reduceCtorEq,Q3q,Q3r,Q3s,Q3t,Q3u,Q3v,Q3w,Q3x,Q3y,Q3z,and_true,true_and,and_self,Q40,Q41,Q42,Q43,na2,na3,na4,na5,na6,na9,Q44,Q45,Q46,Q47,Q48,ne_eq,not_false_eq_true]
    rw [idx_nat hk0]
    simp only [Q0,Q1,Q2,Q3,Q4,Q5,Q6,Q7,Q8,Q9,Qa,Qb,Qc,Qd,Qe,Qf,Qg,Qh,Qi,Qj,Qk,Ql,Qm,Qn,Qo,Qp,Qq,Qr,Qs,Qt,Qu,Qv,Qw,Qx,Qy,Qz,Q10,Q11,Q12,Q13,Q14,Q15,Q16,Q17,Q18,Q19,Q1a,Q1b,Q1c,Q1d,Q1e,Q1f,Q1g,Q1h,Q1i,Q1i,Q1j,Q1k,Q1l,Q1m,Q1n,Q1o,Q1p,Q1q,Q1r,Q1s,rvV,Q1t,rvD,Q1u,Q1v,Q1w,Q1x,Q1y,Q1z,Q20,Q21,Q22,Q23,Q24,Q25,Q26,Q27,Q28,Q29,Q2a,Q2b,Q2c,Q2d,leD,ltD,Q2e,Q2f,Q2g,Q2h,Q2i,Q2j,Q2k,Q2l,Q2m,Q2n,Q2o,Q2p,Q2q,Q2r,clr,Q2s,Q2t,Q2u,Q2v,beq_self_eq_true,Q2w,Q2x,Q2y,Q2z,Q30,Q31,Q32,Q33,Q34,Q35,Q36,Q37,Q38,Q39,Q3a,Q3b,Q3c,Q3d,if_false,if_true,Q3e,Q3f,Q3g,Q3h,decide_eq_true_eq,Q3i,Q3j,Q3k,Q3l,Q3m,Q3n,Q3o,Q3p,reduceIte,reduceCtorEq,Q3q,Q3r,Q3s,Q3t,Q3u,Q3v,Q3w,Q3x,Q3y,Q3z,and_true,true_and,and_self,Q40,Q41,Q42,Q43,na2,na3,na4,na5,na6,na9,Q44,Q45,Q46,Q47,Q48,ne_eq,not_false_eq_true]
    simp only [ih ds[k] (by have := deps_get hk0; omega) (sms_get hk0 h2) (by have := wts_get hk0; omega)]
    simp only [Q0,Q1,Q2,Q3,Q4,Q5,Q6,Q7,Q8,Q9,Qa,Qb,Qc,Qd,Qe,Qf,Qg,Qh,Qi,Qj,Qk,Ql,Qm,Qn,Qo,Qp,Qq,Qr,Qs,Qt,Qu,Qv,Qw,Qx,Qy,Qz,Q10,Q11,Q12,Q13,Q14,Q15,Q16,Q17,Q18,Q19,Q1a,Q1b,Q1c,Q1d,Q1e,Q1f,Q1g,Q1h,Q1i,Q1i,Q1j,Q1k,Q1l,Q1m,Q1n,Q1o,Q1p,Q1q,Q1r,Q1s,rvV,Q1t,rvD,Q1u,Q1v,Q1w,Q1x,Q1y,Q1z,Q20,Q21,Q22,Q23,Q24,Q25,Q26,Q27,Q28,Q29,Q2a,Q2b,Q2c,Q2d,leD,ltD,Q2e,Q2f,Q2g,Q2h,Q2i,Q2j,Q2k,Q2l,Q2m,Q2n,Q2o,Q2p,Q2q,Q2r,clr,Q2s,Q2t,Q2u,Q2v,beq_self_eq_true,Q2w,Q2x,Q2y,Q2z,Q30,Q31,Q32,Q33,Q34,Q35,Q36,Q37,Q38,Q39,Q3a,Q3b,Q3c,Q3d,if_false,if_true,Q3e,Q3f,Q3g,Q3h,decide_eq_true_eq,Q3i,Q3j,Q3k,Q3l,Q3m,Q3n,Q3o,Q3p,reduceIte,reduceCtorEq,Q3q,Q3r,Q3s,Q3t,Q3u,Q3v,Q3w,Q3x,Q3y,Q3z,and_true,true_and,and_self,Q40,Q41,Q42,Q43,na2,na3,na4,na5,na6,na9,Q44,Q45,Q46,Q47,Q48,ne_eq,not_false_eq_true]
    exact rc
theorem same_eq : ∀ (n : Nat) (d : D), dep d < n → sm d = true → wt d ≤ 1000 → callF P n false 11 [.fz d, .fz d] = some (.ok (.fz (.bool true)), []) := by
  intro n
  induction n with
  | zero => intro d h; omega
  | succ n ih =>
    intro d h hs hw
    rw [call_11, f_l_same]
    cases d with
    | tuple ds =>
      have hw' : wts ds ≤ 1000 := by have : wt (.tuple ds) = 1 + wts ds := rfl; omega
      have hl := len_wts ds
      simp only [Q0,Q1,Q2,Q3,Q4,Q5,Q6,Q7,Q8,Q9,Qa,Qb,Qc,Qd,Qe,Qf,Qg,Qh,Qi,Qj,Qk,Ql,Qm,Qn,Qo,Qp,Qq,Qr,Qs,Qt,Qu,Qv,Qw,Qx,Qy,Qz,Q10,Q11,Q12,Q13,Q14,Q15,Q16,Q17,Q18,Q19,Q1a,Q1b,Q1c,Q1d,Q1e,Q1f,Q1g,Q1h,Q1i,Q1i,Q1j,Q1k,Q1l,Q1m,Q1n,Q1o,Q1p,Q1q,Q1r,Q1s,rvV,Q1t,rvD,Q1u,Q1v,Q1w,Q1x,Q1y,Q1z,Q20,Q21,Q22,Q23,Q24,Q25,Q26,Q27,Q28,Q29,Q2a,Q2b,Q2c,Q2d,leD,ltD,Q2e,Q2f,Q2g,Q2h,Q2i,Q2j,Q2k,Q2l,Q2m,Q2n,Q2o,Q2p,Q2q,Q2r,clr,Q2s,Q2t,Q2u,Q2v,beq_self_eq_true,Q2w,Q2x,Q2y,Q2z,Q30,Q31,Q32,Q33,Q34,Q35,Q36,Q37,Q38,Q39,Q3a,Q3b,Q3c,Q3d,if_false,if_true,Q3e,Q3f,Q3g,Q3h,decide_eq_true_eq,Q3i,Q3j,Q3k,Q3l,Q3m,Q3n,Q3o,Q3p,reduceIte,reduceCtorEq,Q3q,Q3r,Q3s,Q3t,Q3u,Q3v,Q3w,Q3x,Q3y,Q3z,and_true,true_and,and_self,Q40,Q41,Q42,Q43,na2,na3,na4,na5,na6,na9,Q44,Q45,Q46,Q47,Q48,ne_eq,not_false_eq_true]
      rw [if_pos ⟨by omega, by show (ds.length : Int) ≤ 16777216; omega⟩]
      simp only [Q0,Q1,Q2,Q3,Q4,Q5,Q6,Q7,Q8,Q9,Qa,Qb,Qc,Qd,Qe,Qf,Qg,Qh,Qi,Qj,Qk,Ql,Qm,Qn,Qo,Qp,Qq,Qr,Qs,Qt,Qu,Qv,Qw,Qx,Qy,Qz,Q10,Q11,Q12,Q13,Q14,Q15,Q16,Q17,Q18,Q19,Q1a,Q1b,Q1c,Q1d,Q1e,Q1f,Q1g,Q1h,Q1i,Q1i,Q1j,Q1k,Q1l,Q1m,Q1n,Q1o,Q1p,Q1q,Q1r,Q1s,rvV,Q1t,rvD,Q1u,Q1v,Q1w,Q1x,Q1y,Q1z,Q20,Q21,Q22,Q23,Q24,Q25,Q26,Q27,Q28,Q29,Q2a,Q2b,Q2c,Q2d,leD,ltD,Q2e,Q2f,Q2g,Q2h,Q2i,Q2j,Q2k,Q2l,Q2m,Q2n,Q2o,Q2p,Q2q,Q2r,clr,Q2s,Q2t,Q2u,Q2v,beq_self_eq_true,Q2w,Q2x,Q2y,Q2z,Q30,Q31,Q32,Q33,Q34,Q35,Q36,Q37,Q38,Q39,Q3a,Q3b,Q3c,Q3d,if_false,if_true,Q3e,Q3f,Q3g,Q3h,decide_eq_true_eq,Q3i,Q3j,Q3k,Q3l,Q3m,Q3n,Q3o,Q3p,reduceIte,reduceCtorEq,Q3q,Q3r,Q3s,Q3t,Q3u,Q3v,Q3w,Q3x,Q3y,Q3z,and_true,true_and,and_self,Q40,Q41,Q42,Q43,na2,na3,na4,na5,na6,na9,Q44,Q45,Q46,Q47,Q48,ne_eq,not_false_eq_true]
      have e : rangeL 0 (Int.toNat (ds.length : Int)) = (List.range ds.length).map fun (k : Nat) => PyData.int (0 + k) := by unfold rangeL; rw [Int.toNat_natCast]
      rw [e, same_loop n ds ih (by rw [deps_tuple] at h; omega) hs hw' _ _ fun k hk => List.mem_range.mp hk]
      simp only [Q0,Q1,Q2,Q3,Q4,Q5,Q6,Q7,Q8,Q9,Qa,Qb,Qc,Qd,Qe,Qf,Qg,Qh,Qi,Qj,Qk,Ql,Qm,Qn,Qo,Qp,Qq,Qr,Qs,Qt,Qu,Qv,Qw,Qx,Qy,Qz,Q10,Q11,Q12,Q13,Q14,Q15,Q16,Q17,Q18,Q19,Q1a,Q1b,Q1c,Q1d,Q1e,Q1f,Q1g,Q1h,Q1i,Q1i,Q1j,Q1k,Q1l,Q1m,Q1n,Q1o,Q1p,Q1q,Q1r,Q1s,rvV,Q1t,rvD,Q1u,Q1v,Q1w,Q1x,Q1y,Q1z,Q20,Q21,Q22,Q23,Q24,Q25,Q26,Q27,Q28,Q29,Q2a,Q2b,Q2c,Q2d,leD,ltD,Q2e,Q2f,Q2g,Q2h,Q2i,Q2j,Q2k,Q2l,Q2m,Q2n,Q2o,Q2p,Q2q,Q2r,clr,Q2s,Q2t,Q2u,Q2v,beq_self_eq_true,Q2w,Q2x,Q2y,Q2z,Q30,Q31,Q32,Q33,Q34,Q35,Q36,Q37,Q38,Q39,Q3a,Q3b,Q3c,Q3d,if_false,if_true,Q3e,Q3f,Q3g,Q3h,decide_eq_true_eq,Q3i,Q3j,Q3k,Q3l,Q3m,Q3n,Q3o,Q3p,reduceIte,reduceCtorEq,Q3q,Q3r,Q3s,Q3t,Q3u,Q3v,Q3w,Q3x,Q3y,Q3z,and_true,true_and,and_self,Q40,Q41,Q42,Q43,na2,na3,na4,na5,na6,na9,Q44,Q45,Q46,Q47,Q48,ne_eq,not_false_eq_true]
    | int i => simp only [Q0,Q1,Q2,Q3,Q4,Q5,Q6,Q7,Q8,Q9,Qa,Qb,Qc,Qd,Qe,Qf,Qg,Qh,Qi,Qj,Qk,Ql,Qm,Qn,Qo,Qp,Qq,Qr,Qs,Qt,Qu,Qv,Qw,Qx,Qy,Qz,Q10,Q11,Q12,Q13,Q14,Q15,Q16,Q17,Q18,Q19,Q1a,Q1b,Q1c,Q1d,Q1e,Q1f,Q1g,Q1h,Q1i,Q1i,Q1j,Q1k,Q1l,Q1m,Q1n,Q1o,Q1p,Q1q,Q1r,Q1s,rvV,Q1t,rvD,Q1u,Q1v,Q1w,Q1x,Q1y,Q1z,Q20,Q21,Q22,Q23,Q24,Q25,Q26,Q27,Q28,Q29,Q2a,Q2b,Q2c,Q2d,leD,ltD,Q2e,Q2f,Q2g,Q2h,Q2i,Q2j,Q2k,Q2l,Q2m,Q2n,Q2o,Q2p,Q2q,Q2r,clr,Q2s,Q2t,Q2u,Q2v,beq_self_eq_true,Q2w,Q2x,Q2y,Q2z,Q30,Q31,Q32,Q33,Q34,Q35,Q36,Q37,Q38,Q39,Q3a,Q3b,Q3c,Q3d,if_false,if_true,Q3e,Q3f,Q3g,Q3h,decide_eq_true_eq,Q3i,Q3j,Q3k,Q3l,Q3m,Q3n,Q3o,Q3p,reduceIte,reduceCtorEq,Q3q,Q3r,Q3s,Q3t,Q3u,Q3v,Q3w,Q3x,Q3y,Q3z,and_true,true_and,and_self,Q40,Q41,Q42,Q43,na2,na3,na4,na5,na6,na9,Q44,Q45,Q46,Q47,Q48,ne_eq,not_false_eq_true]
    | str x => simp only [Q0,Q1,Q2,Q3,Q4,Q5,Q6,Q7,Q8,Q9,Qa,Qb,Qc,Qd,Qe,Qf,Qg,Qh,Qi,Qj,Qk,Ql,Qm,Qn,Qo,Qp,Qq,Qr,Qs,Qt,Qu,Qv,Qw,Qx,Qy,Qz,Q10,Q11,Q12,Q13,Q14,Q15,Q16,Q17,Q18,Q19,Q1a,Q1b,Q1c,Q1d,Q1e,Q1f,Q1g,Q1h,Q1i,Q1i,Q1j,Q1k,Q1l,Q1m,Q1n,Q1o,Q1p,Q1q,Q1r,Q1s,rvV,Q1t,rvD,Q1u,Q1v,Q1w,Q1x,Q1y,Q1z,Q20,Q21,Q22,Q23,Q24,Q25,Q26,Q27,Q28,Q29,Q2a,Q2b,Q2c,Q2d,leD,ltD,Q2e,Q2f,Q2g,Q2h,Q2i,Q2j,Q2k,Q2l,Q2m,Q2n,Q2o,Q2p,Q2q,Q2r,clr,Q2s,Q2t,Q2u,Q2v,beq_self_eq_true,Q2w,Q2x,Q2y,Q2z,Q30,Q31,Q32,Q33,Q34,Q35,Q36,Q37,Q38,Q39,Q3a,Q3b,Q3c,Q3d,if_false,if_true,Q3e,Q3f,Q3g,Q3h,decide_eq_true_eq,Q3i,Q3j,Q3k,Q3l,Q3m,Q3n,Q3o,Q3p,reduceIte,reduceCtorEq,Q3q,Q3r,Q3s,Q3t,Q3u,Q3v,Q3w,Q3x,Q3y,Q3z,and_true,true_and,and_self,Q40,Q41,Q42,Q43,na2,na3,na4,na5,na6,na9,Q44,Q45,Q46,Q47,Q48,ne_eq,not_false_eq_true]
    | none => cases hs
    | bool b => cases hs
    | list b => cases hs
    | dict b => cases hs
end L02

end

section
set_option maxRecDepth 100000
set_option linter.unusedVariables false
set_option linter.unusedSimpArgs false
namespace L02
open PySem Mv
theorem q_times_plus : eqD w_times w_plus = some false := by kernel_rfl
theorem q_times_minus : eqD w_times w_minus = some false := by kernel_rfl
theorem q_times_times : eqD w_times w_times = some true := by kernel_rfl
theorem q_times_less : eqD w_times w_less = some false := by kernel_rfl
theorem q_over_plus : eqD w_over w_plus = some false := by kernel_rfl
theorem q_over_minus : eqD w_over w_minus = some false := by kernel_rfl
theorem q_over_times : eqD w_over w_times = some false := by kernel_rfl
theorem q_over_less : eqD w_over w_less = some false := by kernel_rfl
theorem q_plus_over : eqD w_plus w_over = some false := by kernel_rfl
theorem q_plus_less : eqD w_plus w_less = some false := by kernel_rfl
theorem q_minus_over : eqD w_minus w_over = some false := by kernel_rfl
theorem q_minus_less : eqD w_minus w_less = some false := by kernel_rfl
theorem q_times_over : eqD w_times w_over = some false := by kernel_rfl
theorem q_over_over : eqD w_over w_over = some true := by kernel_rfl
open _root_.Mv renaming runF_eq → Q0, finF_ret → Q1, finF_next → Q2, finF_err → Q3, finF_ite → Q4, bnd_none → Q5, bnd_ok → Q6, bnd_err → Q7, bnd_ite → Q8, bndN_ok → Q9, bndN_none → Qa, exS_raise → Qd, exS_try → Qe, tryO_ok → Qf, tryO_err → Qg, tryH_ok → Qh, ev_isx → Qi, ev_dsel → Qj, okO_some → Qk, okO_none → Ql, okV_fz → Qm, okV_own → Qn, okV_none → Qo, ev_lit → Qp, ev_gl → Qq, ev_var → Qr, ev_pl → Qs, ev_tup → Qt, ev_list → Qu, ev_op2 → Qv, ev_neg → Qw, ev_not → Qx, ev_cmp → Qy, ev_cmp2 → Qz, ev_and → Q10, ev_or → Q11, ev_ite → Q12, ev_idx → Q13, ev_slc → Q14, ev_call → Q15, ev_bi → Q16, ev_comp → Q17, compB_nil → Q18, evs_nil → Q19, evs_cons → Q1a, evAnd_one → Q1b, evAnd_cons → Q1c, evOr_one → Q1d, evOr_cons → Q1e, evConds_nil → Q1f, evConds_cons → Q1g, exS_asg → Q1h, Tgt.isTup → Q1i, exS_iff → Q1j, exS_ret → Q1k, exS_for → Q1l, forB_nil → Q1m, exSs_nil → Q1n, exSs_cons → Q1o, pinsOf → Q1p, Slot.lent → Q1q, Slot.live → Q1r, plLive → Q1s, rvVs → Q1t, rvDs → Q1u, b_len → Q1v, b_isi → Q1w, b_sum → Q1x, b_tupL → Q1y, b_tupT → Q1z, b_abs → Q20, b_int → Q21, b_listL → Q22, plGet → Q23, callO → Q24, argSlots → Q25, roots → Q26, copyOut → Q27, cmpD → Q28, e_int → Q29, e_bool → Q2a, e_list → Q2b, e_tuple → Q2c, outsOf → Q2e, o_addI → Q2f, o_addT → Q2g, o_addL → Q2h, o_sub → Q2i, o_mulI → Q2j, o_mulT → Q2k, o_mulL → Q2l, o_fdiv → Q2m, o_mod → Q2n, o_pow → Q2o, negD → Q2p, asgT → Q2q, asgs → Q2r, tgtVars → Q2s, idxD → Q2t, isiD → Q2u, i_bb → Q2v, truthD → Q2w, lenD → Q2x, iterD → Q2y, Bi.loops → Q31
open _root_.L02 renaming bndN_ite → Qb, bndN_err → Qc, q_times_plus → Q49, q_times_minus → Q4a, q_times_times → Q4b, q_times_less → Q4c, q_over_plus → Q4d, q_over_minus → Q4e, q_over_times → Q4f, q_over_less → Q4g, q_plus_over → Q4h, q_plus_less → Q4i, q_minus_over → Q4j, q_minus_less → Q4k, q_times_over → Q4l, q_over_over → Q4m, P_g0 → Q2z, P_g1 → Q30, len_some → Q43, na10 → Q44, na12 → Q45, na16 → Q46, na30 → Q47, na100 → Q48
open _root_.Bool renaming and_false → Q32, false_and → Q33, false_eq_true → Q3d, not_true → Q3e, not_false → Q3f, not_eq_true → Q3j
open _root_.List renaming cons_append → Q34, nil_append → Q35, append_nil → Q36, replicate → Q37, getElem?_cons_zero → Q38, getElem?_cons_succ → Q39, set_cons_zero → Q3a, set_cons_succ → Q3b, contains_nil → Q3c, nodup_nil → Q3i
open _root_.Option renaming map_some → Q3g, map_none → Q3h
open _root_.Nat renaming reduceAdd → Q3k, reduceSub → Q3l, reduceMul → Q3m, reduceLT → Q3n, reduceLeDiff → Q3o, reduceEqDiff → Q3p, reducePow → Q40, le_refl → Q41
open _root_.Int renaming reduceAdd → Q3q, reduceNeg → Q3r, reducePow → Q3s, reduceSub → Q3t, reduceMul → Q3u, reduceLT → Q3v, reduceLE → Q3w, reduceEq → Q3x, reduceToNat → Q3y, natAbs_natCast → Q3z, le_refl → Q42

noncomputable abbrev CR := Option (Except Str Rv × List Slot)
noncomputable abbrev CF := Bool → Nat → List Slot → CR
noncomputable def runC (call : CF) (hd : Bool) (fn : Fn) (args : List Slot) : CR := finF args (exSs ⟨P.glob, call, pinsOf 0 args, hd⟩ fn.body (args ++ List.replicate (fn.nv - fn.np) .no))
noncomputable def ov (g : Nat) (m : CR) (call : CF) : CF := fun hd f a => if f = g then m else call hd f a
noncomputable abbrev okP (b : Bool) (v : D) : CR := some (.ok (.fz (.tuple [.bool b, v])), [])
noncomputable def ansF (n : Nat) (w vs : D) (call : CF) : CR := runC (ov 7 (runC call false f_done [.fz w, .fz vs]) (callF P (n+5))) false f_l_answer [.fz w, .fz vs]
noncomputable def Key (n : Nat) (w vs : D) : Prop := ∃ b v, callF P (n+6) false 18 [.fz w, .fz vs] = okP b v ∧ callF P (n+6) false 16 [.fz w, .fz vs] = okP b v ∧ sm v = true ∧ dep v ≤ 8 ∧ wt v ≤ 1000
theorem N1_plus (n : Nat) (s : List D) (y : D) : callF P (n+1) false 3 [.fz w_plus, .fz (.tuple s), .fz y] = some (.error x_NoNumber, []) := by kernel_rfl
theorem N2_plus (n : Nat) (a : Int) (t : List D) : callF P (n+1) false 3 [.fz w_plus, .fz (.int a), .fz (.tuple t)] = some (.error x_NoNumber, []) := by kernel_rfl
theorem C1_plus (n : Nat) (s : List D) (y : D) : callF P (n+1) false 14 [.fz w_plus, .fz (.tuple s), .fz y] = okP false t_NoNumber := by kernel_rfl
theorem C2_plus (n : Nat) (a : Int) (t : List D) : callF P (n+1) false 14 [.fz w_plus, .fz (.int a), .fz (.tuple t)] = okP false t_NoNumber := by kernel_rfl
theorem N1_minus (n : Nat) (s : List D) (y : D) : callF P (n+1) false 3 [.fz w_minus, .fz (.tuple s), .fz y] = some (.error x_NoNumber, []) := by kernel_rfl
theorem N2_minus (n : Nat) (a : Int) (t : List D) : callF P (n+1) false 3 [.fz w_minus, .fz (.int a), .fz (.tuple t)] = some (.error x_NoNumber, []) := by kernel_rfl
theorem C1_minus (n : Nat) (s : List D) (y : D) : callF P (n+1) false 14 [.fz w_minus, .fz (.tuple s), .fz y] = okP false t_NoNumber := by kernel_rfl
theorem C2_minus (n : Nat) (a : Int) (t : List D) : callF P (n+1) false 14 [.fz w_minus, .fz (.int a), .fz (.tuple t)] = okP false t_NoNumber := by kernel_rfl
theorem N1_times (n : Nat) (s : List D) (y : D) : callF P (n+1) false 3 [.fz w_times, .fz (.tuple s), .fz y] = some (.error x_NoNumber, []) := by kernel_rfl
theorem N2_times (n : Nat) (a : Int) (t : List D) : callF P (n+1) false 3 [.fz w_times, .fz (.int a), .fz (.tuple t)] = some (.error x_NoNumber, []) := by kernel_rfl
theorem C1_times (n : Nat) (s : List D) (y : D) : callF P (n+1) false 14 [.fz w_times, .fz (.tuple s), .fz y] = okP false t_NoNumber := by kernel_rfl
theorem C2_times (n : Nat) (a : Int) (t : List D) : callF P (n+1) false 14 [.fz w_times, .fz (.int a), .fz (.tuple t)] = okP false t_NoNumber := by kernel_rfl
theorem N1_over (n : Nat) (s : List D) (y : D) : callF P (n+1) false 3 [.fz w_over, .fz (.tuple s), .fz y] = some (.error x_NoNumber, []) := by kernel_rfl
theorem N2_over (n : Nat) (a : Int) (t : List D) : callF P (n+1) false 3 [.fz w_over, .fz (.int a), .fz (.tuple t)] = some (.error x_NoNumber, []) := by kernel_rfl
theorem C1_over (n : Nat) (s : List D) (y : D) : callF P (n+1) false 14 [.fz w_over, .fz (.tuple s), .fz y] = okP false t_NoNumber := by kernel_rfl
theorem C2_over (n : Nat) (a : Int) (t : List D) : callF P (n+1) false 14 [.fz w_over, .fz (.int a), .fz (.tuple t)] = okP false t_NoNumber := by kernel_rfl
theorem N1_less (n : Nat) (s : List D) (y : D) : callF P (n+1) false 3 [.fz w_less, .fz (.tuple s), .fz y] = some (.error x_NoNumber, []) := by kernel_rfl
theorem N2_less (n : Nat) (a : Int) (t : List D) : callF P (n+1) false 3 [.fz w_less, .fz (.int a), .fz (.tuple t)] = some (.error x_NoNumber, []) := by kernel_rfl
theorem C1_less (n : Nat) (s : List D) (y : D) : callF P (n+1) false 14 [.fz w_less, .fz (.tuple s), .fz y] = okP false t_NoNumber := by kernel_rfl
theorem C2_less (n : Nat) (a : Int) (t : List D) : callF P (n+1) false 14 [.fz w_less, .fz (.int a), .fz (.tuple t)] = okP false t_NoNumber := by kernel_rfl

theorem mulI_ok {a b : Int} (ha : a.natAbs < 2 ^ 64) (hb : b.natAbs < 2 ^ 64) : mulI a b = some (.fz (.int (a * b))) := by
  unfold mulI mulOk; rw [decide_eq_true ha]; rfl
theorem dl_plus (a b c : D) : dlook [⟨#[112, 108, 117, 115]⟩, ⟨#[109, 105, 110, 117, 115]⟩, ⟨#[116, 105, 109, 101, 115]⟩] [a, b, c] ⟨[112, 108, 117, 115].toArray⟩ = some a := by kernel_rfl
theorem dl_minus (a b c : D) : dlook [⟨#[112, 108, 117, 115]⟩, ⟨#[109, 105, 110, 117, 115]⟩, ⟨#[116, 105, 109, 101, 115]⟩] [a, b, c] ⟨[109, 105, 110, 117, 115].toArray⟩ = some b := by kernel_rfl
theorem dl_times (a b c : D) : dlook [⟨#[112, 108, 117, 115]⟩, ⟨#[109, 105, 110, 117, 115]⟩, ⟨#[116, 105, 109, 101, 115]⟩] [a, b, c] ⟨[116, 105, 109, 101, 115].toArray⟩ = some c := by kernel_rfl
theorem C3_plus (n : Nat) (a b : Int) (ha : a.natAbs < 2 ^ 64) (hb : b.natAbs < 2 ^ 64) (hn : 1 ≤ n) : callF P (n+2) false 14 [.fz w_plus, .fz (.int a), .fz (.int b)] = okP (fitB (.int (a + b))) (fitD (.int (a + b))) := by
  rw [call_14, f_l_counted]
  simp only [Q0,Q1,Q2,Q3,Q4,Q5,Q6,Q7,Q8,Q9,Qa,Qb,Qc,Qd,Qe,Qf,Qg,Qh,Qi,Qj,Qk,Ql,Qm,Qn,Qo,Qp,Qq,Qr,Qs,Qt,Qu,Qv,Qw,Qx,Qy,Qz,Q10,Q11,Q12,Q13,Q14,Q15,Q16,Q17,Q18,Q19,Q1a,Q1b,Q1c,Q1d,Q1e,Q1f,Q1g,Q1h,Q1i,Q1i,Q1j,Q1k,Q1l,Q1m,Q1n,Q1o,Q1p,Q1q,Q1r,Q1s,rvV,Q1t,rvD,Q1u,Q1v,Q1w,Q1x,Q1y,Q1z,Q20,Q21,Q22,Q23,Q24,Q25,Q26,Q27,Q28,Q29,Q2a,Q2b,Q2c,Q49,Q4a,Q4b,Q4c,Q4d,Q4e,Q4f,Q4g,Q4h,Q4i,Q4j,Q4k,Q4l,Q4m,leD,ltD,Q2e,Q2f,Q2g,Q2h,Q2i,Q2j,Q2k,Q2l,Q2m,Q2n,Q2o,Q2p,Q2q,Q2r,clr,Q2s,Q2t,Q2u,Q2v,beq_self_eq_true,Q2w,Q2x,Q2y,Q2z,Q30,Q31,Q32,Q33,Q34,Q35,Q36,Q37,Q38,Q39,Q3a,Q3b,Q3c,Q3d,if_false,if_true,Q3e,Q3f,Q3g,Q3h,decide_eq_true_eq,Q3i,Q3j,Q3k,Q3l,Q3m,Q3n,Q3o,Q3p,reduceIte,reduceCtorEq,Q3q,Q3r,Q3s,Q3t,Q3u,Q3v,Q3w,Q3x,Q3y,Q3z,and_true,true_and,and_self,Q40,Q41,Q42,Q43,na2,na3,na4,na5,na6,na9,Q44,Q45,Q46,Q47,Q48,ne_eq,not_false_eq_true]
  rw [mulI_ok ha hb]
  simp only [Q0,Q1,Q2,Q3,Q4,Q5,Q6,Q7,Q8,Q9,Qa,Qb,Qc,Qd,Qe,Qf,Qg,Qh,Qi,Qj,Qk,Ql,Qm,Qn,Qo,Qp,Qq,Qr,Qs,Qt,Qu,Qv,Qw,Qx,Qy,Qz,Q10,Q11,Q12,Q13,Q14,Q15,Q16,Q17,Q18,Q19,Q1a,Q1b,Q1c,Q1d,Q1e,Q1f,Q1g,Q1h,Q1i,Q1i,Q1j,Q1k,Q1l,Q1m,Q1n,Q1o,Q1p,Q1q,Q1r,Q1s,rvV,Q1t,rvD,Q1u,Q1v,Q1w,Q1x,Q1y,Q1z,Q20,Q21,Q22,Q23,Q24,Q25,Q26,Q27,Q28,Q29,Q2a,Q2b,Q2c,Q49,Q4a,Q4b,Q4c,Q4d,Q4e,Q4f,Q4g,Q4h,Q4i,Q4j,Q4k,Q4l,Q4m,leD,ltD,Q2e,Q2f,Q2g,Q2h,Q2i,Q2j,Q2k,Q2l,Q2m,Q2n,Q2o,Q2p,Q2q,Q2r,clr,Q2s,Q2t,Q2u,Q2v,beq_self_eq_true,Q2w,Q2x,Q2y,Q2z,Q30,Q31,Q32,Q33,Q34,Q35,Q36,Q37,Q38,Q39,Q3a,Q3b,Q3c,Q3d,if_false,if_true,Q3e,Q3f,Q3g,Q3h,decide_eq_true_eq,Q3i,Q3j,Q3k,Q3l,Q3m,Q3n,Q3o,Q3p,reduceIte,reduceCtorEq,Q3q,Q3r,Q3s,Q3t,Q3u,Q3v,Q3w,Q3x,Q3y,Q3z,and_true,true_and,and_self,Q40,Q41,Q42,Q43,na2,na3,na4,na5,na6,na9,Q44,Q45,Q46,Q47,Q48,ne_eq,not_false_eq_true]
  rw [dl_plus]
  simp only [Q0,Q1,Q2,Q3,Q4,Q5,Q6,Q7,Q8,Q9,Qa,Qb,Qc,Qd,Qe,Qf,Qg,Qh,Qi,Qj,Qk,Ql,Qm,Qn,Qo,Qp,Qq,Qr,Qs,Qt,Qu,Qv,Qw,Qx,Qy,Qz,Q10,Q11,Q12,Q13,Q14,Q15,Q16,Q17,Q18,Q19,Q1a,Q1b,Q1c,Q1d,Q1e,Q1f,Q1g,Q1h,Q1i,Q1i,Q1j,Q1k,Q1l,Q1m,Q1n,Q1o,Q1p,Q1q,Q1r,Q1s,rvV,Q1t,rvD,Q1u,Q1v,Q1w,Q1x,Q1y,Q1z,Q20,Q21,Q22,Q23,Q24,Q25,Q26,Q27,Q28,Q29,Q2a,Q2b,Q2c,Q49,Q4a,Q4b,Q4c,Q4d,Q4e,Q4f,Q4g,Q4h,Q4i,Q4j,Q4k,Q4l,Q4m,leD,ltD,Q2e,Q2f,Q2g,Q2h,Q2i,Q2j,Q2k,Q2l,Q2m,Q2n,Q2o,Q2p,Q2q,Q2r,clr,Q2s,Q2t,Q2u,Q2v,beq_self_eq_true,Q2w,Q2x,Q2y,Q2z,Q30,Q31,Q32,Q33,Q34,Q35,Q36,Q37,Q38,Q39,Q3a,Q3b,Q3c,Q3d,if_false,if_true,Q3e,Q3f,Q3g,Q3h,decide_eq_true_eq,Q3i,Q3j,Q3k,Q3l,Q3m,Q3n,Q3o,Q3p,reduceIte,reduceCtorEq,Q3q,Q3r,Q3s,Q3t,Q3u,Q3v,Q3w,Q3x,Q3y,Q3z,and_true,true_and,and_self,Q40,Q41,Q42,Q43,na2,na3,na4,na5,na6,na9,Q44,Q45,Q46,Q47,Q48,ne_eq,not_false_eq_true]
  simp only [lfit_eq n (.int (a + b)) (by show 0 < n; omega) (.inl ⟨_, rfl⟩)]
  simp only [Q0,Q1,Q2,Q3,Q4,Q5,Q6,Q7,Q8,Q9,Qa,Qb,Qc,Qd,Qe,Qf,Qg,Qh,Qi,Qj,Qk,Ql,Qm,Qn,Qo,Qp,Qq,Qr,Qs,Qt,Qu,Qv,Qw,Qx,Qy,Qz,Q10,Q11,Q12,Q13,Q14,Q15,Q16,Q17,Q18,Q19,Q1a,Q1b,Q1c,Q1d,Q1e,Q1f,Q1g,Q1h,Q1i,Q1i,Q1j,Q1k,Q1l,Q1m,Q1n,Q1o,Q1p,Q1q,Q1r,Q1s,rvV,Q1t,rvD,Q1u,Q1v,Q1w,Q1x,Q1y,Q1z,Q20,Q21,Q22,Q23,Q24,Q25,Q26,Q27,Q28,Q29,Q2a,Q2b,Q2c,Q49,Q4a,Q4b,Q4c,Q4d,Q4e,Q4f,Q4g,Q4h,Q4i,Q4j,Q4k,Q4l,Q4m,leD,ltD,Q2e,Q2f,Q2g,Q2h,Q2i,Q2j,Q2k,Q2l,Q2m,Q2n,Q2o,Q2p,Q2q,Q2r,clr,Q2s,Q2t,Q2u,Q2v,beq_self_eq_true,Q2w,Q2x,Q2y,Q2z,Q30,Q31,Q32,Q33,Q34,Q35,Q36,Q37,Q38,Q39,Q3a,Q3b,Q3c,Q3d,if_false,if_true,Q3e,Q3f,Q3g,Q3h,decide_eq_true_eq,Q3i,Q3j,Q3k,Q3l,Q3m,Q3n,Q3o,Q3p,reduceIte,reduceCtorEq,Q3q,Q3r,Q3s,Q3t,Q3u,Q3v,Q3w,Q3x,Q3y,Q3z,and_true,true_and,and_self,Q40,Q41,Q42,Q43,na2,na3,na4,na5,na6,na9,Q44,Q45,Q46,Q47,Q48,ne_eq,not_false_eq_true]
theorem C3_minus (n : Nat) (a b : Int) (ha : a.natAbs < 2 ^ 64) (hb : b.natAbs < 2 ^ 64) (hn : 1 ≤ n) : callF P (n+2) false 14 [.fz w_minus, .fz (.int a), .fz (.int b)] = okP (fitB (.int (a - b))) (fitD (.int (a - b))) := by
  rw [call_14, f_l_counted]
  simp only [Q0,Q1,Q2,Q3,Q4,Q5,Q6,Q7,Q8,Q9,Qa,Qb,Qc,Qd,Qe,Qf,Qg,Qh,Qi,Qj,Qk,Ql,Qm,Qn,Qo,Qp,Qq,Qr,Qs,Qt,Qu,Qv,Qw,Qx,Qy,Qz,Q10,Q11,Q12,Q13,Q14,Q15,Q16,Q17,Q18,Q19,Q1a,Q1b,Q1c,Q1d,Q1e,Q1f,Q1g,Q1h,Q1i,Q1i,Q1j,Q1k,Q1l,Q1m,Q1n,Q1o,Q1p,Q1q,Q1r,Q1s,rvV,Q1t,rvD,Q1u,Q1v,Q1w,Q1x,Q1y,Q1z,Q20,Q21,Q22,Q23,Q24,Q25,Q26,Q27,Q28,Q29,Q2a,Q2b,Q2c,Q49,Q4a,Q4b,Q4c,Q4d,Q4e,Q4f,Q4g,Q4h,Q4i,Q4j,Q4k,Q4l,Q4m,leD,ltD,Q2e,Q2f,Q2g,Q2h,Q2i,Q2j,Q2k,Q2l,Q2m,Q2n,Q2o,Q2p,Q2q,Q2r,clr,Q2s,Q2t,Q2u,Q2v,beq_self_eq_true,Q2w,Q2x,Q2y,Q2z,Q30,Q31,Q32,Q33,Q34,Q35,Q36,Q37,Q38,Q39,Q3a,Q3b,Q3c,Q3d,if_false,if_true,Q3e,Q3f,Q3g,Q3h,decide_eq_true_eq,Q3i,Q3j,Q3k,Q3l,Q3m,Q3n,Q3o,Q3p,reduceIte,reduceCtorEq,Q3q,Q3r,Q3s,Q3t,Q3u,Q3v,Q3w,Q3x,Q3y,Q3z,and_true,true_and,and_self,Q40,Q41,Q42,Q43,na2,na3,na4,na5,na6,na9,Q44,Q45,Q46,Q47,Q48,ne_eq,not_false_eq_true]
  rw [mulI_ok ha hb]
  simp only [Q0,Q1,Q2,Q3,Q4,Q5,Q6,Q7,Q8,Q9,Qa,Qb,Qc,Qd,Qe,Qf,Qg,Qh,Qi,Qj,Qk,Ql,Qm,Qn,Qo,Qp,Qq,Qr,Qs,Qt,Qu,Qv,Qw,Qx,Qy,Qz,Q10,Q11,Q12,Q13,Q14,Q15,Q16,Q17,Q18,Q19,Q1a,Q1b,Q1c,Q1d,Q1e,Q1f,Q1g,Q1h,Q1i,Q1i,Q1j,Q1k,Q1l,Q1m,Q1n,Q1o,Q1p,Q1q,Q1r,Q1s,rvV,Q1t,rvD,Q1u,Q1v,Q1w,Q1x,Q1y,Q1z,Q20,Q21,Q22,Q23,Q24,Q25,Q26,Q27,Q28,Q29,Q2a,Q2b,Q2c,Q49,Q4a,Q4b,Q4c,Q4d,Q4e,Q4f,Q4g,Q4h,Q4i,Q4j,Q4k,Q4l,Q4m,leD,ltD,Q2e,Q2f,Q2g,Q2h,Q2i,Q2j,Q2k,Q2l,Q2m,Q2n,Q2o,Q2p,Q2q,Q2r,clr,Q2s,Q2t,Q2u,Q2v,beq_self_eq_true,Q2w,Q2x,Q2y,Q2z,Q30,Q31,Q32,Q33,Q34,Q35,Q36,Q37,Q38,Q39,Q3a,Q3b,Q3c,Q3d,if_false,if_true,Q3e,Q3f,Q3g,Q3h,decide_eq_true_eq,Q3i,Q3j,Q3k,Q3l,Q3m,Q3n,Q3o,Q3p,reduceIte,reduceCtorEq,Q3q,Q3r,Q3s,Q3t,Q3u,Q3v,Q3w,Q3x,Q3y,Q3z,and_true,true_and,and_self,Q40,Q41,Q42,Q43,na2,na3,na4,na5,na6,na9,Q44,Q45,Q46,Q47,Q48,ne_eq,not_false_eq_true]
  rw [dl_minus]
  simp only [Q0,Q1,Q2,Q3,Q4,Q5,Q6,Q7,Q8,Q9,Qa,Qb,Qc,Qd,Qe,Qf,Qg,Qh,Qi,Qj,Qk,Ql,Qm,Qn,Qo,Qp,Qq,Qr,Qs,Qt,Qu,Qv,Qw,Qx,Qy,Qz,Q10,Q11,Q12,Q13,Q14,Q15,Q16,Q17,Q18,Q19,Q1a,Q1b,Q1c,Q1d,Q1e,Q1f,Q1g,Q1h,Q1i,Q1i,Q1j,Q1k,Q1l,Q1m,Q1n,Q1o,Q1p,Q1q,Q1r,Q1s,rvV,Q1t,rvD,Q1u,Q1v,Q1w,Q1x,Q1y,Q1z,Q20,Q21,Q22,Q23,Q24,Q25,Q26,Q27,Q28,Q29,Q2a,Q2b,Q2c,Q49,Q4a,Q4b,Q4c,Q4d,Q4e,Q4f,Q4g,Q4h,Q4i,Q4j,Q4k,Q4l,Q4m,leD,ltD,Q2e,Q2f,Q2g,Q2h,Q2i,Q2j,Q2k,Q2l,Q2m,Q2n,Q2o,Q2p,Q2q,Q2r,clr,Q2s,Q2t,Q2u,Q2v,beq_self_eq_true,Q2w,Q2x,Q2y,Q2z,Q30,Q31,Q32,Q33,Q34,Q35,Q36,Q37,Q38,Q39,Q3a,Q3b,Q3c,Q3d,if_false,if_true,Q3e,Q3f,Q3g,Q3h,decide_eq_true_eq,Q3i,Q3j,Q3k,Q3l,Q3m,Q3n,Q3o,Q3p,reduceIte,reduceCtorEq,Q3q,Q3r,Q3s,Q3t,Q3u,Q3v,Q3w,Q3x,Q3y,Q3z,and_true,true_and,and_self,Q40,Q41,Q42,Q43,na2,na3,na4,na5,na6,na9,Q44,Q45,Q46,Q47,Q48,ne_eq,not_false_eq_true]
  simp only [lfit_eq n (.int (a - b)) (by show 0 < n; omega) (.inl ⟨_, rfl⟩)]
  simp only [Q0,Q1,Q2,Q3,Q4,Q5,Q6,Q7,Q8,Q9,Qa,Qb,Qc,Qd,Qe,Qf,Qg,Qh,Qi,Qj,Qk,Ql,Qm,Qn,Qo,Qp,Qq,Qr,Qs,Qt,Qu,Qv,Qw,Qx,Qy,Qz,Q10,Q11,Q12,Q13,Q14,Q15,Q16,Q17,Q18,Q19,Q1a,Q1b,Q1c,Q1d,Q1e,Q1f,Q1g,Q1h,Q1i,Q1i,Q1j,Q1k,Q1l,Q1m,Q1n,Q1o,Q1p,Q1q,Q1r,Q1s,rvV,Q1t,rvD,Q1u,Q1v,Q1w,Q1x,Q1y,Q1z,Q20,Q21,Q22,Q23,Q24,Q25,Q26,Q27,Q28,Q29,Q2a,Q2b,Q2c,Q49,Q4a,Q4b,Q4c,Q4d,Q4e,Q4f,Q4g,Q4h,Q4i,Q4j,Q4k,Q4l,Q4m,leD,ltD,Q2e,Q2f,Q2g,Q2h,Q2i,Q2j,Q2k,Q2l,Q2m,Q2n,Q2o,Q2p,Q2q,Q2r,clr,Q2s,Q2t,Q2u,Q2v,beq_self_eq_true,Q2w,Q2x,Q2y,Q2z,Q30,Q31,Q32,Q33,Q34,Q35,Q36,Q37,Q38,Q39,Q3a,Q3b,Q3c,Q3d,if_false,if_true,Q3e,Q3f,Q3g,Q3h,decide_eq_true_eq,Q3i,Q3j,Q3k,Q3l,Q3m,Q3n,Q3o,Q3p,reduceIte,reduceCtorEq,Q3q,Q3r,Q3s,Q3t,Q3u,Q3v,Q3w,Q3x,Q3y,Q3z,and_true,true_and,and_self,Q40,Q41,Q42,Q43,na2,na3,na4,na5,na6,na9,Q44,Q45,Q46,Q47,Q48,ne_eq,not_false_eq_true]
theorem C3_times (n : Nat) (a b : Int) (ha : a.natAbs < 2 ^ 64) (hb : b.natAbs < 2 ^ 64) (hn : 1 ≤ n) : callF P (n+2) false 14 [.fz w_times, .fz (.int a), .fz (.int b)] = okP (fitB (.int (a * b))) (fitD (.int (a * b))) := by
  rw [call_14, f_l_counted]
  simp only [Q0,Q1,Q2,Q3,Q4,Q5,Q6,Q7,Q8,Q9,Qa,Qb,Qc,Qd,Qe,Qf,Qg,Qh,Qi,Qj,Qk,Ql,Qm,Qn,Qo,Qp,Qq,Qr,Qs,Qt,Qu,Qv,Qw,Qx,Qy,Qz,Q10,Q11,Q12,Q13,Q14,Q15,Q16,Q17,Q18,Q19,Q1a,Q1b,Q1c,Q1d,Q1e,Q1f,Q1g,Q1h,Q1i,Q1i,Q1j,Q1k,Q1l,Q1m,Q1n,Q1o,Q1p,Q1q,Q1r,Q1s,rvV,Q1t,rvD,Q1u,Q1v,Q1w,Q1x,Q1y,Q1z,Q20,Q21,Q22,Q23,Q24,Q25,Q26,Q27,Q28,Q29,Q2a,Q2b,Q2c,Q49,Q4a,Q4b,Q4c,Q4d,Q4e,Q4f,Q4g,Q4h,Q4i,Q4j,Q4k,Q4l,Q4m,leD,ltD,Q2e,Q2f,Q2g,Q2h,Q2i,Q2j,Q2k,Q2l,Q2m,Q2n,Q2o,Q2p,Q2q,Q2r,clr,Q2s,Q2t,Q2u,Q2v,beq_self_eq_true,Q2w,Q2x,Q2y,Q2z,Q30,Q31,Q32,Q33,Q34,Q35,Q36,Q37,Q38,Q39,Q3a,Q3b,Q3c,Q3d,if_false,if_true,Q3e,Q3f,Q3g,Q3h,decide_eq_true_eq,Q3i,Q3j,Q3k,Q3l,Q3m,Q3n,Q3o,Q3p,reduceIte,reduceCtorEq,Q3q,Q3r,Q3s,Q3t,Q3u,Q3v,Q3w,Q3x,Q3y,Q3z,and_true,true_and,and_self,Q40,Q41,Q42,Q43,na2,na3,na4,na5,na6,na9,Q44,Q45,Q46,Q47,Q48,ne_eq,not_false_eq_true]
  rw [mulI_ok ha hb]
  simp only [Q0,Q1,Q2,Q3,Q4,Q5,Q6,Q7,Q8,Q9,Qa,Qb,Qc,Qd,Qe,Qf,Qg,Qh,Qi,Qj,Qk,Ql,Qm,Qn,Qo,Qp,Qq,Qr,Qs,Qt,Qu,Qv,Qw,Qx,Qy,Qz,Q10,Q11,Q12,Q13,Q14,Q15,Q16,Q17,Q18,Q19,Q1a,Q1b,Q1c,Q1d,Q1e,Q1f,Q1g,Q1h,Q1i,Q1i,Q1j,Q1k,Q1l,Q1m,Q1n,Q1o,Q1p,Q1q,Q1r,Q1s,rvV,Q1t,rvD,Q1u,Q1v,Q1w,Q1x,Q1y,Q1z,Q20,Q21,Q22,Q23,Q24,Q25,Q26,Q27,Q28,Q29,Q2a,Q2b,Q2c,Q49,Q4a,Q4b,Q4c,Q4d,Q4e,Q4f,Q4g,Q4h,Q4i,Q4j,Q4k,Q4l,Q4m,leD,ltD,Q2e,Q2f,Q2g,Q2h,Q2i,Q2j,Q2k,Q2l,Q2m,Q2n,Q2o,Q2p,Q2q,Q2r,clr,Q2s,Q2t,Q2u,Q2v,beq_self_eq_true,Q2w,Q2x,Q2y,Q2z,Q30,Q31,Q32,Q33,Q34,Q35,Q36,Q37,Q38,Q39,Q3a,Q3b,Q3c,Q3d,if_false,if_true,Q3e,Q3f,Q3g,Q3h,decide_eq_true_eq,Q3i,Q3j,Q3k,Q3l,Q3m,Q3n,Q3o,Q3p,reduceIte,reduceCtorEq,Q3q,Q3r,Q3s,Q3t,Q3u,Q3v,Q3w,Q3x,Q3y,Q3z,and_true,true_and,and_self,Q40,Q41,Q42,Q43,na2,na3,na4,na5,na6,na9,Q44,Q45,Q46,Q47,Q48,ne_eq,not_false_eq_true]
  rw [dl_times]
  simp only [Q0,Q1,Q2,Q3,Q4,Q5,Q6,Q7,Q8,Q9,Qa,Qb,Qc,Qd,Qe,Qf,Qg,Qh,Qi,Qj,Qk,Ql,Qm,Qn,Qo,Qp,Qq,Qr,Qs,Qt,Qu,Qv,Qw,Qx,Qy,Qz,Q10,Q11,Q12,Q13,Q14,Q15,Q16,Q17,Q18,Q19,Q1a,Q1b,Q1c,Q1d,Q1e,Q1f,Q1g,Q1h,Q1i,Q1i,Q1j,Q1k,Q1l,Q1m,Q1n,Q1o,Q1p,Q1q,Q1r,Q1s,rvV,Q1t,rvD,Q1u,Q1v,Q1w,Q1x,Q1y,Q1z,Q20,Q21,Q22,Q23,Q24,Q25,Q26,Q27,Q28,Q29,Q2a,Q2b,Q2c,Q49,Q4a,Q4b,Q4c,Q4d,Q4e,Q4f,Q4g,Q4h,Q4i,Q4j,Q4k,Q4l,Q4m,leD,ltD,Q2e,Q2f,Q2g,Q2h,Q2i,Q2j,Q2k,Q2l,Q2m,Q2n,Q2o,Q2p,Q2q,Q2r,clr,Q2s,Q2t,Q2u,Q2v,beq_self_eq_true,Q2w,Q2x,Q2y,Q2z,Q30,Q31,Q32,Q33,Q34,Q35,Q36,Q37,Q38,Q39,Q3a,Q3b,Q3c,Q3d,if_false,if_true,Q3e,Q3f,Q3g,Q3h,decide_eq_true_eq,Q3i,Q3j,Q3k,Q3l,Q3m,Q3n,Q3o,Q3p,reduceIte,reduceCtorEq,Q3q,Q3r,Q3s,Q3t,Q3u,Q3v,Q3w,Q3x,Q3y,Q3z,and_true,true_and,and_self,Q40,Q41,Q42,Q43,na2,na3,na4,na5,na6,na9,Q44,Q45,Q46,Q47,Q48,ne_eq,not_false_eq_true]
  simp only [lfit_eq n (.int (a * b)) (by show 0 < n; omega) (.inl ⟨_, rfl⟩)]
  simp only [Q0,Q1,Q2,Q3,Q4,Q5,Q6,Q7,Q8,Q9,Qa,Qb,Qc,Qd,Qe,Qf,Qg,Qh,Qi,Qj,Qk,Ql,Qm,Qn,Qo,Qp,Qq,Qr,Qs,Qt,Qu,Qv,Qw,Qx,Qy,Qz,Q10,Q11,Q12,Q13,Q14,Q15,Q16,Q17,Q18,Q19,Q1a,Q1b,Q1c,Q1d,Q1e,Q1f,Q1g,Q1h,Q1i,Q1i,Q1j,Q1k,Q1l,Q1m,Q1n,Q1o,Q1p,Q1q,Q1r,Q1s,rvV,Q1t,rvD,Q1u,Q1v,Q1w,Q1x,Q1y,Q1z,Q20,Q21,Q22,Q23,Q24,Q25,Q26,Q27,Q28,Q29,Q2a,Q2b,Q2c,Q49,Q4a,Q4b,Q4c,Q4d,Q4e,Q4f,Q4g,Q4h,Q4i,Q4j,Q4k,Q4l,Q4m,leD,ltD,Q2e,Q2f,Q2g,Q2h,Q2i,Q2j,Q2k,Q2l,Q2m,Q2n,Q2o,Q2p,Q2q,Q2r,clr,Q2s,Q2t,Q2u,Q2v,beq_self_eq_true,Q2w,Q2x,Q2y,Q2z,Q30,Q31,Q32,Q33,Q34,Q35,Q36,Q37,Q38,Q39,Q3a,Q3b,Q3c,Q3d,if_false,if_true,Q3e,Q3f,Q3g,Q3h,decide_eq_true_eq,Q3i,Q3j,Q3k,Q3l,Q3m,Q3n,Q3o,Q3p,reduceIte,reduceCtorEq,Q3q,Q3r,Q3s,Q3t,Q3u,Q3v,Q3w,Q3x,Q3y,Q3z,and_true,true_and,and_self,Q40,Q41,Q42,Q43,na2,na3,na4,na5,na6,na9,Q44,Q45,Q46,Q47,Q48,ne_eq,not_false_eq_true]

theorem N3_plus (n : Nat) (a b : Int) : callF P (n+1) false 3 [.fz w_plus, .fz (.int a), .fz (.int b)] = some (.ok (.fz (.int (a + b))), []) := by kernel_rfl
theorem N3_minus (n : Nat) (a b : Int) : callF P (n+1) false 3 [.fz w_minus, .fz (.int a), .fz (.int b)] = some (.ok (.fz (.int (a - b))), []) := by kernel_rfl
theorem N3_times (n : Nat) (a b : Int) (ha : a.natAbs < 2 ^ 64) (hb : b.natAbs < 2 ^ 64) : callF P (n+1) false 3 [.fz w_times, .fz (.int a), .fz (.int b)] = some (.ok (.fz (.int (a * b))), []) := by
  rw [call_3, f_number_done]
  simp only [Q0,Q1,Q2,Q3,Q4,Q5,Q6,Q7,Q8,Q9,Qa,Qb,Qc,Qd,Qe,Qf,Qg,Qh,Qi,Qj,Qk,Ql,Qm,Qn,Qo,Qp,Qq,Qr,Qs,Qt,Qu,Qv,Qw,Qx,Qy,Qz,Q10,Q11,Q12,Q13,Q14,Q15,Q16,Q17,Q18,Q19,Q1a,Q1b,Q1c,Q1d,Q1e,Q1f,Q1g,Q1h,Q1i,Q1i,Q1j,Q1k,Q1l,Q1m,Q1n,Q1o,Q1p,Q1q,Q1r,Q1s,rvV,Q1t,rvD,Q1u,Q1v,Q1w,Q1x,Q1y,Q1z,Q20,Q21,Q22,Q23,Q24,Q25,Q26,Q27,Q28,Q29,Q2a,Q2b,Q2c,Q49,Q4a,Q4b,Q4c,Q4d,Q4e,Q4f,Q4g,Q4h,Q4i,Q4j,Q4k,Q4l,Q4m,leD,ltD,Q2e,Q2f,Q2g,Q2h,Q2i,Q2j,Q2k,Q2l,Q2m,Q2n,Q2o,Q2p,Q2q,Q2r,clr,Q2s,Q2t,Q2u,Q2v,beq_self_eq_true,Q2w,Q2x,Q2y,Q2z,Q30,Q31,Q32,Q33,Q34,Q35,Q36,Q37,Q38,Q39,Q3a,Q3b,Q3c,Q3d,if_false,if_true,Q3e,Q3f,Q3g,Q3h,decide_eq_true_eq,Q3i,Q3j,Q3k,Q3l,Q3m,Q3n,Q3o,Q3p,reduceIte,reduceCtorEq,Q3q,Q3r,Q3s,Q3t,Q3u,Q3v,Q3w,Q3x,Q3y,Q3z,and_true,true_and,and_self,Q40,Q41,Q42,Q43,na2,na3,na4,na5,na6,na9,Q44,Q45,Q46,Q47,Q48,ne_eq,not_false_eq_true]
  rw [mulI_ok ha hb]
  simp only [Q0,Q1,Q2,Q3,Q4,Q5,Q6,Q7,Q8,Q9,Qa,Qb,Qc,Qd,Qe,Qf,Qg,Qh,Qi,Qj,Qk,Ql,Qm,Qn,Qo,Qp,Qq,Qr,Qs,Qt,Qu,Qv,Qw,Qx,Qy,Qz,Q10,Q11,Q12,Q13,Q14,Q15,Q16,Q17,Q18,Q19,Q1a,Q1b,Q1c,Q1d,Q1e,Q1f,Q1g,Q1h,Q1i,Q1i,Q1j,Q1k,Q1l,Q1m,Q1n,Q1o,Q1p,Q1q,Q1r,Q1s,rvV,Q1t,rvD,Q1u,Q1v,Q1w,Q1x,Q1y,Q1z,Q20,Q21,Q22,Q23,Q24,Q25,Q26,Q27,Q28,Q29,Q2a,Q2b,Q2c,Q49,Q4a,Q4b,Q4c,Q4d,Q4e,Q4f,Q4g,Q4h,Q4i,Q4j,Q4k,Q4l,Q4m,leD,ltD,Q2e,Q2f,Q2g,Q2h,Q2i,Q2j,Q2k,Q2l,Q2m,Q2n,Q2o,Q2p,Q2q,Q2r,clr,Q2s,Q2t,Q2u,Q2v,beq_self_eq_true,Q2w,Q2x,Q2y,Q2z,Q30,Q31,Q32,Q33,Q34,Q35,Q36,Q37,Q38,Q39,Q3a,Q3b,Q3c,Q3d,if_false,if_true,Q3e,Q3f,Q3g,Q3h,decide_eq_true_eq,Q3i,Q3j,Q3k,Q3l,Q3m,Q3n,Q3o,Q3p,reduceIte,reduceCtorEq,Q3q,Q3r,Q3s,Q3t,Q3u,Q3v,Q3w,Q3x,Q3y,Q3z,and_true,true_and,and_self,Q40,Q41,Q42,Q43,na2,na3,na4,na5,na6,na9,Q44,Q45,Q46,Q47,Q48,ne_eq,not_false_eq_true]
theorem N3_less (n : Nat) (a b : Int) : callF P (n+1) false 3 [.fz w_less, .fz (.int a), .fz (.int b)] = some (.ok (.fz (.int (if decide (a < b) = true then 1 else 0))), []) := by kernel_rfl
theorem C3_less (n : Nat) (a b : Int) : callF P (n+1) false 14 [.fz w_less, .fz (.int a), .fz (.int b)] = okP true (.int (if decide (a < b) = true then 1 else 0)) := by kernel_rfl
theorem N3_over (n : Nat) (a b : Int) (h0 : b ≠ 0) (hb : b.natAbs < 2 ^ 64) : callF P (n+1) false 3 [.fz w_over, .fz (.int a), .fz (.int b)] = some (.ok (.fz (.int (a.fdiv b))), []) := by
  rw [call_3, f_number_done]
  simp only [Q0,Q1,Q2,Q3,Q4,Q5,Q6,Q7,Q8,Q9,Qa,Qb,Qc,Qd,Qe,Qf,Qg,Qh,Qi,Qj,Qk,Ql,Qm,Qn,Qo,Qp,Qq,Qr,Qs,Qt,Qu,Qv,Qw,Qx,Qy,Qz,Q10,Q11,Q12,Q13,Q14,Q15,Q16,Q17,Q18,Q19,Q1a,Q1b,Q1c,Q1d,Q1e,Q1f,Q1g,Q1h,Q1i,Q1i,Q1j,Q1k,Q1l,Q1m,Q1n,Q1o,Q1p,Q1q,Q1r,Q1s,rvV,Q1t,rvD,Q1u,Q1v,Q1w,Q1x,Q1y,Q1z,Q20,Q21,Q22,Q23,Q24,Q25,Q26,Q27,Q28,Q29,Q2a,Q2b,Q2c,Q49,Q4a,Q4b,Q4c,Q4d,Q4e,Q4f,Q4g,Q4h,Q4i,Q4j,Q4k,Q4l,Q4m,leD,ltD,Q2e,Q2f,Q2g,Q2h,Q2i,Q2j,Q2k,Q2l,Q2m,Q2n,Q2o,Q2p,Q2q,Q2r,clr,Q2s,Q2t,Q2u,Q2v,beq_self_eq_true,Q2w,Q2x,Q2y,Q2z,Q30,Q31,Q32,Q33,Q34,Q35,Q36,Q37,Q38,Q39,Q3a,Q3b,Q3c,Q3d,if_false,if_true,Q3e,Q3f,Q3g,Q3h,decide_eq_true_eq,Q3i,Q3j,Q3k,Q3l,Q3m,Q3n,Q3o,Q3p,reduceIte,reduceCtorEq,Q3q,Q3r,Q3s,Q3t,Q3u,Q3v,Q3w,Q3x,Q3y,Q3z,and_true,true_and,and_self,Q40,Q41,Q42,Q43,na2,na3,na4,na5,na6,na9,Q44,Q45,Q46,Q47,Q48,ne_eq,not_false_eq_true]
  rw [show (b == 0) = false from by simpa using h0]
  simp only [Q0,Q1,Q2,Q3,Q4,Q5,Q6,Q7,Q8,Q9,Qa,Qb,Qc,Qd,Qe,Qf,Qg,Qh,Qi,Qj,Qk,Ql,Qm,Qn,Qo,Qp,Qq,Qr,Qs,Qt,Qu,Qv,Qw,Qx,Qy,Qz,Q10,Q11,Q12,Q13,Q14,Q15,Q16,Q17,Q18,Q19,Q1a,Q1b,Q1c,Q1d,Q1e,Q1f,Q1g,Q1h,Q1i,Q1i,Q1j,Q1k,Q1l,Q1m,Q1n,Q1o,Q1p,Q1q,Q1r,Q1s,rvV,Q1t,rvD,Q1u,Q1v,Q1w,Q1x,Q1y,Q1z,Q20,Q21,Q22,Q23,Q24,Q25,Q26,Q27,Q28,Q29,Q2a,Q2b,Q2c,Q49,Q4a,Q4b,Q4c,Q4d,Q4e,Q4f,Q4g,Q4h,Q4i,Q4j,Q4k,Q4l,Q4m,leD,ltD,Q2e,Q2f,Q2g,Q2h,Q2i,Q2j,Q2k,Q2l,Q2m,Q2n,Q2o,Q2p,Q2q,Q2r,clr,Q2s,Q2t,Q2u,Q2v,beq_self_eq_true,Q2w,Q2x,Q2y,Q2z,Q30,Q31,Q32,Q33,Q34,Q35,Q36,Q37,Q38,Q39,Q3a,Q3b,Q3c,Q3d,if_false,if_true,Q3e,Q3f,Q3g,Q3h,decide_eq_true_eq,Q3i,Q3j,Q3k,Q3l,Q3m,Q3n,Q3o,Q3p,reduceIte,reduceCtorEq,Q3q,Q3r,Q3s,Q3t,Q3u,Q3v,Q3w,Q3x,Q3y,Q3z,and_true,true_and,and_self,Q40,Q41,Q42,Q43,na2,na3,na4,na5,na6,na9,Q44,Q45,Q46,Q47,Q48,ne_eq,not_false_eq_true]
  rw [if_pos ⟨h0, hb⟩]
  simp only [Q0,Q1,Q2,Q3,Q4,Q5,Q6,Q7,Q8,Q9,Qa,Qb,Qc,Qd,Qe,Qf,Qg,Qh,Qi,Qj,Qk,Ql,Qm,Qn,Qo,Qp,Qq,Qr,Qs,Qt,Qu,Qv,Qw,Qx,Qy,Qz,Q10,Q11,Q12,Q13,Q14,Q15,Q16,Q17,Q18,Q19,Q1a,Q1b,Q1c,Q1d,Q1e,Q1f,Q1g,Q1h,Q1i,Q1i,Q1j,Q1k,Q1l,Q1m,Q1n,Q1o,Q1p,Q1q,Q1r,Q1s,rvV,Q1t,rvD,Q1u,Q1v,Q1w,Q1x,Q1y,Q1z,Q20,Q21,Q22,Q23,Q24,Q25,Q26,Q27,Q28,Q29,Q2a,Q2b,Q2c,Q49,Q4a,Q4b,Q4c,Q4d,Q4e,Q4f,Q4g,Q4h,Q4i,Q4j,Q4k,Q4l,Q4m,leD,ltD,Q2e,Q2f,Q2g,Q2h,Q2i,Q2j,Q2k,Q2l,Q2m,Q2n,Q2o,Q2p,Q2q,Q2r,clr,Q2s,Q2t,Q2u,Q2v,beq_self_eq_true,Q2w,Q2x,Q2y,Q2z,Q30,Q31,Q32,Q33,Q34,Q35,Q36,Q37,Q38,Q39,Q3a,Q3b,Q3c,Q3d,if_false,if_true,Q3e,Q3f,Q3g,Q3h,decide_eq_true_eq,Q3i,Q3j,Q3k,Q3l,Q3m,Q3n,Q3o,Q3p,reduceIte,reduceCtorEq,Q3q,Q3r,Q3s,Q3t,Q3u,Q3v,Q3w,Q3x,Q3y,Q3z,and_true,true_and,and_self,Q40,Q41,Q42,Q43,na2,na3,na4,na5,na6,na9,Q44,Q45,Q46,Q47,Q48,ne_eq,not_false_eq_true]
theorem C3_over (n : Nat) (a b : Int) (h0 : b ≠ 0) (hb : b.natAbs < 2 ^ 64) (hn : 1 ≤ n) : callF P (n+2) false 14 [.fz w_over, .fz (.int a), .fz (.int b)] = okP (fitB (.int (a.fdiv b))) (fitD (.int (a.fdiv b))) := by
  rw [call_14, f_l_counted]
  simp only [Q0,Q1,Q2,Q3,Q4,Q5,Q6,Q7,Q8,Q9,Qa,Qb,Qc,Qd,Qe,Qf,Qg,Qh,Qi,Qj,Qk,Ql,Qm,Qn,Qo,Qp,Qq,Qr,Qs,Qt,Qu,Qv,Qw,Qx,Qy,Qz,Q10,Q11,Q12,Q13,Q14,Q15,Q16,Q17,Q18,Q19,Q1a,Q1b,Q1c,Q1d,Q1e,Q1f,Q1g,Q1h,Q1i,Q1i,Q1j,Q1k,Q1l,Q1m,Q1n,Q1o,Q1p,Q1q,Q1r,Q1s,rvV,Q1t,rvD,Q1u,Q1v,Q1w,Q1x,Q1y,Q1z,Q20,Q21,Q22,Q23,Q24,Q25,Q26,Q27,Q28,Q29,Q2a,Q2b,Q2c,Q49,Q4a,Q4b,Q4c,Q4d,Q4e,Q4f,Q4g,Q4h,Q4i,Q4j,Q4k,Q4l,Q4m,leD,ltD,Q2e,Q2f,Q2g,Q2h,Q2i,Q2j,Q2k,Q2l,Q2m,Q2n,Q2o,Q2p,Q2q,Q2r,clr,Q2s,Q2t,Q2u,Q2v,beq_self_eq_true,Q2w,Q2x,Q2y,Q2z,Q30,Q31,Q32,Q33,Q34,Q35,Q36,Q37,Q38,Q39,Q3a,Q3b,Q3c,Q3d,if_false,if_true,Q3e,Q3f,Q3g,Q3h,decide_eq_true_eq,Q3i,Q3j,Q3k,Q3l,Q3m,Q3n,Q3o,Q3p,reduceIte,reduceCtorEq,Q3q,Q3r,Q3s,Q3t,Q3u,Q3v,Q3w,Q3x,Q3y,Q3z,and_true,true_and,and_self,Q40,Q41,Q42,Q43,na2,na3,na4,na5,na6,na9,Q44,Q45,Q46,Q47,Q48,ne_eq,not_false_eq_true]
  rw [show (b == 0) = false from by simpa using h0]
  simp only [Q0,Q1,Q2,Q3,Q4,Q5,Q6,Q7,Q8,Q9,Qa,Qb,Qc,Qd,Qe,Qf,Qg,Qh,Qi,Qj,Qk,Ql,Qm,Qn,Qo,Qp,Qq,Qr,Qs,Qt,Qu,Qv,Qw,Qx,Qy,Qz,Q10,Q11,Q12,Q13,Q14,Q15,Q16,Q17,Q18,Q19,Q1a,Q1b,Q1c,Q1d,Q1e,Q1f,Q1g,Q1h,Q1i,Q1i,Q1j,Q1k,Q1l,Q1m,Q1n,Q1o,Q1p,Q1q,Q1r,Q1s,rvV,Q1t,rvD,Q1u,Q1v,Q1w,Q1x,Q1y,Q1z,Q20,Q21,Q22,Q23,Q24,Q25,Q26,Q27,Q28,Q29,Q2a,Q2b,Q2c,Q49,Q4a,Q4b,Q4c,Q4d,Q4e,Q4f,Q4g,Q4h,Q4i,Q4j,Q4k,Q4l,Q4m,leD,ltD,Q2e,Q2f,Q2g,Q2h,Q2i,Q2j,Q2k,Q2l,Q2m,Q2n,Q2o,Q2p,Q2q,Q2r,clr,Q2s,Q2t,Q2u,Q2v,beq_self_eq_true,Q2w,Q2x,Q2y,Q2z,Q30,Q31,Q32,Q33,Q34,Q35,Q36,Q37,Q38,Q39,Q3a,Q3b,Q3c,Q3d,if_false,if_true,Q3e,Q3f,Q3g,Q3h,decide_eq_true_eq,Q3i,Q3j,Q3k,Q3l,Q3m,Q3n,Q3o,Q3p,reduceIte,reduceCtorEq,Q3q,Q3r,Q3s,Q3t,Q3u,Q3v,Q3w,Q3x,Q3y,Q3z,and_true,true_and,and_self,Q40,Q41,Q42,Q43,na2,na3,na4,na5,na6,na9,Q44,Q45,Q46,Q47,Q48,ne_eq,not_false_eq_true]
  rw [if_pos ⟨h0, hb⟩]
  simp only [Q0,Q1,Q2,Q3,Q4,Q5,Q6,Q7,Q8,Q9,Qa,Qb,Qc,Qd,Qe,Qf,Qg,Qh,Qi,Qj,Qk,Ql,Qm,Qn,Qo,Qp,Qq,Qr,Qs,Qt,Qu,Qv,Qw,Qx,Qy,Qz,Q10,Q11,Q12,Q13,Q14,Q15,Q16,Q17,Q18,Q19,Q1a,Q1b,Q1c,Q1d,Q1e,Q1f,Q1g,Q1h,Q1i,Q1i,Q1j,Q1k,Q1l,Q1m,Q1n,Q1o,Q1p,Q1q,Q1r,Q1s,rvV,Q1t,rvD,Q1u,Q1v,Q1w,Q1x,Q1y,Q1z,Q20,Q21,Q22,Q23,Q24,Q25,Q26,Q27,Q28,Q29,Q2a,Q2b,Q2c,Q49,Q4a,Q4b,Q4c,Q4d,Q4e,Q4f,Q4g,Q4h,Q4i,Q4j,Q4k,Q4l,Q4m,leD,ltD,Q2e,Q2f,Q2g,Q2h,Q2i,Q2j,Q2k,Q2l,Q2m,Q2n,Q2o,Q2p,Q2q,Q2r,clr,Q2s,Q2t,Q2u,Q2v,beq_self_eq_true,Q2w,Q2x,Q2y,Q2z,Q30,Q31,Q32,Q33,Q34,Q35,Q36,Q37,Q38,Q39,Q3a,Q3b,Q3c,Q3d,if_false,if_true,Q3e,Q3f,Q3g,Q3h,decide_eq_true_eq,Q3i,Q3j,Q3k,Q3l,Q3m,Q3n,Q3o,Q3p,reduceIte,reduceCtorEq,Q3q,Q3r,Q3s,Q3t,Q3u,Q3v,Q3w,Q3x,Q3y,Q3z,and_true,true_and,and_self,Q40,Q41,Q42,Q43,na2,na3,na4,na5,na6,na9,Q44,Q45,Q46,Q47,Q48,ne_eq,not_false_eq_true]
  simp only [lfit_eq n (.int (a.fdiv b)) (by show 0 < n; omega) (.inl ⟨_, rfl⟩)]
  simp only [Q0,Q1,Q2,Q3,Q4,Q5,Q6,Q7,Q8,Q9,Qa,Qb,Qc,Qd,Qe,Qf,Qg,Qh,Qi,Qj,Qk,Ql,Qm,Qn,Qo,Qp,Qq,Qr,Qs,Qt,Qu,Qv,Qw,Qx,Qy,Qz,Q10,Q11,Q12,Q13,Q14,Q15,Q16,Q17,Q18,Q19,Q1a,Q1b,Q1c,Q1d,Q1e,Q1f,Q1g,Q1h,Q1i,Q1i,Q1j,Q1k,Q1l,Q1m,Q1n,Q1o,Q1p,Q1q,Q1r,Q1s,rvV,Q1t,rvD,Q1u,Q1v,Q1w,Q1x,Q1y,Q1z,Q20,Q21,Q22,Q23,Q24,Q25,Q26,Q27,Q28,Q29,Q2a,Q2b,Q2c,Q49,Q4a,Q4b,Q4c,Q4d,Q4e,Q4f,Q4g,Q4h,Q4i,Q4j,Q4k,Q4l,Q4m,leD,ltD,Q2e,Q2f,Q2g,Q2h,Q2i,Q2j,Q2k,Q2l,Q2m,Q2n,Q2o,Q2p,Q2q,Q2r,clr,Q2s,Q2t,Q2u,Q2v,beq_self_eq_true,Q2w,Q2x,Q2y,Q2z,Q30,Q31,Q32,Q33,Q34,Q35,Q36,Q37,Q38,Q39,Q3a,Q3b,Q3c,Q3d,if_false,if_true,Q3e,Q3f,Q3g,Q3h,decide_eq_true_eq,Q3i,Q3j,Q3k,Q3l,Q3m,Q3n,Q3o,Q3p,reduceIte,reduceCtorEq,Q3q,Q3r,Q3s,Q3t,Q3u,Q3v,Q3w,Q3x,Q3y,Q3z,and_true,true_and,and_self,Q40,Q41,Q42,Q43,na2,na3,na4,na5,na6,na9,Q44,Q45,Q46,Q47,Q48,ne_eq,not_false_eq_true]
theorem A6_over (n : Nat) (a : Int) : callF P (n+6) false 18 [.fz w_over, .fz (.list [.int a, .int 0])] = okP false t_ByNought := by kernel_rfl
theorem L6_over (n : Nat) (a : Int) : callF P (n+6) false 16 [.fz w_over, .fz (.list [.int a, .int 0])] = okP false t_ByNought := by kernel_rfl
end L02

end

section
set_option maxRecDepth 100000
set_option linter.unusedVariables false
set_option linter.unusedSimpArgs false
namespace L02
open PySem Mv
noncomputable abbrev sing : D := .tuple [w_down, w_first, w_rest, w_empty]
noncomputable abbrev ones : D := .tuple [w_first, w_rest, w_empty, w_down]
theorem P_g2 : P.glob[2]? = some sing := rfl
theorem i_same : inD w_same sing = some false := by kernel_rfl
theorem i_same2 : inD w_same ones = some false := by kernel_rfl
theorem i_join : inD w_join sing = some false := by kernel_rfl
theorem i_join2 : inD w_join ones = some false := by kernel_rfl
theorem q_same_list : eqD w_same w_list = some false := by kernel_rfl
theorem q_same_down : eqD w_same w_down = some false := by kernel_rfl
theorem q_same_same : eqD w_same w_same = some true := by kernel_rfl
theorem q_join_list : eqD w_join w_list = some false := by kernel_rfl
theorem q_join_same : eqD w_join w_same = some false := by kernel_rfl
theorem q_join_join : eqD w_join w_join = some true := by kernel_rfl
theorem q_join_down : eqD w_join w_down = some false := by kernel_rfl
theorem q_list_list : eqD w_list w_list = some true := by kernel_rfl
open _root_.Mv renaming runF_eq → Q0, finF_ret → Q1, finF_next → Q2, finF_err → Q3, finF_ite → Q4, bnd_none → Q5, bnd_ok → Q6, bnd_err → Q7, bnd_ite → Q8, bndN_ok → Q9, bndN_none → Qa, exS_raise → Qd, exS_try → Qe, tryO_ok → Qf, tryO_err → Qg, tryH_ok → Qh, ev_isx → Qi, ev_dsel → Qj, okO_some → Qk, okO_none → Ql, okV_fz → Qm, okV_own → Qn, okV_none → Qo, ev_lit → Qp, ev_gl → Qq, ev_var → Qr, ev_pl → Qs, ev_tup → Qt, ev_list → Qu, ev_op2 → Qv, ev_neg → Qw, ev_not → Qx, ev_cmp → Qy, ev_cmp2 → Qz, ev_and → Q10, ev_or → Q11, ev_ite → Q12, ev_idx → Q13, ev_slc → Q14, ev_call → Q15, ev_bi → Q16, ev_comp → Q17, compB_nil → Q18, evs_nil → Q19, evs_cons → Q1a, evAnd_one → Q1b, evAnd_cons → Q1c, evOr_one → Q1d, evOr_cons → Q1e, evConds_nil → Q1f, evConds_cons → Q1g, exS_asg → Q1h, Tgt.isTup → Q1i, exS_iff → Q1j, exS_ret → Q1k, exS_for → Q1l, forB_nil → Q1m, exSs_nil → Q1n, exSs_cons → Q1o, pinsOf → Q1p, Slot.lent → Q1q, Slot.live → Q1r, plLive → Q1s, rvVs → Q1t, rvDs → Q1u, b_len → Q1v, b_isi → Q1w, b_sum → Q1x, b_tupL → Q1y, b_tupT → Q1z, b_abs → Q20, b_int → Q21, b_listL → Q22, plGet → Q23, callO → Q24, argSlots → Q25, roots → Q26, copyOut → Q27, cmpD → Q28, e_int → Q29, e_bool → Q2a, e_list → Q2b, e_tuple → Q2c, outsOf → Q2e, o_addI → Q2f, o_addT → Q2g, o_addL → Q2h, o_sub → Q2i, o_mulI → Q2j, o_mulT → Q2k, o_mulL → Q2l, o_fdiv → Q2m, o_mod → Q2n, o_pow → Q2o, negD → Q2p, asgT → Q2q, asgs → Q2r, tgtVars → Q2s, idxD → Q2t, isiD → Q2u, i_bb → Q2v, truthD → Q2w, lenD → Q2x, iterD → Q2y, Bi.loops → Q31
open _root_.L02 renaming bndN_ite → Qb, bndN_err → Qc, P_g2 → Q4n, i_same → Q4o, i_same2 → Q4p, i_join → Q4q, i_join2 → Q4r, q_same_list → Q4s, q_same_down → Q4t, q_same_same → Q4u, q_join_list → Q4v, q_join_same → Q4w, q_join_join → Q4x, q_join_down → Q4y, q_list_list → Q4z, P_g0 → Q2z, P_g1 → Q30, len_some → Q43, na10 → Q44, na12 → Q45, na16 → Q46, na30 → Q47, na100 → Q48
open _root_.Bool renaming and_false → Q32, false_and → Q33, false_eq_true → Q3d, not_true → Q3e, not_false → Q3f, not_eq_true → Q3j
open _root_.List renaming cons_append → Q34, nil_append → Q35, append_nil → Q36, replicate → Q37, getElem?_cons_zero → Q38, getElem?_cons_succ → Q39, set_cons_zero → Q3a, set_cons_succ → Q3b, contains_nil → Q3c, nodup_nil → Q3i
open _root_.Option renaming map_some → Q3g, map_none → Q3h
open _root_.Nat renaming reduceAdd → Q3k, reduceSub → Q3l, reduceMul → Q3m, reduceLT → Q3n, reduceLeDiff → Q3o, reduceEqDiff → Q3p, reducePow → Q40, le_refl → Q41
open _root_.Int renaming reduceAdd → Q3q, reduceNeg → Q3r, reducePow → Q3s, reduceSub → Q3t, reduceMul → Q3u, reduceLT → Q3v, reduceLE → Q3w, reduceEq → Q3x, reduceToNat → Q3y, natAbs_natCast → Q3z, le_refl → Q42

theorem call_6 (n : Nat) (hd : Bool) (a b : Slot) : callF P (n+1) hd 6 [a, b] = runF P n hd f_joined [a, b] := rfl
theorem A0 (n : Nat) (w vs : D) : callF P (n+6) false 18 [.fz w, .fz vs] = runC (ov 7 (callF P (n+5) false 7 [.fz w, .fz vs]) (callF P (n+5))) false f_l_answer [.fz w, .fz vs] := by kernel_rfl
theorem A0_ok (n : Nat) (w vs d : D) : runC (ov 7 (some (.ok (.fz d), [])) (callF P (n+5))) false f_l_answer [.fz w, .fz vs] = okP true d := by kernel_rfl
theorem A0_err (n : Nat) (w vs : D) : runC (ov 7 (some (.error x_TooGreat, [])) (callF P (n+5))) false f_l_answer [.fz w, .fz vs] = okP false t_TooGreat := by kernel_rfl
theorem key_fit2 {n : Nat} {w vs d : D} (hn : 10 ≤ n) (hd : dep d ≤ 8) (hg : good1 d) (hw : wt d ≤ 1000)
    (h1 : callF P (n+4) false 2 [.fz d] = some (.ok (.fz d), []) → callF P (n+5) false 7 [.fz w, .fz vs] = some (.ok (.fz d), [])) (h2 : callF P (n+4) false 2 [.fz d] = some (.error x_TooGreat, []) → callF P (n+5) false 7 [.fz w, .fz vs] = some (.error x_TooGreat, []))
    (h4 : callF P (n+6) false 16 [.fz w, .fz vs] = okP (fitB d) (fitD d)) : Key n w vs := by
  refine ⟨fitB d, fitD d, ?_, h4, ?_⟩
  · have h := fit_eq (n+2) d (by omega)
    unfold fitD
    cases hb : fitB d with
    | true => rw [hb, if_pos rfl] at h; rw [A0, h1 h, A0_ok]; rfl
    | false => rw [hb, if_neg Bool.false_ne_true] at h; rw [A0, h2 h, A0_err]; rfl
  · unfold fitD
    cases hb : fitB d with
    | true =>
      unfold fitB at hb
      rw [Bool.and_eq_true] at hb
      exact ⟨sm_good d hb.1, hd, hw⟩
    | false => exact ⟨rfl, by show 0 ≤ 8; decide, by show 1 ≤ 1000; decide⟩
structure Num (w : D) : Prop where
  q1 : eqD w w_list = some false
  q2 : eqD w w_down = some false
  q3 : inD w sing = some false
  q4 : eqD w w_same = some false
  q5 : eqD w w_join = some false
  q6 : inD w ones = some false
theorem A0_errN (n : Nat) (w vs : D) : runC (ov 7 (some (.error x_NoNumber, [])) (callF P (n+5))) false f_l_answer [.fz w, .fz vs] = okP false t_NoNumber := by kernel_rfl
theorem D_num {n : Nat} {w x y d : D} (N : Num w) (h3 : callF P (n+1) false 3 [.fz w, .fz x, .fz y] = some (.ok (.fz d), [])) (h : callF P (n+1) false 2 [.fz d] = some (.ok (.fz d), [])) : callF P (n+2) false 7 [.fz w, .fz (.list [x, y])] = some (.ok (.fz d), []) := by
  rw [call_7, f_done]
  repeat (first | simp only [N.q1, N.q2, N.q3, N.q4, N.q5, ix0, ix1, h3, h] | simp only [Q0,Q1,Q2,Q3,Q4,Q5,Q6,Q7,Q8,Q9,Qa,Qb,Qc,Qd,Qe,Qf,Qg,Qh,Qi,Qj,Qk,Ql,Qm,Qn,Qo,Qp,Qq,Qr,Qs,Qt,Qu,Qv,Qw,Qx,Qy,Qz,Q10,Q11,Q12,Q13,Q14,Q15,Q16,Q17,Q18,Q19,Q1a,Q1b,Q1c,Q1d,Q1e,Q1f,Q1g,Q1h,Q1i,Q1i,Q1j,Q1k,Q1l,Q1m,Q1n,Q1o,Q1p,Q1q,Q1r,Q1s,rvV,Q1t,rvD,Q1u,Q1v,Q1w,Q1x,Q1y,Q1z,Q20,Q21,Q22,Q23,Q24,Q25,Q26,Q27,Q28,Q29,Q2a,Q2b,Q2c,Q4n,Q4o,Q4p,Q4q,Q4r,Q4s,Q4t,Q4u,Q4v,Q4w,Q4x,Q4y,Q4z,leD,ltD,Q2e,Q2f,Q2g,Q2h,Q2i,Q2j,Q2k,Q2l,Q2m,Q2n,Q2o,Q2p,Q2q,Q2r,clr,Q2s,Q2t,Q2u,Q2v,beq_self_eq_true,Q2w,Q2x,Q2y,Q2z,Q30,Q31,Q32,Q33,Q34,Q35,Q36,Q37,Q38,Q39,Q3a,Q3b,Q3c,Q3d,if_false,if_true,Q3e,Q3f,Q3g,Q3h,decide_eq_true_eq,Q3i,Q3j,Q3k,Q3l,Q3m,Q3n,Q3o,Q3p,reduceIte,reduceCtorEq,Q3q,Q3r,Q3s,Q3t,Q3u,Q3v,Q3w,Q3x,Q3y,Q3z,and_true,true_and,and_self,Q40,Q41,Q42,Q43,na2,na3,na4,na5,na6,na9,Q44,Q45,Q46,Q47,Q48,ne_eq,not_false_eq_true])
theorem E_num {n : Nat} {w x y d : D} (N : Num w) (h3 : callF P (n+1) false 3 [.fz w, .fz x, .fz y] = some (.ok (.fz d), [])) (h : callF P (n+1) false 2 [.fz d] = some (.error x_TooGreat, [])) : callF P (n+2) false 7 [.fz w, .fz (.list [x, y])] = some (.error x_TooGreat, []) := by
  rw [call_7, f_done]
  repeat (first | simp only [N.q1, N.q2, N.q3, N.q4, N.q5, ix0, ix1, h3, h] | simp only [Q0,Q1,Q2,Q3,Q4,Q5,Q6,Q7,Q8,Q9,Qa,Qb,Qc,Qd,Qe,Qf,Qg,Qh,Qi,Qj,Qk,Ql,Qm,Qn,Qo,Qp,Qq,Qr,Qs,Qt,Qu,Qv,Qw,Qx,Qy,Qz,Q10,Q11,Q12,Q13,Q14,Q15,Q16,Q17,Q18,Q19,Q1a,Q1b,Q1c,Q1d,Q1e,Q1f,Q1g,Q1h,Q1i,Q1i,Q1j,Q1k,Q1l,Q1m,Q1n,Q1o,Q1p,Q1q,Q1r,Q1s,rvV,Q1t,rvD,Q1u,Q1v,Q1w,Q1x,Q1y,Q1z,Q20,Q21,Q22,Q23,Q24,Q25,Q26,Q27,Q28,Q29,Q2a,Q2b,Q2c,Q4n,Q4o,Q4p,Q4q,Q4r,Q4s,Q4t,Q4u,Q4v,Q4w,Q4x,Q4y,Q4z,leD,ltD,Q2e,Q2f,Q2g,Q2h,Q2i,Q2j,Q2k,Q2l,Q2m,Q2n,Q2o,Q2p,Q2q,Q2r,clr,Q2s,Q2t,Q2u,Q2v,beq_self_eq_true,Q2w,Q2x,Q2y,Q2z,Q30,Q31,Q32,Q33,Q34,Q35,Q36,Q37,Q38,Q39,Q3a,Q3b,Q3c,Q3d,if_false,if_true,Q3e,Q3f,Q3g,Q3h,decide_eq_true_eq,Q3i,Q3j,Q3k,Q3l,Q3m,Q3n,Q3o,Q3p,reduceIte,reduceCtorEq,Q3q,Q3r,Q3s,Q3t,Q3u,Q3v,Q3w,Q3x,Q3y,Q3z,and_true,true_and,and_self,Q40,Q41,Q42,Q43,na2,na3,na4,na5,na6,na9,Q44,Q45,Q46,Q47,Q48,ne_eq,not_false_eq_true])
theorem F_num {n : Nat} {w x y : D} (N : Num w) (h3 : callF P (n+1) false 3 [.fz w, .fz x, .fz y] = some (.error x_NoNumber, [])) : callF P (n+2) false 7 [.fz w, .fz (.list [x, y])] = some (.error x_NoNumber, []) := by
  rw [call_7, f_done]
  repeat (first | simp only [N.q1, N.q2, N.q3, N.q4, N.q5, ix0, ix1, h3] | simp only [Q0,Q1,Q2,Q3,Q4,Q5,Q6,Q7,Q8,Q9,Qa,Qb,Qc,Qd,Qe,Qf,Qg,Qh,Qi,Qj,Qk,Ql,Qm,Qn,Qo,Qp,Qq,Qr,Qs,Qt,Qu,Qv,Qw,Qx,Qy,Qz,Q10,Q11,Q12,Q13,Q14,Q15,Q16,Q17,Q18,Q19,Q1a,Q1b,Q1c,Q1d,Q1e,Q1f,Q1g,Q1h,Q1i,Q1i,Q1j,Q1k,Q1l,Q1m,Q1n,Q1o,Q1p,Q1q,Q1r,Q1s,rvV,Q1t,rvD,Q1u,Q1v,Q1w,Q1x,Q1y,Q1z,Q20,Q21,Q22,Q23,Q24,Q25,Q26,Q27,Q28,Q29,Q2a,Q2b,Q2c,Q4n,Q4o,Q4p,Q4q,Q4r,Q4s,Q4t,Q4u,Q4v,Q4w,Q4x,Q4y,Q4z,leD,ltD,Q2e,Q2f,Q2g,Q2h,Q2i,Q2j,Q2k,Q2l,Q2m,Q2n,Q2o,Q2p,Q2q,Q2r,clr,Q2s,Q2t,Q2u,Q2v,beq_self_eq_true,Q2w,Q2x,Q2y,Q2z,Q30,Q31,Q32,Q33,Q34,Q35,Q36,Q37,Q38,Q39,Q3a,Q3b,Q3c,Q3d,if_false,if_true,Q3e,Q3f,Q3g,Q3h,decide_eq_true_eq,Q3i,Q3j,Q3k,Q3l,Q3m,Q3n,Q3o,Q3p,reduceIte,reduceCtorEq,Q3q,Q3r,Q3s,Q3t,Q3u,Q3v,Q3w,Q3x,Q3y,Q3z,and_true,true_and,and_self,Q40,Q41,Q42,Q43,na2,na3,na4,na5,na6,na9,Q44,Q45,Q46,Q47,Q48,ne_eq,not_false_eq_true])
theorem L_num {n : Nat} {w x y t : D} (N : Num w) (h : callF P (n+1) false 14 [.fz w, .fz x, .fz y] = some (.ok (.fz t), [])) : callF P (n+2) false 16 [.fz w, .fz (.list [x, y])] = some (.ok (.fz t), []) := by
  rw [call_16, f_l_done]
  repeat (first | simp only [N.q1, N.q4, N.q5, N.q6, ix0, ix1, h] | simp only [Q0,Q1,Q2,Q3,Q4,Q5,Q6,Q7,Q8,Q9,Qa,Qb,Qc,Qd,Qe,Qf,Qg,Qh,Qi,Qj,Qk,Ql,Qm,Qn,Qo,Qp,Qq,Qr,Qs,Qt,Qu,Qv,Qw,Qx,Qy,Qz,Q10,Q11,Q12,Q13,Q14,Q15,Q16,Q17,Q18,Q19,Q1a,Q1b,Q1c,Q1d,Q1e,Q1f,Q1g,Q1h,Q1i,Q1i,Q1j,Q1k,Q1l,Q1m,Q1n,Q1o,Q1p,Q1q,Q1r,Q1s,rvV,Q1t,rvD,Q1u,Q1v,Q1w,Q1x,Q1y,Q1z,Q20,Q21,Q22,Q23,Q24,Q25,Q26,Q27,Q28,Q29,Q2a,Q2b,Q2c,Q4n,Q4o,Q4p,Q4q,Q4r,Q4s,Q4t,Q4u,Q4v,Q4w,Q4x,Q4y,Q4z,leD,ltD,Q2e,Q2f,Q2g,Q2h,Q2i,Q2j,Q2k,Q2l,Q2m,Q2n,Q2o,Q2p,Q2q,Q2r,clr,Q2s,Q2t,Q2u,Q2v,beq_self_eq_true,Q2w,Q2x,Q2y,Q2z,Q30,Q31,Q32,Q33,Q34,Q35,Q36,Q37,Q38,Q39,Q3a,Q3b,Q3c,Q3d,if_false,if_true,Q3e,Q3f,Q3g,Q3h,decide_eq_true_eq,Q3i,Q3j,Q3k,Q3l,Q3m,Q3n,Q3o,Q3p,reduceIte,reduceCtorEq,Q3q,Q3r,Q3s,Q3t,Q3u,Q3v,Q3w,Q3x,Q3y,Q3z,and_true,true_and,and_self,Q40,Q41,Q42,Q43,na2,na3,na4,na5,na6,na9,Q44,Q45,Q46,Q47,Q48,ne_eq,not_false_eq_true])
theorem keyNo {n : Nat} {w x y : D} (N : Num w) (h3 : callF P (n+4) false 3 [.fz w, .fz x, .fz y] = some (.error x_NoNumber, [])) (h : callF P (n+5) false 14 [.fz w, .fz x, .fz y] = okP false t_NoNumber) : Key n w (.list [x, y]) :=
  ⟨false, t_NoNumber, by rw [A0, F_num (n := n+3) N h3, A0_errN], L_num (n := n+4) N h, rfl, by decide, by decide⟩
theorem keyFit {n : Nat} {w : D} {a b r : Int} (N : Num w) (hn : 10 ≤ n) (h3 : callF P (n+4) false 3 [.fz w, .fz (.int a), .fz (.int b)] = some (.ok (.fz (.int r)), [])) (h4 : callF P (n+5) false 14 [.fz w, .fz (.int a), .fz (.int b)] = okP (fitB (.int r)) (fitD (.int r))) : Key n w (.list [.int a, .int b]) :=
  key_fit2 (d := .int r) hn (by show 0 ≤ 8; decide) (.inl ⟨r, rfl⟩) (by show 1 ≤ 1000; decide) (D_num (n := n+3) N h3) (E_num (n := n+3) N h3) (L_num (n := n+4) N h4)
theorem num_plus : Num w_plus := ⟨by kernel_rfl, by kernel_rfl, by kernel_rfl, by kernel_rfl, by kernel_rfl, by kernel_rfl⟩
theorem keyT_plus (n : Nat) (s : List D) (y : D) : Key n w_plus (.list [.tuple s, y]) := keyNo num_plus (N1_plus (n+3) s y) (C1_plus (n+4) s y)
theorem keyU_plus (n : Nat) (a : Int) (t : List D) : Key n w_plus (.list [.int a, .tuple t]) := keyNo num_plus (N2_plus (n+3) a t) (C2_plus (n+4) a t)
theorem keyN_plus (n : Nat) (a b r : Int) (hn : 10 ≤ n) (h3 : callF P (n+4) false 3 [.fz w_plus, .fz (.int a), .fz (.int b)] = some (.ok (.fz (.int r)), [])) (h4 : callF P (n+5) false 14 [.fz w_plus, .fz (.int a), .fz (.int b)] = okP (fitB (.int r)) (fitD (.int r))) : Key n w_plus (.list [.int a, .int b]) := keyFit num_plus hn h3 h4
theorem num_minus : Num w_minus := ⟨by kernel_rfl, by kernel_rfl, by kernel_rfl, by kernel_rfl, by kernel_rfl, by kernel_rfl⟩
theorem keyT_minus (n : Nat) (s : List D) (y : D) : Key n w_minus (.list [.tuple s, y]) := keyNo num_minus (N1_minus (n+3) s y) (C1_minus (n+4) s y)
theorem keyU_minus (n : Nat) (a : Int) (t : List D) : Key n w_minus (.list [.int a, .tuple t]) := keyNo num_minus (N2_minus (n+3) a t) (C2_minus (n+4) a t)
theorem keyN_minus (n : Nat) (a b r : Int) (hn : 10 ≤ n) (h3 : callF P (n+4) false 3 [.fz w_minus, .fz (.int a), .fz (.int b)] = some (.ok (.fz (.int r)), [])) (h4 : callF P (n+5) false 14 [.fz w_minus, .fz (.int a), .fz (.int b)] = okP (fitB (.int r)) (fitD (.int r))) : Key n w_minus (.list [.int a, .int b]) := keyFit num_minus hn h3 h4
theorem num_times : Num w_times := ⟨by kernel_rfl, by kernel_rfl, by kernel_rfl, by kernel_rfl, by kernel_rfl, by kernel_rfl⟩
theorem keyT_times (n : Nat) (s : List D) (y : D) : Key n w_times (.list [.tuple s, y]) := keyNo num_times (N1_times (n+3) s y) (C1_times (n+4) s y)
theorem keyU_times (n : Nat) (a : Int) (t : List D) : Key n w_times (.list [.int a, .tuple t]) := keyNo num_times (N2_times (n+3) a t) (C2_times (n+4) a t)
theorem keyN_times (n : Nat) (a b r : Int) (hn : 10 ≤ n) (h3 : callF P (n+4) false 3 [.fz w_times, .fz (.int a), .fz (.int b)] = some (.ok (.fz (.int r)), [])) (h4 : callF P (n+5) false 14 [.fz w_times, .fz (.int a), .fz (.int b)] = okP (fitB (.int r)) (fitD (.int r))) : Key n w_times (.list [.int a, .int b]) := keyFit num_times hn h3 h4
theorem num_over : Num w_over := ⟨by kernel_rfl, by kernel_rfl, by kernel_rfl, by kernel_rfl, by kernel_rfl, by kernel_rfl⟩
theorem keyT_over (n : Nat) (s : List D) (y : D) : Key n w_over (.list [.tuple s, y]) := keyNo num_over (N1_over (n+3) s y) (C1_over (n+4) s y)
theorem keyU_over (n : Nat) (a : Int) (t : List D) : Key n w_over (.list [.int a, .tuple t]) := keyNo num_over (N2_over (n+3) a t) (C2_over (n+4) a t)
theorem keyN_over (n : Nat) (a b r : Int) (hn : 10 ≤ n) (h3 : callF P (n+4) false 3 [.fz w_over, .fz (.int a), .fz (.int b)] = some (.ok (.fz (.int r)), [])) (h4 : callF P (n+5) false 14 [.fz w_over, .fz (.int a), .fz (.int b)] = okP (fitB (.int r)) (fitD (.int r))) : Key n w_over (.list [.int a, .int b]) := keyFit num_over hn h3 h4
theorem num_less : Num w_less := ⟨by kernel_rfl, by kernel_rfl, by kernel_rfl, by kernel_rfl, by kernel_rfl, by kernel_rfl⟩
theorem keyT_less (n : Nat) (s : List D) (y : D) : Key n w_less (.list [.tuple s, y]) := keyNo num_less (N1_less (n+3) s y) (C1_less (n+4) s y)
theorem keyU_less (n : Nat) (a : Int) (t : List D) : Key n w_less (.list [.int a, .tuple t]) := keyNo num_less (N2_less (n+3) a t) (C2_less (n+4) a t)
theorem keyN_less (n : Nat) (a b r : Int) (hn : 10 ≤ n) (h3 : callF P (n+4) false 3 [.fz w_less, .fz (.int a), .fz (.int b)] = some (.ok (.fz (.int r)), [])) (h4 : callF P (n+5) false 14 [.fz w_less, .fz (.int a), .fz (.int b)] = okP (fitB (.int r)) (fitD (.int r))) : Key n w_less (.list [.int a, .int b]) := keyFit num_less hn h3 h4
theorem key_over (n : Nat) (a b : Int) (hn : 10 ≤ n) (hb : b.natAbs < 2 ^ 64) : Key n w_over (.list [.int a, .int b]) := by
  by_cases h0 : b = 0
  · subst h0; exact ⟨false, t_ByNought, A6_over n a, L6_over n a, rfl, by decide, by decide⟩
  · exact keyN_over n a b (a.fdiv b) hn (N3_over (n+3) a b h0 hb) (C3_over (n+3) a b h0 hb (by omega))
theorem key_less (n : Nat) (a b : Int) (hn : 10 ≤ n) : Key n w_less (.list [.int a, .int b]) := by
  refine keyN_less n a b (if decide (a < b) = true then 1 else 0) hn (N3_less (n+3) a b) ?_
  rw [C3_less (n+4) a b]
  by_cases q : decide (a < b) = true
  · rw [if_pos q]; rfl
  · rw [if_neg q]; rfl
/-! same -/
theorem D_same (n : Nat) (x y : D) (e : Bool) (h : eqD x y = some e) : callF P (n+1) false 7 [.fz w_same, .fz (.list [x, y])] = some (.ok (.fz (.int (if e = true then 1 else 0))), []) := by
  rw [call_7, f_done]
  simp only [Q0,Q1,Q2,Q3,Q4,Q5,Q6,Q7,Q8,Q9,Qa,Qb,Qc,Qd,Qe,Qf,Qg,Qh,Qi,Qj,Qk,Ql,Qm,Qn,Qo,Qp,Qq,Qr,Qs,Qt,Qu,Qv,Qw,Qx,Qy,Qz,Q10,Q11,Q12,Q13,Q14,Q15,Q16,Q17,Q18,Q19,Q1a,Q1b,Q1c,Q1d,Q1e,Q1f,Q1g,Q1h,Q1i,Q1i,Q1j,Q1k,Q1l,Q1m,Q1n,Q1o,Q1p,Q1q,Q1r,Q1s,rvV,Q1t,rvD,Q1u,Q1v,Q1w,Q1x,Q1y,Q1z,Q20,Q21,Q22,Q23,Q24,Q25,Q26,Q27,Q28,Q29,Q2a,Q2b,Q2c,Q4n,Q4o,Q4p,Q4q,Q4r,Q4s,Q4t,Q4u,Q4v,Q4w,Q4x,Q4y,Q4z,leD,ltD,Q2e,Q2f,Q2g,Q2h,Q2i,Q2j,Q2k,Q2l,Q2m,Q2n,Q2o,Q2p,Q2q,Q2r,clr,Q2s,Q2t,Q2u,Q2v,beq_self_eq_true,Q2w,Q2x,Q2y,Q2z,Q30,Q31,Q32,Q33,Q34,Q35,Q36,Q37,Q38,Q39,Q3a,Q3b,Q3c,Q3d,if_false,if_true,Q3e,Q3f,Q3g,Q3h,decide_eq_true_eq,Q3i,Q3j,Q3k,Q3l,Q3m,Q3n,Q3o,Q3p,reduceIte,reduceCtorEq,Q3q,Q3r,Q3s,Q3t,Q3u,Q3v,Q3w,Q3x,Q3y,Q3z,and_true,true_and,and_self,Q40,Q41,Q42,Q43,na2,na3,na4,na5,na6,na9,Q44,Q45,Q46,Q47,Q48,ne_eq,not_false_eq_true]
  rw [show idxOf [x, y] 0 = some x from rfl]
  simp only [Q0,Q1,Q2,Q3,Q4,Q5,Q6,Q7,Q8,Q9,Qa,Qb,Qc,Qd,Qe,Qf,Qg,Qh,Qi,Qj,Qk,Ql,Qm,Qn,Qo,Qp,Qq,Qr,Qs,Qt,Qu,Qv,Qw,Qx,Qy,Qz,Q10,Q11,Q12,Q13,Q14,Q15,Q16,Q17,Q18,Q19,Q1a,Q1b,Q1c,Q1d,Q1e,Q1f,Q1g,Q1h,Q1i,Q1i,Q1j,Q1k,Q1l,Q1m,Q1n,Q1o,Q1p,Q1q,Q1r,Q1s,rvV,Q1t,rvD,Q1u,Q1v,Q1w,Q1x,Q1y,Q1z,Q20,Q21,Q22,Q23,Q24,Q25,Q26,Q27,Q28,Q29,Q2a,Q2b,Q2c,Q4n,Q4o,Q4p,Q4q,Q4r,Q4s,Q4t,Q4u,Q4v,Q4w,Q4x,Q4y,Q4z,leD,ltD,Q2e,Q2f,Q2g,Q2h,Q2i,Q2j,Q2k,Q2l,Q2m,Q2n,Q2o,Q2p,Q2q,Q2r,clr,Q2s,Q2t,Q2u,Q2v,beq_self_eq_true,Q2w,Q2x,Q2y,Q2z,Q30,Q31,Q32,Q33,Q34,Q35,Q36,Q37,Q38,Q39,Q3a,Q3b,Q3c,Q3d,if_false,if_true,Q3e,Q3f,Q3g,Q3h,decide_eq_true_eq,Q3i,Q3j,Q3k,Q3l,Q3m,Q3n,Q3o,Q3p,reduceIte,reduceCtorEq,Q3q,Q3r,Q3s,Q3t,Q3u,Q3v,Q3w,Q3x,Q3y,Q3z,and_true,true_and,and_self,Q40,Q41,Q42,Q43,na2,na3,na4,na5,na6,na9,Q44,Q45,Q46,Q47,Q48,ne_eq,not_false_eq_true]
  rw [show idxOf [x, y] 1 = some y from rfl]
  simp only [Q0,Q1,Q2,Q3,Q4,Q5,Q6,Q7,Q8,Q9,Qa,Qb,Qc,Qd,Qe,Qf,Qg,Qh,Qi,Qj,Qk,Ql,Qm,Qn,Qo,Qp,Qq,Qr,Qs,Qt,Qu,Qv,Qw,Qx,Qy,Qz,Q10,Q11,Q12,Q13,Q14,Q15,Q16,Q17,Q18,Q19,Q1a,Q1b,Q1c,Q1d,Q1e,Q1f,Q1g,Q1h,Q1i,Q1i,Q1j,Q1k,Q1l,Q1m,Q1n,Q1o,Q1p,Q1q,Q1r,Q1s,rvV,Q1t,rvD,Q1u,Q1v,Q1w,Q1x,Q1y,Q1z,Q20,Q21,Q22,Q23,Q24,Q25,Q26,Q27,Q28,Q29,Q2a,Q2b,Q2c,Q4n,Q4o,Q4p,Q4q,Q4r,Q4s,Q4t,Q4u,Q4v,Q4w,Q4x,Q4y,Q4z,leD,ltD,Q2e,Q2f,Q2g,Q2h,Q2i,Q2j,Q2k,Q2l,Q2m,Q2n,Q2o,Q2p,Q2q,Q2r,clr,Q2s,Q2t,Q2u,Q2v,beq_self_eq_true,Q2w,Q2x,Q2y,Q2z,Q30,Q31,Q32,Q33,Q34,Q35,Q36,Q37,Q38,Q39,Q3a,Q3b,Q3c,Q3d,if_false,if_true,Q3e,Q3f,Q3g,Q3h,decide_eq_true_eq,Q3i,Q3j,Q3k,Q3l,Q3m,Q3n,Q3o,Q3p,reduceIte,reduceCtorEq,Q3q,Q3r,Q3s,Q3t,Q3u,Q3v,Q3w,Q3x,Q3y,Q3z,and_true,true_and,and_self,Q40,Q41,Q42,Q43,na2,na3,na4,na5,na6,na9,Q44,Q45,Q46,Q47,Q48,ne_eq,not_false_eq_true]
  rw [h]
  simp only [Q0,Q1,Q2,Q3,Q4,Q5,Q6,Q7,Q8,Q9,Qa,Qb,Qc,Qd,Qe,Qf,Qg,Qh,Qi,Qj,Qk,Ql,Qm,Qn,Qo,Qp,Qq,Qr,Qs,Qt,Qu,Qv,Qw,Qx,Qy,Qz,Q10,Q11,Q12,Q13,Q14,Q15,Q16,Q17,Q18,Q19,Q1a,Q1b,Q1c,Q1d,Q1e,Q1f,Q1g,Q1h,Q1i,Q1i,Q1j,Q1k,Q1l,Q1m,Q1n,Q1o,Q1p,Q1q,Q1r,Q1s,rvV,Q1t,rvD,Q1u,Q1v,Q1w,Q1x,Q1y,Q1z,Q20,Q21,Q22,Q23,Q24,Q25,Q26,Q27,Q28,Q29,Q2a,Q2b,Q2c,Q4n,Q4o,Q4p,Q4q,Q4r,Q4s,Q4t,Q4u,Q4v,Q4w,Q4x,Q4y,Q4z,leD,ltD,Q2e,Q2f,Q2g,Q2h,Q2i,Q2j,Q2k,Q2l,Q2m,Q2n,Q2o,Q2p,Q2q,Q2r,clr,Q2s,Q2t,Q2u,Q2v,beq_self_eq_true,Q2w,Q2x,Q2y,Q2z,Q30,Q31,Q32,Q33,Q34,Q35,Q36,Q37,Q38,Q39,Q3a,Q3b,Q3c,Q3d,if_false,if_true,Q3e,Q3f,Q3g,Q3h,decide_eq_true_eq,Q3i,Q3j,Q3k,Q3l,Q3m,Q3n,Q3o,Q3p,reduceIte,reduceCtorEq,Q3q,Q3r,Q3s,Q3t,Q3u,Q3v,Q3w,Q3x,Q3y,Q3z,and_true,true_and,and_self,Q40,Q41,Q42,Q43,na2,na3,na4,na5,na6,na9,Q44,Q45,Q46,Q47,Q48,ne_eq,not_false_eq_true]
theorem L_same (n : Nat) (x y : D) (e : Bool) (h : eqD x y = some e) : callF P (n+1) false 16 [.fz w_same, .fz (.list [x, y])] = okP true (.int (if e = true then 1 else 0)) := by
  rw [call_16, f_l_done]
  simp only [Q0,Q1,Q2,Q3,Q4,Q5,Q6,Q7,Q8,Q9,Qa,Qb,Qc,Qd,Qe,Qf,Qg,Qh,Qi,Qj,Qk,Ql,Qm,Qn,Qo,Qp,Qq,Qr,Qs,Qt,Qu,Qv,Qw,Qx,Qy,Qz,Q10,Q11,Q12,Q13,Q14,Q15,Q16,Q17,Q18,Q19,Q1a,Q1b,Q1c,Q1d,Q1e,Q1f,Q1g,Q1h,Q1i,Q1i,Q1j,Q1k,Q1l,Q1m,Q1n,Q1o,Q1p,Q1q,Q1r,Q1s,rvV,Q1t,rvD,Q1u,Q1v,Q1w,Q1x,Q1y,Q1z,Q20,Q21,Q22,Q23,Q24,Q25,Q26,Q27,Q28,Q29,Q2a,Q2b,Q2c,Q4n,Q4o,Q4p,Q4q,Q4r,Q4s,Q4t,Q4u,Q4v,Q4w,Q4x,Q4y,Q4z,leD,ltD,Q2e,Q2f,Q2g,Q2h,Q2i,Q2j,Q2k,Q2l,Q2m,Q2n,Q2o,Q2p,Q2q,Q2r,clr,Q2s,Q2t,Q2u,Q2v,beq_self_eq_true,Q2w,Q2x,Q2y,Q2z,Q30,Q31,Q32,Q33,Q34,Q35,Q36,Q37,Q38,Q39,Q3a,Q3b,Q3c,Q3d,if_false,if_true,Q3e,Q3f,Q3g,Q3h,decide_eq_true_eq,Q3i,Q3j,Q3k,Q3l,Q3m,Q3n,Q3o,Q3p,reduceIte,reduceCtorEq,Q3q,Q3r,Q3s,Q3t,Q3u,Q3v,Q3w,Q3x,Q3y,Q3z,and_true,true_and,and_self,Q40,Q41,Q42,Q43,na2,na3,na4,na5,na6,na9,Q44,Q45,Q46,Q47,Q48,ne_eq,not_false_eq_true]
  rw [show idxOf [x, y] 0 = some x from rfl]
  simp only [Q0,Q1,Q2,Q3,Q4,Q5,Q6,Q7,Q8,Q9,Qa,Qb,Qc,Qd,Qe,Qf,Qg,Qh,Qi,Qj,Qk,Ql,Qm,Qn,Qo,Qp,Qq,Qr,Qs,Qt,Qu,Qv,Qw,Qx,Qy,Qz,Q10,Q11,Q12,Q13,Q14,Q15,Q16,Q17,Q18,Q19,Q1a,Q1b,Q1c,Q1d,Q1e,Q1f,Q1g,Q1h,Q1i,Q1i,Q1j,Q1k,Q1l,Q1m,Q1n,Q1o,Q1p,Q1q,Q1r,Q1s,rvV,Q1t,rvD,Q1u,Q1v,Q1w,Q1x,Q1y,Q1z,Q20,Q21,Q22,Q23,Q24,Q25,Q26,Q27,Q28,Q29,Q2a,Q2b,Q2c,Q4n,Q4o,Q4p,Q4q,Q4r,Q4s,Q4t,Q4u,Q4v,Q4w,Q4x,Q4y,Q4z,leD,ltD,Q2e,Q2f,Q2g,Q2h,Q2i,Q2j,Q2k,Q2l,Q2m,Q2n,Q2o,Q2p,Q2q,Q2r,clr,Q2s,Q2t,Q2u,Q2v,beq_self_eq_true,Q2w,Q2x,Q2y,Q2z,Q30,Q31,Q32,Q33,Q34,Q35,Q36,Q37,Q38,Q39,Q3a,Q3b,Q3c,Q3d,if_false,if_true,Q3e,Q3f,Q3g,Q3h,decide_eq_true_eq,Q3i,Q3j,Q3k,Q3l,Q3m,Q3n,Q3o,Q3p,reduceIte,reduceCtorEq,Q3q,Q3r,Q3s,Q3t,Q3u,Q3v,Q3w,Q3x,Q3y,Q3z,and_true,true_and,and_self,Q40,Q41,Q42,Q43,na2,na3,na4,na5,na6,na9,Q44,Q45,Q46,Q47,Q48,ne_eq,not_false_eq_true]
  rw [show idxOf [x, y] 1 = some y from rfl]
  simp only [Q0,Q1,Q2,Q3,Q4,Q5,Q6,Q7,Q8,Q9,Qa,Qb,Qc,Qd,Qe,Qf,Qg,Qh,Qi,Qj,Qk,Ql,Qm,Qn,Qo,Qp,Qq,Qr,Qs,Qt,Qu,Qv,Qw,Qx,Qy,Qz,Q10,Q11,Q12,Q13,Q14,Q15,Q16,Q17,Q18,Q19,Q1a,Q1b,Q1c,Q1d,Q1e,Q1f,Q1g,Q1h,Q1i,Q1i,Q1j,Q1k,Q1l,Q1m,Q1n,Q1o,Q1p,Q1q,Q1r,Q1s,rvV,Q1t,rvD,Q1u,Q1v,Q1w,Q1x,Q1y,Q1z,Q20,Q21,Q22,Q23,Q24,Q25,Q26,Q27,Q28,Q29,Q2a,Q2b,Q2c,Q4n,Q4o,Q4p,Q4q,Q4r,Q4s,Q4t,Q4u,Q4v,Q4w,Q4x,Q4y,Q4z,leD,ltD,Q2e,Q2f,Q2g,Q2h,Q2i,Q2j,Q2k,Q2l,Q2m,Q2n,Q2o,Q2p,Q2q,Q2r,clr,Q2s,Q2t,Q2u,Q2v,beq_self_eq_true,Q2w,Q2x,Q2y,Q2z,Q30,Q31,Q32,Q33,Q34,Q35,Q36,Q37,Q38,Q39,Q3a,Q3b,Q3c,Q3d,if_false,if_true,Q3e,Q3f,Q3g,Q3h,decide_eq_true_eq,Q3i,Q3j,Q3k,Q3l,Q3m,Q3n,Q3o,Q3p,reduceIte,reduceCtorEq,Q3q,Q3r,Q3s,Q3t,Q3u,Q3v,Q3w,Q3x,Q3y,Q3z,and_true,true_and,and_self,Q40,Q41,Q42,Q43,na2,na3,na4,na5,na6,na9,Q44,Q45,Q46,Q47,Q48,ne_eq,not_false_eq_true]
  rw [h]
  simp only [Q0,Q1,Q2,Q3,Q4,Q5,Q6,Q7,Q8,Q9,Qa,Qb,Qc,Qd,Qe,Qf,Qg,Qh,Qi,Qj,Qk,Ql,Qm,Qn,Qo,Qp,Qq,Qr,Qs,Qt,Qu,Qv,Qw,Qx,Qy,Qz,Q10,Q11,Q12,Q13,Q14,Q15,Q16,Q17,Q18,Q19,Q1a,Q1b,Q1c,Q1d,Q1e,Q1f,Q1g,Q1h,Q1i,Q1i,Q1j,Q1k,Q1l,Q1m,Q1n,Q1o,Q1p,Q1q,Q1r,Q1s,rvV,Q1t,rvD,Q1u,Q1v,Q1w,Q1x,Q1y,Q1z,Q20,Q21,Q22,Q23,Q24,Q25,Q26,Q27,Q28,Q29,Q2a,Q2b,Q2c,Q4n,Q4o,Q4p,Q4q,Q4r,Q4s,Q4t,Q4u,Q4v,Q4w,Q4x,Q4y,Q4z,leD,ltD,Q2e,Q2f,Q2g,Q2h,Q2i,Q2j,Q2k,Q2l,Q2m,Q2n,Q2o,Q2p,Q2q,Q2r,clr,Q2s,Q2t,Q2u,Q2v,beq_self_eq_true,Q2w,Q2x,Q2y,Q2z,Q30,Q31,Q32,Q33,Q34,Q35,Q36,Q37,Q38,Q39,Q3a,Q3b,Q3c,Q3d,if_false,if_true,Q3e,Q3f,Q3g,Q3h,decide_eq_true_eq,Q3i,Q3j,Q3k,Q3l,Q3m,Q3n,Q3o,Q3p,reduceIte,reduceCtorEq,Q3q,Q3r,Q3s,Q3t,Q3u,Q3v,Q3w,Q3x,Q3y,Q3z,and_true,true_and,and_self,Q40,Q41,Q42,Q43,na2,na3,na4,na5,na6,na9,Q44,Q45,Q46,Q47,Q48,ne_eq,not_false_eq_true]
theorem key_same (n : Nat) (x y : D) (e : Bool) (h : eqD x y = some e) : Key n w_same (.list [x, y]) := ⟨true, .int (if e = true then 1 else 0), by rw [A0, D_same (n+4) x y e h, A0_ok], L_same (n+5) x y e h, rfl, by show 0 ≤ 8; decide, by show 1 ≤ 1000; decide⟩
/-! join -/
theorem A6_join (n : Nat) (x : D) (b : Int) : callF P (n+6) false 18 [.fz w_join, .fz (.list [x, .int b])] = okP false t_NoList := by kernel_rfl
theorem L6_join (n : Nat) (x : D) (b : Int) : callF P (n+6) false 16 [.fz w_join, .fz (.list [x, .int b])] = okP false t_NoList := by kernel_rfl
theorem J_join (n : Nat) (x : D) (t : List D) (h : t.length ≤ 1000) : callF P (n+1) false 6 [.fz x, .fz (.tuple t)] = some (.ok (.fz (.tuple (x :: t))), []) := by
  rw [call_6, f_joined]
  simp only [Q0,Q1,Q2,Q3,Q4,Q5,Q6,Q7,Q8,Q9,Qa,Qb,Qc,Qd,Qe,Qf,Qg,Qh,Qi,Qj,Qk,Ql,Qm,Qn,Qo,Qp,Qq,Qr,Qs,Qt,Qu,Qv,Qw,Qx,Qy,Qz,Q10,Q11,Q12,Q13,Q14,Q15,Q16,Q17,Q18,Q19,Q1a,Q1b,Q1c,Q1d,Q1e,Q1f,Q1g,Q1h,Q1i,Q1i,Q1j,Q1k,Q1l,Q1m,Q1n,Q1o,Q1p,Q1q,Q1r,Q1s,rvV,Q1t,rvD,Q1u,Q1v,Q1w,Q1x,Q1y,Q1z,Q20,Q21,Q22,Q23,Q24,Q25,Q26,Q27,Q28,Q29,Q2a,Q2b,Q2c,Q4n,Q4o,Q4p,Q4q,Q4r,Q4s,Q4t,Q4u,Q4v,Q4w,Q4x,Q4y,Q4z,leD,ltD,Q2e,Q2f,Q2g,Q2h,Q2i,Q2j,Q2k,Q2l,Q2m,Q2n,Q2o,Q2p,Q2q,Q2r,clr,Q2s,Q2t,Q2u,Q2v,beq_self_eq_true,Q2w,Q2x,Q2y,Q2z,Q30,Q31,Q32,Q33,Q34,Q35,Q36,Q37,Q38,Q39,Q3a,Q3b,Q3c,Q3d,if_false,if_true,Q3e,Q3f,Q3g,Q3h,decide_eq_true_eq,Q3i,Q3j,Q3k,Q3l,Q3m,Q3n,Q3o,Q3p,reduceIte,reduceCtorEq,Q3q,Q3r,Q3s,Q3t,Q3u,Q3v,Q3w,Q3x,Q3y,Q3z,and_true,true_and,and_self,Q40,Q41,Q42,Q43,na2,na3,na4,na5,na6,na9,Q44,Q45,Q46,Q47,Q48,ne_eq,not_false_eq_true]
  rw [if_pos (by show 1 + t.length ≤ 16777216; omega)]
  simp only [Q0,Q1,Q2,Q3,Q4,Q5,Q6,Q7,Q8,Q9,Qa,Qb,Qc,Qd,Qe,Qf,Qg,Qh,Qi,Qj,Qk,Ql,Qm,Qn,Qo,Qp,Qq,Qr,Qs,Qt,Qu,Qv,Qw,Qx,Qy,Qz,Q10,Q11,Q12,Q13,Q14,Q15,Q16,Q17,Q18,Q19,Q1a,Q1b,Q1c,Q1d,Q1e,Q1f,Q1g,Q1h,Q1i,Q1i,Q1j,Q1k,Q1l,Q1m,Q1n,Q1o,Q1p,Q1q,Q1r,Q1s,rvV,Q1t,rvD,Q1u,Q1v,Q1w,Q1x,Q1y,Q1z,Q20,Q21,Q22,Q23,Q24,Q25,Q26,Q27,Q28,Q29,Q2a,Q2b,Q2c,Q4n,Q4o,Q4p,Q4q,Q4r,Q4s,Q4t,Q4u,Q4v,Q4w,Q4x,Q4y,Q4z,leD,ltD,Q2e,Q2f,Q2g,Q2h,Q2i,Q2j,Q2k,Q2l,Q2m,Q2n,Q2o,Q2p,Q2q,Q2r,clr,Q2s,Q2t,Q2u,Q2v,beq_self_eq_true,Q2w,Q2x,Q2y,Q2z,Q30,Q31,Q32,Q33,Q34,Q35,Q36,Q37,Q38,Q39,Q3a,Q3b,Q3c,Q3d,if_false,if_true,Q3e,Q3f,Q3g,Q3h,decide_eq_true_eq,Q3i,Q3j,Q3k,Q3l,Q3m,Q3n,Q3o,Q3p,reduceIte,reduceCtorEq,Q3q,Q3r,Q3s,Q3t,Q3u,Q3v,Q3w,Q3x,Q3y,Q3z,and_true,true_and,and_self,Q40,Q41,Q42,Q43,na2,na3,na4,na5,na6,na9,Q44,Q45,Q46,Q47,Q48,ne_eq,not_false_eq_true]
theorem L_join (n : Nat) (x : D) (t : List D) (h : t.length ≤ 1000) (hd : dep (.tuple (x :: t)) < n) (hg : good1 (.tuple (x :: t))) : callF P (n+2) false 16 [.fz w_join, .fz (.list [x, .tuple t])] = okP (fitB (.tuple (x :: t))) (fitD (.tuple (x :: t))) := by
  rw [call_16, f_l_done]
  simp only [Q0,Q1,Q2,Q3,Q4,Q5,Q6,Q7,Q8,Q9,Qa,Qb,Qc,Qd,Qe,Qf,Qg,Qh,Qi,Qj,Qk,Ql,Qm,Qn,Qo,Qp,Qq,Qr,Qs,Qt,Qu,Qv,Qw,Qx,Qy,Qz,Q10,Q11,Q12,Q13,Q14,Q15,Q16,Q17,Q18,Q19,Q1a,Q1b,Q1c,Q1d,Q1e,Q1f,Q1g,Q1h,Q1i,Q1i,Q1j,Q1k,Q1l,Q1m,Q1n,Q1o,Q1p,Q1q,Q1r,Q1s,rvV,Q1t,rvD,Q1u,Q1v,Q1w,Q1x,Q1y,Q1z,Q20,Q21,Q22,Q23,Q24,Q25,Q26,Q27,Q28,Q29,Q2a,Q2b,Q2c,Q4n,Q4o,Q4p,Q4q,Q4r,Q4s,Q4t,Q4u,Q4v,Q4w,Q4x,Q4y,Q4z,leD,ltD,Q2e,Q2f,Q2g,Q2h,Q2i,Q2j,Q2k,Q2l,Q2m,Q2n,Q2o,Q2p,Q2q,Q2r,clr,Q2s,Q2t,Q2u,Q2v,beq_self_eq_true,Q2w,Q2x,Q2y,Q2z,Q30,Q31,Q32,Q33,Q34,Q35,Q36,Q37,Q38,Q39,Q3a,Q3b,Q3c,Q3d,if_false,if_true,Q3e,Q3f,Q3g,Q3h,decide_eq_true_eq,Q3i,Q3j,Q3k,Q3l,Q3m,Q3n,Q3o,Q3p,reduceIte,reduceCtorEq,Q3q,Q3r,Q3s,Q3t,Q3u,Q3v,Q3w,Q3x,Q3y,Q3z,and_true,true_and,and_self,Q40,Q41,Q42,Q43,na2,na3,na4,na5,na6,na9,Q44,Q45,Q46,Q47,Q48,ne_eq,not_false_eq_true]
  rw [show idxOf [x, PyData.tuple t] 1 = some (.tuple t) from rfl]
  simp only [Q0,Q1,Q2,Q3,Q4,Q5,Q6,Q7,Q8,Q9,Qa,Qb,Qc,Qd,Qe,Qf,Qg,Qh,Qi,Qj,Qk,Ql,Qm,Qn,Qo,Qp,Qq,Qr,Qs,Qt,Qu,Qv,Qw,Qx,Qy,Qz,Q10,Q11,Q12,Q13,Q14,Q15,Q16,Q17,Q18,Q19,Q1a,Q1b,Q1c,Q1d,Q1e,Q1f,Q1g,Q1h,Q1i,Q1i,Q1j,Q1k,Q1l,Q1m,Q1n,Q1o,Q1p,Q1q,Q1r,Q1s,rvV,Q1t,rvD,Q1u,Q1v,Q1w,Q1x,Q1y,Q1z,Q20,Q21,Q22,Q23,Q24,Q25,Q26,Q27,Q28,Q29,Q2a,Q2b,Q2c,Q4n,Q4o,Q4p,Q4q,Q4r,Q4s,Q4t,Q4u,Q4v,Q4w,Q4x,Q4y,Q4z,leD,ltD,Q2e,Q2f,Q2g,Q2h,Q2i,Q2j,Q2k,Q2l,Q2m,Q2n,Q2o,Q2p,Q2q,Q2r,clr,Q2s,Q2t,Q2u,Q2v,beq_self_eq_true,Q2w,Q2x,Q2y,Q2z,Q30,Q31,Q32,Q33,Q34,Q35,Q36,Q37,Q38,Q39,Q3a,Q3b,Q3c,Q3d,if_false,if_true,Q3e,Q3f,Q3g,Q3h,decide_eq_true_eq,Q3i,Q3j,Q3k,Q3l,Q3m,Q3n,Q3o,Q3p,reduceIte,reduceCtorEq,Q3q,Q3r,Q3s,Q3t,Q3u,Q3v,Q3w,Q3x,Q3y,Q3z,and_true,true_and,and_self,Q40,Q41,Q42,Q43,na2,na3,na4,na5,na6,na9,Q44,Q45,Q46,Q47,Q48,ne_eq,not_false_eq_true]
  rw [show idxOf [x, PyData.tuple t] 0 = some x from rfl]
  simp only [Q0,Q1,Q2,Q3,Q4,Q5,Q6,Q7,Q8,Q9,Qa,Qb,Qc,Qd,Qe,Qf,Qg,Qh,Qi,Qj,Qk,Ql,Qm,Qn,Qo,Qp,Qq,Qr,Qs,Qt,Qu,Qv,Qw,Qx,Qy,Qz,Q10,Q11,Q12,Q13,Q14,Q15,Q16,Q17,Q18,Q19,Q1a,Q1b,Q1c,Q1d,Q1e,Q1f,Q1g,Q1h,Q1i,Q1i,Q1j,Q1k,Q1l,Q1m,Q1n,Q1o,Q1p,Q1q,Q1r,Q1s,rvV,Q1t,rvD,Q1u,Q1v,Q1w,Q1x,Q1y,Q1z,Q20,Q21,Q22,Q23,Q24,Q25,Q26,Q27,Q28,Q29,Q2a,Q2b,Q2c,Q4n,Q4o,Q4p,Q4q,Q4r,Q4s,Q4t,Q4u,Q4v,Q4w,Q4x,Q4y,Q4z,leD,ltD,Q2e,Q2f,Q2g,Q2h,Q2i,Q2j,Q2k,Q2l,Q2m,Q2n,Q2o,Q2p,Q2q,Q2r,clr,Q2s,Q2t,Q2u,Q2v,beq_self_eq_true,Q2w,Q2x,Q2y,Q2z,Q30,Q31,Q32,Q33,Q34,Q35,Q36,Q37,Q38,Q39,Q3a,Q3b,Q3c,Q3d,if_false,if_true,Q3e,Q3f,Q3g,Q3h,decide_eq_true_eq,Q3i,Q3j,Q3k,Q3l,Q3m,Q3n,Q3o,Q3p,reduceIte,reduceCtorEq,Q3q,Q3r,Q3s,Q3t,Q3u,Q3v,Q3w,Q3x,Q3y,Q3z,and_true,true_and,and_self,Q40,Q41,Q42,Q43,na2,na3,na4,na5,na6,na9,Q44,Q45,Q46,Q47,Q48,ne_eq,not_false_eq_true]
  rw [show idxOf [x, PyData.tuple t] 1 = some (.tuple t) from rfl]
  simp only [Q0,Q1,Q2,Q3,Q4,Q5,Q6,Q7,Q8,Q9,Qa,Qb,Qc,Qd,Qe,Qf,Qg,Qh,Qi,Qj,Qk,Ql,Qm,Qn,Qo,Qp,Qq,Qr,Qs,Qt,Qu,Qv,Qw,Qx,Qy,Qz,Q10,Q11,Q12,Q13,Q14,Q15,Q16,Q17,Q18,Q19,Q1a,Q1b,Q1c,Q1d,Q1e,Q1f,Q1g,Q1h,Q1i,Q1i,Q1j,Q1k,Q1l,Q1m,Q1n,Q1o,Q1p,Q1q,Q1r,Q1s,rvV,Q1t,rvD,Q1u,Q1v,Q1w,Q1x,Q1y,Q1z,Q20,Q21,Q22,Q23,Q24,Q25,Q26,Q27,Q28,Q29,Q2a,Q2b,Q2c,Q4n,Q4o,Q4p,Q4q,Q4r,Q4s,Q4t,Q4u,Q4v,Q4w,Q4x,Q4y,Q4z,leD,ltD,Q2e,Q2f,Q2g,Q2h,Q2i,Q2j,Q2k,Q2l,Q2m,Q2n,Q2o,Q2p,Q2q,Q2r,clr,Q2s,Q2t,Q2u,Q2v,beq_self_eq_true,Q2w,Q2x,Q2y,Q2z,Q30,Q31,Q32,Q33,Q34,Q35,Q36,Q37,Q38,Q39,Q3a,Q3b,Q3c,Q3d,if_false,if_true,Q3e,Q3f,Q3g,Q3h,decide_eq_true_eq,Q3i,Q3j,Q3k,Q3l,Q3m,Q3n,Q3o,Q3p,reduceIte,reduceCtorEq,Q3q,Q3r,Q3s,Q3t,Q3u,Q3v,Q3w,Q3x,Q3y,Q3z,and_true,true_and,and_self,Q40,Q41,Q42,Q43,na2,na3,na4,na5,na6,na9,Q44,Q45,Q46,Q47,Q48,ne_eq,not_false_eq_true]
  rw [if_pos (by show 1 + t.length ≤ 16777216; omega)]
  simp only [Q0,Q1,Q2,Q3,Q4,Q5,Q6,Q7,Q8,Q9,Qa,Qb,Qc,Qd,Qe,Qf,Qg,Qh,Qi,Qj,Qk,Ql,Qm,Qn,Qo,Qp,Qq,Qr,Qs,Qt,Qu,Qv,Qw,Qx,Qy,Qz,Q10,Q11,Q12,Q13,Q14,Q15,Q16,Q17,Q18,Q19,Q1a,Q1b,Q1c,Q1d,Q1e,Q1f,Q1g,Q1h,Q1i,Q1i,Q1j,Q1k,Q1l,Q1m,Q1n,Q1o,Q1p,Q1q,Q1r,Q1s,rvV,Q1t,rvD,Q1u,Q1v,Q1w,Q1x,Q1y,Q1z,Q20,Q21,Q22,Q23,Q24,Q25,Q26,Q27,Q28,Q29,Q2a,Q2b,Q2c,Q4n,Q4o,Q4p,Q4q,Q4r,Q4s,Q4t,Q4u,Q4v,Q4w,Q4x,Q4y,Q4z,leD,ltD,Q2e,Q2f,Q2g,Q2h,Q2i,Q2j,Q2k,Q2l,Q2m,Q2n,Q2o,Q2p,Q2q,Q2r,clr,Q2s,Q2t,Q2u,Q2v,beq_self_eq_true,Q2w,Q2x,Q2y,Q2z,Q30,Q31,Q32,Q33,Q34,Q35,Q36,Q37,Q38,Q39,Q3a,Q3b,Q3c,Q3d,if_false,if_true,Q3e,Q3f,Q3g,Q3h,decide_eq_true_eq,Q3i,Q3j,Q3k,Q3l,Q3m,Q3n,Q3o,Q3p,reduceIte,reduceCtorEq,Q3q,Q3r,Q3s,Q3t,Q3u,Q3v,Q3w,Q3x,Q3y,Q3z,and_true,true_and,and_self,Q40,Q41,Q42,Q43,na2,na3,na4,na5,na6,na9,Q44,Q45,Q46,Q47,Q48,ne_eq,not_false_eq_true]
  simp only [lfit_eq n _ hd hg]
  simp only [Q0,Q1,Q2,Q3,Q4,Q5,Q6,Q7,Q8,Q9,Qa,Qb,Qc,Qd,Qe,Qf,Qg,Qh,Qi,Qj,Qk,Ql,Qm,Qn,Qo,Qp,Qq,Qr,Qs,Qt,Qu,Qv,Qw,Qx,Qy,Qz,Q10,Q11,Q12,Q13,Q14,Q15,Q16,Q17,Q18,Q19,Q1a,Q1b,Q1c,Q1d,Q1e,Q1f,Q1g,Q1h,Q1i,Q1i,Q1j,Q1k,Q1l,Q1m,Q1n,Q1o,Q1p,Q1q,Q1r,Q1s,rvV,Q1t,rvD,Q1u,Q1v,Q1w,Q1x,Q1y,Q1z,Q20,Q21,Q22,Q23,Q24,Q25,Q26,Q27,Q28,Q29,Q2a,Q2b,Q2c,Q4n,Q4o,Q4p,Q4q,Q4r,Q4s,Q4t,Q4u,Q4v,Q4w,Q4x,Q4y,Q4z,leD,ltD,Q2e,Q2f,Q2g,Q2h,Q2i,Q2j,Q2k,Q2l,Q2m,Q2n,Q2o,Q2p,Q2q,Q2r,clr,Q2s,Q2t,Q2u,Q2v,beq_self_eq_true,Q2w,Q2x,Q2y,Q2z,Q30,Q31,Q32,Q33,Q34,Q35,Q36,Q37,Q38,Q39,Q3a,Q3b,Q3c,Q3d,if_false,if_true,Q3e,Q3f,Q3g,Q3h,decide_eq_true_eq,Q3i,Q3j,Q3k,Q3l,Q3m,Q3n,Q3o,Q3p,reduceIte,reduceCtorEq,Q3q,Q3r,Q3s,Q3t,Q3u,Q3v,Q3w,Q3x,Q3y,Q3z,and_true,true_and,and_self,Q40,Q41,Q42,Q43,na2,na3,na4,na5,na6,na9,Q44,Q45,Q46,Q47,Q48,ne_eq,not_false_eq_true]
/-! a list -/
theorem D_list (n : Nat) (ds : List D) (d : D) (h : callF P (n+1) false 2 [.fz (.tuple ds)] = some (.ok (.fz d), [])) : callF P (n+2) false 7 [.fz w_list, .fz (.list ds)] = some (.ok (.fz d), []) := by
  rw [call_7, f_done]
  simp only [Q0,Q1,Q2,Q3,Q4,Q5,Q6,Q7,Q8,Q9,Qa,Qb,Qc,Qd,Qe,Qf,Qg,Qh,Qi,Qj,Qk,Ql,Qm,Qn,Qo,Qp,Qq,Qr,Qs,Qt,Qu,Qv,Qw,Qx,Qy,Qz,Q10,Q11,Q12,Q13,Q14,Q15,Q16,Q17,Q18,Q19,Q1a,Q1b,Q1c,Q1d,Q1e,Q1f,Q1g,Q1h,Q1i,Q1i,Q1j,Q1k,Q1l,Q1m,Q1n,Q1o,Q1p,Q1q,Q1r,Q1s,rvV,Q1t,rvD,Q1u,Q1v,Q1w,Q1x,Q1y,Q1z,Q20,Q21,Q22,Q23,Q24,Q25,Q26,Q27,Q28,Q29,Q2a,Q2b,Q2c,Q4n,Q4o,Q4p,Q4q,Q4r,Q4s,Q4t,Q4u,Q4v,Q4w,Q4x,Q4y,Q4z,leD,ltD,Q2e,Q2f,Q2g,Q2h,Q2i,Q2j,Q2k,Q2l,Q2m,Q2n,Q2o,Q2p,Q2q,Q2r,clr,Q2s,Q2t,Q2u,Q2v,beq_self_eq_true,Q2w,Q2x,Q2y,Q2z,Q30,Q31,Q32,Q33,Q34,Q35,Q36,Q37,Q38,Q39,Q3a,Q3b,Q3c,Q3d,if_false,if_true,Q3e,Q3f,Q3g,Q3h,decide_eq_true_eq,Q3i,Q3j,Q3k,Q3l,Q3m,Q3n,Q3o,Q3p,reduceIte,reduceCtorEq,Q3q,Q3r,Q3s,Q3t,Q3u,Q3v,Q3w,Q3x,Q3y,Q3z,and_true,true_and,and_self,Q40,Q41,Q42,Q43,na2,na3,na4,na5,na6,na9,Q44,Q45,Q46,Q47,Q48,ne_eq,not_false_eq_true]
  simp only [h]
  simp only [Q0,Q1,Q2,Q3,Q4,Q5,Q6,Q7,Q8,Q9,Qa,Qb,Qc,Qd,Qe,Qf,Qg,Qh,Qi,Qj,Qk,Ql,Qm,Qn,Qo,Qp,Qq,Qr,Qs,Qt,Qu,Qv,Qw,Qx,Qy,Qz,Q10,Q11,Q12,Q13,Q14,Q15,Q16,Q17,Q18,Q19,Q1a,Q1b,Q1c,Q1d,Q1e,Q1f,Q1g,Q1h,Q1i,Q1i,Q1j,Q1k,Q1l,Q1m,Q1n,Q1o,Q1p,Q1q,Q1r,Q1s,rvV,Q1t,rvD,Q1u,Q1v,Q1w,Q1x,Q1y,Q1z,Q20,Q21,Q22,Q23,Q24,Q25,Q26,Q27,Q28,Q29,Q2a,Q2b,Q2c,Q4n,Q4o,Q4p,Q4q,Q4r,Q4s,Q4t,Q4u,Q4v,Q4w,Q4x,Q4y,Q4z,leD,ltD,Q2e,Q2f,Q2g,Q2h,Q2i,Q2j,Q2k,Q2l,Q2m,Q2n,Q2o,Q2p,Q2q,Q2r,clr,Q2s,Q2t,Q2u,Q2v,beq_self_eq_true,Q2w,Q2x,Q2y,Q2z,Q30,Q31,Q32,Q33,Q34,Q35,Q36,Q37,Q38,Q39,Q3a,Q3b,Q3c,Q3d,if_false,if_true,Q3e,Q3f,Q3g,Q3h,decide_eq_true_eq,Q3i,Q3j,Q3k,Q3l,Q3m,Q3n,Q3o,Q3p,reduceIte,reduceCtorEq,Q3q,Q3r,Q3s,Q3t,Q3u,Q3v,Q3w,Q3x,Q3y,Q3z,and_true,true_and,and_self,Q40,Q41,Q42,Q43,na2,na3,na4,na5,na6,na9,Q44,Q45,Q46,Q47,Q48,ne_eq,not_false_eq_true]
theorem E_list (n : Nat) (ds : List D) (h : callF P (n+1) false 2 [.fz (.tuple ds)] = some (.error x_TooGreat, [])) : callF P (n+2) false 7 [.fz w_list, .fz (.list ds)] = some (.error x_TooGreat, []) := by
  rw [call_7, f_done]
  simp only [Q0,Q1,Q2,Q3,Q4,Q5,Q6,Q7,Q8,Q9,Qa,Qb,Qc,Qd,Qe,Qf,Qg,Qh,Qi,Qj,Qk,Ql,Qm,Qn,Qo,Qp,Qq,Qr,Qs,Qt,Qu,Qv,Qw,Qx,Qy,Qz,Q10,Q11,Q12,Q13,Q14,Q15,Q16,Q17,Q18,Q19,Q1a,Q1b,Q1c,Q1d,Q1e,Q1f,Q1g,Q1h,Q1i,Q1i,Q1j,Q1k,Q1l,Q1m,Q1n,Q1o,Q1p,Q1q,Q1r,Q1s,rvV,Q1t,rvD,Q1u,Q1v,Q1w,Q1x,Q1y,Q1z,Q20,Q21,Q22,Q23,Q24,Q25,Q26,Q27,Q28,Q29,Q2a,Q2b,Q2c,Q4n,Q4o,Q4p,Q4q,Q4r,Q4s,Q4t,Q4u,Q4v,Q4w,Q4x,Q4y,Q4z,leD,ltD,Q2e,Q2f,Q2g,Q2h,Q2i,Q2j,Q2k,Q2l,Q2m,Q2n,Q2o,Q2p,Q2q,Q2r,clr,Q2s,Q2t,Q2u,Q2v,beq_self_eq_true,Q2w,Q2x,Q2y,Q2z,Q30,Q31,Q32,Q33,Q34,Q35,Q36,Q37,Q38,Q39,Q3a,Q3b,Q3c,Q3d,if_false,if_true,Q3e,Q3f,Q3g,Q3h,decide_eq_true_eq,Q3i,Q3j,Q3k,Q3l,Q3m,Q3n,Q3o,Q3p,reduceIte,reduceCtorEq,Q3q,Q3r,Q3s,Q3t,Q3u,Q3v,Q3w,Q3x,Q3y,Q3z,and_true,true_and,and_self,Q40,Q41,Q42,Q43,na2,na3,na4,na5,na6,na9,Q44,Q45,Q46,Q47,Q48,ne_eq,not_false_eq_true]
  simp only [h]
  simp only [Q0,Q1,Q2,Q3,Q4,Q5,Q6,Q7,Q8,Q9,Qa,Qb,Qc,Qd,Qe,Qf,Qg,Qh,Qi,Qj,Qk,Ql,Qm,Qn,Qo,Qp,Qq,Qr,Qs,Qt,Qu,Qv,Qw,Qx,Qy,Qz,Q10,Q11,Q12,Q13,Q14,Q15,Q16,Q17,Q18,Q19,Q1a,Q1b,Q1c,Q1d,Q1e,Q1f,Q1g,Q1h,Q1i,Q1i,Q1j,Q1k,Q1l,Q1m,Q1n,Q1o,Q1p,Q1q,Q1r,Q1s,rvV,Q1t,rvD,Q1u,Q1v,Q1w,Q1x,Q1y,Q1z,Q20,Q21,Q22,Q23,Q24,Q25,Q26,Q27,Q28,Q29,Q2a,Q2b,Q2c,Q4n,Q4o,Q4p,Q4q,Q4r,Q4s,Q4t,Q4u,Q4v,Q4w,Q4x,Q4y,Q4z,leD,ltD,Q2e,Q2f,Q2g,Q2h,Q2i,Q2j,Q2k,Q2l,Q2m,Q2n,Q2o,Q2p,Q2q,Q2r,clr,Q2s,Q2t,Q2u,Q2v,beq_self_eq_true,Q2w,Q2x,Q2y,Q2z,Q30,Q31,Q32,Q33,Q34,Q35,Q36,Q37,Q38,Q39,Q3a,Q3b,Q3c,Q3d,if_false,if_true,Q3e,Q3f,Q3g,Q3h,decide_eq_true_eq,Q3i,Q3j,Q3k,Q3l,Q3m,Q3n,Q3o,Q3p,reduceIte,reduceCtorEq,Q3q,Q3r,Q3s,Q3t,Q3u,Q3v,Q3w,Q3x,Q3y,Q3z,and_true,true_and,and_self,Q40,Q41,Q42,Q43,na2,na3,na4,na5,na6,na9,Q44,Q45,Q46,Q47,Q48,ne_eq,not_false_eq_true]
theorem L_list (n : Nat) (ds : List D) (hd : dep (.tuple ds) < n) (hg : good1 (.tuple ds)) : callF P (n+2) false 16 [.fz w_list, .fz (.list ds)] = okP (fitB (.tuple ds)) (fitD (.tuple ds)) := by
  rw [call_16, f_l_done]
  simp only [Q0,Q1,Q2,Q3,Q4,Q5,Q6,Q7,Q8,Q9,Qa,Qb,Qc,Qd,Qe,Qf,Qg,Qh,Qi,Qj,Qk,Ql,Qm,Qn,Qo,Qp,Qq,Qr,Qs,Qt,Qu,Qv,Qw,Qx,Qy,Qz,Q10,Q11,Q12,Q13,Q14,Q15,Q16,Q17,Q18,Q19,Q1a,Q1b,Q1c,Q1d,Q1e,Q1f,Q1g,Q1h,Q1i,Q1i,Q1j,Q1k,Q1l,Q1m,Q1n,Q1o,Q1p,Q1q,Q1r,Q1s,rvV,Q1t,rvD,Q1u,Q1v,Q1w,Q1x,Q1y,Q1z,Q20,Q21,Q22,Q23,Q24,Q25,Q26,Q27,Q28,Q29,Q2a,Q2b,Q2c,Q4n,Q4o,Q4p,Q4q,Q4r,Q4s,Q4t,Q4u,Q4v,Q4w,Q4x,Q4y,Q4z,leD,ltD,Q2e,Q2f,Q2g,Q2h,Q2i,Q2j,Q2k,Q2l,Q2m,Q2n,Q2o,Q2p,Q2q,Q2r,clr,Q2s,Q2t,Q2u,Q2v,beq_self_eq_true,Q2w,Q2x,Q2y,Q2z,Q30,Q31,Q32,Q33,Q34,Q35,Q36,Q37,Q38,Q39,Q3a,Q3b,Q3c,Q3d,if_false,if_true,Q3e,Q3f,Q3g,Q3h,decide_eq_true_eq,Q3i,Q3j,Q3k,Q3l,Q3m,Q3n,Q3o,Q3p,reduceIte,reduceCtorEq,Q3q,Q3r,Q3s,Q3t,Q3u,Q3v,Q3w,Q3x,Q3y,Q3z,and_true,true_and,and_self,Q40,Q41,Q42,Q43,na2,na3,na4,na5,na6,na9,Q44,Q45,Q46,Q47,Q48,ne_eq,not_false_eq_true]
  simp only [lfit_eq n _ hd hg]
  simp only [Q0,Q1,Q2,Q3,Q4,Q5,Q6,Q7,Q8,Q9,Qa,Qb,Qc,Qd,Qe,Qf,Qg,Qh,Qi,Qj,Qk,Ql,Qm,Qn,Qo,Qp,Qq,Qr,Qs,Qt,Qu,Qv,Qw,Qx,Qy,Qz,Q10,Q11,Q12,Q13,Q14,Q15,Q16,Q17,Q18,Q19,Q1a,Q1b,Q1c,Q1d,Q1e,Q1f,Q1g,Q1h,Q1i,Q1i,Q1j,Q1k,Q1l,Q1m,Q1n,Q1o,Q1p,Q1q,Q1r,Q1s,rvV,Q1t,rvD,Q1u,Q1v,Q1w,Q1x,Q1y,Q1z,Q20,Q21,Q22,Q23,Q24,Q25,Q26,Q27,Q28,Q29,Q2a,Q2b,Q2c,Q4n,Q4o,Q4p,Q4q,Q4r,Q4s,Q4t,Q4u,Q4v,Q4w,Q4x,Q4y,Q4z,leD,ltD,Q2e,Q2f,Q2g,Q2h,Q2i,Q2j,Q2k,Q2l,Q2m,Q2n,Q2o,Q2p,Q2q,Q2r,clr,Q2s,Q2t,Q2u,Q2v,beq_self_eq_true,Q2w,Q2x,Q2y,Q2z,Q30,Q31,Q32,Q33,Q34,Q35,Q36,Q37,Q38,Q39,Q3a,Q3b,Q3c,Q3d,if_false,if_true,Q3e,Q3f,Q3g,Q3h,decide_eq_true_eq,Q3i,Q3j,Q3k,Q3l,Q3m,Q3n,Q3o,Q3p,reduceIte,reduceCtorEq,Q3q,Q3r,Q3s,Q3t,Q3u,Q3v,Q3w,Q3x,Q3y,Q3z,and_true,true_and,and_self,Q40,Q41,Q42,Q43,na2,na3,na4,na5,na6,na9,Q44,Q45,Q46,Q47,Q48,ne_eq,not_false_eq_true]
theorem D_join (n : Nat) (x : D) (t : List D) (d : D) (hl : t.length ≤ 1000) (h : callF P (n+1) false 2 [.fz (.tuple (x :: t))] = some (.ok (.fz d), [])) : callF P (n+2) false 7 [.fz w_join, .fz (.list [x, .tuple t])] = some (.ok (.fz d), []) := by
  rw [call_7, f_done]
  simp only [Q0,Q1,Q2,Q3,Q4,Q5,Q6,Q7,Q8,Q9,Qa,Qb,Qc,Qd,Qe,Qf,Qg,Qh,Qi,Qj,Qk,Ql,Qm,Qn,Qo,Qp,Qq,Qr,Qs,Qt,Qu,Qv,Qw,Qx,Qy,Qz,Q10,Q11,Q12,Q13,Q14,Q15,Q16,Q17,Q18,Q19,Q1a,Q1b,Q1c,Q1d,Q1e,Q1f,Q1g,Q1h,Q1i,Q1i,Q1j,Q1k,Q1l,Q1m,Q1n,Q1o,Q1p,Q1q,Q1r,Q1s,rvV,Q1t,rvD,Q1u,Q1v,Q1w,Q1x,Q1y,Q1z,Q20,Q21,Q22,Q23,Q24,Q25,Q26,Q27,Q28,Q29,Q2a,Q2b,Q2c,Q4n,Q4o,Q4p,Q4q,Q4r,Q4s,Q4t,Q4u,Q4v,Q4w,Q4x,Q4y,Q4z,leD,ltD,Q2e,Q2f,Q2g,Q2h,Q2i,Q2j,Q2k,Q2l,Q2m,Q2n,Q2o,Q2p,Q2q,Q2r,clr,Q2s,Q2t,Q2u,Q2v,beq_self_eq_true,Q2w,Q2x,Q2y,Q2z,Q30,Q31,Q32,Q33,Q34,Q35,Q36,Q37,Q38,Q39,Q3a,Q3b,Q3c,Q3d,if_false,if_true,Q3e,Q3f,Q3g,Q3h,decide_eq_true_eq,Q3i,Q3j,Q3k,Q3l,Q3m,Q3n,Q3o,Q3p,reduceIte,reduceCtorEq,Q3q,Q3r,Q3s,Q3t,Q3u,Q3v,Q3w,Q3x,Q3y,Q3z,and_true,true_and,and_self,Q40,Q41,Q42,Q43,na2,na3,na4,na5,na6,na9,Q44,Q45,Q46,Q47,Q48,ne_eq,not_false_eq_true]
  rw [show idxOf [x, PyData.tuple t] 0 = some x from rfl]
  simp only [Q0,Q1,Q2,Q3,Q4,Q5,Q6,Q7,Q8,Q9,Qa,Qb,Qc,Qd,Qe,Qf,Qg,Qh,Qi,Qj,Qk,Ql,Qm,Qn,Qo,Qp,Qq,Qr,Qs,Qt,Qu,Qv,Qw,Qx,Qy,Qz,Q10,Q11,Q12,Q13,Q14,Q15,Q16,Q17,Q18,Q19,Q1a,Q1b,Q1c,Q1d,Q1e,Q1f,Q1g,Q1h,Q1i,Q1i,Q1j,Q1k,Q1l,Q1m,Q1n,Q1o,Q1p,Q1q,Q1r,Q1s,rvV,Q1t,rvD,Q1u,Q1v,Q1w,Q1x,Q1y,Q1z,Q20,Q21,Q22,Q23,Q24,Q25,Q26,Q27,Q28,Q29,Q2a,Q2b,Q2c,Q4n,Q4o,Q4p,Q4q,Q4r,Q4s,Q4t,Q4u,Q4v,Q4w,Q4x,Q4y,Q4z,leD,ltD,Q2e,Q2f,Q2g,Q2h,Q2i,Q2j,Q2k,Q2l,Q2m,Q2n,Q2o,Q2p,Q2q,Q2r,clr,Q2s,Q2t,Q2u,Q2v,beq_self_eq_true,Q2w,Q2x,Q2y,Q2z,Q30,Q31,Q32,Q33,Q34,Q35,Q36,Q37,Q38,Q39,Q3a,Q3b,Q3c,Q3d,if_false,if_true,Q3e,Q3f,Q3g,Q3h,decide_eq_true_eq,Q3i,Q3j,Q3k,Q3l,Q3m,Q3n,Q3o,Q3p,reduceIte,reduceCtorEq,Q3q,Q3r,Q3s,Q3t,Q3u,Q3v,Q3w,Q3x,Q3y,Q3z,and_true,true_and,and_self,Q40,Q41,Q42,Q43,na2,na3,na4,na5,na6,na9,Q44,Q45,Q46,Q47,Q48,ne_eq,not_false_eq_true]
  rw [show idxOf [x, PyData.tuple t] 1 = some (.tuple t) from rfl]
  simp only [Q0,Q1,Q2,Q3,Q4,Q5,Q6,Q7,Q8,Q9,Qa,Qb,Qc,Qd,Qe,Qf,Qg,Qh,Qi,Qj,Qk,Ql,Qm,Qn,Qo,Qp,Qq,Qr,Qs,Qt,Qu,Qv,Qw,Qx,Qy,Qz,Q10,Q11,Q12,Q13,Q14,Q15,Q16,Q17,Q18,Q19,Q1a,Q1b,Q1c,Q1d,Q1e,Q1f,Q1g,Q1h,Q1i,Q1i,Q1j,Q1k,Q1l,Q1m,Q1n,Q1o,Q1p,Q1q,Q1r,Q1s,rvV,Q1t,rvD,Q1u,Q1v,Q1w,Q1x,Q1y,Q1z,Q20,Q21,Q22,Q23,Q24,Q25,Q26,Q27,Q28,Q29,Q2a,Q2b,Q2c,Q4n,Q4o,Q4p,Q4q,Q4r,Q4s,Q4t,Q4u,Q4v,Q4w,Q4x,Q4y,Q4z,leD,ltD,Q2e,Q2f,Q2g,Q2h,Q2i,Q2j,Q2k,Q2l,Q2m,Q2n,Q2o,Q2p,Q2q,Q2r,clr,Q2s,Q2t,Q2u,Q2v,beq_self_eq_true,Q2w,Q2x,Q2y,Q2z,Q30,Q31,Q32,Q33,Q34,Q35,Q36,Q37,Q38,Q39,Q3a,Q3b,Q3c,Q3d,if_false,if_true,Q3e,Q3f,Q3g,Q3h,decide_eq_true_eq,Q3i,Q3j,Q3k,Q3l,Q3m,Q3n,Q3o,Q3p,reduceIte,reduceCtorEq,Q3q,Q3r,Q3s,Q3t,Q3u,Q3v,Q3w,Q3x,Q3y,Q3z,and_true,true_and,and_self,Q40,Q41,Q42,Q43,na2,na3,na4,na5,na6,na9,Q44,Q45,Q46,Q47,Q48,ne_eq,not_false_eq_true]
  simp only [J_join n x t hl]
  simp only [Q0,Q1,Q2,Q3,Q4,Q5,Q6,Q7,Q8,Q9,Qa,Qb,Qc,Qd,Qe,Qf,Qg,Qh,Qi,Qj,Qk,Ql,Qm,Qn,Qo,Qp,Qq,Qr,Qs,Qt,Qu,Qv,Qw,Qx,Qy,Qz,Q10,Q11,Q12,Q13,Q14,Q15,Q16,Q17,Q18,Q19,Q1a,Q1b,Q1c,Q1d,Q1e,Q1f,Q1g,Q1h,Q1i,Q1i,Q1j,Q1k,Q1l,Q1m,Q1n,Q1o,Q1p,Q1q,Q1r,Q1s,rvV,Q1t,rvD,Q1u,Q1v,Q1w,Q1x,Q1y,Q1z,Q20,Q21,Q22,Q23,Q24,Q25,Q26,Q27,Q28,Q29,Q2a,Q2b,Q2c,Q4n,Q4o,Q4p,Q4q,Q4r,Q4s,Q4t,Q4u,Q4v,Q4w,Q4x,Q4y,Q4z,leD,ltD,Q2e,Q2f,Q2g,Q2h,Q2i,Q2j,Q2k,Q2l,Q2m,Q2n,Q2o,Q2p,Q2q,Q2r,clr,Q2s,Q2t,Q2u,Q2v,beq_self_eq_true,Q2w,Q2x,Q2y,Q2z,Q30,Q31,Q32,Q33,Q34,Q35,Q36,Q37,Q38,Q39,Q3a,Q3b,Q3c,Q3d,if_false,if_true,Q3e,Q3f,Q3g,Q3h,decide_eq_true_eq,Q3i,Q3j,Q3k,Q3l,Q3m,Q3n,Q3o,Q3p,reduceIte,reduceCtorEq,Q3q,Q3r,Q3s,Q3t,Q3u,Q3v,Q3w,Q3x,Q3y,Q3z,and_true,true_and,and_self,Q40,Q41,Q42,Q43,na2,na3,na4,na5,na6,na9,Q44,Q45,Q46,Q47,Q48,ne_eq,not_false_eq_true]
  simp only [h]
  simp only [Q0,Q1,Q2,Q3,Q4,Q5,Q6,Q7,Q8,Q9,Qa,Qb,Qc,Qd,Qe,Qf,Qg,Qh,Qi,Qj,Qk,Ql,Qm,Qn,Qo,Qp,Qq,Qr,Qs,Qt,Qu,Qv,Qw,Qx,Qy,Qz,Q10,Q11,Q12,Q13,Q14,Q15,Q16,Q17,Q18,Q19,Q1a,Q1b,Q1c,Q1d,Q1e,Q1f,Q1g,Q1h,Q1i,Q1i,Q1j,Q1k,Q1l,Q1m,Q1n,Q1o,Q1p,Q1q,Q1r,Q1s,rvV,Q1t,rvD,Q1u,Q1v,Q1w,Q1x,Q1y,Q1z,Q20,Q21,Q22,Q23,Q24,Q25,Q26,Q27,Q28,Q29,Q2a,Q2b,Q2c,Q4n,Q4o,Q4p,Q4q,Q4r,Q4s,Q4t,Q4u,Q4v,Q4w,Q4x,Q4y,Q4z,leD,ltD,Q2e,Q2f,Q2g,Q2h,Q2i,Q2j,Q2k,Q2l,Q2m,Q2n,Q2o,Q2p,Q2q,Q2r,clr,Q2s,Q2t,Q2u,Q2v,beq_self_eq_true,Q2w,Q2x,Q2y,Q2z,Q30,Q31,Q32,Q33,Q34,Q35,Q36,Q37,Q38,Q39,Q3a,Q3b,Q3c,Q3d,if_false,if_true,Q3e,Q3f,Q3g,Q3h,decide_eq_true_eq,Q3i,Q3j,Q3k,Q3l,Q3m,Q3n,Q3o,Q3p,reduceIte,reduceCtorEq,Q3q,Q3r,Q3s,Q3t,Q3u,Q3v,Q3w,Q3x,Q3y,Q3z,and_true,true_and,and_self,Q40,Q41,Q42,Q43,na2,na3,na4,na5,na6,na9,Q44,Q45,Q46,Q47,Q48,ne_eq,not_false_eq_true]
theorem E_join (n : Nat) (x : D) (t : List D) (hl : t.length ≤ 1000) (h : callF P (n+1) false 2 [.fz (.tuple (x :: t))] = some (.error x_TooGreat, [])) : callF P (n+2) false 7 [.fz w_join, .fz (.list [x, .tuple t])] = some (.error x_TooGreat, []) := by
  rw [call_7, f_done]
  simp only [Q0,Q1,Q2,Q3,Q4,Q5,Q6,Q7,Q8,Q9,Qa,Qb,Qc,Qd,Qe,Qf,Qg,Qh,Qi,Qj,Qk,Ql,Qm,Qn,Qo,Qp,Qq,Qr,Qs,Qt,Qu,Qv,Qw,Qx,Qy,Qz,Q10,Q11,Q12,Q13,Q14,Q15,Q16,Q17,Q18,Q19,Q1a,Q1b,Q1c,Q1d,Q1e,Q1f,Q1g,Q1h,Q1i,Q1i,Q1j,Q1k,Q1l,Q1m,Q1n,Q1o,Q1p,Q1q,Q1r,Q1s,rvV,Q1t,rvD,Q1u,Q1v,Q1w,Q1x,Q1y,Q1z,Q20,Q21,Q22,Q23,Q24,Q25,Q26,Q27,Q28,Q29,Q2a,Q2b,Q2c,Q4n,Q4o,Q4p,Q4q,Q4r,Q4s,Q4t,Q4u,Q4v,Q4w,Q4x,Q4y,Q4z,leD,ltD,Q2e,Q2f,Q2g,Q2h,Q2i,Q2j,Q2k,Q2l,Q2m,Q2n,Q2o,Q2p,Q2q,Q2r,clr,Q2s,Q2t,Q2u,Q2v,beq_self_eq_true,Q2w,Q2x,Q2y,Q2z,Q30,Q31,Q32,Q33,Q34,Q35,Q36,Q37,Q38,Q39,Q3a,Q3b,Q3c,Q3d,if_false,if_true,Q3e,Q3f,Q3g,Q3h,decide_eq_true_eq,Q3i,Q3j,Q3k,Q3l,Q3m,Q3n,Q3o,Q3p,reduceIte,reduceCtorEq,Q3q,Q3r,Q3s,Q3t,Q3u,Q3v,Q3w,Q3x,Q3y,Q3z,and_true,true_and,and_self,Q40,Q41,Q42,Q43,na2,na3,na4,na5,na6,na9,Q44,Q45,Q46,Q47,Q48,ne_eq,not_false_eq_true]
  rw [show idxOf [x, PyData.tuple t] 0 = some x from rfl]
  simp only [Q0,Q1,Q2,Q3,Q4,Q5,Q6,Q7,Q8,Q9,Qa,Qb,Qc,Qd,Qe,Qf,Qg,Qh,Qi,Qj,Qk,Ql,Qm,Qn,Qo,Qp,Qq,Qr,Qs,Qt,Qu,Qv,Qw,Qx,Qy,Qz,Q10,Q11,Q12,Q13,Q14,Q15,Q16,Q17,Q18,Q19,Q1a,Q1b,Q1c,Q1d,Q1e,Q1f,Q1g,Q1h,Q1i,Q1i,Q1j,Q1k,Q1l,Q1m,Q1n,Q1o,Q1p,Q1q,Q1r,Q1s,rvV,Q1t,rvD,Q1u,Q1v,Q1w,Q1x,Q1y,Q1z,Q20,Q21,Q22,Q23,Q24,Q25,Q26,Q27,Q28,Q29,Q2a,Q2b,Q2c,Q4n,Q4o,Q4p,Q4q,Q4r,Q4s,Q4t,Q4u,Q4v,Q4w,Q4x,Q4y,Q4z,leD,ltD,Q2e,Q2f,Q2g,Q2h,Q2i,Q2j,Q2k,Q2l,Q2m,Q2n,Q2o,Q2p,Q2q,Q2r,clr,Q2s,Q2t,Q2u,Q2v,beq_self_eq_true,Q2w,Q2x,Q2y,Q2z,Q30,Q31,Q32,Q33,Q34,Q35,Q36,Q37,Q38,Q39,Q3a,Q3b,Q3c,Q3d,if_false,if_true,Q3e,Q3f,Q3g,Q3h,decide_eq_true_eq,Q3i,Q3j,Q3k,Q3l,Q3m,Q3n,Q3o,Q3p,reduceIte,reduceCtorEq,Q3q,Q3r,Q3s,Q3t,Q3u,Q3v,Q3w,Q3x,Q3y,Q3z,and_true,true_and,and_self,Q40,Q41,Q42,Q43,na2,na3,na4,na5,na6,na9,Q44,Q45,Q46,Q47,Q48,ne_eq,not_false_eq_true]
  rw [show idxOf [x, PyData.tuple t] 1 = some (.tuple t) from rfl]
  simp only [Q0,Q1,Q2,Q3,Q4,Q5,Q6,Q7,Q8,Q9,Qa,Qb,Qc,Qd,Qe,Qf,Qg,Qh,Qi,Qj,Qk,Ql,Qm,Qn,Qo,Qp,Qq,Qr,Qs,Qt,Qu,Qv,Qw,Qx,Qy,Qz,Q10,Q11,Q12,Q13,Q14,Q15,Q16,Q17,Q18,Q19,Q1a,Q1b,Q1c,Q1d,Q1e,Q1f,Q1g,Q1h,Q1i,Q1i,Q1j,Q1k,Q1l,Q1m,Q1n,Q1o,Q1p,Q1q,Q1r,Q1s,rvV,Q1t,rvD,Q1u,Q1v,Q1w,Q1x,Q1y,Q1z,Q20,Q21,Q22,Q23,Q24,Q25,Q26,Q27,Q28,Q29,Q2a,Q2b,Q2c,Q4n,Q4o,Q4p,Q4q,Q4r,Q4s,Q4t,Q4u,Q4v,Q4w,Q4x,Q4y,Q4z,leD,ltD,Q2e,Q2f,Q2g,Q2h,Q2i,Q2j,Q2k,Q2l,Q2m,Q2n,Q2o,Q2p,Q2q,Q2r,clr,Q2s,Q2t,Q2u,Q2v,beq_self_eq_true,Q2w,Q2x,Q2y,Q2z,Q30,Q31,Q32,Q33,Q34,Q35,Q36,Q37,Q38,Q39,Q3a,Q3b,Q3c,Q3d,if_false,if_true,Q3e,Q3f,Q3g,Q3h,decide_eq_true_eq,Q3i,Q3j,Q3k,Q3l,Q3m,Q3n,Q3o,Q3p,reduceIte,reduceCtorEq,Q3q,Q3r,Q3s,Q3t,Q3u,Q3v,Q3w,Q3x,Q3y,Q3z,and_true,true_and,and_self,Q40,Q41,Q42,Q43,na2,na3,na4,na5,na6,na9,Q44,Q45,Q46,Q47,Q48,ne_eq,not_false_eq_true]
  simp only [J_join n x t hl]
  simp only [Q0,Q1,Q2,Q3,Q4,Q5,Q6,Q7,Q8,Q9,Qa,Qb,Qc,Qd,Qe,Qf,Qg,Qh,Qi,Qj,Qk,Ql,Qm,Qn,Qo,Qp,Qq,Qr,Qs,Qt,Qu,Qv,Qw,Qx,Qy,Qz,Q10,Q11,Q12,Q13,Q14,Q15,Q16,Q17,Q18,Q19,Q1a,Q1b,Q1c,Q1d,Q1e,Q1f,Q1g,Q1h,Q1i,Q1i,Q1j,Q1k,Q1l,Q1m,Q1n,Q1o,Q1p,Q1q,Q1r,Q1s,rvV,Q1t,rvD,Q1u,Q1v,Q1w,Q1x,Q1y,Q1z,Q20,Q21,Q22,Q23,Q24,Q25,Q26,Q27,Q28,Q29,Q2a,Q2b,Q2c,Q4n,Q4o,Q4p,Q4q,Q4r,Q4s,Q4t,Q4u,Q4v,Q4w,Q4x,Q4y,Q4z,leD,ltD,Q2e,Q2f,Q2g,Q2h,Q2i,Q2j,Q2k,Q2l,Q2m,Q2n,Q2o,Q2p,Q2q,Q2r,clr,Q2s,Q2t,Q2u,Q2v,beq_self_eq_true,Q2w,Q2x,Q2y,Q2z,Q30,Q31,Q32,Q33,Q34,Q35,Q36,Q37,Q38,Q39,Q3a,Q3b,Q3c,Q3d,if_false,if_true,Q3e,Q3f,Q3g,Q3h,decide_eq_true_eq,Q3i,Q3j,Q3k,Q3l,Q3m,Q3n,Q3o,Q3p,reduceIte,reduceCtorEq,Q3q,Q3r,Q3s,Q3t,Q3u,Q3v,Q3w,Q3x,Q3y,Q3z,and_true,true_and,and_self,Q40,Q41,Q42,Q43,na2,na3,na4,na5,na6,na9,Q44,Q45,Q46,Q47,Q48,ne_eq,not_false_eq_true]
  simp only [h]
  simp only [Q0,Q1,Q2,Q3,Q4,Q5,Q6,Q7,Q8,Q9,Qa,Qb,Qc,Qd,Qe,Qf,Qg,Qh,Qi,Qj,Qk,Ql,Qm,Qn,Qo,Qp,Qq,Qr,Qs,Qt,Qu,Qv,Qw,Qx,Qy,Qz,Q10,Q11,Q12,Q13,Q14,Q15,Q16,Q17,Q18,Q19,Q1a,Q1b,Q1c,Q1d,Q1e,Q1f,Q1g,Q1h,Q1i,Q1i,Q1j,Q1k,Q1l,Q1m,Q1n,Q1o,Q1p,Q1q,Q1r,Q1s,rvV,Q1t,rvD,Q1u,Q1v,Q1w,Q1x,Q1y,Q1z,Q20,Q21,Q22,Q23,Q24,Q25,Q26,Q27,Q28,Q29,Q2a,Q2b,Q2c,Q4n,Q4o,Q4p,Q4q,Q4r,Q4s,Q4t,Q4u,Q4v,Q4w,Q4x,Q4y,Q4z,leD,ltD,Q2e,Q2f,Q2g,Q2h,Q2i,Q2j,Q2k,Q2l,Q2m,Q2n,Q2o,Q2p,Q2q,Q2r,clr,Q2s,Q2t,Q2u,Q2v,beq_self_eq_true,Q2w,Q2x,Q2y,Q2z,Q30,Q31,Q32,Q33,Q34,Q35,Q36,Q37,Q38,Q39,Q3a,Q3b,Q3c,Q3d,if_false,if_true,Q3e,Q3f,Q3g,Q3h,decide_eq_true_eq,Q3i,Q3j,Q3k,Q3l,Q3m,Q3n,Q3o,Q3p,reduceIte,reduceCtorEq,Q3q,Q3r,Q3s,Q3t,Q3u,Q3v,Q3w,Q3x,Q3y,Q3z,and_true,true_and,and_self,Q40,Q41,Q42,Q43,na2,na3,na4,na5,na6,na9,Q44,Q45,Q46,Q47,Q48,ne_eq,not_false_eq_true]
theorem key_list (n : Nat) (ds : List D) (hn : 10 ≤ n) (hd : deps ds ≤ 7) (hg : goods ds = true) (hw : wts ds ≤ 900) : Key n w_list (.list ds) :=
  key_fit2 (d := .tuple ds) hn (by rw [deps_tuple]; omega) (.inr ⟨ds, rfl, hg⟩) (by show 1 + wts ds ≤ 1000; omega) (D_list (n+3) ds _) (E_list (n+3) ds) (L_list (n+4) ds (by rw [deps_tuple]; omega) (.inr ⟨ds, rfl, hg⟩))
theorem key_join (n : Nat) (x : D) (t : List D) (hn : 10 ≤ n) (hd : deps (x :: t) ≤ 7) (hg : goods (x :: t) = true) (hw : wts (x :: t) ≤ 900) : Key n w_join (.list [x, .tuple t]) := by
  have hl : t.length ≤ 1000 := by have := len_wts (x :: t); simp only [List.length_cons] at this; omega
  exact key_fit2 (d := .tuple (x :: t)) hn (by rw [deps_tuple]; omega) (.inr ⟨_, rfl, hg⟩) (by show 1 + wts (x :: t) ≤ 1000; omega) (D_join (n+3) x t _ hl) (E_join (n+3) x t hl) (L_join (n+4) x t hl (by rw [deps_tuple]; omega) (.inr ⟨_, rfl, hg⟩))
/-! the single ones -/
theorem B1_first (n : Nat) (i : Int) : callF P (n+6) false 18 [.fz w_first, .fz (.list [.int i])] = okP false t_NoList := by kernel_rfl
theorem M1_first (n : Nat) (i : Int) : callF P (n+6) false 16 [.fz w_first, .fz (.list [.int i])] = okP false t_NoList := by kernel_rfl
theorem B1_rest (n : Nat) (i : Int) : callF P (n+6) false 18 [.fz w_rest, .fz (.list [.int i])] = okP false t_NoList := by kernel_rfl
theorem M1_rest (n : Nat) (i : Int) : callF P (n+6) false 16 [.fz w_rest, .fz (.list [.int i])] = okP false t_NoList := by kernel_rfl
theorem B1_empty (n : Nat) (i : Int) : callF P (n+6) false 18 [.fz w_empty, .fz (.list [.int i])] = okP false t_NoList := by kernel_rfl
theorem M1_empty (n : Nat) (i : Int) : callF P (n+6) false 16 [.fz w_empty, .fz (.list [.int i])] = okP false t_NoList := by kernel_rfl
theorem B2_first (n : Nat) : callF P (n+6) false 18 [.fz w_first, .fz (.list [.tuple []])] = okP false t_NoFirst := by kernel_rfl
theorem M2_first (n : Nat) : callF P (n+6) false 16 [.fz w_first, .fz (.list [.tuple []])] = okP false t_NoFirst := by kernel_rfl
theorem B2_rest (n : Nat) : callF P (n+6) false 18 [.fz w_rest, .fz (.list [.tuple []])] = okP false t_NoFirst := by kernel_rfl
theorem M2_rest (n : Nat) : callF P (n+6) false 16 [.fz w_rest, .fz (.list [.tuple []])] = okP false t_NoFirst := by kernel_rfl
theorem B2_empty (n : Nat) : callF P (n+6) false 18 [.fz w_empty, .fz (.list [.tuple []])] = okP true (.int 1) := by kernel_rfl
theorem M2_empty (n : Nat) : callF P (n+6) false 16 [.fz w_empty, .fz (.list [.tuple []])] = okP true (.int 1) := by kernel_rfl
theorem B3_first (n : Nat) (d : D) (ds : List D) : callF P (n+6) false 18 [.fz w_first, .fz (.list [.tuple (d :: ds)])] = okP true d := by kernel_rfl
theorem M3_first (n : Nat) (d : D) (ds : List D) : callF P (n+6) false 16 [.fz w_first, .fz (.list [.tuple (d :: ds)])] = okP true d := by kernel_rfl
theorem B3_rest (n : Nat) (d : D) (ds : List D) : callF P (n+6) false 18 [.fz w_rest, .fz (.list [.tuple (d :: ds)])] = okP true (.tuple (cutL (d :: ds) (clampI (d :: ds).length 1) (d :: ds).length)) := by kernel_rfl
theorem M3_rest (n : Nat) (d : D) (ds : List D) : callF P (n+6) false 16 [.fz w_rest, .fz (.list [.tuple (d :: ds)])] = okP true (.tuple (cutL (d :: ds) (clampI (d :: ds).length 1) (d :: ds).length)) := by kernel_rfl
theorem B3_empty (n : Nat) (d : D) (ds : List D) : callF P (n+6) false 18 [.fz w_empty, .fz (.list [.tuple (d :: ds)])] = okP true (.int 0) := by kernel_rfl
theorem M3_empty (n : Nat) (d : D) (ds : List D) : callF P (n+6) false 16 [.fz w_empty, .fz (.list [.tuple (d :: ds)])] = okP true (.int 0) := by kernel_rfl

theorem B1_down (n : Nat) (t : List D) : callF P (n+6) false 18 [.fz w_down, .fz (.list [.tuple t])] = okP false t_NoNumber := by kernel_rfl
theorem M1_down (n : Nat) (t : List D) : callF P (n+6) false 16 [.fz w_down, .fz (.list [.tuple t])] = okP false t_NoNumber := by kernel_rfl
theorem call_4 (n : Nat) (hd : Bool) (a : Slot) : callF P (n+1) hd 4 [a] = runF P n hd f_down [a] := rfl
theorem call_15 (n : Nat) (hd : Bool) (a b : Slot) : callF P (n+1) hd 15 [a, b] = runF P n hd f_l_taken [a, b] := rfl
theorem q_down : eqD w_down w_down = some true := by kernel_rfl
theorem dn_eq (n : Nat) (i : Int) : callF P (n+1) false 4 [.fz (.int i)] = if i < 1 then some (.error x_NoDown, []) else some (.ok (.fz (.int (i - 1))), []) := by
  rw [call_4, f_down]
  simp only [Q0,Q1,Q2,Q3,Q4,Q5,Q6,Q7,Q8,Q9,Qa,Qb,Qc,Qd,Qe,Qf,Qg,Qh,Qi,Qj,Qk,Ql,Qm,Qn,Qo,Qp,Qq,Qr,Qs,Qt,Qu,Qv,Qw,Qx,Qy,Qz,Q10,Q11,Q12,Q13,Q14,Q15,Q16,Q17,Q18,Q19,Q1a,Q1b,Q1c,Q1d,Q1e,Q1f,Q1g,Q1h,Q1i,Q1i,Q1j,Q1k,Q1l,Q1m,Q1n,Q1o,Q1p,Q1q,Q1r,Q1s,rvV,Q1t,rvD,Q1u,Q1v,Q1w,Q1x,Q1y,Q1z,Q20,Q21,Q22,Q23,Q24,Q25,Q26,Q27,Q28,Q29,Q2a,Q2b,Q2c,Q4n,Q4o,Q4p,Q4q,Q4r,Q4s,Q4t,Q4u,Q4v,Q4w,Q4x,Q4y,Q4z,leD,ltD,Q2e,Q2f,Q2g,Q2h,Q2i,Q2j,Q2k,Q2l,Q2m,Q2n,Q2o,Q2p,Q2q,Q2r,clr,Q2s,Q2t,Q2u,Q2v,beq_self_eq_true,Q2w,Q2x,Q2y,Q2z,Q30,Q31,Q32,Q33,Q34,Q35,Q36,Q37,Q38,Q39,Q3a,Q3b,Q3c,Q3d,if_false,if_true,Q3e,Q3f,Q3g,Q3h,decide_eq_true_eq,Q3i,Q3j,Q3k,Q3l,Q3m,Q3n,Q3o,Q3p,reduceIte,reduceCtorEq,Q3q,Q3r,Q3s,Q3t,Q3u,Q3v,Q3w,Q3x,Q3y,Q3z,and_true,true_and,and_self,Q40,Q41,Q42,Q43,na2,na3,na4,na5,na6,na9,Q44,Q45,Q46,Q47,Q48,ne_eq,not_false_eq_true]
theorem tk_eq (n : Nat) (i : Int) : callF P (n+1) false 15 [.fz w_down, .fz (.int i)] = if i < 1 then okP false t_NoDown else okP true (.int (i - 1)) := by
  rw [call_15, f_l_taken]
  simp only [Q0,Q1,Q2,Q3,Q4,Q5,Q6,Q7,Q8,Q9,Qa,Qb,Qc,Qd,Qe,Qf,Qg,Qh,Qi,Qj,Qk,Ql,Qm,Qn,Qo,Qp,Qq,Qr,Qs,Qt,Qu,Qv,Qw,Qx,Qy,Qz,Q10,Q11,Q12,Q13,Q14,Q15,Q16,Q17,Q18,Q19,Q1a,Q1b,Q1c,Q1d,Q1e,Q1f,Q1g,Q1h,Q1i,Q1i,Q1j,Q1k,Q1l,Q1m,Q1n,Q1o,Q1p,Q1q,Q1r,Q1s,rvV,Q1t,rvD,Q1u,Q1v,Q1w,Q1x,Q1y,Q1z,Q20,Q21,Q22,Q23,Q24,Q25,Q26,Q27,Q28,Q29,Q2a,Q2b,Q2c,Q4n,Q4o,Q4p,Q4q,Q4r,Q4s,Q4t,Q4u,Q4v,Q4w,Q4x,Q4y,Q4z,leD,ltD,Q2e,Q2f,Q2g,Q2h,Q2i,Q2j,Q2k,Q2l,Q2m,Q2n,Q2o,Q2p,Q2q,Q2r,clr,Q2s,Q2t,Q2u,Q2v,beq_self_eq_true,Q2w,Q2x,Q2y,Q2z,Q30,Q31,Q32,Q33,Q34,Q35,Q36,Q37,Q38,Q39,Q3a,Q3b,Q3c,Q3d,if_false,if_true,Q3e,Q3f,Q3g,Q3h,decide_eq_true_eq,Q3i,Q3j,Q3k,Q3l,Q3m,Q3n,Q3o,Q3p,reduceIte,reduceCtorEq,Q3q,Q3r,Q3s,Q3t,Q3u,Q3v,Q3w,Q3x,Q3y,Q3z,and_true,true_and,and_self,Q40,Q41,Q42,Q43,na2,na3,na4,na5,na6,na9,Q44,Q45,Q46,Q47,Q48,ne_eq,not_false_eq_true]
  simp only [q_down]
  simp only [Q0,Q1,Q2,Q3,Q4,Q5,Q6,Q7,Q8,Q9,Qa,Qb,Qc,Qd,Qe,Qf,Qg,Qh,Qi,Qj,Qk,Ql,Qm,Qn,Qo,Qp,Qq,Qr,Qs,Qt,Qu,Qv,Qw,Qx,Qy,Qz,Q10,Q11,Q12,Q13,Q14,Q15,Q16,Q17,Q18,Q19,Q1a,Q1b,Q1c,Q1d,Q1e,Q1f,Q1g,Q1h,Q1i,Q1i,Q1j,Q1k,Q1l,Q1m,Q1n,Q1o,Q1p,Q1q,Q1r,Q1s,rvV,Q1t,rvD,Q1u,Q1v,Q1w,Q1x,Q1y,Q1z,Q20,Q21,Q22,Q23,Q24,Q25,Q26,Q27,Q28,Q29,Q2a,Q2b,Q2c,Q4n,Q4o,Q4p,Q4q,Q4r,Q4s,Q4t,Q4u,Q4v,Q4w,Q4x,Q4y,Q4z,leD,ltD,Q2e,Q2f,Q2g,Q2h,Q2i,Q2j,Q2k,Q2l,Q2m,Q2n,Q2o,Q2p,Q2q,Q2r,clr,Q2s,Q2t,Q2u,Q2v,beq_self_eq_true,Q2w,Q2x,Q2y,Q2z,Q30,Q31,Q32,Q33,Q34,Q35,Q36,Q37,Q38,Q39,Q3a,Q3b,Q3c,Q3d,if_false,if_true,Q3e,Q3f,Q3g,Q3h,decide_eq_true_eq,Q3i,Q3j,Q3k,Q3l,Q3m,Q3n,Q3o,Q3p,reduceIte,reduceCtorEq,Q3q,Q3r,Q3s,Q3t,Q3u,Q3v,Q3w,Q3x,Q3y,Q3z,and_true,true_and,and_self,Q40,Q41,Q42,Q43,na2,na3,na4,na5,na6,na9,Q44,Q45,Q46,Q47,Q48,ne_eq,not_false_eq_true]
  by_cases q : i < 1
  · rw [if_pos q, if_pos (by omega), decide_eq_false (by omega), show idxOf [PyData.int (i - 1), t_NoDown] 1 = some t_NoDown from rfl]
    simp only [Q0,Q1,Q2,Q3,Q4,Q5,Q6,Q7,Q8,Q9,Qa,Qb,Qc,Qd,Qe,Qf,Qg,Qh,Qi,Qj,Qk,Ql,Qm,Qn,Qo,Qp,Qq,Qr,Qs,Qt,Qu,Qv,Qw,Qx,Qy,Qz,Q10,Q11,Q12,Q13,Q14,Q15,Q16,Q17,Q18,Q19,Q1a,Q1b,Q1c,Q1d,Q1e,Q1f,Q1g,Q1h,Q1i,Q1i,Q1j,Q1k,Q1l,Q1m,Q1n,Q1o,Q1p,Q1q,Q1r,Q1s,rvV,Q1t,rvD,Q1u,Q1v,Q1w,Q1x,Q1y,Q1z,Q20,Q21,Q22,Q23,Q24,Q25,Q26,Q27,Q28,Q29,Q2a,Q2b,Q2c,Q4n,Q4o,Q4p,Q4q,Q4r,Q4s,Q4t,Q4u,Q4v,Q4w,Q4x,Q4y,Q4z,leD,ltD,Q2e,Q2f,Q2g,Q2h,Q2i,Q2j,Q2k,Q2l,Q2m,Q2n,Q2o,Q2p,Q2q,Q2r,clr,Q2s,Q2t,Q2u,Q2v,beq_self_eq_true,Q2w,Q2x,Q2y,Q2z,Q30,Q31,Q32,Q33,Q34,Q35,Q36,Q37,Q38,Q39,Q3a,Q3b,Q3c,Q3d,if_false,if_true,Q3e,Q3f,Q3g,Q3h,decide_eq_true_eq,Q3i,Q3j,Q3k,Q3l,Q3m,Q3n,Q3o,Q3p,reduceIte,reduceCtorEq,Q3q,Q3r,Q3s,Q3t,Q3u,Q3v,Q3w,Q3x,Q3y,Q3z,and_true,true_and,and_self,Q40,Q41,Q42,Q43,na2,na3,na4,na5,na6,na9,Q44,Q45,Q46,Q47,Q48,ne_eq,not_false_eq_true]
  · rw [if_neg q, if_neg (by omega), decide_eq_true (by omega), show idxOf [PyData.int (i - 1), t_NoDown] 0 = some (.int (i - 1)) from rfl]
    simp only [Q0,Q1,Q2,Q3,Q4,Q5,Q6,Q7,Q8,Q9,Qa,Qb,Qc,Qd,Qe,Qf,Qg,Qh,Qi,Qj,Qk,Ql,Qm,Qn,Qo,Qp,Qq,Qr,Qs,Qt,Qu,Qv,Qw,Qx,Qy,Qz,Q10,Q11,Q12,Q13,Q14,Q15,Q16,Q17,Q18,Q19,Q1a,Q1b,Q1c,Q1d,Q1e,Q1f,Q1g,Q1h,Q1i,Q1i,Q1j,Q1k,Q1l,Q1m,Q1n,Q1o,Q1p,Q1q,Q1r,Q1s,rvV,Q1t,rvD,Q1u,Q1v,Q1w,Q1x,Q1y,Q1z,Q20,Q21,Q22,Q23,Q24,Q25,Q26,Q27,Q28,Q29,Q2a,Q2b,Q2c,Q4n,Q4o,Q4p,Q4q,Q4r,Q4s,Q4t,Q4u,Q4v,Q4w,Q4x,Q4y,Q4z,leD,ltD,Q2e,Q2f,Q2g,Q2h,Q2i,Q2j,Q2k,Q2l,Q2m,Q2n,Q2o,Q2p,Q2q,Q2r,clr,Q2s,Q2t,Q2u,Q2v,beq_self_eq_true,Q2w,Q2x,Q2y,Q2z,Q30,Q31,Q32,Q33,Q34,Q35,Q36,Q37,Q38,Q39,Q3a,Q3b,Q3c,Q3d,if_false,if_true,Q3e,Q3f,Q3g,Q3h,decide_eq_true_eq,Q3i,Q3j,Q3k,Q3l,Q3m,Q3n,Q3o,Q3p,reduceIte,reduceCtorEq,Q3q,Q3r,Q3s,Q3t,Q3u,Q3v,Q3w,Q3x,Q3y,Q3z,and_true,true_and,and_self,Q40,Q41,Q42,Q43,na2,na3,na4,na5,na6,na9,Q44,Q45,Q46,Q47,Q48,ne_eq,not_false_eq_true]
theorem B2_down (n : Nat) (i : Int) : callF P (n+6) false 18 [.fz w_down, .fz (.list [.int i])] = ansF n w_down (.list [.int i]) (ov 4 (callF P (n+4) false 4 [.fz (.int i)]) (callF P (n+4))) := by kernel_rfl
theorem B3_down (n : Nat) (i : Int) (d : D) : ansF n w_down (.list [.int i]) (ov 4 (some (.ok (.fz d), [])) (callF P (n+4))) = okP true d := by kernel_rfl
theorem B4_down (n : Nat) (i : Int) : ansF n w_down (.list [.int i]) (ov 4 (some (.error x_NoDown, [])) (callF P (n+4))) = okP false t_NoDown := by kernel_rfl
theorem M2_down (n : Nat) (i : Int) : callF P (n+6) false 16 [.fz w_down, .fz (.list [.int i])] = runC (ov 15 (callF P (n+5) false 15 [.fz w_down, .fz (.int i)]) (callF P (n+5))) false f_l_done [.fz w_down, .fz (.list [.int i])] := by kernel_rfl
theorem M3_down (n : Nat) (i : Int) (t : D) : runC (ov 15 (some (.ok (.fz t), [])) (callF P (n+5))) false f_l_done [.fz w_down, .fz (.list [.int i])] = some (.ok (.fz t), []) := by kernel_rfl
theorem key_down (n : Nat) (i : Int) : Key n w_down (.list [.int i]) := by
  by_cases q : i < 1
  · exact ⟨false, t_NoDown, by rw [B2_down, dn_eq, if_pos q, B4_down], by rw [M2_down, tk_eq, if_pos q, M3_down], rfl, by show 0 ≤ 8; decide, by show 1 ≤ 1000; decide⟩
  · exact ⟨true, .int (i - 1), by rw [B2_down, dn_eq, if_neg q, B3_down], by rw [M2_down, tk_eq, if_neg q, M3_down], rfl, by show 0 ≤ 8; decide, by show 1 ≤ 1000; decide⟩
end L02

end

section
set_option maxRecDepth 100000
set_option linter.unusedVariables false
set_option linter.unusedSimpArgs false
namespace L02
open PySem Mv
open _root_.Mv renaming runF_eq → Q0, finF_ret → Q1, finF_next → Q2, finF_err → Q3, finF_ite → Q4, bnd_none → Q5, bnd_ok → Q6, bnd_err → Q7, bnd_ite → Q8, bndN_ok → Q9, bndN_none → Qa, exS_raise → Qd, exS_try → Qe, tryO_ok → Qf, tryO_err → Qg, tryH_ok → Qh, ev_isx → Qi, ev_dsel → Qj, okO_some → Qk, okO_none → Ql, okV_fz → Qm, okV_own → Qn, okV_none → Qo, ev_lit → Qp, ev_gl → Qq, ev_var → Qr, ev_pl → Qs, ev_tup → Qt, ev_list → Qu, ev_op2 → Qv, ev_neg → Qw, ev_not → Qx, ev_cmp → Qy, ev_cmp2 → Qz, ev_and → Q10, ev_or → Q11, ev_ite → Q12, ev_idx → Q13, ev_slc → Q14, ev_call → Q15, ev_bi → Q16, ev_comp → Q17, compB_nil → Q18, evs_nil → Q19, evs_cons → Q1a, evAnd_one → Q1b, evAnd_cons → Q1c, evOr_one → Q1d, evOr_cons → Q1e, evConds_nil → Q1f, evConds_cons → Q1g, exS_asg → Q1h, Tgt.isTup → Q1i, exS_iff → Q1j, exS_ret → Q1k, exS_for → Q1l, forB_nil → Q1m, exSs_nil → Q1n, exSs_cons → Q1o, pinsOf → Q1p, Slot.lent → Q1q, Slot.live → Q1r, plLive → Q1s, rvVs → Q1t, rvDs → Q1u, b_len → Q1v, b_isi → Q1w, b_sum → Q1x, b_tupL → Q1y, b_tupT → Q1z, b_abs → Q20, b_int → Q21, b_listL → Q22, plGet → Q23, callO → Q24, argSlots → Q25, roots → Q26, copyOut → Q27, cmpD → Q28, e_int → Q29, e_bool → Q2a, e_list → Q2b, e_tuple → Q2c, outsOf → Q2e, o_addI → Q2f, o_addT → Q2g, o_addL → Q2h, o_sub → Q2i, o_mulI → Q2j, o_mulT → Q2k, o_mulL → Q2l, o_fdiv → Q2m, o_mod → Q2n, o_pow → Q2o, negD → Q2p, asgT → Q2q, asgs → Q2r, tgtVars → Q2s, idxD → Q2t, isiD → Q2u, i_bb → Q2v, truthD → Q2w, lenD → Q2x, iterD → Q2y, Bi.loops → Q31
open _root_.L02 renaming bndN_ite → Qb, bndN_err → Qc, P_g0 → Q2z, P_g1 → Q30, len_some → Q43, na10 → Q44, na12 → Q45, na16 → Q46, na30 → Q47, na100 → Q48
open _root_.Bool renaming and_false → Q32, false_and → Q33, false_eq_true → Q3d, not_true → Q3e, not_false → Q3f, not_eq_true → Q3j
open _root_.List renaming cons_append → Q34, nil_append → Q35, append_nil → Q36, replicate → Q37, getElem?_cons_zero → Q38, getElem?_cons_succ → Q39, set_cons_zero → Q3a, set_cons_succ → Q3b, contains_nil → Q3c, nodup_nil → Q3i
open _root_.Option renaming map_some → Q3g, map_none → Q3h
open _root_.Nat renaming reduceAdd → Q3k, reduceSub → Q3l, reduceMul → Q3m, reduceLT → Q3n, reduceLeDiff → Q3o, reduceEqDiff → Q3p, reducePow → Q40, le_refl → Q41
open _root_.Int renaming reduceAdd → Q3q, reduceNeg → Q3r, reducePow → Q3s, reduceSub → Q3t, reduceMul → Q3u, reduceLT → Q3v, reduceLE → Q3w, reduceEq → Q3x, reduceToNat → Q3y, natAbs_natCast → Q3z, le_refl → Q42

noncomputable def Vl (d : D) : Prop := good d = true ∧ dep d ≤ 5 ∧ wt d ≤ 60
theorem Vl.int {i : Int} (h1 : -1000000000000000000 < i) (h2 : i < 1000000000000000000) : Vl (.int i) := ⟨by show goodN i = true; unfold goodN; rw [decide_eq_true h1, decide_eq_true h2]; rfl, by show 0 ≤ 5; decide, by show 1 ≤ 60; decide⟩
theorem fm (a : Int) (m : Int) (h0 : 0 < m) : 0 ≤ a.fmod m ∧ a.fmod m < m := ⟨Int.fmod_nonneg_of_pos a h0, Int.fmod_lt_of_pos a h0⟩
noncomputable def smallI (d : D) : Prop := ∃ i : Int, d = .int i ∧ 0 ≤ i ∧ i < 1000
theorem small_goods : ∀ {ds : List D}, (∀ d ∈ ds, smallI d) → goods ds = true ∧ deps ds = 0 ∧ wts ds = ds.length
  | [], _ => ⟨rfl, rfl, rfl⟩
  | d :: ds, h => by
    obtain ⟨i, rfl, h0, h1⟩ := h d List.mem_cons_self
    obtain ⟨a, b, c⟩ := small_goods fun x hx => h x (List.mem_cons_of_mem _ hx)
    refine ⟨?_, ?_, ?_⟩
    · show (goodN i && goods ds) = true
      unfold goodN
      rw [a, decide_eq_true (by omega), decide_eq_true (by omega)]; rfl
    · show max 0 (deps ds) = 0
      omega
    · show 1 + wts ds = ds.length + 1
      omega
theorem Vl.smalls {ds : List D} (h : ∀ d ∈ ds, smallI d) (hl : ds.length ≤ 59) : Vl (.tuple ds) := by
  obtain ⟨a, b, c⟩ := small_goods h
  exact ⟨a, by show deps ds + 1 ≤ 5; omega, by show 1 + wts ds ≤ 60; omega⟩
theorem idx_map (xs : List Int) (i : Int) (h0 : 0 ≤ i) (h1 : i < xs.length) : ∃ c, idxOf (xs.map PyData.int) i = some (.int c) := by
  unfold idxOf
  rw [if_pos h0]
  have hl : i.toNat < (xs.map PyData.int).length := by rw [List.length_map]; omega
  exact ⟨xs[i.toNat]'(by simpa using hl), by rw [List.getElem?_eq_getElem hl]; simp⟩
theorem cell (n : Nat) (xs : List Int) (i : Int) (h0 : 0 ≤ i) : ∃ c, callF P (n+1) false 8 [.fz (.list (xs.map .int)), .fz (.int i)] = some (.ok (.fz (.int c)), []) := by
  rw [call_8, f_l_cell_at]
  simp only [Q0,Q1,Q2,Q3,Q4,Q5,Q6,Q7,Q8,Q9,Qa,Qb,Qc,Qd,Qe,Qf,Qg,Qh,Qi,Qj,Qk,Ql,Qm,Qn,Qo,Qp,Qq,Qr,Qs,Qt,Qu,Qv,Qw,Qx,Qy,Qz,Q10,Q11,Q12,Q13,Q14,Q15,Q16,Q17,Q18,Q19,Q1a,Q1b,Q1c,Q1d,Q1e,Q1f,Q1g,Q1h,Q1i,Q1i,Q1j,Q1k,Q1l,Q1m,Q1n,Q1o,Q1p,Q1q,Q1r,Q1s,rvV,Q1t,rvD,Q1u,Q1v,Q1w,Q1x,Q1y,Q1z,Q20,Q21,Q22,Q23,Q24,Q25,Q26,Q27,Q28,Q29,Q2a,Q2b,Q2c,leD,ltD,Q2e,Q2f,Q2g,Q2h,Q2i,Q2j,Q2k,Q2l,Q2m,Q2n,Q2o,Q2p,Q2q,Q2r,clr,Q2s,Q2t,Q2u,Q2v,beq_self_eq_true,Q2w,Q2x,Q2y,Q2z,Q30,Q31,Q32,Q33,Q34,Q35,Q36,Q37,Q38,Q39,Q3a,Q3b,Q3c,Q3d,if_false,if_true,Q3e,Q3f,Q3g,Q3h,decide_eq_true_eq,Q3i,Q3j,Q3k,Q3l,Q3m,Q3n,Q3o,Q3p,reduceIte,reduceCtorEq,Q3q,Q3r,Q3s,Q3t,Q3u,Q3v,Q3w,Q3x,Q3y,Q3z,and_true,true_and,and_self,Q40,Q41,Q42,Q43,na2,na3,na4,na5,na6,na9,Q44,Q45,Q46,Q47,Q48,ne_eq,not_false_eq_true]
  rw [List.length_map]
  by_cases q : i < xs.length
  · obtain ⟨c, hc⟩ := idx_map xs i h0 q
    refine ⟨c, ?_⟩
    rw [if_pos q, hc]
    simp only [Q0,Q1,Q2,Q3,Q4,Q5,Q6,Q7,Q8,Q9,Qa,Qb,Qc,Qd,Qe,Qf,Qg,Qh,Qi,Qj,Qk,Ql,Qm,Qn,Qo,Qp,Qq,Qr,Qs,Qt,Qu,Qv,Qw,Qx,Qy,Qz,Q10,Q11,Q12,Q13,Q14,Q15,Q16,Q17,Q18,Q19,Q1a,Q1b,Q1c,Q1d,Q1e,Q1f,Q1g,Q1h,Q1i,Q1i,Q1j,Q1k,Q1l,Q1m,Q1n,Q1o,Q1p,Q1q,Q1r,Q1s,rvV,Q1t,rvD,Q1u,Q1v,Q1w,Q1x,Q1y,Q1z,Q20,Q21,Q22,Q23,Q24,Q25,Q26,Q27,Q28,Q29,Q2a,Q2b,Q2c,leD,ltD,Q2e,Q2f,Q2g,Q2h,Q2i,Q2j,Q2k,Q2l,Q2m,Q2n,Q2o,Q2p,Q2q,Q2r,clr,Q2s,Q2t,Q2u,Q2v,beq_self_eq_true,Q2w,Q2x,Q2y,Q2z,Q30,Q31,Q32,Q33,Q34,Q35,Q36,Q37,Q38,Q39,Q3a,Q3b,Q3c,Q3d,if_false,if_true,Q3e,Q3f,Q3g,Q3h,decide_eq_true_eq,Q3i,Q3j,Q3k,Q3l,Q3m,Q3n,Q3o,Q3p,reduceIte,reduceCtorEq,Q3q,Q3r,Q3s,Q3t,Q3u,Q3v,Q3w,Q3x,Q3y,Q3z,and_true,true_and,and_self,Q40,Q41,Q42,Q43,na2,na3,na4,na5,na6,na9,Q44,Q45,Q46,Q47,Q48,ne_eq,not_false_eq_true]
  · exact ⟨0, by rw [if_neg q]⟩
theorem v_loop (n : Nat) (pick : Int) (s1 : Slot) : ∀ (ks : List Nat) (s2 : Slot), (∀ k ∈ ks, k < 20) →
    ∃ rs, compB ⟨P.glob, callF P n, [], false⟩ [.fz (.int pick), s1, s2] (.op2 .mod (.op2 .fdiv (.var 0) (.lit (.int 16))) (.op2 .add (.var 2) (.lit (.int 2)))) (.one 2) [] (ks.map fun (k : Nat) => .int (0 + k)) = some (.ok rs, [.fz (.int pick), s1, .no]) ∧ rs.length = ks.length ∧ ∀ d ∈ rs, smallI d
  | [], s2, _ => ⟨[], by rw [List.map_nil, compB_nil]; simp only [Q0,Q1,Q2,Q3,Q4,Q5,Q6,Q7,Q8,Q9,Qa,Qb,Qc,Qd,Qe,Qf,Qg,Qh,Qi,Qj,Qk,Ql,Qm,Qn,Qo,Qp,Qq,Qr,Qs,Qt,Qu,Qv,Qw,Qx,Qy,Qz,Q10,Q11,Q12,Q13,Q14,Q15,Q16,Q17,Q18,Q19,Q1a,Q1b,Q1c,Q1d,Q1e,Q1f,Q1g,Q1h,Q1i,Q1i,Q1j,Q1k,Q1l,Q1m,Q1n,Q1o,Q1p,Q1q,Q1r,Q1s,rvV,Q1t,rvD,Q1u,Q1v,Q1w,Q1x,Q1y,Q1z,Q20,Q21,Q22,Q23,Q24,Q25,Q26,Q27,Q28,Q29,Q2a,Q2b,Q2c,leD,ltD,Q2e,Q2f,Q2g,Q2h,Q2i,Q2j,Q2k,Q2l,Q2m,Q2n,Q2o,Q2p,Q2q,Q2r,clr,Q2s,Q2t,Q2u,Q2v,beq_self_eq_true,Q2w,Q2x,Q2y,Q2z,Q30,Q31,Q32,Q33,Q34,Q35,Q36,Q37,Q38,Q39,Q3a,Q3b,Q3c,Q3d,if_false,if_true,Q3e,Q3f,Q3g,Q3h,decide_eq_true_eq,Q3i,Q3j,Q3k,Q3l,Q3m,Q3n,Q3o,Q3p,reduceIte,reduceCtorEq,Q3q,Q3r,Q3s,Q3t,Q3u,Q3v,Q3w,Q3x,Q3y,Q3z,and_true,true_and,and_self,Q40,Q41,Q42,Q43,na2,na3,na4,na5,na6,na9,Q44,Q45,Q46,Q47,Q48,ne_eq,not_false_eq_true], rfl, fun _ h => by cases h⟩
  | k :: ks, s2, hk => by
    have hk0 := hk k List.mem_cons_self
    obtain ⟨rs, h, hl, hs⟩ := v_loop n pick s1 ks (.fz (.int (0 + k))) fun j hj => hk j (List.mem_cons_of_mem _ hj)
    have hf := fm (pick.fdiv 16) (0 + k + 2) (by omega)
    refine ⟨.int ((pick.fdiv 16).fmod (0 + k + 2)) :: rs, ?_, congrArg (· + 1) hl, fun d hd => ?_⟩
    · rw [List.map_cons, compB_cons]
      simp only [Q0,Q1,Q2,Q3,Q4,Q5,Q6,Q7,Q8,Q9,Qa,Qb,Qc,Qd,Qe,Qf,Qg,Qh,Qi,Qj,Qk,Ql,Qm,Qn,Qo,Qp,Qq,Qr,Qs,Qt,Qu,Qv,Qw,Qx,Qy,Qz,Q10,Q11,Q12,Q13,Q14,Q15,Q16,Q17,Q18,Q19,Q1a,Q1b,Q1c,Q1d,Q1e,Q1f,Q1g,Q1h,Q1i,Q1i,Q1j,Q1k,Q1l,Q1m,Q1n,Q1o,Q1p,Q1q,Q1r,Q1s,rvV,Q1t,rvD,Q1u,Q1v,Q1w,Q1x,Q1y,Q1z,Q20,Q21,Q22,Q23,Q24,Q25,Q26,Q27,Q28,Q29,Q2a,Q2b,Q2c,leD,ltD,Q2e,Q2f,Q2g,Q2h,Q2i,Q2j,Q2k,Q2l,Q2m,Q2n,Q2o,Q2p,Q2q,Q2r,clr,Q2s,Q2t,Q2u,Q2v,beq_self_eq_true,Q2w,Q2x,Q2y,Q2z,Q30,Q31,Q32,Q33,Q34,Q35,Q36,Q37,Q38,Q39,Q3a,Q3b,Q3c,Q3d,if_false,if_true,Q3e,Q3f,Q3g,Q3h,decide_eq_true_eq,Q3i,Q3j,Q3k,Q3l,Q3m,Q3n,Q3o,Q3p,reduceIte,reduceCtorEq,Q3q,Q3r,Q3s,Q3t,Q3u,Q3v,Q3w,Q3x,Q3y,Q3z,and_true,true_and,and_self,Q40,Q41,Q42,Q43,na2,na3,na4,na5,na6,na9,Q44,Q45,Q46,Q47,Q48,ne_eq,not_false_eq_true]
      rw [if_neg (show ¬ ((0 : Int) + k + 2 = 0) from by omega)]
      simp only [Q0,Q1,Q2,Q3,Q4,Q5,Q6,Q7,Q8,Q9,Qa,Qb,Qc,Qd,Qe,Qf,Qg,Qh,Qi,Qj,Qk,Ql,Qm,Qn,Qo,Qp,Qq,Qr,Qs,Qt,Qu,Qv,Qw,Qx,Qy,Qz,Q10,Q11,Q12,Q13,Q14,Q15,Q16,Q17,Q18,Q19,Q1a,Q1b,Q1c,Q1d,Q1e,Q1f,Q1g,Q1h,Q1i,Q1i,Q1j,Q1k,Q1l,Q1m,Q1n,Q1o,Q1p,Q1q,Q1r,Q1s,rvV,Q1t,rvD,Q1u,Q1v,Q1w,Q1x,Q1y,Q1z,Q20,Q21,Q22,Q23,Q24,Q25,Q26,Q27,Q28,Q29,Q2a,Q2b,Q2c,leD,ltD,Q2e,Q2f,Q2g,Q2h,Q2i,Q2j,Q2k,Q2l,Q2m,Q2n,Q2o,Q2p,Q2q,Q2r,clr,Q2s,Q2t,Q2u,Q2v,beq_self_eq_true,Q2w,Q2x,Q2y,Q2z,Q30,Q31,Q32,Q33,Q34,Q35,Q36,Q37,Q38,Q39,Q3a,Q3b,Q3c,Q3d,if_false,if_true,Q3e,Q3f,Q3g,Q3h,decide_eq_true_eq,Q3i,Q3j,Q3k,Q3l,Q3m,Q3n,Q3o,Q3p,reduceIte,reduceCtorEq,Q3q,Q3r,Q3s,Q3t,Q3u,Q3v,Q3w,Q3x,Q3y,Q3z,and_true,true_and,and_self,Q40,Q41,Q42,Q43,na2,na3,na4,na5,na6,na9,Q44,Q45,Q46,Q47,Q48,ne_eq,not_false_eq_true]
      rw [h]
      simp only [Q0,Q1,Q2,Q3,Q4,Q5,Q6,Q7,Q8,Q9,Qa,Qb,Qc,Qd,Qe,Qf,Qg,Qh,Qi,Qj,Qk,Ql,Qm,Qn,Qo,Qp,Qq,Qr,Qs,Qt,Qu,Qv,Qw,Qx,Qy,Qz,Q10,Q11,Q12,Q13,Q14,Q15,Q16,Q17,Q18,Q19,Q1a,Q1b,Q1c,Q1d,Q1e,Q1f,Q1g,Q1h,Q1i,Q1i,Q1j,Q1k,Q1l,Q1m,Q1n,Q1o,Q1p,Q1q,Q1r,Q1s,rvV,Q1t,rvD,Q1u,Q1v,Q1w,Q1x,Q1y,Q1z,Q20,Q21,Q22,Q23,Q24,Q25,Q26,Q27,Q28,Q29,Q2a,Q2b,Q2c,leD,ltD,Q2e,Q2f,Q2g,Q2h,Q2i,Q2j,Q2k,Q2l,Q2m,Q2n,Q2o,Q2p,Q2q,Q2r,clr,Q2s,Q2t,Q2u,Q2v,beq_self_eq_true,Q2w,Q2x,Q2y,Q2z,Q30,Q31,Q32,Q33,Q34,Q35,Q36,Q37,Q38,Q39,Q3a,Q3b,Q3c,Q3d,if_false,if_true,Q3e,Q3f,Q3g,Q3h,decide_eq_true_eq,Q3i,Q3j,Q3k,Q3l,Q3m,Q3n,Q3o,Q3p,reduceIte,reduceCtorEq,Q3q,Q3r,Q3s,Q3t,Q3u,Q3v,Q3w,Q3x,Q3y,Q3z,and_true,true_and,and_self,Q40,Q41,Q42,Q43,na2,na3,na4,na5,na6,na9,Q44,Q45,Q46,Q47,Q48,ne_eq,not_false_eq_true]
    · rcases List.mem_cons.mp hd with rfl | hd
      · exact ⟨_, rfl, hf.1, by omega⟩
      · exact hs d hd
noncomputable abbrev somes : List D := [.int 0, .int 1, .int 2, .int 3, .int 5, .int (-1), .int (-4), .tuple [], .tuple [.int 1], .tuple [.int 2, .int 0], .tuple [.int 1, .int 2, .int 3], .tuple [.tuple [], .int 1], .tuple [.tuple [.int 1, .int 2], .tuple [.int 3]], .tuple [.int 4, .tuple [.int 5, .tuple [.int 6]]]]
theorem idx_mem {α : Type} {xs : List α} {r : Int} (h0 : 0 ≤ r) (h1 : r < xs.length) : ∃ d, idxOf xs r = some d ∧ d ∈ xs := by
  unfold idxOf
  rw [if_pos h0]
  have hl : r.toNat < xs.length := by omega
  exact ⟨xs[r.toNat], List.getElem?_eq_getElem hl, List.getElem_mem hl⟩
noncomputable def vlB (d : D) : Bool := good d && decide (dep d ≤ 5) && decide (wt d ≤ 60)
theorem vlB_ok {d : D} (h : vlB d = true) : Vl d := by
  unfold vlB at h
  rw [Bool.and_eq_true, Bool.and_eq_true] at h
  exact ⟨h.1.1, of_decide_eq_true h.1.2, of_decide_eq_true h.2⟩
theorem somes_all : somes.all vlB = true := by kernel_rfl
theorem somes_get (r : Int) (h0 : 0 ≤ r) (h1 : r < 14) : ∃ d, idxOf somes r = some d ∧ Vl d := by
  obtain ⟨d, h, m⟩ := idx_mem (xs := somes) h0 h1
  exact ⟨d, h, vlB_ok (List.all_eq_true.mp somes_all d m)⟩
theorem value_eq (n : Nat) (pick : Int) : ∃ d, callF P (n+1) false 10 [.fz (.int pick)] = some (.ok (.fz d), []) ∧ Vl d := by
  rw [call_10, f_l_value]
  simp only [Q0,Q1,Q2,Q3,Q4,Q5,Q6,Q7,Q8,Q9,Qa,Qb,Qc,Qd,Qe,Qf,Qg,Qh,Qi,Qj,Qk,Ql,Qm,Qn,Qo,Qp,Qq,Qr,Qs,Qt,Qu,Qv,Qw,Qx,Qy,Qz,Q10,Q11,Q12,Q13,Q14,Q15,Q16,Q17,Q18,Q19,Q1a,Q1b,Q1c,Q1d,Q1e,Q1f,Q1g,Q1h,Q1i,Q1i,Q1j,Q1k,Q1l,Q1m,Q1n,Q1o,Q1p,Q1q,Q1r,Q1s,rvV,Q1t,rvD,Q1u,Q1v,Q1w,Q1x,Q1y,Q1z,Q20,Q21,Q22,Q23,Q24,Q25,Q26,Q27,Q28,Q29,Q2a,Q2b,Q2c,leD,ltD,Q2e,Q2f,Q2g,Q2h,Q2i,Q2j,Q2k,Q2l,Q2m,Q2n,Q2o,Q2p,Q2q,Q2r,clr,Q2s,Q2t,Q2u,Q2v,beq_self_eq_true,Q2w,Q2x,Q2y,Q2z,Q30,Q31,Q32,Q33,Q34,Q35,Q36,Q37,Q38,Q39,Q3a,Q3b,Q3c,Q3d,if_false,if_true,Q3e,Q3f,Q3g,Q3h,decide_eq_true_eq,Q3i,Q3j,Q3k,Q3l,Q3m,Q3n,Q3o,Q3p,reduceIte,reduceCtorEq,Q3q,Q3r,Q3s,Q3t,Q3u,Q3v,Q3w,Q3x,Q3y,Q3z,and_true,true_and,and_self,Q40,Q41,Q42,Q43,na2,na3,na4,na5,na6,na9,Q44,Q45,Q46,Q47,Q48,ne_eq,not_false_eq_true]
  have h16 := fm pick 16 (by decide)
  by_cases q : pick.fmod 16 = 14
  · rw [show (pick.fmod 16 == 14) = true from by simpa using q]
    simp only [Q0,Q1,Q2,Q3,Q4,Q5,Q6,Q7,Q8,Q9,Qa,Qb,Qc,Qd,Qe,Qf,Qg,Qh,Qi,Qj,Qk,Ql,Qm,Qn,Qo,Qp,Qq,Qr,Qs,Qt,Qu,Qv,Qw,Qx,Qy,Qz,Q10,Q11,Q12,Q13,Q14,Q15,Q16,Q17,Q18,Q19,Q1a,Q1b,Q1c,Q1d,Q1e,Q1f,Q1g,Q1h,Q1i,Q1i,Q1j,Q1k,Q1l,Q1m,Q1n,Q1o,Q1p,Q1q,Q1r,Q1s,rvV,Q1t,rvD,Q1u,Q1v,Q1w,Q1x,Q1y,Q1z,Q20,Q21,Q22,Q23,Q24,Q25,Q26,Q27,Q28,Q29,Q2a,Q2b,Q2c,leD,ltD,Q2e,Q2f,Q2g,Q2h,Q2i,Q2j,Q2k,Q2l,Q2m,Q2n,Q2o,Q2p,Q2q,Q2r,clr,Q2s,Q2t,Q2u,Q2v,beq_self_eq_true,Q2w,Q2x,Q2y,Q2z,Q30,Q31,Q32,Q33,Q34,Q35,Q36,Q37,Q38,Q39,Q3a,Q3b,Q3c,Q3d,if_false,if_true,Q3e,Q3f,Q3g,Q3h,decide_eq_true_eq,Q3i,Q3j,Q3k,Q3l,Q3m,Q3n,Q3o,Q3p,reduceIte,reduceCtorEq,Q3q,Q3r,Q3s,Q3t,Q3u,Q3v,Q3w,Q3x,Q3y,Q3z,and_true,true_and,and_self,Q40,Q41,Q42,Q43,na2,na3,na4,na5,na6,na9,Q44,Q45,Q46,Q47,Q48,ne_eq,not_false_eq_true]
    rw [mulI_ok (show Int.natAbs 2 < 2 ^ 64 from by decide) (show Int.natAbs 1000000000000000000 < 2 ^ 64 from by decide)]
    simp only [Q0,Q1,Q2,Q3,Q4,Q5,Q6,Q7,Q8,Q9,Qa,Qb,Qc,Qd,Qe,Qf,Qg,Qh,Qi,Qj,Qk,Ql,Qm,Qn,Qo,Qp,Qq,Qr,Qs,Qt,Qu,Qv,Qw,Qx,Qy,Qz,Q10,Q11,Q12,Q13,Q14,Q15,Q16,Q17,Q18,Q19,Q1a,Q1b,Q1c,Q1d,Q1e,Q1f,Q1g,Q1h,Q1i,Q1i,Q1j,Q1k,Q1l,Q1m,Q1n,Q1o,Q1p,Q1q,Q1r,Q1s,rvV,Q1t,rvD,Q1u,Q1v,Q1w,Q1x,Q1y,Q1z,Q20,Q21,Q22,Q23,Q24,Q25,Q26,Q27,Q28,Q29,Q2a,Q2b,Q2c,leD,ltD,Q2e,Q2f,Q2g,Q2h,Q2i,Q2j,Q2k,Q2l,Q2m,Q2n,Q2o,Q2p,Q2q,Q2r,clr,Q2s,Q2t,Q2u,Q2v,beq_self_eq_true,Q2w,Q2x,Q2y,Q2z,Q30,Q31,Q32,Q33,Q34,Q35,Q36,Q37,Q38,Q39,Q3a,Q3b,Q3c,Q3d,if_false,if_true,Q3e,Q3f,Q3g,Q3h,decide_eq_true_eq,Q3i,Q3j,Q3k,Q3l,Q3m,Q3n,Q3o,Q3p,reduceIte,reduceCtorEq,Q3q,Q3r,Q3s,Q3t,Q3u,Q3v,Q3w,Q3x,Q3y,Q3z,and_true,true_and,and_self,Q40,Q41,Q42,Q43,na2,na3,na4,na5,na6,na9,Q44,Q45,Q46,Q47,Q48,ne_eq,not_false_eq_true]
    have hf := fm (pick.fdiv 16) 1999999999999999999 (by decide)
    exact ⟨_, rfl, .int (by omega) (by omega)⟩
  · rw [show (pick.fmod 16 == 14) = false from by simpa using q]
    simp only [Q0,Q1,Q2,Q3,Q4,Q5,Q6,Q7,Q8,Q9,Qa,Qb,Qc,Qd,Qe,Qf,Qg,Qh,Qi,Qj,Qk,Ql,Qm,Qn,Qo,Qp,Qq,Qr,Qs,Qt,Qu,Qv,Qw,Qx,Qy,Qz,Q10,Q11,Q12,Q13,Q14,Q15,Q16,Q17,Q18,Q19,Q1a,Q1b,Q1c,Q1d,Q1e,Q1f,Q1g,Q1h,Q1i,Q1i,Q1j,Q1k,Q1l,Q1m,Q1n,Q1o,Q1p,Q1q,Q1r,Q1s,rvV,Q1t,rvD,Q1u,Q1v,Q1w,Q1x,Q1y,Q1z,Q20,Q21,Q22,Q23,Q24,Q25,Q26,Q27,Q28,Q29,Q2a,Q2b,Q2c,leD,ltD,Q2e,Q2f,Q2g,Q2h,Q2i,Q2j,Q2k,Q2l,Q2m,Q2n,Q2o,Q2p,Q2q,Q2r,clr,Q2s,Q2t,Q2u,Q2v,beq_self_eq_true,Q2w,Q2x,Q2y,Q2z,Q30,Q31,Q32,Q33,Q34,Q35,Q36,Q37,Q38,Q39,Q3a,Q3b,Q3c,Q3d,if_false,if_true,Q3e,Q3f,Q3g,Q3h,decide_eq_true_eq,Q3i,Q3j,Q3k,Q3l,Q3m,Q3n,Q3o,Q3p,reduceIte,reduceCtorEq,Q3q,Q3r,Q3s,Q3t,Q3u,Q3v,Q3w,Q3x,Q3y,Q3z,and_true,true_and,and_self,Q40,Q41,Q42,Q43,na2,na3,na4,na5,na6,na9,Q44,Q45,Q46,Q47,Q48,ne_eq,not_false_eq_true]
    by_cases q2 : pick.fmod 16 = 15
    · rw [show (pick.fmod 16 == 15) = true from by simpa using q2]
      simp only [Q0,Q1,Q2,Q3,Q4,Q5,Q6,Q7,Q8,Q9,Qa,Qb,Qc,Qd,Qe,Qf,Qg,Qh,Qi,Qj,Qk,Ql,Qm,Qn,Qo,Qp,Qq,Qr,Qs,Qt,Qu,Qv,Qw,Qx,Qy,Qz,Q10,Q11,Q12,Q13,Q14,Q15,Q16,Q17,Q18,Q19,Q1a,Q1b,Q1c,Q1d,Q1e,Q1f,Q1g,Q1h,Q1i,Q1i,Q1j,Q1k,Q1l,Q1m,Q1n,Q1o,Q1p,Q1q,Q1r,Q1s,rvV,Q1t,rvD,Q1u,Q1v,Q1w,Q1x,Q1y,Q1z,Q20,Q21,Q22,Q23,Q24,Q25,Q26,Q27,Q28,Q29,Q2a,Q2b,Q2c,leD,ltD,Q2e,Q2f,Q2g,Q2h,Q2i,Q2j,Q2k,Q2l,Q2m,Q2n,Q2o,Q2p,Q2q,Q2r,clr,Q2s,Q2t,Q2u,Q2v,beq_self_eq_true,Q2w,Q2x,Q2y,Q2z,Q30,Q31,Q32,Q33,Q34,Q35,Q36,Q37,Q38,Q39,Q3a,Q3b,Q3c,Q3d,if_false,if_true,Q3e,Q3f,Q3g,Q3h,decide_eq_true_eq,Q3i,Q3j,Q3k,Q3l,Q3m,Q3n,Q3o,Q3p,reduceIte,reduceCtorEq,Q3q,Q3r,Q3s,Q3t,Q3u,Q3v,Q3w,Q3x,Q3y,Q3z,and_true,true_and,and_self,Q40,Q41,Q42,Q43,na2,na3,na4,na5,na6,na9,Q44,Q45,Q46,Q47,Q48,ne_eq,not_false_eq_true]
      have hf := fm (pick.fdiv 16) 9 (by decide)
      rw [if_pos ⟨by omega, by show (pick.fdiv 16).fmod 9 ≤ 16777216; omega⟩]
      simp only [Q0,Q1,Q2,Q3,Q4,Q5,Q6,Q7,Q8,Q9,Qa,Qb,Qc,Qd,Qe,Qf,Qg,Qh,Qi,Qj,Qk,Ql,Qm,Qn,Qo,Qp,Qq,Qr,Qs,Qt,Qu,Qv,Qw,Qx,Qy,Qz,Q10,Q11,Q12,Q13,Q14,Q15,Q16,Q17,Q18,Q19,Q1a,Q1b,Q1c,Q1d,Q1e,Q1f,Q1g,Q1h,Q1i,Q1i,Q1j,Q1k,Q1l,Q1m,Q1n,Q1o,Q1p,Q1q,Q1r,Q1s,rvV,Q1t,rvD,Q1u,Q1v,Q1w,Q1x,Q1y,Q1z,Q20,Q21,Q22,Q23,Q24,Q25,Q26,Q27,Q28,Q29,Q2a,Q2b,Q2c,leD,ltD,Q2e,Q2f,Q2g,Q2h,Q2i,Q2j,Q2k,Q2l,Q2m,Q2n,Q2o,Q2p,Q2q,Q2r,clr,Q2s,Q2t,Q2u,Q2v,beq_self_eq_true,Q2w,Q2x,Q2y,Q2z,Q30,Q31,Q32,Q33,Q34,Q35,Q36,Q37,Q38,Q39,Q3a,Q3b,Q3c,Q3d,if_false,if_true,Q3e,Q3f,Q3g,Q3h,decide_eq_true_eq,Q3i,Q3j,Q3k,Q3l,Q3m,Q3n,Q3o,Q3p,reduceIte,reduceCtorEq,Q3q,Q3r,Q3s,Q3t,Q3u,Q3v,Q3w,Q3x,Q3y,Q3z,and_true,true_and,and_self,Q40,Q41,Q42,Q43,na2,na3,na4,na5,na6,na9,Q44,Q45,Q46,Q47,Q48,ne_eq,not_false_eq_true]
      obtain ⟨rs, h, hl, hs⟩ := v_loop n pick (.own (.list somes)) (List.range ((pick.fdiv 16).fmod 9).toNat) .no fun k hk => by have := List.mem_range.mp hk; omega
      rw [show rangeL 0 ((pick.fdiv 16).fmod 9).toNat = (List.range ((pick.fdiv 16).fmod 9).toNat).map fun (k : Nat) => PyData.int (0 + k) from rfl]
      rw [h]
      simp only [Q0,Q1,Q2,Q3,Q4,Q5,Q6,Q7,Q8,Q9,Qa,Qb,Qc,Qd,Qe,Qf,Qg,Qh,Qi,Qj,Qk,Ql,Qm,Qn,Qo,Qp,Qq,Qr,Qs,Qt,Qu,Qv,Qw,Qx,Qy,Qz,Q10,Q11,Q12,Q13,Q14,Q15,Q16,Q17,Q18,Q19,Q1a,Q1b,Q1c,Q1d,Q1e,Q1f,Q1g,Q1h,Q1i,Q1i,Q1j,Q1k,Q1l,Q1m,Q1n,Q1o,Q1p,Q1q,Q1r,Q1s,rvV,Q1t,rvD,Q1u,Q1v,Q1w,Q1x,Q1y,Q1z,Q20,Q21,Q22,Q23,Q24,Q25,Q26,Q27,Q28,Q29,Q2a,Q2b,Q2c,leD,ltD,Q2e,Q2f,Q2g,Q2h,Q2i,Q2j,Q2k,Q2l,Q2m,Q2n,Q2o,Q2p,Q2q,Q2r,clr,Q2s,Q2t,Q2u,Q2v,beq_self_eq_true,Q2w,Q2x,Q2y,Q2z,Q30,Q31,Q32,Q33,Q34,Q35,Q36,Q37,Q38,Q39,Q3a,Q3b,Q3c,Q3d,if_false,if_true,Q3e,Q3f,Q3g,Q3h,decide_eq_true_eq,Q3i,Q3j,Q3k,Q3l,Q3m,Q3n,Q3o,Q3p,reduceIte,reduceCtorEq,Q3q,Q3r,Q3s,Q3t,Q3u,Q3v,Q3w,Q3x,Q3y,Q3z,and_true,true_and,and_self,Q40,Q41,Q42,Q43,na2,na3,na4,na5,na6,na9,Q44,Q45,Q46,Q47,Q48,ne_eq,not_false_eq_true]
      exact ⟨_, rfl, .smalls hs (by rw [hl, List.length_range]; omega)⟩
    · rw [show (pick.fmod 16 == 15) = false from by simpa using q2]
      simp only [Q0,Q1,Q2,Q3,Q4,Q5,Q6,Q7,Q8,Q9,Qa,Qb,Qc,Qd,Qe,Qf,Qg,Qh,Qi,Qj,Qk,Ql,Qm,Qn,Qo,Qp,Qq,Qr,Qs,Qt,Qu,Qv,Qw,Qx,Qy,Qz,Q10,Q11,Q12,Q13,Q14,Q15,Q16,Q17,Q18,Q19,Q1a,Q1b,Q1c,Q1d,Q1e,Q1f,Q1g,Q1h,Q1i,Q1i,Q1j,Q1k,Q1l,Q1m,Q1n,Q1o,Q1p,Q1q,Q1r,Q1s,rvV,Q1t,rvD,Q1u,Q1v,Q1w,Q1x,Q1y,Q1z,Q20,Q21,Q22,Q23,Q24,Q25,Q26,Q27,Q28,Q29,Q2a,Q2b,Q2c,leD,ltD,Q2e,Q2f,Q2g,Q2h,Q2i,Q2j,Q2k,Q2l,Q2m,Q2n,Q2o,Q2p,Q2q,Q2r,clr,Q2s,Q2t,Q2u,Q2v,beq_self_eq_true,Q2w,Q2x,Q2y,Q2z,Q30,Q31,Q32,Q33,Q34,Q35,Q36,Q37,Q38,Q39,Q3a,Q3b,Q3c,Q3d,if_false,if_true,Q3e,Q3f,Q3g,Q3h,decide_eq_true_eq,Q3i,Q3j,Q3k,Q3l,Q3m,Q3n,Q3o,Q3p,reduceIte,reduceCtorEq,Q3q,Q3r,Q3s,Q3t,Q3u,Q3v,Q3w,Q3x,Q3y,Q3z,and_true,true_and,and_self,Q40,Q41,Q42,Q43,na2,na3,na4,na5,na6,na9,Q44,Q45,Q46,Q47,Q48,ne_eq,not_false_eq_true]
      obtain ⟨d, hd, hv⟩ := somes_get (pick.fmod 16) h16.1 (by omega)
      rw [hd]
      simp only [Q0,Q1,Q2,Q3,Q4,Q5,Q6,Q7,Q8,Q9,Qa,Qb,Qc,Qd,Qe,Qf,Qg,Qh,Qi,Qj,Qk,Ql,Qm,Qn,Qo,Qp,Qq,Qr,Qs,Qt,Qu,Qv,Qw,Qx,Qy,Qz,Q10,Q11,Q12,Q13,Q14,Q15,Q16,Q17,Q18,Q19,Q1a,Q1b,Q1c,Q1d,Q1e,Q1f,Q1g,Q1h,Q1i,Q1i,Q1j,Q1k,Q1l,Q1m,Q1n,Q1o,Q1p,Q1q,Q1r,Q1s,rvV,Q1t,rvD,Q1u,Q1v,Q1w,Q1x,Q1y,Q1z,Q20,Q21,Q22,Q23,Q24,Q25,Q26,Q27,Q28,Q29,Q2a,Q2b,Q2c,leD,ltD,Q2e,Q2f,Q2g,Q2h,Q2i,Q2j,Q2k,Q2l,Q2m,Q2n,Q2o,Q2p,Q2q,Q2r,clr,Q2s,Q2t,Q2u,Q2v,beq_self_eq_true,Q2w,Q2x,Q2y,Q2z,Q30,Q31,Q32,Q33,Q34,Q35,Q36,Q37,Q38,Q39,Q3a,Q3b,Q3c,Q3d,if_false,if_true,Q3e,Q3f,Q3g,Q3h,decide_eq_true_eq,Q3i,Q3j,Q3k,Q3l,Q3m,Q3n,Q3o,Q3p,reduceIte,reduceCtorEq,Q3q,Q3r,Q3s,Q3t,Q3u,Q3v,Q3w,Q3x,Q3y,Q3z,and_true,true_and,and_self,Q40,Q41,Q42,Q43,na2,na3,na4,na5,na6,na9,Q44,Q45,Q46,Q47,Q48,ne_eq,not_false_eq_true]
      exact ⟨d, rfl, hv⟩
end L02

end

section
set_option maxRecDepth 100000
set_option linter.unusedVariables false
set_option linter.unusedSimpArgs false
namespace L02
open PySem Mv
open _root_.Mv renaming runF_eq → Q0, finF_ret → Q1, finF_next → Q2, finF_err → Q3, finF_ite → Q4, bnd_none → Q5, bnd_ok → Q6, bnd_err → Q7, bnd_ite → Q8, bndN_ok → Q9, bndN_none → Qa, exS_raise → Qd, exS_try → Qe, tryO_ok → Qf, tryO_err → Qg, tryH_ok → Qh, ev_isx → Qi, ev_dsel → Qj, okO_some → Qk, okO_none → Ql, okV_fz → Qm, okV_own → Qn, okV_none → Qo, ev_lit → Qp, ev_gl → Qq, ev_var → Qr, ev_pl → Qs, ev_tup → Qt, ev_list → Qu, ev_op2 → Qv, ev_neg → Qw, ev_not → Qx, ev_cmp → Qy, ev_cmp2 → Qz, ev_and → Q10, ev_or → Q11, ev_ite → Q12, ev_idx → Q13, ev_slc → Q14, ev_call → Q15, ev_bi → Q16, ev_comp → Q17, compB_nil → Q18, evs_nil → Q19, evs_cons → Q1a, evAnd_one → Q1b, evAnd_cons → Q1c, evOr_one → Q1d, evOr_cons → Q1e, evConds_nil → Q1f, evConds_cons → Q1g, exS_asg → Q1h, Tgt.isTup → Q1i, exS_iff → Q1j, exS_ret → Q1k, exS_for → Q1l, forB_nil → Q1m, exSs_nil → Q1n, exSs_cons → Q1o, pinsOf → Q1p, Slot.lent → Q1q, Slot.live → Q1r, plLive → Q1s, rvVs → Q1t, rvDs → Q1u, b_len → Q1v, b_isi → Q1w, b_sum → Q1x, b_tupL → Q1y, b_tupT → Q1z, b_abs → Q20, b_int → Q21, b_listL → Q22, plGet → Q23, callO → Q24, argSlots → Q25, roots → Q26, copyOut → Q27, cmpD → Q28, e_int → Q29, e_bool → Q2a, e_list → Q2b, e_tuple → Q2c, outsOf → Q2e, o_addI → Q2f, o_addT → Q2g, o_addL → Q2h, o_sub → Q2i, o_mulI → Q2j, o_mulT → Q2k, o_mulL → Q2l, o_fdiv → Q2m, o_mod → Q2n, o_pow → Q2o, negD → Q2p, asgT → Q2q, asgs → Q2r, tgtVars → Q2s, idxD → Q2t, isiD → Q2u, i_bb → Q2v, truthD → Q2w, lenD → Q2x, iterD → Q2y, Bi.loops → Q31
open _root_.L02 renaming bndN_ite → Qb, bndN_err → Qc, P_g0 → Q2z, P_g1 → Q30, len_some → Q43, na10 → Q44, na12 → Q45, na16 → Q46, na30 → Q47, na100 → Q48
open _root_.Bool renaming and_false → Q32, false_and → Q33, false_eq_true → Q3d, not_true → Q3e, not_false → Q3f, not_eq_true → Q3j
open _root_.List renaming cons_append → Q34, nil_append → Q35, append_nil → Q36, replicate → Q37, getElem?_cons_zero → Q38, getElem?_cons_succ → Q39, set_cons_zero → Q3a, set_cons_succ → Q3b, contains_nil → Q3c, nodup_nil → Q3i
open _root_.Option renaming map_some → Q3g, map_none → Q3h
open _root_.Nat renaming reduceAdd → Q3k, reduceSub → Q3l, reduceMul → Q3m, reduceLT → Q3n, reduceLeDiff → Q3o, reduceEqDiff → Q3p, reducePow → Q40, le_refl → Q41
open _root_.Int renaming reduceAdd → Q3q, reduceNeg → Q3r, reducePow → Q3s, reduceSub → Q3t, reduceMul → Q3u, reduceLT → Q3v, reduceLE → Q3w, reduceEq → Q3x, reduceToNat → Q3y, natAbs_natCast → Q3z, le_refl → Q42

theorem sign_get (r : Int) (h0 : 0 ≤ r) (h1 : r < 2) : ∃ e : Int, idxOf [PyData.int 1, PyData.int (-1)] r = some (.int e) ∧ (e = 1 ∨ e = -1) := by
  have : r = 0 ∨ r = 1 := by omega
  rcases this with rfl | rfl
  · exact ⟨1, rfl, .inl rfl⟩
  · exact ⟨-1, rfl, .inr rfl⟩
theorem given_eq (n : Nat) (xs : List Int) (k : Int) (h0 : 0 ≤ k) : ∃ d, callF P (n+2) false 19 [.fz (.list (xs.map .int)), .fz (.int k)] = some (.ok (.fz d), []) ∧ Vl d := by
  obtain ⟨c, hc⟩ := cell n xs (2 + k) (by omega)
  obtain ⟨c1, h1⟩ := cell n xs 1 (by decide)
  rw [call_19, f_l_given]
  simp only [Q0,Q1,Q2,Q3,Q4,Q5,Q6,Q7,Q8,Q9,Qa,Qb,Qc,Qd,Qe,Qf,Qg,Qh,Qi,Qj,Qk,Ql,Qm,Qn,Qo,Qp,Qq,Qr,Qs,Qt,Qu,Qv,Qw,Qx,Qy,Qz,Q10,Q11,Q12,Q13,Q14,Q15,Q16,Q17,Q18,Q19,Q1a,Q1b,Q1c,Q1d,Q1e,Q1f,Q1g,Q1h,Q1i,Q1i,Q1j,Q1k,Q1l,Q1m,Q1n,Q1o,Q1p,Q1q,Q1r,Q1s,rvV,Q1t,rvD,Q1u,Q1v,Q1w,Q1x,Q1y,Q1z,Q20,Q21,Q22,Q23,Q24,Q25,Q26,Q27,Q28,Q29,Q2a,Q2b,Q2c,leD,ltD,Q2e,Q2f,Q2g,Q2h,Q2i,Q2j,Q2k,Q2l,Q2m,Q2n,Q2o,Q2p,Q2q,Q2r,clr,Q2s,Q2t,Q2u,Q2v,beq_self_eq_true,Q2w,Q2x,Q2y,Q2z,Q30,Q31,Q32,Q33,Q34,Q35,Q36,Q37,Q38,Q39,Q3a,Q3b,Q3c,Q3d,if_false,if_true,Q3e,Q3f,Q3g,Q3h,decide_eq_true_eq,Q3i,Q3j,Q3k,Q3l,Q3m,Q3n,Q3o,Q3p,reduceIte,reduceCtorEq,Q3q,Q3r,Q3s,Q3t,Q3u,Q3v,Q3w,Q3x,Q3y,Q3z,and_true,true_and,and_self,Q40,Q41,Q42,Q43,na2,na3,na4,na5,na6,na9,Q44,Q45,Q46,Q47,Q48,ne_eq,not_false_eq_true]
  simp only [hc]
  simp only [Q0,Q1,Q2,Q3,Q4,Q5,Q6,Q7,Q8,Q9,Qa,Qb,Qc,Qd,Qe,Qf,Qg,Qh,Qi,Qj,Qk,Ql,Qm,Qn,Qo,Qp,Qq,Qr,Qs,Qt,Qu,Qv,Qw,Qx,Qy,Qz,Q10,Q11,Q12,Q13,Q14,Q15,Q16,Q17,Q18,Q19,Q1a,Q1b,Q1c,Q1d,Q1e,Q1f,Q1g,Q1h,Q1i,Q1i,Q1j,Q1k,Q1l,Q1m,Q1n,Q1o,Q1p,Q1q,Q1r,Q1s,rvV,Q1t,rvD,Q1u,Q1v,Q1w,Q1x,Q1y,Q1z,Q20,Q21,Q22,Q23,Q24,Q25,Q26,Q27,Q28,Q29,Q2a,Q2b,Q2c,leD,ltD,Q2e,Q2f,Q2g,Q2h,Q2i,Q2j,Q2k,Q2l,Q2m,Q2n,Q2o,Q2p,Q2q,Q2r,clr,Q2s,Q2t,Q2u,Q2v,beq_self_eq_true,Q2w,Q2x,Q2y,Q2z,Q30,Q31,Q32,Q33,Q34,Q35,Q36,Q37,Q38,Q39,Q3a,Q3b,Q3c,Q3d,if_false,if_true,Q3e,Q3f,Q3g,Q3h,decide_eq_true_eq,Q3i,Q3j,Q3k,Q3l,Q3m,Q3n,Q3o,Q3p,reduceIte,reduceCtorEq,Q3q,Q3r,Q3s,Q3t,Q3u,Q3v,Q3w,Q3x,Q3y,Q3z,and_true,true_and,and_self,Q40,Q41,Q42,Q43,na2,na3,na4,na5,na6,na9,Q44,Q45,Q46,Q47,Q48,ne_eq,not_false_eq_true]
  simp only [h1]
  simp only [Q0,Q1,Q2,Q3,Q4,Q5,Q6,Q7,Q8,Q9,Qa,Qb,Qc,Qd,Qe,Qf,Qg,Qh,Qi,Qj,Qk,Ql,Qm,Qn,Qo,Qp,Qq,Qr,Qs,Qt,Qu,Qv,Qw,Qx,Qy,Qz,Q10,Q11,Q12,Q13,Q14,Q15,Q16,Q17,Q18,Q19,Q1a,Q1b,Q1c,Q1d,Q1e,Q1f,Q1g,Q1h,Q1i,Q1i,Q1j,Q1k,Q1l,Q1m,Q1n,Q1o,Q1p,Q1q,Q1r,Q1s,rvV,Q1t,rvD,Q1u,Q1v,Q1w,Q1x,Q1y,Q1z,Q20,Q21,Q22,Q23,Q24,Q25,Q26,Q27,Q28,Q29,Q2a,Q2b,Q2c,leD,ltD,Q2e,Q2f,Q2g,Q2h,Q2i,Q2j,Q2k,Q2l,Q2m,Q2n,Q2o,Q2p,Q2q,Q2r,clr,Q2s,Q2t,Q2u,Q2v,beq_self_eq_true,Q2w,Q2x,Q2y,Q2z,Q30,Q31,Q32,Q33,Q34,Q35,Q36,Q37,Q38,Q39,Q3a,Q3b,Q3c,Q3d,if_false,if_true,Q3e,Q3f,Q3g,Q3h,decide_eq_true_eq,Q3i,Q3j,Q3k,Q3l,Q3m,Q3n,Q3o,Q3p,reduceIte,reduceCtorEq,Q3q,Q3r,Q3s,Q3t,Q3u,Q3v,Q3w,Q3x,Q3y,Q3z,and_true,true_and,and_self,Q40,Q41,Q42,Q43,na2,na3,na4,na5,na6,na9,Q44,Q45,Q46,Q47,Q48,ne_eq,not_false_eq_true]
  by_cases q : c1.fmod 4 = 1
  · rw [show (c1.fmod 4 == 1) = true from by simpa using q]
    simp only [Q0,Q1,Q2,Q3,Q4,Q5,Q6,Q7,Q8,Q9,Qa,Qb,Qc,Qd,Qe,Qf,Qg,Qh,Qi,Qj,Qk,Ql,Qm,Qn,Qo,Qp,Qq,Qr,Qs,Qt,Qu,Qv,Qw,Qx,Qy,Qz,Q10,Q11,Q12,Q13,Q14,Q15,Q16,Q17,Q18,Q19,Q1a,Q1b,Q1c,Q1d,Q1e,Q1f,Q1g,Q1h,Q1i,Q1i,Q1j,Q1k,Q1l,Q1m,Q1n,Q1o,Q1p,Q1q,Q1r,Q1s,rvV,Q1t,rvD,Q1u,Q1v,Q1w,Q1x,Q1y,Q1z,Q20,Q21,Q22,Q23,Q24,Q25,Q26,Q27,Q28,Q29,Q2a,Q2b,Q2c,leD,ltD,Q2e,Q2f,Q2g,Q2h,Q2i,Q2j,Q2k,Q2l,Q2m,Q2n,Q2o,Q2p,Q2q,Q2r,clr,Q2s,Q2t,Q2u,Q2v,beq_self_eq_true,Q2w,Q2x,Q2y,Q2z,Q30,Q31,Q32,Q33,Q34,Q35,Q36,Q37,Q38,Q39,Q3a,Q3b,Q3c,Q3d,if_false,if_true,Q3e,Q3f,Q3g,Q3h,decide_eq_true_eq,Q3i,Q3j,Q3k,Q3l,Q3m,Q3n,Q3o,Q3p,reduceIte,reduceCtorEq,Q3q,Q3r,Q3s,Q3t,Q3u,Q3v,Q3w,Q3x,Q3y,Q3z,and_true,true_and,and_self,Q40,Q41,Q42,Q43,na2,na3,na4,na5,na6,na9,Q44,Q45,Q46,Q47,Q48,ne_eq,not_false_eq_true]
    have hf := fm (c.fdiv 9) 100 (by decide)
    have hg := fm c 10 (by decide)
    rw [if_pos ⟨by omega, by omega, by simp only [List.length_cons, List.length_nil, Sz]; omega⟩]
    simp only [Q0,Q1,Q2,Q3,Q4,Q5,Q6,Q7,Q8,Q9,Qa,Qb,Qc,Qd,Qe,Qf,Qg,Qh,Qi,Qj,Qk,Ql,Qm,Qn,Qo,Qp,Qq,Qr,Qs,Qt,Qu,Qv,Qw,Qx,Qy,Qz,Q10,Q11,Q12,Q13,Q14,Q15,Q16,Q17,Q18,Q19,Q1a,Q1b,Q1c,Q1d,Q1e,Q1f,Q1g,Q1h,Q1i,Q1i,Q1j,Q1k,Q1l,Q1m,Q1n,Q1o,Q1p,Q1q,Q1r,Q1s,rvV,Q1t,rvD,Q1u,Q1v,Q1w,Q1x,Q1y,Q1z,Q20,Q21,Q22,Q23,Q24,Q25,Q26,Q27,Q28,Q29,Q2a,Q2b,Q2c,leD,ltD,Q2e,Q2f,Q2g,Q2h,Q2i,Q2j,Q2k,Q2l,Q2m,Q2n,Q2o,Q2p,Q2q,Q2r,clr,Q2s,Q2t,Q2u,Q2v,beq_self_eq_true,Q2w,Q2x,Q2y,Q2z,Q30,Q31,Q32,Q33,Q34,Q35,Q36,Q37,Q38,Q39,Q3a,Q3b,Q3c,Q3d,if_false,if_true,Q3e,Q3f,Q3g,Q3h,decide_eq_true_eq,Q3i,Q3j,Q3k,Q3l,Q3m,Q3n,Q3o,Q3p,reduceIte,reduceCtorEq,Q3q,Q3r,Q3s,Q3t,Q3u,Q3v,Q3w,Q3x,Q3y,Q3z,and_true,true_and,and_self,Q40,Q41,Q42,Q43,na2,na3,na4,na5,na6,na9,Q44,Q45,Q46,Q47,Q48,ne_eq,not_false_eq_true]
    refine ⟨_, rfl, .smalls (fun d hd => ?_) ?_⟩
    · unfold rep at hd
      obtain ⟨l, hl, hm⟩ := List.mem_flatten.mp hd
      rw [List.eq_of_mem_replicate hl, List.mem_singleton] at hm
      exact ⟨_, hm, hf.1, by omega⟩
    · unfold rep
      rw [List.length_flatten]
      simp
      omega
  · rw [show (c1.fmod 4 == 1) = false from by simpa using q]
    simp only [Q0,Q1,Q2,Q3,Q4,Q5,Q6,Q7,Q8,Q9,Qa,Qb,Qc,Qd,Qe,Qf,Qg,Qh,Qi,Qj,Qk,Ql,Qm,Qn,Qo,Qp,Qq,Qr,Qs,Qt,Qu,Qv,Qw,Qx,Qy,Qz,Q10,Q11,Q12,Q13,Q14,Q15,Q16,Q17,Q18,Q19,Q1a,Q1b,Q1c,Q1d,Q1e,Q1f,Q1g,Q1h,Q1i,Q1i,Q1j,Q1k,Q1l,Q1m,Q1n,Q1o,Q1p,Q1q,Q1r,Q1s,rvV,Q1t,rvD,Q1u,Q1v,Q1w,Q1x,Q1y,Q1z,Q20,Q21,Q22,Q23,Q24,Q25,Q26,Q27,Q28,Q29,Q2a,Q2b,Q2c,leD,ltD,Q2e,Q2f,Q2g,Q2h,Q2i,Q2j,Q2k,Q2l,Q2m,Q2n,Q2o,Q2p,Q2q,Q2r,clr,Q2s,Q2t,Q2u,Q2v,beq_self_eq_true,Q2w,Q2x,Q2y,Q2z,Q30,Q31,Q32,Q33,Q34,Q35,Q36,Q37,Q38,Q39,Q3a,Q3b,Q3c,Q3d,if_false,if_true,Q3e,Q3f,Q3g,Q3h,decide_eq_true_eq,Q3i,Q3j,Q3k,Q3l,Q3m,Q3n,Q3o,Q3p,reduceIte,reduceCtorEq,Q3q,Q3r,Q3s,Q3t,Q3u,Q3v,Q3w,Q3x,Q3y,Q3z,and_true,true_and,and_self,Q40,Q41,Q42,Q43,na2,na3,na4,na5,na6,na9,Q44,Q45,Q46,Q47,Q48,ne_eq,not_false_eq_true]
    simp only [h1]
    simp only [Q0,Q1,Q2,Q3,Q4,Q5,Q6,Q7,Q8,Q9,Qa,Qb,Qc,Qd,Qe,Qf,Qg,Qh,Qi,Qj,Qk,Ql,Qm,Qn,Qo,Qp,Qq,Qr,Qs,Qt,Qu,Qv,Qw,Qx,Qy,Qz,Q10,Q11,Q12,Q13,Q14,Q15,Q16,Q17,Q18,Q19,Q1a,Q1b,Q1c,Q1d,Q1e,Q1f,Q1g,Q1h,Q1i,Q1i,Q1j,Q1k,Q1l,Q1m,Q1n,Q1o,Q1p,Q1q,Q1r,Q1s,rvV,Q1t,rvD,Q1u,Q1v,Q1w,Q1x,Q1y,Q1z,Q20,Q21,Q22,Q23,Q24,Q25,Q26,Q27,Q28,Q29,Q2a,Q2b,Q2c,leD,ltD,Q2e,Q2f,Q2g,Q2h,Q2i,Q2j,Q2k,Q2l,Q2m,Q2n,Q2o,Q2p,Q2q,Q2r,clr,Q2s,Q2t,Q2u,Q2v,beq_self_eq_true,Q2w,Q2x,Q2y,Q2z,Q30,Q31,Q32,Q33,Q34,Q35,Q36,Q37,Q38,Q39,Q3a,Q3b,Q3c,Q3d,if_false,if_true,Q3e,Q3f,Q3g,Q3h,decide_eq_true_eq,Q3i,Q3j,Q3k,Q3l,Q3m,Q3n,Q3o,Q3p,reduceIte,reduceCtorEq,Q3q,Q3r,Q3s,Q3t,Q3u,Q3v,Q3w,Q3x,Q3y,Q3z,and_true,true_and,and_self,Q40,Q41,Q42,Q43,na2,na3,na4,na5,na6,na9,Q44,Q45,Q46,Q47,Q48,ne_eq,not_false_eq_true]
    have key : ∃ d, finF [.fz (.list (xs.map .int)), .fz (.int k)] (exSs ⟨P.glob, callF P (n+1), [], false⟩ [.iff (.and [(.cmp .eq (.op2 .mod (.call 8 [(.var 0), (.lit (.int 1))]) (.lit (.int 4))) (.lit (.int 2))), (.cmp .gt (.op2 .mod (.var 2) (.lit (.int 3))) (.lit (.int 0)))]) [.ret (.op2 .mul (.op2 .sub (.op2 .add (.op2 .pow (.lit (.int 10)) (.lit (.int 9))) (.op2 .mod (.op2 .fdiv (.var 2) (.lit (.int 6))) (.lit (.int 5)))) (.lit (.int 2))) (.idx (.list [(.lit (.int 1)), (.neg (.lit (.int 1)))]) (.op2 .mod (.op2 .fdiv (.var 2) (.lit (.int 3))) (.lit (.int 2)))))] [],
        .ret (.call 10 [(.var 2)])] [.fz (.list (xs.map .int)), .fz (.int k), .fz (.int c)]) = some (.ok (.fz d), []) ∧ Vl d := by
      simp only [Q0,Q1,Q2,Q3,Q4,Q5,Q6,Q7,Q8,Q9,Qa,Qb,Qc,Qd,Qe,Qf,Qg,Qh,Qi,Qj,Qk,Ql,Qm,Qn,Qo,Qp,Qq,Qr,Qs,Qt,Qu,Qv,Qw,Qx,Qy,Qz,Q10,Q11,Q12,Q13,Q14,Q15,Q16,Q17,Q18,Q19,Q1a,Q1b,Q1c,Q1d,Q1e,Q1f,Q1g,Q1h,Q1i,Q1i,Q1j,Q1k,Q1l,Q1m,Q1n,Q1o,Q1p,Q1q,Q1r,Q1s,rvV,Q1t,rvD,Q1u,Q1v,Q1w,Q1x,Q1y,Q1z,Q20,Q21,Q22,Q23,Q24,Q25,Q26,Q27,Q28,Q29,Q2a,Q2b,Q2c,leD,ltD,Q2e,Q2f,Q2g,Q2h,Q2i,Q2j,Q2k,Q2l,Q2m,Q2n,Q2o,Q2p,Q2q,Q2r,clr,Q2s,Q2t,Q2u,Q2v,beq_self_eq_true,Q2w,Q2x,Q2y,Q2z,Q30,Q31,Q32,Q33,Q34,Q35,Q36,Q37,Q38,Q39,Q3a,Q3b,Q3c,Q3d,if_false,if_true,Q3e,Q3f,Q3g,Q3h,decide_eq_true_eq,Q3i,Q3j,Q3k,Q3l,Q3m,Q3n,Q3o,Q3p,reduceIte,reduceCtorEq,Q3q,Q3r,Q3s,Q3t,Q3u,Q3v,Q3w,Q3x,Q3y,Q3z,and_true,true_and,and_self,Q40,Q41,Q42,Q43,na2,na3,na4,na5,na6,na9,Q44,Q45,Q46,Q47,Q48,ne_eq,not_false_eq_true]
      simp only [h1]
      simp only [Q0,Q1,Q2,Q3,Q4,Q5,Q6,Q7,Q8,Q9,Qa,Qb,Qc,Qd,Qe,Qf,Qg,Qh,Qi,Qj,Qk,Ql,Qm,Qn,Qo,Qp,Qq,Qr,Qs,Qt,Qu,Qv,Qw,Qx,Qy,Qz,Q10,Q11,Q12,Q13,Q14,Q15,Q16,Q17,Q18,Q19,Q1a,Q1b,Q1c,Q1d,Q1e,Q1f,Q1g,Q1h,Q1i,Q1i,Q1j,Q1k,Q1l,Q1m,Q1n,Q1o,Q1p,Q1q,Q1r,Q1s,rvV,Q1t,rvD,Q1u,Q1v,Q1w,Q1x,Q1y,Q1z,Q20,Q21,Q22,Q23,Q24,Q25,Q26,Q27,Q28,Q29,Q2a,Q2b,Q2c,leD,ltD,Q2e,Q2f,Q2g,Q2h,Q2i,Q2j,Q2k,Q2l,Q2m,Q2n,Q2o,Q2p,Q2q,Q2r,clr,Q2s,Q2t,Q2u,Q2v,beq_self_eq_true,Q2w,Q2x,Q2y,Q2z,Q30,Q31,Q32,Q33,Q34,Q35,Q36,Q37,Q38,Q39,Q3a,Q3b,Q3c,Q3d,if_false,if_true,Q3e,Q3f,Q3g,Q3h,decide_eq_true_eq,Q3i,Q3j,Q3k,Q3l,Q3m,Q3n,Q3o,Q3p,reduceIte,reduceCtorEq,Q3q,Q3r,Q3s,Q3t,Q3u,Q3v,Q3w,Q3x,Q3y,Q3z,and_true,true_and,and_self,Q40,Q41,Q42,Q43,na2,na3,na4,na5,na6,na9,Q44,Q45,Q46,Q47,Q48,ne_eq,not_false_eq_true]
      obtain ⟨dv, hv, hvl⟩ := value_eq n c
      by_cases q2 : c1.fmod 4 = 2
      · rw [show (c1.fmod 4 == 2) = true from by simpa using q2]
        simp only [Q0,Q1,Q2,Q3,Q4,Q5,Q6,Q7,Q8,Q9,Qa,Qb,Qc,Qd,Qe,Qf,Qg,Qh,Qi,Qj,Qk,Ql,Qm,Qn,Qo,Qp,Qq,Qr,Qs,Qt,Qu,Qv,Qw,Qx,Qy,Qz,Q10,Q11,Q12,Q13,Q14,Q15,Q16,Q17,Q18,Q19,Q1a,Q1b,Q1c,Q1d,Q1e,Q1f,Q1g,Q1h,Q1i,Q1i,Q1j,Q1k,Q1l,Q1m,Q1n,Q1o,Q1p,Q1q,Q1r,Q1s,rvV,Q1t,rvD,Q1u,Q1v,Q1w,Q1x,Q1y,Q1z,Q20,Q21,Q22,Q23,Q24,Q25,Q26,Q27,Q28,Q29,Q2a,Q2b,Q2c,leD,ltD,Q2e,Q2f,Q2g,Q2h,Q2i,Q2j,Q2k,Q2l,Q2m,Q2n,Q2o,Q2p,Q2q,Q2r,clr,Q2s,Q2t,Q2u,Q2v,beq_self_eq_true,Q2w,Q2x,Q2y,Q2z,Q30,Q31,Q32,Q33,Q34,Q35,Q36,Q37,Q38,Q39,Q3a,Q3b,Q3c,Q3d,if_false,if_true,Q3e,Q3f,Q3g,Q3h,decide_eq_true_eq,Q3i,Q3j,Q3k,Q3l,Q3m,Q3n,Q3o,Q3p,reduceIte,reduceCtorEq,Q3q,Q3r,Q3s,Q3t,Q3u,Q3v,Q3w,Q3x,Q3y,Q3z,and_true,true_and,and_self,Q40,Q41,Q42,Q43,na2,na3,na4,na5,na6,na9,Q44,Q45,Q46,Q47,Q48,ne_eq,not_false_eq_true]
        by_cases q3 : 0 < c.fmod 3
        · rw [if_pos q3]
          have hf := fm (c.fdiv 6) 5 (by decide)
          obtain ⟨e, he, hs⟩ := sign_get ((c.fdiv 3).fmod 2) (fm (c.fdiv 3) 2 (by decide)).1 (fm (c.fdiv 3) 2 (by decide)).2
          rw [he]
          simp only [Q0,Q1,Q2,Q3,Q4,Q5,Q6,Q7,Q8,Q9,Qa,Qb,Qc,Qd,Qe,Qf,Qg,Qh,Qi,Qj,Qk,Ql,Qm,Qn,Qo,Qp,Qq,Qr,Qs,Qt,Qu,Qv,Qw,Qx,Qy,Qz,Q10,Q11,Q12,Q13,Q14,Q15,Q16,Q17,Q18,Q19,Q1a,Q1b,Q1c,Q1d,Q1e,Q1f,Q1g,Q1h,Q1i,Q1i,Q1j,Q1k,Q1l,Q1m,Q1n,Q1o,Q1p,Q1q,Q1r,Q1s,rvV,Q1t,rvD,Q1u,Q1v,Q1w,Q1x,Q1y,Q1z,Q20,Q21,Q22,Q23,Q24,Q25,Q26,Q27,Q28,Q29,Q2a,Q2b,Q2c,leD,ltD,Q2e,Q2f,Q2g,Q2h,Q2i,Q2j,Q2k,Q2l,Q2m,Q2n,Q2o,Q2p,Q2q,Q2r,clr,Q2s,Q2t,Q2u,Q2v,beq_self_eq_true,Q2w,Q2x,Q2y,Q2z,Q30,Q31,Q32,Q33,Q34,Q35,Q36,Q37,Q38,Q39,Q3a,Q3b,Q3c,Q3d,if_false,if_true,Q3e,Q3f,Q3g,Q3h,decide_eq_true_eq,Q3i,Q3j,Q3k,Q3l,Q3m,Q3n,Q3o,Q3p,reduceIte,reduceCtorEq,Q3q,Q3r,Q3s,Q3t,Q3u,Q3v,Q3w,Q3x,Q3y,Q3z,and_true,true_and,and_self,Q40,Q41,Q42,Q43,na2,na3,na4,na5,na6,na9,Q44,Q45,Q46,Q47,Q48,ne_eq,not_false_eq_true]
          rw [mulI_ok (by omega) (by omega)]
          simp only [Q0,Q1,Q2,Q3,Q4,Q5,Q6,Q7,Q8,Q9,Qa,Qb,Qc,Qd,Qe,Qf,Qg,Qh,Qi,Qj,Qk,Ql,Qm,Qn,Qo,Qp,Qq,Qr,Qs,Qt,Qu,Qv,Qw,Qx,Qy,Qz,Q10,Q11,Q12,Q13,Q14,Q15,Q16,Q17,Q18,Q19,Q1a,Q1b,Q1c,Q1d,Q1e,Q1f,Q1g,Q1h,Q1i,Q1i,Q1j,Q1k,Q1l,Q1m,Q1n,Q1o,Q1p,Q1q,Q1r,Q1s,rvV,Q1t,rvD,Q1u,Q1v,Q1w,Q1x,Q1y,Q1z,Q20,Q21,Q22,Q23,Q24,Q25,Q26,Q27,Q28,Q29,Q2a,Q2b,Q2c,leD,ltD,Q2e,Q2f,Q2g,Q2h,Q2i,Q2j,Q2k,Q2l,Q2m,Q2n,Q2o,Q2p,Q2q,Q2r,clr,Q2s,Q2t,Q2u,Q2v,beq_self_eq_true,Q2w,Q2x,Q2y,Q2z,Q30,Q31,Q32,Q33,Q34,Q35,Q36,Q37,Q38,Q39,Q3a,Q3b,Q3c,Q3d,if_false,if_true,Q3e,Q3f,Q3g,Q3h,decide_eq_true_eq,Q3i,Q3j,Q3k,Q3l,Q3m,Q3n,Q3o,Q3p,reduceIte,reduceCtorEq,Q3q,Q3r,Q3s,Q3t,Q3u,Q3v,Q3w,Q3x,Q3y,Q3z,and_true,true_and,and_self,Q40,Q41,Q42,Q43,na2,na3,na4,na5,na6,na9,Q44,Q45,Q46,Q47,Q48,ne_eq,not_false_eq_true]
          refine ⟨_, rfl, ?_⟩
          rcases hs with rfl | rfl
          · exact .int (by omega) (by omega)
          · exact .int (by omega) (by omega)
        · rw [if_neg q3]
          simp only [hv]
          simp only [Q0,Q1,Q2,Q3,Q4,Q5,Q6,Q7,Q8,Q9,Qa,Qb,Qc,Qd,Qe,Qf,Qg,Qh,Qi,Qj,Qk,Ql,Qm,Qn,Qo,Qp,Qq,Qr,Qs,Qt,Qu,Qv,Qw,Qx,Qy,Qz,Q10,Q11,Q12,Q13,Q14,Q15,Q16,Q17,Q18,Q19,Q1a,Q1b,Q1c,Q1d,Q1e,Q1f,Q1g,Q1h,Q1i,Q1i,Q1j,Q1k,Q1l,Q1m,Q1n,Q1o,Q1p,Q1q,Q1r,Q1s,rvV,Q1t,rvD,Q1u,Q1v,Q1w,Q1x,Q1y,Q1z,Q20,Q21,Q22,Q23,Q24,Q25,Q26,Q27,Q28,Q29,Q2a,Q2b,Q2c,leD,ltD,Q2e,Q2f,Q2g,Q2h,Q2i,Q2j,Q2k,Q2l,Q2m,Q2n,Q2o,Q2p,Q2q,Q2r,clr,Q2s,Q2t,Q2u,Q2v,beq_self_eq_true,Q2w,Q2x,Q2y,Q2z,Q30,Q31,Q32,Q33,Q34,Q35,Q36,Q37,Q38,Q39,Q3a,Q3b,Q3c,Q3d,if_false,if_true,Q3e,Q3f,Q3g,Q3h,decide_eq_true_eq,Q3i,Q3j,Q3k,Q3l,Q3m,Q3n,Q3o,Q3p,reduceIte,reduceCtorEq,Q3q,Q3r,Q3s,Q3t,Q3u,Q3v,Q3w,Q3x,Q3y,Q3z,and_true,true_and,and_self,Q40,Q41,Q42,Q43,na2,na3,na4,na5,na6,na9,Q44,Q45,Q46,Q47,Q48,ne_eq,not_false_eq_true]
          exact ⟨dv, rfl, hvl⟩
      · rw [show (c1.fmod 4 == 2) = false from by simpa using q2]
        simp only [Q0,Q1,Q2,Q3,Q4,Q5,Q6,Q7,Q8,Q9,Qa,Qb,Qc,Qd,Qe,Qf,Qg,Qh,Qi,Qj,Qk,Ql,Qm,Qn,Qo,Qp,Qq,Qr,Qs,Qt,Qu,Qv,Qw,Qx,Qy,Qz,Q10,Q11,Q12,Q13,Q14,Q15,Q16,Q17,Q18,Q19,Q1a,Q1b,Q1c,Q1d,Q1e,Q1f,Q1g,Q1h,Q1i,Q1i,Q1j,Q1k,Q1l,Q1m,Q1n,Q1o,Q1p,Q1q,Q1r,Q1s,rvV,Q1t,rvD,Q1u,Q1v,Q1w,Q1x,Q1y,Q1z,Q20,Q21,Q22,Q23,Q24,Q25,Q26,Q27,Q28,Q29,Q2a,Q2b,Q2c,leD,ltD,Q2e,Q2f,Q2g,Q2h,Q2i,Q2j,Q2k,Q2l,Q2m,Q2n,Q2o,Q2p,Q2q,Q2r,clr,Q2s,Q2t,Q2u,Q2v,beq_self_eq_true,Q2w,Q2x,Q2y,Q2z,Q30,Q31,Q32,Q33,Q34,Q35,Q36,Q37,Q38,Q39,Q3a,Q3b,Q3c,Q3d,if_false,if_true,Q3e,Q3f,Q3g,Q3h,decide_eq_true_eq,Q3i,Q3j,Q3k,Q3l,Q3m,Q3n,Q3o,Q3p,reduceIte,reduceCtorEq,Q3q,Q3r,Q3s,Q3t,Q3u,Q3v,Q3w,Q3x,Q3y,Q3z,and_true,true_and,and_self,Q40,Q41,Q42,Q43,na2,na3,na4,na5,na6,na9,Q44,Q45,Q46,Q47,Q48,ne_eq,not_false_eq_true]
        simp only [hv]
        simp only [Q0,Q1,Q2,Q3,Q4,Q5,Q6,Q7,Q8,Q9,Qa,Qb,Qc,Qd,Qe,Qf,Qg,Qh,Qi,Qj,Qk,Ql,Qm,Qn,Qo,Qp,Qq,Qr,Qs,Qt,Qu,Qv,Qw,Qx,Qy,Qz,Q10,Q11,Q12,Q13,Q14,Q15,Q16,Q17,Q18,Q19,Q1a,Q1b,Q1c,Q1d,Q1e,Q1f,Q1g,Q1h,Q1i,Q1i,Q1j,Q1k,Q1l,Q1m,Q1n,Q1o,Q1p,Q1q,Q1r,Q1s,rvV,Q1t,rvD,Q1u,Q1v,Q1w,Q1x,Q1y,Q1z,Q20,Q21,Q22,Q23,Q24,Q25,Q26,Q27,Q28,Q29,Q2a,Q2b,Q2c,leD,ltD,Q2e,Q2f,Q2g,Q2h,Q2i,Q2j,Q2k,Q2l,Q2m,Q2n,Q2o,Q2p,Q2q,Q2r,clr,Q2s,Q2t,Q2u,Q2v,beq_self_eq_true,Q2w,Q2x,Q2y,Q2z,Q30,Q31,Q32,Q33,Q34,Q35,Q36,Q37,Q38,Q39,Q3a,Q3b,Q3c,Q3d,if_false,if_true,Q3e,Q3f,Q3g,Q3h,decide_eq_true_eq,Q3i,Q3j,Q3k,Q3l,Q3m,Q3n,Q3o,Q3p,reduceIte,reduceCtorEq,Q3q,Q3r,Q3s,Q3t,Q3u,Q3v,Q3w,Q3x,Q3y,Q3z,and_true,true_and,and_self,Q40,Q41,Q42,Q43,na2,na3,na4,na5,na6,na9,Q44,Q45,Q46,Q47,Q48,ne_eq,not_false_eq_true]
        exact ⟨dv, rfl, hvl⟩
    by_cases q2 : c1.fmod 4 = 3
    · rw [show (c1.fmod 4 == 3) = true from by simpa using q2]
      simp only [Q0,Q1,Q2,Q3,Q4,Q5,Q6,Q7,Q8,Q9,Qa,Qb,Qc,Qd,Qe,Qf,Qg,Qh,Qi,Qj,Qk,Ql,Qm,Qn,Qo,Qp,Qq,Qr,Qs,Qt,Qu,Qv,Qw,Qx,Qy,Qz,Q10,Q11,Q12,Q13,Q14,Q15,Q16,Q17,Q18,Q19,Q1a,Q1b,Q1c,Q1d,Q1e,Q1f,Q1g,Q1h,Q1i,Q1i,Q1j,Q1k,Q1l,Q1m,Q1n,Q1o,Q1p,Q1q,Q1r,Q1s,rvV,Q1t,rvD,Q1u,Q1v,Q1w,Q1x,Q1y,Q1z,Q20,Q21,Q22,Q23,Q24,Q25,Q26,Q27,Q28,Q29,Q2a,Q2b,Q2c,leD,ltD,Q2e,Q2f,Q2g,Q2h,Q2i,Q2j,Q2k,Q2l,Q2m,Q2n,Q2o,Q2p,Q2q,Q2r,clr,Q2s,Q2t,Q2u,Q2v,beq_self_eq_true,Q2w,Q2x,Q2y,Q2z,Q30,Q31,Q32,Q33,Q34,Q35,Q36,Q37,Q38,Q39,Q3a,Q3b,Q3c,Q3d,if_false,if_true,Q3e,Q3f,Q3g,Q3h,decide_eq_true_eq,Q3i,Q3j,Q3k,Q3l,Q3m,Q3n,Q3o,Q3p,reduceIte,reduceCtorEq,Q3q,Q3r,Q3s,Q3t,Q3u,Q3v,Q3w,Q3x,Q3y,Q3z,and_true,true_and,and_self,Q40,Q41,Q42,Q43,na2,na3,na4,na5,na6,na9,Q44,Q45,Q46,Q47,Q48,ne_eq,not_false_eq_true]
      by_cases q3 : 0 < c.fmod 5
      · rw [if_pos q3]
        have ha := fm (c.fdiv 10) 3 (by decide)
        have hb := fm (c.fdiv 30) 5 (by decide)
        obtain ⟨e, he, hs⟩ := sign_get ((c.fdiv 5).fmod 2) (fm (c.fdiv 5) 2 (by decide)).1 (fm (c.fdiv 5) 2 (by decide)).2
        rw [mulI_ok (by omega) (by omega)]
        simp only [Q0,Q1,Q2,Q3,Q4,Q5,Q6,Q7,Q8,Q9,Qa,Qb,Qc,Qd,Qe,Qf,Qg,Qh,Qi,Qj,Qk,Ql,Qm,Qn,Qo,Qp,Qq,Qr,Qs,Qt,Qu,Qv,Qw,Qx,Qy,Qz,Q10,Q11,Q12,Q13,Q14,Q15,Q16,Q17,Q18,Q19,Q1a,Q1b,Q1c,Q1d,Q1e,Q1f,Q1g,Q1h,Q1i,Q1i,Q1j,Q1k,Q1l,Q1m,Q1n,Q1o,Q1p,Q1q,Q1r,Q1s,rvV,Q1t,rvD,Q1u,Q1v,Q1w,Q1x,Q1y,Q1z,Q20,Q21,Q22,Q23,Q24,Q25,Q26,Q27,Q28,Q29,Q2a,Q2b,Q2c,leD,ltD,Q2e,Q2f,Q2g,Q2h,Q2i,Q2j,Q2k,Q2l,Q2m,Q2n,Q2o,Q2p,Q2q,Q2r,clr,Q2s,Q2t,Q2u,Q2v,beq_self_eq_true,Q2w,Q2x,Q2y,Q2z,Q30,Q31,Q32,Q33,Q34,Q35,Q36,Q37,Q38,Q39,Q3a,Q3b,Q3c,Q3d,if_false,if_true,Q3e,Q3f,Q3g,Q3h,decide_eq_true_eq,Q3i,Q3j,Q3k,Q3l,Q3m,Q3n,Q3o,Q3p,reduceIte,reduceCtorEq,Q3q,Q3r,Q3s,Q3t,Q3u,Q3v,Q3w,Q3x,Q3y,Q3z,and_true,true_and,and_self,Q40,Q41,Q42,Q43,na2,na3,na4,na5,na6,na9,Q44,Q45,Q46,Q47,Q48,ne_eq,not_false_eq_true]
        rw [he]
        simp only [Q0,Q1,Q2,Q3,Q4,Q5,Q6,Q7,Q8,Q9,Qa,Qb,Qc,Qd,Qe,Qf,Qg,Qh,Qi,Qj,Qk,Ql,Qm,Qn,Qo,Qp,Qq,Qr,Qs,Qt,Qu,Qv,Qw,Qx,Qy,Qz,Q10,Q11,Q12,Q13,Q14,Q15,Q16,Q17,Q18,Q19,Q1a,Q1b,Q1c,Q1d,Q1e,Q1f,Q1g,Q1h,Q1i,Q1i,Q1j,Q1k,Q1l,Q1m,Q1n,Q1o,Q1p,Q1q,Q1r,Q1s,rvV,Q1t,rvD,Q1u,Q1v,Q1w,Q1x,Q1y,Q1z,Q20,Q21,Q22,Q23,Q24,Q25,Q26,Q27,Q28,Q29,Q2a,Q2b,Q2c,leD,ltD,Q2e,Q2f,Q2g,Q2h,Q2i,Q2j,Q2k,Q2l,Q2m,Q2n,Q2o,Q2p,Q2q,Q2r,clr,Q2s,Q2t,Q2u,Q2v,beq_self_eq_true,Q2w,Q2x,Q2y,Q2z,Q30,Q31,Q32,Q33,Q34,Q35,Q36,Q37,Q38,Q39,Q3a,Q3b,Q3c,Q3d,if_false,if_true,Q3e,Q3f,Q3g,Q3h,decide_eq_true_eq,Q3i,Q3j,Q3k,Q3l,Q3m,Q3n,Q3o,Q3p,reduceIte,reduceCtorEq,Q3q,Q3r,Q3s,Q3t,Q3u,Q3v,Q3w,Q3x,Q3y,Q3z,and_true,true_and,and_self,Q40,Q41,Q42,Q43,na2,na3,na4,na5,na6,na9,Q44,Q45,Q46,Q47,Q48,ne_eq,not_false_eq_true]
        have hm : 0 ≤ (c.fdiv 10).fmod 3 * (c.fdiv 30).fmod 5 ∧ (c.fdiv 10).fmod 3 * (c.fdiv 30).fmod 5 ≤ 8 := by
          generalize (c.fdiv 10).fmod 3 = u at ha
          generalize (c.fdiv 30).fmod 5 = v at hb
          have hu : u = 0 ∨ u = 1 ∨ u = 2 := by omega
          rcases hu with rfl | rfl | rfl <;> omega
        generalize (c.fdiv 10).fmod 3 * (c.fdiv 30).fmod 5 = p at hm
        rw [mulI_ok (by omega) (by omega)]
        simp only [Q0,Q1,Q2,Q3,Q4,Q5,Q6,Q7,Q8,Q9,Qa,Qb,Qc,Qd,Qe,Qf,Qg,Qh,Qi,Qj,Qk,Ql,Qm,Qn,Qo,Qp,Qq,Qr,Qs,Qt,Qu,Qv,Qw,Qx,Qy,Qz,Q10,Q11,Q12,Q13,Q14,Q15,Q16,Q17,Q18,Q19,Q1a,Q1b,Q1c,Q1d,Q1e,Q1f,Q1g,Q1h,Q1i,Q1i,Q1j,Q1k,Q1l,Q1m,Q1n,Q1o,Q1p,Q1q,Q1r,Q1s,rvV,Q1t,rvD,Q1u,Q1v,Q1w,Q1x,Q1y,Q1z,Q20,Q21,Q22,Q23,Q24,Q25,Q26,Q27,Q28,Q29,Q2a,Q2b,Q2c,leD,ltD,Q2e,Q2f,Q2g,Q2h,Q2i,Q2j,Q2k,Q2l,Q2m,Q2n,Q2o,Q2p,Q2q,Q2r,clr,Q2s,Q2t,Q2u,Q2v,beq_self_eq_true,Q2w,Q2x,Q2y,Q2z,Q30,Q31,Q32,Q33,Q34,Q35,Q36,Q37,Q38,Q39,Q3a,Q3b,Q3c,Q3d,if_false,if_true,Q3e,Q3f,Q3g,Q3h,decide_eq_true_eq,Q3i,Q3j,Q3k,Q3l,Q3m,Q3n,Q3o,Q3p,reduceIte,reduceCtorEq,Q3q,Q3r,Q3s,Q3t,Q3u,Q3v,Q3w,Q3x,Q3y,Q3z,and_true,true_and,and_self,Q40,Q41,Q42,Q43,na2,na3,na4,na5,na6,na9,Q44,Q45,Q46,Q47,Q48,ne_eq,not_false_eq_true]
        refine ⟨_, rfl, ?_⟩
        rcases hs with rfl | rfl
        · exact .int (by omega) (by omega)
        · exact .int (by omega) (by omega)
      · rw [if_neg q3]
        obtain ⟨d, hd, hv⟩ := key
        exact ⟨d, hd, hv⟩
    · rw [show (c1.fmod 4 == 3) = false from by simpa using q2]
      simp only [Q0,Q1,Q2,Q3,Q4,Q5,Q6,Q7,Q8,Q9,Qa,Qb,Qc,Qd,Qe,Qf,Qg,Qh,Qi,Qj,Qk,Ql,Qm,Qn,Qo,Qp,Qq,Qr,Qs,Qt,Qu,Qv,Qw,Qx,Qy,Qz,Q10,Q11,Q12,Q13,Q14,Q15,Q16,Q17,Q18,Q19,Q1a,Q1b,Q1c,Q1d,Q1e,Q1f,Q1g,Q1h,Q1i,Q1i,Q1j,Q1k,Q1l,Q1m,Q1n,Q1o,Q1p,Q1q,Q1r,Q1s,rvV,Q1t,rvD,Q1u,Q1v,Q1w,Q1x,Q1y,Q1z,Q20,Q21,Q22,Q23,Q24,Q25,Q26,Q27,Q28,Q29,Q2a,Q2b,Q2c,leD,ltD,Q2e,Q2f,Q2g,Q2h,Q2i,Q2j,Q2k,Q2l,Q2m,Q2n,Q2o,Q2p,Q2q,Q2r,clr,Q2s,Q2t,Q2u,Q2v,beq_self_eq_true,Q2w,Q2x,Q2y,Q2z,Q30,Q31,Q32,Q33,Q34,Q35,Q36,Q37,Q38,Q39,Q3a,Q3b,Q3c,Q3d,if_false,if_true,Q3e,Q3f,Q3g,Q3h,decide_eq_true_eq,Q3i,Q3j,Q3k,Q3l,Q3m,Q3n,Q3o,Q3p,reduceIte,reduceCtorEq,Q3q,Q3r,Q3s,Q3t,Q3u,Q3v,Q3w,Q3x,Q3y,Q3z,and_true,true_and,and_self,Q40,Q41,Q42,Q43,na2,na3,na4,na5,na6,na9,Q44,Q45,Q46,Q47,Q48,ne_eq,not_false_eq_true]
      obtain ⟨d, hd, hv⟩ := key
      exact ⟨d, hd, hv⟩
end L02

end

section
set_option maxRecDepth 100000
set_option linter.unusedVariables false
set_option linter.unusedSimpArgs false
namespace L02
open PySem Mv
open _root_.Mv renaming runF_eq → Q0, finF_ret → Q1, finF_next → Q2, finF_err → Q3, finF_ite → Q4, bnd_none → Q5, bnd_ok → Q6, bnd_err → Q7, bnd_ite → Q8, bndN_ok → Q9, bndN_none → Qa, exS_raise → Qd, exS_try → Qe, tryO_ok → Qf, tryO_err → Qg, tryH_ok → Qh, ev_isx → Qi, ev_dsel → Qj, okO_some → Qk, okO_none → Ql, okV_fz → Qm, okV_own → Qn, okV_none → Qo, ev_lit → Qp, ev_gl → Qq, ev_var → Qr, ev_pl → Qs, ev_tup → Qt, ev_list → Qu, ev_op2 → Qv, ev_neg → Qw, ev_not → Qx, ev_cmp → Qy, ev_cmp2 → Qz, ev_and → Q10, ev_or → Q11, ev_ite → Q12, ev_idx → Q13, ev_slc → Q14, ev_call → Q15, ev_bi → Q16, ev_comp → Q17, compB_nil → Q18, evs_nil → Q19, evs_cons → Q1a, evAnd_one → Q1b, evAnd_cons → Q1c, evOr_one → Q1d, evOr_cons → Q1e, evConds_nil → Q1f, evConds_cons → Q1g, exS_asg → Q1h, Tgt.isTup → Q1i, exS_iff → Q1j, exS_ret → Q1k, exS_for → Q1l, forB_nil → Q1m, exSs_nil → Q1n, exSs_cons → Q1o, pinsOf → Q1p, Slot.lent → Q1q, Slot.live → Q1r, plLive → Q1s, rvVs → Q1t, rvDs → Q1u, b_len → Q1v, b_isi → Q1w, b_sum → Q1x, b_tupL → Q1y, b_tupT → Q1z, b_abs → Q20, b_int → Q21, b_listL → Q22, plGet → Q23, callO → Q24, argSlots → Q25, roots → Q26, copyOut → Q27, cmpD → Q28, e_int → Q29, e_bool → Q2a, outsOf → Q2e, o_addI → Q2f, o_addT → Q2g, o_addL → Q2h, o_sub → Q2i, o_mulI → Q2j, o_mulT → Q2k, o_mulL → Q2l, o_fdiv → Q2m, o_mod → Q2n, o_pow → Q2o, negD → Q2p, asgT → Q2q, asgs → Q2r, tgtVars → Q2s, idxD → Q2t, isiD → Q2u, i_bb → Q2v, truthD → Q2w, lenD → Q2x, iterD → Q2y, Bi.loops → Q31
open _root_.L02 renaming bndN_ite → Qb, bndN_err → Qc, P_g0 → Q2z, P_g1 → Q30, len_some → Q43, na10 → Q44, na12 → Q45, na16 → Q46, na30 → Q47, na100 → Q48
open _root_.Bool renaming and_false → Q32, false_and → Q33, false_eq_true → Q3d, not_true → Q3e, not_false → Q3f, not_eq_true → Q3j
open _root_.List renaming cons_append → Q34, nil_append → Q35, append_nil → Q36, replicate → Q37, getElem?_cons_zero → Q38, getElem?_cons_succ → Q39, set_cons_zero → Q3a, set_cons_succ → Q3b, contains_nil → Q3c, nodup_nil → Q3i
open _root_.Option renaming map_some → Q3g, map_none → Q3h
open _root_.Nat renaming reduceAdd → Q3k, reduceSub → Q3l, reduceMul → Q3m, reduceLT → Q3n, reduceLeDiff → Q3o, reduceEqDiff → Q3p, reducePow → Q40, le_refl → Q41
open _root_.Int renaming reduceAdd → Q3q, reduceNeg → Q3r, reducePow → Q3s, reduceSub → Q3t, reduceMul → Q3u, reduceLT → Q3v, reduceLE → Q3w, reduceEq → Q3x, reduceToNat → Q3y, natAbs_natCast → Q3z, le_refl → Q42

noncomputable def turnB : List St := [.asg (.one 6) (.bi .list [(.var 3)]),
      .asg (.one 7) (.call 18 [(.var 1), (.var 6)]),
      .iff (.or [(.cmp .ne (.idx (.var 7) (.lit (.int 0))) (.idx (.var 4) (.lit (.int 0)))), (.not (.call 11 [(.idx (.var 7) (.lit (.int 1))), (.idx (.var 4) (.lit (.int 1)))])), (.cmp .ne (.var 6) (.var 3))]) [.ret (.lit (.bool false))] [],
      .iff (.cmp .ne (.call 18 [(.lit (S [106, 111, 105, 110])), (.list [(.lit (.int 1)), (.tup [])])]) (.tup [(.lit (.bool true)), (.tup [(.lit (.int 1))])])) [.ret (.lit (.bool false))] []]
noncomputable def tailL : List St := [.asg (.one 3) (.comp (.call 19 [(.var 0), (.var 8)]) (.one 8) .range [(.var 2)] []), .asg (.one 4) (.call 16 [(.var 1), (.var 3)]), .for_ (.one 5) .range [(.lit (.int 2))]  turnB  [5, 6, 7], .ret (.call 20 [])]
noncomputable abbrev words : List D := [w_plus, w_minus, w_times, w_over, w_less, w_same, w_join, w_first, w_rest, w_empty, w_down, w_list]
noncomputable def tC : List St := (.iff (.cmp .eq (.var 1) (.lit (S [108, 105, 115, 116]))) [.asg (.one 2) (.op2 .mod (.op2 .fdiv (.call 8 [(.var 0), (.lit (.int 0))]) (.lit (.int 12))) (.lit (.int 9)))] []) :: tailL
noncomputable def tB : List St := (.asg (.one 2) (.lit (.int 2))) :: (.iff (.cmp .isin (.var 1) (.tup [(.lit (S [102, 105, 114, 115, 116])), (.lit (S [114, 101, 115, 116])), (.lit (S [101, 109, 112, 116, 121])), (.lit (S [100, 111, 119, 110]))])) [.asg (.one 2) (.lit (.int 1))] []) :: tC
noncomputable def tA : List St := (.asg (.one 1) (.idx (.var 1) (.op2 .mod (.call 8 [(.var 0), (.lit (.int 0))]) (.lit (.int 12))))) :: tB
theorem f_law_eq : f_law = ⟨1, 9, (.asg (.one 1) (.list [(.lit (S [112, 108, 117, 115])), (.lit (S [109, 105, 110, 117, 115])), (.lit (S [116, 105, 109, 101, 115])), (.lit (S [111, 118, 101, 114])), (.lit (S [108, 101, 115, 115])), (.lit (S [115, 97, 109, 101])), (.lit (S [106, 111, 105, 110])), (.lit (S [102, 105, 114, 115, 116])), (.lit (S [114, 101, 115, 116])), (.lit (S [101, 109, 112, 116, 121])), (.lit (S [100, 111, 119, 110])), (.lit (S [108, 105, 115, 116]))])) :: tA⟩ := rfl
theorem ev12 (c : Cfg) (fr : Mv.Frame) : ev c (.list [(.lit (S [112, 108, 117, 115])), (.lit (S [109, 105, 110, 117, 115])), (.lit (S [116, 105, 109, 101, 115])), (.lit (S [111, 118, 101, 114])), (.lit (S [108, 101, 115, 115])), (.lit (S [115, 97, 109, 101])), (.lit (S [106, 111, 105, 110])), (.lit (S [102, 105, 114, 115, 116])), (.lit (S [114, 101, 115, 116])), (.lit (S [101, 109, 112, 116, 121])), (.lit (S [100, 111, 119, 110])), (.lit (S [108, 105, 115, 116]))]) fr = some (.ok (.own (.list words)), fr) := rfl
theorem ev4 (c : Cfg) (fr : Mv.Frame) : ev c (.tup [(.lit (S [102, 105, 114, 115, 116])), (.lit (S [114, 101, 115, 116])), (.lit (S [101, 109, 112, 116, 121])), (.lit (S [100, 111, 119, 110]))]) fr = some (.ok (.fz (.tuple [w_first, w_rest, w_empty, w_down])), fr) := rfl

mutual
theorem eqv_good : ∀ d : D, good d = true → PyData.eqv d d = true
  | .int i, _ => by simp [PyData.eqv]
  | .tuple ds, h => by rw [PyData.eqv]; exact eqvs_good ds h
  | .none, h => by cases h
  | .bool _, h => by cases h
  | .str _, h => by cases h
  | .list _, h => by cases h
  | .dict _, h => by cases h
theorem eqvs_good : ∀ ds : List D, goods ds = true → PyData.eqvAll ds ds = true
  | [], _ => by rw [PyData.eqvAll]
  | d :: ds, h => by
    have h : (good d && goods ds) = true := h
    rw [Bool.and_eq_true] at h
    rw [PyData.eqvAll, eqv_good d h.1, eqvs_good ds h.2]; rfl
end
mutual
theorem nd_good : ∀ d : D, good d = true → noDict d = true ∧ d.depth = dep d
  | .int i, _ => ⟨rfl, rfl⟩
  | .tuple ds, h => by
    obtain ⟨a, b⟩ := nds_good ds h
    exact ⟨a, congrArg (· + 1) b⟩
  | .none, h => by cases h
  | .bool _, h => by cases h
  | .str _, h => by cases h
  | .list _, h => by cases h
  | .dict _, h => by cases h
theorem nds_good : ∀ ds : List D, goods ds = true → noDicts ds = true ∧ PyData.depthAll ds = deps ds
  | [], _ => ⟨rfl, rfl⟩
  | d :: ds, h => by
    have h : (good d && goods ds) = true := h
    rw [Bool.and_eq_true] at h
    obtain ⟨a, b⟩ := nd_good d h.1
    obtain ⟨c, e⟩ := nds_good ds h.2
    refine ⟨by show (noDict d && noDicts ds) = true; rw [a, c]; rfl, ?_⟩
    show max d.depth (PyData.depthAll ds) = max (dep d) (deps ds)
    rw [b, e]
end
theorem vls {ds : List D} (h : ∀ d ∈ ds, Vl d) : goods ds = true ∧ deps ds ≤ 5 ∧ wts ds ≤ 60 * ds.length := by
  induction ds with
  | nil => exact ⟨rfl, Nat.zero_le _, Nat.zero_le _⟩
  | cons d ds ih =>
    obtain ⟨a, b, c⟩ := ih fun x hx => h x (List.mem_cons_of_mem _ hx)
    obtain ⟨a', b', c'⟩ := h d List.mem_cons_self
    refine ⟨by show (good d && goods ds) = true; rw [a, a']; rfl, by show max (dep d) (deps ds) ≤ 5; omega, ?_⟩
    show wt d + wts ds ≤ 60 * (ds.length + 1)
    omega
theorem vl_cases {d : D} (h : Vl d) : (∃ i : Int, d = .int i ∧ i.natAbs < 2 ^ 64) ∨ ∃ t, d = .tuple t ∧ goods t = true ∧ deps t ≤ 4 ∧ wts t ≤ 59 := by
  obtain ⟨a, b, c⟩ := h
  cases d with
  | int i =>
    have a : goodN i = true := a
    unfold goodN at a
    simp only [Bool.and_eq_true, decide_eq_true_eq] at a
    exact .inl ⟨i, rfl, by omega⟩
  | tuple t => exact .inr ⟨t, rfl, a, by rw [deps_tuple] at b; omega, by have : wt (.tuple t) = 1 + wts t := rfl; omega⟩
  | none => cases a
  | bool _ => cases a
  | str _ => cases a
  | list _ => cases a
  | dict _ => cases a
theorem eqOk_vl {x y : D} (hx : Vl x) (hy : Vl y) : eqOk x y = true := by
  obtain ⟨a, b⟩ := nd_good x hx.1
  obtain ⟨c, e⟩ := nd_good y hy.1
  unfold eqOk
  rw [a, c, decide_eq_true (by rw [b, e]; have := hx.2.1; omega)]; rfl
theorem eq_some {x y : D} (hx : Vl x) (hy : Vl y) : ∃ e, eqD x y = some e := by
  have ok := eqOk_vl hx hy
  rcases vl_cases hx with ⟨a, rfl, _⟩ | ⟨s, rfl, _⟩ <;> rcases vl_cases hy with ⟨b, rfl, _⟩ | ⟨t, rfl, _⟩
  · exact ⟨_, rfl⟩
  · exact ⟨PyData.eqv (.int a) (.tuple t), by show (if eqOk (.int a) (.tuple t) = true then _ else _) = _; rw [if_pos ok]⟩
  · exact ⟨PyData.eqv (.tuple s) (.int b), by show (if eqOk (.tuple s) (.int b) = true then _ else _) = _; rw [if_pos ok]⟩
  · exact ⟨PyData.eqv (.tuple s) (.tuple t), by show (if eqOk (.tuple s) (.tuple t) = true then _ else _) = _; rw [if_pos ok]⟩
theorem eq_lists {ds : List D} (h : ∀ d ∈ ds, Vl d) : eqD (.list ds) (.list ds) = some true := by
  obtain ⟨a, b, _⟩ := vls h
  obtain ⟨c, e⟩ := nds_good ds a
  have ok : eqOk (.list ds) (.list ds) = true := by
    unfold eqOk
    rw [show noDict (.list ds) = true from c, decide_eq_true (by show min (PyData.depthAll ds + 1) _ ≤ 64; rw [e]; omega)]; rfl
  show (if eqOk (.list ds) (.list ds) = true then some (PyData.eqv (.list ds) (.list ds)) else none) = _
  rw [if_pos ok, PyData.eqv, eqvs_good ds a]
theorem two {P : D → Prop} {ds : List D} (h : ∀ d ∈ ds, Vl d) (hl : ds.length = 2) : ∃ x y, ds = [x, y] ∧ Vl x ∧ Vl y := by
  match ds, hl with
  | [x, y], _ => exact ⟨x, y, rfl, h x (by simp), h y (by simp)⟩
theorem one {ds : List D} (h : ∀ d ∈ ds, Vl d) (hl : ds.length = 1) : ∃ x, ds = [x] ∧ Vl x := by
  match ds, hl with
  | [x], _ => exact ⟨x, rfl, h x (by simp)⟩
theorem key2 {n : Nat} {w : D} (hT : ∀ s y, Key n w (.list [.tuple s, y])) (hU : ∀ a t, Key n w (.list [.int a, .tuple t])) (hN : ∀ a b : Int, a.natAbs < 2 ^ 64 → b.natAbs < 2 ^ 64 → Key n w (.list [.int a, .int b])) {ds : List D} (h : ∀ d ∈ ds, Vl d) (hl : ds.length = 2) : Key n w (.list ds) := by
  obtain ⟨x, y, rfl, hx, hy⟩ := two (P := fun _ => True) h hl
  rcases vl_cases hx with ⟨a, rfl, ha⟩ | ⟨s, rfl, _⟩
  · rcases vl_cases hy with ⟨b, rfl, hb⟩ | ⟨t, rfl, _⟩
    · exact hN a b ha hb
    · exact hU a t
  · exact hT s y
theorem cut_rest (d : D) (ds : List D) : cutL (d :: ds) (clampI (d :: ds).length 1) (d :: ds).length = ds := by
  have e : clampI (d :: ds).length 1 = 1 := by unfold clampI clipAt; rw [if_neg (by decide), List.length_cons]; omega
  rw [e]; unfold cutL; simp
theorem word_case (n : Nat) (hn : 10 ≤ n) (r : Int) (h0 : 0 ≤ r) (h1 : r < 12) (mm : Nat) (hm : mm ≤ 8) : ∃ w bi bl, idxOf words r = some w ∧ inD w ones = some bi ∧ eqD w w_list = some bl ∧ ∀ ds, (∀ d ∈ ds, Vl d) → ds.length = (if bl = true then mm else if bi = true then 1 else 2) → Key n w (.list ds) := by
  obtain ⟨k, rfl⟩ : ∃ k : Nat, r = k := ⟨r.toNat, by omega⟩
  match k, (show k < 12 by omega) with
  | 0, _ =>
    exact ⟨w_plus, false, false, rfl, by kernel_rfl, by kernel_rfl, fun ds h hl => key2 (keyT_plus n) (keyU_plus n) (fun a b ha hb => keyN_plus n a b (a + b) hn (N3_plus (n+3) a b) (C3_plus (n+3) a b ha hb (by omega))) h hl⟩
  | 1, _ =>
    exact ⟨w_minus, false, false, rfl, by kernel_rfl, by kernel_rfl, fun ds h hl => key2 (keyT_minus n) (keyU_minus n) (fun a b ha hb => keyN_minus n a b (a - b) hn (N3_minus (n+3) a b) (C3_minus (n+3) a b ha hb (by omega))) h hl⟩
  | 2, _ =>
    exact ⟨w_times, false, false, rfl, by kernel_rfl, by kernel_rfl, fun ds h hl => key2 (keyT_times n) (keyU_times n) (fun a b ha hb => keyN_times n a b (a * b) hn (N3_times (n+3) a b ha hb) (C3_times (n+3) a b ha hb (by omega))) h hl⟩
  | 3, _ =>
    exact ⟨w_over, false, false, rfl, by kernel_rfl, by kernel_rfl, fun ds h hl => key2 (keyT_over n) (keyU_over n) (fun a b ha hb => key_over n a b hn hb) h hl⟩
  | 4, _ =>
    exact ⟨w_less, false, false, rfl, by kernel_rfl, by kernel_rfl, fun ds h hl => key2 (keyT_less n) (keyU_less n) (fun a b ha hb => key_less n a b hn) h hl⟩
  | 5, _ =>
    refine ⟨w_same, false, false, rfl, by kernel_rfl, by kernel_rfl, fun ds h hl => ?_⟩
    obtain ⟨x, y, rfl, hx, hy⟩ := two (P := fun _ => True) h hl
    obtain ⟨e, he⟩ := eq_some hx hy
    exact key_same n x y e he
  | 6, _ =>
    refine ⟨w_join, false, false, rfl, by kernel_rfl, by kernel_rfl, fun ds h hl => ?_⟩
    obtain ⟨x, y, rfl, hx, hy⟩ := two (P := fun _ => True) h hl
    rcases vl_cases hy with ⟨b, rfl, hb⟩ | ⟨t, rfl, hg, hd, hw⟩
    · exact ⟨false, t_NoList, A6_join n x b, L6_join n x b, rfl, by show 0 ≤ 8; decide, by show 1 ≤ 1000; decide⟩
    · obtain ⟨a, b, c⟩ := hx
      exact key_join n x t hn (by show max (dep x) (deps t) ≤ 7; omega) (by show (good x && goods t) = true; rw [a, hg]; rfl) (by show wt x + wts t ≤ 900; omega)
  | 7, _ =>
    refine ⟨w_first, true, false, rfl, by kernel_rfl, by kernel_rfl, fun ds h hl => ?_⟩
    obtain ⟨x, rfl, hx⟩ := one h hl
    rcases vl_cases hx with ⟨i, rfl, _⟩ | ⟨t, rfl, hg, hd, hw⟩
    · exact ⟨false, t_NoList, B1_first n i, M1_first n i, rfl, by show 0 ≤ 8; decide, by show 1 ≤ 1000; decide⟩
    · cases t with
      | nil => exact ⟨false, t_NoFirst, B2_first n, M2_first n, rfl, by show 0 ≤ 8; decide, by show 1 ≤ 1000; decide⟩
      | cons d t =>
        have hg : (good d && goods t) = true := hg
        rw [Bool.and_eq_true] at hg
        have hd : max (dep d) (deps t) ≤ 4 := hd
        have hw : wt d + wts t ≤ 59 := hw
        exact ⟨true, d, B3_first n d t, M3_first n d t, sm_good d hg.1, by omega, by omega⟩
  | 8, _ =>
    refine ⟨w_rest, true, false, rfl, by kernel_rfl, by kernel_rfl, fun ds h hl => ?_⟩
    obtain ⟨x, rfl, hx⟩ := one h hl
    rcases vl_cases hx with ⟨i, rfl, _⟩ | ⟨t, rfl, hg, hd, hw⟩
    · exact ⟨false, t_NoList, B1_rest n i, M1_rest n i, rfl, by show 0 ≤ 8; decide, by show 1 ≤ 1000; decide⟩
    · cases t with
      | nil => exact ⟨false, t_NoFirst, B2_rest n, M2_rest n, rfl, by show 0 ≤ 8; decide, by show 1 ≤ 1000; decide⟩
      | cons d t =>
        have hg : (good d && goods t) = true := hg
        rw [Bool.and_eq_true] at hg
        have hd : max (dep d) (deps t) ≤ 4 := hd
        have hw : wt d + wts t ≤ 59 := hw
        refine ⟨true, _, B3_rest n d t, M3_rest n d t, ?_⟩
        rw [cut_rest]
        exact ⟨sms_good t hg.2, by rw [deps_tuple]; omega, by show 1 + wts t ≤ 1000; omega⟩
  | 9, _ =>
    refine ⟨w_empty, true, false, rfl, by kernel_rfl, by kernel_rfl, fun ds h hl => ?_⟩
    obtain ⟨x, rfl, hx⟩ := one h hl
    rcases vl_cases hx with ⟨i, rfl, _⟩ | ⟨t, rfl, hg, hd, hw⟩
    · exact ⟨false, t_NoList, B1_empty n i, M1_empty n i, rfl, by show 0 ≤ 8; decide, by show 1 ≤ 1000; decide⟩
    · cases t with
      | nil => exact ⟨true, .int 1, B2_empty n, M2_empty n, rfl, by show 0 ≤ 8; decide, by show 1 ≤ 1000; decide⟩
      | cons d t => exact ⟨true, .int 0, B3_empty n d t, M3_empty n d t, rfl, by show 0 ≤ 8; decide, by show 1 ≤ 1000; decide⟩
  | 10, _ =>
    refine ⟨w_down, true, false, rfl, by kernel_rfl, by kernel_rfl, fun ds h hl => ?_⟩
    obtain ⟨x, rfl, hx⟩ := one h hl
    rcases vl_cases hx with ⟨i, rfl, _⟩ | ⟨t, rfl, hg, hd, hw⟩
    · exact key_down n i
    · exact ⟨false, t_NoNumber, B1_down n t, M1_down n t, rfl, by show 0 ≤ 8; decide, by show 1 ≤ 1000; decide⟩
  | 11, _ =>
    refine ⟨w_list, false, true, rfl, by kernel_rfl, by kernel_rfl, fun ds h hl => ?_⟩
    obtain ⟨a, b, c⟩ := vls h
    rw [if_pos rfl] at hl
    exact key_list n ds hn (by omega) a (by rw [hl] at c; omega)
end L02

end

section
set_option maxRecDepth 100000
set_option linter.unusedVariables false
set_option linter.unusedSimpArgs false
namespace L02
open PySem Mv
open _root_.Mv renaming runF_eq → Q0, finF_ret → Q1, finF_next → Q2, finF_err → Q3, finF_ite → Q4, bnd_none → Q5, bnd_ok → Q6, bnd_err → Q7, bnd_ite → Q8, bndN_ok → Q9, bndN_none → Qa, exS_raise → Qd, exS_try → Qe, tryO_ok → Qf, tryO_err → Qg, tryH_ok → Qh, ev_isx → Qi, ev_dsel → Qj, okO_some → Qk, okO_none → Ql, okV_fz → Qm, okV_own → Qn, okV_none → Qo, ev_lit → Qp, ev_gl → Qq, ev_var → Qr, ev_pl → Qs, ev_tup → Qt, ev_list → Qu, ev_op2 → Qv, ev_neg → Qw, ev_not → Qx, ev_cmp → Qy, ev_cmp2 → Qz, ev_and → Q10, ev_or → Q11, ev_ite → Q12, ev_idx → Q13, ev_slc → Q14, ev_call → Q15, ev_bi → Q16, ev_comp → Q17, compB_nil → Q18, evs_nil → Q19, evs_cons → Q1a, evAnd_one → Q1b, evAnd_cons → Q1c, evOr_one → Q1d, evOr_cons → Q1e, evConds_nil → Q1f, evConds_cons → Q1g, exS_asg → Q1h, Tgt.isTup → Q1i, exS_iff → Q1j, exS_ret → Q1k, exS_for → Q1l, forB_nil → Q1m, exSs_nil → Q1n, exSs_cons → Q1o, pinsOf → Q1p, Slot.lent → Q1q, Slot.live → Q1r, plLive → Q1s, rvVs → Q1t, rvDs → Q1u, b_len → Q1v, b_isi → Q1w, b_sum → Q1x, b_tupL → Q1y, b_tupT → Q1z, b_abs → Q20, b_int → Q21, b_listL → Q22, plGet → Q23, callO → Q24, argSlots → Q25, roots → Q26, copyOut → Q27, cmpD → Q28, e_int → Q29, e_bool → Q2a, outsOf → Q2e, o_addI → Q2f, o_addT → Q2g, o_addL → Q2h, o_sub → Q2i, o_mulI → Q2j, o_mulT → Q2k, o_mulL → Q2l, o_fdiv → Q2m, o_mod → Q2n, o_pow → Q2o, negD → Q2p, asgT → Q2q, asgs → Q2r, tgtVars → Q2s, idxD → Q2t, isiD → Q2u, i_bb → Q2v, truthD → Q2w, lenD → Q2x, iterD → Q2y, Bi.loops → Q31
open _root_.L02 renaming bndN_ite → Qb, bndN_err → Qc, P_g0 → Q2z, P_g1 → Q30, len_some → Q43, na10 → Q44, na12 → Q45, na16 → Q46, na30 → Q47, na100 → Q48
open _root_.Bool renaming and_false → Q32, false_and → Q33, false_eq_true → Q3d, not_true → Q3e, not_false → Q3f, not_eq_true → Q3j
open _root_.List renaming cons_append → Q34, nil_append → Q35, append_nil → Q36, replicate → Q37, getElem?_cons_zero → Q38, getElem?_cons_succ → Q39, set_cons_zero → Q3a, set_cons_succ → Q3b, contains_nil → Q3c, nodup_nil → Q3i
open _root_.Option renaming map_some → Q3g, map_none → Q3h
open _root_.Nat renaming reduceAdd → Q3k, reduceSub → Q3l, reduceMul → Q3m, reduceLT → Q3n, reduceLeDiff → Q3o, reduceEqDiff → Q3p, reducePow → Q40, le_refl → Q41
open _root_.Int renaming reduceAdd → Q3q, reduceNeg → Q3r, reducePow → Q3s, reduceSub → Q3t, reduceMul → Q3u, reduceLT → Q3v, reduceLE → Q3w, reduceEq → Q3x, reduceToNat → Q3y, natAbs_natCast → Q3z, le_refl → Q42

theorem join_ok (n : Nat) : callF P (n+6) false 18 [.fz w_join, .fz (.list [.int 1, .tuple []])] = okP true (.tuple [.int 1]) := by kernel_rfl
theorem eq_join : eqD (.tuple [.bool true, .tuple [.int 1]]) (.tuple [.bool true, .tuple [.int 1]]) = some true := by kernel_rfl
noncomputable def endsB : List St := [.asg (.one 4) (.call 18 [(.var 2), (.var 3)]),
      .asg (.one 5) (.call 16 [(.var 2), (.var 3)]),
      .iff (.or [(.cmp .ne (.idx (.var 4) (.lit (.int 0))) (.idx (.var 5) (.lit (.int 0)))), (.not (.call 11 [(.idx (.var 4) (.lit (.int 1))), (.idx (.var 5) (.lit (.int 1)))]))]) [.ret (.lit (.bool false))] []]
noncomputable def endsT : List St := [.for_ (.tup [2, 3]) .seq [(.var 1)] endsB [2, 3, 4, 5], .ret (.lit (.bool true))]
noncomputable abbrev z48 : List D := List.replicate 48 (.int 0)
noncomputable abbrev z49 : List D := List.replicate 49 (.int 0)
noncomputable abbrev z24 : List D := List.replicate 24 (.int 0)
noncomputable abbrev endsI : List (D × List D) := [(w_plus, [.int 999999999999999999, .int 1]), (w_plus, [.int (-999999999999999999), .int (-1)]), (w_minus, [.int (-999999999999999999), .int 1]), (w_minus, [.int 0, .int 999999999999999999]),
  (w_times, [.int 1000000000, .int 1000000000]), (w_times, [.int 1000000000, .int 999999999]), (w_over, [.int (-7), .int 2]), (w_over, [.int 0, .int 0]), (w_over, [.tuple [], .int 0]), (w_less, [.int 3, .int 3]), (w_down, [.int 0]), (w_down, [.int 1]),
  (w_join, [.int 1, .tuple z48]), (w_join, [.int 1, .tuple z49]), (w_list, [.tuple z24, .tuple z24]), (w_first, [.tuple []]), (w_rest, [.tuple [.int 1]])]
theorem ends_pre (n : Nat) : callF P (n+70) false 20 [] = finF [] (exSs ⟨P.glob, callF P (n+69), [], false⟩ endsT [.fz (.int 999999999999999999), .own (.list (endsI.map fun p => .tuple [p.1, .list p.2])), .no, .no, .no, .no]) := by kernel_rfl
theorem wts_rep (k : Nat) : goods (List.replicate k (.int 0)) = true ∧ deps (List.replicate k (.int 0)) = 0 ∧ wts (List.replicate k (.int 0)) = k := by
  induction k with
  | zero => exact ⟨rfl, rfl, rfl⟩
  | succ k ih =>
    rw [List.replicate_succ]
    refine ⟨by show (goodN 0 && goods _) = true; rw [ih.1]; rfl, by show max 0 _ = 0; rw [ih.2.1]; rfl, by show 1 + wts _ = k + 1; rw [ih.2.2]; omega⟩
theorem kJ (n k : Nat) (hn : 10 ≤ n) (hk : k ≤ 100) : Key n w_join (.list [.int 1, .tuple (List.replicate k (.int 0))]) := by
  obtain ⟨a, b, c⟩ := wts_rep k
  exact key_join n (.int 1) _ hn (by show max 0 _ ≤ 7; rw [b]; decide) (by show (goodN 1 && goods _) = true; rw [a]; rfl) (by show 1 + wts _ ≤ 900; rw [c]; omega)
theorem kL (n k : Nat) (hn : 10 ≤ n) (hk : k ≤ 100) : Key n w_list (.list [.tuple (List.replicate k (.int 0)), .tuple (List.replicate k (.int 0))]) := by
  obtain ⟨a, b, c⟩ := wts_rep k
  refine key_list n _ hn ?_ ?_ ?_
  · show max (deps _ + 1) (max (deps _ + 1) 0) ≤ 7; rw [b]; decide
  · show (goods _ && (goods _ && true)) = true; rw [a]; rfl
  · show (1 + wts _) + ((1 + wts _) + 0) ≤ 900; rw [c]; omega
theorem ends_keys (n : Nat) (hn : 10 ≤ n) : ∀ p ∈ endsI, Key n p.1 (.list p.2) := by
  refine List.forall_mem_cons.mpr ⟨keyN_plus n _ _ _ hn (N3_plus (n+3) _ _) (C3_plus (n+3) _ _ (by decide) (by decide) (by omega)), List.forall_mem_cons.mpr ⟨keyN_plus n _ _ _ hn (N3_plus (n+3) _ _) (C3_plus (n+3) _ _ (by decide) (by decide) (by omega)),
    List.forall_mem_cons.mpr ⟨keyN_minus n _ _ _ hn (N3_minus (n+3) _ _) (C3_minus (n+3) _ _ (by decide) (by decide) (by omega)), List.forall_mem_cons.mpr ⟨keyN_minus n _ _ _ hn (N3_minus (n+3) _ _) (C3_minus (n+3) _ _ (by decide) (by decide) (by omega)),
    List.forall_mem_cons.mpr ⟨keyN_times n _ _ _ hn (N3_times (n+3) _ _ (by decide) (by decide)) (C3_times (n+3) _ _ (by decide) (by decide) (by omega)), List.forall_mem_cons.mpr ⟨keyN_times n _ _ _ hn (N3_times (n+3) _ _ (by decide) (by decide)) (C3_times (n+3) _ _ (by decide) (by decide) (by omega)),
    List.forall_mem_cons.mpr ⟨key_over n _ _ hn (by decide), List.forall_mem_cons.mpr ⟨key_over n _ _ hn (by decide), List.forall_mem_cons.mpr ⟨keyT_over n _ _, List.forall_mem_cons.mpr ⟨key_less n _ _ hn, List.forall_mem_cons.mpr ⟨key_down n _, List.forall_mem_cons.mpr ⟨key_down n _,
    List.forall_mem_cons.mpr ⟨kJ n 48 hn (by decide), List.forall_mem_cons.mpr ⟨kJ n 49 hn (by decide), List.forall_mem_cons.mpr ⟨kL n 24 hn (by decide), List.forall_mem_cons.mpr ⟨⟨false, t_NoFirst, B2_first n, M2_first n, rfl, by show 0 ≤ 8; decide, by show 1 ≤ 1000; decide⟩,
    List.forall_mem_cons.mpr ⟨⟨true, .tuple [], B3_rest n (.int 1) [], M3_rest n (.int 1) [], rfl, by decide, by decide⟩, fun p h => by cases h⟩⟩⟩⟩⟩⟩⟩⟩⟩⟩⟩⟩⟩⟩⟩⟩⟩
theorem ends_loop (n : Nat) (m : Slot) (l : Slot) : ∀ (ps : List (D × List D)) (a b c d : Slot), (∀ p ∈ ps, Key (n+63) p.1 (.list p.2)) →
    forB ⟨P.glob, callF P (n+69), [], false⟩ [m, l, a, b, c, d] (.tup [2, 3]) endsB [2, 3, 4, 5] (ps.map fun p => .tuple [p.1, .list p.2]) = some (.ok .next, [m, l, .no, .no, .no, .no])
  | [], a, b, c, d, _ => by rw [List.map_nil, forB_nil]; simp only [Q0,Q1,Q2,Q3,Q4,Q5,Q6,Q7,Q8,Q9,Qa,Qb,Qc,Qd,Qe,Qf,Qg,Qh,Qi,Qj,Qk,Ql,Qm,Qn,Qo,Qp,Qq,Qr,Qs,Qt,Qu,Qv,Qw,Qx,Qy,Qz,Q10,Q11,Q12,Q13,Q14,Q15,Q16,Q17,Q18,Q19,Q1a,Q1b,Q1c,Q1d,Q1e,Q1f,Q1g,Q1h,Q1i,Q1i,Q1j,Q1k,Q1l,Q1m,Q1n,Q1o,Q1p,Q1q,Q1r,Q1s,rvV,Q1t,rvD,Q1u,Q1v,Q1w,Q1x,Q1y,Q1z,Q20,Q21,Q22,Q23,Q24,Q25,Q26,Q27,Q28,Q29,Q2a,leD,ltD,Q2e,Q2f,Q2g,Q2h,Q2i,Q2j,Q2k,Q2l,Q2m,Q2n,Q2o,Q2p,Q2q,Q2r,clr,Q2s,Q2t,Q2u,Q2v,beq_self_eq_true,Q2w,Q2x,Q2y,Q2z,Q30,Q31,Q32,Q33,Q34,Q35,Q36,Q37,Q38,Q39,Q3a,Q3b,Q3c,Q3d,if_false,if_true,Q3e,Q3f,Q3g,Q3h,decide_eq_true_eq,Q3i,Q3j,Q3k,Q3l,Q3m,Q3n,Q3o,Q3p,reduceIte,reduceCtorEq,Q3q,Q3r,Q3s,Q3t,Q3u,Q3v,Q3w,Q3x,Q3y,Q3z,and_true,true_and,and_self,Q40,Q41,Q42,Q43,na2,na3,na4,na5,na6,na9,Q44,Q45,Q46,Q47,Q48,ne_eq,not_false_eq_true]
  | p :: ps, a, b, c, d, h => by
    obtain ⟨bb, v, h18, h16, hsm, hdv, hwv⟩ := h p List.mem_cons_self
    have h11 : callF P (n+69) false 11 [.fz v, .fz v] = some (.ok (.fz (.bool true)), []) := same_eq (n+69) v (by omega) hsm hwv
    have ih := fun a b c d => ends_loop n m l ps a b c d fun q hq => h q (List.mem_cons_of_mem _ hq)
    have hh18 : callF P (n+69) false 18 [.fz p.1, .fz (.list p.2)] = some (.ok (.fz (.tuple [.bool bb, v])), []) := h18
    have hh16 : callF P (n+69) false 16 [.fz p.1, .fz (.list p.2)] = some (.ok (.fz (.tuple [.bool bb, v])), []) := h16
    rw [List.map_cons, forB_cons]
    unfold endsB at ih ⊢
    repeat (first | simp only [hh18, hh16, h11, ix0, ix1, ih] | simp only [Q0,Q1,Q2,Q3,Q4,Q5,Q6,Q7,Q8,Q9,Qa,Qb,Qc,Qd,Qe,Qf,Qg,Qh,Qi,Qj,Qk,Ql,Qm,Qn,Qo,Qp,Qq,Qr,Qs,Qt,Qu,Qv,Qw,Qx,Qy,Qz,Q10,Q11,Q12,Q13,Q14,Q15,Q16,Q17,Q18,Q19,Q1a,Q1b,Q1c,Q1d,Q1e,Q1f,Q1g,Q1h,Q1i,Q1i,Q1j,Q1k,Q1l,Q1m,Q1n,Q1o,Q1p,Q1q,Q1r,Q1s,rvV,Q1t,rvD,Q1u,Q1v,Q1w,Q1x,Q1y,Q1z,Q20,Q21,Q22,Q23,Q24,Q25,Q26,Q27,Q28,Q29,Q2a,leD,ltD,Q2e,Q2f,Q2g,Q2h,Q2i,Q2j,Q2k,Q2l,Q2m,Q2n,Q2o,Q2p,Q2q,Q2r,clr,Q2s,Q2t,Q2u,Q2v,beq_self_eq_true,Q2w,Q2x,Q2y,Q2z,Q30,Q31,Q32,Q33,Q34,Q35,Q36,Q37,Q38,Q39,Q3a,Q3b,Q3c,Q3d,if_false,if_true,Q3e,Q3f,Q3g,Q3h,decide_eq_true_eq,Q3i,Q3j,Q3k,Q3l,Q3m,Q3n,Q3o,Q3p,reduceIte,reduceCtorEq,Q3q,Q3r,Q3s,Q3t,Q3u,Q3v,Q3w,Q3x,Q3y,Q3z,and_true,true_and,and_self,Q40,Q41,Q42,Q43,na2,na3,na4,na5,na6,na9,Q44,Q45,Q46,Q47,Q48,ne_eq,not_false_eq_true])
theorem ends_tail (n : Nat) (m : Slot) (ps : List (D × List D)) (h : ∀ p ∈ ps, Key (n+63) p.1 (.list p.2)) :
    finF [] (exSs ⟨P.glob, callF P (n+69), [], false⟩ endsT [m, .own (.list (ps.map fun p => .tuple [p.1, .list p.2])), .no, .no, .no, .no]) = some (.ok (.fz (.bool true)), []) := by
  unfold endsT
  simp only [Q0,Q1,Q2,Q3,Q4,Q5,Q6,Q7,Q8,Q9,Qa,Qb,Qc,Qd,Qe,Qf,Qg,Qh,Qi,Qj,Qk,Ql,Qm,Qn,Qo,Qp,Qq,Qr,Qs,Qt,Qu,Qv,Qw,Qx,Qy,Qz,Q10,Q11,Q12,Q13,Q14,Q15,Q16,Q17,Q18,Q19,Q1a,Q1b,Q1c,Q1d,Q1e,Q1f,Q1g,Q1h,Q1i,Q1i,Q1j,Q1k,Q1l,Q1m,Q1n,Q1o,Q1p,Q1q,Q1r,Q1s,rvV,Q1t,rvD,Q1u,Q1v,Q1w,Q1x,Q1y,Q1z,Q20,Q21,Q22,Q23,Q24,Q25,Q26,Q27,Q28,Q29,Q2a,leD,ltD,Q2e,Q2f,Q2g,Q2h,Q2i,Q2j,Q2k,Q2l,Q2m,Q2n,Q2o,Q2p,Q2q,Q2r,clr,Q2s,Q2t,Q2u,Q2v,beq_self_eq_true,Q2w,Q2x,Q2y,Q2z,Q30,Q31,Q32,Q33,Q34,Q35,Q36,Q37,Q38,Q39,Q3a,Q3b,Q3c,Q3d,if_false,if_true,Q3e,Q3f,Q3g,Q3h,decide_eq_true_eq,Q3i,Q3j,Q3k,Q3l,Q3m,Q3n,Q3o,Q3p,reduceIte,reduceCtorEq,Q3q,Q3r,Q3s,Q3t,Q3u,Q3v,Q3w,Q3x,Q3y,Q3z,and_true,true_and,and_self,Q40,Q41,Q42,Q43,na2,na3,na4,na5,na6,na9,Q44,Q45,Q46,Q47,Q48,ne_eq,not_false_eq_true]
  rw [ends_loop n _ _ ps _ _ _ _ h]
  simp only [Q0,Q1,Q2,Q3,Q4,Q5,Q6,Q7,Q8,Q9,Qa,Qb,Qc,Qd,Qe,Qf,Qg,Qh,Qi,Qj,Qk,Ql,Qm,Qn,Qo,Qp,Qq,Qr,Qs,Qt,Qu,Qv,Qw,Qx,Qy,Qz,Q10,Q11,Q12,Q13,Q14,Q15,Q16,Q17,Q18,Q19,Q1a,Q1b,Q1c,Q1d,Q1e,Q1f,Q1g,Q1h,Q1i,Q1i,Q1j,Q1k,Q1l,Q1m,Q1n,Q1o,Q1p,Q1q,Q1r,Q1s,rvV,Q1t,rvD,Q1u,Q1v,Q1w,Q1x,Q1y,Q1z,Q20,Q21,Q22,Q23,Q24,Q25,Q26,Q27,Q28,Q29,Q2a,leD,ltD,Q2e,Q2f,Q2g,Q2h,Q2i,Q2j,Q2k,Q2l,Q2m,Q2n,Q2o,Q2p,Q2q,Q2r,clr,Q2s,Q2t,Q2u,Q2v,beq_self_eq_true,Q2w,Q2x,Q2y,Q2z,Q30,Q31,Q32,Q33,Q34,Q35,Q36,Q37,Q38,Q39,Q3a,Q3b,Q3c,Q3d,if_false,if_true,Q3e,Q3f,Q3g,Q3h,decide_eq_true_eq,Q3i,Q3j,Q3k,Q3l,Q3m,Q3n,Q3o,Q3p,reduceIte,reduceCtorEq,Q3q,Q3r,Q3s,Q3t,Q3u,Q3v,Q3w,Q3x,Q3y,Q3z,and_true,true_and,and_self,Q40,Q41,Q42,Q43,na2,na3,na4,na5,na6,na9,Q44,Q45,Q46,Q47,Q48,ne_eq,not_false_eq_true]
theorem ends_ok (n : Nat) : callF P (n+70) false 20 [] = some (.ok (.fz (.bool true)), []) := (ends_pre n).trans (ends_tail n _ endsI (ends_keys (n+63) (by omega)))
theorem turn_eq (n : Nat) (a0 : Slot) (w : D) (a2 : Slot) (ds : List D) (b : Bool) (v : D) (s5 s6 s7 s8 : Slot) (d0 : D) (rest : List D) (h18 : callF P (n+70) false 18 [.fz w, .fz (.list ds)] = some (.ok (.fz (.tuple [.bool b, v])), [])) (h11 : callF P (n+70) false 11 [.fz v, .fz v] = some (.ok (.fz (.bool true)), [])) (hl : eqD (.list ds) (.list ds) = some true) :
    forB ⟨P.glob, callF P (n+70), [], false⟩ [a0, .fz w, a2, .fz (.list ds), .fz (.tuple [.bool b, v]), s5, s6, s7, s8] (.one 5) turnB [5, 6, 7] (d0 :: rest) = forB ⟨P.glob, callF P (n+70), [], false⟩ [a0, .fz w, a2, .fz (.list ds), .fz (.tuple [.bool b, v]), .fz d0, .fz (.list ds), .fz (.tuple [.bool b, v]), s8] (.one 5) turnB [5, 6, 7] rest := by
  have hj : callF P (n+70) false 18 [.fz w_join, .fz (.list [.int 1, .tuple []])] = some (.ok (.fz (.tuple [.bool true, .tuple [.int 1]])), []) := join_ok (n+64)
  rw [forB_cons]
  unfold turnB
  simp only [Q0,Q1,Q2,Q3,Q4,Q5,Q6,Q7,Q8,Q9,Qa,Qb,Qc,Qd,Qe,Qf,Qg,Qh,Qi,Qj,Qk,Ql,Qm,Qn,Qo,Qp,Qq,Qr,Qs,Qt,Qu,Qv,Qw,Qx,Qy,Qz,Q10,Q11,Q12,Q13,Q14,Q15,Q16,Q17,Q18,Q19,Q1a,Q1b,Q1c,Q1d,Q1e,Q1f,Q1g,Q1h,Q1i,Q1i,Q1j,Q1k,Q1l,Q1m,Q1n,Q1o,Q1p,Q1q,Q1r,Q1s,rvV,Q1t,rvD,Q1u,Q1v,Q1w,Q1x,Q1y,Q1z,Q20,Q21,Q22,Q23,Q24,Q25,Q26,Q27,Q28,Q29,Q2a,leD,ltD,Q2e,Q2f,Q2g,Q2h,Q2i,Q2j,Q2k,Q2l,Q2m,Q2n,Q2o,Q2p,Q2q,Q2r,clr,Q2s,Q2t,Q2u,Q2v,beq_self_eq_true,Q2w,Q2x,Q2y,Q2z,Q30,Q31,Q32,Q33,Q34,Q35,Q36,Q37,Q38,Q39,Q3a,Q3b,Q3c,Q3d,if_false,if_true,Q3e,Q3f,Q3g,Q3h,decide_eq_true_eq,Q3i,Q3j,Q3k,Q3l,Q3m,Q3n,Q3o,Q3p,reduceIte,reduceCtorEq,Q3q,Q3r,Q3s,Q3t,Q3u,Q3v,Q3w,Q3x,Q3y,Q3z,and_true,true_and,and_self,Q40,Q41,Q42,Q43,na2,na3,na4,na5,na6,na9,Q44,Q45,Q46,Q47,Q48,ne_eq,not_false_eq_true]
  repeat (first | simp only [h18, ix0, ix1, h11, hl, hj, eq_join] | simp only [Q0,Q1,Q2,Q3,Q4,Q5,Q6,Q7,Q8,Q9,Qa,Qb,Qc,Qd,Qe,Qf,Qg,Qh,Qi,Qj,Qk,Ql,Qm,Qn,Qo,Qp,Qq,Qr,Qs,Qt,Qu,Qv,Qw,Qx,Qy,Qz,Q10,Q11,Q12,Q13,Q14,Q15,Q16,Q17,Q18,Q19,Q1a,Q1b,Q1c,Q1d,Q1e,Q1f,Q1g,Q1h,Q1i,Q1i,Q1j,Q1k,Q1l,Q1m,Q1n,Q1o,Q1p,Q1q,Q1r,Q1s,rvV,Q1t,rvD,Q1u,Q1v,Q1w,Q1x,Q1y,Q1z,Q20,Q21,Q22,Q23,Q24,Q25,Q26,Q27,Q28,Q29,Q2a,leD,ltD,Q2e,Q2f,Q2g,Q2h,Q2i,Q2j,Q2k,Q2l,Q2m,Q2n,Q2o,Q2p,Q2q,Q2r,clr,Q2s,Q2t,Q2u,Q2v,beq_self_eq_true,Q2w,Q2x,Q2y,Q2z,Q30,Q31,Q32,Q33,Q34,Q35,Q36,Q37,Q38,Q39,Q3a,Q3b,Q3c,Q3d,if_false,if_true,Q3e,Q3f,Q3g,Q3h,decide_eq_true_eq,Q3i,Q3j,Q3k,Q3l,Q3m,Q3n,Q3o,Q3p,reduceIte,reduceCtorEq,Q3q,Q3r,Q3s,Q3t,Q3u,Q3v,Q3w,Q3x,Q3y,Q3z,and_true,true_and,and_self,Q40,Q41,Q42,Q43,na2,na3,na4,na5,na6,na9,Q44,Q45,Q46,Q47,Q48,ne_eq,not_false_eq_true])
theorem vals_loop (n : Nat) (xs : List Int) (w : D) (a2 : Slot) : ∀ (ks : List Nat) (s8 : Slot),
    ∃ ds, compB ⟨P.glob, callF P (n+70), [], false⟩ [.fz (.list (xs.map .int)), .fz w, a2, .no, .no, .no, .no, .no, s8] (.call 19 [(.var 0), (.var 8)]) (.one 8) [] (ks.map fun (k : Nat) => .int (0 + k)) = some (.ok ds, [.fz (.list (xs.map .int)), .fz w, a2, .no, .no, .no, .no, .no, .no]) ∧ ds.length = ks.length ∧ ∀ d ∈ ds, Vl d
  | [], s8 => ⟨[], by rw [List.map_nil, compB_nil]; simp only [Q0,Q1,Q2,Q3,Q4,Q5,Q6,Q7,Q8,Q9,Qa,Qb,Qc,Qd,Qe,Qf,Qg,Qh,Qi,Qj,Qk,Ql,Qm,Qn,Qo,Qp,Qq,Qr,Qs,Qt,Qu,Qv,Qw,Qx,Qy,Qz,Q10,Q11,Q12,Q13,Q14,Q15,Q16,Q17,Q18,Q19,Q1a,Q1b,Q1c,Q1d,Q1e,Q1f,Q1g,Q1h,Q1i,Q1i,Q1j,Q1k,Q1l,Q1m,Q1n,Q1o,Q1p,Q1q,Q1r,Q1s,rvV,Q1t,rvD,Q1u,Q1v,Q1w,Q1x,Q1y,Q1z,Q20,Q21,Q22,Q23,Q24,Q25,Q26,Q27,Q28,Q29,Q2a,leD,ltD,Q2e,Q2f,Q2g,Q2h,Q2i,Q2j,Q2k,Q2l,Q2m,Q2n,Q2o,Q2p,Q2q,Q2r,clr,Q2s,Q2t,Q2u,Q2v,beq_self_eq_true,Q2w,Q2x,Q2y,Q2z,Q30,Q31,Q32,Q33,Q34,Q35,Q36,Q37,Q38,Q39,Q3a,Q3b,Q3c,Q3d,if_false,if_true,Q3e,Q3f,Q3g,Q3h,decide_eq_true_eq,Q3i,Q3j,Q3k,Q3l,Q3m,Q3n,Q3o,Q3p,reduceIte,reduceCtorEq,Q3q,Q3r,Q3s,Q3t,Q3u,Q3v,Q3w,Q3x,Q3y,Q3z,and_true,true_and,and_self,Q40,Q41,Q42,Q43,na2,na3,na4,na5,na6,na9,Q44,Q45,Q46,Q47,Q48,ne_eq,not_false_eq_true], rfl, fun _ h => by cases h⟩
  | k :: ks, s8 => by
    obtain ⟨d, hd, hv⟩ := given_eq (n+68) xs (0 + (k : Int)) (by omega)
    obtain ⟨ds, h, hl, hs⟩ := vals_loop n xs w a2 ks (.fz (.int (0 + k)))
    refine ⟨d :: ds, ?_, congrArg (· + 1) hl, fun z hz => ?_⟩
    · rw [List.map_cons, compB_cons]
      simp only [Q0,Q1,Q2,Q3,Q4,Q5,Q6,Q7,Q8,Q9,Qa,Qb,Qc,Qd,Qe,Qf,Qg,Qh,Qi,Qj,Qk,Ql,Qm,Qn,Qo,Qp,Qq,Qr,Qs,Qt,Qu,Qv,Qw,Qx,Qy,Qz,Q10,Q11,Q12,Q13,Q14,Q15,Q16,Q17,Q18,Q19,Q1a,Q1b,Q1c,Q1d,Q1e,Q1f,Q1g,Q1h,Q1i,Q1i,Q1j,Q1k,Q1l,Q1m,Q1n,Q1o,Q1p,Q1q,Q1r,Q1s,rvV,Q1t,rvD,Q1u,Q1v,Q1w,Q1x,Q1y,Q1z,Q20,Q21,Q22,Q23,Q24,Q25,Q26,Q27,Q28,Q29,Q2a,leD,ltD,Q2e,Q2f,Q2g,Q2h,Q2i,Q2j,Q2k,Q2l,Q2m,Q2n,Q2o,Q2p,Q2q,Q2r,clr,Q2s,Q2t,Q2u,Q2v,beq_self_eq_true,Q2w,Q2x,Q2y,Q2z,Q30,Q31,Q32,Q33,Q34,Q35,Q36,Q37,Q38,Q39,Q3a,Q3b,Q3c,Q3d,if_false,if_true,Q3e,Q3f,Q3g,Q3h,decide_eq_true_eq,Q3i,Q3j,Q3k,Q3l,Q3m,Q3n,Q3o,Q3p,reduceIte,reduceCtorEq,Q3q,Q3r,Q3s,Q3t,Q3u,Q3v,Q3w,Q3x,Q3y,Q3z,and_true,true_and,and_self,Q40,Q41,Q42,Q43,na2,na3,na4,na5,na6,na9,Q44,Q45,Q46,Q47,Q48,ne_eq,not_false_eq_true]
      simp only [hd]
      simp only [Q0,Q1,Q2,Q3,Q4,Q5,Q6,Q7,Q8,Q9,Qa,Qb,Qc,Qd,Qe,Qf,Qg,Qh,Qi,Qj,Qk,Ql,Qm,Qn,Qo,Qp,Qq,Qr,Qs,Qt,Qu,Qv,Qw,Qx,Qy,Qz,Q10,Q11,Q12,Q13,Q14,Q15,Q16,Q17,Q18,Q19,Q1a,Q1b,Q1c,Q1d,Q1e,Q1f,Q1g,Q1h,Q1i,Q1i,Q1j,Q1k,Q1l,Q1m,Q1n,Q1o,Q1p,Q1q,Q1r,Q1s,rvV,Q1t,rvD,Q1u,Q1v,Q1w,Q1x,Q1y,Q1z,Q20,Q21,Q22,Q23,Q24,Q25,Q26,Q27,Q28,Q29,Q2a,leD,ltD,Q2e,Q2f,Q2g,Q2h,Q2i,Q2j,Q2k,Q2l,Q2m,Q2n,Q2o,Q2p,Q2q,Q2r,clr,Q2s,Q2t,Q2u,Q2v,beq_self_eq_true,Q2w,Q2x,Q2y,Q2z,Q30,Q31,Q32,Q33,Q34,Q35,Q36,Q37,Q38,Q39,Q3a,Q3b,Q3c,Q3d,if_false,if_true,Q3e,Q3f,Q3g,Q3h,decide_eq_true_eq,Q3i,Q3j,Q3k,Q3l,Q3m,Q3n,Q3o,Q3p,reduceIte,reduceCtorEq,Q3q,Q3r,Q3s,Q3t,Q3u,Q3v,Q3w,Q3x,Q3y,Q3z,and_true,true_and,and_self,Q40,Q41,Q42,Q43,na2,na3,na4,na5,na6,na9,Q44,Q45,Q46,Q47,Q48,ne_eq,not_false_eq_true]
      rw [h]
      simp only [Q0,Q1,Q2,Q3,Q4,Q5,Q6,Q7,Q8,Q9,Qa,Qb,Qc,Qd,Qe,Qf,Qg,Qh,Qi,Qj,Qk,Ql,Qm,Qn,Qo,Qp,Qq,Qr,Qs,Qt,Qu,Qv,Qw,Qx,Qy,Qz,Q10,Q11,Q12,Q13,Q14,Q15,Q16,Q17,Q18,Q19,Q1a,Q1b,Q1c,Q1d,Q1e,Q1f,Q1g,Q1h,Q1i,Q1i,Q1j,Q1k,Q1l,Q1m,Q1n,Q1o,Q1p,Q1q,Q1r,Q1s,rvV,Q1t,rvD,Q1u,Q1v,Q1w,Q1x,Q1y,Q1z,Q20,Q21,Q22,Q23,Q24,Q25,Q26,Q27,Q28,Q29,Q2a,leD,ltD,Q2e,Q2f,Q2g,Q2h,Q2i,Q2j,Q2k,Q2l,Q2m,Q2n,Q2o,Q2p,Q2q,Q2r,clr,Q2s,Q2t,Q2u,Q2v,beq_self_eq_true,Q2w,Q2x,Q2y,Q2z,Q30,Q31,Q32,Q33,Q34,Q35,Q36,Q37,Q38,Q39,Q3a,Q3b,Q3c,Q3d,if_false,if_true,Q3e,Q3f,Q3g,Q3h,decide_eq_true_eq,Q3i,Q3j,Q3k,Q3l,Q3m,Q3n,Q3o,Q3p,reduceIte,reduceCtorEq,Q3q,Q3r,Q3s,Q3t,Q3u,Q3v,Q3w,Q3x,Q3y,Q3z,and_true,true_and,and_self,Q40,Q41,Q42,Q43,na2,na3,na4,na5,na6,na9,Q44,Q45,Q46,Q47,Q48,ne_eq,not_false_eq_true]
    · rcases List.mem_cons.mp hz with rfl | hz
      · exact hv
      · exact hs z hz
theorem tail_ok (n : Nat) (xs : List Int) (w : D) (m : Nat) (hm : m ≤ 8) (hkey : ∀ ds, (∀ d ∈ ds, Vl d) → ds.length = m → Key (n+64) w (.list ds)) :
    finF [.fz (.list (xs.map .int))] (exSs ⟨P.glob, callF P (n+70), [], false⟩ tailL [.fz (.list (xs.map .int)), .fz w, .fz (.int m), .no, .no, .no, .no, .no, .no]) = some (.ok (.fz (.bool true)), []) := by
  obtain ⟨ds, hc, hl, hs⟩ := vals_loop n xs w (.fz (.int m)) (List.range m) .no
  rw [List.length_range] at hl
  obtain ⟨b, v, h18, h16, hsm, hdv, hwv⟩ := hkey ds hs hl
  have h11 : callF P (n+70) false 11 [.fz v, .fz v] = some (.ok (.fz (.bool true)), []) := same_eq (n+70) v (by omega) hsm hwv
  have hh18 : callF P (n+70) false 18 [.fz w, .fz (.list ds)] = some (.ok (.fz (.tuple [.bool b, v])), []) := h18
  have hh16 : callF P (n+70) false 16 [.fz w, .fz (.list ds)] = some (.ok (.fz (.tuple [.bool b, v])), []) := h16
  unfold tailL
  simp only [Q0,Q1,Q2,Q3,Q4,Q5,Q6,Q7,Q8,Q9,Qa,Qb,Qc,Qd,Qe,Qf,Qg,Qh,Qi,Qj,Qk,Ql,Qm,Qn,Qo,Qp,Qq,Qr,Qs,Qt,Qu,Qv,Qw,Qx,Qy,Qz,Q10,Q11,Q12,Q13,Q14,Q15,Q16,Q17,Q18,Q19,Q1a,Q1b,Q1c,Q1d,Q1e,Q1f,Q1g,Q1h,Q1i,Q1i,Q1j,Q1k,Q1l,Q1m,Q1n,Q1o,Q1p,Q1q,Q1r,Q1s,rvV,Q1t,rvD,Q1u,Q1v,Q1w,Q1x,Q1y,Q1z,Q20,Q21,Q22,Q23,Q24,Q25,Q26,Q27,Q28,Q29,Q2a,leD,ltD,Q2e,Q2f,Q2g,Q2h,Q2i,Q2j,Q2k,Q2l,Q2m,Q2n,Q2o,Q2p,Q2q,Q2r,clr,Q2s,Q2t,Q2u,Q2v,beq_self_eq_true,Q2w,Q2x,Q2y,Q2z,Q30,Q31,Q32,Q33,Q34,Q35,Q36,Q37,Q38,Q39,Q3a,Q3b,Q3c,Q3d,if_false,if_true,Q3e,Q3f,Q3g,Q3h,decide_eq_true_eq,Q3i,Q3j,Q3k,Q3l,Q3m,Q3n,Q3o,Q3p,reduceIte,reduceCtorEq,Q3q,Q3r,Q3s,Q3t,Q3u,Q3v,Q3w,Q3x,Q3y,Q3z,and_true,true_and,and_self,Q40,Q41,Q42,Q43,na2,na3,na4,na5,na6,na9,Q44,Q45,Q46,Q47,Q48,ne_eq,not_false_eq_true]
  rw [if_pos ⟨by omega, by show (m : Int) ≤ 16777216; omega⟩]
  simp only [Q0,Q1,Q2,Q3,Q4,Q5,Q6,Q7,Q8,Q9,Qa,Qb,Qc,Qd,Qe,Qf,Qg,Qh,Qi,Qj,Qk,Ql,Qm,Qn,Qo,Qp,Qq,Qr,Qs,Qt,Qu,Qv,Qw,Qx,Qy,Qz,Q10,Q11,Q12,Q13,Q14,Q15,Q16,Q17,Q18,Q19,Q1a,Q1b,Q1c,Q1d,Q1e,Q1f,Q1g,Q1h,Q1i,Q1i,Q1j,Q1k,Q1l,Q1m,Q1n,Q1o,Q1p,Q1q,Q1r,Q1s,rvV,Q1t,rvD,Q1u,Q1v,Q1w,Q1x,Q1y,Q1z,Q20,Q21,Q22,Q23,Q24,Q25,Q26,Q27,Q28,Q29,Q2a,leD,ltD,Q2e,Q2f,Q2g,Q2h,Q2i,Q2j,Q2k,Q2l,Q2m,Q2n,Q2o,Q2p,Q2q,Q2r,clr,Q2s,Q2t,Q2u,Q2v,beq_self_eq_true,Q2w,Q2x,Q2y,Q2z,Q30,Q31,Q32,Q33,Q34,Q35,Q36,Q37,Q38,Q39,Q3a,Q3b,Q3c,Q3d,if_false,if_true,Q3e,Q3f,Q3g,Q3h,decide_eq_true_eq,Q3i,Q3j,Q3k,Q3l,Q3m,Q3n,Q3o,Q3p,reduceIte,reduceCtorEq,Q3q,Q3r,Q3s,Q3t,Q3u,Q3v,Q3w,Q3x,Q3y,Q3z,and_true,true_and,and_self,Q40,Q41,Q42,Q43,na2,na3,na4,na5,na6,na9,Q44,Q45,Q46,Q47,Q48,ne_eq,not_false_eq_true]
  rw [show rangeL 0 (Int.toNat (m : Int)) = (List.range m).map fun (k : Nat) => PyData.int (0 + k) from by unfold rangeL; rw [Int.toNat_natCast]]
  rw [hc]
  simp only [Q0,Q1,Q2,Q3,Q4,Q5,Q6,Q7,Q8,Q9,Qa,Qb,Qc,Qd,Qe,Qf,Qg,Qh,Qi,Qj,Qk,Ql,Qm,Qn,Qo,Qp,Qq,Qr,Qs,Qt,Qu,Qv,Qw,Qx,Qy,Qz,Q10,Q11,Q12,Q13,Q14,Q15,Q16,Q17,Q18,Q19,Q1a,Q1b,Q1c,Q1d,Q1e,Q1f,Q1g,Q1h,Q1i,Q1i,Q1j,Q1k,Q1l,Q1m,Q1n,Q1o,Q1p,Q1q,Q1r,Q1s,rvV,Q1t,rvD,Q1u,Q1v,Q1w,Q1x,Q1y,Q1z,Q20,Q21,Q22,Q23,Q24,Q25,Q26,Q27,Q28,Q29,Q2a,leD,ltD,Q2e,Q2f,Q2g,Q2h,Q2i,Q2j,Q2k,Q2l,Q2m,Q2n,Q2o,Q2p,Q2q,Q2r,clr,Q2s,Q2t,Q2u,Q2v,beq_self_eq_true,Q2w,Q2x,Q2y,Q2z,Q30,Q31,Q32,Q33,Q34,Q35,Q36,Q37,Q38,Q39,Q3a,Q3b,Q3c,Q3d,if_false,if_true,Q3e,Q3f,Q3g,Q3h,decide_eq_true_eq,Q3i,Q3j,Q3k,Q3l,Q3m,Q3n,Q3o,Q3p,reduceIte,reduceCtorEq,Q3q,Q3r,Q3s,Q3t,Q3u,Q3v,Q3w,Q3x,Q3y,Q3z,and_true,true_and,and_self,Q40,Q41,Q42,Q43,na2,na3,na4,na5,na6,na9,Q44,Q45,Q46,Q47,Q48,ne_eq,not_false_eq_true]
  simp only [hh16]
  simp only [Q0,Q1,Q2,Q3,Q4,Q5,Q6,Q7,Q8,Q9,Qa,Qb,Qc,Qd,Qe,Qf,Qg,Qh,Qi,Qj,Qk,Ql,Qm,Qn,Qo,Qp,Qq,Qr,Qs,Qt,Qu,Qv,Qw,Qx,Qy,Qz,Q10,Q11,Q12,Q13,Q14,Q15,Q16,Q17,Q18,Q19,Q1a,Q1b,Q1c,Q1d,Q1e,Q1f,Q1g,Q1h,Q1i,Q1i,Q1j,Q1k,Q1l,Q1m,Q1n,Q1o,Q1p,Q1q,Q1r,Q1s,rvV,Q1t,rvD,Q1u,Q1v,Q1w,Q1x,Q1y,Q1z,Q20,Q21,Q22,Q23,Q24,Q25,Q26,Q27,Q28,Q29,Q2a,leD,ltD,Q2e,Q2f,Q2g,Q2h,Q2i,Q2j,Q2k,Q2l,Q2m,Q2n,Q2o,Q2p,Q2q,Q2r,clr,Q2s,Q2t,Q2u,Q2v,beq_self_eq_true,Q2w,Q2x,Q2y,Q2z,Q30,Q31,Q32,Q33,Q34,Q35,Q36,Q37,Q38,Q39,Q3a,Q3b,Q3c,Q3d,if_false,if_true,Q3e,Q3f,Q3g,Q3h,decide_eq_true_eq,Q3i,Q3j,Q3k,Q3l,Q3m,Q3n,Q3o,Q3p,reduceIte,reduceCtorEq,Q3q,Q3r,Q3s,Q3t,Q3u,Q3v,Q3w,Q3x,Q3y,Q3z,and_true,true_and,and_self,Q40,Q41,Q42,Q43,na2,na3,na4,na5,na6,na9,Q44,Q45,Q46,Q47,Q48,ne_eq,not_false_eq_true]
  rw [show rangeL 0 2 = [.int (0 + (0 : Nat)), .int (0 + (1 : Nat))] from rfl, if_pos (by decide)]
  dsimp only
  rw [turn_eq n _ w _ ds b v _ _ _ _ _ _ hh18 h11 (eq_lists hs), turn_eq n _ w _ ds b v _ _ _ _ _ _ hh18 h11 (eq_lists hs), forB_nil]
  simp only [Q0,Q1,Q2,Q3,Q4,Q5,Q6,Q7,Q8,Q9,Qa,Qb,Qc,Qd,Qe,Qf,Qg,Qh,Qi,Qj,Qk,Ql,Qm,Qn,Qo,Qp,Qq,Qr,Qs,Qt,Qu,Qv,Qw,Qx,Qy,Qz,Q10,Q11,Q12,Q13,Q14,Q15,Q16,Q17,Q18,Q19,Q1a,Q1b,Q1c,Q1d,Q1e,Q1f,Q1g,Q1h,Q1i,Q1i,Q1j,Q1k,Q1l,Q1m,Q1n,Q1o,Q1p,Q1q,Q1r,Q1s,rvV,Q1t,rvD,Q1u,Q1v,Q1w,Q1x,Q1y,Q1z,Q20,Q21,Q22,Q23,Q24,Q25,Q26,Q27,Q28,Q29,Q2a,leD,ltD,Q2e,Q2f,Q2g,Q2h,Q2i,Q2j,Q2k,Q2l,Q2m,Q2n,Q2o,Q2p,Q2q,Q2r,clr,Q2s,Q2t,Q2u,Q2v,beq_self_eq_true,Q2w,Q2x,Q2y,Q2z,Q30,Q31,Q32,Q33,Q34,Q35,Q36,Q37,Q38,Q39,Q3a,Q3b,Q3c,Q3d,if_false,if_true,Q3e,Q3f,Q3g,Q3h,decide_eq_true_eq,Q3i,Q3j,Q3k,Q3l,Q3m,Q3n,Q3o,Q3p,reduceIte,reduceCtorEq,Q3q,Q3r,Q3s,Q3t,Q3u,Q3v,Q3w,Q3x,Q3y,Q3z,and_true,true_and,and_self,Q40,Q41,Q42,Q43,na2,na3,na4,na5,na6,na9,Q44,Q45,Q46,Q47,Q48,ne_eq,not_false_eq_true]
  simp only [ends_ok]
  simp only [Q0,Q1,Q2,Q3,Q4,Q5,Q6,Q7,Q8,Q9,Qa,Qb,Qc,Qd,Qe,Qf,Qg,Qh,Qi,Qj,Qk,Ql,Qm,Qn,Qo,Qp,Qq,Qr,Qs,Qt,Qu,Qv,Qw,Qx,Qy,Qz,Q10,Q11,Q12,Q13,Q14,Q15,Q16,Q17,Q18,Q19,Q1a,Q1b,Q1c,Q1d,Q1e,Q1f,Q1g,Q1h,Q1i,Q1i,Q1j,Q1k,Q1l,Q1m,Q1n,Q1o,Q1p,Q1q,Q1r,Q1s,rvV,Q1t,rvD,Q1u,Q1v,Q1w,Q1x,Q1y,Q1z,Q20,Q21,Q22,Q23,Q24,Q25,Q26,Q27,Q28,Q29,Q2a,leD,ltD,Q2e,Q2f,Q2g,Q2h,Q2i,Q2j,Q2k,Q2l,Q2m,Q2n,Q2o,Q2p,Q2q,Q2r,clr,Q2s,Q2t,Q2u,Q2v,beq_self_eq_true,Q2w,Q2x,Q2y,Q2z,Q30,Q31,Q32,Q33,Q34,Q35,Q36,Q37,Q38,Q39,Q3a,Q3b,Q3c,Q3d,if_false,if_true,Q3e,Q3f,Q3g,Q3h,decide_eq_true_eq,Q3i,Q3j,Q3k,Q3l,Q3m,Q3n,Q3o,Q3p,reduceIte,reduceCtorEq,Q3q,Q3r,Q3s,Q3t,Q3u,Q3v,Q3w,Q3x,Q3y,Q3z,and_true,true_and,and_self,Q40,Q41,Q42,Q43,na2,na3,na4,na5,na6,na9,Q44,Q45,Q46,Q47,Q48,ne_eq,not_false_eq_true]
theorem law_eq (n : Nat) (xs : List Int) : callF P (n+71) false 21 [.fz (.list (xs.map .int))] = some (.ok (.fz (.bool true)), []) := by
  obtain ⟨c0, h0⟩ := cell (n+69) xs 0 (by decide)
  have hr := fm c0 12 (by decide)
  have hq := fm (c0.fdiv 12) 9 (by decide)
  obtain ⟨w, bi, bl, hw, hin, hl, hkey⟩ := word_case (n+64) (by omega) (c0.fmod 12) hr.1 hr.2 ((c0.fdiv 12).fmod 9).toNat (by omega)
  rw [call_21, f_law_eq]
  simp only [runF_eq, exSs_cons, exS_asg, Tgt.isTup, Bool.and_false, Bool.false_eq_true, if_false, ev12]
  simp only [Q0,Q1,Q2,Q3,Q4,Q5,Q6,Q7,Q8,Q9,Qa,Qb,Qc,Qd,Qe,Qf,Qg,Qh,Qi,Qj,Qk,Ql,Qm,Qn,Qo,Qp,Qq,Qr,Qs,Qt,Qu,Qv,Qw,Qx,Qy,Qz,Q10,Q11,Q12,Q13,Q14,Q15,Q16,Q17,Q18,Q19,Q1a,Q1b,Q1c,Q1d,Q1e,Q1f,Q1g,Q1h,Q1i,Q1i,Q1j,Q1k,Q1l,Q1m,Q1n,Q1o,Q1p,Q1q,Q1r,Q1s,rvV,Q1t,rvD,Q1u,Q1v,Q1w,Q1x,Q1y,Q1z,Q20,Q21,Q22,Q23,Q24,Q25,Q26,Q27,Q28,Q29,Q2a,leD,ltD,Q2e,Q2f,Q2g,Q2h,Q2i,Q2j,Q2k,Q2l,Q2m,Q2n,Q2o,Q2p,Q2q,Q2r,clr,Q2s,Q2t,Q2u,Q2v,beq_self_eq_true,Q2w,Q2x,Q2y,Q2z,Q30,Q31,Q32,Q33,Q34,Q35,Q36,Q37,Q38,Q39,Q3a,Q3b,Q3c,Q3d,if_false,if_true,Q3e,Q3f,Q3g,Q3h,decide_eq_true_eq,Q3i,Q3j,Q3k,Q3l,Q3m,Q3n,Q3o,Q3p,reduceIte,reduceCtorEq,Q3q,Q3r,Q3s,Q3t,Q3u,Q3v,Q3w,Q3x,Q3y,Q3z,and_true,true_and,and_self,Q40,Q41,Q42,Q43,na2,na3,na4,na5,na6,na9,Q44,Q45,Q46,Q47,Q48,ne_eq,not_false_eq_true]
  unfold tA
  simp only [Q0,Q1,Q2,Q3,Q4,Q5,Q6,Q7,Q8,Q9,Qa,Qb,Qc,Qd,Qe,Qf,Qg,Qh,Qi,Qj,Qk,Ql,Qm,Qn,Qo,Qp,Qq,Qr,Qs,Qt,Qu,Qv,Qw,Qx,Qy,Qz,Q10,Q11,Q12,Q13,Q14,Q15,Q16,Q17,Q18,Q19,Q1a,Q1b,Q1c,Q1d,Q1e,Q1f,Q1g,Q1h,Q1i,Q1i,Q1j,Q1k,Q1l,Q1m,Q1n,Q1o,Q1p,Q1q,Q1r,Q1s,rvV,Q1t,rvD,Q1u,Q1v,Q1w,Q1x,Q1y,Q1z,Q20,Q21,Q22,Q23,Q24,Q25,Q26,Q27,Q28,Q29,Q2a,leD,ltD,Q2e,Q2f,Q2g,Q2h,Q2i,Q2j,Q2k,Q2l,Q2m,Q2n,Q2o,Q2p,Q2q,Q2r,clr,Q2s,Q2t,Q2u,Q2v,beq_self_eq_true,Q2w,Q2x,Q2y,Q2z,Q30,Q31,Q32,Q33,Q34,Q35,Q36,Q37,Q38,Q39,Q3a,Q3b,Q3c,Q3d,if_false,if_true,Q3e,Q3f,Q3g,Q3h,decide_eq_true_eq,Q3i,Q3j,Q3k,Q3l,Q3m,Q3n,Q3o,Q3p,reduceIte,reduceCtorEq,Q3q,Q3r,Q3s,Q3t,Q3u,Q3v,Q3w,Q3x,Q3y,Q3z,and_true,true_and,and_self,Q40,Q41,Q42,Q43,na2,na3,na4,na5,na6,na9,Q44,Q45,Q46,Q47,Q48,ne_eq,not_false_eq_true]
  simp only [h0]
  simp only [Q0,Q1,Q2,Q3,Q4,Q5,Q6,Q7,Q8,Q9,Qa,Qb,Qc,Qd,Qe,Qf,Qg,Qh,Qi,Qj,Qk,Ql,Qm,Qn,Qo,Qp,Qq,Qr,Qs,Qt,Qu,Qv,Qw,Qx,Qy,Qz,Q10,Q11,Q12,Q13,Q14,Q15,Q16,Q17,Q18,Q19,Q1a,Q1b,Q1c,Q1d,Q1e,Q1f,Q1g,Q1h,Q1i,Q1i,Q1j,Q1k,Q1l,Q1m,Q1n,Q1o,Q1p,Q1q,Q1r,Q1s,rvV,Q1t,rvD,Q1u,Q1v,Q1w,Q1x,Q1y,Q1z,Q20,Q21,Q22,Q23,Q24,Q25,Q26,Q27,Q28,Q29,Q2a,leD,ltD,Q2e,Q2f,Q2g,Q2h,Q2i,Q2j,Q2k,Q2l,Q2m,Q2n,Q2o,Q2p,Q2q,Q2r,clr,Q2s,Q2t,Q2u,Q2v,beq_self_eq_true,Q2w,Q2x,Q2y,Q2z,Q30,Q31,Q32,Q33,Q34,Q35,Q36,Q37,Q38,Q39,Q3a,Q3b,Q3c,Q3d,if_false,if_true,Q3e,Q3f,Q3g,Q3h,decide_eq_true_eq,Q3i,Q3j,Q3k,Q3l,Q3m,Q3n,Q3o,Q3p,reduceIte,reduceCtorEq,Q3q,Q3r,Q3s,Q3t,Q3u,Q3v,Q3w,Q3x,Q3y,Q3z,and_true,true_and,and_self,Q40,Q41,Q42,Q43,na2,na3,na4,na5,na6,na9,Q44,Q45,Q46,Q47,Q48,ne_eq,not_false_eq_true]
  rw [show idxOf words (c0.fmod 12) = some w from hw]
  simp only [Q0,Q1,Q2,Q3,Q4,Q5,Q6,Q7,Q8,Q9,Qa,Qb,Qc,Qd,Qe,Qf,Qg,Qh,Qi,Qj,Qk,Ql,Qm,Qn,Qo,Qp,Qq,Qr,Qs,Qt,Qu,Qv,Qw,Qx,Qy,Qz,Q10,Q11,Q12,Q13,Q14,Q15,Q16,Q17,Q18,Q19,Q1a,Q1b,Q1c,Q1d,Q1e,Q1f,Q1g,Q1h,Q1i,Q1i,Q1j,Q1k,Q1l,Q1m,Q1n,Q1o,Q1p,Q1q,Q1r,Q1s,rvV,Q1t,rvD,Q1u,Q1v,Q1w,Q1x,Q1y,Q1z,Q20,Q21,Q22,Q23,Q24,Q25,Q26,Q27,Q28,Q29,Q2a,leD,ltD,Q2e,Q2f,Q2g,Q2h,Q2i,Q2j,Q2k,Q2l,Q2m,Q2n,Q2o,Q2p,Q2q,Q2r,clr,Q2s,Q2t,Q2u,Q2v,beq_self_eq_true,Q2w,Q2x,Q2y,Q2z,Q30,Q31,Q32,Q33,Q34,Q35,Q36,Q37,Q38,Q39,Q3a,Q3b,Q3c,Q3d,if_false,if_true,Q3e,Q3f,Q3g,Q3h,decide_eq_true_eq,Q3i,Q3j,Q3k,Q3l,Q3m,Q3n,Q3o,Q3p,reduceIte,reduceCtorEq,Q3q,Q3r,Q3s,Q3t,Q3u,Q3v,Q3w,Q3x,Q3y,Q3z,and_true,true_and,and_self,Q40,Q41,Q42,Q43,na2,na3,na4,na5,na6,na9,Q44,Q45,Q46,Q47,Q48,ne_eq,not_false_eq_true]
  unfold tB
  simp only [exSs_cons, exS_asg, Tgt.isTup, Bool.and_false, Bool.false_eq_true, if_false, exS_iff, ev_cmp, ev4]
  simp only [Q0,Q1,Q2,Q3,Q4,Q5,Q6,Q7,Q8,Q9,Qa,Qb,Qc,Qd,Qe,Qf,Qg,Qh,Qi,Qj,Qk,Ql,Qm,Qn,Qo,Qp,Qq,Qr,Qs,Qt,Qu,Qv,Qw,Qx,Qy,Qz,Q10,Q11,Q12,Q13,Q14,Q15,Q16,Q17,Q18,Q19,Q1a,Q1b,Q1c,Q1d,Q1e,Q1f,Q1g,Q1h,Q1i,Q1i,Q1j,Q1k,Q1l,Q1m,Q1n,Q1o,Q1p,Q1q,Q1r,Q1s,rvV,Q1t,rvD,Q1u,Q1v,Q1w,Q1x,Q1y,Q1z,Q20,Q21,Q22,Q23,Q24,Q25,Q26,Q27,Q28,Q29,Q2a,leD,ltD,Q2e,Q2f,Q2g,Q2h,Q2i,Q2j,Q2k,Q2l,Q2m,Q2n,Q2o,Q2p,Q2q,Q2r,clr,Q2s,Q2t,Q2u,Q2v,beq_self_eq_true,Q2w,Q2x,Q2y,Q2z,Q30,Q31,Q32,Q33,Q34,Q35,Q36,Q37,Q38,Q39,Q3a,Q3b,Q3c,Q3d,if_false,if_true,Q3e,Q3f,Q3g,Q3h,decide_eq_true_eq,Q3i,Q3j,Q3k,Q3l,Q3m,Q3n,Q3o,Q3p,reduceIte,reduceCtorEq,Q3q,Q3r,Q3s,Q3t,Q3u,Q3v,Q3w,Q3x,Q3y,Q3z,and_true,true_and,and_self,Q40,Q41,Q42,Q43,na2,na3,na4,na5,na6,na9,Q44,Q45,Q46,Q47,Q48,ne_eq,not_false_eq_true]
  simp only [show inD w (.tuple [w_first, w_rest, w_empty, w_down]) = some bi from hin]
  simp only [Q0,Q1,Q2,Q3,Q4,Q5,Q6,Q7,Q8,Q9,Qa,Qb,Qc,Qd,Qe,Qf,Qg,Qh,Qi,Qj,Qk,Ql,Qm,Qn,Qo,Qp,Qq,Qr,Qs,Qt,Qu,Qv,Qw,Qx,Qy,Qz,Q10,Q11,Q12,Q13,Q14,Q15,Q16,Q17,Q18,Q19,Q1a,Q1b,Q1c,Q1d,Q1e,Q1f,Q1g,Q1h,Q1i,Q1i,Q1j,Q1k,Q1l,Q1m,Q1n,Q1o,Q1p,Q1q,Q1r,Q1s,rvV,Q1t,rvD,Q1u,Q1v,Q1w,Q1x,Q1y,Q1z,Q20,Q21,Q22,Q23,Q24,Q25,Q26,Q27,Q28,Q29,Q2a,leD,ltD,Q2e,Q2f,Q2g,Q2h,Q2i,Q2j,Q2k,Q2l,Q2m,Q2n,Q2o,Q2p,Q2q,Q2r,clr,Q2s,Q2t,Q2u,Q2v,beq_self_eq_true,Q2w,Q2x,Q2y,Q2z,Q30,Q31,Q32,Q33,Q34,Q35,Q36,Q37,Q38,Q39,Q3a,Q3b,Q3c,Q3d,if_false,if_true,Q3e,Q3f,Q3g,Q3h,decide_eq_true_eq,Q3i,Q3j,Q3k,Q3l,Q3m,Q3n,Q3o,Q3p,reduceIte,reduceCtorEq,Q3q,Q3r,Q3s,Q3t,Q3u,Q3v,Q3w,Q3x,Q3y,Q3z,and_true,true_and,and_self,Q40,Q41,Q42,Q43,na2,na3,na4,na5,na6,na9,Q44,Q45,Q46,Q47,Q48,ne_eq,not_false_eq_true]
  cases bl with
  | true =>
    have t := tail_ok n xs w ((c0.fdiv 12).fmod 9).toNat (by omega) fun ds h1 h2 => hkey ds h1 (by rw [if_pos rfl]; exact h2)
    rw [Int.toNat_of_nonneg hq.1] at t
    cases bi <;>
    · simp only [Q0,Q1,Q2,Q3,Q4,Q5,Q6,Q7,Q8,Q9,Qa,Qb,Qc,Qd,Qe,Qf,Qg,Qh,Qi,Qj,Qk,Ql,Qm,Qn,Qo,Qp,Qq,Qr,Qs,Qt,Qu,Qv,Qw,Qx,Qy,Qz,Q10,Q11,Q12,Q13,Q14,Q15,Q16,Q17,Q18,Q19,Q1a,Q1b,Q1c,Q1d,Q1e,Q1f,Q1g,Q1h,Q1i,Q1i,Q1j,Q1k,Q1l,Q1m,Q1n,Q1o,Q1p,Q1q,Q1r,Q1s,rvV,Q1t,rvD,Q1u,Q1v,Q1w,Q1x,Q1y,Q1z,Q20,Q21,Q22,Q23,Q24,Q25,Q26,Q27,Q28,Q29,Q2a,leD,ltD,Q2e,Q2f,Q2g,Q2h,Q2i,Q2j,Q2k,Q2l,Q2m,Q2n,Q2o,Q2p,Q2q,Q2r,clr,Q2s,Q2t,Q2u,Q2v,beq_self_eq_true,Q2w,Q2x,Q2y,Q2z,Q30,Q31,Q32,Q33,Q34,Q35,Q36,Q37,Q38,Q39,Q3a,Q3b,Q3c,Q3d,if_false,if_true,Q3e,Q3f,Q3g,Q3h,decide_eq_true_eq,Q3i,Q3j,Q3k,Q3l,Q3m,Q3n,Q3o,Q3p,reduceIte,reduceCtorEq,Q3q,Q3r,Q3s,Q3t,Q3u,Q3v,Q3w,Q3x,Q3y,Q3z,and_true,true_and,and_self,Q40,Q41,Q42,Q43,na2,na3,na4,na5,na6,na9,Q44,Q45,Q46,Q47,Q48,ne_eq,not_false_eq_true]
      unfold tC
      simp only [Q0,Q1,Q2,Q3,Q4,Q5,Q6,Q7,Q8,Q9,Qa,Qb,Qc,Qd,Qe,Qf,Qg,Qh,Qi,Qj,Qk,Ql,Qm,Qn,Qo,Qp,Qq,Qr,Qs,Qt,Qu,Qv,Qw,Qx,Qy,Qz,Q10,Q11,Q12,Q13,Q14,Q15,Q16,Q17,Q18,Q19,Q1a,Q1b,Q1c,Q1d,Q1e,Q1f,Q1g,Q1h,Q1i,Q1i,Q1j,Q1k,Q1l,Q1m,Q1n,Q1o,Q1p,Q1q,Q1r,Q1s,rvV,Q1t,rvD,Q1u,Q1v,Q1w,Q1x,Q1y,Q1z,Q20,Q21,Q22,Q23,Q24,Q25,Q26,Q27,Q28,Q29,Q2a,leD,ltD,Q2e,Q2f,Q2g,Q2h,Q2i,Q2j,Q2k,Q2l,Q2m,Q2n,Q2o,Q2p,Q2q,Q2r,clr,Q2s,Q2t,Q2u,Q2v,beq_self_eq_true,Q2w,Q2x,Q2y,Q2z,Q30,Q31,Q32,Q33,Q34,Q35,Q36,Q37,Q38,Q39,Q3a,Q3b,Q3c,Q3d,if_false,if_true,Q3e,Q3f,Q3g,Q3h,decide_eq_true_eq,Q3i,Q3j,Q3k,Q3l,Q3m,Q3n,Q3o,Q3p,reduceIte,reduceCtorEq,Q3q,Q3r,Q3s,Q3t,Q3u,Q3v,Q3w,Q3x,Q3y,Q3z,and_true,true_and,and_self,Q40,Q41,Q42,Q43,na2,na3,na4,na5,na6,na9,Q44,Q45,Q46,Q47,Q48,ne_eq,not_false_eq_true]
      simp only [hl]
      simp only [Q0,Q1,Q2,Q3,Q4,Q5,Q6,Q7,Q8,Q9,Qa,Qb,Qc,Qd,Qe,Qf,Qg,Qh,Qi,Qj,Qk,Ql,Qm,Qn,Qo,Qp,Qq,Qr,Qs,Qt,Qu,Qv,Qw,Qx,Qy,Qz,Q10,Q11,Q12,Q13,Q14,Q15,Q16,Q17,Q18,Q19,Q1a,Q1b,Q1c,Q1d,Q1e,Q1f,Q1g,Q1h,Q1i,Q1i,Q1j,Q1k,Q1l,Q1m,Q1n,Q1o,Q1p,Q1q,Q1r,Q1s,rvV,Q1t,rvD,Q1u,Q1v,Q1w,Q1x,Q1y,Q1z,Q20,Q21,Q22,Q23,Q24,Q25,Q26,Q27,Q28,Q29,Q2a,leD,ltD,Q2e,Q2f,Q2g,Q2h,Q2i,Q2j,Q2k,Q2l,Q2m,Q2n,Q2o,Q2p,Q2q,Q2r,clr,Q2s,Q2t,Q2u,Q2v,beq_self_eq_true,Q2w,Q2x,Q2y,Q2z,Q30,Q31,Q32,Q33,Q34,Q35,Q36,Q37,Q38,Q39,Q3a,Q3b,Q3c,Q3d,if_false,if_true,Q3e,Q3f,Q3g,Q3h,decide_eq_true_eq,Q3i,Q3j,Q3k,Q3l,Q3m,Q3n,Q3o,Q3p,reduceIte,reduceCtorEq,Q3q,Q3r,Q3s,Q3t,Q3u,Q3v,Q3w,Q3x,Q3y,Q3z,and_true,true_and,and_self,Q40,Q41,Q42,Q43,na2,na3,na4,na5,na6,na9,Q44,Q45,Q46,Q47,Q48,ne_eq,not_false_eq_true]
      simp only [h0]
      simp only [Q0,Q1,Q2,Q3,Q4,Q5,Q6,Q7,Q8,Q9,Qa,Qb,Qc,Qd,Qe,Qf,Qg,Qh,Qi,Qj,Qk,Ql,Qm,Qn,Qo,Qp,Qq,Qr,Qs,Qt,Qu,Qv,Qw,Qx,Qy,Qz,Q10,Q11,Q12,Q13,Q14,Q15,Q16,Q17,Q18,Q19,Q1a,Q1b,Q1c,Q1d,Q1e,Q1f,Q1g,Q1h,Q1i,Q1i,Q1j,Q1k,Q1l,Q1m,Q1n,Q1o,Q1p,Q1q,Q1r,Q1s,rvV,Q1t,rvD,Q1u,Q1v,Q1w,Q1x,Q1y,Q1z,Q20,Q21,Q22,Q23,Q24,Q25,Q26,Q27,Q28,Q29,Q2a,leD,ltD,Q2e,Q2f,Q2g,Q2h,Q2i,Q2j,Q2k,Q2l,Q2m,Q2n,Q2o,Q2p,Q2q,Q2r,clr,Q2s,Q2t,Q2u,Q2v,beq_self_eq_true,Q2w,Q2x,Q2y,Q2z,Q30,Q31,Q32,Q33,Q34,Q35,Q36,Q37,Q38,Q39,Q3a,Q3b,Q3c,Q3d,if_false,if_true,Q3e,Q3f,Q3g,Q3h,decide_eq_true_eq,Q3i,Q3j,Q3k,Q3l,Q3m,Q3n,Q3o,Q3p,reduceIte,reduceCtorEq,Q3q,Q3r,Q3s,Q3t,Q3u,Q3v,Q3w,Q3x,Q3y,Q3z,and_true,true_and,and_self,Q40,Q41,Q42,Q43,na2,na3,na4,na5,na6,na9,Q44,Q45,Q46,Q47,Q48,ne_eq,not_false_eq_true]
      exact t
  | false =>
    cases bi with
    | true =>
      have t := tail_ok n xs w 1 (by decide) fun ds h1 h2 => hkey ds h1 (by rw [if_neg Bool.false_ne_true, if_pos rfl]; exact h2)
      simp only [Q0,Q1,Q2,Q3,Q4,Q5,Q6,Q7,Q8,Q9,Qa,Qb,Qc,Qd,Qe,Qf,Qg,Qh,Qi,Qj,Qk,Ql,Qm,Qn,Qo,Qp,Qq,Qr,Qs,Qt,Qu,Qv,Qw,Qx,Qy,Qz,Q10,Q11,Q12,Q13,Q14,Q15,Q16,Q17,Q18,Q19,Q1a,Q1b,Q1c,Q1d,Q1e,Q1f,Q1g,Q1h,Q1i,Q1i,Q1j,Q1k,Q1l,Q1m,Q1n,Q1o,Q1p,Q1q,Q1r,Q1s,rvV,Q1t,rvD,Q1u,Q1v,Q1w,Q1x,Q1y,Q1z,Q20,Q21,Q22,Q23,Q24,Q25,Q26,Q27,Q28,Q29,Q2a,leD,ltD,Q2e,Q2f,Q2g,Q2h,Q2i,Q2j,Q2k,Q2l,Q2m,Q2n,Q2o,Q2p,Q2q,Q2r,clr,Q2s,Q2t,Q2u,Q2v,beq_self_eq_true,Q2w,Q2x,Q2y,Q2z,Q30,Q31,Q32,Q33,Q34,Q35,Q36,Q37,Q38,Q39,Q3a,Q3b,Q3c,Q3d,if_false,if_true,Q3e,Q3f,Q3g,Q3h,decide_eq_true_eq,Q3i,Q3j,Q3k,Q3l,Q3m,Q3n,Q3o,Q3p,reduceIte,reduceCtorEq,Q3q,Q3r,Q3s,Q3t,Q3u,Q3v,Q3w,Q3x,Q3y,Q3z,and_true,true_and,and_self,Q40,Q41,Q42,Q43,na2,na3,na4,na5,na6,na9,Q44,Q45,Q46,Q47,Q48,ne_eq,not_false_eq_true]
      unfold tC
      simp only [Q0,Q1,Q2,Q3,Q4,Q5,Q6,Q7,Q8,Q9,Qa,Qb,Qc,Qd,Qe,Qf,Qg,Qh,Qi,Qj,Qk,Ql,Qm,Qn,Qo,Qp,Qq,Qr,Qs,Qt,Qu,Qv,Qw,Qx,Qy,Qz,Q10,Q11,Q12,Q13,Q14,Q15,Q16,Q17,Q18,Q19,Q1a,Q1b,Q1c,Q1d,Q1e,Q1f,Q1g,Q1h,Q1i,Q1i,Q1j,Q1k,Q1l,Q1m,Q1n,Q1o,Q1p,Q1q,Q1r,Q1s,rvV,Q1t,rvD,Q1u,Q1v,Q1w,Q1x,Q1y,Q1z,Q20,Q21,Q22,Q23,Q24,Q25,Q26,Q27,Q28,Q29,Q2a,leD,ltD,Q2e,Q2f,Q2g,Q2h,Q2i,Q2j,Q2k,Q2l,Q2m,Q2n,Q2o,Q2p,Q2q,Q2r,clr,Q2s,Q2t,Q2u,Q2v,beq_self_eq_true,Q2w,Q2x,Q2y,Q2z,Q30,Q31,Q32,Q33,Q34,Q35,Q36,Q37,Q38,Q39,Q3a,Q3b,Q3c,Q3d,if_false,if_true,Q3e,Q3f,Q3g,Q3h,decide_eq_true_eq,Q3i,Q3j,Q3k,Q3l,Q3m,Q3n,Q3o,Q3p,reduceIte,reduceCtorEq,Q3q,Q3r,Q3s,Q3t,Q3u,Q3v,Q3w,Q3x,Q3y,Q3z,and_true,true_and,and_self,Q40,Q41,Q42,Q43,na2,na3,na4,na5,na6,na9,Q44,Q45,Q46,Q47,Q48,ne_eq,not_false_eq_true]
      simp only [hl]
      simp only [Q0,Q1,Q2,Q3,Q4,Q5,Q6,Q7,Q8,Q9,Qa,Qb,Qc,Qd,Qe,Qf,Qg,Qh,Qi,Qj,Qk,Ql,Qm,Qn,Qo,Qp,Qq,Qr,Qs,Qt,Qu,Qv,Qw,Qx,Qy,Qz,Q10,Q11,Q12,Q13,Q14,Q15,Q16,Q17,Q18,Q19,Q1a,Q1b,Q1c,Q1d,Q1e,Q1f,Q1g,Q1h,Q1i,Q1i,Q1j,Q1k,Q1l,Q1m,Q1n,Q1o,Q1p,Q1q,Q1r,Q1s,rvV,Q1t,rvD,Q1u,Q1v,Q1w,Q1x,Q1y,Q1z,Q20,Q21,Q22,Q23,Q24,Q25,Q26,Q27,Q28,Q29,Q2a,leD,ltD,Q2e,Q2f,Q2g,Q2h,Q2i,Q2j,Q2k,Q2l,Q2m,Q2n,Q2o,Q2p,Q2q,Q2r,clr,Q2s,Q2t,Q2u,Q2v,beq_self_eq_true,Q2w,Q2x,Q2y,Q2z,Q30,Q31,Q32,Q33,Q34,Q35,Q36,Q37,Q38,Q39,Q3a,Q3b,Q3c,Q3d,if_false,if_true,Q3e,Q3f,Q3g,Q3h,decide_eq_true_eq,Q3i,Q3j,Q3k,Q3l,Q3m,Q3n,Q3o,Q3p,reduceIte,reduceCtorEq,Q3q,Q3r,Q3s,Q3t,Q3u,Q3v,Q3w,Q3x,Q3y,Q3z,and_true,true_and,and_self,Q40,Q41,Q42,Q43,na2,na3,na4,na5,na6,na9,Q44,Q45,Q46,Q47,Q48,ne_eq,not_false_eq_true]
      exact t
    | false =>
      have t := tail_ok n xs w 2 (by decide) fun ds h1 h2 => hkey ds h1 (by rw [if_neg Bool.false_ne_true, if_neg Bool.false_ne_true]; exact h2)
      simp only [Q0,Q1,Q2,Q3,Q4,Q5,Q6,Q7,Q8,Q9,Qa,Qb,Qc,Qd,Qe,Qf,Qg,Qh,Qi,Qj,Qk,Ql,Qm,Qn,Qo,Qp,Qq,Qr,Qs,Qt,Qu,Qv,Qw,Qx,Qy,Qz,Q10,Q11,Q12,Q13,Q14,Q15,Q16,Q17,Q18,Q19,Q1a,Q1b,Q1c,Q1d,Q1e,Q1f,Q1g,Q1h,Q1i,Q1i,Q1j,Q1k,Q1l,Q1m,Q1n,Q1o,Q1p,Q1q,Q1r,Q1s,rvV,Q1t,rvD,Q1u,Q1v,Q1w,Q1x,Q1y,Q1z,Q20,Q21,Q22,Q23,Q24,Q25,Q26,Q27,Q28,Q29,Q2a,leD,ltD,Q2e,Q2f,Q2g,Q2h,Q2i,Q2j,Q2k,Q2l,Q2m,Q2n,Q2o,Q2p,Q2q,Q2r,clr,Q2s,Q2t,Q2u,Q2v,beq_self_eq_true,Q2w,Q2x,Q2y,Q2z,Q30,Q31,Q32,Q33,Q34,Q35,Q36,Q37,Q38,Q39,Q3a,Q3b,Q3c,Q3d,if_false,if_true,Q3e,Q3f,Q3g,Q3h,decide_eq_true_eq,Q3i,Q3j,Q3k,Q3l,Q3m,Q3n,Q3o,Q3p,reduceIte,reduceCtorEq,Q3q,Q3r,Q3s,Q3t,Q3u,Q3v,Q3w,Q3x,Q3y,Q3z,and_true,true_and,and_self,Q40,Q41,Q42,Q43,na2,na3,na4,na5,na6,na9,Q44,Q45,Q46,Q47,Q48,ne_eq,not_false_eq_true]
      unfold tC
      simp only [Q0,Q1,Q2,Q3,Q4,Q5,Q6,Q7,Q8,Q9,Qa,Qb,Qc,Qd,Qe,Qf,Qg,Qh,Qi,Qj,Qk,Ql,Qm,Qn,Qo,Qp,Qq,Qr,Qs,Qt,Qu,Qv,Qw,Qx,Qy,Qz,Q10,Q11,Q12,Q13,Q14,Q15,Q16,Q17,Q18,Q19,Q1a,Q1b,Q1c,Q1d,Q1e,Q1f,Q1g,Q1h,Q1i,Q1i,Q1j,Q1k,Q1l,Q1m,Q1n,Q1o,Q1p,Q1q,Q1r,Q1s,rvV,Q1t,rvD,Q1u,Q1v,Q1w,Q1x,Q1y,Q1z,Q20,Q21,Q22,Q23,Q24,Q25,Q26,Q27,Q28,Q29,Q2a,leD,ltD,Q2e,Q2f,Q2g,Q2h,Q2i,Q2j,Q2k,Q2l,Q2m,Q2n,Q2o,Q2p,Q2q,Q2r,clr,Q2s,Q2t,Q2u,Q2v,beq_self_eq_true,Q2w,Q2x,Q2y,Q2z,Q30,Q31,Q32,Q33,Q34,Q35,Q36,Q37,Q38,Q39,Q3a,Q3b,Q3c,Q3d,if_false,if_true,Q3e,Q3f,Q3g,Q3h,decide_eq_true_eq,Q3i,Q3j,Q3k,Q3l,Q3m,Q3n,Q3o,Q3p,reduceIte,reduceCtorEq,Q3q,Q3r,Q3s,Q3t,Q3u,Q3v,Q3w,Q3x,Q3y,Q3z,and_true,true_and,and_self,Q40,Q41,Q42,Q43,na2,na3,na4,na5,na6,na9,Q44,Q45,Q46,Q47,Q48,ne_eq,not_false_eq_true]
      simp only [hl]
      simp only [Q0,Q1,Q2,Q3,Q4,Q5,Q6,Q7,Q8,Q9,Qa,Qb,Qc,Qd,Qe,Qf,Qg,Qh,Qi,Qj,Qk,Ql,Qm,Qn,Qo,Qp,Qq,Qr,Qs,Qt,Qu,Qv,Qw,Qx,Qy,Qz,Q10,Q11,Q12,Q13,Q14,Q15,Q16,Q17,Q18,Q19,Q1a,Q1b,Q1c,Q1d,Q1e,Q1f,Q1g,Q1h,Q1i,Q1i,Q1j,Q1k,Q1l,Q1m,Q1n,Q1o,Q1p,Q1q,Q1r,Q1s,rvV,Q1t,rvD,Q1u,Q1v,Q1w,Q1x,Q1y,Q1z,Q20,Q21,Q22,Q23,Q24,Q25,Q26,Q27,Q28,Q29,Q2a,leD,ltD,Q2e,Q2f,Q2g,Q2h,Q2i,Q2j,Q2k,Q2l,Q2m,Q2n,Q2o,Q2p,Q2q,Q2r,clr,Q2s,Q2t,Q2u,Q2v,beq_self_eq_true,Q2w,Q2x,Q2y,Q2z,Q30,Q31,Q32,Q33,Q34,Q35,Q36,Q37,Q38,Q39,Q3a,Q3b,Q3c,Q3d,if_false,if_true,Q3e,Q3f,Q3g,Q3h,decide_eq_true_eq,Q3i,Q3j,Q3k,Q3l,Q3m,Q3n,Q3o,Q3p,reduceIte,reduceCtorEq,Q3q,Q3r,Q3s,Q3t,Q3u,Q3v,Q3w,Q3x,Q3y,Q3z,and_true,true_and,and_self,Q40,Q41,Q42,Q43,na2,na3,na4,na5,na6,na9,Q44,Q45,Q46,Q47,Q48,ne_eq,not_false_eq_true]
      exact t
end L02

end

open PySem PySem.W PyProof.Rows Mv
set_option Elab.async false
set_option maxRecDepth 100000
set_option maxHeartbeats 8000000
namespace L02
theorem loadAs {mg mb : Str → Option Value} {K : Frag} (hg : ∀ x, mg x = glOf K x) : ∀ {cs : List Str}, (cs.all fun x => (glOf K x).isSome) = true → LoadAs mg mb cs (cs.map (VOf K))
  | [], _ => trivial
  | x :: cs, h => by
    rw [List.all_cons, Bool.and_eq_true] at h
    obtain ⟨v, hv⟩ := Option.isSome_iff_exists.mp h.1
    refine ⟨.inl ?_, loadAs hg h.2⟩
    rw [hg, hv]; unfold VOf; rw [hv]; rfl
theorem defAt : (recsOf H02.view)[21]? = some H02.dk.1 := by kernel_rfl
end L02
theorem PySem.Challenge.cw_uf010005_02_holds : PySem.Challenge.rw_uf010005_02.Holds :=
  H02.hd (by
  intro w s₀ s₁ mg mb G Y fa o pm cd doc dV kV ho hd hcd hD hmg hg args vals as hpre hlay hrd hwl hlo
  have KX := kIn_of Y
  have V := (Ground.X G).2
  refine Ground.open G ?_
  intro T B D TE TW
  wrow_args hpre hlay hrd hwl hlo
  rename_i xs hs hlay0 hL hr hl2 w4 w3 l vs w0 hL' ra w1 r0 hI hr' hc1 hc2
  refine enter_call ?_
  obtain ⟨c, d, es, ep, sl, hkg⟩ := L02.kG w.params
  have hgl := glOf_ok KX T.g hkg
  letI hp : Hp := ⟨H02.p, w⟩
  refine law_top (hp := hp) (P := L02.P) (gl := L02.gls) (nss := L02.nss) (cls := L02.cls) (sb := L02.sb) (sbt := L02.sbt) (f := 21) (n := 71) (xs := xs) T L02.chk L02.chkF (owns_raise T PySem.F.excBase_ValueError L02.chkC) ?_ ?_ ?_ L02.defAt hmg w1 ?_ (by decide) hg ?_ ?_ (L02.law_eq 0 xs)
  · intro c yes no hl
    have := List.all_eq_true.mp (L02.chkA w.params) _ (lookup_mem hl)
    simp only [Bool.and_eq_true, Bool.or_eq_true, decide_eq_true_eq] at this
    obtain ⟨h1, h2⟩ := this
    refine ⟨L02.VOf (H02.K w.params) c, ?_, fun k C hk => entB_ok KX h1 k C (by rw [← hgl]; exact hk)⟩
    cases q : glOf (H02.K w.params) c with
    | some v => left; rw [hgl, q]; unfold L02.VOf; rw [q]; rfl
    | none =>
      rcases h2 with h2 | h2
      · rw [q] at h2; cases h2
      · right
        refine ⟨by rw [hgl, q], ?_⟩
        rw [T.builtins c (by rw [h2]; decide), h2, L02.bootVE, ← h2]
        unfold L02.VOf; rw [q]; rfl
  · intro cs yes no hl
    have := List.all_eq_true.mp (L02.chkT w.params) _ (lookup_mem hl)
    rw [Bool.and_eq_true] at this
    exact ⟨_, L02.loadAs hgl this.2, fun k C hk => entT_ok KX this.1 k C (by rw [← hgl]; exact hk)⟩
  · intro k x d hk hd'
    match k, hk, hd' with
    | 0, hk, hd' =>
      cases hk; cases hd'
      exact loose_int V (.head _)
    | 1, hk, hd' =>
      cases hk; cases hd'
      exact const_int T L02.vHeav
    | 2, hk, hd' =>
      cases hk; cases hd'
      refine ⟨.ref 150, (hgl _).trans (L02.gSing w.params), fun h' Z hk hz => ?_⟩
      have e := KX _ _ (L02.kSing w.params)
      exact .tuple (hz _ _ e) (hk _ _ e) (by decide) (.cons (.str _ _ (by kernel_rfl) (by decide)) (.cons (.str _ _ (by kernel_rfl) (by decide)) (.cons (.str _ _ (by kernel_rfl) (by decide)) (.cons (.str _ _ (by kernel_rfl) (by decide)) .nil))))
  · have : xs.length ≤ 63 := by omega
    exact Nat.le_trans this (by decide)
  · intro cls; rfl
  · wrow_post)

