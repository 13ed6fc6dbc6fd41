import PyProof.Rows.All
import Wide.All
import OpenK.AllK
import Wide.FinOn
import PySem.Str
import HandS.ForMost
import HandS.Slots
import HandS.Star
import HandS.Wide
import HandS.TupAny
import HandS.TupMul
import HandS.Deep
import HandS.IsInst
import HandS.Walk
import HandS.Zip
import HandS.Conv
import KE.GoesEnum
import HandS.Style
import HandS.Flow
import HandS.Strs
import HandS.SortInts
import PyProof.Rows.SortShellAny
import HandS.SetFor
import PyProof.ListNew
import KE.SortData
import KE.DataMinMax
import HandS.SortKw
import HandS.RevTup
import PySem.Challenge.RW_mixreads_k63_whole_ends_of_updates_do_no
set_option linter.all false
set_option Elab.async false
namespace Ev
open PySem

/-- frozen data (a tuple with k: its object is known to have no dict of its own, so that it may be asked for its methods); an instance of class c with its slots; a shared list -/
inductive D where
  | non | bl (b : Bool) | int (i : Int) | str (s : Str)
  | tup (k : Bool) (ds : List D) | lst (ds : List D) | dic (kvs : List (D × D))
  | ins (c : Nat) (fs : List D) | cell (n : Nat) | scr (is : List Int)
  deriving Inhabited

/-- what a slot holds: frozen data, a list or dict of the frame's own, the instance under construction -/
inductive M where
  | val (d : D) | own (ds : List D) | odic (kvs : List (D × D)) | slf (c : Nat)
/-- slots, shared lists -/
structure S where
  ρ : List (Option M)
  st : List (List D)
inductive Res (α : Type) where
  | ok (a : α) | exc (c : Nat) (ds : List D) (s : S) | stuck
def Res.bind {α β : Type} : Res α → (α → Res β) → Res β
  | .ok a, f => f a
  | .exc c ds s, _ => .exc c ds s
  | .stuck, _ => .stuck
@[simp] theorem Res.bind_ok {α β : Type} (a : α) (f : α → Res β) : (Res.ok a).bind f = f a := rfl
@[simp] theorem Res.bind_stuck {α β : Type} (f : α → Res β) : (Res.stuck : Res α).bind f = .stuck := rfl
@[simp] theorem Res.bind_exc {α β : Type} (c : Nat) (ds : List D) (s : S) (f : α → Res β) : (Res.exc c ds s : Res α).bind f = .exc c ds s := rfl
def Res.Sat {α : Type} (x : Res α) (P : α → Prop) : Prop := match x with
  | .ok a => P a
  | _ => False
theorem Res.sat_ok {α : Type} (a : α) (P : α → Prop) : (Res.ok a).Sat P = P a := rfl
theorem Res.sat_bind {α β : Type} (x : Res α) (f : α → Res β) (P : β → Prop) : (x.bind f).Sat P = x.Sat fun a => (f a).Sat P := by
  cases x <;> rfl
theorem Res.Sat.mono {α : Type} {x : Res α} {P P' : α → Prop} (h : x.Sat P) (k : ∀ a, P a → P' a) : x.Sat P' := by
  cases x with
  | ok a => exact k a h
  | exc _ _ _ => exact h
  | stuck => exact h
theorem Res.sat_iff {α : Type} {x : Res α} {P : α → Prop} : x.Sat P ↔ ∃ a, x = .ok a ∧ P a := by
  cases x with
  | ok a => exact ⟨fun h => ⟨a, rfl, h⟩, fun ⟨b, e, h⟩ => by cases e; exact h⟩
  | exc _ _ _ => exact ⟨fun h => h.elim, fun ⟨b, e, h⟩ => by cases e⟩
  | stuck => exact ⟨fun h => h.elim, fun ⟨b, e, h⟩ => by cases e⟩
theorem Res.sat_ite {α : Type} {c : Prop} [Decidable c] (x : Res α) (P : α → Prop) (h : (if c then x else .stuck).Sat P) : c ∧ x.Sat P := by
  by_cases hc : c
  · rw [if_pos hc] at h
    exact ⟨hc, h⟩
  · rw [if_neg hc] at h
    exact h.elim
/-- what an expression yields -/
inductive R where
  | val (d : D) | own (ds : List D) | odic (kvs : List (D × D)) | ref (i : Nat)
/-- an operand: frozen, or the frame's own object in slot i -/
inductive Op where
  | val (d : D) | ref (i : Nat)
/-- what a statement ends with -/
inductive Out where
  | nx | ret (m : M) | bk | ct

/-- calls: function, arguments, store -/
abbrev Cl := Nat → List D → List (List D) → Res (M × List (List D))
abbrev SE := Cl → S → Res (R × S)
abbrev SS := Cl → S → Res (Out × S)

/-- lists' and texts' greatest length -/
def szL : Nat := 16777216

def frz : R → S → Res (D × S)
  | .val d, s => .ok (d, s)
  | .own ds, s => .ok (.lst ds, s)
  | .odic kvs, s => .ok (.dic kvs, s)
  | .ref i, s => match s.ρ[i]? with
    | some (some (.own ds)) => .ok (.lst ds, ⟨s.ρ.set i (some (.val (.lst ds))), s.st⟩)
    | some (some (.odic kvs)) => .ok (.dic kvs, ⟨s.ρ.set i (some (.val (.dic kvs))), s.st⟩)
    | some (some (.val d)) => .ok (d, s)
    | _ => .stuck
def opd : R → Op
  | .val d => .val d
  | .own ds => .val (.lst ds)
  | .odic kvs => .val (.dic kvs)
  | .ref i => .ref i
def pk (ρ : List (Option M)) : Op → Res D
  | .val d => .ok d
  | .ref i => match ρ[i]? with
    | some (some (.own ds)) => .ok (.lst ds)
    | some (some (.odic kvs)) => .ok (.dic kvs)
    | some (some (.val d)) => .ok d
    | _ => .stuck
def pks (ρ : List (Option M)) : List Op → Res (List D)
  | [] => .ok []
  | o :: os => (pk ρ o).bind fun d => (pks ρ os).bind fun ds => .ok (d :: ds)

/-- the first one is a text -/
def sHd : List D → Bool
  | .str _ :: _ => true
  | _ => false
def varF (i : Nat) : SE := fun _ s => match s.ρ[i]? with
  | some (some (.val d)) => .ok (.val d, s)
  | some (some (.own _)) => .ok (.ref i, s)
  | some (some (.odic _)) => .ok (.ref i, s)
  | _ => .stuck
def cstF (d : D) : SE := fun _ s => .ok (.val d, s)
/-- operands from the left -/
def ops : List SE → Cl → S → Res (List Op × S)
  | [], _, s => .ok ([], s)
  | f :: fs, C, s => (f C s).bind fun (r, s1) => (ops fs C s1).bind fun (os, s2) => .ok (opd r :: os, s2)
/-- frozen, from the left -/
def frzs : List SE → Cl → S → Res (List D × S)
  | [], _, s => .ok ([], s)
  | f :: fs, C, s => (f C s).bind fun (r, s1) => (frz r s1).bind fun (d, s2) => (frzs fs C s2).bind fun (ds, s3) => .ok (d :: ds, s3)
/-- an operation on values that are looked at -/
def opE (g : List (List D) → List D → Res R) (fs : List SE) : SE := fun C s =>
  (ops fs C s).bind fun (os, s1) => (pks s1.ρ os).bind fun ds => (g s1.st ds).bind fun r => .ok (r, s1)
def tupF (fs : List SE) : SE := fun C s => (frzs fs C s).bind fun (ds, s1) => if ds.length ≤ szL then .ok (.val (.tup (sHd ds) ds), s1) else .stuck
def lstF (fs : List SE) : SE := fun C s => (frzs fs C s).bind fun (ds, s1) => if ds.length ≤ szL then .ok (.own ds, s1) else .stuck
def bool1 : R → Res Bool
  | .val (.bl b) => .ok b
  | _ => .stuck
/-- a test -/
def tst (f : SE) (C : Cl) (s : S) : Res (Bool × S) := (f C s).bind fun (r, s1) => (bool1 r).bind fun b => .ok (b, s1)
def andF (f g : SE) : SE := fun C s => (tst f C s).bind fun (b, s1) => if b then g C s1 else .ok (.val (.bl false), s1)
def orF (f g : SE) : SE := fun C s => (tst f C s).bind fun (b, s1) => if b then .ok (.val (.bl true), s1) else g C s1
def notF (f : SE) : SE := fun C s => (tst f C s).bind fun (b, s1) => .ok (.val (.bl (!b)), s1)
def iteF (c f g : SE) : SE := fun C s => (tst c C s).bind fun (b, s1) => if b then f C s1 else g C s1
def rOf : M → Res R
  | .val d => .ok (.val d)
  | .own ds => .ok (.own ds)
  | .odic kvs => .ok (.odic kvs)
  | .slf _ => .stuck
/-- f(args), a def of the table -/
def callF (k : Nat) (fs : List SE) : SE := fun C s =>
  (frzs fs C s).bind fun (ds, s1) => (C k ds s1.st).bind fun (m, st') => (rOf m).bind fun r => .ok (r, ⟨s1.ρ, st'⟩)
/-- f(x = .., ..): the arguments in the order in which they are written, then brought into the parameters' order -/
def callK (k : Nat) (perm : List Nat) (fs : List SE) : SE := fun C s =>
  (frzs fs C s).bind fun (ds, s1) => (C k (perm.filterMap (ds[·]?)) s1.st).bind fun (m, st') => (rOf m).bind fun r => .ok (r, ⟨s1.ρ, st'⟩)
def optR {α : Type} : Option α → Res α
  | some a => .ok a
  | none => .stuck
def insOf : R → Res (Nat × List D)
  | .val (.ins c ds) => .ok (c, ds)
  | _ => .stuck
/-- o.m(args): the class decides -/
def methF (ms : List (Nat × Nat)) (o : SE) (fs : List SE) : SE := fun C s =>
  (o C s).bind fun (r, s1) => (insOf r).bind fun (c, ds) => (frzs fs C s1).bind fun (as, s2) => (optR (ms.lookup c)).bind fun k =>
    (C k (.ins c ds :: as) s2.st).bind fun (m, st') => (rOf m).bind fun r => .ok (r, ⟨s2.ρ, st'⟩)
/-- o.f: by the class, the slot's place -/
def fldF (cs : List (Nat × Nat)) (o : SE) : SE := fun C s =>
  (o C s).bind fun (r, s1) => (insOf r).bind fun (c, ds) => (optR (cs.lookup c)).bind fun j => (optR ds[j]?).bind fun d => .ok (.val d, s1)

inductive Tg where
  | nm (i : Nat) | tp (ts : List Tg)
def sto (i : Nat) (m : M) (ρ : List (Option M)) : Res (List (Option M)) := if i < ρ.length then .ok (ρ.set i (some m)) else .stuck
mutual
def bindT : Tg → D → List (Option M) → Res (List (Option M))
  | .nm i, d, ρ => sto i (.val d) ρ
  | .tp ts, .tup _ ds, ρ => bindTs ts ds ρ
  | .tp _, _, _ => .stuck
def bindTs : List Tg → List D → List (Option M) → Res (List (Option M))
  | [], [], ρ => .ok ρ
  | t :: ts, d :: ds, ρ => (bindT t d ρ).bind fun ρ1 => bindTs ts ds ρ1
  | _, _, _ => .stuck
end

/-- the items of an iterable, as frozen data -/
def itemsOf (st : List (List D)) : D → Res (List D)
  | .lst ds => .ok ds
  | .tup _ ds => .ok ds
  | _ => .stuck
abbrev SI := Cl → S → Res (List D × S)
/-- over a value: frozen first -/
def itF (f : SE) : SI := fun C s => (f C s).bind fun (r, s1) => (frz r s1).bind fun (d, s2) => (itemsOf s2.st d).bind fun ds => .ok (ds, s2)
def rngL (lo : Int) (n : Nat) (c : Int) : List D := (List.range n).map fun (k : Nat) => D.int (lo + k * c)
def int1 : R → Res Int
  | .val (.int i) => .ok i
  | _ => .stuck
/-- bounds that no tactic shall look into -/
def okR (j : Int) : Bool := Nat.ble j.natAbs 4611686018427387903
theorem okR_iff {j : Int} : okR j = true ↔ -4611686018427387903 ≤ j ∧ j ≤ 4611686018427387903 := by
  unfold okR
  rw [Nat.ble_eq]
  omega
def okP (j : Int) : Bool := Nat.ble j.natAbs 9223372036854775807
theorem okP_iff {j : Int} : okP j = true ↔ -9223372036854775807 ≤ j ∧ j ≤ 9223372036854775807 := by
  unfold okP
  rw [Nat.ble_eq]
  omega
def okM (j : Int) : Bool := Nat.ble j.natAbs 18446744073709551615
theorem okM_iff {j : Int} : okM j = true ↔ -(2 ^ 64) < j ∧ j < 2 ^ 64 := by
  unfold okM
  rw [Nat.ble_eq]
  omega
def rng1F (f : SE) : SI := fun C s => (f C s).bind fun (r, s1) => (int1 r).bind fun j =>
  if okR j = true then .ok (rngL 0 j.toNat 1, s1) else .stuck
def rng2F (f g : SE) : SI := fun C s => (f C s).bind fun (r, s1) => (int1 r).bind fun i => (g C s1).bind fun (r2, s2) => (int1 r2).bind fun j =>
  if okR i = true ∧ okR j = true then .ok (rngL i (j - i).toNat 1, s2) else .stuck
/-- enumerate(x, k) -/
def enumL (k : Int) : List D → List D
  | [] => []
  | d :: ds => .tup false [.int k, d] :: enumL (k + 1) ds
def enumF (k : Int) (f : SE) : SI := fun C s => (itF f C s).bind fun (ds, s1) => .ok (enumL k ds, s1)
def zipL : List D → List D → List D
  | a :: as, b :: bs => .tup false [a, b] :: zipL as bs
  | _, _ => []
def zipF (f g : SE) : SI := fun C s => (frzs [f, g] C s).bind fun (ds, s1) => match ds with
  | [.lst as, .lst bs] => .ok (zipL as bs, s1)
  | [.tup _ as, .tup _ bs] => .ok (zipL as bs, s1)
  | _ => .stuck

def wipeR (ρ : List (Option M)) : List Nat → List (Option M)
  | [] => ρ
  | v :: vs => (wipeR ρ vs).set v none
/-- the slots vs as they were in ρ0 -/
def backR (ρ0 : List (Option M)) (ρ : List (Option M)) : List Nat → List (Option M)
  | [] => ρ
  | v :: vs => (backR ρ0 ρ vs).set v (ρ0[v]?.getD none)
def isVal : Option M → Bool
  | some (.own _) => false
  | some (.odic _) => false
  | some (.slf _) => false
  | _ => true
/-- the ifs of a clause -/
def ifsF : List SE → Cl → S → Res (Bool × S)
  | [], _, s => .ok (true, s)
  | c :: cs, C, s => (tst c C s).bind fun (b, s1) => if b then ifsF cs C s1 else .ok (false, s1)
/-- one turn: bind, test, yield -/
def lcTurn (tg : Tg) (ifs : List SE) (el : SE) (vs : List Nat) (C : Cl) (d : D) (s : S) : Res (Option D × S) :=
  (bindT tg d (wipeR s.ρ vs)).bind fun ρ1 => (ifsF ifs C ⟨ρ1, s.st⟩).bind fun (b, s2) =>
    if b then (el C s2).bind fun (r, s3) => (frz r s3).bind fun (x, s4) => .ok (some x, ⟨wipeR s4.ρ vs, s4.st⟩) else .ok (none, ⟨wipeR s2.ρ vs, s2.st⟩)
def lcGo (turn : D → S → Res (Option D × S)) : List D → List D → S → Res (List D × S)
  | [], acc, s => .ok (acc, s)
  | d :: ds, acc, s => (turn d s).bind fun (o, s1) => match o with
    | some x => if acc.length < szL then lcGo turn ds (acc ++ [x]) s1 else .stuck
    | none => lcGo turn ds acc s1
/-- [el for tg in it if ..] -/
def lcF (vs : List Nat) (tg : Tg) (it : SI) (ifs : List SE) (el : SE) : SE := fun C s =>
  (it C s).bind fun (ds, s1) => if vs.all (fun v => isVal (s1.ρ[v]?.getD none)) then
    (lcGo (lcTurn tg ifs el vs C) ds [] ⟨wipeR s1.ρ vs, s1.st⟩).bind fun (out, s2) => .ok (.own out, ⟨backR s1.ρ s2.ρ vs, s2.st⟩)
  else .stuck
/-- the inner clause of two: the new items -/
def lc2In (tg : Tg) (it : SI) (ifs : List SE) (el : SE) (vs1 : List Nat) (C : Cl) (acc : List D) (s : S) : Res (List D × S) :=
  (it C s).bind fun (ds, s1) => lcGo (lcTurn tg ifs el vs1 C) ds acc ⟨wipeR s1.ρ vs1, s1.st⟩
def lc2Go (tg0 : Tg) (ifs0 : List SE) (inn : List D → S → Res (List D × S)) (vs : List Nat) (C : Cl) : List D → List D → S → Res (List D × S)
  | [], acc, s => .ok (acc, s)
  | d :: ds, acc, s => (bindT tg0 d (wipeR s.ρ vs)).bind fun ρ1 => (ifsF ifs0 C ⟨ρ1, s.st⟩).bind fun (b, s2) =>
    if b then (inn acc s2).bind fun (acc', s3) => lc2Go tg0 ifs0 inn vs C ds acc' ⟨wipeR s3.ρ vs, s3.st⟩
    else lc2Go tg0 ifs0 inn vs C ds acc ⟨wipeR s2.ρ vs, s2.st⟩
/-- [el for tg0 in it0 if .. for tg in it if ..]; vs: all own slots, vs1: those of the inner clause -/
def lc2F (vs vs1 : List Nat) (tg0 : Tg) (it0 : SI) (ifs0 : List SE) (tg : Tg) (it : SI) (ifs : List SE) (el : SE) : SE := fun C s =>
  (it0 C s).bind fun (ds, s1) => if vs.all (fun v => isVal (s1.ρ[v]?.getD none)) then
    (lc2Go tg0 ifs0 (lc2In tg it ifs el vs1 C) vs C ds [] ⟨wipeR s1.ρ vs, s1.st⟩).bind fun (out, s2) => .ok (.own out, ⟨backR s1.ρ s2.ρ vs, s2.st⟩)
  else .stuck

def nxF : SS := fun _ s => .ok (.nx, s)
def seqF (f g : SS) : SS := fun C s => (f C s).bind fun (o, s1) => match o with
  | .nx => g C s1
  | o => .ok (o, s1)
def stkF : SS := fun _ _ => .stuck
def mOf : R → S → Res (M × S)
  | .val d, s => .ok (.val d, s)
  | .own ds, s => .ok (.own ds, s)
  | .odic kvs, s => .ok (.odic kvs, s)
  | .ref i, s => match s.ρ[i]? with
    | some (some (.own ds)) => .ok (.val (.lst ds), ⟨s.ρ.set i (some (.val (.lst ds))), s.st⟩)
    | some (some (.odic kvs)) => .ok (.val (.dic kvs), ⟨s.ρ.set i (some (.val (.dic kvs))), s.st⟩)
    | some (some (.val d)) => .ok (.val d, s)
    | _ => .stuck
/-- x = e -/
def setF (i : Nat) (f : SE) : SS := fun C s => (f C s).bind fun (r, s1) => (mOf r s1).bind fun (m, s2) => (sto i m s2.ρ).bind fun ρ => .ok (.nx, ⟨ρ, s2.st⟩)
/-- target = e -/
def asgF (tg : Tg) (f : SE) : SS := fun C s => (f C s).bind fun (r, s1) => (frz r s1).bind fun (d, s2) => (bindT tg d s2.ρ).bind fun ρ => .ok (.nx, ⟨ρ, s2.st⟩)
def mOfs : List SE → Cl → S → Res (List M × S)
  | [], _, s => .ok ([], s)
  | f :: fs, C, s => (f C s).bind fun (r, s1) => (mOf r s1).bind fun (m, s2) => (mOfs fs C s2).bind fun (ms, s3) => .ok (m :: ms, s3)
def stos : List Nat → List M → List (Option M) → Res (List (Option M))
  | [], [], ρ => .ok ρ
  | i :: is, m :: ms, ρ => (sto i m ρ).bind fun ρ1 => stos is ms ρ1
  | _, _, _ => .stuck
/-- a, b, .. = e1, e2, .. -/
def parF (is : List Nat) (fs : List SE) : SS := fun C s => (mOfs fs C s).bind fun (ms, s1) => (stos is ms s1.ρ).bind fun ρ => .ok (.nx, ⟨ρ, s1.st⟩)
def expF (f : SE) : SS := fun C s => (f C s).bind fun (_, s1) => .ok (.nx, s1)
/-- all slots forgotten -/
def S.wipe (s : S) : S := ⟨s.ρ.map fun _ => none, s.st⟩
def retF (f : SE) : SS := fun C s => (f C s).bind fun (r, s1) => match r with
  | .val d => .ok (.ret (.val d), s1.wipe)
  | .own ds => .ok (.ret (.own ds), s1.wipe)
  | .odic kvs => .ok (.ret (.odic kvs), s1.wipe)
  | .ref i => match s1.ρ[i]? with
    | some (some (.own ds)) => .ok (.ret (.own ds), s1.wipe)
    | some (some (.odic kvs)) => .ok (.ret (.odic kvs), s1.wipe)
    | _ => .stuck
def ifF (c : SE) (t e : SS) : SS := fun C s => (tst c C s).bind fun (b, s1) => if b then t C s1 else e C s1
def ownAt (ρ : List (Option M)) (i : Nat) : Bool := match ρ[i]? with
  | some (some (.own _)) => true
  | _ => false
def defAt (ρ : List (Option M)) (i : Nat) : Bool := match ρ[i]? with
  | some (some _) => true
  | _ => false
/-- x.append(e): a list of the frame's own -/
def appF (i : Nat) (f : SE) : SS := fun C s => if ownAt s.ρ i = true then (f C s).bind fun (r, s1) => (frz r s1).bind fun (d, s2) => match s2.ρ[i]? with
  | some (some (.own ds)) => if ds.length < szL then .ok (.nx, ⟨s2.ρ.set i (some (.own (ds ++ [d]))), s2.st⟩) else .stuck
  | _ => .stuck
  else .stuck
/-- what was unknown ahead of a loop is unknown behind each turn -/
def keepR : List (Option M) → List (Option M) → List (Option M)
  | [], ρ => ρ
  | _, [] => []
  | none :: a, _ :: b => none :: keepR a b
  | some _ :: a, x :: b => x :: keepR a b
def forGo (tg : Tg) (body : SS) (C : Cl) (ρ0 : List (Option M)) : List D → S → Res (Out × S)
  | [], s => .ok (.nx, s)
  | d :: ds, s => (bindT tg d s.ρ).bind fun ρ1 => (body C ⟨ρ1, s.st⟩).bind fun (o, s1) => match o with
    | .nx => forGo tg body C ρ0 ds ⟨keepR ρ0 s1.ρ, s1.st⟩
    | .ct => forGo tg body C ρ0 ds ⟨keepR ρ0 s1.ρ, s1.st⟩
    | .bk => .ok (.nx, ⟨keepR ρ0 s1.ρ, s1.st⟩)
    | .ret m => .ok (.ret m, s1)
def forF (tg : Tg) (it : SI) (body : SS) : SS := fun C s => (it C s).bind fun (ds, s1) => forGo tg body C s1.ρ ds s1
def whileGo (c : SE) (body : SS) (C : Cl) (ρ0 : List (Option M)) : Nat → S → Res (Out × S)
  | 0, _ => .stuck
  | n + 1, s => (tst c C s).bind fun (b, s1) => if b then (body C s1).bind fun (o, s2) => (match o with
    | .nx => whileGo c body C ρ0 n ⟨keepR ρ0 s2.ρ, s2.st⟩
    | .ct => whileGo c body C ρ0 n ⟨keepR ρ0 s2.ρ, s2.st⟩
    | .bk => .ok (.nx, ⟨keepR ρ0 s2.ρ, s2.st⟩)
    | .ret m => .ok (.ret m, s2)) else .ok (.nx, s1)
def whileF (c : SE) (body : SS) : SS := fun C s => whileGo c body C s.ρ 1000 s
/-- own lists of these slots frozen -/
def fzGo : List Nat → List (Option M) → List (Option M)
  | [], ρ => ρ
  | i :: is, ρ => fzGo is (match ρ[i]? with
    | some (some (.own ds)) => ρ.set i (some (.val (.lst ds)))
    | some (some (.odic kvs)) => ρ.set i (some (.val (.dic kvs)))
    | _ => ρ)
def fzF (is : List Nat) : SS := fun _ s => .ok (.nx, ⟨fzGo is s.ρ, s.st⟩)
/-- a def's body: the parameters in the first slots -/
def runF (n : Nat) (body : SS) (C : Cl) (ds : List D) (st : List (List D)) : Res (M × List (List D)) :=
  (body C ⟨ds.map (fun d => some (.val d)) ++ List.replicate (n - ds.length) none, st⟩).bind fun (o, s) => match o with
    | .nx => .ok (.val .non, s.st)
    | .ret m => .ok (m, s.st)
    | _ => .stuck
end Ev
set_option Elab.async false
set_option maxRecDepth 100000
set_option maxHeartbeats 1000000
namespace Ev
open PySem PySem.Spec PyProof.Rows L2
set_option autoImplicit false
abbrev Tv := List (Option V)

/-- the abstract heap; what is frozen in it; the shared lists' addresses -/
structure W where
  H : Hp
  Fz : Addr → Prop
  μ : List Addr
/-- an instance under construction -/
structure Sf where
  a : Addr
  C : Addr
  dx : Addr
structure Fc where
  w0 : W
  sf : Option Sf
  n : Nat
/-- the written part, the classes -/
structure Cg where
  K : PySem.W.Frag
  ct : Nat → Addr

def KL (K : PySem.W.Frag) (a : Addr) (xs : List V) : Prop :=
  ∃ (o : Obj) (its : Array Value) (n : Nat), K.lookup a = some o ∧ o.cls = .type "list" ∧ o.dict = none ∧ o.data = .seq its n ∧ its.size ≤ sizeLine ∧ Vals xs its.toList
def KT (K : PySem.W.Frag) (a : Addr) (xs : List V) : Prop :=
  ∃ (o : Obj) (its : Array Value) (n : Nat), K.lookup a = some o ∧ o.cls = .type "tuple" ∧ o.data = .seq its n ∧ its.size ≤ sizeLine ∧ Vals xs its.toList
def NL (K : PySem.W.Frag) (w : W) (a : Addr) (xs : List V) : Prop := w.Fz a ∧ w.H a = some (.lst xs)
def NT (K : PySem.W.Frag) (w : W) (k : Bool) (a : Addr) (xs : List V) : Prop := (w.Fz a ∧ ∃ o, w.H a = some (.frz o (.tup xs)) ∧ (k = true → o.dict = none)) ∨ (k = false ∧ w.Fz a ∧ w.H a = some (.tup xs)) ∨ (k = false ∧ KT K a xs)
theorem NL.sq {K : PySem.W.Frag} {w : W} {a : Addr} {xs : List V} (h : NL K w a xs) : SqL K w.H a xs := .inl (.inl h.2)
theorem NT.sq {K : PySem.W.Frag} {w : W} {k : Bool} {a : Addr} {xs : List V} (h : NT K w k a xs) : SqT K w.H a xs := by
  rcases h with ⟨_, o, e, _⟩ | ⟨_, _, e⟩ | ⟨_, e⟩
  · exact .inl (.inr ⟨o, e⟩)
  · exact .inl (.inl e)
  · exact .inr e

theorem NT.weak {K : PySem.W.Frag} {w : W} {k : Bool} {a : Addr} {xs : List V} (h : NT K w k a xs) : NT K w false a xs := by
  rcases h with ⟨f, o, e, _⟩ | ⟨_, f, e⟩ | ⟨_, e⟩
  · exact .inl ⟨f, o, e, fun z => by cases z⟩
  · exact .inr (.inl ⟨rfl, f, e⟩)
  · exact .inr (.inr ⟨rfl, e⟩)

mutual
def Rep (g : Cg) (w : W) : D → V → Prop
  | .non, v => v = .non
  | .bl b, v => v = .bl b
  | .int i, v => v = .int i
  | .str s, v => v = .str s ∧ PyData.strOk s = true
  | .tup k ds, v => ∃ a vs, v = .ref a ∧ NT g.K w k a vs ∧ RepL g w ds vs
  | .lst ds, v => ∃ a vs, v = .ref a ∧ NL g.K w a vs ∧ RepL g w ds vs
  | .dic _, _ => False
  | .ins c fs, v => ∃ a dx vs, v = .ref a ∧ w.Fz a ∧ w.Fz dx ∧ SlX.Slt w.H a (g.ct c) dx vs ∧ RepS g w fs vs
  | .cell n, v => ∃ a, v = .ref a ∧ w.μ[n]? = some a
  | .scr is, v => ∃ a, v = .ref a ∧ ((w.Fz a ∧ ((∃ o, w.H a = some (.frz o (.lst (is.map V.int)))) ∨ w.H a = some (.lst (is.map V.int)))) ∨ KL g.K a (is.map V.int))
def RepL (g : Cg) (w : W) : List D → List V → Prop
  | [], vs => vs = []
  | d :: ds, vs => ∃ v r, vs = v :: r ∧ Rep g w d v ∧ RepL g w ds r
def RepS (g : Cg) (w : W) : List D → List (Option V) → Prop
  | [], _ => True
  | d :: ds, vs => ∃ v r, vs = some v :: r ∧ Rep g w d v ∧ RepS g w ds r
end

/-- what is frozen stays, the shared lists keep their numbers -/
structure Le (w w' : W) : Prop where
  fz : ∀ a, w.Fz a → w'.Fz a
  pre : ∀ (n : Nat) (a : Addr), w.μ[n]? = some a → w'.μ[n]? = some a
  keep : ∀ a, w.Fz a → w'.H a = w.H a
theorem Le.refl (w : W) : Le w w := ⟨fun _ h => h, fun _ _ h => h, fun _ _ => rfl⟩
theorem Le.trans {w w1 w2 : W} (h : Le w w1) (k : Le w1 w2) : Le w w2 :=
  ⟨fun a z => k.fz a (h.fz a z), fun n a z => k.pre n a (h.pre n a z), fun a z => (k.keep a (h.fz a z)).trans (h.keep a z)⟩
theorem Rd.le {w w' : W} (l : Le w w') {a : Addr} {o : HO} (f : w.Fz a) (h : Rd w.H a o) : Rd w'.H a o := by
  unfold Rd at h ⊢
  rw [l.keep a f]
  exact h
theorem NL.le {K : PySem.W.Frag} {w w' : W} (l : Le w w') {a : Addr} {xs : List V} (h : NL K w a xs) : NL K w' a xs := ⟨l.fz a h.1, by rw [l.keep a h.1]; exact h.2⟩
theorem NT.le {K : PySem.W.Frag} {w w' : W} (l : Le w w') {k : Bool} {a : Addr} {xs : List V} (h : NT K w k a xs) : NT K w' k a xs := by
  rcases h with ⟨f, o, e, d⟩ | ⟨hk, f, e⟩ | ⟨hk, e⟩
  · exact .inl ⟨l.fz a f, o, by rw [l.keep a f]; exact e, d⟩
  · exact .inr (.inl ⟨hk, l.fz a f, by rw [l.keep a f]; exact e⟩)
  · exact .inr (.inr ⟨hk, e⟩)
theorem Slt.le {w w' : W} (l : Le w w') {a C dx : Addr} {vs : List (Option V)} (f : w.Fz a) (f' : w.Fz dx) (h : SlX.Slt w.H a C dx vs) : SlX.Slt w'.H a C dx vs := by
  unfold SlX.Slt at h ⊢
  rw [l.keep a f, l.keep dx f']
  exact h
mutual
theorem Rep.le {g : Cg} {w w' : W} (l : Le w w') : ∀ {d : D} {v : V}, Rep g w d v → Rep g w' d v
  | .non, _, h => h
  | .bl _, _, h => h
  | .int _, _, h => h
  | .str _, _, h => h
  | .tup k ds, v, h => by
    unfold Rep at h ⊢
    obtain ⟨a, vs, e, n, r⟩ := h
    exact ⟨a, vs, e, n.le l, RepL.le l r⟩
  | .lst ds, v, h => by
    unfold Rep at h ⊢
    obtain ⟨a, vs, e, n, r⟩ := h
    exact ⟨a, vs, e, n.le l, RepL.le l r⟩
  | .dic _, _, h => h
  | .ins c fs, v, h => by
    unfold Rep at h ⊢
    obtain ⟨a, dx, vs, e, f, f', q, r⟩ := h
    exact ⟨a, dx, vs, e, l.fz _ f, l.fz _ f', Slt.le l f f' q, RepS.le l r⟩
  | .cell n, v, h => by
    unfold Rep at h ⊢
    obtain ⟨a, e, m⟩ := h
    exact ⟨a, e, l.pre _ _ m⟩
  | .scr is, v, h => by
    unfold Rep at h ⊢
    obtain ⟨a, e, h⟩ := h
    refine ⟨a, e, ?_⟩
    rcases h with ⟨f, q⟩ | h
    · exact .inl ⟨l.fz a f, by rw [l.keep a f]; exact q⟩
    · exact .inr h
theorem RepL.le {g : Cg} {w w' : W} (l : Le w w') : ∀ {ds : List D} {vs : List V}, RepL g w ds vs → RepL g w' ds vs
  | [], _, h => h
  | d :: ds, vs, h => by
    unfold RepL at h ⊢
    obtain ⟨v, r, e, h1, h2⟩ := h
    exact ⟨v, r, e, Rep.le l h1, RepL.le l h2⟩
theorem RepS.le {g : Cg} {w w' : W} (l : Le w w') : ∀ {ds : List D} {vs : List (Option V)}, RepS g w ds vs → RepS g w' ds vs
  | [], _, h => h
  | d :: ds, vs, h => by
    unfold RepS at h ⊢
    obtain ⟨v, r, e, h1, h2⟩ := h
    exact ⟨v, r, e, Rep.le l h1, RepS.le l h2⟩
end

def M.isOwn : M → Bool
  | .own _ => true
  | .odic _ => true
  | _ => false
def RepM (g : Cg) (w : W) (sf : Option Sf) : M → V → Prop
  | .val d, v => Rep g w d v
  | .own ds, v => ∃ a vs, v = .ref a ∧ w.H a = some (.lst vs) ∧ RepL g w ds vs
  | .odic _, _ => False
  | .slf k, v => ∃ s, sf = some s ∧ v = .ref s.a ∧ s.C = g.ct k
/-- the frame's own objects -/
def Ow (τ : Tv) (ρ : List (Option M)) (a : Addr) : Prop := ∃ (i : Nat) (m : M), ρ[i]? = some (some m) ∧ m.isOwn = true ∧ τ[i]? = some (some (.ref a))
/-- a step: all that was tracked stays but what T and the shared lists say; no elder object is frozen or shared but those -/
structure Stp (T : Addr → Prop) (w w' : W) : Prop where
  le : Le w w'
  oth : ∀ a o, w.H a = some o → a ∉ w.μ → ¬ T a → w'.H a = some o ∧ (w'.Fz a → w.Fz a) ∧ a ∉ w'.μ
  mu : ∀ a ∈ w.μ, ∃ o, w'.H a = some o
  there : ∀ a o, w.H a = some o → ∃ o', w'.H a = some o'
structure Sim (g : Cg) (c : Fc) (w : W) (σ fv : Tv) (s : S) : Prop where
  len : s.ρ.length = σ.length + fv.length
  env : ∀ (i : Nat) (m : M), s.ρ[i]? = some (some m) → ∃ v, (σ ++ fv)[i]? = some (some v) ∧ RepM g w c.sf m v
  own : ∀ a, Ow (σ ++ fv) s.ρ a → ¬ w.Fz a ∧ a ∉ w.μ ∧ c.w0.H a = none
  sep : ∀ (i j : Nat) (mi mj : M) (a : Addr), s.ρ[i]? = some (some mi) → mi.isOwn = true → s.ρ[j]? = some (some mj) → mj.isOwn = true → (σ ++ fv)[i]? = some (some (.ref a)) → (σ ++ fv)[j]? = some (some (.ref a)) → i = j
  slf : ∀ z, c.sf = some z → (¬ w.Fz z.a ∧ ¬ w.Fz z.dx ∧ z.a ∉ w.μ ∧ z.dx ∉ w.μ ∧ c.w0.H z.a = none ∧ c.w0.H z.dx = none ∧ z.dx ≠ z.a) ∧
    (∃ o, w.H z.dx = some o ∧ ∀ xs, o ≠ .lst xs) ∧ ∃ vs, SlX.Slt w.H z.a z.C z.dx vs ∧ ∀ (j : Nat) (v : V), fv[j]? = some (some v) → vs[j]? = some (some v)
  nof : c.sf = none → fv = []
  fz : ∀ a, w.Fz a → ∃ o, w.H a = some o
  mu : ∀ a ∈ w.μ, ¬ w.Fz a
  mund : w.μ.Nodup
  clen : w.μ.length = s.st.length
  cells : ∀ (n : Nat) (a : Addr) (ds : List D), w.μ[n]? = some a → s.st[n]? = some ds → ∃ vs, w.H a = some (.lst vs) ∧ RepL g w ds vs
  step0 : Stp (fun _ => False) c.w0 w
  sn : σ.length = c.n

theorem Stp.refl (T : Addr → Prop) (w : W) (h : ∀ a ∈ w.μ, ∃ o, w.H a = some o) : Stp T w w := ⟨Le.refl w, fun _ _ e m _ => ⟨e, fun f => f, m⟩, h, fun _ o e => ⟨o, e⟩⟩
theorem Stp.trans {T T1 : Addr → Prop} {w w1 w2 : W} (h : Stp T w w1) (k : Stp T1 w1 w2) (hT : ∀ a o, w.H a = some o → a ∉ w.μ → ¬ T a → ¬ T1 a) : Stp T w w2 where
  le := h.le.trans k.le
  oth := fun a o e m t => by
    obtain ⟨e1, f1, m1⟩ := h.oth a o e m t
    obtain ⟨e2, f2, m2⟩ := k.oth a o e1 m1 (hT a o e m t)
    exact ⟨e2, fun f => f1 (f2 f), m2⟩
  mu := fun a ha => by
    obtain ⟨n, hn⟩ := List.mem_iff_getElem?.mp ha
    exact k.mu a (List.mem_iff_getElem?.mpr ⟨n, h.le.pre n a hn⟩)
  there := fun a o e => by
    obtain ⟨o1, e1⟩ := h.there a o e
    exact k.there a o1 e1

section
variable {g : Cg} {c : Fc} {w w' : W} {σ fv : Tv} {s : S}
theorem Sim.muH (S : Sim g c w σ fv s) : ∀ a ∈ w.μ, ∃ o, w.H a = some o := fun a ha => by
  obtain ⟨n, hn⟩ := List.mem_iff_getElem?.mp ha
  have hl : n < s.st.length := by
    rw [← S.clen]
    exact (List.getElem?_eq_some_iff.mp hn).1
  obtain ⟨vs, e, _⟩ := S.cells n a s.st[n] hn (List.getElem?_eq_getElem hl)
  exact ⟨_, e⟩
theorem Sim.here (S : Sim g c w σ fv s) (T : Addr → Prop) : Stp T w w := Stp.refl T w S.muH
/-- what is new now was new at the entry -/
theorem Sim.new (S : Sim g c w σ fv s) {a : Addr} (h : w.H a = none) : c.w0.H a = none := by
  cases e : c.w0.H a with
  | none => rfl
  | some o =>
    by_cases hm : a ∈ c.w0.μ
    · obtain ⟨o', e'⟩ := S.step0.mu a hm
      rw [h] at e'
      cases e'
    · have := (S.step0.oth a o e hm (fun z => z)).1
      rw [h] at this
      cases this
theorem Sim.owH (S : Sim g c w σ fv s) {a : Addr} (h : Ow (σ ++ fv) s.ρ a) : ∃ vs, w.H a = some (.lst vs) := by
  obtain ⟨i, m, h1, h2, h3⟩ := h
  obtain ⟨v, hv, r⟩ := S.env i m h1
  rw [h3] at hv
  cases hv
  cases m with
  | val d => cases h2
  | own ds =>
    obtain ⟨b, vs, e, hH, _⟩ := r
    cases e
    exact ⟨vs, hH⟩
  | odic _ => exact r.elim
  | slf => cases h2
theorem Sim.not_ow (S : Sim g c w σ fv s) {a : Addr} (h : w.H a = none) : ¬ Ow (σ ++ fv) s.ρ a := fun z => by
  obtain ⟨vs, e⟩ := S.owH z
  rw [h] at e
  cases e

/-- new objects are made, perhaps frozen; all else stays -/
structure Ext (w w' : W) : Prop where
  sub : ∀ a o, w.H a = some o → w'.H a = some o
  fz : ∀ a, w.Fz a → w'.Fz a
  new : ∀ a, w'.Fz a → w.Fz a ∨ (w.H a = none ∧ ∃ o, w'.H a = some o)
  mu : w'.μ = w.μ
theorem Ext.refl (w : W) : Ext w w := ⟨fun _ _ h => h, fun _ h => h, fun _ h => .inl h, rfl⟩
theorem Ext.trans {w1 : W} (h : Ext w w1) (k : Ext w1 w') : Ext w w' := by
  refine ⟨fun a o e => k.sub a o (h.sub a o e), fun a f => k.fz a (h.fz a f), fun a f => ?_, k.mu.trans h.mu⟩
  rcases k.new a f with z | ⟨z, o, e⟩
  · rcases h.new a z with y | ⟨y, o, e⟩
    · exact .inl y
    · exact .inr ⟨y, o, k.sub a o e⟩
  · refine .inr ⟨?_, o, e⟩
    cases q : w.H a with
    | none => rfl
    | some u =>
      rw [h.sub a u q] at z
      cases z
theorem Ext.le (h : Ext w w') (hf : ∀ a, w.Fz a → ∃ o, w.H a = some o) : Le w w' := ⟨h.fz, fun n a e => by rw [h.mu]; exact e, fun a f => by
  obtain ⟨o, e⟩ := hf a f
  rw [e]
  exact h.sub a o e⟩
theorem Ext.step (h : Ext w w') (S : Sim g c w σ fv s) (T : Addr → Prop) : Stp T w w' := by
  refine ⟨h.le S.fz, fun a o e m _ => ⟨h.sub a o e, fun f => ?_, by rw [h.mu]; exact m⟩, fun a ha => ?_, fun a o e => ⟨o, h.sub a o e⟩⟩
  · rcases h.new a f with z | ⟨z, _⟩
    · exact z
    · rw [e] at z
      cases z
  · obtain ⟨o, e⟩ := S.muH a ha
    exact ⟨o, h.sub a o e⟩
theorem RepM.le {sf : Option Sf} (l : Le w w') (hH : ∀ a vs, w.H a = some (.lst vs) → w'.H a = some (.lst vs)) : ∀ {m : M} {v : V}, RepM g w sf m v → RepM g w' sf m v
  | .val _, _, h => Rep.le l h
  | .own ds, v, h => by
    obtain ⟨a, vs, e, q, r⟩ := h
    exact ⟨a, vs, e, hH a vs q, RepL.le l r⟩
  | .odic _, _, h => h
  | .slf _, _, h => h
theorem slt_sub {H H' : Hp} (h : ∀ a o, H a = some o → H' a = some o) {a C dx : Addr} {vs : List (Option V)} (q : SlX.Slt H a C dx vs) : SlX.Slt H' a C dx vs := by
  rcases q with ⟨h1, h2⟩ | ⟨h1, h2⟩
  · exact .inl ⟨h _ _ h1, h2⟩
  · exact .inr ⟨h _ _ h1, h _ _ h2⟩
theorem slt_there {H : Hp} {P : Program} {wd : World} {h : Heap} {a C dx : Addr} {vs : List (Option V)} (q : SlX.Slt H a C dx vs) : ∃ o, H a = some o := by
  rcases q with ⟨h1, _⟩ | ⟨h1, _⟩ <;> exact ⟨_, h1⟩
theorem slt_not_lst {H : Hp} {a C dx : Addr} {vs : List (Option V)} (q : SlX.Slt H a C dx vs) (xs : List V) : H a ≠ some (.lst xs) := by
  rcases q with ⟨h1, _⟩ | ⟨h1, _⟩ <;> (rw [h1]; intro z; cases z)
theorem Sim.ext (S : Sim g c w σ fv s) (h : Ext w w') : Sim g c w' σ fv s := by
  have l := h.le S.fz
  refine ⟨S.len, fun i m e => ?_, fun a o => ?_, S.sep, fun z e => ?_, S.nof, fun a f => ?_, fun a ha f => ?_, by rw [h.mu]; exact S.mund, by rw [h.mu]; exact S.clen, fun n a ds e e' => ?_, S.step0.trans (h.step S _) fun _ _ _ _ _ z => z, S.sn⟩
  · obtain ⟨v, hv, r⟩ := S.env i m e
    exact ⟨v, hv, r.le l fun a vs q => h.sub a _ q⟩
  · obtain ⟨h1, h2, h3⟩ := S.own a o
    refine ⟨fun f => ?_, by rw [h.mu]; exact h2, h3⟩
    rcases h.new a f with q | ⟨q, _⟩
    · exact h1 q
    · exact S.not_ow q o
  · obtain ⟨⟨h1, h2, h3, h4, h5, h6, h7⟩, ⟨od, hd, nd⟩, vs, q, k⟩ := S.slf z e
    have ha : ∃ o, w.H z.a = some o := by
      rcases q with ⟨e1, _⟩ | ⟨e1, _⟩ <;> exact ⟨_, e1⟩
    refine ⟨⟨fun f => ?_, fun f => ?_, by rw [h.mu]; exact h3, by rw [h.mu]; exact h4, h5, h6, h7⟩, ⟨od, h.sub _ _ hd, nd⟩, vs, slt_sub h.sub q, k⟩
    · rcases h.new _ f with y | ⟨y, _⟩
      · exact h1 y
      · obtain ⟨o, e1⟩ := ha
        rw [y] at e1; cases e1
    · rcases h.new _ f with y | ⟨y, _⟩
      · exact h2 y
      · rw [y] at hd; cases hd
  · rcases h.new a f with y | ⟨_, o, e⟩
    · obtain ⟨o, e⟩ := S.fz a y
      exact ⟨o, h.sub a o e⟩
    · exact ⟨o, e⟩
  · rw [h.mu] at ha
    rcases h.new a f with y | ⟨y, _⟩
    · exact S.mu a ha y
    · obtain ⟨o, e⟩ := S.muH a ha
      rw [y] at e; cases e
  · rw [h.mu] at e
    obtain ⟨vs, q, r⟩ := S.cells n a ds e e'
    exact ⟨vs, h.sub _ _ q, RepL.le l r⟩
end
end Ev
set_option Elab.async false
set_option maxRecDepth 100000
set_option maxHeartbeats 1000000
namespace Ev
open PySem PySem.Spec PyProof.Rows L2
set_option autoImplicit false

def W.freeze (w : W) (a : Addr) : W := ⟨w.H, fun b => w.Fz b ∨ b = a, w.μ⟩
theorem le_freeze (w : W) (a : Addr) : Le w (w.freeze a) := ⟨fun _ h => .inl h, fun _ _ h => h, fun _ _ => rfl⟩
section
variable {g : Cg} {c : Fc} {w w' : W} {σ fv : Tv} {s : S}
theorem Sim.freeze (S : Sim g c w σ fv s) {a : Addr} {vs : List V} (h : w.H a = some (.lst vs)) (hm : a ∉ w.μ) (ho : ¬ Ow (σ ++ fv) s.ρ a) (h0 : c.w0.H a = none) : Sim g c (w.freeze a) σ fv s := by
  have l := le_freeze w a
  refine ⟨S.len, fun i m e => ?_, fun b o => ?_, S.sep, fun z e => ?_, S.nof, fun b f => ?_, fun b hb f => ?_, S.mund, S.clen, fun n b ds e e' => ?_, ?_, S.sn⟩
  · obtain ⟨v, hv, r⟩ := S.env i m e
    exact ⟨v, hv, r.le l fun _ _ q => q⟩
  · obtain ⟨h1, h2, h3⟩ := S.own b o
    refine ⟨fun f => ?_, h2, h3⟩
    rcases f with f | f
    · exact h1 f
    · subst f
      exact ho o
  · obtain ⟨⟨h1, h2, h3, h4, h5, h6, h7⟩, ⟨od, hd, nd⟩, vs', q, k⟩ := S.slf z e
    refine ⟨⟨fun f => ?_, fun f => ?_, h3, h4, h5, h6, h7⟩, ⟨od, hd, nd⟩, vs', q, k⟩
    · rcases f with f | f
      · exact h1 f
      · rw [← f] at h
        exact slt_not_lst q _ h
    · rcases f with f | f
      · exact h2 f
      · rw [f, h] at hd
        exact nd _ (Option.some.inj hd).symm
  · rcases f with f | f
    · exact S.fz b f
    · rw [f]
      exact ⟨_, h⟩
  · rcases f with f | f
    · exact S.mu b hb f
    · rw [f] at hb
      exact hm hb
  · obtain ⟨xs, q, r⟩ := S.cells n b ds e e'
    exact ⟨xs, q, RepL.le l r⟩
  · refine ⟨S.step0.le.trans l, fun b o e m t => ?_, S.step0.mu, S.step0.there⟩
    obtain ⟨e1, f1, m1⟩ := S.step0.oth b o e m t
    refine ⟨e1, fun f => ?_, m1⟩
    rcases f with f | f
    · exact f1 f
    · rw [f, h0] at e
      cases e
/-- slots forgotten -/
theorem Sim.less (S : Sim g c w σ fv s) {ρ' : List (Option M)} (hl : ρ'.length = s.ρ.length) (h : ∀ (i : Nat) (m : M), ρ'[i]? = some (some m) → s.ρ[i]? = some (some m)) : Sim g c w σ fv ⟨ρ', s.st⟩ := by
  refine ⟨hl.trans S.len, fun i m e => S.env i m (h i m e), fun b o => S.own b ?_, fun i j mi mj b e1 o1 e2 o2 => S.sep i j mi mj b (h _ _ e1) o1 (h _ _ e2) o2, S.slf, S.nof, S.fz, S.mu, S.mund, S.clen, S.cells, S.step0, S.sn⟩
  obtain ⟨i, m, e, om, t⟩ := o
  exact ⟨i, m, h i m e, om, t⟩
theorem set_get {α : Type} {l : List α} {i j : Nat} {x y : α} (h : (l.set i x)[j]? = some y) : (i = j ∧ x = y) ∨ (i ≠ j ∧ l[j]? = some y) := by
  by_cases e : i = j
  · subst e
    have hl : i < l.length := by
      have := (List.getElem?_eq_some_iff.mp h).1
      simpa using this
    rw [List.getElem?_set_self hl] at h
    exact .inl ⟨rfl, Option.some.inj h⟩
  · rw [List.getElem?_set_ne e] at h
    exact .inr ⟨e, h⟩
/-- a slot is known anew -/
theorem Sim.setv (S : Sim g c w σ fv s) {i : Nat} {d : D} {v : V} (ht : (σ ++ fv)[i]? = some (some v)) (r : Rep g w d v) : Sim g c w σ fv ⟨s.ρ.set i (some (.val d)), s.st⟩ := by
  have lt : ∀ {j : Nat} {m : M}, (s.ρ.set i (some (.val d)))[j]? = some (some m) → m.isOwn = true → s.ρ[j]? = some (some m) := fun {j m} e o => by
    rcases set_get e with ⟨_, q⟩ | ⟨_, q⟩
    · cases q
      cases o
    · exact q
  refine ⟨by simpa using S.len, fun j m e => ?_, fun b o => S.own b ?_, fun j k mi mj b e1 o1 e2 o2 => S.sep j k mi mj b (lt e1 o1) o1 (lt e2 o2) o2, S.slf, S.nof, S.fz, S.mu, S.mund, S.clen, S.cells, S.step0, S.sn⟩
  · rcases set_get e with ⟨q, z⟩ | ⟨_, q⟩
    · subst q
      cases z
      exact ⟨v, ht, r⟩
    · exact S.env j m q
  · obtain ⟨j, m, e, om, t⟩ := o
    exact ⟨j, m, lt e om, om, t⟩

structure EnvLe (ρ ρ' : List (Option M)) : Prop where
  own : ∀ (i : Nat) (m : M), ρ'[i]? = some (some m) → m.isOwn = true → ∃ m', ρ[i]? = some (some m') ∧ m'.isOwn = true
  def_ : ∀ (i : Nat) (m : M), ρ[i]? = some (some m) → ∃ m', ρ'[i]? = some (some m')
theorem EnvLe.refl (ρ : List (Option M)) : EnvLe ρ ρ := ⟨fun _ m h o => ⟨m, h, o⟩, fun _ m h => ⟨m, h⟩⟩
theorem EnvLe.trans {ρ ρ1 ρ2 : List (Option M)} (h : EnvLe ρ ρ1) (k : EnvLe ρ1 ρ2) : EnvLe ρ ρ2 := ⟨fun i m e o => by
    obtain ⟨m1, e1, o1⟩ := k.own i m e o
    exact h.own i m1 e1 o1, fun i m e => by
    obtain ⟨m1, e1⟩ := h.def_ i m e
    exact k.def_ i m1 e1⟩
theorem EnvLe.ow {ρ ρ' : List (Option M)} (h : EnvLe ρ ρ') {τ : Tv} {a : Addr} (o : Ow τ ρ' a) : Ow τ ρ a := by
  obtain ⟨i, m, e, om, t⟩ := o
  obtain ⟨m', e', o'⟩ := h.own i m e om
  exact ⟨i, m', e', o', t⟩
theorem EnvLe.setv (ρ : List (Option M)) (i : Nat) (d : D) : EnvLe ρ (ρ.set i (some (.val d))) := ⟨fun j m e o => by
    rcases set_get e with ⟨_, q⟩ | ⟨_, q⟩
    · cases q
      cases o
    · exact ⟨m, q, o⟩, fun j m e => by
    by_cases h : i = j
    · subst h
      have hl := (List.getElem?_eq_some_iff.mp e).1
      exact ⟨_, List.getElem?_set_self hl⟩
    · exact ⟨m, by rw [List.getElem?_set_ne h]; exact e⟩⟩
/-- behind an expression that was begun at w, s -/
structure Aft (g : Cg) (c : Fc) (σ fv : Tv) (w : W) (s : S) (w' : W) (s' : S) : Prop where
  stp : Stp (Ow (σ ++ fv) s.ρ) w w'
  sim : Sim g c w' σ fv s'
  env : EnvLe s.ρ s'.ρ
theorem Sim.aft (S : Sim g c w σ fv s) : Aft g c σ fv w s w s := ⟨S.here _, S, EnvLe.refl _⟩
theorem Aft.trans {w1 w2 : W} {s1 s2 : S} (h : Aft g c σ fv w s w1 s1) (k : Aft g c σ fv w1 s1 w2 s2) : Aft g c σ fv w s w2 s2 :=
  ⟨h.stp.trans k.stp fun _ _ _ _ t z => t (h.env.ow z), k.sim, h.env.trans k.env⟩
theorem Aft.ext {w1 w2 : W} {s1 : S} (h : Aft g c σ fv w s w1 s1) (k : Ext w1 w2) : Aft g c σ fv w s w2 s1 :=
  h.trans ⟨k.step h.sim _, h.sim.ext k, EnvLe.refl _⟩
def RepR (g : Cg) (w w' : W) (τ : Tv) (ρ' : List (Option M)) : R → V → Prop
  | .val d, v => Rep g w' d v
  | .own ds, v => ∃ a vs, v = .ref a ∧ w'.H a = some (.lst vs) ∧ RepL g w' ds vs ∧ ¬ w'.Fz a ∧ a ∉ w'.μ ∧ w.H a = none
  | .odic _, _ => False
  | .ref i, v => τ[i]? = some (some v) ∧ ∃ m, ρ'[i]? = some (some m) ∧ m.isOwn = true
/-- an expression's reading -/
def tE (g : Cg) (C : Cl) (F : SE) : TE := fun σ H Q => ∃ c w fv s, w.H = H ∧ Sim g c w σ fv s ∧
  (F C s).Sat fun p => ∀ v w', Aft g c σ fv w s w' p.2 → RepR g w w' (σ ++ fv) p.2.ρ p.1 v → Q v w'.H

/-- behind the freezing of what an expression yields -/
theorem frz_ok {w1 : W} {s1 : S} {r : R} {v : V} {P : D × S → Prop} (S : Sim g c w σ fv s) (A : Aft g c σ fv w s w1 s1) (h : RepR g w w1 (σ ++ fv) s1.ρ r v) (k : (frz r s1).Sat P) :
    ∃ d s2 w2, P (d, s2) ∧ w2.H = w1.H ∧ Aft g c σ fv w s w2 s2 ∧ Rep g w2 d v := by
  cases r with
  | val d => exact ⟨d, s1, w1, k, rfl, A, h⟩
  | odic _ => exact h.elim
  | own ds =>
    obtain ⟨a, vs, rfl, hH, hr, hf, hm, hn⟩ := h
    have no : ¬ Ow (σ ++ fv) s1.ρ a := fun z => S.not_ow hn (A.env.ow z)
    refine ⟨.lst ds, s1, w1.freeze a, k, rfl, ⟨⟨A.stp.le.trans (le_freeze _ _), fun b o e m t => ?_, A.stp.mu, A.stp.there⟩, A.sim.freeze hH hm no (S.new hn), A.env⟩, ?_⟩
    · obtain ⟨e1, f1, m1⟩ := A.stp.oth b o e m t
      refine ⟨e1, fun f => ?_, m1⟩
      rcases f with f | f
      · exact f1 f
      · rw [f, hn] at e
        cases e
    · unfold Rep
      exact ⟨a, vs, rfl, ⟨.inr rfl, hH⟩, RepL.le (le_freeze _ _) hr⟩
  | ref i =>
    obtain ⟨ht, m, hm, ho⟩ := h
    cases m with
    | val d => cases ho
    | slf => cases ho
    | odic kvs =>
      obtain ⟨v', _, r'⟩ := A.sim.env i _ hm
      exact r'.elim
    | own ds =>
      unfold frz at k
      simp only [hm] at k
      obtain ⟨v', hv', a, vs, rfl, hH, hr⟩ := A.sim.env i _ hm
      rw [ht] at hv'
      cases hv'
      have oa : Ow (σ ++ fv) s1.ρ a := ⟨i, _, hm, rfl, ht⟩
      obtain ⟨n1, n2, n3⟩ := A.sim.own a oa
      -- the slot forgotten
      have S1 : Sim g c w1 σ fv ⟨s1.ρ.set i none, s1.st⟩ := A.sim.less (by simp) fun j m e => by
        rcases set_get e with ⟨_, q⟩ | ⟨_, q⟩
        · cases q
        · exact q
      have no : ¬ Ow (σ ++ fv) (s1.ρ.set i none) a := fun ⟨j, m, e, om, t⟩ => by
        rcases set_get e with ⟨_, q⟩ | ⟨q1, q⟩
        · cases q
        · exact q1 (A.sim.sep i j _ m a hm rfl q om ht t)
      have S2 := S1.freeze hH n2 no n3
      have R : Rep g (w1.freeze a) (.lst ds) (.ref a) := by
        unfold Rep
        exact ⟨a, vs, rfl, ⟨.inr rfl, hH⟩, RepL.le (le_freeze _ _) hr⟩
      have S3 := S2.setv ht R
      rw [show (⟨(⟨s1.ρ.set i none, s1.st⟩ : Ev.S).ρ.set i (some (.val (.lst ds))), (⟨s1.ρ.set i none, s1.st⟩ : Ev.S).st⟩ : Ev.S) = ⟨s1.ρ.set i (some (.val (.lst ds))), s1.st⟩ by simp [List.set_set]] at S3
      refine ⟨.lst ds, ⟨s1.ρ.set i (some (.val (.lst ds))), s1.st⟩, w1.freeze a, k, rfl, ⟨⟨A.stp.le.trans (le_freeze _ _), fun b o e m t => ?_, A.stp.mu, A.stp.there⟩, S3, A.env.trans (EnvLe.setv _ _ _)⟩, R⟩
      obtain ⟨e1, f1, m1⟩ := A.stp.oth b o e m t
      refine ⟨e1, fun f => ?_, m1⟩
      rcases f with f | f
      · exact f1 f
      · subst f
        exact (t (A.env.ow oa)).elim
end
end Ev
set_option Elab.async false
set_option maxRecDepth 100000
set_option maxHeartbeats 1000000
namespace Ev
open PySem PySem.Spec PyProof.Rows L2
set_option autoImplicit false

theorem PEm {X : Cx} {e : Expr} {t t' : TE} (h : PE X e t) (k : ∀ σ H Q, t' σ H Q → t σ H Q) : PE X e t' := ⟨fun pins s σ H Q I q => h.run pins s σ H Q I (k σ H Q q)⟩
theorem PTm {X : Cx} {e : Expr} {t t' : TT} (h : PT X e t) (k : ∀ σ H Q, t' σ H Q → t σ H Q) : PT X e t' := ⟨fun pins s σ H Q I q => h.run pins s σ H Q I (k σ H Q q)⟩
theorem PAm {X : Cx} {e : List Expr} {t t' : TA} (h : PA X e t) (k : ∀ σ H Q, t' σ H Q → t σ H Q) : PA X e t' := ⟨fun pos pins s σ H Q I q => h.run pos pins s σ H Q I (k σ H Q q)⟩
theorem PSm {X : Cx} {e : Stmt} {t t' : TS} (h : PS X e t) (k : ∀ D σ H, t' D σ H → t D σ H) : PS X e t' := ⟨fun pins s σ H D I q => h.run pins s σ H D I (k D σ H q)⟩
theorem PSsm {X : Cx} {e : List Stmt} {t t' : TS} (h : PSs X e t) (k : ∀ D σ H, t' D σ H → t D σ H) : PSs X e t' := ⟨fun pins s σ H D I q => h.run pins s σ H D I (k D σ H q)⟩

def RepO (g : Cg) (w : W) (τ : Tv) (ρ : List (Option M)) : Op → V → Prop
  | .val d, v => Rep g w d v
  | .ref i, v => τ[i]? = some (some v) ∧ ∃ m, ρ[i]? = some (some m)
def RepOs (g : Cg) (w : W) (τ : Tv) (ρ : List (Option M)) : List Op → List V → Prop
  | [], vs => vs = []
  | o :: os, vs => ∃ v r, vs = v :: r ∧ RepO g w τ ρ o v ∧ RepOs g w τ ρ os r
/-- a value that is looked at: frozen, or a list of the frame's own -/
def RepP (g : Cg) (w : W) (d : D) (v : V) : Prop := Rep g w d v ∨ ∃ a vs ds, v = .ref a ∧ d = .lst ds ∧ w.H a = some (.lst vs) ∧ RepL g w ds vs
def RepPs (g : Cg) (w : W) : List D → List V → Prop
  | [], vs => vs = []
  | d :: ds, vs => ∃ v r, vs = v :: r ∧ RepP g w d v ∧ RepPs g w ds r
/-- what an operation makes -/
def RepN (g : Cg) (w w' : W) : R → V → Prop
  | .val d, v => Rep g w' d v
  | .own ds, v => ∃ a vs, v = .ref a ∧ w'.H a = some (.lst vs) ∧ RepL g w' ds vs ∧ ¬ w'.Fz a ∧ w.H a = none
  | .odic _, _ => False
  | .ref _, _ => False
/-- what a world must be by itself -/
structure Wf (g : Cg) (w : W) (st : List (List D)) : Prop where
  fz : ∀ a, w.Fz a → ∃ o, w.H a = some o
  mu : ∀ a ∈ w.μ, ¬ w.Fz a
  mund : w.μ.Nodup
  clen : w.μ.length = st.length
  cells : ∀ (n : Nat) (a : Addr) (ds : List D), w.μ[n]? = some a → st[n]? = some ds → ∃ vs, w.H a = some (.lst vs) ∧ RepL g w ds vs
section
variable {g : Cg} {c : Fc} {w w' : W} {σ fv : Tv} {s : S} {C : Cl}
theorem Sim.wf (S : Sim g c w σ fv s) : Wf g w s.st := ⟨S.fz, S.mu, S.mund, S.clen, S.cells⟩
theorem opd_ok {w1 : W} {s1 : S} {r : R} {v : V} (S : Sim g c w σ fv s) (A : Aft g c σ fv w s w1 s1) (h : RepR g w w1 (σ ++ fv) s1.ρ r v) :
    ∃ w2, w2.H = w1.H ∧ Aft g c σ fv w s w2 s1 ∧ RepO g w2 (σ ++ fv) s1.ρ (opd r) v := by
  cases r with
  | val d => exact ⟨w1, rfl, A, h⟩
  | odic _ => exact h.elim
  | ref i =>
    obtain ⟨ht, m, hm, _⟩ := h
    exact ⟨w1, rfl, A, ht, m, hm⟩
  | own ds =>
    obtain ⟨d, s2, w2, ⟨e1, e2⟩, hH, A2, r2⟩ := frz_ok (P := fun p => p.1 = .lst ds ∧ p.2 = s1) S A h ⟨rfl, rfl⟩
    subst e1 e2
    exact ⟨w2, hH, A2, r2⟩
theorem RepO.aft {w1 : W} {s1 : S} (A : Aft g c σ fv w s w1 s1) {o : Op} {v : V} (h : RepO g w (σ ++ fv) s.ρ o v) : RepO g w1 (σ ++ fv) s1.ρ o v := by
  cases o with
  | val d => exact Rep.le A.stp.le h
  | ref i =>
    obtain ⟨ht, m, hm⟩ := h
    exact ⟨ht, A.env.def_ i m hm⟩
theorem pk_ok (S : Sim g c w σ fv s) {o : Op} {v : V} (h : RepO g w (σ ++ fv) s.ρ o v) {P : D → Prop} (k : (pk s.ρ o).Sat P) : ∃ d, P d ∧ RepP g w d v := by
  cases o with
  | val d => exact ⟨d, k, .inl h⟩
  | ref i =>
    obtain ⟨ht, m, hm⟩ := h
    unfold pk at k
    simp only [hm] at k
    obtain ⟨v', hv', r⟩ := S.env i m hm
    rw [ht] at hv'
    cases hv'
    cases m with
    | val d => exact ⟨d, k, .inl r⟩
    | own ds =>
      obtain ⟨a, vs, e, hH, hr⟩ := r
      exact ⟨_, k, .inr ⟨a, vs, ds, e, rfl, hH, hr⟩⟩
    | odic _ => exact r.elim
    | slf => exact k.elim
theorem pks_ok (S : Sim g c w σ fv s) : ∀ {os : List Op} {vs : List V}, RepOs g w (σ ++ fv) s.ρ os vs → ∀ {P : List D → Prop}, (pks s.ρ os).Sat P → ∃ ds, P ds ∧ RepPs g w ds vs
  | [], vs, h, P, k => ⟨[], k, h⟩
  | o :: os, vs, h, P, k => by
    obtain ⟨v, r, e, h1, h2⟩ := h
    unfold pks at k
    rw [Res.sat_bind] at k
    obtain ⟨d, k1, r1⟩ := pk_ok S h1 k
    rw [Res.sat_bind] at k1
    obtain ⟨ds, k2, r2⟩ := pks_ok S h2 k1
    exact ⟨d :: ds, k2, v, r, e, r1, r2⟩

/-- operands' reading -/
def tOps (g : Cg) (C : Cl) (fs : List SE) : TA := fun σ H Q => ∃ c w fv s, w.H = H ∧ Sim g c w σ fv s ∧
  (ops fs C s).Sat fun p => ∀ vs w', Aft g c σ fv w s w' p.2 → RepOs g w' (σ ++ fv) p.2.ρ p.1 vs → Q vs w'.H
def tFzs (g : Cg) (C : Cl) (fs : List SE) : TA := fun σ H Q => ∃ c w fv s, w.H = H ∧ Sim g c w σ fv s ∧
  (frzs fs C s).Sat fun p => ∀ vs w', Aft g c σ fv w s w' p.2 → RepL g w' p.1 vs → Q vs w'.H
theorem tOps_cons {f : SE} {fs : List SE} {H : Hp} {Q : List V → Hp → Prop} (h : tOps g C (f :: fs) σ H Q) : tCons (tE g C f) (tOps g C fs) σ H Q := by
  obtain ⟨c, w, fv, s, rfl, S, h⟩ := h
  unfold ops at h
  rw [Res.sat_bind] at h
  refine ⟨c, w, fv, s, rfl, S, h.mono fun p h v w1 A r => ?_⟩
  obtain ⟨r0, s1⟩ := p
  obtain ⟨w2, hH, A2, r2⟩ := opd_ok S A r
  rw [Res.sat_bind] at h
  refine ⟨c, w2, fv, s1, hH, A2.sim, h.mono fun q h vs w3 A3 rs => ?_⟩
  obtain ⟨os, s2⟩ := q
  exact h (v :: vs) w3 (A2.trans A3) ⟨v, vs, rfl, r2.aft A3, rs⟩
theorem tOps_nil {H : Hp} {Q : List V → Hp → Prop} (h : tOps g C [] σ H Q) : tNil σ H Q := by
  obtain ⟨c, w, fv, s, rfl, S, h⟩ := h
  exact h [] w S.aft rfl
theorem RepL.aft {w1 : W} {s1 : S} (A : Aft g c σ fv w s w1 s1) {ds : List D} {vs : List V} (h : RepL g w ds vs) : RepL g w1 ds vs := RepL.le A.stp.le h
theorem tFzs_cons {f : SE} {fs : List SE} {H : Hp} {Q : List V → Hp → Prop} (h : tFzs g C (f :: fs) σ H Q) : tCons (tE g C f) (tFzs g C fs) σ H Q := by
  obtain ⟨c, w, fv, s, rfl, S, h⟩ := h
  unfold frzs at h
  rw [Res.sat_bind] at h
  refine ⟨c, w, fv, s, rfl, S, h.mono fun p h v w1 A r => ?_⟩
  obtain ⟨r0, s1⟩ := p
  rw [Res.sat_bind] at h
  obtain ⟨d, s2, w2, h, hH, A2, r2⟩ := frz_ok S A r h
  rw [Res.sat_bind] at h
  refine ⟨c, w2, fv, s2, hH, A2.sim, h.mono fun q h vs w3 A3 rs => ?_⟩
  obtain ⟨os, s3⟩ := q
  exact h (v :: vs) w3 (A2.trans A3) ⟨v, vs, rfl, Rep.le A3.stp.le r2, rs⟩
theorem tFzs_nil {H : Hp} {Q : List V → Hp → Prop} (h : tFzs g C [] σ H Q) : tNil σ H Q := by
  obtain ⟨c, w, fv, s, rfl, S, h⟩ := h
  exact h [] w S.aft rfl

def VN (g : Cg) (f : List (List D) → List D → Res R) (r : List V → Hp → VK → Prop) : Prop :=
  ∀ (w : W) (st : List (List D)) (ds : List D) (xs : List V) (Q : VK), Wf g w st → RepPs g w ds xs → ((f st ds).Sat fun m => ∀ v w', Ext w w' → RepN g w w' m v → Q v w'.H) → r xs w.H Q
theorem RepN.repR {w1 w2 : W} {s1 : S} (S : Sim g c w σ fv s) (A : Aft g c σ fv w s w1 s1) (k : Ext w1 w2) {m : R} {v : V} (h : RepN g w1 w2 m v) : RepR g w w2 (σ ++ fv) s1.ρ m v := by
  cases m with
  | val d => exact h
  | odic _ => exact h
  | ref _ => exact h.elim
  | own ds =>
    obtain ⟨a, vs, e, hH, hr, hf, hn⟩ := h
    refine ⟨a, vs, e, hH, hr, hf, fun hm => ?_, ?_⟩
    · rw [k.mu] at hm
      obtain ⟨o, e'⟩ := A.sim.muH a hm
      rw [hn] at e'
      cases e'
    · cases q : w.H a with
      | none => rfl
      | some o =>
        obtain ⟨o', e'⟩ := A.stp.there a o q
        rw [hn] at e'
        cases e'
theorem tOpE_le {f : List (List D) → List D → Res R} {r : List V → Hp → VK → Prop} (hv : VN g f r) {fs : List SE} {H : Hp} {Q : VK} (h : tE g C (opE f fs) σ H Q) :
    tOps g C fs σ H fun vs H1 => r vs H1 Q := by
  obtain ⟨c, w, fv, s, rfl, S, h⟩ := h
  unfold opE at h
  rw [Res.sat_bind] at h
  refine ⟨c, w, fv, s, rfl, S, h.mono fun p h vs w1 A rs => ?_⟩
  obtain ⟨os, s1⟩ := p
  rw [Res.sat_bind] at h
  obtain ⟨ds, h, rp⟩ := pks_ok A.sim rs h
  rw [Res.sat_bind] at h
  refine hv w1 s1.st ds vs Q A.sim.wf rp (h.mono fun m h v w2 k rn => ?_)
  exact h v w2 (A.ext k) (rn.repR S A k)
end
end Ev
set_option Elab.async false
set_option maxRecDepth 100000
set_option maxHeartbeats 1000000
namespace Ev
open PySem PySem.Spec PyProof.Rows L2
set_option autoImplicit false

theorem szL_eq : szL = sizeLine := rfl
section
variable {g : Cg} {c : Fc} {w w' : W} {σ fv : Tv} {s : S} {C : Cl}
theorem RepL.length : ∀ {ds : List D} {vs : List V}, RepL g w ds vs → ds.length = vs.length
  | [], vs, h => by
    unfold RepL at h
    subst h
    rfl
  | d :: ds, vs, h => by
    unfold RepL at h
    obtain ⟨v, r, rfl, _, h2⟩ := h
    simp [RepL.length h2]
theorem RepL.get : ∀ {ds : List D} {vs : List V} {i : Nat} {d : D}, RepL g w ds vs → ds[i]? = some d → ∃ v, vs[i]? = some v ∧ Rep g w d v
  | [], _, _, _, _, h => by simp at h
  | d :: ds, vs, 0, _, h, e => by
    unfold RepL at h
    obtain ⟨v, r, rfl, h1, _⟩ := h
    simp at e
    subst e
    exact ⟨v, rfl, h1⟩
  | d :: ds, vs, i + 1, _, h, e => by
    unfold RepL at h
    obtain ⟨v, r, rfl, _, h2⟩ := h
    obtain ⟨v', q, h3⟩ := RepL.get (i := i) h2 (by simpa using e)
    exact ⟨v', by simpa using q, h3⟩
theorem RepL.getV : ∀ {ds : List D} {vs : List V} {i : Nat} {v : V}, RepL g w ds vs → vs[i]? = some v → ∃ d, ds[i]? = some d ∧ Rep g w d v
  | [], vs, _, _, h, e => by
    unfold RepL at h
    subst h
    simp at e
  | d :: ds, vs, 0, _, h, e => by
    unfold RepL at h
    obtain ⟨v, r, rfl, h1, _⟩ := h
    simp at e
    subst e
    exact ⟨d, rfl, h1⟩
  | d :: ds, vs, i + 1, _, h, e => by
    unfold RepL at h
    obtain ⟨v, r, rfl, _, h2⟩ := h
    obtain ⟨v', q, h3⟩ := RepL.getV (i := i) h2 (by simpa using e)
    exact ⟨v', by simpa using q, h3⟩
theorem RepL.append : ∀ {ds es : List D} {vs us : List V}, RepL g w ds vs → RepL g w es us → RepL g w (ds ++ es) (vs ++ us)
  | [], _, vs, _, h, k => by
    unfold RepL at h
    subst h
    exact k
  | d :: ds, es, vs, us, h, k => by
    unfold RepL at h
    obtain ⟨v, r, rfl, h1, h2⟩ := h
    rw [List.cons_append]
    unfold RepL
    exact ⟨v, r ++ us, rfl, h1, RepL.append h2 k⟩
theorem RepL.take : ∀ (n : Nat) {ds : List D} {vs : List V}, RepL g w ds vs → RepL g w (ds.take n) (vs.take n)
  | 0, ds, vs, h => by simp [RepL]
  | n + 1, [], vs, h => by
    unfold RepL at h
    subst h
    simp [RepL]
  | n + 1, d :: ds, vs, h => by
    unfold RepL at h
    obtain ⟨v, r, rfl, h1, h2⟩ := h
    simp only [List.take_succ_cons]
    unfold RepL
    exact ⟨v, r.take n, rfl, h1, RepL.take n h2⟩
theorem RepL.drop : ∀ (n : Nat) {ds : List D} {vs : List V}, RepL g w ds vs → RepL g w (ds.drop n) (vs.drop n)
  | 0, ds, vs, h => by simpa using h
  | n + 1, [], vs, h => by
    unfold RepL at h
    subst h
    simp [RepL]
  | n + 1, d :: ds, vs, h => by
    unfold RepL at h
    obtain ⟨v, r, rfl, h1, h2⟩ := h
    simp only [List.drop_succ_cons]
    exact RepL.drop n h2

theorem ext_new {p : Addr} {o : HO} (h : w.H p = none) : Ext w ⟨upd w.H p o, w.Fz, w.μ⟩ :=
  ⟨fun a u e => by rw [show (⟨upd w.H p o, w.Fz, w.μ⟩ : W).H a = upd w.H p o a from rfl, upd_ne (ne_of_none e h)]; exact e, fun _ f => f, fun _ f => .inl f, rfl⟩
theorem ext_newF {p : Addr} {o : HO} (h : w.H p = none) : Ext w ⟨upd w.H p o, fun b => w.Fz b ∨ b = p, w.μ⟩ := by
  refine ⟨fun a u e => ?_, fun _ f => .inl f, fun a f => ?_, rfl⟩
  · show upd w.H p o a = some u
    rw [upd_ne (ne_of_none e h)]
    exact e
  · rcases f with f | f
    · exact .inl f
    · subst f
      exact .inr ⟨h, o, upd_same⟩
/-- a new tuple, frozen -/
theorem new_tup (F : ∀ a, w.Fz a → ∃ o, w.H a = some o) {p : Addr} {vs : List V} {ds : List D} (h : w.H p = none) (r : RepL g w ds vs) :
    Rep g ⟨upd w.H p (.tup vs), fun b => w.Fz b ∨ b = p, w.μ⟩ (.tup false ds) (.ref p) := by
  unfold Rep
  exact ⟨p, vs, rfl, .inr (.inl ⟨rfl, .inr rfl, upd_same⟩), RepL.le ((ext_newF h).le F) r⟩
/-- a new tuple whose object is known -/
theorem new_tupF (F : ∀ a, w.Fz a → ∃ o, w.H a = some o) {p : Addr} {o : Obj} {vs : List V} {ds : List D} {k : Bool} (h : w.H p = none) (hd : o.dict = none) (r : RepL g w ds vs) :
    Rep g ⟨upd w.H p (.frz o (.tup vs)), fun b => w.Fz b ∨ b = p, w.μ⟩ (.tup k ds) (.ref p) := by
  unfold Rep
  exact ⟨p, vs, rfl, .inl ⟨.inr rfl, o, upd_same, fun _ => hd⟩, RepL.le ((ext_newF h).le F) r⟩
/-- a display of a tuple, its object known -/
def tTupF (t : TA) : TE := fun σ H Q => t σ H fun xs H1 => xs.length ≤ sizeLine ∧ ∀ p o, H1 p = none → o.dict = none → Q (.ref p) (upd H1 p (.frz o (.tup xs)))
theorem pe_tupF {X : Cx} {es : List Expr} {t : TA} {pos : Pos} {x1 : Nat} (h : PA X es t) : PE X (.Tuple es x1 pos) (tTupF t) := by
  refine ⟨fun pins s σ H Q I hq => ?_⟩
  refine wpAny_Tuple_spliced (thn (h.run pos pins s σ H _ I hq) fun us s1 ⟨xs, H1, I1, r, z, q⟩ => ⟨by rw [← r.length]; exact z, ?_⟩)
  have hf : H1 s1.heap.objs.size = none := I1.hok.fresh (Nat.le_refl _)
  refine ⟨.ref s1.heap.objs.size, upd H1 s1.heap.objs.size (.frz { cls := .type "tuple", data := .seq us.toArray } (.tup xs)), I1.laid (t' := s1.toks) (fun b u e => Heap.get?_push_of_some _ e) (Nat.le_refl _) ?_, rfl, q _ _ hf rfl⟩
  exact ⟨Heap.get?_push_size _ rfl, (show ObjOk X.prog X.w _ _ _ (.tup xs) from ⟨z, us, r, IsTup.new _ _⟩)⟩
/-- a new list of one's own -/
theorem new_lst (F : ∀ a, w.Fz a → ∃ o, w.H a = some o) {p : Addr} {vs : List V} {ds : List D} (h : w.H p = none) (r : RepL g w ds vs) :
    RepN g w ⟨upd w.H p (.lst vs), w.Fz, w.μ⟩ (.own ds) (.ref p) := by
  refine ⟨p, vs, rfl, upd_same, RepL.le ((ext_new h).le F) r, fun f => ?_, h⟩
  obtain ⟨o, e⟩ := F p f
  rw [h] at e
  cases e

theorem tVar_le {i : Nat} (hi : i < σ.length) {H : Hp} {Q : VK} (h : tE g C (varF i) σ H Q) : tVar i σ H Q := by
  obtain ⟨c, w, fv, s, rfl, S, h⟩ := h
  have go : ∀ {m : M}, s.ρ[i]? = some (some m) → ∃ v, σ[i]? = some (some v) ∧ (σ ++ fv)[i]? = some (some v) ∧ RepM g w c.sf m v := fun e => by
    obtain ⟨v, hv, r⟩ := S.env i _ e
    refine ⟨v, ?_, hv, r⟩
    rw [List.getElem?_append_left hi] at hv
    exact hv
  unfold varF at h
  split at h
  · rename_i d e
    obtain ⟨v, h1, h2, r⟩ := go e
    exact ⟨v, h1, h v w S.aft r⟩
  · rename_i ds e
    obtain ⟨v, h1, h2, r⟩ := go e
    exact ⟨v, h1, h v w S.aft ⟨h2, _, e, rfl⟩⟩
  · rename_i ds e
    obtain ⟨v, h1, h2, r⟩ := go e
    exact ⟨v, h1, h v w S.aft ⟨h2, _, e, rfl⟩⟩
  · exact h.elim
theorem tC_le {d : D} {v : V} (r : ∀ w, Rep g w d v) {H : Hp} {Q : VK} (h : tE g C (cstF d) σ H Q) : tC v σ H Q := by
  obtain ⟨c, w, fv, s, rfl, S, h⟩ := h
  exact h v w S.aft (r w)

theorem tTup_le {fs : List SE} {H : Hp} {Q : VK} (h : tE g C (tupF fs) σ H Q) : tTupF (tFzs g C fs) σ H Q := by
  obtain ⟨c, w, fv, s, rfl, S, h⟩ := h
  unfold tupF at h
  rw [Res.sat_bind] at h
  refine ⟨c, w, fv, s, rfl, S, h.mono fun p h vs w1 A r => ?_⟩
  obtain ⟨ds, s1⟩ := p
  obtain ⟨hz, h⟩ := Res.sat_ite _ _ h
  refine ⟨by rw [← r.length]; exact hz, fun p o hp hd => ?_⟩
  exact h (.ref p) _ (A.ext (ext_newF hp)) (new_tupF A.sim.fz hp hd r)
theorem tLst_le {fs : List SE} {H : Hp} {Q : VK} (h : tE g C (lstF fs) σ H Q) : tLst (tFzs g C fs) σ H Q := by
  obtain ⟨c, w, fv, s, rfl, S, h⟩ := h
  unfold lstF at h
  rw [Res.sat_bind] at h
  refine ⟨c, w, fv, s, rfl, S, h.mono fun p h vs w1 A r => ?_⟩
  obtain ⟨ds, s1⟩ := p
  obtain ⟨hz, h⟩ := Res.sat_ite _ _ h
  refine ⟨by rw [← r.length]; exact hz, fun p hp => ?_⟩
  exact h (.ref p) _ (A.ext (ext_new hp)) ((new_lst A.sim.fz hp r).repR S A (ext_new hp))

/-- what a call yields -/
def RepT (g : Cg) (w w' : W) : M → V → Prop
  | .val d, v => Rep g w' d v
  | .own ds, v => ∃ a vs, v = .ref a ∧ w'.H a = some (.lst vs) ∧ RepL g w' ds vs ∧ ¬ w'.Fz a ∧ a ∉ w'.μ ∧ w.H a = none
  | .odic _, _ => False
  | .slf _, _ => False
abbrev Fnl := List D → List (List D) → Res (M × List (List D))
def spF (g : Cg) (n : Nat) (f : Fnl) : Sp := fun vs H Q _ => ∃ w st ds, w.H = H ∧ Wf g w st ∧ RepL g w ds vs ∧ ds.length = n ∧
  (f ds st).Sat fun p => ∀ v w', Stp (fun _ => False) w w' → Wf g w' p.2 → RepT g w w' p.1 v → Q v w'.H
theorem Sim.call (S : Sim g c w σ fv s) {st' : List (List D)} (k : Stp (fun _ => False) w w') (F : Wf g w' st') : Sim g c w' σ fv ⟨s.ρ, st'⟩ := by
  refine ⟨S.len, fun i m e => ?_, fun a o => ?_, S.sep, fun z e => ?_, S.nof, F.fz, F.mu, F.mund, F.clen, F.cells, S.step0.trans k fun _ _ _ _ _ z => z, S.sn⟩
  · obtain ⟨v, hv, r⟩ := S.env i m e
    refine ⟨v, hv, ?_⟩
    cases m with
    | val d => exact Rep.le k.le r
    | odic _ => exact r
    | slf => exact r
    | own ds =>
      obtain ⟨a, vs, e1, hH, hr⟩ := r
      subst e1
      obtain ⟨n1, n2, n3⟩ := S.own a ⟨i, _, e, rfl, hv⟩
      exact ⟨a, vs, rfl, (k.oth a _ hH n2 fun z => z).1, RepL.le k.le hr⟩
  · obtain ⟨n1, n2, n3⟩ := S.own a o
    obtain ⟨vs, e⟩ := S.owH o
    obtain ⟨_, f, m⟩ := k.oth a _ e n2 fun z => z
    exact ⟨fun q => n1 (f q), m, n3⟩
  · obtain ⟨⟨h1, h2, h3, h4, h5, h6, h7⟩, ⟨od, hd, nd⟩, vs, q, kk⟩ := S.slf z e
    have ha : ∃ o, w.H z.a = some o := by
      rcases q with ⟨e1, _⟩ | ⟨e1, _⟩ <;> exact ⟨_, e1⟩
    obtain ⟨oa, ha⟩ := ha
    obtain ⟨a1, a2, a3⟩ := k.oth _ _ ha h3 fun z => z
    obtain ⟨d1, d2, d3⟩ := k.oth _ _ hd h4 fun z => z
    refine ⟨⟨fun f => h1 (a2 f), fun f => h2 (d2 f), a3, d3, h5, h6, h7⟩, ⟨od, d1, nd⟩, vs, ?_, kk⟩
    unfold SlX.Slt at q ⊢
    rw [a1, d1, ← ha, ← hd]
    exact q
theorem Sim.callA (S : Sim g c w σ fv s) {st' : List (List D)} (k : Stp (fun _ => False) w w') (F : Wf g w' st') : Aft g c σ fv w s w' ⟨s.ρ, st'⟩ :=
  ⟨⟨k.le, fun a o e m _ => k.oth a o e m fun z => z, k.mu, k.there⟩, S.call k F, EnvLe.refl _⟩
theorem rOf_ok {m : M} {w1 w2 : W} {s1 : S} {v : V} (S : Sim g c w σ fv s) (A : Aft g c σ fv w s w1 s1) (r : RepT g w1 w2 m v) {P : R → Prop} (h : (rOf m).Sat P) {ρ' : List (Option M)} :
    ∃ r', P r' ∧ RepR g w w2 (σ ++ fv) ρ' r' v := by
  cases m with
  | val d => exact ⟨.val d, h, r⟩
  | odic _ => exact r.elim
  | slf => exact r.elim
  | own ds =>
    obtain ⟨a, vs, e, hH, hr, hf, hm, hn⟩ := r
    refine ⟨.own ds, h, a, vs, e, hH, hr, hf, hm, ?_⟩
    cases q : w.H a with
    | none => rfl
    | some o =>
      obtain ⟨o', e'⟩ := A.stp.there a o q
      rw [hn] at e'
      cases e'
theorem tCall_le {k n : Nat} {f : Fnl} {fs : List SE} (hf : ∀ ds st, C k ds st = f ds st) (hn : fs.length = n) {E : XK} {H : Hp} {Q : VK} (h : tE g C (callF k fs) σ H Q) : tCall (spF g n f) [] E (tFzs g C fs) σ H Q := by
  obtain ⟨c, w, fv, s, rfl, S, h⟩ := h
  unfold callF at h
  rw [Res.sat_bind] at h
  refine ⟨c, w, fv, s, rfl, S, ?_⟩
  have hlen : ∀ {fs : List SE} {s : Ev.S} {p : List D × Ev.S}, frzs fs C s = .ok p → p.1.length = fs.length := by
    intro fs
    induction fs with
    | nil => intro s p e; unfold frzs at e; cases e; rfl
    | cons f fs ih =>
      intro s p e
      unfold frzs at e
      cases e1 : f C s with
      | ok q =>
        rw [e1] at e
        simp only [Res.bind_ok] at e
        cases e2 : frz q.1 q.2 with
        | ok q2 =>
          rw [e2] at e
          simp only [Res.bind_ok] at e
          cases e3 : frzs fs C q2.2 with
          | ok q3 =>
            rw [e3] at e
            simp only [Res.bind_ok] at e
            cases e
            simp [ih e3]
          | exc _ _ _ => rw [e3] at e; cases e
          | stuck => rw [e3] at e; cases e
        | exc _ _ _ => rw [e2] at e; cases e
        | stuck => rw [e2] at e; cases e
      | exc _ _ _ => rw [e1] at e; cases e
      | stuck => rw [e1] at e; cases e
  obtain ⟨⟨ds, s1⟩, e, h⟩ := Res.sat_iff.mp h
  rw [e]
  show ∀ vs w', _
  intro vs w1 A r
  rw [List.append_nil]
  rw [Res.sat_bind, hf] at h
  refine ⟨w1, s1.st, ds, rfl, A.sim.wf, r, (hlen e).trans hn, h.mono fun p h v w2 k2 F rt => ?_⟩
  rw [Res.sat_bind] at h
  obtain ⟨r', h, rr⟩ := rOf_ok S A rt h (ρ' := s1.ρ)
  exact h v w2 (A.trans (A.sim.callA k2 F)) rr
end
end Ev
set_option Elab.async false
set_option maxRecDepth 100000
set_option maxHeartbeats 1000000
namespace Ev
open PySem PySem.Spec PyProof.Rows L2
set_option autoImplicit false

def notStar : Expr → Bool
  | .Starred _ _ => false
  | _ => true
theorem star_cons {e : Expr} (h : notStar e = true) (es : List Expr) (env : Env) : starEach (e :: es) env = (false, eval e env) :: starEach es env := by
  cases e <;> first | rfl | cases h
theorem star_any : ∀ {es : List Expr} (h : es.all notStar = true) (pos : Pos) (env : Env), (backTo pos (starEach es env)).any (·.1) = false
  | [], _, _, _ => rfl
  | e :: es, h, pos, env => by
    rw [List.all_cons, Bool.and_eq_true] at h
    rw [star_cons h.1]
    exact star_any h.2 pos env
theorem star_len : ∀ {es : List Expr} (h : es.all notStar = true) (pos : Pos) (env : Env), (backTo pos (starEach es env)).all (fun x => !x.1) = true
  | [], _, _, _ => rfl
  | e :: es, h, pos, env => by
    rw [List.all_cons, Bool.and_eq_true] at h
    rw [star_cons h.1]
    exact star_len h.2 pos env
def plainBase : Expr → Bool
  | .Call (.Name _ _) [] [] _ => false
  | _ => true
theorem base_plain {o : Expr} (h : plainBase o = true) (f : Str) (env : Env) (wh : Sem Value) : attributeBase o f env wh = wh := by
  unfold attributeBase
  split
  · cases h
  · rfl
theorem meth_eval {o : Expr} {m : Str} {apos pos : Pos} {args : List Expr} {env : Env} (hb : plainBase o = true) (hs : args.all notStar = true) (hl : args.length < 30) (hp : (apos.endLine == pos.line) = true) :
    eval (.Call (.Attribute o m apos) args [] pos) env = (do
      let ov ← eval o env
      standAt apos.atName
      let (f, first) ← holding [ov] (getMethod ov m (do return (← importBound o env).getD true))
      callWith pos f first (backTo pos (starEach args env)) (backToKw pos (keywordEach [] env))) := by
  have e1 : methodCallForm (args.length + ([] : List Keyword).length) (backTo pos (starEach args env)) (backToKw pos (keywordEach [] env)) = true := by
    unfold methodCallForm
    rw [star_len hs]
    simp [backToKw, keywordEach, hl]
  have e0 : eval (.Call (.Attribute o m apos) args [] pos) env = (do
      let ov ← attributeBase o m env (eval o env)
      standAt apos.atName
      methodCall o m apos pos env ov (args.length + ([] : List Keyword).length) (backTo pos (starEach args env)) (backToKw pos (keywordEach [] env))) := by
    conv => lhs; unfold eval
  rw [e0, base_plain hb]
  unfold methodCall
  rw [e1]
  unfold methodCallPos calleeOf
  simp only [hp, Bool.not_true, Bool.false_or, if_true, pure_bind]

section
variable {X : Cx} {g : Cg} {C : Cl} {CX : CXT}
/-- f(e, ..), all parameters given, by a raw promise -/
theorem pe_callR {n : Nat} {f : Addr} {sp : Sp} {E : XK} {x : Str} {p pos : Pos} {e : Expr} {es : List Expr} {t : TA} (F : FnR X.prog X.w X.K X.mg X.base CX n f sp) (hr : Room n X.A) (hg : Gl X x) (hm : X.mg x = some (.ref f)) (hk : PySem.W.keepIn X.K (.ref f) = true) (hx : Passes CX X E)
    (ha : PA X (e :: es) t) (hdb : (x == ("__debug__" : Str)) = false) (hs : (e :: es).all notStar = true) : PE X (.Call (.Name x p) (e :: es) [] pos) (tCall sp [] E t) := by
  have hs' := hs
  rw [List.all_cons, Bool.and_eq_true] at hs'
  refine ⟨fun pins s σ H Q I h => ?_⟩
  refine wpAny_Call_Name_kw (ld_glob I hg hm ?_ hdb)
  refine PySem.W.callWith_K (h₀ := X.base) I.ok.mod.kin hk (thn (ha.run pos pins s σ H _ I h) fun us s1 ⟨vs, H1, I1, r, q⟩ => ⟨I1.kIn, ?_⟩) (star_cons hs'.1 _ _) (star_any hs'.2 _ _)
  have q : sp (vs ++ []) H1 Q E := q
  rw [List.append_nil] at q
  exact wpAny_call (run_fnR F hr hx I1 r q)
/-- o.m(args), the class told by the object -/
def tMethD (X : Cx) (CX : CXT) (n : Nat) (m : Str) (E : XK) (ta : TE) (t : TA) : TE := fun σ H Q => ta σ H fun x H1 => ∃ a D gf sp dx vs, x = .ref a ∧ SlX.Slt H1 a D dx vs ∧ SlX.SCls X.K D ∧ Meth X.K D m gf ∧ FnR X.prog X.w X.K X.mg X.base CX n gf sp ∧
  t σ H1 fun ws H2 => sp (x :: ws) H2 Q E
theorem pe_methD {n : Nat} {E : XK} {o : Expr} {m : Str} {apos pos : Pos} {es : List Expr} {ta : TE} {t : TA} (he : PE X o ta) (hr : Room n X.A) (hx : Passes CX X E) (ha : PA X es t) (hb : plainBase o = true) (hs : es.all notStar = true) (hl : es.length < 30) (hp : (apos.endLine == pos.line) = true) (hn : es = [] → t = tNil) :
    PE X (.Call (.Attribute o m apos) es [] pos) (tMethD X CX n m E ta t) := by
  refine ⟨fun pins s σ H Q I h => ?_⟩
  refine PySem.W.methodCall_KW (thn (he.run pins s σ H _ I h) fun u s1 ⟨x, H1, I1, rx, a, D, gf, sp, dx, vs, ex, hsl, c, hm, F, q⟩ => ?_) (meth_eval hb hs hl hp)
  subst ex
  obtain rfl : u = Value.ref a := rx
  refine SlX.getmethsl_ok I1 hsl c hm ?_
  cases es with
  | nil =>
    rw [hn rfl] at q
    exact PySem.W.callWith_K0 (first := [.ref a]) I1.kIn hm.kp (wpAny_call (run_fnR (us := [.ref a]) (vs := [.ref a]) F hr hx I1 (.cons rfl .nil) q))
  | cons e es =>
    have hs' := hs
    rw [List.all_cons, Bool.and_eq_true] at hs'
    refine PySem.W.callWith_K (first := [.ref a]) (h₀ := X.base) I.ok.mod.kin hm.kp (thn (ha.run pos pins s1 σ H1 _ I1 q) fun us s2 ⟨ws, H2, I2, r, q2⟩ => ⟨I2.kIn, ?_⟩) (star_cons hs'.1 _ _) (star_any hs'.2 _ _)
    exact wpAny_call (run_fnR (us := .ref a :: us) (vs := .ref a :: ws) F hr hx I2 (.cons rfl r) q2)
end

section
variable {g : Cg} {c : Fc} {w w' : W} {σ fv : Tv} {s : S} {C : Cl}
theorem frzs_len : ∀ {fs : List SE} {s : Ev.S} {p : List D × Ev.S}, frzs fs C s = .ok p → p.1.length = fs.length := by
  intro fs
  induction fs with
  | nil => intro s p e; unfold frzs at e; cases e; rfl
  | cons f fs ih =>
    intro s p e
    unfold frzs at e
    cases e1 : f C s with
    | ok q =>
      rw [e1] at e
      simp only [Res.bind_ok] at e
      cases e2 : frz q.1 q.2 with
      | ok q2 =>
        rw [e2] at e
        simp only [Res.bind_ok] at e
        cases e3 : frzs fs C q2.2 with
        | ok q3 =>
          rw [e3] at e
          simp only [Res.bind_ok] at e
          cases e
          simp [ih e3]
        | exc _ _ _ => rw [e3] at e; cases e
        | stuck => rw [e3] at e; cases e
      | exc _ _ _ => rw [e2] at e; cases e
      | stuck => rw [e2] at e; cases e
    | exc _ _ _ => rw [e1] at e; cases e
    | stuck => rw [e1] at e; cases e
/-- a method's promise: the class c's m is the table's k -/
structure MetOk (X : Cx) (g : Cg) (C : Cl) (CX : CXT) (n : Nat) (m : Str) (ms : List (Nat × Nat)) (np : Nat) : Prop where
  ok : ∀ c k, ms.lookup c = some k → SlX.SCls X.K (g.ct c) ∧ ∃ gf, Meth X.K (g.ct c) m gf ∧ FnR X.prog X.w X.K X.mg X.base CX n gf (spF g np (C k))
theorem insOf_ok {w1 : W} {τ : Tv} {ρ : List (Option M)} {r : R} {v : V} (h : RepR g w w1 τ ρ r v) {P : Nat × List D → Prop} (k : (insOf r).Sat P) : ∃ cc ds, P (cc, ds) ∧ Rep g w1 (.ins cc ds) v := by
  unfold insOf at k
  split at k
  · exact ⟨_, _, k, h⟩
  · exact k.elim
theorem optR_ok {α : Type} {o : Option α} {P : α → Prop} (k : (optR o).Sat P) : ∃ a, o = some a ∧ P a := by
  cases o with
  | none => exact k.elim
  | some a => exact ⟨a, rfl, k⟩
theorem tMethD_le {X : Cx} {CX : CXT} {n np : Nat} {m : Str} {ms : List (Nat × Nat)} {E : XK} {o : SE} {fs : List SE} (F : MetOk X g C CX n m ms np) (hn : fs.length + 1 = np) {H : Hp} {Q : VK} (h : tE g C (methF ms o fs) σ H Q) :
    tMethD X CX n m E (tE g C o) (tFzs g C fs) σ H Q := by
  obtain ⟨c, w, fv, s, rfl, S, h⟩ := h
  unfold methF at h
  rw [Res.sat_bind] at h
  refine ⟨c, w, fv, s, rfl, S, h.mono fun p h v w1 A r => ?_⟩
  obtain ⟨r0, s1⟩ := p
  rw [Res.sat_bind] at h
  obtain ⟨cc, ds, h, r'⟩ := insOf_ok r h
  have r := r'
  unfold Rep at r
  obtain ⟨a, dx, vs, rfl, f1, f2, sl, rs⟩ := r
  rw [Res.sat_bind] at h
  obtain ⟨⟨as, s2⟩, e, h⟩ := Res.sat_iff.mp h
  rw [Res.sat_bind] at h
  obtain ⟨k, hl, h⟩ := optR_ok h
  obtain ⟨sc, gf, hm, Fn⟩ := F.ok cc k hl
  refine ⟨a, g.ct cc, gf, _, dx, vs, rfl, sl, sc, hm, Fn, c, w1, fv, s1, rfl, A.sim, ?_⟩
  rw [e]
  intro ws w2 A2 rws
  rw [Res.sat_bind] at h
  have rr : Rep g w2 (.ins cc ds) (.ref a) := Rep.le A2.stp.le r'
  refine ⟨w2, s2.st, .ins cc ds :: as, rfl, A2.sim.wf, ?_, ?_, h.mono fun p h v w3 k3 Fw rt => ?_⟩
  · unfold RepL
    exact ⟨_, _, rfl, rr, rws⟩
  · have : as.length = fs.length := frzs_len e
    simp only [List.length_cons]
    omega
  · rw [Res.sat_bind] at h
    obtain ⟨r2, h, rr⟩ := rOf_ok S (A.trans A2) rt h (ρ' := s2.ρ)
    exact h v w3 ((A.trans A2).trans (A2.sim.callA k3 Fw)) rr
/-- the fields: class c has f in its slot j -/
structure FldOk (X : Cx) (g : Cg) (f : Str) (cs : List (Nat × Nat)) : Prop where
  ok : ∀ c j, cs.lookup c = some j → SlX.SCls X.K (g.ct c) ∧ ∃ p, SlX.Slot1 X.K (g.ct c) f p j
theorem RepS.get : ∀ {ds : List D} {vs : List (Option V)} {i : Nat} {d : D}, RepS g w ds vs → ds[i]? = some d → ∃ v, vs[i]? = some (some v) ∧ Rep g w d v
  | [], _, _, _, _, h => by simp at h
  | d :: ds, vs, 0, _, h, e => by
    unfold RepS at h
    obtain ⟨v, r, rfl, h1, _⟩ := h
    simp at e
    subst e
    exact ⟨v, rfl, h1⟩
  | d :: ds, vs, i + 1, _, h, e => by
    unfold RepS at h
    obtain ⟨v, r, rfl, _, h2⟩ := h
    obtain ⟨v', q, h3⟩ := RepS.get (i := i) h2 (by simpa using e)
    exact ⟨v', by simpa using q, h3⟩
theorem tSl_le {X : Cx} {f : Str} {cs : List (Nat × Nat)} {o : SE} (F : FldOk X g f cs) {H : Hp} {Q : VK} (h : tE g C (fldF cs o) σ H Q) : SlX.tSl X.K (tE g C o) f σ H Q := by
  obtain ⟨c, w, fv, s, rfl, S, h⟩ := h
  unfold fldF at h
  rw [Res.sat_bind] at h
  refine ⟨c, w, fv, s, rfl, S, h.mono fun p h v w1 A r => ?_⟩
  obtain ⟨r0, s1⟩ := p
  rw [Res.sat_bind] at h
  obtain ⟨cc, ds, h, r⟩ := insOf_ok r h
  unfold Rep at r
  obtain ⟨a, dx, vs, rfl, f1, f2, sl, rs⟩ := r
  rw [Res.sat_bind] at h
  obtain ⟨j, hl, h⟩ := optR_ok h
  rw [Res.sat_bind] at h
  obtain ⟨d, hd, h⟩ := optR_ok h
  obtain ⟨sc, p, st⟩ := F.ok cc j hl
  obtain ⟨v', hv, rd⟩ := rs.get hd
  exact ⟨a, g.ct cc, dx, p, vs, j, v', rfl, sl, sc, st, hv, h v' w1 A rd⟩

def tT (g : Cg) (C : Cl) (F : SE) : TT := fun σ H Q => ∃ c w fv s, w.H = H ∧ Sim g c w σ fv s ∧
  (tst F C s).Sat fun p => ∀ w', Aft g c σ fv w s w' p.2 → Q p.1 w'.H
theorem bool1_ok {w1 : W} {τ : Tv} {ρ : List (Option M)} {r : R} {v : V} (h : RepR g w w1 τ ρ r v) {P : Bool → Prop} (k : (bool1 r).Sat P) : ∃ b, P b ∧ r = .val (.bl b) ∧ v = .bl b := by
  unfold bool1 at k
  split at k
  · exact ⟨_, k, rfl, h⟩
  · exact k.elim
theorem tT_tB {F : SE} {H : Hp} {Q : Bool → Hp → Prop} (h : tT g C F σ H Q) : tB (tE g C F) σ H Q := by
  obtain ⟨c, w, fv, s, rfl, S, h⟩ := h
  unfold tst at h
  rw [Res.sat_bind] at h
  refine ⟨c, w, fv, s, rfl, S, h.mono fun p h v w1 A r => ?_⟩
  obtain ⟨r0, s1⟩ := p
  rw [Res.sat_bind] at h
  obtain ⟨b, h, _, e⟩ := bool1_ok r h
  exact ⟨b, e, h w1 A⟩
theorem tE_tst {F : SE} {f : Bool → SE} {H : Hp} {Q : VK} (h : tE g C (fun C s => (tst F C s).bind fun (b, s1) => f b C s1) σ H Q) : tT g C F σ H fun b H1 => tE g C (f b) σ H1 Q := by
  obtain ⟨c, w, fv, s, rfl, S, h⟩ := h
  rw [Res.sat_bind] at h
  refine ⟨c, w, fv, s, rfl, S, h.mono fun p h w1 A => ?_⟩
  obtain ⟨b, s1⟩ := p
  refine ⟨c, w1, fv, s1, rfl, A.sim, h.mono fun q h v w2 A2 r => h v w2 (A.trans A2) ?_⟩
  obtain ⟨r0, s2⟩ := q
  cases r0 with
  | val d => exact r
  | odic _ => exact r
  | ref i => exact r
  | own ds =>
    obtain ⟨a, vs, e, hH, hr, hf, hm, hn⟩ := r
    refine ⟨a, vs, e, hH, hr, hf, hm, ?_⟩
    cases q : w.H a with
    | none => rfl
    | some o =>
      obtain ⟨o', e'⟩ := A.stp.there a o q
      rw [hn] at e'
      cases e'
theorem tT_tst {F : SE} {f : Bool → SE} {H : Hp} {Q : Bool → Hp → Prop} (h : tT g C (fun C s => (tst F C s).bind fun (b, s1) => f b C s1) σ H Q) : tT g C F σ H fun b H1 => tT g C (f b) σ H1 Q := by
  obtain ⟨c, w, fv, s, rfl, S, h⟩ := h
  unfold tst at h
  rw [Res.sat_bind, Res.sat_bind] at h
  refine ⟨c, w, fv, s, rfl, S, h.mono fun p h w1 A => ?_⟩
  obtain ⟨b, s1⟩ := p
  refine ⟨c, w1, fv, s1, rfl, A.sim, ?_⟩
  unfold tst
  rw [Res.sat_bind]
  exact h.mono fun q h => h.mono fun r h w2 A2 => h w2 (A.trans A2)
end
end Ev
set_option Elab.async false
set_option maxRecDepth 100000
set_option maxHeartbeats 1000000
namespace Ev
open PySem PySem.Spec PyProof.Rows L2
set_option autoImplicit false

def SPost (g : Cg) (c : Fc) (w : W) (E : Ends) (s' : S) : Out → Prop
  | .nx => ∀ σ' fv' w', Le w w' → Sim g c w' σ' fv' s' → E.nx σ' w'.H
  | .bk => ∀ σ' fv' w', Le w w' → Sim g c w' σ' fv' s' → E.bk σ' w'.H
  | .ct => ∀ σ' fv' w', Le w w' → Sim g c w' σ' fv' s' → E.ct σ' w'.H
  | .ret m => ∀ v σ' fv' w', Le w w' → Sim g c w' σ' fv' s' → RepT g c.w0 w' m v → E.rt v w'.H
theorem SPost.le {g : Cg} {c : Fc} {w w1 : W} {E : Ends} {s' : S} {o : Out} (l : Le w w1) (h : SPost g c w E s' o) : SPost g c w1 E s' o := by
  cases o with
  | nx => exact fun σ' fv' w' k => h σ' fv' w' (l.trans k)
  | bk => exact fun σ' fv' w' k => h σ' fv' w' (l.trans k)
  | ct => exact fun σ' fv' w' k => h σ' fv' w' (l.trans k)
  | ret m => exact fun v σ' fv' w' k => h v σ' fv' w' (l.trans k)
/-- a statement's reading -/
def tS (g : Cg) (C : Cl) (F : SS) : TS := fun D σ H => ∃ c w fv s, w.H = H ∧ Sim g c w σ fv s ∧ (F C s).Sat fun p => SPost g c w D p.2 p.1
section
variable {g : Cg} {c : Fc} {w w' : W} {σ fv : Tv} {s : S} {C : Cl} {Dn : Ends}

theorem tS_nx {H : Hp} (h : tS g C nxF Dn σ H) : tNext Dn σ H := by
  obtain ⟨c, w, fv, s, rfl, S, h⟩ := h
  exact h σ fv w (Le.refl w) S
theorem tS_seq {f k : SS} {H : Hp} (h : tS g C (seqF f k) Dn σ H) : tSeq (tS g C f) (tS g C k) Dn σ H := by
  obtain ⟨c, w, fv, s, rfl, S, h⟩ := h
  unfold seqF at h
  rw [Res.sat_bind] at h
  refine ⟨c, w, fv, s, rfl, S, h.mono fun p h => ?_⟩
  obtain ⟨o, s1⟩ := p
  cases o with
  | nx => exact fun σ' fv' w' l S' => ⟨c, w', fv', s1, rfl, S', h.mono fun p h => h.le l⟩
  | bk => exact h
  | ct => exact h
  | ret m => exact h
theorem tS_stk {t : TS} {H : Hp} (h : tS g C stkF Dn σ H) : t Dn σ H := by
  obtain ⟨c, w, fv, s, rfl, S, h⟩ := h
  exact h.elim
theorem tS_exp {f : SE} {H : Hp} (h : tS g C (expF f) Dn σ H) : tDrop (tE g C f) Dn σ H := by
  obtain ⟨c, w, fv, s, rfl, S, h⟩ := h
  unfold expF at h
  rw [Res.sat_bind] at h
  exact ⟨c, w, fv, s, rfl, S, h.mono fun p h v w1 A r => h σ fv w1 A.stp.le A.sim⟩
theorem tS_if {cF : SE} {f k : SS} {H : Hp} (h : tS g C (ifF cF f k) Dn σ H) : tIfS (tT g C cF) (tS g C f) (tS g C k) Dn σ H := by
  obtain ⟨c, w, fv, s, rfl, S, h⟩ := h
  unfold ifF at h
  rw [Res.sat_bind] at h
  refine ⟨c, w, fv, s, rfl, S, h.mono fun p h w1 A => ?_⟩
  obtain ⟨b, s1⟩ := p
  cases b with
  | true => exact ⟨c, w1, fv, s1, rfl, A.sim, h.mono fun p h => h.le A.stp.le⟩
  | false => exact ⟨c, w1, fv, s1, rfl, A.sim, h.mono fun p h => h.le A.stp.le⟩
theorem Sim.wipeA (S : Sim g c w σ fv s) : Sim g c w σ fv s.wipe := S.less (by simp) fun i m e => by
  rw [List.getElem?_map] at e
  cases q : s.ρ[i]? with
  | none => rw [q] at e; cases e
  | some x => rw [q] at e; cases e
theorem tS_ret {f : SE} {H : Hp} (h : tS g C (retF f) Dn σ H) : tRet (tE g C f) Dn σ H := by
  obtain ⟨c, w, fv, s, rfl, S, h⟩ := h
  unfold retF at h
  rw [Res.sat_bind] at h
  refine ⟨c, w, fv, s, rfl, S, h.mono fun p h v w1 A r => ?_⟩
  obtain ⟨r0, s1⟩ := p
  cases r0 with
  | val d => exact h v σ fv w1 A.stp.le A.sim.wipeA r
  | odic _ => exact r.elim
  | own ds =>
    obtain ⟨a, vs, e, hH, hr, hf, hm, hn⟩ := r
    exact h v σ fv w1 A.stp.le A.sim.wipeA ⟨a, vs, e, hH, hr, hf, hm, S.new hn⟩
  | ref i =>
    obtain ⟨ht, m, hm, ho⟩ := r
    simp only [hm] at h
    cases m with
    | val d => cases ho
    | slf => cases ho
    | odic _ =>
      obtain ⟨_, _, r⟩ := A.sim.env i _ hm
      exact r.elim
    | own ds =>
      obtain ⟨v', hv', a, vs, e, hH, hr⟩ := A.sim.env i _ hm
      rw [ht] at hv'
      cases hv'
      subst e
      obtain ⟨n1, n2, n3⟩ := A.sim.own a ⟨i, _, hm, rfl, ht⟩
      exact h _ σ fv w1 A.stp.le A.sim.wipeA ⟨a, vs, rfl, hH, hr, n1, n2, n3⟩

/-- a slot is stored -/
theorem Sim.put (S : Sim g c w σ fv s) {i : Nat} (hi : i < σ.length) {m : M} {v : V} (r : RepT g c.w0 w m v) (no : ∀ a, m.isOwn = true → v = .ref a → ¬ Ow (σ ++ fv) s.ρ a) :
    Sim g c w (σ.set i (some v)) fv ⟨s.ρ.set i (some m), s.st⟩ := by
  have e0 : σ.set i (some v) ++ fv = (σ ++ fv).set i (some v) := by rw [List.set_append_left _ _ hi]
  have rm : RepM g w c.sf m v := by
    cases m with
    | val d => exact r
    | odic _ => exact r
    | slf => exact r.elim
    | own ds =>
      obtain ⟨a, vs, e, hH, hr, _⟩ := r
      exact ⟨a, vs, e, hH, hr⟩
  have hl : i < (σ ++ fv).length := by rw [List.length_append]; omega
  have old : ∀ {j : Nat} {m' : M}, (s.ρ.set i (some m))[j]? = some (some m') → (j = i ∧ m' = m) ∨ (j ≠ i ∧ s.ρ[j]? = some (some m')) := fun {j m'} e => by
    rcases set_get e with ⟨q, z⟩ | ⟨q, z⟩
    · cases z
      exact .inl ⟨q.symm, rfl⟩
    · exact .inr ⟨fun z => q z.symm, z⟩
  have tau : ∀ {j : Nat}, j ≠ i → (σ.set i (some v) ++ fv)[j]? = (σ ++ fv)[j]? := fun {j} q => by
    rw [e0, List.getElem?_set_ne (fun z => q z.symm)]
  have taui : (σ.set i (some v) ++ fv)[i]? = some (some v) := by rw [e0, List.getElem?_set_self hl]
  have ow : ∀ a, Ow (σ.set i (some v) ++ fv) (s.ρ.set i (some m)) a → (m.isOwn = true ∧ v = .ref a) ∨ Ow (σ ++ fv) s.ρ a := fun a ⟨j, m', e, o, t⟩ => by
    rcases old e with ⟨q, z⟩ | ⟨q, z⟩
    · subst q
      subst z
      rw [taui] at t
      exact .inl ⟨o, by simpa using t⟩
    · rw [tau q] at t
      exact .inr ⟨j, m', z, o, t⟩
  refine ⟨by simpa using S.len, fun j m' e => ?_, fun a o => ?_, fun j k mj mk a e1 o1 e2 o2 t1 t2 => ?_, S.slf, S.nof, S.fz, S.mu, S.mund, S.clen, S.cells, S.step0, (by simpa using S.sn)⟩
  · rcases old e with ⟨q, z⟩ | ⟨q, z⟩
    · subst q
      subst z
      exact ⟨v, taui, rm⟩
    · obtain ⟨v', hv', r'⟩ := S.env j m' z
      exact ⟨v', by rw [tau q]; exact hv', r'⟩
  · rcases ow a o with ⟨o1, e1⟩ | o1
    · cases m with
      | val d => cases o1
      | slf => cases o1
      | odic _ => exact r.elim
      | own ds =>
        obtain ⟨b, vs, e, _, _, hf, hm, hn⟩ := r
        rw [e1] at e
        cases e
        exact ⟨hf, hm, hn⟩
    · exact S.own a o1
  · rcases old e1 with ⟨q1, z1⟩ | ⟨q1, z1⟩ <;> rcases old e2 with ⟨q2, z2⟩ | ⟨q2, z2⟩
    · rw [q1, q2]
    · subst q1
      subst z1
      rw [taui] at t1
      rw [tau q2] at t2
      exact (no a o1 (by simpa using t1) ⟨k, mk, z2, o2, t2⟩).elim
    · subst q2
      subst z2
      rw [taui] at t2
      rw [tau q1] at t1
      exact (no a o2 (by simpa using t2) ⟨j, mj, z1, o1, t1⟩).elim
    · rw [tau q1] at t1
      rw [tau q2] at t2
      exact S.sep j k mj mk a z1 o1 z2 o2 t1 t2
theorem mOf_ok {w1 : W} {s1 : S} {r : R} {v : V} {P : M × S → Prop} (S : Sim g c w σ fv s) (A : Aft g c σ fv w s w1 s1) (h : RepR g w w1 (σ ++ fv) s1.ρ r v) (k : (mOf r s1).Sat P) :
    ∃ m s2 w2, P (m, s2) ∧ w2.H = w1.H ∧ Aft g c σ fv w s w2 s2 ∧ RepT g w w2 m v := by
  cases r with
  | val d => exact ⟨_, s1, w1, k, rfl, A, h⟩
  | odic _ => exact h.elim
  | own ds => exact ⟨_, s1, w1, k, rfl, A, h⟩
  | ref i =>
    have hk : ∃ ds s2, (P (.val (.lst ds), s2)) ∧ frz (.ref i) s1 = .ok (.lst ds, s2) := by
      obtain ⟨ht, m, hm, ho⟩ := h
      unfold mOf at k
      unfold frz
      simp only [hm] at k ⊢
      cases m with
      | val d => cases ho
      | slf => cases ho
      | odic _ =>
        obtain ⟨_, _, r⟩ := A.sim.env i _ hm
        exact r.elim
      | own ds => exact ⟨ds, _, k, rfl⟩
    obtain ⟨ds, s2, k, e⟩ := hk
    obtain ⟨d, s3, w2, ⟨e1, e2⟩, hH, A2, r2⟩ := frz_ok (P := fun p => p.1 = .lst ds ∧ p.2 = s2) S A h (by rw [e]; exact ⟨rfl, rfl⟩)
    subst e1 e2
    exact ⟨_, s3, w2, k, hH, A2, r2⟩
theorem sto_ok {i : Nat} {m : M} {ρ : List (Option M)} {P : List (Option M) → Prop} (k : (sto i m ρ).Sat P) : i < ρ.length ∧ P (ρ.set i (some m)) := by
  unfold sto at k
  exact Res.sat_ite _ _ k
theorem RepT.w0 {c : Fc} {m : M} {v : V} (S : Sim g c w σ fv s) (h : RepT g w w' m v) : RepT g c.w0 w' m v := by
  cases m with
  | val d => exact h
  | odic _ => exact h
  | slf => exact h
  | own ds =>
    obtain ⟨a, vs, e, hH, hr, hf, hm, hn⟩ := h
    exact ⟨a, vs, e, hH, hr, hf, hm, S.new hn⟩
theorem RepT.no {w1 : W} {s1 : S} {m : M} {v : V} (S : Sim g c w σ fv s) (A : Aft g c σ fv w s w1 s1) (h : RepT g w w' m v) : ∀ a, m.isOwn = true → v = .ref a → ¬ Ow (σ ++ fv) s1.ρ a := fun a o e z => by
  cases m with
  | val d => cases o
  | odic _ => exact h
  | slf => cases o
  | own ds =>
    obtain ⟨b, vs, e', hH, hr, hf, hm, hn⟩ := h
    rw [e] at e'
    cases e'
    exact S.not_ow hn (A.env.ow z)
/-- x = e -/
theorem tS_set {i : Nat} (hi : i < σ.length) {f : SE} {H : Hp} (h : tS g C (setF i f) Dn σ H) : tAsg (tE g C f) (gName i) Dn σ H := by
  obtain ⟨c, w, fv, s, rfl, S, h⟩ := h
  unfold setF at h
  rw [Res.sat_bind] at h
  refine ⟨c, w, fv, s, rfl, S, h.mono fun p h v w1 A r => ?_⟩
  obtain ⟨r0, s1⟩ := p
  rw [Res.sat_bind] at h
  obtain ⟨m, s2, w2, h, hH, A2, rt⟩ := mOf_ok S A r h
  rw [Res.sat_bind] at h
  obtain ⟨_, h⟩ := sto_ok h
  show Dn.nx (σ.set i (some v)) w1.H
  rw [← hH]
  exact h _ fv w2 A2.stp.le (A2.sim.put hi (rt.w0 S) (rt.no S A2))

/-- slots' own lists frozen: nothing is done -/
theorem fz1_ok (S : Sim g c w σ fv s) (i : Nat) {ρ' : List (Option M)} (h : ρ' = match s.ρ[i]? with
    | some (some (.own ds)) => s.ρ.set i (some (.val (.lst ds)))
    | some (some (.odic kvs)) => s.ρ.set i (some (.val (.dic kvs)))
    | _ => s.ρ) : ∃ w2, w2.H = w.H ∧ Le w w2 ∧ Sim g c w2 σ fv ⟨ρ', s.st⟩ := by
  subst h
  split
  · rename_i ds e
    obtain ⟨v, hv, a, vs, rfl, hH, hr⟩ := S.env i _ e
    obtain ⟨d, s2, w2, ⟨e1, e2⟩, hw, A, _⟩ := frz_ok (r := .ref i) (v := .ref a) (P := fun p => p.1 = .lst ds ∧ p.2 = ⟨s.ρ.set i (some (.val (.lst ds))), s.st⟩) S S.aft ⟨hv, _, e, rfl⟩ (by
      unfold frz
      simp only [e]
      exact ⟨rfl, rfl⟩)
    simp only at e1 e2
    subst e2
    exact ⟨w2, hw, A.stp.le, A.sim⟩
  · rename_i ds e
    obtain ⟨v, hv, r⟩ := S.env i _ e
    exact r.elim
  · exact ⟨w, rfl, Le.refl w, S⟩
theorem fzGo_ok : ∀ (is : List Nat) {w : W} {s : S}, Sim g c w σ fv s → ∃ w2, w2.H = w.H ∧ Le w w2 ∧ Sim g c w2 σ fv ⟨fzGo is s.ρ, s.st⟩
  | [], w, s, S => ⟨w, rfl, Le.refl w, S⟩
  | i :: is, w, s, S => by
    obtain ⟨w1, h1, l1, S1⟩ := fz1_ok S i rfl
    obtain ⟨w2, h2, l2, S2⟩ := fzGo_ok is S1
    exact ⟨w2, h2.trans h1, l1.trans l2, S2⟩
theorem tS_fz {F : SS} {is : List Nat} {H : Hp} (h : tS g C (seqF F (fzF is)) Dn σ H) : tS g C F Dn σ H := by
  obtain ⟨c, w, fv, s, rfl, S, h⟩ := h
  unfold seqF at h
  rw [Res.sat_bind] at h
  refine ⟨c, w, fv, s, rfl, S, h.mono fun p h => ?_⟩
  obtain ⟨o, s1⟩ := p
  cases o with
  | nx =>
    intro σ' fv' w' l S'
    obtain ⟨w2, h2, l2, S2⟩ := fzGo_ok is S'
    have := h σ' fv' w2 (l.trans l2) S2
    rw [h2] at this
    exact this
  | bk => exact h
  | ct => exact h
  | ret m => exact h
theorem keepR_len : ∀ (a b : List (Option M)), (keepR a b).length = b.length
  | [], b => by unfold keepR; rfl
  | x :: a, [] => by cases x <;> rfl
  | none :: a, y :: b => by
    show (keepR a b).length + 1 = _
    rw [keepR_len a b]
    rfl
  | some _ :: a, y :: b => by
    show (keepR a b).length + 1 = _
    rw [keepR_len a b]
    rfl
theorem keepR_get : ∀ (a b : List (Option M)) {i : Nat} {m : M}, (keepR a b)[i]? = some (some m) → b[i]? = some (some m)
  | [], b, i, m, h => by unfold keepR at h; exact h
  | x :: a, [], i, m, h => by cases x <;> exact h
  | none :: a, y :: b, i, m, h => by
    cases i with
    | zero => cases h
    | succ i => exact keepR_get a b (i := i) h
  | some _ :: a, y :: b, i, m, h => by
    cases i with
    | zero => exact h
    | succ i => exact keepR_get a b (i := i) h
theorem Sim.keep (S : Sim g c w σ fv s) (ρ0 : List (Option M)) : Sim g c w σ fv ⟨keepR ρ0 s.ρ, s.st⟩ := S.less (keepR_len _ _) fun _ _ => keepR_get _ _

mutual
/-- the target's reading -/
def gT (K : PySem.W.Frag) : Tg → TG
  | .nm i => gName i
  | .tp ts => gTup K ts.length (gTs K ts)
def gTs (K : PySem.W.Frag) : List Tg → TGs
  | [] => gNil
  | t :: ts => gCons (gT K t) (gTs K ts)
end
mutual
def tgOk (n : Nat) : Tg → Bool
  | .nm i => decide (i < n)
  | .tp ts => tgsOk n ts
def tgsOk (n : Nat) : List Tg → Bool
  | [] => true
  | t :: ts => tgOk n t && tgsOk n ts
end
mutual
def tgIn (vs : List Nat) : Tg → Bool
  | .nm i => vs.contains i
  | .tp ts => tgsIn vs ts
def tgsIn (vs : List Nat) : List Tg → Bool
  | [] => true
  | t :: ts => tgIn vs t && tgsIn vs ts
end
theorem wipe_set {σ : Tv} {i : Nat} {x : Option V} : ∀ {vs : List Nat}, i ∈ vs → wipe (σ.set i x) vs = wipe σ vs
  | [], h => by cases h
  | v :: vs, h => by
    show (wipe (σ.set i x) vs).set v none = (wipe σ vs).set v none
    by_cases hv : i ∈ vs
    · rw [wipe_set hv]
    · have e : v = i := by
        rcases List.mem_cons.mp h with q | q
        · exact q.symm
        · exact (hv q).elim
      subst e
      have go : ∀ {us : List Nat}, v ∉ us → wipe (σ.set v x) us = (wipe σ us).set v x := by
        intro us
        induction us with
        | nil => intro _; rfl
        | cons u us ih =>
          intro hn
          have h1 : v ≠ u := fun z => hn (by rw [z]; exact List.mem_cons_self)
          have h2 : v ∉ us := fun z => hn (List.mem_cons_of_mem _ z)
          show (wipe (σ.set v x) us).set u none = ((wipe σ us).set u none).set v x
          rw [ih h2, List.set_comm _ _ h1]
      rw [go hv, List.set_set]
theorem ow_set {σ fv : Tv} {ρ : List (Option M)} {i : Nat} {d : D} {x : Option V} (hi : i < σ.length) : ∀ a, Ow (σ.set i x ++ fv) (ρ.set i (some (.val d))) a → Ow (σ ++ fv) ρ a := fun a ⟨j, m, e, o, t⟩ => by
  rcases set_get e with ⟨_, z⟩ | ⟨q, z⟩
  · cases z
    cases o
  · rw [← List.set_append_left _ _ hi, List.getElem?_set_ne q] at t
    exact ⟨j, m, z, o, t⟩
mutual
theorem bindT_ok : ∀ (t : Tg) {d : D} {v : V} {σ : Tv} {s : S} {P : List (Option M) → Prop} {Q : L2.St → Hp → Prop}, tgOk σ.length t = true → Sim g c w σ fv s → Rep g w d v → (bindT t d s.ρ).Sat P →
    (∀ σ' ρ', σ'.length = σ.length → (∀ vs, tgIn vs t = true → wipe σ' vs = wipe σ vs) → EnvLe s.ρ ρ' → (∀ a, Ow (σ' ++ fv) ρ' a → Ow (σ ++ fv) s.ρ a) → P ρ' → Sim g c w σ' fv ⟨ρ', s.st⟩ → Q σ' w.H) → gT g.K t v σ w.H Q
  | .nm i, d, v, σ, s, P, Q, hi, S, r, h, k => by
    unfold bindT at h
    obtain ⟨_, h⟩ := sto_ok h
    unfold gT
    have hi : i < σ.length := by
      unfold tgOk at hi
      exact of_decide_eq_true hi
    exact k _ _ (by simp) (fun vs z => wipe_set (by unfold tgIn at z; simpa using z)) (EnvLe.setv _ _ _) (ow_set hi) h (S.put (m := .val d) hi r (fun a z => by cases z))
  | .tp ts, d, v, σ, s, P, Q, hi, S, r, h, k => by
    unfold bindT at h
    cases d with
    | tup kk ds =>
      unfold Rep at r
      obtain ⟨a, vs, rfl, n, rl⟩ := r
      unfold gT
      unfold tgOk at hi
      obtain ⟨hl, hq⟩ := bindTs_ok ts hi S rl h (fun σ1 ρ1 q1 q2 E O => k σ1 ρ1 q1 (fun vs z => q2 vs (by unfold tgIn at z; exact z)) E O)
      exact ⟨a, vs, rfl, n.sq, by rw [← rl.length, hl], hq⟩
    | _ => exact h.elim
theorem bindTs_ok : ∀ (ts : List Tg) {ds : List D} {vs : List V} {σ : Tv} {s : S} {P : List (Option M) → Prop} {Q : L2.St → Hp → Prop}, tgsOk σ.length ts = true → Sim g c w σ fv s → RepL g w ds vs → (bindTs ts ds s.ρ).Sat P →
    (∀ σ' ρ', σ'.length = σ.length → (∀ vs, tgsIn vs ts = true → wipe σ' vs = wipe σ vs) → EnvLe s.ρ ρ' → (∀ a, Ow (σ' ++ fv) ρ' a → Ow (σ ++ fv) s.ρ a) → P ρ' → Sim g c w σ' fv ⟨ρ', s.st⟩ → Q σ' w.H) → ds.length = ts.length ∧ gTs g.K ts vs σ w.H Q
  | [], ds, vs, σ, s, P, Q, hi, S, r, h, k => by
    cases ds with
    | nil =>
      unfold bindTs at h
      unfold RepL at r
      unfold gTs
      exact ⟨rfl, r, k σ s.ρ rfl (fun _ _ => rfl) (EnvLe.refl _) (fun _ z => z) h S⟩
    | cons _ _ => exact h.elim
  | t :: ts, ds, vs, σ, s, P, Q, hi, S, r, h, k => by
    cases ds with
    | nil => exact h.elim
    | cons d ds =>
      unfold bindTs at h
      rw [Res.sat_bind] at h
      unfold RepL at r
      obtain ⟨v, vr, rfl, r1, r2⟩ := r
      unfold tgsOk at hi
      rw [Bool.and_eq_true] at hi
      -- the first; the rest behind it
      have hl : ∀ {ts : List Tg} {ds : List D} {ρ : List (Option M)} {P : List (Option M) → Prop}, (bindTs ts ds ρ).Sat P → ds.length = ts.length := by
        intro ts
        induction ts with
        | nil =>
          intro ds ρ P h
          cases ds with
          | nil => rfl
          | cons _ _ => exact h.elim
        | cons t ts ih =>
          intro ds ρ P h
          cases ds with
          | nil => exact h.elim
          | cons d ds =>
            unfold bindTs at h
            rw [Res.sat_bind] at h
            obtain ⟨_, _, h⟩ := Res.sat_iff.mp h
            simp [ih h]
      obtain ⟨ρ1, e1, h1⟩ := Res.sat_iff.mp h
      refine ⟨by simp [hl h1], ?_⟩
      unfold gTs
      refine ⟨v, vr, rfl, bindT_ok t hi.1 S r1 h fun σ1 ρ2 q1 y1 E1 O1 p1 S1 => ?_⟩
      exact (bindTs_ok ts (by rw [q1]; exact hi.2) S1 r2 p1 fun σ2 ρ3 q2 y2 E2 O2 p2 S2 => k σ2 ρ3 (q2.trans q1) (fun vs z => by
        unfold tgsIn at z
        rw [Bool.and_eq_true] at z
        rw [y2 vs z.2, y1 vs z.1]) (E1.trans E2) (fun a z => O1 a (O2 a z)) p2 S2).2
end
/-- target = e -/
theorem tS_asg {t : Tg} (hi : tgOk σ.length t = true) {f : SE} {H : Hp} (h : tS g C (asgF t f) Dn σ H) : tAsg (tE g C f) (gT g.K t) Dn σ H := by
  obtain ⟨c, w, fv, s, rfl, S, h⟩ := h
  unfold asgF at h
  rw [Res.sat_bind] at h
  refine ⟨c, w, fv, s, rfl, S, h.mono fun p h v w1 A r => ?_⟩
  obtain ⟨r0, s1⟩ := p
  rw [Res.sat_bind] at h
  obtain ⟨d, s2, w2, h, hH, A2, rd⟩ := frz_ok S A r h
  rw [Res.sat_bind] at h
  show gT g.K t v σ w1.H Dn.nx
  rw [← hH]
  exact bindT_ok t hi A2.sim rd h fun σ' ρ' _ _ _ _ p S' => p σ' fv w2 A2.stp.le S'
end
end Ev
set_option Elab.async false
set_option maxRecDepth 100000
set_option maxHeartbeats 1000000
namespace Ev
open PySem PySem.Spec PyProof.Rows L2
set_option autoImplicit false

/-- the iterator J yields the items ds from the world w on -/
structure ItOk (g : Cg) (J : It) (ds : List D) (w : W) : Prop where
  ex : ∃ (G : Hp → Prop) (Y : Nat → Hp → V → Hp → Prop), Walk J ds.length G Y ∧ (∀ w2, Le w w2 → G w2.H) ∧
    ∀ i w2 x H', i < ds.length → Le w w2 → (∀ a, w2.Fz a → ∃ o, w2.H a = some o) → Y i w2.H x H' → ∃ w3 d, w3.H = H' ∧ Ext w2 w3 ∧ ds[i]? = some d ∧ Rep g w3 d x
def tI (g : Cg) (C : Cl) (F : SI) : TI := fun σ H R => ∃ c w fv s, w.H = H ∧ Sim g c w σ fv s ∧
  (F C s).Sat fun p => ∀ J w', Aft g c σ fv w s w' p.2 → ItOk g J p.1 w' → R J w'.H
theorem PIm {X : Cx} {tg e : Expr} {t t' : TI} (h : PI X tg e t) (k : ∀ σ H R, t' σ H R → t σ H R) : PI X tg e t' := ⟨fun pins s σ H R I q => h.run pins s σ H R I (k σ H R q)⟩

def iSeq (K : PySem.W.Frag) (te : TE) : TI := fun σ H R => te σ H fun x H1 => ∃ a, x = .ref a ∧ (((∃ xs, SqL K H1 a xs) ∧ R (Itl K a) H1) ∨ ((∃ xs, SqT K H1 a xs) ∧ R (Itt K a) H1))
theorem pi_seq {X : Cx} {tg l : Expr} {tl : TE} (hl : PE X l tl) : PI X tg l (iSeq X.K tl) := by
  refine ⟨fun pins s σ H R I h => ?_⟩
  refine thn (hl.run pins s σ H _ I h) fun v s1 ⟨x, H1, I1, r1, q1⟩ => ?_
  obtain ⟨a, e, q1⟩ := q1
  subst e
  cases r1
  rcases q1 with ⟨⟨xs, hq⟩, q⟩ | ⟨⟨xs, hq⟩, q⟩
  · obtain ⟨its, rv, p, hz⟩ := I1.list hq
    refine wpAny_pyIter_list p.isList ?_
    refine ⟨s1.heap.objs.size, [s1.heap.objs.size], _, _, H1, rfl, I1.kept (t' := s1.toks) fun b o e => Heap.get?_push_of_some _ e, turn_list a _, ⟨_, Heap.get?_push_size _ rfl, rfl, rfl⟩, fun b hb => ?_, q⟩
    have e : b = s1.heap.objs.size := by simpa using hb
    subst e
    exact I1.fpOk (Nat.le_refl _) (I1.hok.fresh (Nat.le_refl _))
  · obtain ⟨its, rv, p, hz⟩ := I1.tuple hq
    refine wpAny_pyIter_tuple (show s1.heap.IsTuple a its.toArray from p) ?_
    refine ⟨s1.heap.objs.size, [s1.heap.objs.size], _, _, H1, rfl, I1.kept (t' := s1.toks) fun b o e => Heap.get?_push_of_some _ e, turn_tuple a _, ⟨_, Heap.get?_push_size _ rfl, rfl, rfl⟩, fun b hb => ?_, q⟩
    have e : b = s1.heap.objs.size := by simpa using hb
    subst e
    exact I1.fpOk (Nat.le_refl _) (I1.hok.fresh (Nat.le_refl _))
section
variable {g : Cg} {c : Fc} {w w' : W} {σ fv : Tv} {s : S} {C : Cl} {Dn : Ends}
theorem itOk_list {a : Addr} {ds : List D} {vs : List V} (h : NL g.K w a vs) (r : RepL g w ds vs) : ItOk g (Itl g.K a) ds w := by
  have hl := r.length
  refine ⟨_, _, hl ▸ walk_list (K := g.K) (a := a) (xs := vs), fun w2 l => (h.le l).sq, fun i w2 x H' hi l hf y => ?_⟩
  obtain ⟨e, hx⟩ := y
  subst e
  obtain ⟨d, hd, rd⟩ := r.getV hx
  exact ⟨w2, d, rfl, Ext.refl _, hd, Rep.le l rd⟩
theorem itOk_tup {k : Bool} {a : Addr} {ds : List D} {vs : List V} (h : NT g.K w k a vs) (r : RepL g w ds vs) : ItOk g (Itt g.K a) ds w := by
  have hl := r.length
  refine ⟨_, _, hl ▸ walk_tup (K := g.K) (a := a) (xs := vs), fun w2 l => (h.le l).sq, fun i w2 x H' hi l hf y => ?_⟩
  obtain ⟨e, hx⟩ := y
  subst e
  obtain ⟨d, hd, rd⟩ := r.getV hx
  exact ⟨w2, d, rfl, Ext.refl _, hd, Rep.le l rd⟩
theorem itOk_rng {lo : Int} {n : Nat} : ItOk g (Itr lo n) (rngL lo n 1) w := by
  have hl : (rngL lo n 1).length = n := by simp [rngL]
  refine ⟨fun _ => True, YFn fun i => .int (lo + i), by rw [hl]; exact walk_range, fun _ _ => True.intro, fun i w2 x H' hi l hf y => ?_⟩
  obtain ⟨e, hx⟩ := y
  subst e hx
  rw [hl] at hi
  refine ⟨w2, .int (lo + (i : Int)), rfl, Ext.refl _, ?_, rfl⟩
  unfold rngL
  rw [List.getElem?_map, List.getElem?_range hi]
  simp
theorem tI_seq {f : SE} {H : Hp} {R : It → Hp → Prop} (h : tI g C (itF f) σ H R) : iSeq g.K (tE g C f) σ H R := by
  obtain ⟨c, w, fv, s, rfl, S, h⟩ := h
  unfold itF at h
  rw [Res.sat_bind] at h
  refine ⟨c, w, fv, s, rfl, S, h.mono fun p h v w1 A r => ?_⟩
  obtain ⟨r0, s1⟩ := p
  rw [Res.sat_bind] at h
  obtain ⟨d, s2, w2, h, hH, A2, rd⟩ := frz_ok S A r h
  rw [Res.sat_bind] at h
  unfold itemsOf at h
  split at h
  · unfold Rep at rd
    obtain ⟨a, vs, e, n, rl⟩ := rd
    rw [← hH]
    exact ⟨a, e, .inl ⟨⟨vs, n.sq⟩, h _ w2 A2 (itOk_list n rl)⟩⟩
  · unfold Rep at rd
    obtain ⟨a, vs, e, n, rl⟩ := rd
    rw [← hH]
    exact ⟨a, e, .inr ⟨⟨vs, n.sq⟩, h _ w2 A2 (itOk_tup n rl)⟩⟩
  · exact h.elim
theorem int1_ok {w1 : W} {τ : Tv} {ρ : List (Option M)} {r : R} {v : V} (h : RepR g w w1 τ ρ r v) {P : Int → Prop} (k : (int1 r).Sat P) : ∃ i, P i ∧ r = .val (.int i) ∧ v = .int i := by
  unfold int1 at k
  split at k
  · exact ⟨_, k, rfl, h⟩
  · exact k.elim
theorem tI_rng1 {f : SE} {H : Hp} {R : It → Hp → Prop} (h : tI g C (rng1F f) σ H R) : iRng1 (tCons (tE g C f) tNil) σ H R := by
  obtain ⟨c, w, fv, s, rfl, S, h⟩ := h
  unfold rng1F at h
  rw [Res.sat_bind] at h
  refine ⟨c, w, fv, s, rfl, S, h.mono fun p h v w1 A r => ?_⟩
  obtain ⟨r0, s1⟩ := p
  rw [Res.sat_bind] at h
  obtain ⟨j, h, _, e⟩ := int1_ok r h
  obtain ⟨hz, h⟩ := Res.sat_ite _ _ h
  have hz := okR_iff.mp hz
  subst e
  exact ⟨j, rfl, by omega, by omega, h _ w1 A itOk_rng⟩
theorem tI_rng2 {f k : SE} {H : Hp} {R : It → Hp → Prop} (h : tI g C (rng2F f k) σ H R) : iRng2 (tCons (tE g C f) (tCons (tE g C k) tNil)) σ H R := by
  obtain ⟨c, w, fv, s, rfl, S, h⟩ := h
  unfold rng2F at h
  rw [Res.sat_bind] at h
  refine ⟨c, w, fv, s, rfl, S, h.mono fun p h v w1 A r => ?_⟩
  obtain ⟨r0, s1⟩ := p
  rw [Res.sat_bind] at h
  obtain ⟨i, h, _, e⟩ := int1_ok r h
  subst e
  rw [Res.sat_bind] at h
  refine ⟨c, w1, fv, s1, rfl, A.sim, h.mono fun p h v w2 A2 r => ?_⟩
  obtain ⟨r1, s2⟩ := p
  rw [Res.sat_bind] at h
  obtain ⟨j, h, _, e⟩ := int1_ok r h
  obtain ⟨hz, h⟩ := Res.sat_ite _ _ h
  subst e
  have hz1 := okR_iff.mp hz.1
  have hz2 := okR_iff.mp hz.2
  exact ⟨i, j, rfl, ⟨by omega, by omega, by omega, by omega⟩, h _ w2 (A.trans A2) itOk_rng⟩

theorem ItOk.le {J : It} {ds : List D} (h : ItOk g J ds w) (l : Le w w') : ItOk g J ds w' := by
  obtain ⟨G, Y, wk, hG, hY⟩ := h.ex
  exact ⟨G, Y, wk, fun w2 k => hG w2 (l.trans k), fun i w2 x H' hi k => hY i w2 x H' hi (l.trans k)⟩
theorem tS_for {t : Tg} {it : SI} {body : SS} {n : Nat} (hi : tgOk n t = true) (hn : σ.length = n) {H : Hp} (h : tS g C (forF t it body) Dn σ H) :
    tFor (tI g C it) (gT g.K t) (tS g C body) Dn σ H := by
  obtain ⟨c, w, fv, s, rfl, S, h⟩ := h
  unfold forF at h
  rw [Res.sat_bind] at h
  refine ⟨c, w, fv, s, rfl, S, h.mono fun p h J w1 A io => ?_⟩
  obtain ⟨ds, s1⟩ := p
  obtain ⟨G, Y, wk, hG, hY⟩ := io.ex
  refine for_it wk (fun i σ H => σ.length = n ∧ ∃ w2 fv s, w2.H = H ∧ Sim g c w2 σ fv s ∧ Le w1 w2 ∧ (forGo t body C s1.ρ (ds.drop i) s).Sat fun p => SPost g c w2 Dn p.2 p.1) ?_ ?_ ?_ ?_
  · exact ⟨hn, w1, fv, s1, rfl, A.sim, Le.refl _, h.mono fun p h => h.le A.stp.le⟩
  · rintro i σ H hi ⟨hn, w2, fv, s, rfl, S2, l, _⟩
    exact hG w2 l
  · rintro i x σ H H' hlt ⟨hn, w2, fv, s, rfl, S2, l, h⟩ y
    obtain ⟨w3, d, rfl, ex, hd, rd⟩ := hY i w2 x H' hlt l S2.fz y
    have e : ds.drop i = d :: ds.drop (i + 1) := by
      obtain ⟨hlt', e⟩ := List.getElem?_eq_some_iff.mp hd
      rw [List.drop_eq_getElem_cons hlt', e]
    rw [e] at h
    unfold forGo at h
    rw [Res.sat_bind] at h
    have l3 : Le w2 w3 := ex.le S2.fz
    refine bindT_ok t (by rw [hn]; exact hi) (S2.ext ex) rd h fun σ' ρ' hl _ _ _ h S' => ?_
    rw [Res.sat_bind] at h
    refine ⟨c, w3, fv, ⟨ρ', s.st⟩, rfl, S', ?_⟩
    obtain ⟨⟨o, s4⟩, e4, h⟩ := Res.sat_iff.mp h
    rw [e4]
    show SPost g c w3 _ s4 o
    cases o with
    | nx => exact fun σ5 fv5 w5 l5 S5 => ⟨S5.sn.trans (S2.sn.symm.trans hn), w5, fv5, _, rfl, S5.keep _, (l.trans l3).trans l5, h.mono fun p h => h.le (l3.trans l5)⟩
    | ct => exact fun σ5 fv5 w5 l5 S5 => ⟨S5.sn.trans (S2.sn.symm.trans hn), w5, fv5, _, rfl, S5.keep _, (l.trans l3).trans l5, h.mono fun p h => h.le (l3.trans l5)⟩
    | bk => exact fun σ5 fv5 w5 l5 S5 => h σ5 fv5 w5 (l3.trans l5) (S5.keep _)
    | ret m => exact fun v σ5 fv5 w5 l5 S5 r5 => h v σ5 fv5 w5 (l3.trans l5) S5 r5
  · rintro σ H ⟨hn, w2, fv, s, rfl, S2, l, h⟩
    rw [List.drop_length] at h
    exact h σ fv w2 (Le.refl _) S2
theorem tS_while {cF : SE} {body : SS} {H : Hp} (h : tS g C (whileF cF body) Dn σ H) : tWhile (tT g C cF) (tS g C body) Dn σ H := by
  obtain ⟨c, w, fv, s0, rfl, S, h⟩ := h
  unfold whileF at h
  refine ⟨fun m σ H => ∃ w2 fv s, w2.H = H ∧ Sim g c w2 σ fv s ∧ (whileGo cF body C s0.ρ m s).Sat fun p => SPost g c w2 Dn p.2 p.1, ⟨1000, w, fv, s0, rfl, S, h⟩, ?_⟩
  rintro m σ H ⟨w2, fv, s, rfl, S2, h⟩
  cases m with
  | zero => exact h.elim
  | succ m =>
    unfold whileGo at h
    rw [Res.sat_bind] at h
    refine ⟨c, w2, fv, s, rfl, S2, h.mono fun p h w3 A => ?_⟩
    obtain ⟨b, s1⟩ := p
    cases b with
    | false =>
      refine L2.iteF ?_
      exact h σ fv w3 A.stp.le A.sim
    | true =>
      refine L2.iteT ?_
      have h : ((body C s1).bind fun (o, s2) => (match o with
        | .nx => whileGo cF body C s0.ρ m ⟨keepR s0.ρ s2.ρ, s2.st⟩
        | .ct => whileGo cF body C s0.ρ m ⟨keepR s0.ρ s2.ρ, s2.st⟩
        | .bk => .ok (.nx, ⟨keepR s0.ρ s2.ρ, s2.st⟩)
        | .ret m => .ok (.ret m, s2))).Sat fun p => SPost g c w2 Dn p.2 p.1 := h
      rw [Res.sat_bind] at h
      refine ⟨fun σ H => ∃ w2 fv s, w2.H = H ∧ Sim g c w2 σ fv s ∧ (whileGo cF body C s0.ρ m s).Sat fun p => SPost g c w2 Dn p.2 p.1, fun σ' H' q => ⟨m, Nat.lt_succ_self _, q⟩, c, w3, fv, s1, rfl, A.sim, ?_⟩
      obtain ⟨⟨o, s4⟩, e4, h⟩ := Res.sat_iff.mp h
      rw [e4]
      show SPost g c w3 _ s4 o
      cases o with
      | nx => exact fun σ5 fv5 w5 l5 S5 => ⟨w5, fv5, _, rfl, S5.keep _, h.mono fun p h => h.le (A.stp.le.trans l5)⟩
      | ct => exact fun σ5 fv5 w5 l5 S5 => ⟨w5, fv5, _, rfl, S5.keep _, h.mono fun p h => h.le (A.stp.le.trans l5)⟩
      | bk => exact fun σ5 fv5 w5 l5 S5 => h σ5 fv5 w5 (A.stp.le.trans l5) (S5.keep _)
      | ret m => exact fun v σ5 fv5 w5 l5 S5 r5 => h v σ5 fv5 w5 (A.stp.le.trans l5) S5 r5
end
end Ev
set_option Elab.async false
set_option maxRecDepth 100000
set_option maxHeartbeats 1000000
namespace Ev
open PySem PySem.Spec PyProof.Rows L2
set_option autoImplicit false
section
variable {g : Cg} {c : Fc} {w w' : W} {σ fv : Tv} {s : S} {C : Cl}

theorem wipe_get {σ : Tv} {i : Nat} : ∀ {vs : List Nat}, i ∉ vs → (wipe σ vs)[i]? = σ[i]?
  | [], _ => rfl
  | v :: vs, h => by
    show ((wipe σ vs).set v none)[i]? = σ[i]?
    rw [List.getElem?_set_ne (fun z => h (by rw [z]; exact List.mem_cons_self)), wipe_get fun z => h (List.mem_cons_of_mem _ z)]
theorem wipeR_len (ρ : List (Option M)) : ∀ vs : List Nat, (wipeR ρ vs).length = ρ.length
  | [] => rfl
  | v :: vs => by
    show ((wipeR ρ vs).set v none).length = _
    rw [List.length_set, wipeR_len ρ vs]
theorem wipeR_some {ρ : List (Option M)} {i : Nat} {m : M} : ∀ {vs : List Nat}, (wipeR ρ vs)[i]? = some (some m) → ρ[i]? = some (some m) ∧ i ∉ vs
  | [], h => ⟨h, by simp⟩
  | v :: vs, h => by
    have h : ((wipeR ρ vs).set v none)[i]? = some (some m) := h
    rcases set_get h with ⟨_, z⟩ | ⟨q, z⟩
    · cases z
    · obtain ⟨h1, h2⟩ := wipeR_some z
      exact ⟨h1, fun hm => by
        rcases List.mem_cons.mp hm with e | e
        · exact q e.symm
        · exact h2 e⟩
theorem wipeR_get {ρ : List (Option M)} {i : Nat} : ∀ {vs : List Nat}, i ∉ vs → (wipeR ρ vs)[i]? = ρ[i]?
  | [], _ => rfl
  | v :: vs, h => by
    show ((wipeR ρ vs).set v none)[i]? = ρ[i]?
    rw [List.getElem?_set_ne (fun z => h (by rw [z]; exact List.mem_cons_self)), wipeR_get fun z => h (List.mem_cons_of_mem _ z)]
theorem wipe_in {σ : Tv} {i : Nat} : ∀ {vs : List Nat}, i ∈ vs → i < σ.length → (L2.wipe σ vs)[i]? = some none
  | v :: vs, h, hl => by
    show ((L2.wipe σ vs).set v none)[i]? = some none
    by_cases e : v = i
    · subst e
      rw [List.getElem?_set_self (by rw [wipe_length]; exact hl)]
    · rw [List.getElem?_set_ne e]
      refine wipe_in ?_ hl
      rcases List.mem_cons.mp h with q | q
      · exact (e q.symm).elim
      · exact q
theorem wipe_idem (σ : Tv) (vs : List Nat) : L2.wipe (L2.wipe σ vs) vs = L2.wipe σ vs := by
  apply List.ext_getElem?
  intro i
  by_cases hi : i ∈ vs
  · by_cases hl : i < σ.length
    · rw [wipe_in hi (by rw [wipe_length]; exact hl), wipe_in hi hl]
    · rw [List.getElem?_eq_none (by simp [wipe_length]; omega), List.getElem?_eq_none (by simp [wipe_length]; omega)]
  · rw [wipe_get hi]
theorem wipeR_in {ρ : List (Option M)} {i : Nat} : ∀ {vs : List Nat}, i ∈ vs → i < ρ.length → (wipeR ρ vs)[i]? = some none
  | v :: vs, h, hl => by
    show ((wipeR ρ vs).set v none)[i]? = some none
    by_cases e : v = i
    · subst e
      rw [List.getElem?_set_self (by rw [wipeR_len]; exact hl)]
    · rw [List.getElem?_set_ne e]
      refine wipeR_in ?_ hl
      rcases List.mem_cons.mp h with q | q
      · exact (e q.symm).elim
      · exact q
theorem wipeR_idem (ρ : List (Option M)) (vs : List Nat) : wipeR (wipeR ρ vs) vs = wipeR ρ vs := by
  apply List.ext_getElem?
  intro i
  by_cases hi : i ∈ vs
  · by_cases hl : i < ρ.length
    · rw [wipeR_in hi (by rw [wipeR_len]; exact hl), wipeR_in hi hl]
    · rw [List.getElem?_eq_none (by simp [wipeR_len]; omega), List.getElem?_eq_none (by simp [wipeR_len]; omega)]
  · rw [wipeR_get hi]
theorem wipeτ_get {σ fv : Tv} {i : Nat} {vs : List Nat} (hv : ∀ v ∈ vs, v < σ.length) (h : i ∉ vs) : (wipe σ vs ++ fv)[i]? = (σ ++ fv)[i]? := by
  by_cases hi : i < σ.length
  · rw [List.getElem?_append_left (by rw [wipe_length]; exact hi), List.getElem?_append_left hi, wipe_get h]
  · rw [List.getElem?_append_right (by rw [wipe_length]; omega), List.getElem?_append_right (by omega), wipe_length]
/-- the block's own slots forgotten -/
theorem Sim.wipe (S : Sim g c w σ fv s) {vs : List Nat} (hv : ∀ v ∈ vs, v < σ.length) : Sim g c w (L2.wipe σ vs) fv ⟨wipeR s.ρ vs, s.st⟩ := by
  have ow : ∀ a, Ow (L2.wipe σ vs ++ fv) (wipeR s.ρ vs) a → Ow (σ ++ fv) s.ρ a := fun a ⟨i, m, e, o, t⟩ => by
    obtain ⟨e', hn⟩ := wipeR_some e
    rw [wipeτ_get hv hn] at t
    exact ⟨i, m, e', o, t⟩
  refine ⟨by rw [wipeR_len, wipe_length]; exact S.len, fun i m e => ?_, fun a o => S.own a (ow a o), fun i j mi mj a e1 o1 e2 o2 t1 t2 => ?_, S.slf, S.nof, S.fz, S.mu, S.mund, S.clen, S.cells, S.step0, by rw [wipe_length]; exact S.sn⟩
  · obtain ⟨e', hn⟩ := wipeR_some e
    obtain ⟨v, hv', r⟩ := S.env i m e'
    exact ⟨v, by rw [wipeτ_get hv hn]; exact hv', r⟩
  · obtain ⟨e1', h1⟩ := wipeR_some e1
    obtain ⟨e2', h2⟩ := wipeR_some e2
    rw [wipeτ_get hv h1] at t1
    rw [wipeτ_get hv h2] at t2
    exact S.sep i j mi mj a e1' o1 e2' o2 t1 t2
theorem wipe_ow {vs : List Nat} (hv : ∀ v ∈ vs, v < σ.length) {ρ : List (Option M)} {a : Addr} (h : Ow (L2.wipe σ vs ++ fv) (wipeR ρ vs) a) : Ow (σ ++ fv) ρ a := by
  obtain ⟨i, m, e, o, t⟩ := h
  obtain ⟨e', hn⟩ := wipeR_some e
  rw [wipeτ_get hv hn] at t
  exact ⟨i, m, e', o, t⟩
theorem backR_len (ρ0 ρ : List (Option M)) : ∀ vs : List Nat, (backR ρ0 ρ vs).length = ρ.length
  | [] => rfl
  | v :: vs => by
    show ((backR ρ0 ρ vs).set v _).length = _
    rw [List.length_set, backR_len ρ0 ρ vs]
theorem backR_in {ρ0 ρ : List (Option M)} {i : Nat} : ∀ {vs : List Nat}, i ∈ vs → i < ρ.length → (backR ρ0 ρ vs)[i]? = some (ρ0[i]?.getD none)
  | v :: vs, h, hl => by
    show ((backR ρ0 ρ vs).set v _)[i]? = _
    by_cases e : v = i
    · subst e
      rw [List.getElem?_set_self (by rw [backR_len]; exact hl)]
    · rw [List.getElem?_set_ne e]
      refine backR_in ?_ hl
      rcases List.mem_cons.mp h with q | q
      · exact (e q.symm).elim
      · exact q
theorem backR_out {ρ0 ρ : List (Option M)} {i : Nat} : ∀ {vs : List Nat}, i ∉ vs → (backR ρ0 ρ vs)[i]? = ρ[i]?
  | [], _ => rfl
  | v :: vs, h => by
    show ((backR ρ0 ρ vs).set v _)[i]? = _
    rw [List.getElem?_set_ne (fun z => h (by rw [z]; exact List.mem_cons_self)), backR_out fun z => h (List.mem_cons_of_mem _ z)]
theorem isVal_get {o : Option M} {m : M} (h : isVal o = true) (e : o = some m) : ∃ d, m = .val d := by
  subst e
  cases m with
  | val d => exact ⟨d, rfl⟩
  | own _ => cases h
  | odic _ => cases h
  | slf => cases h
/-- behind the block: its own slots as they were -/
theorem Sim.back {w1 : W} {s1 s2 : S} (S1 : Sim g c w1 σ fv s1) {vs : List Nat} (hv : ∀ v ∈ vs, v < σ.length) (S2 : Sim g c w (L2.wipe σ vs) fv s2) (l : Le w1 w) (iv : ∀ v ∈ vs, isVal (s1.ρ[v]?.getD none) = true) :
    Sim g c w σ fv ⟨backR s1.ρ s2.ρ vs, s2.st⟩ ∧ (∀ a, Ow (σ ++ fv) (backR s1.ρ s2.ρ vs) a → Ow (L2.wipe σ vs ++ fv) s2.ρ a) := by
  have hl : s2.ρ.length = σ.length + fv.length := by
    have := S2.len
    rw [wipe_length] at this
    exact this
  have cs : ∀ {i : Nat} {m : M}, (backR s1.ρ s2.ρ vs)[i]? = some (some m) → (i ∈ vs ∧ s1.ρ[i]? = some (some m) ∧ ∃ d, m = .val d) ∨ (i ∉ vs ∧ s2.ρ[i]? = some (some m)) := fun {i m} e => by
    by_cases hi : i ∈ vs
    · rw [backR_in hi (by rw [hl]; exact Nat.lt_of_lt_of_le (hv i hi) (Nat.le_add_right _ _))] at e
      have e := Option.some.inj e
      refine .inl ⟨hi, ?_, isVal_get (iv i hi) e⟩
      cases q : s1.ρ[i]? with
      | none =>
        rw [q] at e
        cases e
      | some o =>
        rw [q] at e
        simp only [Option.getD_some] at e
        rw [e]
    · rw [backR_out hi] at e
      exact .inr ⟨hi, e⟩
  have ow : ∀ a, Ow (σ ++ fv) (backR s1.ρ s2.ρ vs) a → Ow (L2.wipe σ vs ++ fv) s2.ρ a := fun a ⟨i, m, e, o, t⟩ => by
    rcases cs e with ⟨_, _, d, z⟩ | ⟨hn, z⟩
    · subst z
      cases o
    · exact ⟨i, m, z, o, by rw [wipeτ_get hv hn]; exact t⟩
  refine ⟨⟨by rw [backR_len]; exact hl, fun i m e => ?_, fun a o => S2.own a (ow a o), fun i j mi mj a e1 o1 e2 o2 t1 t2 => ?_, S2.slf, S2.nof, S2.fz, S2.mu, S2.mund, S2.clen, S2.cells, S2.step0, by
    have := S2.sn
    rw [wipe_length] at this
    exact this⟩, ow⟩
  · rcases cs e with ⟨_, z, d, q⟩ | ⟨hn, z⟩
    · subst q
      obtain ⟨v, hv', r⟩ := S1.env i _ z
      exact ⟨v, hv', Rep.le l r⟩
    · obtain ⟨v, hv', r⟩ := S2.env i m z
      exact ⟨v, by rw [← wipeτ_get hv hn]; exact hv', r⟩
  · rcases cs e1 with ⟨_, _, d, z⟩ | ⟨h1, z1⟩
    · subst z
      cases o1
    · rcases cs e2 with ⟨_, _, d, z⟩ | ⟨h2, z2⟩
      · subst z
        cases o2
      · rw [← wipeτ_get hv h1] at t1
        rw [← wipeτ_get hv h2] at t2
        exact S2.sep i j mi mj a z1 o1 z2 o2 t1 t2

/-- the new list at p, and what has happened since -/
structure Blk (g : Cg) (c : Fc) (σ fv : Tv) (w1 : W) (ρ1 : List (Option M)) (vs : List Nat) (p : Addr) (w : W) (σ2 : Tv) (ρ2 : List (Option M)) (acc : List D) : Prop where
  stp : Stp (Ow (σ ++ fv) ρ1) w1 w
  hp : w1.H p = none
  ow : ∀ a, Ow (σ2 ++ fv) ρ2 a → Ow (σ ++ fv) ρ1 a
  own : ∀ (i : Nat) (m : M), ρ2[i]? = some (some m) → m.isOwn = true → ∃ m', ρ1[i]? = some (some m') ∧ m'.isOwn = true
  def_ : ∀ (i : Nat) (m : M), i ∉ vs → ρ1[i]? = some (some m) → ∃ m', ρ2[i]? = some (some m')
  at_ : ∃ accV, w.H p = some (.lst accV) ∧ RepL g w acc accV
  nfz : ¬ w.Fz p
  nmu : p ∉ w.μ
theorem Blk.noOw {w1 : W} {s1 : S} {vs : List Nat} {p : Addr} {σ2 : Tv} {ρ2 : List (Option M)} {acc : List D} (S1 : Sim g c w1 σ fv s1) (b : Blk g c σ fv w1 s1.ρ vs p w σ2 ρ2 acc) : ¬ Ow (σ2 ++ fv) ρ2 p := fun z => S1.not_ow b.hp (b.ow p z)
/-- further by an expression -/
theorem Blk.aft {w1 : W} {s1 : S} {vs : List Nat} {p : Addr} {σ2 : Tv} {s2 s3 : S} {w2 w3 : W} {acc : List D} (S1 : Sim g c w1 σ fv s1) (b : Blk g c σ fv w1 s1.ρ vs p w2 σ2 s2.ρ acc) (A : Aft g c σ2 fv w2 s2 w3 s3) : Blk g c σ fv w1 s1.ρ vs p w3 σ2 s3.ρ acc := by
  obtain ⟨accV, hH, hr⟩ := b.at_
  obtain ⟨e1, f1, m1⟩ := A.stp.oth p _ hH b.nmu (b.noOw S1)
  refine ⟨b.stp.trans A.stp fun a o e m t z => t (b.ow a z), b.hp, fun a z => b.ow a (A.env.ow z), fun i m e o => ?_, fun i m h e => ?_, ⟨accV, e1, RepL.le A.stp.le hr⟩, fun z => b.nfz (f1 z), m1⟩
  · obtain ⟨m', e', o'⟩ := A.env.own i m e o
    exact b.own i m' e' o'
  · obtain ⟨m', e'⟩ := b.def_ i m h e
    exact A.env.def_ i m' e'
/-- one more item -/
theorem Blk.push {w1 : W} {s1 : S} {vs : List Nat} {p : Addr} {σ2 : Tv} {s2 : S} {acc : List D} {d : D} {v : V} {accV : List V} (S1 : Sim g c w1 σ fv s1) (b : Blk g c σ fv w1 s1.ρ vs p w σ2 s2.ρ acc) (S2 : Sim g c w σ2 fv s2) (r : Rep g w d v)
    (e : w.H p = some (.lst accV)) : Sim g c ⟨upd w.H p (.lst (accV ++ [v])), w.Fz, w.μ⟩ σ2 fv s2 ∧ Blk g c σ fv w1 s1.ρ vs p ⟨upd w.H p (.lst (accV ++ [v])), w.Fz, w.μ⟩ σ2 s2.ρ (acc ++ [d]) := by
  obtain ⟨accV', e', hr⟩ := b.at_
  rw [e] at e'
  cases e'
  have l : Le w ⟨upd w.H p (.lst (accV ++ [v])), w.Fz, w.μ⟩ := ⟨fun _ h => h, fun _ _ h => h, fun a f => upd_ne (fun z : a = p => b.nfz (by rw [← z]; exact f))⟩
  have ne : ∀ a o, w.H a = some o → a ≠ p → upd w.H p (.lst (accV ++ [v])) a = some o := fun a o h z => by rw [upd_ne z]; exact h
  have p0 : c.w0.H p = none := S1.new b.hp
  have st : ∀ {T : Addr → Prop} {wb : W}, wb.H p = none → Stp T wb w → Stp T wb ⟨upd w.H p (.lst (accV ++ [v])), w.Fz, w.μ⟩ := fun {T wb} h0 k => by
    have np : ∀ a o, wb.H a = some o → a ≠ p := fun a o q z => by rw [z, h0] at q; cases q
    refine ⟨⟨k.le.fz, k.le.pre, fun a f => ?_⟩, fun a o q m t => ?_, fun a ha => ?_, fun a o q => ?_⟩
    · show upd w.H p _ a = _
      rw [upd_ne (fun z : a = p => b.nfz (by rw [← z]; exact k.le.fz a f))]
      exact k.le.keep a f
    · obtain ⟨e1, f1, m1⟩ := k.oth a o q m t
      exact ⟨ne a o e1 (np a o q), f1, m1⟩
    · obtain ⟨o', q'⟩ := k.mu a ha
      refine ⟨o', ne a o' q' fun z => b.nmu ?_⟩
      obtain ⟨n, hn⟩ := List.mem_iff_getElem?.mp ha
      exact z ▸ List.mem_iff_getElem?.mpr ⟨n, k.le.pre n a hn⟩
    · obtain ⟨o', q'⟩ := k.there a o q
      exact ⟨o', ne a o' q' (np a o q)⟩
  refine ⟨⟨S2.len, fun i m ei => ?_, fun a o => S2.own a o, S2.sep, fun z ez => ?_, S2.nof, fun a f => ?_, S2.mu, S2.mund, S2.clen, fun n a ds e1 e2 => ?_, ?_, S2.sn⟩,
    ⟨st b.hp b.stp, b.hp, b.ow, b.own, b.def_, ⟨_, upd_same, RepL.append (RepL.le l hr) ?_⟩, b.nfz, b.nmu⟩⟩
  · obtain ⟨v', hv', r'⟩ := S2.env i m ei
    refine ⟨v', hv', ?_⟩
    cases m with
    | val d => exact Rep.le l r'
    | odic _ => exact r'
    | slf => exact r'
    | own ds =>
      obtain ⟨a, vs', e1, hH, hr'⟩ := r'
      subst e1
      refine ⟨a, vs', rfl, ne a _ hH fun z => ?_, RepL.le l hr'⟩
      subst z
      exact b.noOw S1 ⟨i, _, ei, rfl, hv'⟩
  · obtain ⟨h1, ⟨od, hd, nd⟩, vs', q, k⟩ := S2.slf z ez
    have na : z.a ≠ p := fun y => slt_not_lst q accV (by rw [y]; exact e)
    have nx : z.dx ≠ p := fun y => by
      rw [y, e] at hd
      exact nd _ (Option.some.inj hd).symm
    refine ⟨h1, ⟨od, ne _ _ hd nx, nd⟩, vs', ?_, k⟩
    unfold SlX.Slt at q ⊢
    show (upd w.H p _ z.a = _ ∧ _) ∨ (upd w.H p _ z.a = _ ∧ upd w.H p _ z.dx = _)
    rw [upd_ne na, upd_ne nx]
    exact q
  · obtain ⟨o, q⟩ := S2.fz a f
    exact ⟨o, ne a o q fun z => b.nfz (z ▸ f)⟩
  · obtain ⟨xs, q, r'⟩ := S2.cells n a ds e1 e2
    exact ⟨xs, ne a _ q fun z => b.nmu (z ▸ List.mem_of_getElem? e1), RepL.le l r'⟩
  · exact st p0 S2.step0
  · unfold RepL
    exact ⟨v, [], rfl, Rep.le l r, rfl⟩

def tIs (g : Cg) (C : Cl) : List SE → TT
  | [] => tYes
  | c :: _ => tT g C c
theorem ifs_ok {ifs : List SE} (h1 : ifs.length ≤ 1) (S : Sim g c w σ fv s) {P : Bool × Ev.S → Prop} {Q : Bool → Hp → Prop} (h : (ifsF ifs C s).Sat P) (k : ∀ b s2 w2, Aft g c σ fv w s w2 s2 → P (b, s2) → Q b w2.H) : tIs g C ifs σ w.H Q := by
  cases ifs with
  | nil => exact k true s w S.aft h
  | cons f fs =>
    cases fs with
    | cons _ _ =>
      simp only [List.length_cons] at h1
      omega
    | nil =>
      unfold ifsF at h
      rw [Res.sat_bind] at h
      refine ⟨c, w, fv, s, rfl, S, h.mono fun p h w1 A => ?_⟩
      obtain ⟨b, s1⟩ := p
      cases b with
      | true =>
        have h : (ifsF [] C s1).Sat P := h
        exact k true s1 w1 A h
      | false => exact k false s1 w1 A h
theorem Blk.bind {w1 : W} {s1 : S} {vs : List Nat} {p : Addr} {σ2 σ3 : Tv} {ρ2 ρ3 : List (Option M)} {acc : List D} (b : Blk g c σ fv w1 s1.ρ vs p w σ2 ρ2 acc) (E : EnvLe ρ2 ρ3) (O : ∀ a, Ow (σ3 ++ fv) ρ3 a → Ow (σ2 ++ fv) ρ2 a) :
    Blk g c σ fv w1 s1.ρ vs p w σ3 ρ3 acc :=
  ⟨b.stp, b.hp, fun a z => b.ow a (O a z), fun i m e o => by
    obtain ⟨m', e', o'⟩ := E.own i m e o
    exact b.own i m' e' o', fun i m h e => by
    obtain ⟨m', e'⟩ := b.def_ i m h e
    exact E.def_ i m' e', b.at_, b.nfz, b.nmu⟩
theorem Blk.wipe {w1 : W} {s1 : S} {vs : List Nat} {p : Addr} {σ2 : Tv} {ρ2 : List (Option M)} {acc : List D} (hv : ∀ v ∈ vs, v < σ2.length) (b : Blk g c σ fv w1 s1.ρ vs p w σ2 ρ2 acc) : Blk g c σ fv w1 s1.ρ vs p w (L2.wipe σ2 vs) (wipeR ρ2 vs) acc :=
  ⟨b.stp, b.hp, fun a z => b.ow a (wipe_ow hv z), fun i m e o => b.own i m (wipeR_some e).1 o, fun i m h e => by
    obtain ⟨m', e'⟩ := b.def_ i m h e
    exact ⟨m', by rw [wipeR_get h]; exact e'⟩, b.at_, b.nfz, b.nmu⟩
theorem Blk.ext {w1 : W} {s1 : S} {vs : List Nat} {p : Addr} {σ2 : Tv} {s2 : S} {w3 : W} {acc : List D} (S1 : Sim g c w1 σ fv s1) (b : Blk g c σ fv w1 s1.ρ vs p w σ2 s2.ρ acc) (S2 : Sim g c w σ2 fv s2) (k : Ext w w3) : Blk g c σ fv w1 s1.ρ vs p w3 σ2 s2.ρ acc :=
  b.aft S1 (S2.aft.ext k)
/-- a turn -/
theorem turn_ok {w1 : W} {s1 : S} {vs : List Nat} {p : Addr} {σ2 : Tv} {s2 : S} {acc : List D} {tg : Tg} {ifs : List SE} {el : SE} {d : D} {v : V} {n : Nat} (S1 : Sim g c w1 σ fv s1) (hv : ∀ v ∈ vs, v < n) (hn : σ2.length = n) (hi : tgOk n tg = true) (hin : tgIn vs tg = true) (h1 : ifs.length ≤ 1)
    (b : Blk g c σ fv w1 s1.ρ vs p w (L2.wipe σ2 vs) (wipeR s2.ρ vs) acc) (S2 : Sim g c w (L2.wipe σ2 vs) fv ⟨wipeR s2.ρ vs, s2.st⟩) (r : Rep g w d v) {P : Option D × S → Prop} (h : (lcTurn tg ifs el vs C d s2).Sat P) {Pn : Hp → Prop}
    (k0 : ∀ s3 w3, P (none, s3) → wipeR s3.ρ vs = s3.ρ → Sim g c w3 (L2.wipe σ2 vs) fv s3 → Le w w3 → Blk g c σ fv w1 s1.ρ vs p w3 (L2.wipe σ2 vs) s3.ρ acc → Pn w3.H)
    (k1 : ∀ x s3 w3, P (some x, s3) → wipeR s3.ρ vs = s3.ρ → Sim g c w3 (L2.wipe σ2 vs) fv s3 → Le w w3 → Blk g c σ fv w1 s1.ρ vs p w3 (L2.wipe σ2 vs) s3.ρ acc → ∀ y, Rep g w3 x y → ∃ accV, w3.H p = some (.lst accV) ∧ accV.length < sizeLine ∧ Pn (upd w3.H p (.lst (accV ++ [y])))) :
    gT g.K tg v (L2.wipe σ2 vs) w.H fun σ3 H2 => L2.wipe σ3 vs = L2.wipe σ2 vs ∧ tIs g C ifs σ3 H2 fun bb H3 =>
      if bb = true then tE g C el σ3 H3 fun y H4 => ∃ acc, H4 p = some (.lst acc) ∧ acc.length < sizeLine ∧ Pn (upd H4 p (.lst (acc ++ [y]))) else Pn H3 := by
  unfold lcTurn at h
  rw [Res.sat_bind] at h
  refine bindT_ok tg (by rw [wipe_length, hn]; exact hi) S2 r h fun σ3 ρ3 hl hw E O h S3 => ?_
  have ww : L2.wipe (L2.wipe σ2 vs) vs = L2.wipe σ2 vs := wipe_idem _ _
  have hw3 : L2.wipe σ3 vs = L2.wipe σ2 vs := (hw vs hin).trans ww
  have hl3 : σ3.length = n := by rw [hl, wipe_length, hn]
  refine ⟨hw3, ?_⟩
  have b3 : Blk g c σ fv w1 s1.ρ vs p w σ3 (⟨ρ3, s2.st⟩ : Ev.S).ρ acc := b.bind E O
  rw [Res.sat_bind] at h
  have hv3 : ∀ v ∈ vs, v < σ3.length := fun v hm => by rw [hl3]; exact hv v hm
  refine ifs_ok h1 S3 h fun bb s4 w4 A4 h => ?_
  have b4 := b3.aft S1 A4
  cases bb with
  | false =>
    refine L2.iteF ?_
    have h : P (none, ⟨wipeR s4.ρ vs, s4.st⟩) := h
    have S5 := A4.sim.wipe hv3
    have b5 := b4.wipe hv3
    rw [hw3] at S5 b5
    exact k0 _ w4 h (wipeR_idem _ _) S5 A4.stp.le b5
  | true =>
    refine L2.iteT ?_
    have h : ((el C s4).bind fun (r, s3) => (frz r s3).bind fun (x, s4) => Res.ok (some x, (⟨wipeR s4.ρ vs, s4.st⟩ : Ev.S))).Sat P := h
    rw [Res.sat_bind] at h
    refine ⟨c, w4, fv, s4, rfl, A4.sim, h.mono fun q h y w5 A5 rr => ?_⟩
    obtain ⟨r0, s5⟩ := q
    rw [Res.sat_bind] at h
    obtain ⟨x, s6, w6, h, hH, A6, rx⟩ := frz_ok A4.sim A5 rr h
    have b6 := b4.aft S1 A6
    have S7 := A6.sim.wipe hv3
    have b7 := b6.wipe hv3
    rw [hw3] at S7 b7
    rw [← hH]
    exact k1 x _ w6 h (wipeR_idem _ _) S7 (A4.stp.le.trans A6.stp.le) b7 y rx
theorem lcGo_none {turn : D → S → Res (Option D × S)} {d : D} {ds acc : List D} {s s3 : S} {P : List D × S → Prop} (h : (lcGo turn (d :: ds) acc s).Sat P) : (turn d s).Sat fun q => match q.1 with
    | some x => acc.length < szL ∧ (lcGo turn ds (acc ++ [x]) q.2).Sat P
    | none => (lcGo turn ds acc q.2).Sat P := by
  unfold lcGo at h
  rw [Res.sat_bind] at h
  refine h.mono fun q h => ?_
  obtain ⟨o, s1⟩ := q
  cases o with
  | none => exact h
  | some x => exact Res.sat_ite _ _ h
/-- [el for tg in it if ..] -/
theorem tLc_le {vs : List Nat} {tg : Tg} {it : SI} {ifs : List SE} {el : SE} {n : Nat} (hv : ∀ v ∈ vs, v < n) (hn : σ.length = n) (hi : tgOk n tg = true) (hin : tgIn vs tg = true) (h1 : ifs.length ≤ 1) {H : Hp} {Q : VK} (h : tE g C (lcF vs tg it ifs el) σ H Q) :
    tLc (tI g C it) (gT g.K tg) (tIs g C ifs) (tE g C el) vs σ H Q := by
  obtain ⟨c, w, fv, s, rfl, S, h⟩ := h
  unfold lcF at h
  rw [Res.sat_bind] at h
  refine ⟨c, w, fv, s, rfl, S, h.mono fun q h J w1 A io p hp => ?_⟩
  obtain ⟨ds, s1⟩ := q
  obtain ⟨iv, h⟩ := Res.sat_ite _ _ h
  rw [Res.sat_bind] at h
  obtain ⟨G, Y, wk, hG, hY⟩ := io.ex
  have S1 := A.sim
  have hvσ : ∀ v ∈ vs, v < σ.length := fun v hm => by rw [hn]; exact hv v hm
  have k0 : Ext w1 ⟨upd w1.H p (.lst []), w1.Fz, w1.μ⟩ := ext_new hp
  refine lc_it wk (fun i H => ∃ w2 s2 acc, w2.H = H ∧ Sim g c w2 (L2.wipe σ vs) fv s2 ∧ wipeR s2.ρ vs = s2.ρ ∧ Le w1 w2 ∧ Blk g c σ fv w1 s1.ρ vs p w2 (L2.wipe σ vs) s2.ρ acc ∧
    (lcGo (lcTurn tg ifs el vs C) (ds.drop i) acc s2).Sat fun q => ∀ v w', Aft g c σ fv w s w' ⟨backR s1.ρ q.2.ρ vs, q.2.st⟩ → RepR g w w' (σ ++ fv) (backR s1.ρ q.2.ρ vs) (.own q.1) v → Q v w'.H) ?_ ?_ ?_ ?_
  · refine ⟨_, ⟨wipeR s1.ρ vs, s1.st⟩, [], rfl, (S1.ext k0).wipe hvσ, ?_, k0.le S1.fz, ⟨k0.step S1 _, hp, fun a z => wipe_ow hvσ z, fun i m e o => ⟨m, (wipeR_some e).1, o⟩, fun i m hn e => ⟨m, by rw [wipeR_get hn]; exact e⟩, ⟨[], upd_same, rfl⟩, fun f => ?_, fun hm => ?_⟩, h⟩
    · exact wipeR_idem _ _
    · obtain ⟨o, e⟩ := S1.fz p f
      rw [hp] at e
      cases e
    · obtain ⟨o, e⟩ := S1.muH p hm
      rw [hp] at e
      cases e
  · rintro i H hle ⟨w2, s2, acc, rfl, _, _, l, _⟩
    exact hG w2 l
  · rintro i x H H' hlt ⟨w2, s2, acc, rfl, S2, hw, l, b, h⟩ y
    obtain ⟨w3, d, rfl, ex, hd, rd⟩ := hY i w2 x H' hlt l S2.fz y
    have e : ds.drop i = d :: ds.drop (i + 1) := by
      obtain ⟨hlt', e⟩ := List.getElem?_eq_some_iff.mp hd
      rw [List.drop_eq_getElem_cons hlt', e]
    rw [e] at h
    have h := lcGo_none (s3 := s2) h
    have b3 := b.ext S1 S2 ex
    have S3 := S2.ext ex
    have es : (⟨wipeR s2.ρ vs, s2.st⟩ : Ev.S) = s2 := by rw [hw]
    refine turn_ok (s2 := s2) S1 hv hn hi hin h1 (by rw [hw]; exact b3) (by rw [es]; exact S3) rd h ?_ ?_
    · rintro s4 w4 h hw4 S4 l4 b4
      exact ⟨w4, s4, acc, rfl, S4, hw4, (l.trans (ex.le S2.fz)).trans l4, b4, h⟩
    · rintro x s4 w4 ⟨hz, h⟩ hw4 S4 l4 b4 y ry
      obtain ⟨accV, hH, hr⟩ := b4.at_
      refine ⟨accV, hH, by rw [← hr.length]; exact hz, ?_⟩
      obtain ⟨S5, b5⟩ := b4.push S1 S4 ry hH
      refine ⟨_, s4, acc ++ [x], rfl, S5, hw4, ((l.trans (ex.le S2.fz)).trans l4).trans ⟨fun _ h => h, fun _ _ h => h, fun a f => upd_ne (fun z : a = p => b4.nfz (by rw [← z]; exact f))⟩, b5, h⟩
  · rintro H ⟨w2, s2, acc, rfl, S2, hw, l, b, h⟩
    rw [List.drop_length] at h
    have iv' : ∀ v ∈ vs, isVal (s1.ρ[v]?.getD none) = true := fun v hm => List.all_eq_true.mp iv v hm
    obtain ⟨S3, ow3⟩ := S1.back hvσ S2 l iv'
    obtain ⟨accV, hH, hr⟩ := b.at_
    have hl2 : s2.ρ.length = s1.ρ.length := by rw [S2.len, S1.len, wipe_length]
    refine h (.ref p) w2 ⟨A.stp.trans b.stp fun a o e m t z => t (A.env.ow z), S3, A.env.trans ⟨fun i m e o => ?_, fun i m e => ?_⟩⟩ ⟨p, accV, rfl, hH, hr, b.nfz, b.nmu, ?_⟩
    · by_cases hm : i ∈ vs
      · have e : (backR s1.ρ s2.ρ vs)[i]? = some (some m) := e
        rw [backR_in hm (by rw [hl2, S1.len]; exact Nat.lt_of_lt_of_le (hvσ i hm) (Nat.le_add_right _ _))] at e
        obtain ⟨d, z⟩ := isVal_get (iv' i hm) (Option.some.inj e)
        subst z
        cases o
      · have e : (backR s1.ρ s2.ρ vs)[i]? = some (some m) := e
        rw [backR_out hm] at e
        exact b.own i m e o
    · by_cases hm : i ∈ vs
      · refine ⟨m, ?_⟩
        show (backR s1.ρ s2.ρ vs)[i]? = some (some m)
        rw [backR_in hm (by rw [hl2, S1.len]; exact Nat.lt_of_lt_of_le (hvσ i hm) (Nat.le_add_right _ _)), e]
        rfl
      · obtain ⟨m', e'⟩ := b.def_ i m hm e
        refine ⟨m', ?_⟩
        show (backR s1.ρ s2.ρ vs)[i]? = some (some m')
        rw [backR_out hm]
        exact e'
    · cases q : w.H p with
      | none => rfl
      | some o =>
        obtain ⟨o', e'⟩ := A.stp.there p o q
        rw [hp] at e'
        cases e'
end
end Ev
set_option Elab.async false
set_option maxRecDepth 100000
set_option maxHeartbeats 1000000
namespace Ev
open PySem PySem.Spec PyProof.Rows L2
set_option autoImplicit false
section
variable {g : Cg} {c : Fc} {w w' : W} {σ fv : Tv} {s : S} {C : Cl}
theorem in_it {J : It} {n : Nat} {G : Hp → Prop} {Y : Nat → Hp → V → Hp → Prop} (wk : Walk J n G Y) {B : (V → Hp → (Hp → Prop) → Prop)} {H1 : Hp} {Qd : Hp → Prop} (Pv : Nat → Hp → Prop) (h0 : Pv 0 H1) (hG : ∀ i H, i ≤ n → Pv i H → G H)
    (hs : ∀ i x H H', i < n → Pv i H → Y i H x H' → B x H' (Pv (i + 1))) (hd : ∀ H, Pv n H → Qd H) :
    ∃ W : Nat → Nat → Hp → Prop, (∃ m, W 0 m H1) ∧ ∀ i m H, W i m H →
      (J.stop i H ∧ Qd H) ∨ (J.go i H ∧ ∃ Nx : Hp → Prop, (∀ H', Nx H' → ∃ m', m' < m ∧ W (i + 1) m' H') ∧ ∀ x H', J.yld i H x H' → B x H' Nx) := by
  refine ⟨fun i m H => m = n - i ∧ i ≤ n ∧ Pv i H, ⟨n, by simp, Nat.zero_le _, h0⟩, ?_⟩
  rintro i m H ⟨rfl, hi, p⟩
  have q := hG i H hi p
  by_cases hlt : i < n
  · exact .inr ⟨wk.goes i H hlt q, Pv (i + 1), fun H' p' => ⟨n - (i + 1), by omega, rfl, hlt, p'⟩, fun x H' y => hs i x H H' hlt p (wk.yields i H x H' hlt q y)⟩
  · have e : i = n := by omega
    subst e
    exact .inl ⟨wk.stops H q, hd H p⟩
/-- the inner loop, from the world w1 ahead of the comprehension -/
theorem inner_ok {w1 : W} {s1 : S} {vs vs1 : List Nat} {p : Addr} {σ2 : Tv} {s2 : S} {acc : List D} {tg : Tg} {ifs : List SE} {el : SE} {ds : List D} {J : It} {n : Nat} (S1 : Sim g c w1 σ fv s1) (hv : ∀ v ∈ vs1, v < n) (hn : σ2.length = n) (hi : tgOk n tg = true) (hin : tgIn vs1 tg = true) (h1 : ifs.length ≤ 1)
    (hsub : ∀ v ∈ vs1, v ∈ vs) (io : ItOk g J ds w) (b : Blk g c σ fv w1 s1.ρ vs p w σ2 s2.ρ acc) (S2 : Sim g c w σ2 fv s2) {P : List D × S → Prop} (h : (lcGo (lcTurn tg ifs el vs1 C) ds acc ⟨wipeR s2.ρ vs1, s2.st⟩).Sat P) {Pn : Hp → Prop}
    (k : ∀ out s3 w3, P (out, s3) → Sim g c w3 (L2.wipe σ2 vs1) fv s3 → Le w w3 → Blk g c σ fv w1 s1.ρ vs p w3 (L2.wipe σ2 vs1) s3.ρ out → Pn w3.H) :
    ∃ W1 : Nat → Nat → Hp → Prop, (∃ m, W1 0 m w.H) ∧ ∀ j k H, W1 j k H →
      (J.stop j H ∧ Pn H) ∨ (J.go j H ∧ ∃ Nx1 : Hp → Prop, (∀ H', Nx1 H' → ∃ k', k' < k ∧ W1 (j + 1) k' H') ∧ ∀ x H', J.yld j H x H' → gT g.K tg x (L2.wipe σ2 vs1) H' fun σ3 H5 => L2.wipe σ3 vs1 = L2.wipe σ2 vs1 ∧ tIs g C ifs σ3 H5 fun bb H6 =>
        if bb = true then tE g C el σ3 H6 fun y H7 => ∃ acc, H7 p = some (.lst acc) ∧ acc.length < sizeLine ∧ Nx1 (upd H7 p (.lst (acc ++ [y]))) else Nx1 H6) := by
  obtain ⟨G, Y, wk, hG, hY⟩ := io.ex
  have hv2 : ∀ v ∈ vs1, v < σ2.length := fun v hm => by rw [hn]; exact hv v hm
  -- the inner own slots are own slots of the whole
  have bw : ∀ {w2 : W} {τ : Tv} {ρ : List (Option M)} {acc : List D}, (∀ v ∈ vs1, v < τ.length) → Blk g c σ fv w1 s1.ρ vs p w2 τ ρ acc → Blk g c σ fv w1 s1.ρ vs p w2 (L2.wipe τ vs1) (wipeR ρ vs1) acc := fun hl b =>
    ⟨b.stp, b.hp, fun a z => b.ow a (wipe_ow hl z), fun i m e o => b.own i m (wipeR_some e).1 o, fun i m h e => by
      obtain ⟨m', e'⟩ := b.def_ i m h e
      exact ⟨m', by rw [wipeR_get fun z => h (hsub i z)]; exact e'⟩, b.at_, b.nfz, b.nmu⟩
  refine in_it wk (B := fun x H' Nx1 => gT g.K tg x (L2.wipe σ2 vs1) H' fun σ3 H5 => L2.wipe σ3 vs1 = L2.wipe σ2 vs1 ∧ tIs g C ifs σ3 H5 fun bb H6 =>
        if bb = true then tE g C el σ3 H6 fun y H7 => ∃ acc, H7 p = some (.lst acc) ∧ acc.length < sizeLine ∧ Nx1 (upd H7 p (.lst (acc ++ [y]))) else Nx1 H6)
    (fun i H => ∃ w2 s3 acc, w2.H = H ∧ Sim g c w2 (L2.wipe σ2 vs1) fv s3 ∧ wipeR s3.ρ vs1 = s3.ρ ∧ Le w w2 ∧ Blk g c σ fv w1 s1.ρ vs p w2 (L2.wipe σ2 vs1) s3.ρ acc ∧ (lcGo (lcTurn tg ifs el vs1 C) (ds.drop i) acc s3).Sat P) ?_ ?_ ?_ ?_
  · exact ⟨w, ⟨wipeR s2.ρ vs1, s2.st⟩, acc, rfl, S2.wipe hv2, wipeR_idem _ _, Le.refl _, bw hv2 b, h⟩
  · rintro i H hle ⟨w2, s3, acc, rfl, _, _, l, _⟩
    exact hG w2 l
  · rintro i x H H' hlt ⟨w2, s3, acc, rfl, S3, hw, l, b, h⟩ y
    obtain ⟨w3, d, rfl, ex, hd, rd⟩ := hY i w2 x H' hlt l S3.fz y
    have e : ds.drop i = d :: ds.drop (i + 1) := by
      obtain ⟨hlt', e⟩ := List.getElem?_eq_some_iff.mp hd
      rw [List.drop_eq_getElem_cons hlt', e]
    rw [e] at h
    have h := lcGo_none (s3 := s3) h
    have b3 := b.ext S1 S3 ex
    have S4 := S3.ext ex
    -- the turn, with the slots of the inner clause
    unfold lcTurn at h
    rw [Res.sat_bind] at h
    rw [hw] at h
    have hvw : ∀ v ∈ vs1, v < (L2.wipe σ2 vs1).length := fun v hm => by rw [wipe_length]; exact hv2 v hm
    refine bindT_ok tg (by rw [wipe_length, hn]; exact hi) S4 rd h fun σ3 ρ3 hl hww E O h S5 => ?_
    have hw3 : L2.wipe σ3 vs1 = L2.wipe σ2 vs1 := (hww vs1 hin).trans (wipe_idem _ _)
    have hl3 : σ3.length = n := by rw [hl, wipe_length, hn]
    have hv3 : ∀ v ∈ vs1, v < σ3.length := fun v hm => by rw [hl3]; exact hv v hm
    refine ⟨hw3, ?_⟩
    have b5 : Blk g c σ fv w1 s1.ρ vs p w3 σ3 (⟨ρ3, s3.st⟩ : Ev.S).ρ acc := b3.bind E O
    rw [Res.sat_bind] at h
    refine ifs_ok h1 S5 h fun bb s6 w6 A6 h => ?_
    have b6 := b5.aft S1 A6
    cases bb with
    | false =>
      refine L2.iteF ?_
      have S7 := A6.sim.wipe hv3
      have b7 := bw hv3 b6
      rw [hw3] at S7 b7
      exact ⟨w6, _, acc, rfl, S7, wipeR_idem _ _, (l.trans (ex.le S3.fz)).trans A6.stp.le, b7, h⟩
    | true =>
      refine L2.iteT ?_
      have h : ((el C s6).bind fun (r, s3) => (frz r s3).bind fun (x, s4) => Res.ok (some x, (⟨wipeR s4.ρ vs1, s4.st⟩ : Ev.S))).Sat fun q => match q.1 with
        | some x => acc.length < szL ∧ (lcGo (lcTurn tg ifs el vs1 C) (ds.drop (i + 1)) (acc ++ [x]) q.2).Sat P
        | none => (lcGo (lcTurn tg ifs el vs1 C) (ds.drop (i + 1)) acc q.2).Sat P := h
      rw [Res.sat_bind] at h
      refine ⟨c, w6, fv, s6, rfl, A6.sim, h.mono fun q h y w7 A7 rr => ?_⟩
      obtain ⟨r0, s7⟩ := q
      rw [Res.sat_bind] at h
      obtain ⟨x, s8, w8, h, hH, A8, rx⟩ := frz_ok A6.sim A7 rr h
      obtain ⟨hz, h⟩ := h
      have b8 := b6.aft S1 A8
      have S9 := A8.sim.wipe hv3
      have b9 := bw hv3 b8
      rw [hw3] at S9 b9
      obtain ⟨accV, hHp, hr⟩ := b9.at_
      rw [← hH]
      refine ⟨accV, hHp, by rw [← hr.length]; exact hz, ?_⟩
      obtain ⟨S10, b10⟩ := b9.push S1 S9 rx hHp
      exact ⟨_, _, acc ++ [x], rfl, S10, wipeR_idem _ _, (((l.trans (ex.le S3.fz)).trans A6.stp.le).trans A8.stp.le).trans ⟨fun _ h => h, fun _ _ h => h, fun a f => upd_ne (fun z : a = p => b9.nfz (by rw [← z]; exact f))⟩, b10, h⟩
  · rintro H ⟨w2, s3, acc, rfl, S3, hw, l, b, h⟩
    rw [List.drop_length] at h
    exact k acc s3 w2 h S3 l b
theorem wipe_wipe {σ : Tv} {vs vs1 : List Nat} (h : ∀ v ∈ vs1, v ∈ vs) : L2.wipe (L2.wipe σ vs1) vs = L2.wipe σ vs := by
  apply List.ext_getElem?
  intro i
  by_cases hi : i ∈ vs
  · by_cases hl : i < σ.length
    · rw [wipe_in hi (by rw [wipe_length]; exact hl), wipe_in hi hl]
    · rw [List.getElem?_eq_none (by simp [wipe_length]; omega), List.getElem?_eq_none (by simp [wipe_length]; omega)]
  · rw [wipe_get hi, wipe_get (fun z => hi (h i z)), wipe_get hi]
/-- [el for tg0 in it0 if .. for tg in it if ..] -/
theorem tLc2_le {vs vs1 : List Nat} {tg0 tg : Tg} {it0 it : SI} {ifs0 ifs : List SE} {el : SE} {n : Nat} (hv : ∀ v ∈ vs, v < n) (hsub : ∀ v ∈ vs1, v ∈ vs) (hn : σ.length = n) (hi0 : tgOk n tg0 = true) (hin0 : tgIn vs tg0 = true) (hi : tgOk n tg = true) (hin : tgIn vs1 tg = true)
    (h10 : ifs0.length ≤ 1) (h1 : ifs.length ≤ 1) {H : Hp} {Q : VK} (h : tE g C (lc2F vs vs1 tg0 it0 ifs0 tg it ifs el) σ H Q) :
    tLc2 (tI g C it0) (gT g.K tg0) (tIs g C ifs0) (tI g C it) (gT g.K tg) (tIs g C ifs) (tE g C el) vs vs1 σ H Q := by
  obtain ⟨c, w, fv, s, rfl, S, h⟩ := h
  unfold lc2F at h
  rw [Res.sat_bind] at h
  refine ⟨c, w, fv, s, rfl, S, h.mono fun q h J w1 A io p hp => ?_⟩
  obtain ⟨ds, s1⟩ := q
  obtain ⟨iv, h⟩ := Res.sat_ite _ _ h
  rw [Res.sat_bind] at h
  obtain ⟨G, Y, wk, hG, hY⟩ := io.ex
  have S1 := A.sim
  have hvσ : ∀ v ∈ vs, v < σ.length := fun v hm => by rw [hn]; exact hv v hm
  have k0 : Ext w1 ⟨upd w1.H p (.lst []), w1.Fz, w1.μ⟩ := ext_new hp
  refine in_it wk (B := fun x H' Nx => gT g.K tg0 x (L2.wipe σ vs) H' fun σ2 H2 => L2.wipe σ2 vs = L2.wipe σ vs ∧ tIs g C ifs0 σ2 H2 fun b H3 =>
    if b = true then tI g C it σ2 H3 fun J1 H4 => ∃ W1 : Nat → Nat → Hp → Prop, (∃ m, W1 0 m H4) ∧ ∀ j k H, W1 j k H →
      (J1.stop j H ∧ Nx H) ∨ (J1.go j H ∧ ∃ Nx1 : Hp → Prop, (∀ H', Nx1 H' → ∃ k', k' < k ∧ W1 (j + 1) k' H') ∧ ∀ x H', J1.yld j H x H' → gT g.K tg x (L2.wipe σ2 vs1) H' fun σ3 H5 => L2.wipe σ3 vs1 = L2.wipe σ2 vs1 ∧ tIs g C ifs σ3 H5 fun b H6 =>
        if b = true then tE g C el σ3 H6 fun y H7 => ∃ acc, H7 p = some (.lst acc) ∧ acc.length < sizeLine ∧ Nx1 (upd H7 p (.lst (acc ++ [y]))) else Nx1 H6)
    else Nx H3) (fun i H => ∃ w2 s2 acc, w2.H = H ∧ Sim g c w2 (L2.wipe σ vs) fv s2 ∧ wipeR s2.ρ vs = s2.ρ ∧ Le w1 w2 ∧ Blk g c σ fv w1 s1.ρ vs p w2 (L2.wipe σ vs) s2.ρ acc ∧
    (lc2Go tg0 ifs0 (lc2In tg it ifs el vs1 C) vs C (ds.drop i) acc s2).Sat fun q => ∀ v w', Aft g c σ fv w s w' ⟨backR s1.ρ q.2.ρ vs, q.2.st⟩ → RepR g w w' (σ ++ fv) (backR s1.ρ q.2.ρ vs) (.own q.1) v → Q v w'.H) ?_ ?_ ?_ ?_
  · refine ⟨_, ⟨wipeR s1.ρ vs, s1.st⟩, [], rfl, (S1.ext k0).wipe hvσ, wipeR_idem _ _, k0.le S1.fz, ⟨k0.step S1 _, hp, fun a z => wipe_ow hvσ z, fun i m e o => ⟨m, (wipeR_some e).1, o⟩, fun i m hn e => ⟨m, by rw [wipeR_get hn]; exact e⟩, ⟨[], upd_same, rfl⟩, fun f => ?_, fun hm => ?_⟩, h⟩
    · obtain ⟨o, e⟩ := S1.fz p f
      rw [hp] at e
      cases e
    · obtain ⟨o, e⟩ := S1.muH p hm
      rw [hp] at e
      cases e
  · rintro i H hle ⟨w2, s2, acc, rfl, _, _, l, _⟩
    exact hG w2 l
  · rintro i x H H' hlt ⟨w2, s2, acc, rfl, S2, hw, l, b, h⟩ y
    obtain ⟨w3, d, rfl, ex, hd, rd⟩ := hY i w2 x H' hlt l S2.fz y
    have e : ds.drop i = d :: ds.drop (i + 1) := by
      obtain ⟨hlt', e⟩ := List.getElem?_eq_some_iff.mp hd
      rw [List.drop_eq_getElem_cons hlt', e]
    rw [e] at h
    unfold lc2Go at h
    rw [Res.sat_bind, hw] at h
    have b3 := b.ext S1 S2 ex
    have S3 := S2.ext ex
    refine bindT_ok tg0 (by rw [wipe_length, hn]; exact hi0) S3 rd h fun σ3 ρ3 hl hww E O h S5 => ?_
    have hw3 : L2.wipe σ3 vs = L2.wipe σ vs := (hww vs hin0).trans (wipe_idem _ _)
    have hl3 : σ3.length = n := by rw [hl, wipe_length, hn]
    have hv3 : ∀ v ∈ vs, v < σ3.length := fun v hm => by rw [hl3]; exact hv v hm
    refine ⟨hw3, ?_⟩
    have b5 : Blk g c σ fv w1 s1.ρ vs p w3 σ3 (⟨ρ3, s2.st⟩ : Ev.S).ρ acc := b3.bind E O
    rw [Res.sat_bind] at h
    refine ifs_ok h10 S5 h fun bb s6 w6 A6 h => ?_
    have b6 := b5.aft S1 A6
    have l6 : Le w1 w6 := (l.trans (ex.le S2.fz)).trans A6.stp.le
    cases bb with
    | false =>
      refine L2.iteF ?_
      have S7 := A6.sim.wipe hv3
      have b7 := b6.wipe hv3
      rw [hw3] at S7 b7
      exact ⟨w6, _, acc, rfl, S7, wipeR_idem _ _, l6, b7, h⟩
    | true =>
      refine L2.iteT ?_
      have h : ((lc2In tg it ifs el vs1 C acc s6).bind fun (acc', s3) => lc2Go tg0 ifs0 (lc2In tg it ifs el vs1 C) vs C (ds.drop (i + 1)) acc' ⟨wipeR s3.ρ vs, s3.st⟩).Sat fun q => ∀ v w', Aft g c σ fv w s w' ⟨backR s1.ρ q.2.ρ vs, q.2.st⟩ → RepR g w w' (σ ++ fv) (backR s1.ρ q.2.ρ vs) (.own q.1) v → Q v w'.H := h
      unfold lc2In at h
      rw [Res.sat_bind, Res.sat_bind] at h
      refine ⟨c, w6, fv, s6, rfl, A6.sim, h.mono fun q h J1 w7 A7 io1 => ?_⟩
      obtain ⟨ds1, s7⟩ := q
      refine inner_ok S1 (fun v hm => hv v (hsub v hm)) hl3 hi hin h1 hsub io1 (b6.aft S1 A7) A7.sim h fun out s8 w8 h S8 l8 b8 => ?_
      have hv8 : ∀ v ∈ vs, v < (L2.wipe σ3 vs1).length := fun v hm => by rw [wipe_length]; exact hv3 v hm
      have S9 := S8.wipe hv8
      have b9 := b8.wipe hv8
      rw [wipe_wipe hsub, hw3] at S9 b9
      exact ⟨w8, _, out, rfl, S9, wipeR_idem _ _, (l6.trans A7.stp.le).trans l8, b9, h⟩
  · rintro H ⟨w2, s2, acc, rfl, S2, hw, l, b, h⟩
    rw [List.drop_length] at h
    have iv' : ∀ v ∈ vs, isVal (s1.ρ[v]?.getD none) = true := fun v hm => List.all_eq_true.mp iv v hm
    obtain ⟨S3, ow3⟩ := S1.back hvσ S2 l iv'
    obtain ⟨accV, hH, hr⟩ := b.at_
    have hl2 : s2.ρ.length = s1.ρ.length := by rw [S2.len, S1.len, wipe_length]
    refine h (.ref p) w2 ⟨A.stp.trans b.stp fun a o e m t z => t (A.env.ow z), S3, A.env.trans ⟨fun i m e o => ?_, fun i m e => ?_⟩⟩ ⟨p, accV, rfl, hH, hr, b.nfz, b.nmu, ?_⟩
    · by_cases hm : i ∈ vs
      · have e : (backR s1.ρ s2.ρ vs)[i]? = some (some m) := e
        rw [backR_in hm (by rw [hl2, S1.len]; exact Nat.lt_of_lt_of_le (hvσ i hm) (Nat.le_add_right _ _))] at e
        obtain ⟨d, z⟩ := isVal_get (iv' i hm) (Option.some.inj e)
        subst z
        cases o
      · have e : (backR s1.ρ s2.ρ vs)[i]? = some (some m) := e
        rw [backR_out hm] at e
        exact b.own i m e o
    · by_cases hm : i ∈ vs
      · refine ⟨m, ?_⟩
        show (backR s1.ρ s2.ρ vs)[i]? = some (some m)
        rw [backR_in hm (by rw [hl2, S1.len]; exact Nat.lt_of_lt_of_le (hvσ i hm) (Nat.le_add_right _ _)), e]
        rfl
      · obtain ⟨m', e'⟩ := b.def_ i m hm e
        refine ⟨m', ?_⟩
        show (backR s1.ρ s2.ρ vs)[i]? = some (some m')
        rw [backR_out hm]
        exact e'
    · cases q : w.H p with
      | none => rfl
      | some o =>
        obtain ⟨o', e'⟩ := A.stp.there p o q
        rw [hp] at e'
        cases e'
end
end Ev
set_option Elab.async false
set_option maxRecDepth 100000
set_option maxHeartbeats 2000000
namespace Ev
open PySem PySem.Spec PyProof.Rows L2
set_option autoImplicit false

theorem meets_enumerate_newB1 {v : Value} {o : Obj} {H : Heap → Prop} (B : Begins v o H) :
    Meets (Builtin.«enumerate.__new__» ⟨[.type "enumerate", v], []⟩) (fun _ R s => H s.heap ∧
      R (.ok (.ret (.ref (s.heap.push o).objs.size))) { s with heap := (s.heap.push o).push { cls := .type "enumerate", data := .fields #[.none, .bool false, .ref s.heap.objs.size, rawInt 0, .none, .none] } }) :=
  .of_wp fun prog w A R s h => by
    obtain ⟨hp, g, d, tk, os⟩ := s; obtain ⟨h1, h⟩ := h
    have hsub := sub_enumerate
    have q1 : ∀ {A' : Around} {E : Value → Shared → Prop} {Q : Value → Shared → Prop}, Q (.ref hp.objs.size) ⟨hp.push o, g, d, tk, os⟩ → wpAny (model prog w) A' (pyIter v) Q E ⟨hp, g, d, tk, os⟩ :=
      fun q => B.iter prog w _ _ ⟨hp, g, d, tk, os⟩ _ h1 q
    wp_walk using q1
    refine wpAny_stack_any fun st => wpAny_pure ?_
    split
    · rename_i c _ _ _ _ _
      cases (c == Value.type "enumerate")
      · wp_walk using q1
        exact ⟨_, rfl, h⟩
      · wp_walk using q1
        exact ⟨_, rfl, h⟩
    · wp_walk using q1
      exact ⟨_, rfl, h⟩
theorem enum_begins1 {prog : Program} {w : World} {A : Around} {E : Value → Shared → Prop} {s : Shared} {v : Value} {o : Obj} {H : Heap → Prop} {Q : Value → Shared → Prop} (B : Begins v o H) (h1 : H s.heap)
    (h : ∀ h', IsEnum h' (s.heap.objs.size + 1) s.heap.objs.size 0 .none → h'.get? s.heap.objs.size = some o → h'.objs.size = s.heap.objs.size + 2 →
      (∀ b o, s.heap.get? b = some o → h'.get? b = some o) → Q (.ref (s.heap.objs.size + 1)) { s with heap := h' }) :
    wpAny (model prog w) A (call (.type "enumerate") [v]) Q E s := by
  refine callType_new F.called_enumerate (by decide) (F.typeCall_enumerate_1 _) (F.newCall_enumerate_1 _) (fun obj => F.args_object_init_2 obj _) F.entry_enumerate_new
    (meets_enumerate_newB1 B) ⟨h1, ?_⟩
  have hz : (s.heap.push o).objs.size = s.heap.objs.size + 1 := Heap.size_push ..
  show _ ∧ _
  rw [hz]
  have he : IsEnum ((s.heap.push o).push { cls := .type "enumerate", data := .fields #[.none, .bool false, .ref s.heap.objs.size, rawInt 0, .none, .none] }) (s.heap.objs.size + 1) s.heap.objs.size 0 .none := by
    have := Heap.get?_push_size (s.heap.push o) (o := { cls := .type "enumerate", data := .fields #[.none, .bool false, .ref s.heap.objs.size, rawInt 0, .none, .none] }) rfl
    rw [hz] at this; exact this
  refine ⟨⟨_, he, rfl⟩, h _ he (Heap.get?_push_of_some _ (Heap.get?_push_size _ B.free)) (by rw [Heap.size_push, hz]) fun b o x => Heap.get?_push_of_some _ (Heap.get?_push_of_some _ x)⟩

/-- the items of the list or tuple at a (t: a tuple), in pairs with their places from k on -/
def SqX (K : PySem.W.Frag) (t : Bool) (H : Hp) (a : Addr) (xs : List V) : Prop := if t then SqT K H a xs else SqL K H a xs
def IteC (K : PySem.W.Frag) (t : Bool) (a : Addr) (k : Int) : It :=
  ⟨fun i H => ∃ (xs : List V) (x : V), SqX K t H a xs ∧ xs[i]? = some x, fun i H v H' => ∃ T x, v = .ref T ∧ H T = none ∧ H' = upd H T (.tup [.int (k + (i : Nat)), x]) ∧ ∀ xs, SqX K t H a xs → xs[i]? = some x, fun i H => ∃ xs : List V, SqX K t H a xs ∧ xs.length ≤ i⟩
def SrcIt (t : Bool) (h : Heap) (it a : Addr) (i : Nat) : Prop := if t then h.IsTupleIter it a i else h.IsListIter it a i
theorem SrcIt.at {t : Bool} {h h' : Heap} {it a : Addr} {i : Nat} (x : SrcIt t h it a i) (k : ∀ o, h.get? it = some o → h'.get? it = some o) : SrcIt t h' it a i := by
  cases t with
  | true =>
    obtain ⟨o, ho, r⟩ := (show h.IsTupleIter it a i from x)
    exact ⟨o, k o ho, r⟩
  | false =>
    obtain ⟨o, ho, r⟩ := (show h.IsListIter it a i from x)
    exact ⟨o, k o ho, r⟩
theorem SrcIt.there {t : Bool} {h : Heap} {it a : Addr} {i : Nat} (x : SrcIt t h it a i) : ∃ o, h.get? it = some o ∧ ∀ v, o.data ≠ .cell v := by
  cases t with
  | true =>
    obtain ⟨o, ho, _, hd⟩ := (show h.IsTupleIter it a i from x)
    exact ⟨o, ho, fun v q => by rw [hd] at q; cases q⟩
  | false =>
    obtain ⟨o, ho, _, hd⟩ := (show h.IsListIter it a i from x)
    exact ⟨o, ho, fun v q => by rw [hd] at q; cases q⟩
/-- its object, as it stands -/
theorem src_draws {prog : Program} {w : World} {A : Around} {X : Cx} {pins : List (Addr × Obj)} {σ : L2.St} {H : Hp} {s : Shared} {t : Bool} {a it : Addr} {xs : List V} (I : Inv X pins σ H s) (hh : A.handled = none) (hq : SqX X.K t H a xs) (hne : a ≠ it) :
    ∃ its : List Value, Vals xs its ∧ ∃ St : Nat → Heap → Prop, Draws prog w A it [it, a] its.length (fun i v => its[i]? = some v) St ∧ (∀ i, SrcIt t s.heap it a i → St i s.heap) ∧ ∀ i h, St i h → SrcIt t h it a i := by
  cases t with
  | true =>
    obtain ⟨its, rv, p, hz⟩ := I.tuple (show SqT X.K H a xs from hq)
    exact ⟨its, rv, fun i h => h.IsTupleIter it a i ∧ h.IsTuple a its.toArray, (by simpa using Draws.tuple hh it a hne its.toArray), fun i h => ⟨h, p⟩, fun i h q => q.1⟩
  | false =>
    obtain ⟨its, rv, p, hz⟩ := I.list (show SqL X.K H a xs from hq)
    exact ⟨its, rv, fun i h => h.IsListIter it a i ∧ h.IsList a its.toArray, (by simpa using Draws.list hh it a hne its.toArray), fun i h => ⟨h, p.isList⟩, fun i h q => q.1⟩
/-- .. at its end -/
theorem src_end {prog : Program} {w : World} {A : Around} {X : Cx} {pins : List (Addr × Obj)} {σ : L2.St} {H : Hp} {s : Shared} {t : Bool} {a it : Addr} {xs : List V} {i : Nat} (I : Inv X pins σ H s) (hh : A.handled = none) (hq : SqX X.K t H a xs) (hit : SrcIt t s.heap it a i) (hx : xs.length ≤ i) :
    ∃ St : Nat → Heap → Prop, Draws prog w A it [it, a] 0 (fun _ _ => False) St ∧ St 0 s.heap := by
  cases t with
  | true =>
    obtain ⟨its, rv, p, hz⟩ := I.tuple (show SqT X.K H a xs from hq)
    have hl := rv.length
    refine ⟨fun _ h => h.IsTupleIter it a i ∧ h.IsTuple a its.toArray, ⟨fun _ _ st => let ⟨o, ho, _⟩ := st.1; ⟨o, ho⟩, fun _ _ _ st hk => ⟨st.1.at fun o e => hk it (by simp) o e, st.2.at fun o e => hk a (by simp) o e⟩, fun j _ _ _ hj => absurd hj (Nat.not_lt_zero _), fun s Q E st hE => ?_⟩, hit, p⟩
    exact wpAny_nextOf_tuple_end hh st.1 st.2 (by simp; omega) hE
  | false =>
    obtain ⟨its, rv, p, hz⟩ := I.list (show SqL X.K H a xs from hq)
    have hl := rv.length
    refine ⟨fun _ h => h.IsListIter it a i ∧ h.IsList a its.toArray, ⟨fun _ _ st => let ⟨o, ho, _⟩ := st.1; ⟨o, ho⟩, fun _ _ _ st hk => ⟨st.1.at fun o e => hk it (by simp) o e, st.2.at fun o e => hk a (by simp) o e⟩, fun j _ _ _ hj => absurd hj (Nat.not_lt_zero _), fun s Q E st hE => ?_⟩, hit, p.isList⟩
    exact wpAny_nextOf_list_end hh st.1 st.2 (by simp; omega) hE
theorem SqX.inj {X : Cx} {pins : List (Addr × Obj)} {σ : L2.St} {H : Hp} {s : Shared} {t : Bool} {a : Addr} {xs ys : List V} (I : Inv X pins σ H s) (h : SqX X.K t H a xs) (h' : SqX X.K t H a ys) : xs = ys := by
  cases t with
  | true => exact I.tuple_inj h h'
  | false => exact I.list_inj h h'
theorem SqX.lt {X : Cx} {pins : List (Addr × Obj)} {σ : L2.St} {H : Hp} {s : Shared} {t : Bool} {a : Addr} {xs : List V} (I : Inv X pins σ H s) (h : SqX X.K t H a xs) : ∃ o, s.heap.get? a = some o ∧ ∀ vs, o.data ≠ .fields vs := by
  cases t with
  | true =>
    obtain ⟨its, rv, ⟨o, ho, _, n, hd⟩, _⟩ := I.tuple (show SqT X.K H a xs from h)
    exact ⟨o, ho, fun vs q => by rw [hd] at q; cases q⟩
  | false =>
    obtain ⟨its, rv, ⟨o, n, ho, _, _, hd⟩, _⟩ := I.list (show SqL X.K H a xs from h)
    exact ⟨o, ho, fun vs q => by rw [hd] at q; cases q⟩
theorem src_ne {X : Cx} {pins : List (Addr × Obj)} {σ : L2.St} {H : Hp} {s : Shared} {t : Bool} {a it : Addr} {i : Nat} {xs : List V} (I : Inv X pins σ H s) (h : SqX X.K t H a xs) (hit : SrcIt t s.heap it a i) : a ≠ it := by
  obtain ⟨o, ho, hd⟩ := h.lt I
  intro e
  subst e
  cases t with
  | true =>
    obtain ⟨o', ho', _, hd'⟩ := (show s.heap.IsTupleIter a a i from hit)
    rw [ho] at ho'
    cases ho'
    exact hd _ hd'
  | false =>
    obtain ⟨o', ho', _, hd'⟩ := (show s.heap.IsListIter a a i from hit)
    rw [ho] at ho'
    cases ho'
    exact hd _ hd'
theorem turn_enumC {P : Program} {w : World} {K : PySem.W.Frag} {elts : List Expr} {kk : Nat} {tpos : Pos} (t : Bool) (a e it : Addr) (k : Int) :
    Turn P w K (.Tuple elts kk tpos) (IteC K t a k) [e, it] e (fun i h => (∃ old, IsEnum h e it (k + ((i : Nat) : Int)) old) ∧ SrcIt t h it a i ∧ e ≠ it ∧ e ≠ a) where
  mem := by simp
  obj := fun i h st b hb => by
    obtain ⟨⟨old, he⟩, hs, _⟩ := st
    have e' : b = e ∨ b = it := by simpa using hb
    rcases e' with z | z
    · rw [z]; exact ⟨_, he, fun v q => nomatch q⟩
    · rw [z]; exact hs.there
  keep := fun i h h' st k => let ⟨⟨old, he⟩, hi, hne⟩ := st; ⟨⟨old, k e (by simp) _ he⟩, hi.at fun o q => k it (by simp) o q, hne⟩
  item := by
    intro X hP hw hK hc i pins s σ H E I hf st hg
    subst hP hw hK
    obtain ⟨⟨old, he⟩, hit, hne, hea⟩ := st
    obtain ⟨xs, x, hq, hx⟩ := hg
    have hai : a ≠ it := src_ne I hq hit
    obtain ⟨its, rv, St, D, h1, h2⟩ := src_draws (prog := X.prog) (w := X.w) (A := X.A.in1) I (I.ok.hd hc) hq hai
    obtain ⟨u, hu, ru⟩ := rv.get hx
    have hel : e < s.heap.objs.size := Heap.lt_size he
    have hil : it < s.heap.objs.size := by obtain ⟨_, q, _⟩ := hit.there; exact Heap.lt_size q
    have hlt : i < its.length := (List.getElem?_eq_some_iff.mp hu).1
    refine wpAny_pyNext_enum_itemC (c := k + (i : Int)) D he (h1 i hit) hlt hne (by simp [hne, hea]) fun u' h' tk hP ho hst' hT hsz hk => ?_
    have eu : u' = u := by rw [hu] at hP; exact (Option.some.inj hP).symm
    subst eu
    refine ⟨_, rfl, wpAny_letOwnedTupleGo_enum (s := { s with heap := h', toks := tk + 1 }) ho fun h'' he' sb => ?_⟩
    have hT2 : h''.get? s.heap.objs.size = some { cls := .type "tuple", data := .seq #[.int (k + (i : Int)) tk, u'] } := (sb.2 _ (Nat.ne_of_gt hel)).trans hT
    have new : ObjOk X.prog X.w (upd H s.heap.objs.size (.tup [.int (k + (i : Nat)), x])) h'' s.heap.objs.size (.tup [.int (k + (i : Nat)), x]) :=
      ⟨by show 2 ≤ sizeLine; decide, [.int (k + (i : Int)) tk, u'], .cons ⟨_, rfl⟩ (.cons ru .nil), ⟨_, hT2, rfl, _, rfl⟩⟩
    have I1 : Inv X pins σ (upd H s.heap.objs.size (.tup [.int (k + (i : Nat)), x])) { s with heap := h'', toks := tk + 1 } :=
      I.turnedNew (ch := [e, it]) (fun b ob hb q => (sb.2 b (fun z => hb (by simp [z]))).trans (hk b ob (fun z => hb (by simp [z])) (fun z => hb (by simp [z])) q)) hf (Nat.le_refl _) new
    refine ⟨.ref s.heap.objs.size, _, I1, rfl, ⟨_, x, rfl, I.hok.fresh (Nat.le_refl _), rfl, fun ys hy => by rw [hy.inj I hq]; exact hx⟩, ⟨⟨u', ?_⟩, (h2 _ _ hst').at fun o q => (sb.2 it (Ne.symm hne)).trans q, hne, hea⟩, fun b hb => ?_⟩
    · have e1 : k + ((i + 1 : Nat) : Int) = k + (i : Int) + 1 := by omega
      rw [e1]; exact he'
    · have hb' : b < s.heap.objs.size := by
        have e' : b = e ∨ b = it := by simpa using hb
        rcases e' with z | z
        · rw [z]; exact hel
        · rw [z]; exact hil
      rw [upd_ne (Nat.ne_of_lt hb')]
      exact (hf b hb).1
  done := by
    intro X hP hw hK hc i pins s σ H E I hf st hg
    subst hP hw hK
    obtain ⟨⟨old, he⟩, hit, hne, hea⟩ := st
    obtain ⟨xs, hq, hx⟩ := hg
    obtain ⟨St, D, h0⟩ := src_end (prog := X.prog) (w := X.w) (A := X.A.in1) I (I.ok.hd hc) hq hit hx
    obtain ⟨f0, f1, f2, f3, f4, f5⟩ := hf it (by simp)
    exact wpAny_pyNext_enum_endD D he h0 fun h' eb => ⟨rfl, I.turned (t' := s.toks) (fun b o hb q => eb b o hb q) f0 f1 f3 f4 f5⟩
  self := fun A i s Q E st h => let ⟨⟨_, he⟩, _⟩ := st; wpAny_pyIter_enum he h
/-- enumerate(x), enumerate(x, k) over a list or a tuple -/
def iEnumC (K : PySem.W.Frag) (ta : TA) : TI := fun σ H R => ta σ H fun vs H1 => ∃ t a k xs, (vs = [.ref a] ∧ k = 0 ∨ vs = [.ref a, .int k] ∧ -(2 ^ 63) ≤ k ∧ k < 2 ^ 63) ∧ SqX K t H1 a xs ∧ R (IteC K t a k) H1
theorem pi_enumC {X : Cx} {e : Expr} {es : List Expr} {ta : TA} {p pos tpos : Pos} {elts : List Expr} {kk : Nat} (hg : Gl X "enumerate") (hm : X.mg "enumerate" = none) (ha : PA X (e :: es) ta) (hs : (e :: es).all notStar = true) :
    PI X (.Tuple elts kk tpos) (.Call (.Name "enumerate" p) (e :: es) [] pos) (iEnumC X.K ta) := by
  have hs' := hs
  rw [List.all_cons, Bool.and_eq_true] at hs'
  refine ⟨fun pins s σ H R I h => ?_⟩
  refine Call_ (ld_blt I hg hm boot_enumerate (PyProof.Rows.callWith_type1 (thn (ha.run pos pins s σ H _ I h) fun us s1 ⟨vs, H1, I1, r1, q1⟩ => ?_) (star_cons hs'.1 _ _) (star_any hs'.2 _ _)))
  obtain ⟨t, a, k, xs, hv, hq, q⟩ := q1
  have fin : ∀ (h' : Heap), IsEnum h' (s1.heap.objs.size + 1) s1.heap.objs.size k .none → SrcIt t h' s1.heap.objs.size a 0 → (∀ b o, s1.heap.get? b = some o → h'.get? b = some o) →
      wpAny (model X.prog X.w) X.A (pyIter (.ref (s1.heap.objs.size + 1))) (PIE X pins σ (.Tuple elts kk tpos) R) X.xe { s1 with heap := h' } := fun h' he hit hk => by
    refine wpAny_pyIter_enum he ?_
    have I2 : Inv X pins σ H1 { s1 with heap := h' } := I1.kept (t' := s1.toks) hk
    have hal : a < s1.heap.objs.size := by
      obtain ⟨oa, hoa, _⟩ := hq.lt I1
      exact Heap.lt_size hoa
    refine ⟨s1.heap.objs.size + 1, [s1.heap.objs.size + 1, s1.heap.objs.size], _, _, H1, rfl, I2, turn_enumC t a (s1.heap.objs.size + 1) s1.heap.objs.size k, ⟨⟨.none, by simpa using he⟩, hit, Nat.succ_ne_self _, Nat.ne_of_gt (Nat.lt_succ_of_lt hal)⟩, fun b hb => ?_, q⟩
    have e' : b = s1.heap.objs.size + 1 ∨ b = s1.heap.objs.size := by simpa using hb
    have hle : s1.heap.objs.size ≤ b := by
      rcases e' with z | z
      · rw [z]; exact Nat.le_add_right _ _
      · rw [z]; exact Nat.le_refl _
    exact I1.fpOk hle (I1.hok.fresh hle)
  cases t with
  | true =>
    obtain ⟨its, rv, p', hz⟩ := I1.tuple (show SqT X.K H1 a xs from hq)
    have B := begins_tuple a its.toArray
    rcases hv with ⟨ev, ek⟩ | ⟨ev, hk0, hk1⟩
    · subst ev ek
      cases r1 with
      | cons r rr =>
        cases rr
        cases r
        exact enum_begins1 B p' fun h' he ho hsz hk => fin h' he ⟨_, ho, rfl, rfl⟩ hk
    · subst ev
      cases r1 with
      | cons r rr =>
        cases rr with
        | cons r2 rr =>
          cases rr
          cases r
          obtain ⟨tk, rfl⟩ := r2
          exact enum_begins B p' hk0 hk1 fun h' he ho hsz hk => fin h' he ⟨_, ho, rfl, rfl⟩ hk
  | false =>
    obtain ⟨its, rv, p', hz⟩ := I1.list (show SqL X.K H1 a xs from hq)
    have B := begins_list a its.toArray
    rcases hv with ⟨ev, ek⟩ | ⟨ev, hk0, hk1⟩
    · subst ev ek
      cases r1 with
      | cons r rr =>
        cases rr
        cases r
        exact enum_begins1 B p'.isList fun h' he ho hsz hk => fin h' he ⟨_, ho, rfl, rfl⟩ hk
    · subst ev
      cases r1 with
      | cons r rr =>
        cases rr with
        | cons r2 rr =>
          cases rr
          cases r
          obtain ⟨tk, rfl⟩ := r2
          exact enum_begins B p'.isList hk0 hk1 fun h' he ho hsz hk => fin h' he ⟨_, ho, rfl, rfl⟩ hk
theorem walk_enumC {K : PySem.W.Frag} {t : Bool} {a : Addr} {k : Int} {xs : List V} : Walk (IteC K t a k) xs.length (fun H => SqX K t H a xs) (YPair (fun i => some (.int (k + (i : Nat)))) (fun i => xs[i]?)) :=
  ⟨fun i _ hi q => ⟨xs, xs[i], q, by simp [hi]⟩, fun _ q => ⟨xs, q, Nat.le_refl _⟩, fun i H v H' _ q y => by
    obtain ⟨T, x, h1, h2, h3, h4⟩ := y
    exact ⟨T, _, x, h1, h2, h3, rfl, h4 xs q⟩⟩
theorem walk_zipT {K : PySem.W.Frag} {a b : Addr} {xs ys : List V} {n : Nat} (hn : n = min xs.length ys.length) : Walk (RZ.ItzT K a b) n (fun H => SqT K H a xs ∧ SqT K H b ys) (YPair (fun i => xs[i]?) (fun i => ys[i]?)) := by
  subst hn
  refine ⟨fun i _ hi q => ?_, fun _ q => ⟨xs, ys, q.1, q.2, by omega⟩, fun i H v H' _ q y => ?_⟩
  · have h1 : i < xs.length := by omega
    have h2 : i < ys.length := by omega
    exact ⟨xs, ys, xs[i], ys[i], q.1, q.2, by simp [h1], by simp [h2]⟩
  · obtain ⟨T, x, z, h1, h2, h3, h4, h5⟩ := y
    exact ⟨T, x, z, h1, h2, h3, h4 xs q.1, h5 ys q.2⟩
end Ev
set_option Elab.async false
namespace Ev
open PySem

mutual
def eqD : D → D → Bool
  | .non, .non => true
  | .bl a, .bl b => a == b
  | .bl a, .int j => (if a then 1 else 0) == j
  | .int i, .bl b => i == (if b then 1 else 0)
  | .int i, .int j => i == j
  | .str x, .str y => x == y
  | .lst xs, .lst ys => eqDs xs ys
  | .tup _ xs, .tup _ ys => eqDs xs ys
  | _, _ => false
def eqDs : List D → List D → Bool
  | [], [] => true
  | x :: xs, y :: ys => eqD x y && eqDs xs ys
  | _, _ => false
end
/-- data of at most n levels -/
def shp : Nat → D → Bool
  | _, .non => true
  | _, .bl _ => true
  | _, .int _ => true
  | _, .str _ => true
  | n + 1, .lst ds => ds.all (shp n)
  | n + 1, .tup _ ds => ds.all (shp n)
  | _, _ => false
def flatD : D → Bool
  | .non => true
  | .bl _ => true
  | .int _ => true
  | .str _ => true
  | _ => false

abbrev G := List (List D) → List D → Res R
def vB (b : Bool) : Res R := .ok (.val (.bl b))
def vI (i : Int) : Res R := .ok (.val (.int i))
def gAdd : G := fun _ ds => match ds with
  | [.int i, .int j] => vI (i + j)
  | [.str a, .str b] => if a.length + b.length ≤ szL then .ok (.val (.str (a ++ b))) else .stuck
  | [.lst xs, .lst ys] => if xs.length + ys.length ≤ szL then .ok (.own (xs ++ ys)) else .stuck
  | [.tup k xs, .tup l ys] => if xs.length + ys.length ≤ szL then .ok (.val (.tup ((k || !sHd xs) && (l || !sHd ys) && sHd (xs ++ ys)) (xs ++ ys))) else .stuck
  | _ => .stuck
def gSub : G := fun _ ds => match ds with
  | [.int i, .int j] => vI (i - j)
  | _ => .stuck
def gMul : G := fun _ ds => match ds with
  | [.int i, .int j] => if okM i = true ∨ okM j = true then vI (i * j) else .stuck
  | [.lst xs, .int k] => if okP k = true ∧ xs.length * k.toNat ≤ szL then .ok (.own (List.replicate k.toNat xs).flatten) else .stuck
  | [.tup _ xs, .int k] => if xs.length = 1 ∧ 0 ≤ k ∧ k ≤ 1000 then .ok (.val (.tup false (List.replicate k.toNat xs).flatten)) else .stuck
  | _ => .stuck
def gDiv : G := fun _ ds => match ds with
  | [.int i, .int j] => if 0 < j ∧ j < 1073741824 then vI (i / j) else .stuck
  | _ => .stuck
def gMod : G := fun _ ds => match ds with
  | [.int i, .int j] => if 0 < j then vI (i % j) else .stuck
  | _ => .stuck
def gPow : G := fun _ ds => match ds with
  | [.int i, .int j] => if 0 ≤ j ∧ j ≤ 1000000 ∧ i.natAbs < 2 ^ 64 then vI (i ^ j.toNat) else .stuck
  | _ => .stuck
def gNeg : G := fun _ ds => match ds with
  | [.int i] => vI (-i)
  | _ => .stuck
def gEq (neg : Bool) : G := fun _ ds => match ds with
  | [a, b] => if shp 20 a && shp 20 b then vB (if neg then !eqD a b else eqD a b) else .stuck
  | _ => .stuck
def gLt : G := fun _ ds => match ds with
  | [.int i, .int j] => vB (decide (i < j))
  | [.str a, .str b] => vB (decide (a.cps.toList < b.cps.toList))
  | _ => .stuck
def gLe : G := fun _ ds => match ds with
  | [.int i, .int j] => vB (decide (i ≤ j))
  | _ => .stuck
def gGt : G := fun _ ds => match ds with
  | [.int i, .int j] => vB (decide (j < i))
  | _ => .stuck
def gGe : G := fun _ ds => match ds with
  | [.int i, .int j] => vB (decide (j ≤ i))
  | _ => .stuck
def gIsN (neg : Bool) : G := fun _ ds => match ds with
  | [a] => match a with
    | .non => vB (!neg)
    | .cell _ => vB neg
    | .bl _ => vB neg
    | .int _ => vB neg
    | .str _ => vB neg
    | .tup _ _ => vB neg
    | .lst _ => vB neg
    | .ins _ _ => vB neg
    | .scr _ => vB neg
    | .dic _ => .stuck
  | _ => .stuck
/-- e is True -/
def gIsB (neg k : Bool) : G := fun _ ds => match ds with
  | [.bl b] => vB (if neg then !(b == k) else b == k)
  | _ => .stuck
def gIn (neg : Bool) : G := fun _ ds => match ds with
  | [a, .lst xs] => if shp 20 a && shp 20 (.lst xs) then vB (let b := xs.any fun z => eqD z a; if neg then !b else b) else .stuck
  | [a, .tup _ xs] => if flatD a && xs.all flatD then vB (let b := xs.any fun z => eqD z a; if neg then !b else b) else .stuck
  | [.str a, .str b] => if a.cps.size = 1 then vB (let c := decide (a.cps.toList.headD 0 ∈ b.cps.toList); if neg then !c else c) else .stuck
  | _ => .stuck
def ixN (n : Nat) (i : Int) : Option Nat := if 0 ≤ i then (if i < n then some i.toNat else none) else if -(n : Int) ≤ i then some (i + n).toNat else none
def atI {α : Type} (xs : List α) (i : Int) : Option α := (ixN xs.length i).bind fun j => xs[j]?
def gIx : G := fun st ds => match ds with
  | [.lst xs, .int i] => (optR (atI xs i)).bind fun d => .ok (.val d)
  | [.tup _ xs, .int i] => (optR (atI xs i)).bind fun d => .ok (.val d)
  | [.cell n, .int i] => (optR st[n]?).bind fun xs => (optR (atI xs i)).bind fun d => .ok (.val d)
  | _ => .stuck
def sIx (n d : Nat) : Option Int → Nat
  | none => d
  | some v => if v < 0 then (v + (n : Int)).toNat else min v.toNat n
def cutD (xs : List D) (lo hi : Option Int) : List D := (xs.drop (sIx xs.length 0 lo)).take (sIx xs.length xs.length hi - sIx xs.length 0 lo)
def slD (d : D) (lo hi : Option Int) : Res R := match d with
  | .scr is => .ok (.own (cutD (is.map .int) lo hi))
  | .lst xs => .ok (.own (cutD xs lo hi))
  | .tup k xs => .ok (.val (.tup ((k || !sHd xs) && sHd (cutD xs lo hi)) (cutD xs lo hi)))
  | _ => .stuck
def part1 : Option SE → Cl → S → Res (Option Int × S)
  | none, _, s => .ok (none, s)
  | some f, C, s => (f C s).bind fun (r, s1) => (int1 r).bind fun i => .ok (some i, s1)
/-- e[lo:hi] -/
def slF (f : SE) (lo hi : Option SE) : SE := fun C s => (f C s).bind fun (r, s1) => (part1 lo C s1).bind fun (l, s2) => (part1 hi C s2).bind fun (u, s3) => (pk s3.ρ (opd r)).bind fun d => (slD d l u).bind fun r => .ok (r, s3)
def gRev : G := fun _ ds => match ds with
  | [.lst xs] => .ok (.own xs.reverse)
  | _ => .stuck

def gLen : G := fun st ds => match ds with
  | [.lst xs] => vI xs.length
  | [.tup _ xs] => vI xs.length
  | [.str z] => if z.length ≤ szL then vI z.length else .stuck
  | [.cell n] => (optR st[n]?).bind fun xs => vI xs.length
  | _ => .stuck
def gAbs : G := fun _ ds => match ds with
  | [.int i] => vI (if i < 0 then -i else i)
  | _ => .stuck
def gInt : G := fun _ ds => match ds with
  | [.int i] => vI i
  | [.bl b] => vI (if b then 1 else 0)
  | _ => .stuck
def bl1 : D → Option Bool
  | .bl b => some b
  | _ => none
def i1 : D → Option Int
  | .int i => some i
  | _ => none
def s1 : D → Option Str
  | .str s => some s
  | _ => none
/-- the least, the greatest of some ints -/
def minI : List Int → Int
  | [] => 0
  | [x] => x
  | x :: y :: r => if minI (y :: r) < x then minI (y :: r) else x
def maxI : List Int → Int
  | [] => 0
  | [x] => x
  | x :: y :: r => if x < maxI (y :: r) then maxI (y :: r) else x
def gMin2 : G := fun _ ds => match ds with
  | [.lst xs] => (optR (xs.mapM i1)).bind fun is => if 0 < is.length then vI (minI is) else .stuck
  | [.int i, .int j] => vI (if j < i then j else i)
  | _ => .stuck
def gMax2 : G := fun _ ds => match ds with
  | [.lst xs] => (optR (xs.mapM i1)).bind fun is => if 0 < is.length then vI (maxI is) else .stuck
  | [.int i, .int j] => vI (if j > i then j else i)
  | _ => .stuck
def gList : G := fun _ ds => match ds with
  | [.lst xs] => .ok (.own xs)
  | [.tup _ xs] => .ok (.own xs)
  | _ => .stuck
def gTuple : G := fun _ ds => match ds with
  | [.lst xs] => .ok (.val (.tup (sHd xs) xs))
  | [.tup k xs] => .ok (.val (.tup k xs))
  | _ => .stuck
def gAll : G := fun _ ds => match ds with
  | [.lst xs] => (optR (xs.mapM bl1)).bind fun bs => vB (bs.all id)
  | _ => .stuck
def gAny : G := fun _ ds => match ds with
  | [.lst xs] => (optR (xs.mapM bl1)).bind fun bs => vB (bs.any id)
  | _ => .stuck
def gSum : G := fun _ ds => match ds with
  | [.lst xs] => (optR (xs.mapM i1)).bind fun is => vI is.sum
  | _ => .stuck
def tyN : D → String
  | .non => "NoneType"
  | .bl _ => "bool"
  | .int _ => "int"
  | .str _ => "str"
  | .tup _ _ => "tuple"
  | .lst _ => "list"
  | .cell _ => "list"
  | _ => ""
def tySub (a b : String) : Bool := a == b || (a == "bool" && b == "int")
/-- isinstance(x, (list, tuple)); isinstance(x, T) of a written T -/
def isT (d : D) (t : String) : Bool := tySub (tyN d) t
def plainD : D → Bool
  | .ins _ _ => false
  | .dic _ => false
  | .scr _ => false
  | _ => true
def gIsi (ts : List String) : G := fun _ ds => match ds with
  | [a] => if plainD a then vB (ts.any (isT a)) else .stuck
  | _ => .stuck
def insS (x : Str) : List Str → List Str
  | [] => [x]
  | y :: ys => if x.cps.toList < y.cps.toList then x :: y :: ys else y :: insS x ys
def sortS : List Str → List Str
  | [] => []
  | x :: xs => insS x (sortS xs)
def insI (x : Int) : List Int → List Int
  | [] => [x]
  | y :: ys => if x ≤ y then x :: y :: ys else y :: insI x ys
def sortI : List Int → List Int
  | [] => []
  | x :: xs => insI x (sortI xs)
/-- sorted of texts or of ints -/
def gSorted : G := fun _ ds => match ds with
  | [.lst xs] => match xs.mapM s1 with
    | some zs => if zs.length < 64 then .ok (.own ((sortS zs).map .str)) else .stuck
    | none => (optR (xs.mapM i1)).bind fun is => .ok (.own ((sortI is).map .int))
  | [.tup _ xs] => (optR (xs.mapM i1)).bind fun is => .ok (.own ((sortI is).map .int))
  | _ => .stuck
/-- the members of a list of ints, ascending -/
def insU (x : Int) : List Int → List Int
  | [] => [x]
  | y :: ys => if x < y then x :: y :: ys else if x = y then y :: ys else y :: insU x ys
def setI : List Int → List Int
  | [] => []
  | x :: xs => insU x (setI xs)
/-- sorted(set(ints)) -/
def gSS : G := fun _ ds => match ds with
  | [.lst xs] => (optR (xs.mapM i1)).bind fun is => if is.length < 64 then .ok (.own ((setI is).map .int)) else .stuck
  | _ => .stuck
def gIndexT : G := fun _ ds => match ds with
  | [.tup true xs, .str z] => (optR (xs.mapM s1)).bind fun zs => (optR (zs.findIdx? (· == z))).bind fun j => vI (j : Int)
  | _ => .stuck
/-- x.pop(e), x a list of the frame's own -/
def popF (i : Nat) (f : SE) : SE := fun C s => if ownAt s.ρ i = true then (f C s).bind fun (r, s1) => (int1 r).bind fun k => match s1.ρ[i]? with
  | some (some (.own ds)) => if okP k = true then (optR (ixN ds.length k)).bind fun j => (optR ds[j]?).bind fun d => .ok (.val d, ⟨s1.ρ.set i (some (.own (ds.eraseIdx j))), s1.st⟩) else .stuck
  | _ => .stuck
  else .stuck
/-- x.extend(e), x a list of the frame's own -/
def extF (i : Nat) (f : SE) : SS := fun C s => if ownAt s.ρ i = true then (f C s).bind fun (r, s1) => (frz r s1).bind fun (d, s2) => match d with
  | .lst zs => match s2.ρ[i]? with
    | some (some (.own ds)) => if ds.length + zs.length ≤ szL then .ok (.nx, ⟨s2.ρ.set i (some (.own (ds ++ zs))), s2.st⟩) else .stuck
    | _ => .stuck
  | _ => .stuck
  else .stuck
/-- x[e] = v, x a list of the frame's own or a shared one -/
def setIxF (i : Nat) (f v : SE) : SS := fun C s => (v C s).bind fun (r, s1) => (frz r s1).bind fun (d, s2) => if defAt s2.ρ i = true then (f C s2).bind fun (q, s3) => (int1 q).bind fun k => match s3.ρ[i]? with
  | some (some (.own ds)) => (optR (ixN ds.length k)).bind fun j => .ok (.nx, ⟨s3.ρ.set i (some (.own (ds.set j d))), s3.st⟩)
  | some (some (.val (.cell n))) => (optR s3.st[n]?).bind fun ds => (optR (ixN ds.length k)).bind fun j => .ok (.nx, ⟨s3.ρ, s3.st.set n (ds.set j d)⟩)
  | _ => .stuck
  else .stuck
/-- x += e (ints) -/
def augF (i : Nat) (f : SE) : SS := fun C s => if defAt s.ρ i = true then (f C s).bind fun (r, s1) => (int1 r).bind fun k => match s1.ρ[i]? with
  | some (some (.val (.int j))) => .ok (.nx, ⟨s1.ρ.set i (some (.val (.int (j + k)))), s1.st⟩)
  | _ => .stuck
  else .stuck
/-- a list of one's own that will be shared from now on -/
def cellF (f : SE) : SE := fun C s => (f C s).bind fun (r, s1) => match r with
  | .own ds => .ok (.val (.cell s1.st.length), ⟨s1.ρ, s1.st ++ [ds]⟩)
  | _ => .stuck
/-- list or other -/
def opOr (f g : SE) : SE := fun C s => (f C s).bind fun (r, s1) => (pk s1.ρ (opd r)).bind fun d => match d with
  | .lst ds => if ds.isEmpty then g C s1 else .ok (r, s1)
  | _ => .stuck
def slfAt (ρ : List (Option M)) (cc : Nat) : Bool := match ρ[0]? with
  | some (some (M.slf c)) => c == cc
  | _ => false
def sfF (cc n j : Nat) : SE := fun C s => if slfAt s.ρ cc = true then varF (n + j) C s else .stuck
def sfSet (cc n j : Nat) (f : SE) : SS := fun C s => (f C s).bind fun (r, s1) => (mOf r s1).bind fun (m, s2) => if slfAt s2.ρ cc = true then (sto (n + j) m s2.ρ).bind fun ρ => .ok (.nx, ⟨ρ, s2.st⟩) else .stuck
def sfApp (cc n j : Nat) (f : SE) : SS := fun C s => if slfAt s.ρ cc = true then appF (n + j) f C s else .stuck
def fldsR : List (Option M) → Res (List D)
  | [] => .ok []
  | some (M.val d) :: r => (fldsR r).bind fun ds => .ok (d :: ds)
  | some (M.own es) :: r => (fldsR r).bind fun ds => .ok (.lst es :: ds)
  | _ => .stuck
/-- a constructor's body: the class, the number of its fields, the frame's slots -/
def runI (cc nf n : Nat) (body : SS) (C : Cl) (ds : List D) (st : List (List D)) : Res (M × List (List D)) :=
  (body C ⟨(some (.slf cc) :: (ds.map (fun d => some (.val d)) ++ List.replicate (n - (ds.length + 1)) none)) ++ List.replicate nf none, st⟩).bind fun (o, s) => match o with
    | .nx => (fldsR (s.ρ.drop n)).bind fun fs => .ok (.val (.ins cc fs), s.st)
    | _ => .stuck
/-- list(range(..)) -/
def rgOk (a b : Int) : Bool := okR a && okR b && Nat.ble (b - a).toNat 16777216
def lr1F (f : SE) : SE := fun C s => (f C s).bind fun (r, s1) => (int1 r).bind fun j => if rgOk 0 j = true then .ok (.own (rngL 0 (j - 0).toNat 1), s1) else .stuck
def lr2F (f k : SE) : SE := fun C s => (f C s).bind fun (r, s1) => (int1 r).bind fun i => (k C s1).bind fun (q, s2) => (int1 q).bind fun j => if rgOk i j = true then .ok (.own (rngL i (j - i).toNat 1), s2) else .stuck
end Ev
set_option Elab.async false
set_option maxRecDepth 100000
set_option maxHeartbeats 1000000
namespace Ev
open PySem PySem.Spec PyProof.Rows L2
set_option autoImplicit false
section
variable {g : Cg} {w w' : W}

theorem RepP.int {i : Int} {x : V} (h : RepP g w (.int i) x) : x = .int i := by
  rcases h with h | ⟨_, _, _, _, e, _⟩
  · exact h
  · cases e
theorem RepP.bl {b : Bool} {x : V} (h : RepP g w (.bl b) x) : x = .bl b := by
  rcases h with h | ⟨_, _, _, _, e, _⟩
  · exact h
  · cases e
theorem RepP.str {b : Str} {x : V} (h : RepP g w (.str b) x) : x = .str b ∧ PyData.strOk b = true := by
  rcases h with h | ⟨_, _, _, _, e, _⟩
  · unfold Rep at h
    exact h
  · cases e
theorem RepP.lst {ds : List D} {x : V} (h : RepP g w (.lst ds) x) : ∃ a vs, x = .ref a ∧ w.H a = some (.lst vs) ∧ RepL g w ds vs := by
  rcases h with h | ⟨a, vs, ds', e1, e2, hH, hr⟩
  · unfold Rep at h
    obtain ⟨a, vs, e, n, r⟩ := h
    exact ⟨a, vs, e, n.2, r⟩
  · cases e2
    exact ⟨a, vs, e1, hH, hr⟩
theorem RepP.tup {k : Bool} {ds : List D} {x : V} (h : RepP g w (.tup k ds) x) : ∃ a vs, x = .ref a ∧ NT g.K w k a vs ∧ RepL g w ds vs ∧ Rep g w (.tup k ds) x := by
  rcases h with h | ⟨_, _, _, _, e, _⟩
  · have h' := h
    unfold Rep at h
    obtain ⟨a, vs, e, n, r⟩ := h
    exact ⟨a, vs, e, n, r, h'⟩
  · cases e
theorem rep_less {k k' : Bool} {ds : List D} {x : V} (hk : k' = true → k = true) (h : Rep g w (.tup k ds) x) : Rep g w (.tup k' ds) x := by
  cases k' with
  | true => rw [hk rfl] at h; exact h
  | false =>
    unfold Rep at h ⊢
    obtain ⟨a, vs, e, n, r⟩ := h
    exact ⟨a, vs, e, n.weak, r⟩
theorem rep_weak {k : Bool} {ds : List D} {x : V} (h : Rep g w (.tup k ds) x) : Rep g w (.tup false ds) x := by
  unfold Rep at h ⊢
  obtain ⟨a, vs, e, n, r⟩ := h
  exact ⟨a, vs, e, n.weak, r⟩
theorem RepP.cell {n : Nat} {x : V} (h : RepP g w (.cell n) x) : ∃ a, x = .ref a ∧ w.μ[n]? = some a := by
  rcases h with h | ⟨_, _, _, _, e, _⟩
  · unfold Rep at h
    exact h
  · cases e
theorem pps1 {d : D} {xs : List V} (h : RepPs g w [d] xs) : ∃ x, xs = [x] ∧ RepP g w d x := by
  unfold RepPs at h
  obtain ⟨x, r, rfl, h1, h2⟩ := h
  unfold RepPs at h2
  subst h2
  exact ⟨x, rfl, h1⟩
theorem pps2 {d e : D} {xs : List V} (h : RepPs g w [d, e] xs) : ∃ x y, xs = [x, y] ∧ RepP g w d x ∧ RepP g w e y := by
  unfold RepPs at h
  obtain ⟨x, r, rfl, h1, h2⟩ := h
  obtain ⟨y, rfl, h3⟩ := pps1 h2
  exact ⟨x, y, rfl, h1, h3⟩
theorem pps0 {xs : List V} (h : RepPs g w [] xs) : xs = [] := h
/-- the continuation of an operation -/
abbrev Kn (g : Cg) (w : W) (Q : VK) (m : R) : Prop := ∀ v w', Ext w w' → RepN g w w' m v → Q v w'.H
theorem Kn.val {Q : VK} {d : D} {v : V} (k : Kn g w Q (.val d)) (r : Rep g w d v) : Q v w.H := k v w (Ext.refl w) r
theorem Kn.lst {st : List (List D)} {Q : VK} {ds : List D} {vs : List V} (F : Wf g w st) (k : Kn g w Q (.own ds)) (r : RepL g w ds vs) : ∀ p, w.H p = none → Q (.ref p) (upd w.H p (.lst vs)) :=
  fun p hp => k (.ref p) _ (ext_new hp) (new_lst F.fz hp r)
theorem Kn.tupF {st : List (List D)} {Q : VK} {k : Bool} {ds : List D} {vs : List V} (F : Wf g w st) (kn : Kn g w Q (.val (.tup k ds))) (r : RepL g w ds vs) : ∀ p o, w.H p = none → o.dict = none → Q (.ref p) (upd w.H p (.frz o (.tup vs))) :=
  fun p o hp hd => kn (.ref p) _ (ext_newF hp) (new_tupF F.fz hp hd r)
theorem Kn.tup {st : List (List D)} {Q : VK} {ds : List D} {vs : List V} (F : Wf g w st) (k : Kn g w Q (.val (.tup false ds))) (r : RepL g w ds vs) : ∀ p, w.H p = none → Q (.ref p) (upd w.H p (.tup vs)) :=
  fun p hp => k (.ref p) _ (ext_newF hp) (new_tup F.fz hp r)

mutual
def toPy : D → PyData
  | .non => .none
  | .bl b => .bool b
  | .int i => .int i
  | .str s => .str s
  | .lst ds => .list (toPys ds)
  | .tup _ ds => .tuple (toPys ds)
  | _ => .none
def toPys : List D → List PyData
  | [] => []
  | d :: ds => toPy d :: toPys ds
end
theorem toPys_map : ∀ ds : List D, toPys ds = ds.map toPy
  | [] => rfl
  | d :: ds => by
    unfold toPys
    rw [toPys_map ds, List.map_cons]
mutual
theorem eqv_toPy : ∀ (n : Nat) (a b : D), shp n a = true → shp n b = true → PyData.eqv (toPy a) (toPy b) = eqD a b
  | n, .non, b, _, hb => by cases b <;> first | rfl | (cases n <;> cases hb)
  | n, .bl _, b, _, hb => by cases b <;> first | rfl | (cases n <;> cases hb)
  | n, .int _, b, _, hb => by cases b <;> first | rfl | (cases n <;> cases hb)
  | n, .str _, b, _, hb => by cases b <;> first | rfl | (cases n <;> cases hb)
  | 0, .lst _, _, ha, _ => by cases ha
  | 0, .tup _ _, _, ha, _ => by cases ha
  | n + 1, .lst xs, b, ha, hb => by
    cases b with
    | lst ys => exact eqvs_toPy n xs ys (by simpa [shp] using ha) (by simpa [shp] using hb)
    | _ => first | rfl | cases hb
  | n + 1, .tup _ xs, b, ha, hb => by
    cases b with
    | tup _ ys => exact eqvs_toPy n xs ys (by simpa [shp] using ha) (by simpa [shp] using hb)
    | _ => first | rfl | cases hb
  | n, .dic _, _, ha, _ => by cases n <;> cases ha
  | n, .ins _ _, _, ha, _ => by cases n <;> cases ha
  | n, .cell _, _, ha, _ => by cases n <;> cases ha
  | n, .scr _, _, ha, _ => by cases n <;> cases ha
theorem eqvs_toPy : ∀ (n : Nat) (as bs : List D), (∀ x ∈ as, shp n x = true) → (∀ x ∈ bs, shp n x = true) → PyData.eqvAll (toPys as) (toPys bs) = eqDs as bs
  | n, [], [], _, _ => rfl
  | n, [], _ :: _, _, _ => rfl
  | n, _ :: _, [], _, _ => rfl
  | n, a :: as, b :: bs, ha, hb => by
    show (PyData.eqv (toPy a) (toPy b) && PyData.eqvAll (toPys as) (toPys bs)) = (eqD a b && eqDs as bs)
    rw [eqv_toPy n a b (ha a List.mem_cons_self) (hb b List.mem_cons_self), eqvs_toPy n as bs (fun x hx => ha x (List.mem_cons_of_mem _ hx)) (fun x hx => hb x (List.mem_cons_of_mem _ hx))]
end
mutual
theorem dp_toPy : ∀ (n : Nat) (d : D) (v : V), shp n d = true → Rep g w d v → Dp g.K w.H v (toPy d) ∧ PyData.canLay0 (toPy d) = true ∧ PyData.depth (toPy d) ≤ n
  | n, .non, v, _, r => by
    unfold Rep at r
    subst r
    exact ⟨.non, rfl, Nat.zero_le _⟩
  | n, .bl b, v, _, r => by
    unfold Rep at r
    subst r
    exact ⟨.bl b, rfl, Nat.zero_le _⟩
  | n, .int b, v, _, r => by
    unfold Rep at r
    subst r
    exact ⟨.int b, rfl, Nat.zero_le _⟩
  | n, .str b, v, _, r => by
    unfold Rep at r
    obtain ⟨rfl, h⟩ := r
    exact ⟨.str b, by simpa [toPy, PyData.canLay0] using h, Nat.zero_le _⟩
  | 0, .lst _, _, ha, _ => by cases ha
  | 0, .tup _ _, _, ha, _ => by cases ha
  | n + 1, .lst xs, v, ha, r => by
    unfold Rep at r
    obtain ⟨a, vs, rfl, nl, rl⟩ := r
    obtain ⟨h1, h2, h3⟩ := dps_toPy n xs vs (by simpa [shp] using ha) rl
    exact ⟨.lst nl.sq h1, by simpa [toPy, PyData.canLay0] using h2, by simpa [toPy, PyData.depth] using h3⟩
  | n + 1, .tup _ xs, v, ha, r => by
    unfold Rep at r
    obtain ⟨a, vs, rfl, nl, rl⟩ := r
    obtain ⟨h1, h2, h3⟩ := dps_toPy n xs vs (by simpa [shp] using ha) rl
    exact ⟨.tup nl.sq h1, by simpa [toPy, PyData.canLay0] using h2, by simpa [toPy, PyData.depth] using h3⟩
  | n, .dic _, _, ha, _ => by cases n <;> cases ha
  | n, .ins _ _, _, ha, _ => by cases n <;> cases ha
  | n, .cell _, _, ha, _ => by cases n <;> cases ha
  | n, .scr _, _, ha, _ => by cases n <;> cases ha
theorem dps_toPy : ∀ (n : Nat) (ds : List D) (vs : List V), (∀ x ∈ ds, shp n x = true) → RepL g w ds vs → DpAll g.K w.H vs (toPys ds) ∧ PyData.canLayAll0 (toPys ds) = true ∧ PyData.depthAll (toPys ds) ≤ n
  | n, [], vs, _, r => by
    unfold RepL at r
    subst r
    exact ⟨.nil, rfl, Nat.zero_le _⟩
  | n, d :: ds, vs, h, r => by
    unfold RepL at r
    obtain ⟨v, t, rfl, h1, h2⟩ := r
    obtain ⟨a1, a2, a3⟩ := dp_toPy n d v (h d List.mem_cons_self) h1
    obtain ⟨b1, b2, b3⟩ := dps_toPy n ds t (fun x hx => h x (List.mem_cons_of_mem _ hx)) h2
    exact ⟨.cons a1 b1, by simp [toPys, PyData.canLayAll0, a2, b2], by simp only [toPys, PyData.depthAll]; omega⟩
end
theorem RepP.dp {d : D} {v : V} (h : shp 20 d = true) (r : RepP g w d v) : Dp g.K w.H v (toPy d) ∧ SeqAt.shaped (toPy d) = true := by
  have fin : PyData.canLay0 (toPy d) = true → PyData.depth (toPy d) ≤ 20 → SeqAt.shaped (toPy d) = true := fun a b => by
    unfold SeqAt.shaped
    rw [a, decide_eq_true (by omega : PyData.depth (toPy d) ≤ 64)]
    rfl
  rcases r with r | ⟨a, vs, ds, rfl, rfl, hH, hr⟩
  · obtain ⟨h1, h2, h3⟩ := dp_toPy 20 d v h r
    exact ⟨h1, fin h2 h3⟩
  · obtain ⟨h1, h2, h3⟩ := dps_toPy 19 ds vs (by simpa [shp] using h) hr
    exact ⟨.lst (SqL.of hH) h1, fin (by simpa [toPy, PyData.canLay0] using h2) (by simp only [toPy, PyData.depth]; omega)⟩

/-- a two-place rule as one over the operands' list -/
def r2 (r : R2) : List V → Hp → VK → Prop := fun xs H Q => match xs with
  | [x, y] => r x y H Q
  | _ => False
variable {X : Cx}
theorem RepL.nil_iff {ds : List D} {vs : List V} (h : RepL g w ds vs) : ds = [] ↔ vs = [] := by
  have e := h.length
  constructor
  · intro q
    subst q
    exact List.eq_nil_of_length_eq_zero e.symm
  · intro q
    subst q
    exact List.eq_nil_of_length_eq_zero e
theorem shp_up : ∀ {n : Nat} {d : D}, shp n d = true → shp (n + 1) d = true := by
  intro n
  induction n with
  | zero =>
    intro d h
    cases d <;> first | rfl | cases h
  | succ n ih =>
    intro d h
    cases d <;> first | rfl | cases h | skip
    all_goals
      rw [shp, List.all_eq_true] at h ⊢
      exact fun x hx => ih (h x hx)
theorem strOk_append {a b : Str} (ha : PyData.strOk a = true) (hb : PyData.strOk b = true) : PyData.strOk (a ++ b) = true := by
  unfold PyData.strOk at *
  show (a.cps ++ b.cps).all _ = true
  rw [Array.all_append, ha, hb]
  rfl
def rCatF (K : PySem.W.Frag) : R2 := fun x y H Q => ∃ a b xs ys, x = .ref a ∧ y = .ref b ∧ SqT K H a xs ∧ SqT K H b ys ∧ xs.length + ys.length ≤ sizeLine ∧
  (xs = [] → Q (.ref b) H) ∧ (xs ≠ [] → ys = [] → Q (.ref a) H) ∧ (xs ≠ [] → ys ≠ [] → ∀ p o, H p = none → o.dict = none → Q (.ref p) (upd H p (.frz o (.tup (xs ++ ys)))))
theorem op_catF : OpR X (binaryOp .Add) (rCatF X.K) := by
  intro pins s σ H x y v u Q I rx ry h
  obtain ⟨a, b, xs, ys, rfl, rfl, ha, hb, hz, q0, q1, q2⟩ := h
  cases rx
  cases ry
  obtain ⟨its, r1, p1, _⟩ := I.tuple ha
  obtain ⟨its2, r2, p2, _⟩ := I.tuple hb
  by_cases hx : xs = []
  · subst hx
    cases r1
    exact cat_tup0 p1 p2 ⟨.ref b, H, I, rfl, q0 rfl⟩
  · refine HT.cat_tup p1 p2 (fun z => hx (r1.nil_iff.mp z)) (fun z => ⟨.ref a, H, I, rfl, q1 hx (r2.nil_iff.mp z)⟩) (fun z => ?_) (by rw [← r1.length, ← r2.length]; exact hz)
    refine ⟨.ref s.heap.objs.size, _, I.laid (t' := s.toks) (o := .frz { cls := .type "tuple", data := .seq (its ++ its2).toArray } (.tup (xs ++ ys))) (fun b ob q => Heap.get?_push_of_some _ q) (Nat.le_refl _) ?_, rfl, q2 hx (fun w => z (r2.nil_iff.mpr w)) _ _ (I.hok.fresh (Nat.le_refl _)) rfl⟩
    exact ⟨Heap.get?_push_size _ rfl, (show ObjOk X.prog X.w _ _ _ (.tup (xs ++ ys)) from ⟨by rw [List.length_append]; exact hz, _, r1.append r2, IsTup.new _ _⟩)⟩
def rAddA (K : PySem.W.Frag) : R2 := fun x y H Q => (rI0 (fun i j => V.int (i + j))) x y H Q ∨ ((fun x y H Q => ∃ i j, x = .str i ∧ y = .str j ∧ i.length + j.length ≤ sizeLine ∧ Q (.str (i ++ j)) H) : R2) x y H Q ∨ rCat x y H Q ∨ rCatF K x y H Q
theorem op_addA : OpR X (binaryOp .Add) (rAddA X.K) := op_add.or (op_add_str.or (op_cat.or op_catF))
theorem vn_add : VN g gAdd (r2 (rAddA g.K)) := by
  intro w st ds xs Q F rp h
  unfold gAdd at h
  split at h
  · obtain ⟨x, y, rfl, rx, ry⟩ := pps2 rp
    exact .inl ⟨_, _, rx.int, ry.int, Kn.val (g := g) (d := .int _) h rfl⟩
  · obtain ⟨x, y, rfl, rx, ry⟩ := pps2 rp
    obtain ⟨hz, h⟩ := Res.sat_ite _ _ h
    exact .inr (.inl ⟨_, _, rx.str.1, ry.str.1, hz, Kn.val (g := g) (d := .str _) h ⟨rfl, strOk_append rx.str.2 ry.str.2⟩⟩)
  · obtain ⟨x, y, rfl, rx, ry⟩ := pps2 rp
    obtain ⟨hz, h⟩ := Res.sat_ite _ _ h
    obtain ⟨a, vs, rfl, ha, ra⟩ := rx.lst
    obtain ⟨b, us, rfl, hb, rb⟩ := ry.lst
    exact .inr (.inr (.inl ⟨a, b, vs, us, rfl, rfl, ha, hb, by rw [← ra.length, ← rb.length]; exact hz, Kn.lst F h (ra.append rb)⟩))
  · rename_i k ys l zs
    obtain ⟨x, y, rfl, rx, ry⟩ := pps2 rp
    obtain ⟨hz, h⟩ := Res.sat_ite _ _ h
    obtain ⟨a, vs, rfl, na, ra, rA⟩ := rx.tup
    obtain ⟨b, us, rfl, nb, rb, rB⟩ := ry.tup
    refine .inr (.inr (.inr ⟨a, b, vs, us, rfl, rfl, na.sq, nb.sq, by rw [← ra.length, ← rb.length]; exact hz, fun e => ?_, fun e1 e2 => ?_, fun e1 e2 => ?_⟩))
    · rw [← ra.nil_iff] at e
      subst e
      exact Kn.val h (rep_less (fun z => by
        simp only [List.nil_append, Bool.and_eq_true, Bool.or_eq_true, Bool.not_eq_true'] at z
        rcases z.1.2 with q | q
        · exact q
        · rw [z.2] at q; cases q) rB)
    · rw [← rb.nil_iff] at e2
      subst e2
      rw [List.append_nil] at h
      exact Kn.val h (rep_less (fun z => by
        simp only [Bool.and_eq_true, Bool.or_eq_true, Bool.not_eq_true'] at z
        rcases z.1.1 with q | q
        · exact q
        · rw [z.2] at q; cases q) rA)
    · exact Kn.tupF F h (ra.append rb)
  · exact h.elim
/-- two ints -/
theorem vn_rI {f : List D → Res R} {Cd : Int → Int → Prop} {k : Int → Int → V} {kd : Int → Int → D} (hk : ∀ (w : W) i j, Rep g w (kd i j) (k i j)) (hf : ∀ ds P, (f ds).Sat P → ∃ i j, ds = [.int i, .int j] ∧ Cd i j ∧ P (.val (kd i j))) :
    VN g (fun _ ds => f ds) (r2 (rI Cd k)) := by
  intro w st ds xs Q F rp h
  obtain ⟨i, j, rfl, hc, h2⟩ := hf ds _ h
  obtain ⟨x, y, rfl, rx, ry⟩ := pps2 rp
  exact ⟨i, j, rx.int, ry.int, hc, Kn.val h2 (hk w i j)⟩
theorem vn_rI0 {f : List D → Res R} {k : Int → Int → V} {kd : Int → Int → D} (hk : ∀ (w : W) i j, Rep g w (kd i j) (k i j)) (hf : ∀ ds P, (f ds).Sat P → ∃ i j, ds = [.int i, .int j] ∧ P (.val (kd i j))) :
    VN g (fun _ ds => f ds) (r2 (rI0 k)) := by
  intro w st ds xs Q F rp h
  obtain ⟨i, j, rfl, h2⟩ := hf ds _ h
  obtain ⟨x, y, rfl, rx, ry⟩ := pps2 rp
  exact ⟨i, j, rx.int, ry.int, Kn.val h2 (hk w i j)⟩
theorem vn_sub : VN g gSub (r2 (rI0 fun i j => .int (i - j))) := vn_rI0 (f := gSub []) (kd := fun i j => .int (i - j)) (fun _ _ _ => rfl) fun ds P h => by
  unfold gSub at h
  split at h
  · exact ⟨_, _, rfl, h⟩
  · exact h.elim
theorem vn_div : VN g gDiv (r2 (rI CDiv fun i j => .int (i / j))) := vn_rI (f := gDiv []) (kd := fun i j => .int (i / j)) (fun _ _ _ => rfl) fun ds P h => by
  unfold gDiv at h
  split at h
  · obtain ⟨hc, h⟩ := Res.sat_ite _ _ h
    exact ⟨_, _, rfl, hc, h⟩
  · exact h.elim
theorem vn_mod : VN g gMod (r2 (rI (fun _ j => 0 < j) fun i j => .int (i % j))) := vn_rI (f := gMod []) (kd := fun i j => .int (i % j)) (fun _ _ _ => rfl) fun ds P h => by
  unfold gMod at h
  split at h
  · obtain ⟨hc, h⟩ := Res.sat_ite _ _ h
    exact ⟨_, _, rfl, hc, h⟩
  · exact h.elim
theorem vn_pow : VN g gPow (r2 (rI CPow fun i j => .int (i ^ j.toNat))) := vn_rI (f := gPow []) (kd := fun i j => .int (i ^ j.toNat)) (fun _ _ _ => rfl) fun ds P h => by
  unfold gPow at h
  split at h
  · obtain ⟨hc, h⟩ := Res.sat_ite _ _ h
    exact ⟨_, _, rfl, hc, h⟩
  · exact h.elim
theorem vn_le : VN g gLe (r2 (rI0 fun i j => .bl (decide (i ≤ j)))) := vn_rI0 (f := gLe []) (kd := fun i j => .bl (decide (i ≤ j))) (fun _ _ _ => rfl) fun ds P h => by
  unfold gLe at h
  split at h
  · exact ⟨_, _, rfl, h⟩
  · exact h.elim
theorem vn_gt : VN g gGt (r2 (rI0 fun i j => .bl (decide (j < i)))) := vn_rI0 (f := gGt []) (kd := fun i j => .bl (decide (j < i))) (fun _ _ _ => rfl) fun ds P h => by
  unfold gGt at h
  split at h
  · exact ⟨_, _, rfl, h⟩
  · exact h.elim
theorem vn_ge : VN g gGe (r2 (rI0 fun i j => .bl (decide (j ≤ i)))) := vn_rI0 (f := gGe []) (kd := fun i j => .bl (decide (j ≤ i))) (fun _ _ _ => rfl) fun ds P h => by
  unfold gGe at h
  split at h
  · exact ⟨_, _, rfl, h⟩
  · exact h.elim
def rLtA : R2 := fun x y H Q => (rI0 (fun i j => V.bl (decide (i < j)))) x y H Q ∨ ((fun x y H Q => ∃ i j, x = .str i ∧ y = .str j ∧ Q (.bl (decide (i.cps.toList < j.cps.toList))) H) : R2) x y H Q
theorem op_ltA : OpR X (compareOp .Lt) rLtA := op_lt.or op_lt_str
theorem vn_lt : VN g gLt (r2 rLtA) := by
  intro w st ds xs Q F rp h
  unfold gLt at h
  split at h
  · obtain ⟨x, y, rfl, rx, ry⟩ := pps2 rp
    exact .inl ⟨_, _, rx.int, ry.int, Kn.val (g := g) (d := .bl _) h rfl⟩
  · obtain ⟨x, y, rfl, rx, ry⟩ := pps2 rp
    exact .inr ⟨_, _, rx.str.1, ry.str.1, Kn.val (g := g) (d := .bl _) h rfl⟩
  · exact h.elim
theorem vn_eq (neg : Bool) : VN g (gEq neg) (r2 fun x y H Q => ∃ d e, Dp g.K H x d ∧ Dp g.K H y e ∧ SeqAt.shaped d = true ∧ SeqAt.shaped e = true ∧ Q (.bl (if neg then !PyData.eqv d e else PyData.eqv d e)) H) := by
  intro w st ds xs Q F rp h
  unfold gEq at h
  split at h
  · obtain ⟨x, y, rfl, rx, ry⟩ := pps2 rp
    obtain ⟨hc, h⟩ := Res.sat_ite _ _ h
    rw [Bool.and_eq_true] at hc
    obtain ⟨d1, s1⟩ := rx.dp hc.1
    obtain ⟨d2, s2⟩ := ry.dp hc.2
    refine ⟨_, _, d1, d2, s1, s2, ?_⟩
    rw [eqv_toPy 20 _ _ hc.1 hc.2]
    exact Kn.val (g := g) (d := .bl _) h rfl
  · exact h.elim
theorem op_eqA {n : Nat} (hr : Room n X.A) (neg : Bool) : OpR X (compareOp (if neg then .NotEq else .Eq)) (fun x y H Q => ∃ d e, Dp X.K H x d ∧ Dp X.K H y e ∧ SeqAt.shaped d = true ∧ SeqAt.shaped e = true ∧ Q (.bl (if neg then !PyData.eqv d e else PyData.eqv d e)) H) := by
  cases neg with
  | false => exact op_eqD hr.units
  | true => exact op_neD hr.units
def rMulA (K : PySem.W.Frag) : R2 := fun x y H Q => (rI CMul (fun i j => V.int (i * j))) x y H Q ∨ rRep x y H Q
theorem op_mulA : OpR X (binaryOp .Mult) (rMulA X.K) := op_mul.or op_rep
theorem RepL.rep {ds : List D} {vs : List V} (h : RepL g w ds vs) : ∀ n : Nat, RepL g w (List.replicate n ds).flatten (List.replicate n vs).flatten
  | 0 => rfl
  | n + 1 => by
    rw [List.replicate_succ, List.replicate_succ, List.flatten_cons, List.flatten_cons]
    exact h.append (RepL.rep h n)
theorem vn_isN (neg : Bool) : VN g (gIsN neg) (fun xs H Q => ∃ x, xs = [x] ∧ Q (.bl (if neg then !decide (x = .non) else decide (x = .non))) H) := by
  intro w st ds xs Q F rp h
  have fin : ∀ {x : V} {b : Bool}, x ≠ .non → ((vB neg).Sat fun m => ∀ v w', Ext w w' → RepN g w w' m v → Q v w'.H) → Q (.bl (if neg then !decide (x = .non) else decide (x = .non))) w.H := fun {x b} hx h => by
    rw [decide_eq_false hx, show (if neg = true then !false else false) = neg by cases neg <;> rfl]
    exact Kn.val (g := g) (d := .bl _) h rfl
  unfold gIsN at h
  split at h
  · obtain ⟨x, rfl, rx⟩ := pps1 rp
    refine ⟨x, rfl, ?_⟩
    split at h
    · rcases rx with rx | ⟨_, _, _, _, e, _⟩
      · unfold Rep at rx
        subst rx
        rw [decide_eq_true rfl, show (if neg = true then !true else true) = !neg by cases neg <;> rfl]
        exact Kn.val (g := g) (d := .bl _) h rfl
      · cases e
    · obtain ⟨a, rfl, _⟩ := rx.cell
      exact fin (b := true) (by intro z; cases z) h
    · rw [rx.bl]
      exact fin (b := true) (by intro z; cases z) h
    · rw [rx.int]
      exact fin (b := true) (by intro z; cases z) h
    · rw [rx.str.1]
      exact fin (b := true) (by intro z; cases z) h
    · obtain ⟨a, vs, rfl, _⟩ := rx.tup
      exact fin (b := true) (by intro z; cases z) h
    · obtain ⟨a, vs, rfl, _⟩ := rx.lst
      exact fin (b := true) (by intro z; cases z) h
    · rcases rx with rx | ⟨_, _, _, _, e, _⟩
      · unfold Rep at rx
        obtain ⟨a, dx, vs, rfl, _⟩ := rx
        exact fin (b := true) (by intro z; cases z) h
      · cases e
    · rcases rx with rx | ⟨_, _, _, _, e, _⟩
      · unfold Rep at rx
        obtain ⟨a, rfl, _⟩ := rx
        exact fin (b := true) (by intro z; cases z) h
      · cases e
    · exact h.elim
  · exact h.elim
theorem vn_neg : VN g gNeg (fun xs H Q => ∃ i, xs = [.int i] ∧ Q (.int (-i)) H) := by
  intro w st ds xs Q F rp h
  unfold gNeg at h
  split at h
  · obtain ⟨x, rfl, rx⟩ := pps1 rp
    exact ⟨_, by rw [rx.int], Kn.val (g := g) (d := .int _) h rfl⟩
  · exact h.elim

def rInA (K : PySem.W.Frag) (neg : Bool) : R2 := fun x y H Q => (∃ d ds, Dp K H x d ∧ Dp K H y (.list ds) ∧ SeqAt.shaped d = true ∧ SeqAt.shaped (.list ds) = true ∧ Q (.bl (if neg then !ds.any fun z => PyData.eqv z d else ds.any fun z => PyData.eqv z d)) H) ∨ rIn K neg x y H Q ∨
  ∃ (c : Nat) (z : Str), x = .str ⟨#[c]⟩ ∧ y = .str z ∧ Q (.bl (if neg then !decide (c ∈ z.cps.toList) else decide (c ∈ z.cps.toList))) H
theorem op_inA {n : Nat} (hr : Room n X.A) (neg : Bool) : OpR X (compareOp (if neg then .NotIn else .In)) (rInA X.K neg) := by
  have hu : X.A.units + 65 < cLine := by have := hr.un; omega
  cases neg with
  | false => exact (op_inD hu).or (op_in_seq.or op_in_sign)
  | true => exact (op_notInD hu).or (op_notIn_seq.or op_notIn_sign)
theorem flat_rep {d : D} {v : V} (h : flatD d = true) (r : Rep g w d v) : flatV v = true := by
  cases d <;> first | (unfold Rep at r; subst r; rfl) | (unfold Rep at r; rw [r.1]; rfl) | cases h
theorem eqV_rep {d e : D} {v u : V} (hd : flatD d = true) (he : flatD e = true) (r : Rep g w d v) (q : Rep g w e u) : eqV v u = eqD d e := by
  cases d <;> first | cases hd | skip
  all_goals (cases e <;> first | cases he | skip)
  all_goals (unfold Rep at r q)
  all_goals first | (subst r; subst q; rfl) | (obtain ⟨r, _⟩ := r; obtain ⟨q, _⟩ := q; subst r; subst q; rfl) | (obtain ⟨r, _⟩ := r; subst r; subst q; rfl) | (obtain ⟨q, _⟩ := q; subst r; subst q; rfl)
theorem flats_rep : ∀ {ds : List D} {vs : List V}, ds.all flatD = true → RepL g w ds vs → vs.all flatV = true
  | [], vs, _, r => by
    unfold RepL at r
    subst r
    rfl
  | d :: ds, vs, h, r => by
    unfold RepL at r
    obtain ⟨v, t, rfl, h1, h2⟩ := r
    rw [List.all_cons, Bool.and_eq_true] at h ⊢
    exact ⟨flat_rep h.1 h1, flats_rep h.2 h2⟩
theorem inV_rep {e : D} {u : V} (he : flatD e = true) (q : Rep g w e u) : ∀ {ds : List D} {vs : List V}, ds.all flatD = true → RepL g w ds vs → inV u vs = ds.any fun z => eqD z e
  | [], vs, _, r => by
    unfold RepL at r
    subst r
    rfl
  | d :: ds, vs, h, r => by
    unfold RepL at r
    obtain ⟨v, t, rfl, h1, h2⟩ := r
    rw [List.all_cons, Bool.and_eq_true] at h
    have ih := inV_rep he q h.2 h2
    unfold inV at ih ⊢
    rw [List.any_cons, List.any_cons, ih, eqV_rep h.1 he h1 q]
theorem any_toPy {a : D} (ha : shp 20 a = true) : ∀ {ds : List D}, (∀ x ∈ ds, shp 19 x = true) → ((toPys ds).any fun z => PyData.eqv z (toPy a)) = ds.any fun z => eqD z a
  | [], _ => rfl
  | d :: ds, h => by
    show (PyData.eqv (toPy d) (toPy a) || (toPys ds).any _) = (eqD d a || ds.any _)
    rw [any_toPy ha fun x hx => h x (List.mem_cons_of_mem _ hx), eqv_toPy 20 d a (shp_up (h d List.mem_cons_self)) ha]
theorem vn_in (neg : Bool) : VN g (gIn neg) (r2 (rInA g.K neg)) := by
  intro w st ds xs Q F rp h
  unfold gIn at h
  split at h
  · rename_i a zs
    obtain ⟨x, y, rfl, rx, ry⟩ := pps2 rp
    obtain ⟨hc, h⟩ := Res.sat_ite _ _ h
    rw [Bool.and_eq_true] at hc
    obtain ⟨d1, s1⟩ := rx.dp hc.1
    obtain ⟨d2, s2⟩ := ry.dp hc.2
    refine .inl ⟨_, toPys zs, d1, d2, s1, s2, ?_⟩
    rw [any_toPy hc.1 (by simpa [shp] using hc.2)]
    exact Kn.val (g := g) (d := .bl _) h rfl
  · rename_i a k zs
    obtain ⟨x, y, rfl, rx, ry⟩ := pps2 rp
    obtain ⟨hc, h⟩ := Res.sat_ite _ _ h
    rw [Bool.and_eq_true] at hc
    obtain ⟨b, us, rfl, nb, rb, _⟩ := ry.tup
    have rx' : Rep g w a x := by
      rcases rx with r | ⟨_, _, _, _, e, _⟩
      · exact r
      · subst e
        cases hc.1
    refine .inr (.inl ⟨b, us, rfl, .inr nb.sq, flat_rep hc.1 rx', flats_rep hc.2 rb, ?_⟩)
    rw [inV_rep hc.1 rx' hc.2 rb]
    exact Kn.val (g := g) (d := .bl _) h rfl
  · rename_i a b
    obtain ⟨x, y, rfl, rx, ry⟩ := pps2 rp
    obtain ⟨hc, h⟩ := Res.sat_ite _ _ h
    obtain ⟨⟨c, hcs⟩⟩ : Nonempty {c : Nat // a = ⟨#[c]⟩} := by
      obtain ⟨cs⟩ := a
      obtain ⟨l⟩ := cs
      match l, hc with
      | [c], _ => exact ⟨c, rfl⟩
    subst hcs
    refine .inr (.inr ⟨c, b, rx.str.1, ry.str.1, ?_⟩)
    exact Kn.val (g := g) (d := .bl _) h rfl
  · exact h.elim
end
end Ev
set_option Elab.async false
set_option maxRecDepth 100000
set_option maxHeartbeats 2000000
namespace Ev
open PySem PySem.Spec PyProof.Rows L2
set_option autoImplicit false

theorem tuple_mul1 (l : Addr) (items : Array Value) (n : Nat) (dd : Option Addr) (sl : Array (Option Value)) (u : Tok) :
    Meets (Builtin.«tuple.__mul__» ⟨[.ref l, .int 1 u], []⟩) (fun _ R s => s.heap.get? l = some { cls := .type "tuple", dict := dd, data := .seq items n, slots := sl } ∧ R (.ok (.ret (Value.ref l))) s) :=
  .of_wp fun prog w A R s h => by
    obtain ⟨hp, g, d, tk, os⟩ := s
    obtain ⟨hl, h⟩ := h
    have f1 := AutoSeq1.idx_int
    wp_walk using wpAny_loadPart' hl
    repeat (first
      | (refine wpAny_ite_true (by simp) ?_; wp_walk using wpAny_loadPart' hl)
      | (refine wpAny_ite_false (by simp) ?_; wp_walk using wpAny_loadPart' hl))
    exact ⟨_, rfl, h⟩
theorem tuple_mul0 (l : Addr) (items : Array Value) (n : Nat) (dd : Option Addr) (sl : Array (Option Value)) (u : Tok) (he : items.isEmpty = false) :
    Meets (Builtin.«tuple.__mul__» ⟨[.ref l, .int 0 u], []⟩) (fun _ R s => s.heap.get? l = some { cls := .type "tuple", dict := dd, data := .seq items n, slots := sl } ∧
      R (.ok (.ret (Value.ref s.heap.objs.size))) { s with heap := s.heap.push { cls := Value.type "tuple", data := Data.seq #[] }, toks := s.toks }) :=
  .of_wp fun prog w A R s h => by
    obtain ⟨hp, g, d, tk, os⟩ := s
    obtain ⟨hl, h⟩ := h
    have f1 := AutoSeq1.idx_int
    wp_walk using wpAny_loadPart' hl
    repeat (first
      | (refine wpAny_ite_false (by simp [he]) ?_; wp_walk using wpAny_loadPart' hl)
      | (refine wpAny_ite_true (by simp [he]) ?_; wp_walk using wpAny_loadPart' hl))
    exact ⟨_, rfl, h⟩
section
variable {X : Cx} {g : Cg} {w w' : W}
def rRepT1 (K : PySem.W.Frag) : R2 := fun x y H Q => ∃ l xs, x = .ref l ∧ y = .int 1 ∧ SqT K H l xs ∧ Q (.ref l) H
theorem op_repT1 : OpR X (binaryOp .Mult) (rRepT1 X.K) := by
  intro pins s σ H x y v u Q I rx ry h
  obtain ⟨l, xs, rfl, rfl, hT, q⟩ := h
  cases rx
  obtain ⟨t, rfl⟩ := ry
  obtain ⟨its, r, ⟨⟨cls, dd, data, sl⟩, ho, hc, n, hd⟩, hs⟩ := I.tuple hT
  simp only at hc hd
  subst hc hd
  exact wpAny_binaryOp_repeat_ref (T := "tuple") (U := "int") (by decide) ⟨_, ho, rfl⟩ (fun s' => typeIs_int s' 1 t) noFill_tuple_mul F.fills_int_mul F.slot_int_rmul repeat_tuple F.slot_int_index.lookup
    (call_meets F.slot_int_rmul (typeIs_int s 1 t) F.entry_int_rmul (F.args_int_rmul_2 _ _) (int_rmul_tuple 1 t l its.toArray n dd sl)
      ⟨ho, rfl, ⟨_, ho, rfl⟩, call_meets F.slot_tuple_mul ⟨_, ho, rfl⟩ F.entry_tuple_mul (F.args_tuple_mul_2 _ _) (tuple_mul1 l its.toArray n dd sl t) ⟨ho, .ref l, H, I, rfl, q⟩⟩)
def rRepT0 (K : PySem.W.Frag) : R2 := fun x y H Q => ∃ l xs, x = .ref l ∧ y = .int 0 ∧ SqT K H l xs ∧ xs ≠ [] ∧ ∀ p, H p = none → Q (.ref p) (upd H p (.tup []))
theorem op_repT0 : OpR X (binaryOp .Mult) (rRepT0 X.K) := by
  intro pins s σ H x y v u Q I rx ry h
  obtain ⟨l, xs, rfl, rfl, hT, hne, q⟩ := h
  cases rx
  obtain ⟨t, rfl⟩ := ry
  obtain ⟨its, r, ⟨⟨cls, dd, data, sl⟩, ho, hc, n, hd⟩, hs⟩ := I.tuple hT
  simp only at hc hd
  subst hc hd
  have hi : its.toArray.isEmpty = false := by
    cases its with
    | nil => cases r; exact absurd rfl hne
    | cons a b => rfl
  refine wpAny_binaryOp_repeat_ref (T := "tuple") (U := "int") (by decide) ⟨_, ho, rfl⟩ (fun s' => typeIs_int s' 0 t) noFill_tuple_mul F.fills_int_mul F.slot_int_rmul repeat_tuple F.slot_int_index.lookup
    (call_meets F.slot_int_rmul (typeIs_int s 0 t) F.entry_int_rmul (F.args_int_rmul_2 _ _) (int_rmul_tuple 0 t l its.toArray n dd sl)
      ⟨ho, rfl, ⟨_, ho, rfl⟩, call_meets F.slot_tuple_mul ⟨_, ho, rfl⟩ F.entry_tuple_mul (F.args_tuple_mul_2 _ _) (tuple_mul0 l its.toArray n dd sl t hi) ⟨ho, ?_⟩⟩)
  refine ⟨.ref s.heap.objs.size, _, I.laid (t' := s.toks) (o := .tup []) (fun b ob q => Heap.get?_push_of_some _ q) (Nat.le_refl _) ?_, rfl, q _ (I.hok.fresh (Nat.le_refl _))⟩
  exact ⟨Nat.zero_le _, [], .nil, IsTup.new _ _⟩
def rMulB (K : PySem.W.Frag) : R2 := fun x y H Q => rMulA K x y H Q ∨ rRepT K x y H Q ∨ rRepT1 K x y H Q ∨ rRepT0 K x y H Q
theorem op_mulB : OpR X (binaryOp .Mult) (rMulB X.K) := op_mulA.or (op_repT.or (op_repT1.or op_repT0))
theorem vn_mul : VN g gMul (r2 (rMulB g.K)) := by
  intro w st ds xs Q F rp h
  unfold gMul at h
  split at h
  · obtain ⟨x, y, rfl, rx, ry⟩ := pps2 rp
    obtain ⟨hc, h⟩ := Res.sat_ite _ _ h
    exact .inl (.inl ⟨_, _, rx.int, ry.int, hc.imp okM_iff.mp okM_iff.mp, Kn.val (g := g) (d := .int _) h rfl⟩)
  · obtain ⟨x, y, rfl, rx, ry⟩ := pps2 rp
    obtain ⟨⟨h12, hz⟩, h⟩ := Res.sat_ite _ _ h
    have h12 := okP_iff.mp h12
    have h1 : -(2 ^ 63) ≤ (_ : Int) := Int.le_trans (by decide) h12.1
    have h2 : (_ : Int) < 2 ^ 63 := Int.lt_of_le_of_lt h12.2 (by decide)
    obtain ⟨a, vs, rfl, ha, ra⟩ := rx.lst
    exact .inl (.inr ⟨a, _, vs, rfl, ry.int, ha, h1, h2, by rw [← ra.length]; exact hz, Kn.lst F h (ra.rep _)⟩)
  · rename_i b ys k
    obtain ⟨x, y, rfl, rx, ry⟩ := pps2 rp
    obtain ⟨⟨hl, h0, hk⟩, h⟩ := Res.sat_ite _ _ h
    obtain ⟨a, vs, rfl, na, ra, rA⟩ := rx.tup
    have hvl : vs.length = 1 := by rw [← ra.length]; exact hl
    have hne : vs ≠ [] := fun e => by rw [e] at hvl; cases hvl
    by_cases h1 : k = 1
    · subst h1
      have e : (List.replicate (1 : Int).toNat ys).flatten = ys := by simp
      rw [e] at h
      exact .inr (.inr (.inl ⟨a, vs, rfl, ry.int, na.sq, Kn.val h (rep_weak rA)⟩))
    · by_cases h2 : k = 0
      · subst h2
        refine .inr (.inr (.inr ⟨a, vs, rfl, ry.int, na.sq, hne, Kn.tup F h ?_⟩))
        simp [RepL]
      · exact .inr (.inl ⟨a, k, vs, rfl, ry.int, na.sq, hne, by omega, hk, by omega, Kn.tup F h (ra.rep _)⟩)
  · exact h.elim

theorem ixN_eq (n : Nat) (i : Int) : Ev.ixN n i = L2.ixN n i := rfl
theorem atI_rep {ds : List D} {vs : List V} (r : RepL g w ds vs) {i : Int} {d : D} (h : Ev.atI ds i = some d) : ∃ v, L2.atI vs i = some v ∧ Rep g w d v := by
  unfold Ev.atI at h
  unfold L2.atI
  rw [← r.length]
  cases e : Ev.ixN ds.length i with
  | none =>
    rw [e] at h
    cases h
  | some j =>
    rw [e] at h
    have e' : L2.ixN ds.length i = some j := e
    rw [e']
    exact r.get h
def rIxA (K : PySem.W.Frag) : R2 := fun x y H Q => rIxL K x y H Q ∨ rIxT K x y H Q
theorem ix_A : IxR X (rIxA X.K) := ix_list.or ix_tup
theorem vn_ix : VN g gIx (r2 (rIxA g.K)) := by
  intro w st ds xs Q F rp h
  unfold gIx at h
  split at h
  · obtain ⟨x, y, rfl, rx, ry⟩ := pps2 rp
    rw [Res.sat_bind] at h
    obtain ⟨d, e, h⟩ := optR_ok h
    obtain ⟨a, vs, rfl, ha, ra⟩ := rx.lst
    obtain ⟨v, e', rv⟩ := atI_rep ra e
    exact .inl ⟨a, vs, _, v, rfl, ry.int, SqL.of ha, e', Kn.val h rv⟩
  · obtain ⟨x, y, rfl, rx, ry⟩ := pps2 rp
    rw [Res.sat_bind] at h
    obtain ⟨d, e, h⟩ := optR_ok h
    obtain ⟨a, vs, rfl, na, ra, _⟩ := rx.tup
    obtain ⟨v, e', rv⟩ := atI_rep ra e
    exact .inr ⟨a, vs, _, v, rfl, ry.int, na.sq, e', Kn.val h rv⟩
  · rename_i n i
    obtain ⟨x, y, rfl, rx, ry⟩ := pps2 rp
    rw [Res.sat_bind] at h
    obtain ⟨zs, e, h⟩ := optR_ok h
    rw [Res.sat_bind] at h
    obtain ⟨d, e2, h⟩ := optR_ok h
    obtain ⟨a, rfl, hm⟩ := rx.cell
    obtain ⟨vs, ha, ra⟩ := F.cells n a zs hm e
    obtain ⟨v, e', rv⟩ := atI_rep ra e2
    exact .inl ⟨a, vs, _, v, rfl, ry.int, SqL.of ha, e', Kn.val h rv⟩
  · exact h.elim
theorem cut_rep {ds : List D} {vs : List V} (r : RepL g w ds vs) (lo hi : Option Int) : RepL g w (cutD ds lo hi) (cutV vs lo hi) := by
  unfold cutD cutV
  have e : ∀ (n d : Nat) (o : Option Int), Ev.sIx n d o = HT.sIx n d o := fun n d o => by cases o <;> rfl
  rw [← r.length]
  simp only [e]
  exact (r.drop _).take _
/-- t[lo:hi]: the whole of it is t itself; else a new one whose object is known -/
def rSlF (K : PySem.W.Frag) : V → Option Int → Option Int → Hp → VK → Prop := fun x lo hi H Q => ∃ a xs, x = .ref a ∧ SqT K H a xs ∧
  (HT.sIx xs.length 0 lo = 0 ∧ HT.sIx xs.length xs.length hi = xs.length → Q (.ref a) H) ∧ (¬ (HT.sIx xs.length 0 lo = 0 ∧ HT.sIx xs.length xs.length hi = xs.length) → ∀ p o, H p = none → o.dict = none → Q (.ref p) (upd H p (.frz o (.tup (cutV xs lo hi)))))
theorem sl_tupF : SlR X (rSlF X.K) := by
  intro pins s σ H x v vl vu lo hi sl Q I rx hs pl pu h
  obtain ⟨a, xs, rfl, hx, q1, q2⟩ := h
  cases rx
  obtain ⟨its, r, ht, hz⟩ := I.tuple hx
  have hlen : its.toArray.size = xs.length := by rw [List.size_toArray]; exact r.length.symm
  refine ⟨"tuple", _, PyProof.Rows.slot_tuple_getitem.lookup, ht.typeIs, ?_⟩
  by_cases hw : HT.sIx xs.length 0 lo = 0 ∧ HT.sIx xs.length xs.length hi = xs.length
  · exact getItem_tuple_whole ht hs pl pu (by rw [hlen]; exact hw) ⟨.ref a, H, I, rfl, q1 hw⟩
  · refine HT.getItem_tuple_cut ht hs pl pu (by rw [hlen]; exact hw) ?_ (by rw [hlen]; exact hz)
    rw [hlen]
    refine ⟨.ref s.heap.objs.size, _, I.laid (t' := s.toks) (o := .frz _ (.tup (cutV xs lo hi))) (fun b ob q => Heap.get?_push_of_some _ q) (Nat.le_refl _) ⟨Heap.get?_push_size _ rfl, ?_⟩, rfl, q2 hw _ _ (I.hok.fresh (Nat.le_refl _)) rfl⟩
    exact (show ObjOk X.prog X.w _ _ _ (.tup (cutV xs lo hi)) from ⟨Nat.le_trans (cutV_length xs lo hi) hz, _, (r.drop (HT.sIx xs.length 0 lo)).take (HT.sIx xs.length xs.length hi - HT.sIx xs.length 0 lo), IsTup.new _ _⟩)
def rSlB (K : PySem.W.Frag) : V → Option Int → Option Int → Hp → VK → Prop := fun x lo hi H Q => rSlL K x lo hi H Q ∨ rSlF K x lo hi H Q
theorem sl_B : SlR X (rSlB X.K) := sl_list.or sl_tupF
theorem RepL.ints : ∀ (is : List Int), RepL g w (is.map .int) (is.map V.int)
  | [] => rfl
  | i :: is => by
    rw [List.map_cons, List.map_cons]
    unfold RepL
    exact ⟨_, _, rfl, rfl, RepL.ints is⟩
theorem sl_ok {st : List (List D)} {d : D} {x : V} {lo hi : Option Int} {Q : VK} (F : Wf g w st) (r : RepP g w d x) (h : (slD d lo hi).Sat fun m => Kn g w Q m) : rSlB g.K x lo hi w.H Q := by
  unfold slD at h
  split at h
  · rename_i is
    rcases r with r | ⟨_, _, _, _, e, _⟩
    · unfold Rep at r
      obtain ⟨a, rfl, hs⟩ := r
      have hq : SqL g.K w.H a (is.map V.int) := by
        rcases hs with ⟨_, ⟨o, e⟩ | e⟩ | e
        · exact .inl (.inr ⟨o, e⟩)
        · exact .inl (.inl e)
        · exact .inr e
      exact .inl ⟨a, _, rfl, hq, Kn.lst F h (cut_rep (RepL.ints is) lo hi)⟩
    · cases e
  · obtain ⟨a, vs, rfl, ha, ra⟩ := r.lst
    exact .inl ⟨a, vs, rfl, SqL.of ha, Kn.lst F h (cut_rep ra lo hi)⟩
  · rename_i kk xs
    obtain ⟨a, vs, rfl, na, ra, rA⟩ := r.tup
    have e : ∀ (n d : Nat) (o : Option Int), Ev.sIx n d o = HT.sIx n d o := fun n d o => by cases o <;> rfl
    refine .inr ⟨a, vs, rfl, na.sq, fun hw => ?_, fun hw => ?_⟩
    · rw [← ra.length, ← e, ← e] at hw
      have e2 : cutD xs lo hi = xs := by
        unfold cutD
        rw [hw.1, hw.2]
        simp
      rw [e2] at h
      exact Kn.val h (rep_less (fun z => by
        simp only [Bool.and_eq_true, Bool.or_eq_true, Bool.not_eq_true'] at z
        rcases z.1 with q | q
        · exact q
        · rw [z.2] at q; cases q) rA)
    · exact Kn.tupF F h (cut_rep ra lo hi)
  · exact h.elim
end
section
variable {g : Cg} {c : Fc} {w w' : W} {σ fv : Tv} {s : S} {C : Cl}
def tPO (g : Cg) (C : Cl) (f : Option SE) : TO := match f with
  | none => tNoPart
  | some f => tPart (tE g C f)
theorem part_ok (S : Sim g c w σ fv s) {f : Option SE} {P : Option Int × Ev.S → Prop} (h : (part1 f C s).Sat P) {Q : Option Int → Hp → Prop} (k : ∀ o s2 w2, Aft g c σ fv w s w2 s2 → P (o, s2) → Q o w2.H) : tPO g C f σ w.H Q := by
  cases f with
  | none => exact k none s w S.aft h
  | some f =>
    have h : ((f C s).bind fun (r, s1) => (int1 r).bind fun i => Res.ok (some i, s1)).Sat P := h
    rw [Res.sat_bind] at h
    refine ⟨c, w, fv, s, rfl, S, h.mono fun p h v w1 A r => ?_⟩
    obtain ⟨r0, s1⟩ := p
    rw [Res.sat_bind] at h
    obtain ⟨i, h, _, e⟩ := int1_ok r h
    exact ⟨i, e, k _ s1 w1 A h⟩
theorem tSl_le2 {f : SE} {lo hi : Option SE} {H : Hp} {Q : VK} (h : tE g C (slF f lo hi) σ H Q) : L2.tSl (rSlB g.K) (tE g C f) (tPO g C lo) (tPO g C hi) σ H Q := by
  obtain ⟨c, w, fv, s, rfl, S, h⟩ := h
  unfold slF at h
  rw [Res.sat_bind] at h
  refine ⟨c, w, fv, s, rfl, S, h.mono fun p h v w1 A r => ?_⟩
  obtain ⟨r0, s1⟩ := p
  rw [Res.sat_bind] at h
  obtain ⟨w1', hH, A1, ro⟩ := opd_ok S A r
  rw [← hH]
  refine part_ok A1.sim h fun l s2 w2 A2 h => ?_
  rw [Res.sat_bind] at h
  refine part_ok A2.sim h fun u s3 w3 A3 h => ?_
  rw [Res.sat_bind] at h
  obtain ⟨d, h, rp⟩ := pk_ok A3.sim ((ro.aft A2).aft A3) h
  rw [Res.sat_bind] at h
  refine sl_ok A3.sim.wf rp (h.mono fun m h v w4 k rn => ?_)
  exact h v w4 (((A1.trans A2).trans A3).ext k) (rn.repR S ((A1.trans A2).trans A3) k)
theorem tRev_le {f : SE} {H : Hp} {Q : VK} (h : tE g C (opE gRev [f]) σ H Q) : tRevL g.K (tE g C f) σ H Q := by
  have h := tOpE_le (g := g) (r := fun xs H Q => ∃ a xs', xs = [.ref a] ∧ SqL g.K H a xs' ∧ ∀ p, H p = none → Q (.ref p) (upd H p (.lst xs'.reverse))) (fun w st ds xs Q F rp h => ?_) h
  · obtain ⟨c, w, fv, s, rfl, S, h⟩ := tOps_cons h
    refine ⟨c, w, fv, s, rfl, S, h.mono fun p h v w1 A r => ?_⟩
    obtain ⟨a, xs', e, hq, q⟩ := tOps_nil (h v w1 A r)
    exact ⟨a, xs', by simpa using e, hq, q⟩
  · unfold gRev at h
    split at h
    · obtain ⟨x, rfl, rx⟩ := pps1 rp
      obtain ⟨a, vs, rfl, ha, ra⟩ := rx.lst
      refine ⟨a, vs, rfl, SqL.of ha, Kn.lst F h ?_⟩
      have go : ∀ {ds : List D} {vs : List V}, RepL g w ds vs → RepL g w ds.reverse vs.reverse := by
        intro ds
        induction ds with
        | nil =>
          intro vs r
          unfold RepL at r
          subst r
          rfl
        | cons d ds ih =>
          intro vs r
          unfold RepL at r
          obtain ⟨v, t, rfl, h1, h2⟩ := r
          rw [List.reverse_cons, List.reverse_cons]
          refine (ih h2).append ?_
          unfold RepL
          exact ⟨v, [], rfl, h1, rfl⟩
      exact go ra
    · exact h.elim
end
end Ev
set_option Elab.async false
set_option maxRecDepth 100000
set_option maxHeartbeats 2000000
namespace Ev
open PySem PySem.Spec PyProof.Rows L2
set_option autoImplicit false

theorem perm_unique {α : Type} {le : α → α → Prop} (anti : ∀ a b, le a b → le b a → a = b) : ∀ {l1 l2 : List α}, l1.Perm l2 → l1.Pairwise le → l2.Pairwise le → l1 = l2
  | [], l2, p, _, _ => (List.Perm.nil_eq p)
  | a :: l1, [], p, _, _ => (List.Perm.nil_eq p.symm).symm
  | a :: l1, b :: l2, p, h1, h2 => by
    rw [List.pairwise_cons] at h1 h2
    have e : a = b := by
      have ma : a ∈ b :: l2 := p.subset List.mem_cons_self
      have mb : b ∈ a :: l1 := p.symm.subset List.mem_cons_self
      rcases List.mem_cons.mp ma with q | q
      · exact q
      · rcases List.mem_cons.mp mb with q' | q'
        · exact q'.symm
        · exact anti a b (h1.1 b q') (h2.1 a q)
    subst e
    rw [perm_unique anti (List.Perm.cons_inv p) h1.2 h2.2]
theorem insS_perm (x : Str) : ∀ l : List Str, (insS x l).Perm (x :: l)
  | [] => List.Perm.refl _
  | y :: ys => by
    unfold insS
    split
    · exact List.Perm.refl _
    · exact ((insS_perm x ys).cons y).trans (List.Perm.swap x y ys)
theorem sortS_perm : ∀ l : List Str, (sortS l).Perm l
  | [] => List.Perm.refl _
  | x :: xs => (insS_perm x _).trans ((sortS_perm xs).cons x)
def leS (a b : Str) : Prop := a.cps.toList ≤ b.cps.toList
theorem leS_trans {a b c : Str} (h : leS a b) (k : leS b c) : leS a c := List.le_trans h k
theorem leS_anti {a b : Str} (h : leS a b) (k : leS b a) : a = b := by
  have e : a.cps.toList = b.cps.toList := List.le_antisymm h k
  cases a
  cases b
  simpa using e
theorem leS_of_not {a b : Str} (h : ¬ a.cps.toList < b.cps.toList) : leS b a := List.not_lt.mp h
theorem leS_of_lt {a b : Str} (h : a.cps.toList < b.cps.toList) : leS a b := List.le_of_lt h
theorem insS_sorted (x : Str) : ∀ {l : List Str}, l.Pairwise leS → (insS x l).Pairwise leS
  | [], _ => by simp [insS]
  | y :: ys, h => by
    rw [List.pairwise_cons] at h
    unfold insS
    split
    · rename_i hl
      rw [List.pairwise_cons, List.pairwise_cons]
      refine ⟨fun z hz => ?_, h⟩
      rcases List.mem_cons.mp hz with q | q
      · subst q
        exact leS_of_lt hl
      · exact leS_trans (leS_of_lt hl) (h.1 z q)
    · rename_i hl
      rw [List.pairwise_cons]
      refine ⟨fun z hz => ?_, insS_sorted x h.2⟩
      rcases List.mem_cons.mp ((insS_perm x ys).subset hz) with q | q
      · subst q
        exact leS_of_not hl
      · exact h.1 z q
theorem sortS_sorted : ∀ l : List Str, (sortS l).Pairwise leS
  | [] => List.Pairwise.nil
  | x :: xs => insS_sorted x (sortS_sorted xs)
theorem insI_perm (x : Int) : ∀ l : List Int, (insI x l).Perm (x :: l)
  | [] => List.Perm.refl _
  | y :: ys => by
    unfold insI
    split
    · exact List.Perm.refl _
    · exact ((insI_perm x ys).cons y).trans (List.Perm.swap x y ys)
theorem sortI_perm : ∀ l : List Int, (sortI l).Perm l
  | [] => List.Perm.refl _
  | x :: xs => (insI_perm x _).trans ((sortI_perm xs).cons x)
theorem insI_sorted (x : Int) : ∀ {l : List Int}, l.Pairwise (· ≤ ·) → (insI x l).Pairwise (· ≤ ·)
  | [], _ => by simp [insI]
  | y :: ys, h => by
    rw [List.pairwise_cons] at h
    unfold insI
    split
    · rename_i hl
      rw [List.pairwise_cons, List.pairwise_cons]
      refine ⟨fun z hz => ?_, h⟩
      rcases List.mem_cons.mp hz with q | q
      · subst q
        exact hl
      · exact Int.le_trans hl (h.1 z q)
    · rename_i hl
      rw [List.pairwise_cons]
      refine ⟨fun z hz => ?_, insI_sorted x h.2⟩
      rcases List.mem_cons.mp ((insI_perm x ys).subset hz) with q | q
      · subst q
        omega
      · exact h.1 z q
theorem sortI_sorted : ∀ l : List Int, (sortI l).Pairwise (· ≤ ·)
  | [] => List.Pairwise.nil
  | x :: xs => insI_sorted x (sortI_sorted xs)
theorem sortedS_pw : ∀ (l : List Str), sortedS l = true → l.Pairwise leS
  | [], _ => List.Pairwise.nil
  | x :: r, h => by
    have go : ∀ (r : List Str) (x : Str), risingS x r = true → (∀ y ∈ r, leS x y) ∧ r.Pairwise leS := by
      intro r
      induction r with
      | nil => intro x _; exact ⟨fun y h => (nomatch h), List.Pairwise.nil⟩
      | cons z r ih =>
        intro x h
        unfold risingS at h
        rw [Bool.and_eq_true, Bool.not_eq_true'] at h
        have hz : leS x z := leS_of_not fun q => by
          rw [ltCps_eq, decide_eq_false_iff_not] at h
          exact h.1 q
        obtain ⟨h1, h2⟩ := ih z h.2
        refine ⟨fun y hy => ?_, List.pairwise_cons.mpr ⟨h1, h2⟩⟩
        rcases List.mem_cons.mp hy with q | q
        · subst q
          exact hz
        · exact leS_trans hz (h1 y q)
    obtain ⟨h1, h2⟩ := go r x h
    exact List.pairwise_cons.mpr ⟨h1, h2⟩
theorem sortS_unique {l l' : List Str} (p : l'.Perm l) (h : sortedS l' = true) : l' = sortS l :=
  perm_unique (le := leS) (fun _ _ => leS_anti) (p.trans (sortS_perm l).symm) (sortedS_pw _ h) (sortS_sorted l)
theorem sortI_unique {l l' : List Int} (p : l'.Perm l) (h : l'.Pairwise (· ≤ ·)) : l' = sortI l :=
  perm_unique (le := (· ≤ ·)) (fun a b h k => by omega) (p.trans (sortI_perm l).symm) h (sortI_sorted l)

section
variable {X : Cx} {g : Cg} {w w' : W}
theorem s1_rep : ∀ {ds : List D} {zs : List Str} {vs : List V}, ds.mapM s1 = some zs → RepL g w ds vs → vs = zs.map V.str ∧ ∀ z ∈ zs, PyData.strOk z = true
  | [], zs, vs, h, r => by
    rw [List.mapM_nil] at h
    cases h
    unfold RepL at r
    subst r
    exact ⟨rfl, fun _ h => (nomatch h)⟩
  | d :: ds, zs, vs, h, r => by
    rw [List.mapM_cons] at h
    cases d with
    | str z =>
      cases hm : ds.mapM s1 with
      | none => rw [hm] at h; cases h
      | some zs' =>
        rw [hm] at h
        cases h
        unfold RepL at r
        obtain ⟨v, t, rfl, h1, h2⟩ := r
        unfold Rep at h1
        obtain ⟨rfl, h1⟩ := h1
        obtain ⟨e, k⟩ := s1_rep hm h2
        subst e
        refine ⟨rfl, fun y hy => ?_⟩
        rcases List.mem_cons.mp hy with q | q
        · subst q
          exact h1
        · exact k y q
    | _ => cases h
theorem i1_rep : ∀ {ds : List D} {zs : List Int} {vs : List V}, ds.mapM i1 = some zs → RepL g w ds vs → vs = zs.map V.int
  | [], zs, vs, h, r => by
    rw [List.mapM_nil] at h
    cases h
    unfold RepL at r
    subst r
    rfl
  | d :: ds, zs, vs, h, r => by
    rw [List.mapM_cons] at h
    cases d with
    | int z =>
      cases hm : ds.mapM i1 with
      | none => rw [hm] at h; cases h
      | some zs' =>
        rw [hm] at h
        cases h
        unfold RepL at r
        obtain ⟨v, t, rfl, h1, h2⟩ := r
        unfold Rep at h1
        subst h1
        rw [i1_rep hm h2]
        rfl
    | _ => cases h
theorem bl1_rep : ∀ {ds : List D} {zs : List Bool} {vs : List V}, ds.mapM bl1 = some zs → RepL g w ds vs → vs = zs.map V.bl
  | [], zs, vs, h, r => by
    rw [List.mapM_nil] at h
    cases h
    unfold RepL at r
    subst r
    rfl
  | d :: ds, zs, vs, h, r => by
    rw [List.mapM_cons] at h
    cases d with
    | bl z =>
      cases hm : ds.mapM bl1 with
      | none => rw [hm] at h; cases h
      | some zs' =>
        rw [hm] at h
        cases h
        unfold RepL at r
        obtain ⟨v, t, rfl, h1, h2⟩ := r
        unfold Rep at h1
        subst h1
        rw [bl1_rep hm h2]
        rfl
    | _ => cases h
theorem strs_rep : ∀ {zs : List Str}, (∀ z ∈ zs, PyData.strOk z = true) → RepL g w (zs.map .str) (zs.map V.str)
  | [], _ => rfl
  | z :: zs, h => by
    rw [List.map_cons, List.map_cons]
    unfold RepL
    exact ⟨_, _, rfl, ⟨rfl, h z List.mem_cons_self⟩, strs_rep fun y hy => h y (List.mem_cons_of_mem _ hy)⟩

theorem vn_len : VN g gLen (fun xs H Q => ∃ x n, xs = [x] ∧ LenV g.K x H n ∧ Q (.int n) H) := by
  intro w st ds xs Q F rp h
  unfold gLen at h
  split at h
  · obtain ⟨x, rfl, rx⟩ := pps1 rp
    obtain ⟨a, vs, rfl, ha, ra⟩ := rx.lst
    refine ⟨_, _, rfl, .inl ⟨vs, SqL.of ha, rfl⟩, ?_⟩
    rw [← ra.length]
    exact Kn.val (g := g) (d := .int _) h rfl
  · obtain ⟨x, rfl, rx⟩ := pps1 rp
    obtain ⟨a, vs, rfl, na, ra, _⟩ := rx.tup
    refine ⟨_, _, rfl, .inr ⟨vs, na.sq, rfl⟩, ?_⟩
    rw [← ra.length]
    exact Kn.val (g := g) (d := .int _) h rfl
  · obtain ⟨x, rfl, rx⟩ := pps1 rp
    obtain ⟨hz, h⟩ := Res.sat_ite _ _ h
    rw [rx.str.1]
    exact ⟨_, _, rfl, ⟨hz, rfl⟩, Kn.val (g := g) (d := .int _) h rfl⟩
  · rename_i n
    obtain ⟨x, rfl, rx⟩ := pps1 rp
    rw [Res.sat_bind] at h
    obtain ⟨zs, e, h⟩ := optR_ok h
    obtain ⟨a, rfl, hm⟩ := rx.cell
    obtain ⟨vs, ha, ra⟩ := F.cells n a zs hm e
    refine ⟨_, _, rfl, .inl ⟨vs, SqL.of ha, rfl⟩, ?_⟩
    rw [← ra.length]
    exact Kn.val (g := g) (d := .int _) h rfl
  · exact h.elim
theorem vn_abs : VN g gAbs (fun xs H Q => ∃ i, xs = [.int i] ∧ Q (.int (if i < 0 then -i else i)) H) := by
  intro w st ds xs Q F rp h
  unfold gAbs at h
  split at h
  · obtain ⟨x, rfl, rx⟩ := pps1 rp
    exact ⟨_, by rw [rx.int], Kn.val (g := g) (d := .int _) h rfl⟩
  · exact h.elim
theorem vn_int : VN g gInt (fun xs H Q => (∃ i, xs = [.int i] ∧ Q (.int i) H) ∨ ∃ k, xs = [.bl k] ∧ Q (.int (if k then 1 else 0)) H) := by
  intro w st ds xs Q F rp h
  unfold gInt at h
  split at h
  · obtain ⟨x, rfl, rx⟩ := pps1 rp
    exact .inl ⟨_, by rw [rx.int], Kn.val (g := g) (d := .int _) h rfl⟩
  · obtain ⟨x, rfl, rx⟩ := pps1 rp
    exact .inr ⟨_, by rw [rx.bl], Kn.val (g := g) (d := .int _) h rfl⟩
  · exact h.elim
theorem vn_list : VN g gList (fun xs H Q => ∃ p ys, xs = [.ref p] ∧ (SqL g.K H p ys ∨ SqT g.K H p ys) ∧ ∀ l, H l = none → Q (.ref l) (upd H l (.lst ys))) := by
  intro w st ds xs Q F rp h
  unfold gList at h
  split at h
  · obtain ⟨x, rfl, rx⟩ := pps1 rp
    obtain ⟨a, vs, rfl, ha, ra⟩ := rx.lst
    exact ⟨a, vs, rfl, .inl (SqL.of ha), Kn.lst F h ra⟩
  · obtain ⟨x, rfl, rx⟩ := pps1 rp
    obtain ⟨a, vs, rfl, na, ra, _⟩ := rx.tup
    exact ⟨a, vs, rfl, .inr na.sq, Kn.lst F h ra⟩
  · exact h.elim
/-- tuple(x): of a list a new one, whose object is known -/
def rTupF (K : PySem.W.Frag) : List V → Hp → VK → Prop := fun xs H Q => ∃ p ys, xs = [.ref p] ∧ ((SqL K H p ys ∧ ∀ l o, H l = none → o.dict = none → Q (.ref l) (upd H l (.frz o (.tup ys)))) ∨ (SqT K H p ys ∧ Q (.ref p) H))
theorem call_tupF : CallR X (.type "tuple") (rTupF X.K) := by
  intro pins s σ H xs us Q I r h
  obtain ⟨p, ys, rfl, h⟩ := h
  obtain ⟨u, rfl, rx⟩ := vals1 r
  cases rx
  rcases h with ⟨hq, q⟩ | ⟨hq, q⟩
  · obtain ⟨its, r', pl, hz⟩ := I.list hq
    have hlen := r'.length
    refine call_tuple_list pl.isList (fun h' kp => ?_) (by simp only [List.size_toArray] <;> omega)
    have I1 : Inv X pins σ H { s with heap := h' } := I.kept (t' := s.toks) kp
    have I2 : Inv X pins σ (upd H h'.objs.size (.frz { cls := .type "tuple", data := .seq its.toArray } (.tup ys))) { s with heap := h'.push { cls := .type "tuple", data := .seq its.toArray } } :=
      I1.laid (t' := s.toks) (fun b o e => Heap.get?_push_of_some _ e) (Nat.le_refl _) ⟨Heap.get?_push_size _ rfl, (show ObjOk X.prog X.w _ _ _ (.tup ys) from ⟨hz, its, r', IsTup.new _ _⟩)⟩
    exact ⟨.ref h'.objs.size, _, I2, rfl, q _ _ (I1.hok.fresh (Nat.le_refl _)) rfl⟩
  · obtain ⟨its, r', pl, hz⟩ := I.tuple hq
    exact call_tuple_same pl ⟨.ref p, H, I, rfl, q⟩
theorem vn_tuple : VN g gTuple (rTupF g.K) := by
  intro w st ds xs Q F rp h
  unfold gTuple at h
  split at h
  · obtain ⟨x, rfl, rx⟩ := pps1 rp
    obtain ⟨a, vs, rfl, ha, ra⟩ := rx.lst
    refine ⟨a, vs, rfl, .inl ⟨SqL.of ha, fun p o hp hd => ?_⟩⟩
    refine h (.ref p) _ (ext_newF hp) ?_
    show Rep g _ (.tup (sHd _) _) _
    unfold Rep
    exact ⟨p, vs, rfl, .inl ⟨.inr rfl, o, upd_same, fun _ => hd⟩, RepL.le ((ext_newF hp).le F.fz) ra⟩
  · obtain ⟨x, rfl, rx⟩ := pps1 rp
    obtain ⟨a, vs, rfl, na, ra, rA⟩ := rx.tup
    exact ⟨a, vs, rfl, .inr ⟨na.sq, Kn.val h rA⟩⟩
  · exact h.elim
theorem vn_all : VN g gAll (rAll g.K) := by
  intro w st ds xs Q F rp h
  unfold gAll at h
  split at h
  · obtain ⟨x, rfl, rx⟩ := pps1 rp
    rw [Res.sat_bind] at h
    obtain ⟨bs, e, h⟩ := optR_ok h
    obtain ⟨a, vs, rfl, ha, ra⟩ := rx.lst
    have e' := bl1_rep e ra
    subst e'
    exact ⟨a, bs, rfl, SqL.of ha, Kn.val (g := g) (d := .bl _) h rfl⟩
  · exact h.elim
theorem vn_any : VN g gAny (rAny g.K) := by
  intro w st ds xs Q F rp h
  unfold gAny at h
  split at h
  · obtain ⟨x, rfl, rx⟩ := pps1 rp
    rw [Res.sat_bind] at h
    obtain ⟨bs, e, h⟩ := optR_ok h
    obtain ⟨a, vs, rfl, ha, ra⟩ := rx.lst
    have e' := bl1_rep e ra
    subst e'
    exact ⟨a, bs, rfl, SqL.of ha, Kn.val (g := g) (d := .bl _) h rfl⟩
  · exact h.elim
theorem vn_sum : VN g gSum (rSum g.K) := by
  intro w st ds xs Q F rp h
  unfold gSum at h
  split at h
  · obtain ⟨x, rfl, rx⟩ := pps1 rp
    rw [Res.sat_bind] at h
    obtain ⟨bs, e, h⟩ := optR_ok h
    obtain ⟨a, vs, rfl, ha, ra⟩ := rx.lst
    have e' := i1_rep e ra
    subst e'
    exact ⟨a, bs, rfl, SqL.of ha, Kn.val (g := g) (d := .int _) h rfl⟩
  · exact h.elim
theorem minI_mem : ∀ {l : List Int}, 0 < l.length → minI l ∈ l ∧ ∀ y ∈ l, minI l ≤ y
  | [], h => by cases h
  | [x], _ => ⟨by simp [minI], by simp [minI]⟩
  | x :: y :: r, _ => by
    obtain ⟨h1, h2⟩ := minI_mem (l := y :: r) (by simp)
    unfold minI
    split
    · exact ⟨List.mem_cons_of_mem _ h1, fun z hz => by
        rcases List.mem_cons.mp hz with e | e
        · omega
        · exact h2 z e⟩
    · refine ⟨List.mem_cons_self, fun z hz => ?_⟩
      rcases List.mem_cons.mp hz with e | e
      · omega
      · have := h2 z e
        omega
theorem maxI_mem : ∀ {l : List Int}, 0 < l.length → maxI l ∈ l ∧ ∀ y ∈ l, y ≤ maxI l
  | [], h => by cases h
  | [x], _ => ⟨by simp [maxI], by simp [maxI]⟩
  | x :: y :: r, _ => by
    obtain ⟨h1, h2⟩ := maxI_mem (l := y :: r) (by simp)
    unfold maxI
    split
    · exact ⟨List.mem_cons_of_mem _ h1, fun z hz => by
        rcases List.mem_cons.mp hz with e | e
        · omega
        · exact h2 z e⟩
    · refine ⟨List.mem_cons_self, fun z hz => ?_⟩
      rcases List.mem_cons.mp hz with e | e
      · omega
      · have := h2 z e
        omega
theorem vn_min2 : VN g gMin2 (fun xs H Q => (∃ i j, xs = [.int i, .int j] ∧ Q (.int (if j < i then j else i)) H) ∨ rMin g.K xs H Q) := by
  intro w st ds xs Q F rp h
  unfold gMin2 at h
  split at h
  · obtain ⟨x, rfl, rx⟩ := pps1 rp
    rw [Res.sat_bind] at h
    obtain ⟨is, e, h⟩ := optR_ok h
    obtain ⟨a, vs, rfl, ha, ra⟩ := rx.lst
    have e' := i1_rep e ra
    subst e'
    obtain ⟨h0, h⟩ := Res.sat_ite _ _ h
    obtain ⟨h1, h2⟩ := minI_mem h0
    refine .inr ⟨a, is, rfl, SqL.of ha, h0, fun m hm hy => ?_⟩
    have em : m = minI is := by
      have := hy _ h1
      have := h2 m hm
      omega
    subst em
    exact Kn.val (g := g) (d := .int _) h rfl
  · obtain ⟨x, y, rfl, rx, ry⟩ := pps2 rp
    exact .inl ⟨_, _, by rw [rx.int, ry.int], Kn.val (g := g) (d := .int _) h rfl⟩
  · exact h.elim
theorem vn_max2 : VN g gMax2 (fun xs H Q => (∃ i j, xs = [.int i, .int j] ∧ Q (.int (if j > i then j else i)) H) ∨ rMax g.K xs H Q) := by
  intro w st ds xs Q F rp h
  unfold gMax2 at h
  split at h
  · obtain ⟨x, rfl, rx⟩ := pps1 rp
    rw [Res.sat_bind] at h
    obtain ⟨is, e, h⟩ := optR_ok h
    obtain ⟨a, vs, rfl, ha, ra⟩ := rx.lst
    have e' := i1_rep e ra
    subst e'
    obtain ⟨h0, h⟩ := Res.sat_ite _ _ h
    obtain ⟨h1, h2⟩ := maxI_mem h0
    refine .inr ⟨a, is, rfl, SqL.of ha, h0, fun m hm hy => ?_⟩
    have em : m = maxI is := by
      have := hy _ h1
      have := h2 m hm
      omega
    subst em
    exact Kn.val (g := g) (d := .int _) h rfl
  · obtain ⟨x, y, rfl, rx, ry⟩ := pps2 rp
    exact .inl ⟨_, _, by rw [rx.int, ry.int], Kn.val (g := g) (d := .int _) h rfl⟩
  · exact h.elim
def rSrtT (K : PySem.W.Frag) : List V → Hp → VK → Prop := fun xs H Q => ∃ (l : Addr) (is : List Int), xs = [.ref l] ∧ SqT K H l (is.map V.int) ∧ ∀ (os : List Int) (p : Addr), os.Perm is → os.Pairwise (· ≤ ·) → H p = none → Q (.ref p) (upd H p (.lst (os.map V.int)))
theorem cr_srtT : CallR X (.builtin "sorted") (rSrtT X.K) := by
  intro pins s σ H xs us Q I r h
  obtain ⟨l, is, rfl, hq, q⟩ := h
  obtain ⟨its, rv, ⟨o, ho, oc, n, od⟩, hz⟩ := I.tuple hq
  have il := rv.length
  rw [Vals.ref1 r]
  refine Calls.call_function_entry kind_sorted plain_sorted entry_sorted (args_sorted1 _) ?_
  unfold Builtin.«sorted»
  refine wpAny_bind (m := checkCount "sorted" 1 1 _) (wpAny_pure (wpAny_bind (wpAny_collect_seq l (.inr rfl) ho oc od (fun h' hk => ?_) (by rw [List.size_toArray, ← il]; exact hz))))
  have e : its.toArray.toList = its := by simp
  rw [e]
  refine wpAny_bind (wpAny_newList ?_ (by rw [← il]; exact hz))
  have at0 : (h'.push (seqObj "list" its.toArray 0)).get? h'.objs.size = some (seqObj "list" its.toArray 0) := Heap.get?_push_size _ rfl
  refine wpAny_bind (wpAny_holding (wpAny_call_entry slot_list_sort ⟨_, at0, rfl⟩ entry_list_sort (list_sort_treeAny at0 rv.ints (by rw [← il]; exact hz) fun out os h1 h2 h3 => ⟨_, rfl, wpAny_pure ?_⟩) (args_list_sort _)))
  obtain ⟨ep, he⟩ := sortedHeap_at (out := out) at0
  have hl : (os.map V.int).length ≤ sizeLine := by
    rw [List.length_map, h2.length_eq, ← List.length_map (f := V.int)]
    exact hz
  have I1 : Inv X pins σ H { s with heap := h' } := I.kept (t' := s.toks) hk
  refine ⟨_, rfl, .ref h'.objs.size, upd H h'.objs.size (.lst (os.map V.int)), I1.laid (t' := s.toks) (fun b u hb => ?_) (Nat.le_refl _) ⟨hl, out.toList, ep, vals_of_ints h1, he⟩, rfl, q os _ h2 h3 (I1.hok.fresh (Nat.le_refl _))⟩
  have lb := Heap.lt_size hb
  rw [sortedHeap_old (Nat.ne_of_lt lb) (by rw [size_push']; exact Nat.lt_succ_of_lt lb)]
  exact Heap.get?_push_of_some _ hb
def rSrt (K : PySem.W.Frag) : List V → Hp → VK → Prop := fun vs H Q => (rSortedS K vs H Q ∨ rSortedI K vs H Q) ∨ rSrtT K vs H Q
theorem cr_srt : CallR X (.builtin "sorted") (rSrt X.K) := (cr_sortedS.or cr_sortedI).or cr_srtT
theorem vn_sorted : VN g gSorted (rSrt g.K) := by
  intro w st ds xs Q F rp h
  unfold gSorted at h
  split at h
  · rename_i zs
    obtain ⟨x, rfl, rx⟩ := pps1 rp
    obtain ⟨a, vs, rfl, ha, ra⟩ := rx.lst
    split at h
    · rename_i ss e
      obtain ⟨hz, h⟩ := Res.sat_ite _ _ h
      obtain ⟨e', ok⟩ := s1_rep e ra
      subst e'
      refine .inl (.inl ⟨a, ss, rfl, SqL.of ha, hz, fun ys p pm hs hp => ?_⟩)
      have ey := sortS_unique pm hs
      subst ey
      exact Kn.lst F h (strs_rep fun z hz => ok z ((sortS_perm ss).subset hz)) p hp
    · rw [Res.sat_bind] at h
      obtain ⟨is, e, h⟩ := optR_ok h
      have e' := i1_rep e ra
      subst e'
      refine .inl (.inr ⟨a, is, rfl, SqL.of ha, fun ys p pm hs hp => ?_⟩)
      have ey := sortI_unique pm hs
      subst ey
      exact Kn.lst F h (RepL.ints _) p hp
  · rename_i k zs
    obtain ⟨x, rfl, rx⟩ := pps1 rp
    obtain ⟨a, vs, rfl, na, ra, rA⟩ := rx.tup
    rw [Res.sat_bind] at h
    obtain ⟨is, e, h⟩ := optR_ok h
    have e' := i1_rep e ra
    subst e'
    refine .inr ⟨a, is, rfl, na.sq, fun ys p pm hs hp => ?_⟩
    have ey := sortI_unique pm hs
    subst ey
    exact Kn.lst F h (RepL.ints _) p hp
  · exact h.elim
end

def knownT : List String := ["list", "tuple", "int", "bool", "str", "dict"]
theorem kit_all : ∀ a ∈ ["NoneType", "bool", "int", "str", "tuple", "list"], ∀ T ∈ knownT, kitB a T = some (tySub a T) := by decide +kernel
theorem kit_known (d : D) (h : plainD d = true) (T : String) (hT : T ∈ knownT) : kitB (tyN d) T = some (isT d T) := by
  refine kit_all _ ?_ T hT
  cases d <;> first | (cases h; done) | simp [tyN]
theorem tyx_rep {g : Cg} {w : W} {st : List (List D)} (F : Wf g w st) {d : D} {v : V} (h : plainD d = true) (r : RepP g w d v) : TyX g.K w.H v (.type (tyN d)) := by
  cases d with
  | non =>
    rcases r with r | ⟨_, _, _, _, e, _⟩
    · unfold Rep at r
      subst r
      exact .base .non
    · cases e
  | bl b => rw [r.bl]; exact .base (.bl b)
  | int b => rw [r.int]; exact .base (.int b)
  | str b => rw [r.str.1]; exact .base (.str b)
  | tup k ds =>
    obtain ⟨a, vs, rfl, na, _⟩ := r.tup
    rcases na with ⟨_, o, e, _⟩ | ⟨_, _, e⟩ | ⟨_, o, its, n, e, c, _⟩
    · exact .fTuple e
    · exact .base (.tup e)
    · exact .kTuple e c
  | lst ds =>
    obtain ⟨a, vs, rfl, ha, _⟩ := r.lst
    exact .base (.lst ha)
  | cell n =>
    obtain ⟨a, rfl, hm⟩ := r.cell
    have hl : n < st.length := by
      rw [← F.clen]
      exact (List.getElem?_eq_some_iff.mp hm).1
    obtain ⟨vs, ha, _⟩ := F.cells n a st[n] hm (List.getElem?_eq_getElem hl)
    exact .base (.lst ha)
  | _ => cases h
end Ev
set_option Elab.async false
set_option maxRecDepth 100000
set_option maxHeartbeats 2000000
namespace Ev
open PySem PySem.Spec PyProof.Rows L2
set_option autoImplicit false
section
variable {g : Cg} {c : Fc} {w w' : W} {σ fv : Tv} {s : S} {C : Cl} {Dn : Ends}

/-- the object at a is changed: what else stands -/
structure MutOk (w : W) (a : Addr) (xs : List V) (w3 : W) : Prop where
  eq : w3 = ⟨upd w.H a (.lst xs), w.Fz, w.μ⟩
theorem mut_le {a : Addr} {xs : List V} (h : ¬ w.Fz a) : Le w ⟨upd w.H a (.lst xs), w.Fz, w.μ⟩ := ⟨fun _ h => h, fun _ _ h => h, fun b f => upd_ne (fun z : b = a => h (by rw [← z]; exact f))⟩
theorem mut_ne {H : Hp} {a b : Addr} {o o' : HO} (h : H b = some o) (hn : b ≠ a) : upd H a o' b = some o := by rw [upd_ne hn]; exact h
/-- a list of the frame's own, in slot i, is changed -/
theorem Sim.mutO (S : Sim g c w σ fv s) {i : Nat} {ds ds' : List D} {a : Addr} {vs' : List V} (e : s.ρ[i]? = some (some (.own ds))) (t : (σ ++ fv)[i]? = some (some (.ref a))) (r : RepL g w ds' vs') :
    Sim g c ⟨upd w.H a (.lst vs'), w.Fz, w.μ⟩ σ fv ⟨s.ρ.set i (some (.own ds')), s.st⟩ ∧ Le w ⟨upd w.H a (.lst vs'), w.Fz, w.μ⟩ ∧ Stp (Ow (σ ++ fv) s.ρ) w ⟨upd w.H a (.lst vs'), w.Fz, w.μ⟩ := by
  have oa : Ow (σ ++ fv) s.ρ a := ⟨i, _, e, rfl, t⟩
  obtain ⟨nf, nm, n0⟩ := S.own a oa
  obtain ⟨xs, ha⟩ := S.owH oa
  have l := mut_le (xs := vs') nf
  have hi : i < s.ρ.length := (List.getElem?_eq_some_iff.mp e).1
  have old : ∀ {j : Nat} {m' : M}, (s.ρ.set i (some (.own ds')))[j]? = some (some m') → (j = i ∧ m' = .own ds') ∨ (j ≠ i ∧ s.ρ[j]? = some (some m')) := fun {j m'} e => by
    rcases set_get e with ⟨q, z⟩ | ⟨q, z⟩
    · cases z
      exact .inl ⟨q.symm, rfl⟩
    · exact .inr ⟨fun z => q z.symm, z⟩
  have ow : ∀ b, Ow (σ ++ fv) (s.ρ.set i (some (.own ds'))) b → Ow (σ ++ fv) s.ρ b := fun b ⟨j, m, e1, o, t1⟩ => by
    rcases old e1 with ⟨q, z⟩ | ⟨q, z⟩
    · subst q
      exact ⟨j, _, e, rfl, t1⟩
    · exact ⟨j, m, z, o, t1⟩
  have st : ∀ {T : Addr → Prop} {wb : W}, Stp T wb w → (∀ o, wb.H a = some o → T a) → Stp T wb ⟨upd w.H a (.lst vs'), w.Fz, w.μ⟩ := fun {T wb} k hT => by
    refine ⟨k.le.trans l, fun b o q m tt => ?_, fun b hb => ?_, fun b o q => ?_⟩
    · obtain ⟨e1, f1, m1⟩ := k.oth b o q m tt
      exact ⟨mut_ne e1 fun z => tt (by rw [z] at q ⊢; exact hT o q), f1, m1⟩
    · obtain ⟨o', q'⟩ := k.mu b hb
      refine ⟨o', mut_ne q' fun z => nm ?_⟩
      obtain ⟨n, hn⟩ := List.mem_iff_getElem?.mp hb
      exact z ▸ List.mem_iff_getElem?.mpr ⟨n, k.le.pre n b hn⟩
    · obtain ⟨o', q'⟩ := k.there b o q
      by_cases z : b = a
      · subst z
        exact ⟨_, upd_same⟩
      · exact ⟨o', mut_ne q' z⟩
  refine ⟨⟨by simpa using S.len, fun j m e1 => ?_, fun b o => S.own b (ow b o), fun j k mj mk b e1 o1 e2 o2 t1 t2 => ?_, fun z e1 => ?_, S.nof, fun b f => ?_, S.mu, S.mund, S.clen, fun n b ds e1 e2 => ?_, st S.step0 (fun o q => by rw [n0] at q; cases q), S.sn⟩, l, st (S.here _) fun _ _ => oa⟩
  · rcases old e1 with ⟨q, z⟩ | ⟨q, z⟩
    · subst q z
      exact ⟨_, t, a, vs', rfl, upd_same, RepL.le l r⟩
    · obtain ⟨v, hv, rm⟩ := S.env j m z
      refine ⟨v, hv, ?_⟩
      cases m with
      | val d => exact Rep.le l rm
      | odic _ => exact rm
      | slf => exact rm
      | own es =>
        obtain ⟨b, us, e3, hb, rb⟩ := rm
        subst e3
        exact ⟨b, us, rfl, mut_ne hb fun y => q (S.sep j i _ _ b z rfl e rfl hv (y ▸ t)), RepL.le l rb⟩
  · rcases old e1 with ⟨q1, z1⟩ | ⟨q1, z1⟩ <;> rcases old e2 with ⟨q2, z2⟩ | ⟨q2, z2⟩
    · rw [q1, q2]
    · subst q1
      exact S.sep j k _ mk b e rfl z2 o2 t1 t2
    · subst q2
      exact S.sep j k mj _ b z1 o1 e rfl t1 t2
    · exact S.sep j k mj mk b z1 o1 z2 o2 t1 t2
  · obtain ⟨h1, ⟨od, hd, nd⟩, vz, q, k⟩ := S.slf z e1
    have na : z.a ≠ a := fun y => slt_not_lst q xs (by rw [y]; exact ha)
    have nx : z.dx ≠ a := fun y => by
      rw [y, ha] at hd
      exact nd _ (Option.some.inj hd).symm
    refine ⟨h1, ⟨od, mut_ne hd nx, nd⟩, vz, ?_, k⟩
    unfold SlX.Slt at q ⊢
    show (upd w.H a _ z.a = _ ∧ _) ∨ (upd w.H a _ z.a = _ ∧ upd w.H a _ z.dx = _)
    rw [upd_ne na, upd_ne nx]
    exact q
  · obtain ⟨o, q⟩ := S.fz b f
    exact ⟨o, mut_ne q fun z => nf (z ▸ f)⟩
  · obtain ⟨us, q, rb⟩ := S.cells n b ds e1 e2
    exact ⟨us, mut_ne q fun z => nm (z ▸ List.mem_of_getElem? e1), RepL.le l rb⟩
/-- a shared list is changed -/
theorem Sim.mutC (S : Sim g c w σ fv s) {n : Nat} {ds' : List D} {a : Addr} {vs' : List V} (e : w.μ[n]? = some a) (r : RepL g w ds' vs') :
    Sim g c ⟨upd w.H a (.lst vs'), w.Fz, w.μ⟩ σ fv ⟨s.ρ, s.st.set n ds'⟩ ∧ Le w ⟨upd w.H a (.lst vs'), w.Fz, w.μ⟩ ∧ Stp (Ow (σ ++ fv) s.ρ) w ⟨upd w.H a (.lst vs'), w.Fz, w.μ⟩ := by
  have hm : a ∈ w.μ := List.mem_of_getElem? e
  have nf := S.mu a hm
  have l := mut_le (xs := vs') nf
  have hn : n < w.μ.length := (List.getElem?_eq_some_iff.mp e).1
  have hs : n < s.st.length := by rw [← S.clen]; exact hn
  obtain ⟨xs, ha, _⟩ := S.cells n a s.st[n] e (List.getElem?_eq_getElem hs)
  have st : ∀ {T : Addr → Prop} {wb : W}, Stp T wb w → (∀ b o, wb.H b = some o → b ∉ wb.μ → ¬ T b → b ∉ w.μ) → Stp T wb ⟨upd w.H a (.lst vs'), w.Fz, w.μ⟩ := fun {T wb} k hT => by
    refine ⟨k.le.trans l, fun b o q m tt => ?_, fun b hb => ?_, fun b o q => ?_⟩
    · obtain ⟨e1, f1, m1⟩ := k.oth b o q m tt
      exact ⟨mut_ne e1 fun z => m1 (z ▸ hm), f1, m1⟩
    · obtain ⟨o', q'⟩ := k.mu b hb
      by_cases z : b = a
      · subst z
        exact ⟨_, upd_same⟩
      · exact ⟨o', mut_ne q' z⟩
    · obtain ⟨o', q'⟩ := k.there b o q
      by_cases z : b = a
      · subst z
        exact ⟨_, upd_same⟩
      · exact ⟨o', mut_ne q' z⟩
  refine ⟨⟨S.len, fun j m e1 => ?_, S.own, S.sep, fun z e1 => ?_, S.nof, fun b f => ?_, S.mu, S.mund, by simpa using S.clen, fun k b ds e1 e2 => ?_, st S.step0 (fun b o q m t => (S.step0.oth b o q m t).2.2), S.sn⟩, l, st (S.here _) fun b o _ m _ => m⟩
  · obtain ⟨v, hv, rm⟩ := S.env j m e1
    refine ⟨v, hv, ?_⟩
    cases m with
    | val d => exact Rep.le l rm
    | odic _ => exact rm
    | slf => exact rm
    | own es =>
      obtain ⟨b, us, e3, hb, rb⟩ := rm
      subst e3
      exact ⟨b, us, rfl, mut_ne hb fun y => (S.own b ⟨j, _, e1, rfl, hv⟩).2.1 (y ▸ hm), RepL.le l rb⟩
  · obtain ⟨h1, ⟨od, hd, nd⟩, vz, q, k⟩ := S.slf z e1
    have na : z.a ≠ a := fun y => h1.2.2.1 (y ▸ hm)
    have nx : z.dx ≠ a := fun y => h1.2.2.2.1 (y ▸ hm)
    refine ⟨h1, ⟨od, mut_ne hd nx, nd⟩, vz, ?_, k⟩
    unfold SlX.Slt at q ⊢
    show (upd w.H a _ z.a = _ ∧ _) ∨ (upd w.H a _ z.a = _ ∧ upd w.H a _ z.dx = _)
    rw [upd_ne na, upd_ne nx]
    exact q
  · obtain ⟨o, q⟩ := S.fz b f
    exact ⟨o, mut_ne q fun z => nf (z ▸ f)⟩
  · by_cases hk : n = k
    · subst hk
      rw [e] at e1
      cases e1
      have hl : n < s.st.length := by rw [← S.clen]; exact hn
      have e2 : (s.st.set n ds')[n]? = some ds := e2
      rw [List.getElem?_set_self hl] at e2
      cases e2
      exact ⟨vs', upd_same, RepL.le l r⟩
    · have e2 : (s.st.set n ds')[k]? = some ds := e2
      rw [List.getElem?_set_ne hk] at e2
      obtain ⟨us, q, rb⟩ := S.cells k b ds e1 e2
      refine ⟨us, mut_ne q fun z => hk ?_, RepL.le l rb⟩
      subst z
      exact (List.getElem?_inj hn S.mund).mp (e.trans e1.symm)

theorem RepL.one {d : D} {v : V} (r : Rep g w d v) : RepL g w [d] [v] := by
  unfold RepL
  exact ⟨v, [], rfl, r, rfl⟩
theorem ownAt_ok {ρ : List (Option M)} {i : Nat} (h : ownAt ρ i = true) : ∃ ds, ρ[i]? = some (some (.own ds)) := by
  unfold ownAt at h
  split at h
  · exact ⟨_, by assumption⟩
  · cases h
theorem defAt_ok {ρ : List (Option M)} {i : Nat} (h : defAt ρ i = true) : ∃ m, ρ[i]? = some (some m) := by
  unfold defAt at h
  split at h
  · exact ⟨_, by assumption⟩
  · cases h
theorem tau_lt {i : Nat} (hi : i < σ.length) : (σ ++ fv)[i]? = σ[i]? := List.getElem?_append_left hi
theorem Sim.ownL (S : Sim g c w σ fv s) {i : Nat} (hi : i < σ.length) {ds : List D} (e : s.ρ[i]? = some (some (.own ds))) : ∃ a vs, σ[i]? = some (some (.ref a)) ∧ (σ ++ fv)[i]? = some (some (.ref a)) ∧ w.H a = some (.lst vs) ∧ RepL g w ds vs := by
  obtain ⟨v, hv, a, vs, rfl, hH, hr⟩ := S.env i _ e
  exact ⟨a, vs, by rw [← hv, tau_lt hi], hv, hH, hr⟩
theorem RepL.set : ∀ {ds : List D} {vs : List V} {d : D} {v : V}, RepL g w ds vs → Rep g w d v → ∀ j : Nat, RepL g w (ds.set j d) (vs.set j v)
  | [], vs, d, v, h, r, j => by
    unfold RepL at h
    subst h
    simp [RepL]
  | e :: ds, vs, d, v, h, r, j => by
    unfold RepL at h
    obtain ⟨x, t, rfl, h1, h2⟩ := h
    cases j with
    | zero =>
      show RepL g w (d :: ds) (v :: t)
      unfold RepL
      exact ⟨v, t, rfl, r, h2⟩
    | succ j =>
      show RepL g w (e :: ds.set j d) (x :: t.set j v)
      unfold RepL
      exact ⟨x, _, rfl, h1, RepL.set h2 r j⟩
theorem RepL.erase : ∀ {ds : List D} {vs : List V}, RepL g w ds vs → ∀ j : Nat, RepL g w (ds.eraseIdx j) (vs.eraseIdx j)
  | [], vs, h, j => by
    unfold RepL at h
    subst h
    simp [RepL]
  | e :: ds, vs, h, j => by
    unfold RepL at h
    obtain ⟨x, t, rfl, h1, h2⟩ := h
    cases j with
    | zero => exact h2
    | succ j =>
      show RepL g w (e :: ds.eraseIdx j) (x :: t.eraseIdx j)
      unfold RepL
      exact ⟨x, _, rfl, h1, RepL.erase h2 j⟩
theorem tS_app {i : Nat} (hi : i < σ.length) {f : SE} {H : Hp} (h : tS g C (appF i f) Dn σ H) : tDrop (tBM g.K "list" rAppend (tVar i) (tCons (tE g C f) tNil)) Dn σ H := by
  obtain ⟨c, w, fv, s, rfl, S, h⟩ := h
  unfold appF at h
  obtain ⟨h0, h⟩ := Res.sat_ite _ _ h
  obtain ⟨es, e0⟩ := ownAt_ok h0
  obtain ⟨a, vs0, ha, ht, hH0, _⟩ := S.ownL hi e0
  rw [Res.sat_bind] at h
  refine ⟨_, ha, .inl ⟨rfl, vs0, .inl (.inl hH0)⟩, c, w, fv, s, rfl, S, h.mono fun p h v w1 A r => ?_⟩
  obtain ⟨r0, s1⟩ := p
  rw [Res.sat_bind] at h
  obtain ⟨d, s2, w2, h, hH, A2, rd⟩ := frz_ok S A r h
  try dsimp only at h
  split at h
  · rename_i ds e2
    obtain ⟨hz, h⟩ := Res.sat_ite _ _ h
    obtain ⟨a', vs, ha', ht', hH2, hr⟩ := A2.sim.ownL hi e2
    rw [ha] at ha'
    cases ha'
    obtain ⟨S3, l3, _⟩ := A2.sim.mutO e2 ht (hr.append (RepL.one rd))
    refine ⟨a, vs, v, rfl, rfl, by rw [← hH]; exact hH2, by rw [← hr.length]; exact hz, ?_⟩
    have := h σ fv _ (A2.stp.le.trans l3) S3
    rw [hH] at this
    exact this
  · exact h.elim
theorem ixN_same : @Ev.ixN = @L2.ixN := rfl
/-- x[e] = v -/
theorem tS_setIx {i : Nat} (hi : i < σ.length) {f v : SE} {H : Hp} (h : tS g C (setIxF i f v) Dn σ H) : tAsg (tE g C v) (L2.gSub (tVar i) (tE g C f) rSetL) Dn σ H := by
  obtain ⟨c, w, fv, s, rfl, S, h⟩ := h
  unfold setIxF at h
  rw [Res.sat_bind] at h
  refine ⟨c, w, fv, s, rfl, S, h.mono fun p h x w1 A r => ?_⟩
  obtain ⟨r0, s1⟩ := p
  rw [Res.sat_bind] at h
  obtain ⟨d, s2, w2, h, hH, A2, rd⟩ := frz_ok S A r h
  obtain ⟨h0, h⟩ := Res.sat_ite _ _ h
  obtain ⟨m0, e0⟩ := defAt_ok h0
  obtain ⟨o, ho, _⟩ := A2.sim.env i _ e0
  rw [tau_lt hi] at ho
  rw [Res.sat_bind] at h
  refine ⟨o, ho, c, w2, fv, s2, hH, A2.sim, h.mono fun p h y w3 A3 r3 => ?_⟩
  obtain ⟨r1, s3⟩ := p
  rw [Res.sat_bind] at h
  obtain ⟨k, h, _, ey⟩ := int1_ok r3 h
  subst ey
  try dsimp only at h
  split at h
  · rename_i ds e3
    rw [Res.sat_bind] at h
    obtain ⟨j, hj, h⟩ := optR_ok h
    obtain ⟨a, vs, ha, ht, hH3, hr⟩ := A3.sim.ownL hi e3
    rw [ho] at ha
    cases ha
    have hj' : L2.ixN vs.length k = some j := by rw [← hr.length, ← ixN_same]; exact hj
    obtain ⟨S4, l4, _⟩ := A3.sim.mutO e3 ht (hr.set (Rep.le A3.stp.le rd) j)
    exact ⟨a, vs, k, j, rfl, rfl, hH3, hj', h σ fv _ ((A2.stp.le.trans A3.stp.le).trans l4) S4⟩
  · rename_i n e3
    rw [Res.sat_bind] at h
    obtain ⟨ds, hd, h⟩ := optR_ok h
    rw [Res.sat_bind] at h
    obtain ⟨j, hj, h⟩ := optR_ok h
    obtain ⟨v', hv', rc⟩ := A3.sim.env i _ e3
    rw [tau_lt hi, ho] at hv'
    cases hv'
    unfold RepM Rep at rc
    obtain ⟨a, rfl, hm⟩ := rc
    obtain ⟨vs, hH3, hr⟩ := A3.sim.cells n a ds hm hd
    have hj' : L2.ixN vs.length k = some j := by rw [← hr.length, ← ixN_same]; exact hj
    obtain ⟨S4, l4, _⟩ := A3.sim.mutC hm (hr.set (Rep.le A3.stp.le rd) j)
    exact ⟨a, vs, k, j, rfl, rfl, hH3, hj', h σ fv _ ((A2.stp.le.trans A3.stp.le).trans l4) S4⟩
  · exact h.elim
theorem tS_aug {i : Nat} (hi : i < σ.length) {f : SE} {H : Hp} (h : tS g C (augF i f) Dn σ H) : tAug i (tE g C f) (ipI fun i j => i + j) Dn σ H := by
  obtain ⟨c, w, fv, s, rfl, S, h⟩ := h
  unfold augF at h
  obtain ⟨h0, h⟩ := Res.sat_ite _ _ h
  obtain ⟨m0, e0⟩ := defAt_ok h0
  obtain ⟨o, ho, _⟩ := S.env i _ e0
  rw [tau_lt hi] at ho
  rw [Res.sat_bind] at h
  refine ⟨o, ho, c, w, fv, s, rfl, S, h.mono fun p h y w1 A r => ?_⟩
  obtain ⟨r0, s1⟩ := p
  rw [Res.sat_bind] at h
  obtain ⟨k, h, _, ey⟩ := int1_ok r h
  subst ey
  try dsimp only at h
  split at h
  · rename_i j e1
    obtain ⟨v', hv', rc⟩ := A.sim.env i _ e1
    rw [tau_lt hi, ho] at hv'
    cases hv'
    unfold RepM Rep at rc
    subst rc
    refine ⟨j, k, rfl, rfl, ?_⟩
    exact h _ fv w1 A.stp.le (A.sim.put hi (m := .val (.int (j + k))) (v := .int (j + k)) (by show Rep g w1 (.int (j + k)) _; unfold Rep; rfl) (fun a z => by cases z))
  · exact h.elim
theorem tPop_le {i : Nat} (hi : i < σ.length) {f : SE} {H : Hp} {Q : VK} (h : tE g C (popF i f) σ H Q) : tBM g.K "list" rPopAt (tVar i) (tCons (tE g C f) tNil) σ H Q := by
  obtain ⟨c, w, fv, s, rfl, S, h⟩ := h
  unfold popF at h
  obtain ⟨h0, h⟩ := Res.sat_ite _ _ h
  obtain ⟨es, e0⟩ := ownAt_ok h0
  obtain ⟨a, vs0, ha, ht, hH0, _⟩ := S.ownL hi e0
  rw [Res.sat_bind] at h
  refine ⟨_, ha, .inl ⟨rfl, vs0, .inl (.inl hH0)⟩, c, w, fv, s, rfl, S, h.mono fun p h v w1 A r => ?_⟩
  obtain ⟨r0, s1⟩ := p
  rw [Res.sat_bind] at h
  obtain ⟨k, h, _, ey⟩ := int1_ok r h
  subst ey
  try dsimp only at h
  split at h
  · rename_i ds e2
    obtain ⟨hz, h⟩ := Res.sat_ite _ _ h
    rw [Res.sat_bind] at h
    obtain ⟨j, hj, h⟩ := optR_ok h
    rw [Res.sat_bind] at h
    obtain ⟨d, hd, h⟩ := optR_ok h
    obtain ⟨a', vs, ha', ht', hH2, hr⟩ := A.sim.ownL hi e2
    rw [ha] at ha'
    cases ha'
    obtain ⟨x, hx, rx⟩ := hr.get hd
    have hj' : L2.ixN vs.length k = some j := by rw [← hr.length, ← ixN_same]; exact hj
    obtain ⟨q1, q2, q3, q4⟩ := ixN_seq hj'
    obtain ⟨S3, l3, st3⟩ := A.sim.mutO e2 ht (hr.erase j)
    refine ⟨a, vs, k, j, x, rfl, rfl, hH2, (by have := okP_iff.mp hz; omega), (by have := okP_iff.mp hz; omega), q1, hx, h x _ (A.trans ⟨st3, S3, ?_⟩) (Rep.le l3 rx)⟩
    refine ⟨fun b m e o => ?_, fun b m e => ?_⟩
    · rcases set_get e with ⟨z, _⟩ | ⟨_, z⟩
      · subst z
        exact ⟨_, e2, rfl⟩
      · exact ⟨m, z, o⟩
    · by_cases z : i = b
      · subst z
        exact ⟨_, List.getElem?_set_self (List.getElem?_eq_some_iff.mp e2).1⟩
      · exact ⟨m, by show (s1.ρ.set i _)[b]? = _; rw [List.getElem?_set_ne z]; exact e⟩
  · exact h.elim
end
end Ev
set_option Elab.async false
set_option maxRecDepth 100000
set_option maxHeartbeats 2000000
namespace Ev
open PySem PySem.Spec PyProof.Rows L2
set_option autoImplicit false
theorem PEn {X : Cx} {e : Expr} {t t' : TE} (h : PE X e t) (k : ∀ σ H Q, σ.length = X.N.length → t' σ H Q → t σ H Q) : PE X e t' := ⟨fun pins s σ H Q I q => h.run pins s σ H Q I (k σ H Q I.len q)⟩
theorem PTn {X : Cx} {e : Expr} {t t' : TT} (h : PT X e t) (k : ∀ σ H Q, σ.length = X.N.length → t' σ H Q → t σ H Q) : PT X e t' := ⟨fun pins s σ H Q I q => h.run pins s σ H Q I (k σ H Q I.len q)⟩
theorem PSn {X : Cx} {e : Stmt} {t t' : TS} (h : PS X e t) (k : ∀ D σ H, σ.length = X.N.length → t' D σ H → t D σ H) : PS X e t' := ⟨fun pins s σ H D I q => h.run pins s σ H D I (k D σ H I.len q)⟩
section
variable {g : Cg} {c : Fc} {w w' : W} {σ fv : Tv} {s : S} {C : Cl} {Dn : Ends}

theorem look_ok {w1 : W} {s1 : S} {r : R} {v : V} (A : Aft g c σ fv w s w1 s1) (h : RepR g w w1 (σ ++ fv) s1.ρ r v) {P : D → Prop} (k : (pk s1.ρ (opd r)).Sat P) : ∃ d, P d ∧ RepP g w1 d v := by
  cases r with
  | val d => exact ⟨d, k, .inl h⟩
  | own ds =>
    obtain ⟨a, vs, e, hH, hr, _⟩ := h
    exact ⟨.lst ds, k, .inr ⟨a, vs, ds, e, rfl, hH, hr⟩⟩
  | odic _ => exact h.elim
  | ref i =>
    obtain ⟨ht, m, hm, _⟩ := h
    exact pk_ok A.sim (o := .ref i) ⟨ht, m, hm⟩ k
theorem RepR.base {w1 w2 : W} {s1 : S} {r : R} {v : V} (A : Aft g c σ fv w s w1 s1) {ρ' : List (Option M)} (h : RepR g w1 w2 (σ ++ fv) ρ' r v) : RepR g w w2 (σ ++ fv) ρ' r v := by
  cases r with
  | val d => exact h
  | odic _ => exact h
  | ref i => exact h
  | own ds =>
    obtain ⟨a, vs, e, hH, hr, hf, hm, hn⟩ := h
    refine ⟨a, vs, e, hH, hr, hf, hm, ?_⟩
    cases q : w.H a with
    | none => rfl
    | some o =>
      obtain ⟨o', e'⟩ := A.stp.there a o q
      rw [hn] at e'
      cases e'
/-- list or other -/
theorem tOr_le {f k : SE} {H : Hp} {Q : VK} (h : tE g C (opOr f k) σ H Q) : tOrT g.K (tE g C f) (tE g C k) σ H Q := by
  obtain ⟨c, w, fv, s, rfl, S, h⟩ := h
  unfold opOr at h
  rw [Res.sat_bind] at h
  refine ⟨c, w, fv, s, rfl, S, h.mono fun p h v w1 A r => ?_⟩
  obtain ⟨r0, s1⟩ := p
  rw [Res.sat_bind] at h
  obtain ⟨d, h, rp⟩ := look_ok A r h
  cases d with
  | lst ds =>
    obtain ⟨a, vs, rfl, hH, hr⟩ := rp.lst
    refine ⟨!vs.isEmpty, .inl ⟨vs, .inl (.inl hH), rfl⟩, ?_⟩
    have hl := hr.length
    have e : ds.isEmpty = vs.isEmpty := by
      cases ds <;> cases vs <;> first | rfl | cases hl
    dsimp only at h
    rw [e] at h
    cases q : vs.isEmpty with
    | true =>
      rw [q] at h
      refine L2.iteF ?_
      exact ⟨c, w1, fv, s1, rfl, A.sim, h.mono fun p h v w2 A2 r => h v w2 (A.trans A2) (r.base A)⟩
    | false =>
      rw [q] at h
      refine L2.iteT ?_
      exact h _ w1 A r
  | _ => exact h.elim
/-- a list becomes a shared one -/
theorem Aft.share {w1 : W} {s1 : S} {ds : List D} {v : V} (A : Aft g c σ fv w s w1 s1) (S : Sim g c w σ fv s) (r : RepR g w w1 (σ ++ fv) s1.ρ (.own ds) v) :
    ∃ w2, w2.H = w1.H ∧ Aft g c σ fv w s w2 ⟨s1.ρ, s1.st ++ [ds]⟩ ∧ Rep g w2 (.cell s1.st.length) v := by
  obtain ⟨a, vs, rfl, hH, hr, hf, hm, hn⟩ := r
  have S1 := A.sim
  have l : Le w1 ⟨w1.H, w1.Fz, w1.μ ++ [a]⟩ := ⟨fun _ h => h, fun n b e => by
    show (w1.μ ++ [a])[n]? = some b
    rw [List.getElem?_append_left (List.getElem?_eq_some_iff.mp e).1]
    exact e, fun _ _ => rfl⟩
  have no : ¬ Ow (σ ++ fv) s1.ρ a := fun z => S.not_ow hn (A.env.ow z)
  have mem : ∀ {b : Addr}, b ∉ w1.μ → b ≠ a → b ∉ w1.μ ++ [a] := fun h1 h2 z => by
    rcases List.mem_append.mp z with y | y
    · exact h1 y
    · exact h2 (List.mem_singleton.mp y)
  have n0 := S.new hn
  have st : ∀ {T : Addr → Prop} {wb : W}, wb.H a = none → Stp T wb w1 → Stp T wb ⟨w1.H, w1.Fz, w1.μ ++ [a]⟩ := fun {T wb} h0 k =>
    ⟨k.le.trans l, fun b o e m t => by
      obtain ⟨e1, f1, m1⟩ := k.oth b o e m t
      exact ⟨e1, f1, mem m1 fun z => by rw [z, h0] at e; cases e⟩, k.mu, k.there⟩
  refine ⟨⟨w1.H, w1.Fz, w1.μ ++ [a]⟩, rfl, ⟨st hn A.stp, ?_, A.env⟩, ?_⟩
  · refine ⟨S1.len, fun i m e => ?_, fun b o => ?_, S1.sep, fun z e => ?_, S1.nof, S1.fz, fun b hb f => ?_, ?_, by simp [S1.clen], fun n b es e e' => ?_, st n0 S1.step0, S1.sn⟩
    · obtain ⟨v, hv, rm⟩ := S1.env i m e
      exact ⟨v, hv, rm.le l fun _ _ q => q⟩
    · obtain ⟨h1, h2, h3⟩ := S1.own b o
      exact ⟨h1, mem h2 fun z => no (z ▸ o), h3⟩
    · obtain ⟨⟨h1, h2, h3, h4, h5, h6, h7⟩, ⟨od, hd, nd⟩, vs', q, k⟩ := S1.slf z e
      exact ⟨⟨h1, h2, mem h3 fun y => slt_not_lst q vs (by rw [y]; exact hH), mem h4 fun y => nd vs (by rw [y, hH] at hd; exact (Option.some.inj hd).symm), h5, h6, h7⟩, ⟨od, hd, nd⟩, vs', q, k⟩
    · rcases List.mem_append.mp hb with y | y
      · exact S1.mu b y f
      · rw [List.mem_singleton.mp y] at f
        exact hf f
    · show (w1.μ ++ [a]).Nodup
      rw [List.nodup_append]
      refine ⟨S1.mund, by simp, fun x hx y hy => ?_⟩
      rw [List.mem_singleton.mp hy]
      exact fun z => hm (z ▸ hx)
    · by_cases hl : n < w1.μ.length
      · have e1 : w1.μ[n]? = some b := by
          rw [← List.getElem?_append_left hl (l₂ := [a])]
          exact e
        have e2 : s1.st[n]? = some es := by
          rw [← List.getElem?_append_left (by rw [← S1.clen]; exact hl) (l₂ := [ds])]
          exact e'
        obtain ⟨us, q, rb⟩ := S1.cells n b es e1 e2
        exact ⟨us, q, RepL.le l rb⟩
      · have hc := S1.clen
        have e : (w1.μ ++ [a])[n]? = some b := e
        have e' : (s1.st ++ [ds])[n]? = some es := e'
        rw [List.getElem?_append_right (by omega)] at e e'
        have hn0 : n - w1.μ.length = 0 := by
          have := (List.getElem?_eq_some_iff.mp e).1
          simp only [List.length_singleton] at this
          omega
        rw [hn0] at e
        rw [← hc, hn0] at e'
        simp only [List.getElem?_cons_zero, Option.some.injEq] at e e'
        subst e e'
        exact ⟨vs, hH, RepL.le l hr⟩
  · unfold Rep
    refine ⟨a, rfl, ?_⟩
    show (w1.μ ++ [a])[s1.st.length]? = some a
    rw [← S1.clen, List.getElem?_append_right (Nat.le_refl _)]
    simp
theorem tCell_le {f : SE} {H : Hp} {Q : VK} (h : tE g C (cellF f) σ H Q) : tE g C f σ H Q := by
  obtain ⟨c, w, fv, s, rfl, S, h⟩ := h
  unfold cellF at h
  rw [Res.sat_bind] at h
  refine ⟨c, w, fv, s, rfl, S, h.mono fun p h v w1 A r => ?_⟩
  obtain ⟨r0, s1⟩ := p
  cases r0 with
  | own ds =>
    obtain ⟨w2, hH, A2, rc⟩ := A.share S r
    have := h v w2 A2 rc
    rw [hH] at this
    exact this
  | _ => exact h.elim

def RepTs (g : Cg) (w' : W) : W → List M → List V → Prop
  | _, [], vs => vs = []
  | w, m :: ms, vs => ∃ v r w1, vs = v :: r ∧ RepT g w w' m v ∧ (∀ a, m.isOwn = true → v = .ref a → ∃ o, w1.H a = some o) ∧ (∀ a, w1.H a = none → w.H a = none) ∧ RepTs g w' w1 ms r
def tMs (g : Cg) (C : Cl) (fs : List SE) : TA := fun σ H Q => ∃ c w fv s, w.H = H ∧ Sim g c w σ fv s ∧
  (mOfs fs C s).Sat fun p => ∀ vs w', Aft g c σ fv w s w' p.2 → RepTs g w' w p.1 vs → Q vs w'.H
theorem RepT.aft {w1 w2 : W} {s1 s2 : S} {m : M} {v : V} (S : Sim g c w σ fv s) (A : Aft g c σ fv w s w1 s1) (A2 : Aft g c σ fv w1 s1 w2 s2) (h : RepT g w w1 m v) : RepT g w w2 m v := by
  cases m with
  | val d => exact Rep.le A2.stp.le h
  | odic _ => exact h
  | slf _ => exact h
  | own ds =>
    obtain ⟨a, vs, e, hH, hr, hf, hm, hn⟩ := h
    obtain ⟨e1, f1, m1⟩ := A2.stp.oth a _ hH hm fun z => S.not_ow hn (A.env.ow z)
    exact ⟨a, vs, e, e1, RepL.le A2.stp.le hr, fun z => hf (f1 z), m1, hn⟩
theorem Aft.none {w1 : W} {s1 : S} (A : Aft g c σ fv w s w1 s1) {a : Addr} (h : w1.H a = none) : w.H a = none := by
  cases q : w.H a with
  | none => rfl
  | some o =>
    obtain ⟨o', e'⟩ := A.stp.there a o q
    rw [h] at e'
    cases e'
theorem tMs_nil {H : Hp} {Q : List V → Hp → Prop} (h : tMs g C [] σ H Q) : tNil σ H Q := by
  obtain ⟨c, w, fv, s, rfl, S, h⟩ := h
  exact h [] w S.aft rfl
theorem tMs_cons {f : SE} {fs : List SE} {H : Hp} {Q : List V → Hp → Prop} (h : tMs g C (f :: fs) σ H Q) : tCons (tE g C f) (tMs g C fs) σ H Q := by
  obtain ⟨c, w, fv, s, rfl, S, h⟩ := h
  unfold mOfs at h
  rw [Res.sat_bind] at h
  refine ⟨c, w, fv, s, rfl, S, h.mono fun p h v w1 A r => ?_⟩
  obtain ⟨r0, s1⟩ := p
  rw [Res.sat_bind] at h
  obtain ⟨m, s2, w2, h, hH, A2, rt⟩ := mOf_ok S A r h
  rw [Res.sat_bind] at h
  refine ⟨c, w2, fv, s2, hH, A2.sim, h.mono fun q h vs w3 A3 rs => ?_⟩
  obtain ⟨ms, s3⟩ := q
  refine h (v :: vs) w3 (A2.trans A3) ⟨v, vs, w2, rfl, rt.aft S A2 A3, fun a o e => ?_, fun a h => A2.none h, rs⟩
  cases m with
  | val d => cases o
  | slf _ => cases o
  | odic _ => exact rt.elim
  | own ds =>
    obtain ⟨b, vs, e', hH, _⟩ := rt
    rw [e] at e'
    cases e'
    exact ⟨_, hH⟩
def sets (σ : Tv) : List Nat → List V → Tv
  | i :: is, v :: vs => sets (σ.set i (some v)) is vs
  | _, _ => σ
theorem RepT.to0 {wb : W} {m : M} {v : V} (h0 : ∀ a, wb.H a = none → c.w0.H a = none) (h : RepT g wb w' m v) : RepT g c.w0 w' m v := by
  cases m with
  | val d => exact h
  | odic _ => exact h
  | slf _ => exact h
  | own ds =>
    obtain ⟨a, vs, e, hH, hr, hf, hm, hn⟩ := h
    exact ⟨a, vs, e, hH, hr, hf, hm, h0 a hn⟩
theorem stos_ok {w' : W} : ∀ {is : List Nat} {ms : List M} {vs : List V} {wb : W} {σ : Tv} {s : S} {P : List (Option M) → Prop}, (∀ i ∈ is, i < σ.length) → Sim g c w' σ fv s → RepTs g w' wb ms vs → (∀ a, wb.H a = none → c.w0.H a = none) → (∀ a, Ow (σ ++ fv) s.ρ a → ∃ o, wb.H a = some o) →
    (stos is ms s.ρ).Sat P → ∃ ρ', P ρ' ∧ is.length = vs.length ∧ Sim g c w' (sets σ is vs) fv ⟨ρ', s.st⟩
  | [], [], vs, wb, σ, s, P, hi, S, r, h0, ho, h => by
    unfold RepTs at r
    subst r
    exact ⟨s.ρ, h, rfl, S⟩
  | [], _ :: _, _, _, _, _, _, _, _, _, _, _, h => h.elim
  | _ :: _, [], _, _, _, _, _, _, _, _, _, _, h => h.elim
  | i :: is, m :: ms, vs, wb, σ, s, P, hi, S, r, h0, ho, h => by
    unfold RepTs at r
    obtain ⟨v, r, w1, rfl, rt, hown, hnn, rs⟩ := r
    unfold stos at h
    rw [Res.sat_bind] at h
    obtain ⟨_, h⟩ := sto_ok h
    have no : ∀ a, m.isOwn = true → v = .ref a → ¬ Ow (σ ++ fv) s.ρ a := fun a o e z => by
      cases m with
      | val d => cases o
      | slf _ => cases o
      | odic _ => exact rt
      | own ds =>
        obtain ⟨b, us, e', _, _, _, _, hn⟩ := rt
        rw [e] at e'
        cases e'
        obtain ⟨o', q⟩ := ho _ z
        rw [hn] at q
        cases q
    have hl := hi i List.mem_cons_self
    have S1 := S.put hl (rt.to0 h0) no
    obtain ⟨ρ', p, hlen, S2⟩ := stos_ok (is := is) (ms := ms) (vs := r) (wb := w1) (P := P) (fun j hj => by simpa using hi j (List.mem_cons_of_mem _ hj)) S1 rs (fun a h => h0 a (hnn a h)) (fun a z => by
      obtain ⟨j, m', e, o, t⟩ := z
      have e0 : σ.set i (some v) ++ fv = (σ ++ fv).set i (some v) := by rw [List.set_append_left _ _ hl]
      rcases set_get e with ⟨q, y⟩ | ⟨q, y⟩
      · cases y
        subst q
        rw [e0, List.getElem?_set_self (by rw [List.length_append]; omega)] at t
        exact hown a o (by simpa using t)
      · rw [e0, List.getElem?_set_ne q] at t
        obtain ⟨o', q'⟩ := ho a ⟨j, m', y, o, t⟩
        cases q2 : w1.H a with
        | some o2 => exact ⟨o2, rfl⟩
        | none =>
          rw [hnn a q2] at q'
          cases q') h
    exact ⟨ρ', p, by simp [hlen], S2⟩
theorem tS_par {is : List Nat} {fs : List SE} (hi : ∀ i ∈ is, i < σ.length) {H : Hp} (h : tS g C (parF is fs) Dn σ H) : tMs g C fs σ H fun vs H1 => is.length = vs.length ∧ Dn.nx (sets σ is vs) H1 := by
  obtain ⟨c, w, fv, s, rfl, S, h⟩ := h
  unfold parF at h
  rw [Res.sat_bind] at h
  refine ⟨c, w, fv, s, rfl, S, h.mono fun p h vs w1 A r => ?_⟩
  obtain ⟨ms, s1⟩ := p
  rw [Res.sat_bind] at h
  obtain ⟨ρ', h, hl, S2⟩ := stos_ok hi A.sim r (fun a h => S.new h) (fun a z => by
    obtain ⟨xs, e⟩ := S.owH (A.env.ow z)
    exact ⟨_, e⟩) h
  exact ⟨hl, h _ fv w1 A.stp.le S2⟩
end
end Ev
set_option Elab.async false
set_option maxRecDepth 100000
set_option maxHeartbeats 2000000
namespace Ev
open PySem PySem.Spec PyProof.Rows L2
set_option autoImplicit false
section
variable {X : Cx} {g : Cg} {c : Fc} {w w' : W} {σ fv : Tv} {s : S} {C : Cl} {Dn : Ends}

/-- the answer holds in the heap as it is, and with one more tuple -/
def rIsA (K : PySem.W.Frag) (ts : List String) : List V → Hp → VK → Prop := fun xs H Q => ∃ (x : V) (d : D), xs = [x] ∧ plainD d = true ∧
  ∀ H', (H' = H ∨ ∃ p cs, H p = none ∧ H' = upd H p (.tup cs)) → TyX K H' x (.type (tyN d)) ∧ Q (.bl (ts.any (isT d))) H'
theorem tyx_sub {K : PySem.W.Frag} {H H' : Hp} {st : List (List D)} (hs : ∀ a o, H a = some o → H' a = some o) {d : D} {v : V} (hd : plainD d = true) (F : Wf g w st) (e : w.H = H) (ek : g.K = K) (r : RepP g w d v) : TyX K H' v (.type (tyN d)) := by
  subst ek e
  have k : Ext w ⟨H', w.Fz, w.μ⟩ := ⟨hs, fun _ f => f, fun _ f => .inl f, rfl⟩
  have l := k.le F.fz
  have F' : Wf g ⟨H', w.Fz, w.μ⟩ st := ⟨fun a f => by
      obtain ⟨o, e⟩ := F.fz a f
      exact ⟨o, hs _ _ e⟩, F.mu, F.mund, F.clen, fun n a ds e1 e2 => by
      obtain ⟨vs, q, r⟩ := F.cells n a ds e1 e2
      exact ⟨vs, hs _ _ q, RepL.le l r⟩⟩
  refine tyx_rep F' hd ?_
  rcases r with r | ⟨a, vs, ds, e1, e2, hH, hr⟩
  · exact .inl (Rep.le l r)
  · exact .inr ⟨a, vs, ds, e1, e2, hs _ _ hH, RepL.le l hr⟩
theorem vn_isi (ts : List String) : VN g (gIsi ts) (rIsA g.K ts) := by
  intro w st ds xs Q F rp h
  unfold gIsi at h
  split at h
  · rename_i d
    obtain ⟨x, rfl, rx⟩ := pps1 rp
    obtain ⟨hd, h⟩ := Res.sat_ite _ _ h
    refine ⟨x, d, rfl, hd, fun H' hH' => ?_⟩
    have hs : ∀ a o, w.H a = some o → H' a = some o := fun a o e => by
      rcases hH' with z | ⟨p, cs, hp, z⟩
      · rw [z]; exact e
      · rw [z, upd_ne (ne_of_none e hp)]; exact e
    refine ⟨tyx_sub hs hd F rfl rfl rx, ?_⟩
    exact h (.bl _) ⟨H', w.Fz, w.μ⟩ ⟨hs, fun _ f => f, fun _ f => .inl f, rfl⟩ rfl
  · exact h.elim
theorem tIsi1_le {T : String} (hT : T ∈ knownT) {f : SE} {H : Hp} {Q : VK} (h : tE g C (opE (gIsi [T]) [f]) σ H Q) : tCB (rIsi g.K) (tCons (tE g C f) (tCons (tC (.ty T)) tNil)) σ H Q := by
  have h1 := tOpE_le (vn_isi (g := g) [T]) h
  refine tOps_cons (Q := fun vs H1 => rIsA g.K [T] vs H1 Q) h1 |> fun z => ?_
  obtain ⟨c, w, fv, s, rfl, S, z⟩ := z
  refine ⟨c, w, fv, s, rfl, S, z.mono fun p z v w1 A r => ?_⟩
  have z := tOps_nil (z v w1 A r)
  obtain ⟨x, d, e, hd, k⟩ := z
  cases e
  obtain ⟨ty, q⟩ := k w1.H (.inl rfl)
  refine ⟨v, .ty T, _, _, _, rfl, .ty T, ty, kit_ty (kit_known d hd T hT), ?_⟩
  simpa using q
def tTys : List String → TA
  | [] => tNil
  | t :: ts => tCons (tC (.ty t)) (tTys ts)
theorem tTys_iff {ts : List String} {H : Hp} {Q : List V → Hp → Prop} (h : Q (ts.map V.ty) H) : tTys ts σ H Q := by
  induction ts generalizing Q with
  | nil => exact h
  | cons t ts ih => exact ih (Q := fun vs H => Q (.ty t :: vs) H) h
theorem kitAny_known {K : PySem.W.Frag} {d : D} (hd : plainD d = true) : ∀ {ts : List String}, (∀ T ∈ ts, T ∈ knownT) → PySem.W.kitAny K (.type (tyN d)) (ts.map Value.type) = some (ts.any (isT d))
  | [], _ => rfl
  | t :: ts, h => by
    refine kitAny_cons (kit_ty (kit_known d hd t (h t List.mem_cons_self))) (fun e => ?_) (fun e => ?_)
    · rw [List.any_cons, e, Bool.false_or]
      exact kitAny_known hd fun T hT => h T (List.mem_cons_of_mem _ hT)
    · rw [List.any_cons, e, Bool.true_or]
theorem cls_tys : ∀ ts : List String, Paired ClsV (ts.map V.ty) (ts.map Value.type)
  | [] => .nil
  | t :: ts => .cons (.ty t) (cls_tys ts)
theorem tIsiT_le {ts : List String} (hT : ∀ T ∈ ts, T ∈ knownT) (hl : ts.length ≤ 10) {f : SE} {H : Hp} {Q : VK} (h : tE g C (opE (gIsi ts) [f]) σ H Q) : tCB (rIsiT g.K) (tCons (tE g C f) (tCons (tTup (tTys ts)) tNil)) σ H Q := by
  have h1 := tOpE_le (vn_isi (g := g) ts) h
  refine tOps_cons (Q := fun vs H1 => rIsA g.K ts vs H1 Q) h1 |> fun z => ?_
  obtain ⟨c, w, fv, s, rfl, S, z⟩ := z
  refine ⟨c, w, fv, s, rfl, S, z.mono fun p z v w1 A r => ?_⟩
  have z := tOps_nil (z v w1 A r)
  obtain ⟨x, d, e, hd, k⟩ := z
  cases e
  refine tTys_iff (Q := fun xs H' => xs.length ≤ sizeLine ∧ ∀ p, H' p = none → tNil σ (upd H' p (.tup xs)) fun us H2 => rIsiT g.K (v :: .ref p :: us) H2 Q) ⟨by simp only [List.length_map]; have : sizeLine = 16777216 := sizeLine_eq; omega, fun p hp => ?_⟩
  obtain ⟨ty, q⟩ := k _ (.inr ⟨p, ts.map V.ty, hp, rfl⟩)
  exact ⟨v, p, ts.map V.ty, _, ts.map Value.type, _, rfl, upd_same, cls_tys ts, ty, kitAny_known hd hT, q⟩

/-- o.m(e, ..) of a tuple whose object has no dict of its own -/
def tBMf (r : V → List V → Hp → VK → Prop) (to : TE) (t : TA) : TE := fun σ H Q => to σ H fun x H1 => (∃ p o xs, x = .ref p ∧ H1 p = some (.frz o (.tup xs)) ∧ o.dict = none) ∧ t σ H1 fun xs H2 => r x xs H2 Q
theorem pe_bmF {o e : Expr} {es : List Expr} {to : TE} {t : TA} {name : Str} {apos cpos : Pos} {id : String} {r : V → List V → Hp → VK → Prop} (pa : PlainAttrs "tuple") (slot : Slot "tuple" name id) (hty : typeOf (.builtin id) = pure (.type "method_descriptor")) (hm : MtR X id r) (ho : PE X o to) (ha : PA X (e :: es) t)
    (hbase : attributeBase o name X.env (eval o X.env) = eval o X.env)
    (hfew : ((backTo cpos (starEach (e :: es) X.env)).all (fun x => !x.1) && (backToKw cpos (keywordEach [] X.env)).all (fun x => x.1.isSome)
      && decide ((e :: es).length + ([] : List Keyword).length + (if ([] : List Keyword).isEmpty then 0 else 1) < 30)) = true)
    (hline : (apos.endLine == cpos.line) = true) (hs : starEach (e :: es) X.env = (false, eval e X.env) :: starEach es X.env) (hplain : (backTo cpos (starEach es X.env)).any (·.1) = false) :
    PE X (.Call (.Attribute o name apos) (e :: es) [] cpos) (tBMf r to t) := by
  refine ⟨fun pins s σ H Q I h => ?_⟩
  refine wpAny_Call_method_late hbase hfew hline rfl (thn (ho.run pins s σ H _ I h) fun v s1 ⟨x, H1, I1, r1, ty, q1⟩ => ?_)
  obtain ⟨p, ob, xs, rfl, hH, hd⟩ := ty
  cases r1
  have ok := I1.hok p _ hH
  obtain ⟨e0, hz, its, rv, o', h1, h2, _⟩ := ok
  rw [h1] at e0
  cases e0
  refine ⟨"tuple", id, pa, slot, hty, ⟨_, h1, h2⟩, fun a e => ?_, ?_⟩
  · cases e
    exact ⟨_, h1, hd⟩
  have hA := ha.run cpos pins s1 σ H1 _ I1 q1
  rw [hs] at hA ⊢
  refine Calls.callWith_builtin (by show (false || (backTo cpos (starEach es X.env)).any (·.1)) = false; rw [hplain] <;> rfl) (Calls.evalArgs_plain ?_)
  exact thn hA fun us s2 ⟨vs, H2, I2, r2, q2⟩ => hm pins s2 σ H2 (.ref p) vs (.ref p) us Q I2 rfl r2 q2
def rTix (K : PySem.W.Frag) : V → List V → Hp → VK → Prop := fun x xs H Q => ∃ p, ∃ ys : List Str, ∃ z j, x = .ref p ∧ xs = [.str z] ∧ SqT K H p (ys.map V.str) ∧ ys[j]? = some z ∧ (∀ m, m < j → ys[m]? ≠ some z) ∧ Q (.int (j : Nat)) H
/-- t.index(e): the tuple must be known ahead of the argument -/
def tixF (f k : SE) : SE := fun C s => (f C s).bind fun (r, s1) => match r with
  | .val (.tup true xs) => (k C s1).bind fun (q, s2) => match q with
    | .val (.str z) => (optR (xs.mapM Ev.s1)).bind fun zs => (optR (zs.findIdx? (· == z))).bind fun j => .ok (.val (.int (j : Nat)), s2)
    | _ => .stuck
  | _ => .stuck
theorem tIx_le {f k : SE} {H : Hp} {Q : VK} (h : tE g C (tixF f k) σ H Q) : tBMf (rTix g.K) (tE g C f) (tCons (tE g C k) tNil) σ H Q := by
  obtain ⟨c, w, fv, s, rfl, S, h⟩ := h
  unfold tixF at h
  rw [Res.sat_bind] at h
  refine ⟨c, w, fv, s, rfl, S, h.mono fun p h v w1 A r => ?_⟩
  obtain ⟨r0, s1⟩ := p
  dsimp only at h
  split at h
  · rename_i xs
    have r' : Rep g w1 (.tup true xs) v := r
    have r : Rep g w1 (.tup true xs) v := r
    unfold Rep at r
    obtain ⟨a, vs, rfl, n, rl⟩ := r
    have hfr : ∃ o, w1.H a = some (.frz o (.tup vs)) ∧ o.dict = none := by
      rcases n with ⟨_, o, e, d⟩ | ⟨e, _⟩ | ⟨e, _⟩
      · exact ⟨o, e, d rfl⟩
      · cases e
      · cases e
    obtain ⟨o, ho, hd⟩ := hfr
    rw [Res.sat_bind] at h
    refine ⟨⟨a, o, vs, rfl, ho, hd⟩, c, w1, fv, s1, rfl, A.sim, h.mono fun p h y w2 A2 r2 => ?_⟩
    obtain ⟨r1, s2⟩ := p
    dsimp only at h
    split at h
    · rename_i z
      have ez : y = .str z ∧ PyData.strOk z = true := by
        have r2 : Rep g w2 (.str z) y := r2
        unfold Rep at r2
        exact r2
      rw [Res.sat_bind] at h
      obtain ⟨zs, hzs, h⟩ := optR_ok h
      rw [Res.sat_bind] at h
      obtain ⟨j, hj, h⟩ := optR_ok h
      have r3 := Rep.le A2.stp.le r'
      unfold Rep at r3
      obtain ⟨a', vs', ea, n', rl'⟩ := r3
      cases ea
      obtain ⟨evs, _⟩ := s1_rep hzs rl'
      obtain ⟨hlt, hz, hno⟩ := List.findIdx?_eq_some_iff_getElem.mp hj
      refine ⟨a, zs, z, j, rfl, by rw [ez.1], by rw [← evs]; exact n'.sq, ?_, fun m hm e => ?_, h _ w2 (A.trans A2) rfl⟩
      · rw [List.getElem?_eq_getElem hlt]
        exact congrArg some (eq_of_beq hz)
      · obtain ⟨hl, e⟩ := List.getElem?_eq_some_iff.mp e
        exact hno m hm (by rw [e]; exact beq_self_eq_true z)
    · exact h.elim
  · exact h.elim

theorem slfAt_ok {ρ : List (Option M)} {cc : Nat} (h : slfAt ρ cc = true) : ρ[0]? = some (some (.slf cc)) := by
  unfold slfAt at h
  split at h
  · rename_i c e
    rw [e, eq_of_beq h]
  · cases h
theorem Sim.self (S : Sim g c w σ fv s) {cc : Nat} (h : slfAt s.ρ cc = true) (h0 : 0 < σ.length) : ∃ z, c.sf = some z ∧ z.C = g.ct cc ∧ σ[0]? = some (some (.ref z.a)) := by
  obtain ⟨v, hv, z, hz, e, hC⟩ := S.env 0 _ (slfAt_ok h)
  rw [tau_lt h0, e] at hv
  exact ⟨z, hz, hC, hv⟩
/-- the class cc has the field f in its slot j -/
structure SlfOk (K : PySem.W.Frag) (g : Cg) (cc : Nat) (f : Str) (j : Nat) : Prop where
  cls : SlX.SCls K (g.ct cc)
  at_ : ∃ p, SlX.Slot1 K (g.ct cc) f p j
theorem tau_fv {n j : Nat} (hn : σ.length = n) : (σ ++ fv)[n + j]? = fv[j]? := by
  rw [List.getElem?_append_right (by omega)]
  congr 1
  omega
theorem tSf_le {cc n j : Nat} {f : Str} (F : SlfOk g.K g cc f j) (hn : σ.length = n) (h0 : 0 < n) {H : Hp} {Q : VK} (h : tE g C (sfF cc n j) σ H Q) : SlX.tSl g.K (tVar 0) f σ H Q := by
  obtain ⟨c, w, fv, s, rfl, S, h⟩ := h
  unfold sfF at h
  obtain ⟨hs, h⟩ := Res.sat_ite _ _ h
  obtain ⟨z, hz, hC, hσ⟩ := S.self hs (by omega)
  obtain ⟨_, _, vs, sl, hk⟩ := S.slf z hz
  obtain ⟨p, st⟩ := F.at_
  rw [hC] at sl
  have go : ∀ {m : M}, s.ρ[n + j]? = some (some m) → ∃ v, vs[j]? = some (some v) ∧ (σ ++ fv)[n + j]? = some (some v) ∧ RepM g w c.sf m v := fun e => by
    obtain ⟨v, hv, r⟩ := S.env _ _ e
    refine ⟨v, hk j v ?_, hv, r⟩
    rw [← tau_fv hn]
    exact hv
  unfold varF at h
  refine ⟨_, hσ, ?_⟩
  split at h
  · rename_i d e
    obtain ⟨v, h1, h2, r⟩ := go e
    exact ⟨z.a, _, z.dx, p, vs, j, v, rfl, sl, F.cls, st, h1, h v w S.aft r⟩
  · rename_i ds e
    obtain ⟨v, h1, h2, r⟩ := go e
    exact ⟨z.a, _, z.dx, p, vs, j, v, rfl, sl, F.cls, st, h1, h v w S.aft ⟨h2, _, e, rfl⟩⟩
  · rename_i ds e
    obtain ⟨v, h1, h2, r⟩ := go e
    exact r.elim
  · exact h.elim
/-- a field is stored -/
theorem Sim.putF (S : Sim g c w σ fv s) {z : Sf} (hz : c.sf = some z) {j : Nat} (hj : j < fv.length) {m : M} {v : V} (r : RepT g c.w0 w m v) (no : ∀ a, m.isOwn = true → v = .ref a → ¬ Ow (σ ++ fv) s.ρ a)
    {vs : List (Option V)} (sl : SlX.Slt w.H z.a z.C z.dx vs) (hk : ∀ (i : Nat) (v : V), fv[i]? = some (some v) → vs[i]? = some (some v)) :
    Sim g c ⟨SlX.slH w.H z.a z.C z.dx (SlX.putS j v vs), w.Fz, w.μ⟩ σ (fv.set j (some v)) ⟨s.ρ.set (σ.length + j) (some m), s.st⟩ ∧ Le w ⟨SlX.slH w.H z.a z.C z.dx (SlX.putS j v vs), w.Fz, w.μ⟩ := by
  obtain ⟨⟨h1, h2, h3, h4, h5, h6, h7⟩, ⟨od, hd, nd⟩, _⟩ := S.slf z hz
  have keep : ∀ b o, w.H b = some o → b ≠ z.a → b ≠ z.dx → SlX.slH w.H z.a z.C z.dx (SlX.putS j v vs) b = some o := fun b o e q1 q2 => by
    rw [SlX.slH_ne q1 q2]
    exact e
  have lst : ∀ b xs, w.H b = some (.lst xs) → SlX.slH w.H z.a z.C z.dx (SlX.putS j v vs) b = some (.lst xs) := fun b xs e => keep b _ e (fun y => slt_not_lst sl xs (by rw [← y]; exact e)) (fun y => by
    rw [y, hd] at e
    exact nd _ (Option.some.inj e))
  have l : Le w ⟨SlX.slH w.H z.a z.C z.dx (SlX.putS j v vs), w.Fz, w.μ⟩ := ⟨fun _ h => h, fun _ _ h => h, fun b f => SlX.slH_ne (fun y => h1 (y ▸ f)) (fun y => h2 (y ▸ f))⟩
  have e0 : σ ++ fv.set j (some v) = (σ ++ fv).set (σ.length + j) (some v) := by
    rw [List.set_append_right _ _ (by omega)]
    congr 2
    omega
  have hl : σ.length + j < (σ ++ fv).length := by rw [List.length_append]; omega
  have rm : RepM g w c.sf m v := by
    cases m with
    | val d => exact r
    | odic _ => exact r
    | slf _ => exact r.elim
    | own ds =>
      obtain ⟨a, vs, e, hH, hr, _⟩ := r
      exact ⟨a, vs, e, hH, hr⟩
  have old : ∀ {i : Nat} {m' : M}, (s.ρ.set (σ.length + j) (some m))[i]? = some (some m') → (i = σ.length + j ∧ m' = m) ∨ (i ≠ σ.length + j ∧ s.ρ[i]? = some (some m')) := fun {i m'} e => by
    rcases set_get e with ⟨q, y⟩ | ⟨q, y⟩
    · cases y
      exact .inl ⟨q.symm, rfl⟩
    · exact .inr ⟨fun y => q y.symm, y⟩
  have tau : ∀ {i : Nat}, i ≠ σ.length + j → (σ ++ fv.set j (some v))[i]? = (σ ++ fv)[i]? := fun {i} q => by
    rw [e0, List.getElem?_set_ne (fun y => q y.symm)]
  have taui : (σ ++ fv.set j (some v))[σ.length + j]? = some (some v) := by rw [e0, List.getElem?_set_self hl]
  have ow : ∀ a, Ow (σ ++ fv.set j (some v)) (s.ρ.set (σ.length + j) (some m)) a → (m.isOwn = true ∧ v = .ref a) ∨ Ow (σ ++ fv) s.ρ a := fun a ⟨i, m', e, o, t⟩ => by
    rcases old e with ⟨q, y⟩ | ⟨q, y⟩
    · subst q y
      rw [taui] at t
      exact .inl ⟨o, by simpa using t⟩
    · rw [tau q] at t
      exact .inr ⟨i, m', y, o, t⟩
  have stp : Stp (fun _ => False) c.w0 ⟨SlX.slH w.H z.a z.C z.dx (SlX.putS j v vs), w.Fz, w.μ⟩ := by
    refine ⟨S.step0.le.trans l, fun b o e m t => ?_, fun b hb => ?_, fun b o e => ?_⟩
    · obtain ⟨e1, f1, m1⟩ := S.step0.oth b o e m t
      exact ⟨keep b o e1 (fun y => by rw [y, h5] at e; cases e) (fun y => by rw [y, h6] at e; cases e), f1, m1⟩
    · obtain ⟨o, e⟩ := S.step0.mu b hb
      have hm : b ∈ w.μ := by
        obtain ⟨n, hn⟩ := List.mem_iff_getElem?.mp hb
        exact List.mem_iff_getElem?.mpr ⟨n, S.step0.le.pre n b hn⟩
      exact ⟨o, keep b o e (fun y => h3 (y ▸ hm)) (fun y => h4 (y ▸ hm))⟩
    · obtain ⟨o', e'⟩ := S.step0.there b o e
      exact ⟨o', keep b o' e' (fun y => by rw [y, h5] at e; cases e) (fun y => by rw [y, h6] at e; cases e)⟩
  refine ⟨⟨by simpa using S.len, fun i m' e => ?_, fun a o => ?_, fun i k mi mk a e1 o1 e2 o2 t1 t2 => ?_, fun y ey => ?_, fun e => (by rw [hz] at e; cases e), fun b f => ?_, S.mu, S.mund, S.clen, fun n b ds e1 e2 => ?_, stp, S.sn⟩, l⟩
  · have mv : ∀ {m : M} {v : V}, RepM g w c.sf m v → RepM g ⟨SlX.slH w.H z.a z.C z.dx (SlX.putS j v vs), w.Fz, w.μ⟩ c.sf m v := fun {m v'} r => by
      cases m with
      | odic _ => exact r
      | slf _ => exact r
      | val d =>
        have l' : Le w ⟨SlX.slH w.H z.a z.C z.dx (SlX.putS j v' vs), w.Fz, w.μ⟩ := ⟨fun _ h => h, fun _ _ h => h, fun b f => SlX.slH_ne (fun y => h1 (y ▸ f)) (fun y => h2 (y ▸ f))⟩
        exact Rep.le l' r
      | own ds =>
        have l' : Le w ⟨SlX.slH w.H z.a z.C z.dx (SlX.putS j v' vs), w.Fz, w.μ⟩ := ⟨fun _ h => h, fun _ _ h => h, fun b f => SlX.slH_ne (fun y => h1 (y ▸ f)) (fun y => h2 (y ▸ f))⟩
        obtain ⟨a, us, e, hH, hr⟩ := r
        refine ⟨a, us, e, ?_, RepL.le l' hr⟩
        show SlX.slH w.H z.a z.C z.dx (SlX.putS j v' vs) a = _
        rw [SlX.slH_ne (fun y => slt_not_lst sl us (by rw [← y]; exact hH)) (fun y => by
          rw [y, hd] at hH
          exact nd _ (Option.some.inj hH))]
        exact hH
    have mv2 : ∀ {m : M} {v' : V}, RepM g w c.sf m v' → RepM g ⟨SlX.slH w.H z.a z.C z.dx (SlX.putS j v vs), w.Fz, w.μ⟩ c.sf m v' := fun {m v'} r => RepM.le l (fun a us q => lst a us q) r
    rcases old e with ⟨q, y⟩ | ⟨q, y⟩
    · subst q y
      exact ⟨v, taui, mv2 rm⟩
    · obtain ⟨v', hv', r'⟩ := S.env i m' y
      exact ⟨v', by rw [tau q]; exact hv', mv2 r'⟩
  · rcases ow a o with ⟨o1, e1⟩ | o1
    · cases m with
      | val d => cases o1
      | slf _ => cases o1
      | odic _ => exact r.elim
      | own ds =>
        obtain ⟨b, us, e, _, _, hf, hm, hn⟩ := r
        rw [e1] at e
        cases e
        exact ⟨hf, hm, hn⟩
    · exact S.own a o1
  · rcases old e1 with ⟨q1, z1⟩ | ⟨q1, z1⟩ <;> rcases old e2 with ⟨q2, z2⟩ | ⟨q2, z2⟩
    · rw [q1, q2]
    · subst q1 z1
      rw [taui] at t1
      rw [tau q2] at t2
      exact (no a o1 (by simpa using t1) ⟨k, mk, z2, o2, t2⟩).elim
    · subst q2 z2
      rw [taui] at t2
      rw [tau q1] at t1
      exact (no a o2 (by simpa using t2) ⟨i, mi, z1, o1, t1⟩).elim
    · rw [tau q1] at t1
      rw [tau q2] at t2
      exact S.sep i k mi mk a z1 o1 z2 o2 t1 t2
  · rw [hz] at ey
    cases ey
    refine ⟨⟨h1, h2, h3, h4, h5, h6, h7⟩, ⟨.xd [], ?_, fun _ y => nomatch y⟩, SlX.putS j v vs, SlX.slH_slt h7, fun i x e => ?_⟩
    · show SlX.slH w.H z.a z.C z.dx _ z.dx = _
      unfold SlX.slH
      rw [upd_ne h7, upd_same]
    · rcases set_get e with ⟨q, y⟩ | ⟨q, y⟩
      · subst q
        cases y
        exact SlX.putS_get _ _ _
      · exact (SlX.putS_ne (fun y => q y.symm)).mpr (hk i x y)
  · obtain ⟨o, e⟩ := S.fz b f
    exact ⟨o, keep b o e (fun y => h1 (y ▸ f)) (fun y => h2 (y ▸ f))⟩
  · obtain ⟨us, q, rb⟩ := S.cells n b ds e1 e2
    exact ⟨us, lst b us q, RepL.le l rb⟩
theorem tS_sf {cc n j : Nat} {f : Str} (F : SlfOk g.K g cc f j) (hn : σ.length = n) (h0 : 0 < n) {e : SE} {H : Hp} (h : tS g C (sfSet cc n j e) Dn σ H) : SlX.sSl g.K (tVar 0) (tE g C e) f Dn σ H := by
  obtain ⟨c, w, fv, s, rfl, S, h⟩ := h
  unfold sfSet at h
  rw [Res.sat_bind] at h
  refine ⟨c, w, fv, s, rfl, S, h.mono fun p h v w1 A r => ?_⟩
  obtain ⟨r0, s1⟩ := p
  rw [Res.sat_bind] at h
  obtain ⟨m, s2, w2, h, hH, A2, rt⟩ := mOf_ok S A r h
  obtain ⟨hs, h⟩ := Res.sat_ite _ _ h
  rw [Res.sat_bind] at h
  obtain ⟨hl, h⟩ := sto_ok h
  obtain ⟨z, hz, hC, hσ⟩ := A2.sim.self hs (by omega)
  obtain ⟨_, _, vs, sl, hk⟩ := A2.sim.slf z hz
  obtain ⟨p, st⟩ := F.at_
  have hj : j < fv.length := by
    have := A2.sim.len
    omega
  obtain ⟨S3, l3⟩ := A2.sim.putF hz hj (rt.w0 S) (rt.no S A2) sl hk
  rw [hn] at S3
  have q := h σ _ _ (A2.stp.le.trans l3) S3
  rw [hC] at sl q
  refine ⟨_, hσ, z.a, g.ct cc, z.dx, p, vs, j, rfl, ?_, F.cls, st, ?_⟩
  · rw [← hH]
    exact sl
  · rw [← hH]
    exact q
theorem tS_sfApp {cc n j : Nat} {f : Str} (F : SlfOk g.K g cc f j) (hn : σ.length = n) (h0 : 0 < n) {e : SE} {H : Hp} (h : tS g C (sfApp cc n j e) Dn σ H) : tDrop (tBM g.K "list" rAppend (SlX.tSl g.K (tVar 0) f) (tCons (tE g C e) tNil)) Dn σ H := by
  obtain ⟨c, w, fv, s, rfl, S, h⟩ := h
  unfold sfApp at h
  obtain ⟨hs, h⟩ := Res.sat_ite _ _ h
  unfold appF at h
  obtain ⟨h1, h⟩ := Res.sat_ite _ _ h
  obtain ⟨es, e0⟩ := ownAt_ok h1
  obtain ⟨z, hz, hC, hσ⟩ := S.self hs (by omega)
  obtain ⟨_, _, vs, sl, hk⟩ := S.slf z hz
  obtain ⟨p, st⟩ := F.at_
  obtain ⟨v0, hv0, a, vs0, ev, hH0, _⟩ := S.env _ _ e0
  subst ev
  rw [Res.sat_bind] at h
  rw [hC] at sl
  refine ⟨_, hσ, z.a, g.ct cc, z.dx, p, vs, j, .ref a, rfl, sl, F.cls, st, hk j _ (by rw [← tau_fv hn]; exact hv0), .inl ⟨rfl, vs0, .inl (.inl hH0)⟩, c, w, fv, s, rfl, S, h.mono fun p h v w1 A r => ?_⟩
  obtain ⟨r0, s1⟩ := p
  rw [Res.sat_bind] at h
  obtain ⟨d, s2, w2, h, hH, A2, rd⟩ := frz_ok S A r h
  try dsimp only at h
  split at h
  · rename_i ds e2
    obtain ⟨hz, h⟩ := Res.sat_ite _ _ h
    obtain ⟨v', hv', a', us, ea, hH2, hr⟩ := A2.sim.env _ _ e2
    rw [hv0] at hv'
    cases hv'
    cases ea
    obtain ⟨S3, l3, _⟩ := A2.sim.mutO e2 hv0 (hr.append (RepL.one rd))
    refine ⟨a, us, v, rfl, rfl, by rw [← hH]; exact hH2, by rw [← hr.length]; exact hz, ?_⟩
    have := h σ fv _ (A2.stp.le.trans l3) S3
    rw [hH] at this
    exact this
  · exact h.elim
end
end Ev
set_option Elab.async false
set_option maxRecDepth 100000
set_option maxHeartbeats 2000000
namespace Ev
open PySem PySem.Spec PyProof.Rows L2
set_option autoImplicit false
section
variable {g : Cg} {w w' : W} {C : Cl}
theorem RepL.none_of {ds : List D} {vs : List V} (h : RepL g w ds vs) : ds.length = vs.length := h.length
/-- the state at a def's entry -/
theorem sim_start {w0 w : W} {sf : Option Sf} {m : Nat} {st : List (List D)} {ds : List D} {vs : List V} (F : Wf g w st) (r : RepL g w ds vs) (hl : ds.length ≤ m) (e : w0 = w) (hsf : sf = none) :
    Sim g ⟨w0, sf, m⟩ w (vs.map some ++ List.replicate (m - vs.length) none) [] ⟨ds.map (fun d => some (.val d)) ++ List.replicate (m - ds.length) none, st⟩ := by
  subst e hsf
  have hlen := r.length
  have vl : ∀ {i : Nat} {mm : M}, (ds.map (fun d => some (M.val d)) ++ List.replicate (m - ds.length) none)[i]? = some (some mm) → ∃ d, ds[i]? = some d ∧ mm = .val d := fun {i mm} e => by
    by_cases hi : i < ds.length
    · rw [List.getElem?_append_left (by simpa using hi), List.getElem?_map] at e
      cases q : ds[i]? with
      | none => rw [q] at e; cases e
      | some d =>
        rw [q] at e
        exact ⟨d, rfl, by simpa using e.symm⟩
    · rw [List.getElem?_append_right (by simpa using hi), List.getElem?_replicate] at e
      split at e <;> cases e
  have no : ∀ a, ¬ Ow ((vs.map some ++ List.replicate (m - vs.length) none) ++ []) (ds.map (fun d => some (M.val d)) ++ List.replicate (m - ds.length) none) a := fun a ⟨i, mm, e, o, _⟩ => by
    obtain ⟨d, _, q⟩ := vl e
    subst q
    cases o
  refine ⟨by simp; omega, fun i mm e => ?_, fun a o => (no a o).elim, fun i j mi mj a e1 o1 _ _ _ _ => ?_, fun z e => (by cases e), fun _ => rfl, F.fz, F.mu, F.mund, F.clen, F.cells, Stp.refl _ _ fun a ha => ?_, ?_⟩
  · obtain ⟨d, hd, q⟩ := vl e
    subst q
    obtain ⟨v, hv, rd⟩ := r.get hd
    refine ⟨v, ?_, rd⟩
    have hi := (List.getElem?_eq_some_iff.mp hv).1
    rw [List.append_nil, List.getElem?_append_left (by simpa using hi), List.getElem?_map, hv]
    rfl
  · obtain ⟨d, _, q⟩ := vl e1
    subst q
    cases o1
  · obtain ⟨n, hn⟩ := List.mem_iff_getElem?.mp ha
    have hl : n < st.length := by
      rw [← F.clen]
      exact (List.getElem?_eq_some_iff.mp hn).1
    obtain ⟨us, e, _⟩ := F.cells n a st[n] hn (List.getElem?_eq_getElem hl)
    exact ⟨_, e⟩
  · simp
    omega
theorem runF_ok {m n : Nat} (hnm : n ≤ m) {F : SS} {vs : List V} {H : Hp} {Q : VK} {E : XK} (h : spF g n (runF m F C) vs H Q E) :
    tS g C F { nx := fun _ H' => Q .non H', rt := Q } (vs.map some ++ List.replicate (m - vs.length) none) H := by
  obtain ⟨w, st, ds, rfl, F0, r, hl, h⟩ := h
  refine ⟨⟨w, none, m⟩, w, [], _, rfl, sim_start F0 r (by omega) rfl rfl, ?_⟩
  unfold runF at h
  rw [Res.sat_bind] at h
  refine h.mono fun p h => ?_
  obtain ⟨o, s⟩ := p
  cases o with
  | nx => exact fun σ' fv' w' l S' => h .non w' S'.step0 S'.wf rfl
  | ret mm => exact fun v σ' fv' w' l S' rt => h v w' S'.step0 S'.wf rt
  | bk => exact h.elim
  | ct => exact h.elim

def spI (g : Cg) (cc n : Nat) (f : Fnl) : Sp := fun vs H Q _ => ∃ w st ds a dx args, vs = .ref a :: args ∧ H = upd (upd w.H dx (.own a)) a (.ins (g.ct cc) dx []) ∧ w.H a = none ∧ w.H dx = none ∧ dx ≠ a ∧ Wf g w st ∧ RepL g w ds args ∧ ds.length = n ∧
  (f ds st).Sat fun p => ∀ w', Stp (fun _ => False) w w' → Wf g w' p.2 → RepT g w w' p.1 (.ref a) → Q .non w'.H
theorem tNew_le {c : Fc} {σ fv : Tv} {s : S} {k n cc : Nat} {f : Fnl} {fs : List SE} (hf : ∀ ds st, C k ds st = f ds st) (hn : fs.length = n) {E : XK} {H : Hp} {Q : VK} (h : tE g C (callF k fs) σ H Q) : StX.tMakeR (g.ct cc) (spI g cc n f) E (tFzs g C fs) σ H Q := by
  obtain ⟨c, w, fv, s, rfl, S, h⟩ := h
  unfold callF at h
  rw [Res.sat_bind] at h
  refine ⟨c, w, fv, s, rfl, S, ?_⟩
  obtain ⟨⟨ds, s1⟩, e, h⟩ := Res.sat_iff.mp h
  rw [e]
  show ∀ vs w', _
  intro vs w1 A r x dx hx hdx hne
  rw [Res.sat_bind, hf] at h
  refine ⟨w1, s1.st, ds, x, dx, vs, rfl, rfl, hx, hdx, hne, A.sim.wf, r, (frzs_len e).trans hn, h.mono fun p h w2 k2 F rt => ⟨rfl, ?_⟩⟩
  rw [Res.sat_bind] at h
  obtain ⟨r', h, rr⟩ := rOf_ok S A rt h (ρ' := s1.ρ)
  exact h _ w2 (A.trans (A.sim.callA k2 F)) rr
theorem fldsR_ok : ∀ {l : List (Option M)} {P : List D → Prop}, (fldsR l).Sat P → ∃ ds, P ds ∧ ds.length = l.length ∧ ∀ (j : Nat) (d : D), ds[j]? = some d → l[j]? = some (some (.val d)) ∨ ∃ es, l[j]? = some (some (.own es)) ∧ d = .lst es
  | [], P, h => ⟨[], h, rfl, fun j d e => by simp at e⟩
  | some (.val d) :: r, P, h => by
    unfold fldsR at h
    rw [Res.sat_bind] at h
    obtain ⟨ds, h, hl, k⟩ := fldsR_ok h
    refine ⟨d :: ds, h, by simp [hl], fun j e q => ?_⟩
    cases j with
    | zero =>
      simp only [List.getElem?_cons_zero, Option.some.injEq] at q
      subst q
      exact .inl rfl
    | succ j => exact k j e (by simpa using q)
  | some (.own es) :: r, P, h => by
    unfold fldsR at h
    rw [Res.sat_bind] at h
    obtain ⟨ds, h, hl, k⟩ := fldsR_ok h
    refine ⟨.lst es :: ds, h, by simp [hl], fun j e q => ?_⟩
    cases j with
    | zero =>
      simp only [List.getElem?_cons_zero, Option.some.injEq] at q
      subst q
      exact .inr ⟨es, rfl, rfl⟩
    | succ j => exact k j e (by simpa using q)
  | none :: r, P, h => h.elim
  | some (.odic _) :: r, P, h => h.elim
  | some (.slf _) :: r, P, h => h.elim
theorem repS_of {w : W} : ∀ {ds : List D} {vs : List (Option V)}, (∀ (j : Nat) (d : D), ds[j]? = some d → ∃ v, vs[j]? = some (some v) ∧ Rep g w d v) → RepS g w ds vs
  | [], _, _ => by unfold RepS; exact True.intro
  | d :: ds, vs, h => by
    obtain ⟨v, hv, r⟩ := h 0 d rfl
    cases vs with
    | nil => cases hv
    | cons o vs =>
      simp only [List.getElem?_cons_zero, Option.some.injEq] at hv
      subst hv
      unfold RepS
      exact ⟨v, vs, rfl, r, repS_of fun j d e => by simpa using h (j + 1) d (by simpa using e)⟩
/-- behind a constructor's body: the instance and its lists are frozen -/
theorem Sim.made {c : Fc} {σ fv : Tv} {s : S} {z : Sf} {n cc : Nat} (S : Sim g c w σ fv s) (hz : c.sf = some z) (hC : z.C = g.ct cc) (hn : σ.length = n) {fs : List D} (hl : fs.length = (s.ρ.drop n).length)
    (hk : ∀ (j : Nat) (d : D), fs[j]? = some d → (s.ρ.drop n)[j]? = some (some (.val d)) ∨ ∃ es, (s.ρ.drop n)[j]? = some (some (.own es)) ∧ d = .lst es) :
    ∃ w', w'.H = w.H ∧ Stp (fun _ => False) c.w0 w' ∧ Wf g w' s.st ∧ Rep g w' (.ins cc fs) (.ref z.a) := by
  obtain ⟨⟨h1, h2, h3, h4, h5, h6, h7⟩, ⟨od, hd, nd⟩, vs, sl, kk⟩ := S.slf z hz
  let w' : W := ⟨w.H, fun b => w.Fz b ∨ b = z.a ∨ b = z.dx ∨ Ow (σ ++ fv) s.ρ b, w.μ⟩
  have l : Le w w' := ⟨fun _ h => .inl h, fun _ _ h => h, fun _ _ => rfl⟩
  have aH : ∃ o, w.H z.a = some o := by
    rcases sl with ⟨e, _⟩ | ⟨e, _⟩ <;> exact ⟨_, e⟩
  refine ⟨w', rfl, ⟨S.step0.le.trans l, fun b o e m t => ?_, S.step0.mu, S.step0.there⟩, ⟨fun b f => ?_, fun b hb f => ?_, S.mund, S.clen, fun n b ds e1 e2 => ?_⟩, ?_⟩
  · obtain ⟨e1, f1, m1⟩ := S.step0.oth b o e m t
    refine ⟨e1, fun f => ?_, m1⟩
    rcases f with f | f | f | f
    · exact f1 f
    · rw [f, h5] at e; cases e
    · rw [f, h6] at e; cases e
    · rw [(S.own b f).2.2] at e; cases e
  · rcases f with f | f | f | f
    · exact S.fz b f
    · rw [f]; exact aH
    · rw [f]; exact ⟨_, hd⟩
    · obtain ⟨xs, e⟩ := S.owH f
      exact ⟨_, e⟩
  · rcases f with f | f | f | f
    · exact S.mu b hb f
    · exact h3 (f ▸ hb)
    · exact h4 (f ▸ hb)
    · exact (S.own b f).2.1 hb
  · obtain ⟨us, q, r⟩ := S.cells n b ds e1 e2
    exact ⟨us, q, RepL.le l r⟩
  · unfold Rep
    refine ⟨z.a, z.dx, vs, rfl, .inr (.inl rfl), .inr (.inr (.inl rfl)), by rw [← hC]; exact sl, repS_of fun j d e => ?_⟩
    have tj : ∀ {m : M}, (s.ρ.drop n)[j]? = some (some m) → ∃ v, vs[j]? = some (some v) ∧ (σ ++ fv)[n + j]? = some (some v) ∧ RepM g w c.sf m v ∧ s.ρ[n + j]? = some (some m) := fun {m} e => by
      rw [List.getElem?_drop] at e
      obtain ⟨v, hv, r⟩ := S.env _ _ e
      refine ⟨v, kk j v ?_, hv, r, e⟩
      rw [← tau_fv hn]
      exact hv
    rcases hk j d e with q | ⟨es, q, rfl⟩
    · obtain ⟨v, h1, _, r, _⟩ := tj q
      exact ⟨v, h1, Rep.le l r⟩
    · obtain ⟨v, h1, h2, r, h3⟩ := tj q
      obtain ⟨a, us, rfl, hH, hr⟩ := r
      refine ⟨.ref a, h1, ?_⟩
      unfold Rep
      exact ⟨a, us, rfl, ⟨.inr (.inr (.inr ⟨n + j, _, h3, rfl, h2⟩)), hH⟩, RepL.le l hr⟩
theorem runI_ok {m n cc nf : Nat} (hnm : n + 1 ≤ m) {F : SS} {vs : List V} {H : Hp} {Q : VK} {E : XK} (h : spI g cc n (runI cc nf m F C) vs H Q E) :
    tS g C F { nx := fun _ H' => Q .non H', rt := Q } (vs.map some ++ List.replicate (m - vs.length) none) H := by
  obtain ⟨w, st, ds, a, dx, args, rfl, rfl, ha, hdx, hne, F0, r, hl, h⟩ := h
  have hlen := r.length
  have E1 : Ext w ⟨upd (upd w.H dx (.own a)) a (.ins (g.ct cc) dx []), w.Fz, w.μ⟩ := ⟨fun b o e => by
    show upd (upd w.H dx (.own a)) a _ b = some o
    rw [upd_ne (ne_of_none e ha), upd_ne (ne_of_none e hdx)]
    exact e, fun _ f => f, fun _ f => .inl f, rfl⟩
  have l := E1.le F0.fz
  have nfz : ∀ {b : Addr}, w.H b = none → ¬ w.Fz b := fun {b} hb f => by
    obtain ⟨o, e⟩ := F0.fz b f
    rw [hb] at e
    cases e
  have muH : ∀ {b : Addr}, b ∈ w.μ → ∃ us, w.H b = some (.lst us) := fun {b} hm => by
    obtain ⟨k, hk⟩ := List.mem_iff_getElem?.mp hm
    have hl : k < st.length := by
      rw [← F0.clen]
      exact (List.getElem?_eq_some_iff.mp hk).1
    obtain ⟨us, e, _⟩ := F0.cells k b st[k] hk (List.getElem?_eq_getElem hl)
    exact ⟨us, e⟩
  have nm : ∀ {b : Addr}, w.H b = none → b ∉ w.μ := fun {b} hb hm => by
    obtain ⟨us, e⟩ := muH hm
    rw [hb] at e
    cases e
  have vl : ∀ {i : Nat} {mm : M}, ((some (M.slf cc) :: (ds.map (fun d => some (M.val d)) ++ List.replicate (m - (ds.length + 1)) none)) ++ List.replicate nf none)[i]? = some (some mm) →
      (i = 0 ∧ mm = .slf cc) ∨ ∃ j d, i = j + 1 ∧ ds[j]? = some d ∧ mm = .val d := fun {i mm} e => by
    cases i with
    | zero =>
      simp only [List.cons_append, List.getElem?_cons_zero, Option.some.injEq] at e
      exact .inl ⟨rfl, e.symm⟩
    | succ j =>
      refine .inr ⟨j, ?_⟩
      rw [List.cons_append, List.getElem?_cons_succ, List.append_assoc] at e
      by_cases hj : j < ds.length
      · rw [List.getElem?_append_left (by simpa using hj), List.getElem?_map] at e
        cases q : ds[j]? with
        | none => rw [q] at e; cases e
        | some d =>
          rw [q] at e
          exact ⟨d, rfl, rfl, by simpa using e.symm⟩
      · rw [List.getElem?_append_right (by simpa using hj), List.replicate_append_replicate, List.getElem?_replicate] at e
        split at e <;> cases e
  have no : ∀ {i : Nat} {mm : M}, ((some (M.slf cc) :: (ds.map (fun d => some (M.val d)) ++ List.replicate (m - (ds.length + 1)) none)) ++ List.replicate nf none)[i]? = some (some mm) → mm.isOwn = false := fun {i mm} e => by
    rcases vl e with ⟨_, q⟩ | ⟨_, d, _, _, q⟩ <;> (rw [q]; rfl)
  have stp : Stp (fun _ => False) w ⟨upd (upd w.H dx (.own a)) a (.ins (g.ct cc) dx []), w.Fz, w.μ⟩ := ⟨l, fun b o e m _ => ⟨E1.sub b o e, fun f => f, m⟩, fun b hb => by
    obtain ⟨us, e⟩ := muH hb
    exact ⟨_, E1.sub b _ e⟩, fun b o e => ⟨o, E1.sub b o e⟩⟩
  have S0 : Sim g ⟨w, some ⟨a, g.ct cc, dx⟩, m⟩ ⟨upd (upd w.H dx (.own a)) a (.ins (g.ct cc) dx []), w.Fz, w.μ⟩ ((V.ref a :: args).map some ++ List.replicate (m - (V.ref a :: args).length) none) (List.replicate nf none)
      ⟨(some (M.slf cc) :: (ds.map (fun d => some (M.val d)) ++ List.replicate (m - (ds.length + 1)) none)) ++ List.replicate nf none, st⟩ := by
    refine ⟨by simp; omega, fun i mm e => ?_, fun b o => ?_, fun i j mi mj b e1 o1 _ _ _ _ => ?_, fun z e => ?_, fun e => (by cases e), fun b f => ?_, fun b hb => F0.mu b hb, F0.mund, F0.clen, fun k b es e1 e2 => ?_, stp, ?_⟩
    · rcases vl e with ⟨q1, q2⟩ | ⟨j, d, q1, hd, q2⟩
      · subst q1 q2
        exact ⟨.ref a, rfl, _, rfl, rfl, rfl⟩
      · subst q1 q2
        obtain ⟨v, hv, rd⟩ := r.get hd
        refine ⟨v, ?_, Rep.le l rd⟩
        have hi := (List.getElem?_eq_some_iff.mp hv).1
        rw [List.getElem?_append_left (by simp; omega), List.getElem?_append_left (by simpa using hi)]
        simp [hv]
    · obtain ⟨i, mm, e, o, _⟩ := o
      rw [no e] at o
      cases o
    · rw [no e1] at o1
      cases o1
    · cases e
      refine ⟨⟨nfz ha, nfz hdx, nm ha, nm hdx, ha, hdx, hne⟩, ⟨.own a, by show upd (upd w.H dx (.own a)) a _ dx = _; rw [upd_ne hne, upd_same], fun xs q => by cases q⟩, [], .inl ⟨upd_same, rfl⟩, fun j v e => ?_⟩
      rw [List.getElem?_replicate] at e
      split at e <;> cases e
    · obtain ⟨o, e⟩ := F0.fz b f
      exact ⟨o, E1.sub b o e⟩
    · obtain ⟨us, e, rr⟩ := F0.cells k b es e1 e2
      exact ⟨us, E1.sub b _ e, RepL.le l rr⟩
    · simp
      omega
  refine ⟨⟨w, some ⟨a, g.ct cc, dx⟩, m⟩, _, _, _, rfl, S0, ?_⟩
  unfold runI at h
  rw [Res.sat_bind] at h
  refine h.mono fun p h => ?_
  obtain ⟨o, s⟩ := p
  cases o with
  | nx =>
    refine fun σ' fv' w' l' S' => ?_
    have h : ((fldsR (s.ρ.drop m)).bind fun fs => Res.ok (M.val (.ins cc fs), s.st)).Sat fun p => ∀ w', Stp (fun _ => False) w w' → Wf g w' p.2 → RepT g w w' p.1 (.ref a) → Q .non w'.H := h
    rw [Res.sat_bind] at h
    obtain ⟨fs, h, hl', hk⟩ := fldsR_ok h
    obtain ⟨w2, e2, st2, F2, r2⟩ := S'.made (z := ⟨a, g.ct cc, dx⟩) rfl rfl S'.sn hl' hk
    have := h w2 st2 F2 r2
    rw [e2] at this
    exact this
  | ret mm => exact h.elim
  | bk => exact h.elim
  | ct => exact h.elim
end
end Ev
set_option Elab.async false
set_option maxRecDepth 100000
set_option maxHeartbeats 2000000
namespace Ev
open PySem PySem.Spec PyProof.Rows L2
set_option autoImplicit false
section
variable {X : Cx} {g : Cg} {c : Fc} {w w' : W} {σ fv : Tv} {s : S} {C : Cl} {Dn : Ends}

theorem tE_mono {F : SE} {H : Hp} {Q Q' : VK} (k : ∀ v H, Q v H → Q' v H) (h : tE g C F σ H Q) : tE g C F σ H Q' := by
  obtain ⟨c, w, fv, s, e, S, h⟩ := h
  exact ⟨c, w, fv, s, e, S, h.mono fun p h v w' A r => k _ _ (h v w' A r)⟩
theorem tOp_le {f : List (List D) → List D → Res R} {r : R2} (hv : VN g f (r2 r)) {a b : SE} {H : Hp} {Q : VK} (h : tE g C (opE f [a, b]) σ H Q) : tOp r (tE g C a) (tE g C b) σ H Q := by
  have h1 := tOps_cons (tOpE_le hv h)
  exact tE_mono (fun x H1 q => tE_mono (fun y H2 q2 => by
    have q3 := tOps_nil q2
    exact q3) (tOps_cons q)) h1
theorem tUn_le {f : List (List D) → List D → Res R} {r : List V → Hp → VK → Prop} (hv : VN g f r) {a : SE} {H : Hp} {Q : VK} (h : tE g C (opE f [a]) σ H Q) : tUn (fun x H Q => r [x] H Q) (tE g C a) σ H Q := by
  have h1 := tOps_cons (tOpE_le hv h)
  exact tE_mono (fun x H1 q => by
    have q3 := tOps_nil q
    exact q3) h1
theorem tIsN_le {neg : Bool} {a : SE} {H : Hp} {Q : VK} (h : tE g C (opE (gIsN neg) [a]) σ H Q) : tOp (fun x y H Q => y = .non ∧ Q (.bl (if neg then !decide (x = .non) else decide (x = .non))) H) (tE g C a) (tC .non) σ H Q := by
  have h1 := tUn_le (vn_isN neg) h
  refine tE_mono (fun x H1 q => ?_) h1
  obtain ⟨y, e, q⟩ := q
  cases e
  exact ⟨rfl, q⟩
theorem op_isA (neg : Bool) : OpR X (compareOp (if neg then .IsNot else .Is)) (fun x y H Q => y = .non ∧ Q (.bl (if neg then !decide (x = .non) else decide (x = .non))) H) := by
  cases neg with
  | false => exact op_isN
  | true => exact op_notN
theorem tAndV_le {a b : SE} {H : Hp} {Q : VK} (h : tE g C (andF a b) σ H Q) : tAndV (tE g C a) (tE g C b) σ H Q := by
  have h1 := tT_tB (tE_tst (f := fun t => if t then b else fun _ s => .ok (.val (.bl false), s)) (by
    obtain ⟨c, w, fv, s, e, S, h⟩ := h
    refine ⟨c, w, fv, s, e, S, ?_⟩
    unfold andF at h
    rw [Res.sat_bind] at h ⊢
    refine h.mono fun p h => ?_
    obtain ⟨t, s1⟩ := p
    cases t <;> exact h))
  refine tE_mono (fun x H1 q => ?_) h1
  obtain ⟨t, e, q⟩ := q
  refine ⟨t, e, ?_⟩
  cases t with
  | true => exact L2.iteT q
  | false =>
    refine L2.iteF ?_
    obtain ⟨c, w, fv, s, rfl, S, h⟩ := q
    exact h (.bl false) w S.aft rfl
theorem tOrV_le {a b : SE} {H : Hp} {Q : VK} (h : tE g C (orF a b) σ H Q) : tOrV (tE g C a) (tE g C b) σ H Q := by
  have h1 := tT_tB (tE_tst (f := fun t => if t then fun _ s => .ok (.val (.bl true), s) else b) (by
    obtain ⟨c, w, fv, s, e, S, h⟩ := h
    refine ⟨c, w, fv, s, e, S, ?_⟩
    unfold orF at h
    rw [Res.sat_bind] at h ⊢
    refine h.mono fun p h => ?_
    obtain ⟨t, s1⟩ := p
    cases t <;> exact h))
  refine tE_mono (fun x H1 q => ?_) h1
  obtain ⟨t, e, q⟩ := q
  refine ⟨t, e, ?_⟩
  cases t with
  | false => exact L2.iteF q
  | true =>
    refine L2.iteT ?_
    obtain ⟨c, w, fv, s, rfl, S, h⟩ := q
    exact h (.bl true) w S.aft rfl
theorem tNotV_le {a : SE} {H : Hp} {Q : VK} (h : tE g C (notF a) σ H Q) : tNotV (tE g C a) σ H Q := by
  have h1 := tT_tB (tE_tst (f := fun t => fun _ s => .ok (.val (.bl (!t)), s)) h)
  refine tE_mono (fun x H1 q => ?_) h1
  obtain ⟨t, e, q⟩ := q
  obtain ⟨c, w, fv, s, rfl, S, h⟩ := q
  exact ⟨t, e, h (.bl (!t)) w S.aft rfl⟩
theorem tIf_le {t a b : SE} {H : Hp} {Q : VK} (h : tE g C (iteF t a b) σ H Q) : tIf (tT g C t) (tE g C a) (tE g C b) σ H Q := by
  have h1 := tE_tst (f := fun x => if x then a else b) (F := t) (by
    obtain ⟨c, w, fv, s, e, S, h⟩ := h
    refine ⟨c, w, fv, s, e, S, ?_⟩
    unfold iteF at h
    rw [Res.sat_bind] at h ⊢
    refine h.mono fun p h => ?_
    obtain ⟨t, s1⟩ := p
    cases t <;> exact h)
  obtain ⟨c, w, fv, s, e, S, h1⟩ := h1
  refine ⟨c, w, fv, s, e, S, h1.mono fun p h w1 A => ?_⟩
  have h := h w1 A
  cases hp : p.1 with
  | true =>
    rw [hp] at h
    exact L2.iteT h
  | false =>
    rw [hp] at h
    exact L2.iteF h
theorem tT_mono {F : SE} {H : Hp} {Q Q' : Bool → Hp → Prop} (k : ∀ v H, Q v H → Q' v H) (h : tT g C F σ H Q) : tT g C F σ H Q' := by
  obtain ⟨c, w, fv, s, e, S, h⟩ := h
  exact ⟨c, w, fv, s, e, S, h.mono fun p h w' A => k _ _ (h w' A)⟩
theorem tAnd_le {a b : SE} {H : Hp} {Q : Bool → Hp → Prop} (h : tT g C (andF a b) σ H Q) : tAnd (tT g C a) (tT g C b) σ H Q := by
  have h1 := tT_tst (f := fun t => if t then b else fun _ s => .ok (.val (.bl false), s)) (F := a) (by
    obtain ⟨c, w, fv, s, e, S, h⟩ := h
    refine ⟨c, w, fv, s, e, S, ?_⟩
    unfold tst at h ⊢
    unfold andF tst at h
    simp only [Res.sat_bind] at h ⊢
    refine h.mono fun p h => h.mono fun t h => ?_
    cases t <;> exact h)
  refine tT_mono (fun t H1 q => ?_) h1
  cases t with
  | true => exact L2.iteT q
  | false =>
    refine L2.iteF ?_
    obtain ⟨c, w, fv, s, rfl, S, h⟩ := q
    exact h w S.aft
theorem tOrT_le {a b : SE} {H : Hp} {Q : Bool → Hp → Prop} (h : tT g C (orF a b) σ H Q) : tOr (tT g C a) (tT g C b) σ H Q := by
  have h1 := tT_tst (f := fun t => if t then fun _ s => .ok (.val (.bl true), s) else b) (F := a) (by
    obtain ⟨c, w, fv, s, e, S, h⟩ := h
    refine ⟨c, w, fv, s, e, S, ?_⟩
    unfold tst at h ⊢
    unfold orF tst at h
    simp only [Res.sat_bind] at h ⊢
    refine h.mono fun p h => h.mono fun t h => ?_
    cases t <;> exact h)
  refine tT_mono (fun t H1 q => ?_) h1
  cases t with
  | false => exact L2.iteF q
  | true =>
    refine L2.iteT ?_
    obtain ⟨c, w, fv, s, rfl, S, h⟩ := q
    exact h w S.aft
theorem tNot_le {a : SE} {H : Hp} {Q : Bool → Hp → Prop} (h : tT g C (notF a) σ H Q) : tNot (tT g C a) σ H Q := by
  have h1 := tT_tst (f := fun t => fun _ s => .ok (.val (.bl (!t)), s)) (F := a) (by
    obtain ⟨c, w, fv, s, e, S, h⟩ := h
    refine ⟨c, w, fv, s, e, S, ?_⟩
    unfold tst at h ⊢
    unfold notF tst at h
    simp only [Res.sat_bind] at h ⊢
    exact h)
  refine tT_mono (fun t H1 q => ?_) h1
  obtain ⟨c, w, fv, s, rfl, S, h⟩ := q
  exact h w S.aft
/-- a op b op' c -/
def chF (f f' : List (List D) → List D → Res R) (a b k : SE) : SE := fun C s => (ops [a, b] C s).bind fun (os, s1) => (pks s1.ρ os).bind fun ds => (f s1.st ds).bind fun r => (bool1 r).bind fun t =>
  if t then (match os with
    | [_, ob] => (k C s1).bind fun (r2, s2) => (pks s2.ρ [ob, opd r2]).bind fun ds2 => (f' s2.st ds2).bind fun r => .ok (r, s2)
    | _ => .stuck) else .ok (.val (.bl false), s1)
theorem bool1N {w1 w2 : W} {r : R} {v : V} (h : RepN g w1 w2 r v) {P : Bool → Prop} (k : (bool1 r).Sat P) : ∃ b, P b ∧ v = .bl b := by
  unfold bool1 at k
  split at k
  · exact ⟨_, k, h⟩
  · exact k.elim
theorem tCh_le {f f' : List (List D) → List D → Res R} {r r' : R2} (hv : VN g f (r2 r)) (hv' : VN g f' (r2 r')) {a b k : SE} {H : Hp} {Q : VK} (h : tE g C (chF f f' a b k) σ H Q) : tChain r r' (tE g C a) (tE g C b) (tE g C k) σ H Q := by
  have h1 : tOps g C [a, b] σ H fun vs H1 => ∃ x y, vs = [x, y] ∧ r x y H1 fun z H3 => ∃ t, z = .bl t ∧ (if t = true then tE g C k σ H3 fun w' H4 => r' y w' H4 Q else Q (.bl false) H3) := by
    obtain ⟨c, w, fv, s, rfl, S, h⟩ := h
    unfold chF at h
    rw [Res.sat_bind] at h
    refine ⟨c, w, fv, s, rfl, S, ?_⟩
    obtain ⟨⟨os, s1⟩, e, h⟩ := Res.sat_iff.mp h
    rw [e]
    show ∀ vs w', _
    intro vs w1 A ro
    rw [Res.sat_bind] at h
    obtain ⟨ds, h, rp⟩ := pks_ok A.sim ro h
    rw [Res.sat_bind] at h
    -- two operands
    have two : ∃ oa ob, os = [oa, ob] := by
      unfold ops at e
      cases e1 : a C s with
      | ok p =>
        rw [e1] at e
        simp only [Res.bind_ok] at e
        unfold ops at e
        cases e2 : b C p.2 with
        | ok q =>
          rw [e2] at e
          simp only [Res.bind_ok] at e
          unfold ops at e
          simp only [Res.bind_ok] at e
          cases e
          exact ⟨_, _, rfl⟩
        | exc _ _ _ => rw [e2] at e; cases e
        | stuck => rw [e2] at e; cases e
      | exc _ _ _ => rw [e1] at e; cases e
      | stuck => rw [e1] at e; cases e
    obtain ⟨oa, ob, rfl⟩ := two
    have ro' := ro
    unfold RepOs at ro
    obtain ⟨x, vr, rfl, rx, ro⟩ := ro
    unfold RepOs at ro
    obtain ⟨y, vr, rfl, ry, ro⟩ := ro
    unfold RepOs at ro
    subst ro
    refine ⟨x, y, rfl, ?_⟩
    refine hv w1 s1.st ds [x, y] _ A.sim.wf rp (h.mono fun m h v w2 ex rn => ?_)
    rw [Res.sat_bind] at h
    obtain ⟨t, h, e⟩ := bool1N rn h
    refine ⟨t, e, ?_⟩
    have A2 := A.ext ex
    cases t with
    | false =>
      refine L2.iteF ?_
      exact h (.bl false) w2 A2 rfl
    | true =>
      refine L2.iteT ?_
      have h : ((k C s1).bind fun (r2, s2) => (pks s2.ρ [ob, opd r2]).bind fun ds2 => (f' s2.st ds2).bind fun r => .ok (r, s2)).Sat fun p => ∀ v w', Aft g c σ fv w s w' p.2 → RepR g w w' (σ ++ fv) p.2.ρ p.1 v → Q v w'.H := h
      rw [Res.sat_bind] at h
      refine ⟨c, w2, fv, s1, rfl, A2.sim, h.mono fun p h u w3 A3 r3 => ?_⟩
      obtain ⟨r0, s2⟩ := p
      obtain ⟨w4, hH, A4, ro4⟩ := opd_ok A2.sim A3 r3
      rw [Res.sat_bind] at h
      have ob' : RepO g w4 (σ ++ fv) s2.ρ ob y := (RepO.aft ⟨ex.step A.sim _, A.sim.ext ex, EnvLe.refl _⟩ ry).aft A4
      obtain ⟨ds2, h, rp2⟩ := pks_ok A4.sim (os := [ob, opd r0]) (vs := [y, u]) (by
        unfold RepOs
        refine ⟨y, [u], rfl, ob', ?_⟩
        unfold RepOs
        refine ⟨u, [], rfl, ro4, rfl⟩) h
      rw [Res.sat_bind] at h
      rw [← hH]
      refine hv' w4 s2.st ds2 [y, u] _ A4.sim.wf rp2 (h.mono fun m h v w5 ex5 rn5 => ?_)
      exact h v w5 ((A2.trans A4).ext ex5) (rn5.repR S (A2.trans A4) ex5)
  refine tE_mono (fun x H1 q => tE_mono (fun y H2 q2 => ?_) (tOps_cons q)) (tOps_cons h1)
  obtain ⟨x', y', e, q⟩ := tOps_nil q2
  cases e
  exact q

theorem enumL_get : ∀ {k : Int} {ds : List D} {i : Nat} {d : D}, ds[i]? = some d → (enumL k ds)[i]? = some (.tup false [.int (k + (i : Nat)), d])
  | k, [], i, d, h => by simp at h
  | k, e :: ds, 0, d, h => by
    simp only [List.getElem?_cons_zero, Option.some.injEq] at h
    subst h
    simp [enumL]
  | k, e :: ds, i + 1, d, h => by
    have := enumL_get (k := k + 1) (ds := ds) (i := i) (by simpa using h)
    show (enumL (k + 1) ds)[i]? = _
    rw [this]
    have e : k + 1 + (i : Int) = k + ((i + 1 : Nat) : Int) := by
      rw [Int.natCast_add]
      omega
    rw [e]
theorem enumL_len : ∀ (k : Int) (ds : List D), (enumL k ds).length = ds.length
  | _, [] => rfl
  | k, d :: ds => by simp [enumL, enumL_len (k + 1) ds]
theorem pair_ok {w2 : W} (F : ∀ a, w2.Fz a → ∃ o, w2.H a = some o) {T : Addr} {x y : V} {d e : D} (h : w2.H T = none) (r1 : Rep g w2 d x) (r2 : Rep g w2 e y) {H' : Hp} (eH : H' = upd w2.H T (.tup [x, y])) :
    ∃ w3, w3.H = H' ∧ Ext w2 w3 ∧ Rep g w3 (.tup false [d, e]) (.ref T) := by
  subst eH
  exact ⟨_, rfl, ext_newF h, new_tup F h (by
    unfold RepL
    refine ⟨x, [y], rfl, r1, ?_⟩
    unfold RepL
    exact ⟨y, [], rfl, r2, rfl⟩)⟩
theorem itOk_enum {t : Bool} {a : Addr} {k : Int} {ds : List D} {vs : List V} (h : ∀ w2, Le w w2 → SqX g.K t w2.H a vs) (r : RepL g w ds vs) : ItOk g (IteC g.K t a k) (enumL k ds) w := by
  have hl := r.length
  refine ⟨_, _, by rw [enumL_len, hl]; exact walk_enumC (K := g.K) (t := t) (a := a) (k := k) (xs := vs), h, fun i w2 x H' hi l hf y => ?_⟩
  obtain ⟨T, u, v, rfl, hT, eH, e1, e2⟩ := y
  obtain ⟨d, hd, rd⟩ := r.getV e2
  cases e1
  obtain ⟨w3, h3, ex, rp⟩ := pair_ok (d := .int (k + (i : Nat))) hf hT rfl (Rep.le l rd) eH
  exact ⟨w3, _, h3, ex, enumL_get hd, rp⟩
theorem zipL_get : ∀ {as bs : List D} {i : Nat} {a b : D}, as[i]? = some a → bs[i]? = some b → (zipL as bs)[i]? = some (.tup false [a, b])
  | [], _, _, _, _, h, _ => by simp at h
  | _ :: _, [], _, _, _, _, h => by simp at h
  | x :: as, y :: bs, 0, a, b, h, k => by
    simp only [List.getElem?_cons_zero, Option.some.injEq] at h k
    subst h k
    simp [zipL]
  | x :: as, y :: bs, i + 1, a, b, h, k => by
    show (zipL as bs)[i]? = _
    exact zipL_get (by simpa using h) (by simpa using k)
theorem zipL_len : ∀ (as bs : List D), (zipL as bs).length = min as.length bs.length
  | [], _ => by simp [zipL]
  | _ :: _, [] => by simp [zipL]
  | a :: as, b :: bs => by simp [zipL, zipL_len as bs]
theorem itF_ok {f : SE} (S : Sim g c w σ fv s) {P : List D × Ev.S → Prop} (h : (itF f C s).Sat P) {Q : V → Hp → Prop} (k : ∀ ds s2 w2 t a vs, Aft g c σ fv w s w2 s2 → P (ds, s2) → (∀ w3, Le w2 w3 → SqX g.K t w3.H a vs) → RepL g w2 ds vs → Q (.ref a) w2.H) : tE g C f σ w.H Q := by
  unfold itF at h
  rw [Res.sat_bind] at h
  refine ⟨c, w, fv, s, rfl, S, h.mono fun p h v w1 A r => ?_⟩
  obtain ⟨r0, s1⟩ := p
  rw [Res.sat_bind] at h
  obtain ⟨d, s2, w2, h, hH, A2, rd⟩ := frz_ok S A r h
  rw [Res.sat_bind] at h
  rw [← hH]
  unfold itemsOf at h
  split at h
  · unfold Rep at rd
    obtain ⟨a, vs, rfl, n, rl⟩ := rd
    exact k _ s2 w2 false a vs A2 h (fun w3 l => (n.le l).sq) rl
  · unfold Rep at rd
    obtain ⟨a, vs, rfl, n, rl⟩ := rd
    exact k _ s2 w2 true a vs A2 h (fun w3 l => (n.le l).sq) rl
  · exact h.elim
theorem tI_enum0 {f : SE} {H : Hp} {R : It → Hp → Prop} (h : tI g C (enumF 0 f) σ H R) : iEnumC g.K (tCons (tE g C f) tNil) σ H R := by
  obtain ⟨c, w, fv, s, rfl, S, h⟩ := h
  unfold enumF at h
  rw [Res.sat_bind] at h
  refine itF_ok S h fun ds s2 w2 t a vs A p hq rl => ?_
  exact ⟨t, a, 0, vs, .inl ⟨rfl, rfl⟩, hq w2 (Le.refl _), p _ w2 A (itOk_enum hq rl)⟩
theorem tI_enumK {k : Int} (hk : -(2 ^ 63) ≤ k ∧ k < 2 ^ 63) {f : SE} {H : Hp} {R : It → Hp → Prop} (h : tI g C (enumF k f) σ H R) : iEnumC g.K (tCons (tE g C f) (tCons (tC (.int k)) tNil)) σ H R := by
  obtain ⟨c, w, fv, s, rfl, S, h⟩ := h
  unfold enumF at h
  rw [Res.sat_bind] at h
  refine itF_ok S h fun ds s2 w2 t a vs A p hq rl => ?_
  exact ⟨t, a, k, vs, .inr ⟨rfl, hk.1, hk.2⟩, hq w2 (Le.refl _), p _ w2 A (itOk_enum hq rl)⟩
theorem tI_zip {f k : SE} {H : Hp} {R : It → Hp → Prop} (h : tI g C (zipF f k) σ H R) : RZ.iZipA g.K (tFzs g C [f, k]) σ H R := by
  obtain ⟨c, w, fv, s, rfl, S, h⟩ := h
  unfold zipF at h
  rw [Res.sat_bind] at h
  refine ⟨c, w, fv, s, rfl, S, h.mono fun p h vs w1 A rl => ?_⟩
  obtain ⟨ds, s1⟩ := p
  dsimp only at h
  split at h
  · rename_i as bs
    have h : ∀ J w', Aft g c σ fv w s w' s1 → ItOk g J (zipL as bs) w' → R J w'.H := h
    unfold RepL at rl
    obtain ⟨v1, vr, rfl, r1, rl⟩ := rl
    unfold RepL at rl
    obtain ⟨v2, vr, rfl, r2, rl⟩ := rl
    unfold RepL at rl
    subst rl
    unfold Rep at r1 r2
    obtain ⟨a, us, rfl, n1, q1⟩ := r1
    obtain ⟨b, us2, rfl, n2, q2⟩ := r2
    have io : ItOk g (Itz g.K a b) (zipL as bs) w1 := by
      have wk := walk_zip (K := g.K) (a := a) (b := b) (xs := us) (ys := us2) (n := (zipL as bs).length) (by rw [zipL_len, q1.length, q2.length])
      refine ⟨_, _, wk, fun w2 l => ⟨(n1.le l).sq, (n2.le l).sq⟩, fun i w2 x H' hi l hf y => ?_⟩
      obtain ⟨T, u, v, rfl, hT, eH, e1, e2⟩ := y
      obtain ⟨d, hd, rd⟩ := q1.getV e1
      obtain ⟨e, he, re⟩ := q2.getV e2
      obtain ⟨w3, h3, ex, rp⟩ := pair_ok hf hT (Rep.le l rd) (Rep.le l re) eH
      exact ⟨w3, _, h3, ex, zipL_get hd he, rp⟩
    exact ⟨a, b, us, us2, rfl, .inl ⟨n1.sq, n2.sq, h _ w1 A io⟩⟩
  · rename_i k1 as k2 bs
    have h : ∀ J w', Aft g c σ fv w s w' s1 → ItOk g J (zipL as bs) w' → R J w'.H := h
    unfold RepL at rl
    obtain ⟨v1, vr, rfl, r1, rl⟩ := rl
    unfold RepL at rl
    obtain ⟨v2, vr, rfl, r2, rl⟩ := rl
    unfold RepL at rl
    subst rl
    unfold Rep at r1 r2
    obtain ⟨a, us, rfl, n1, q1⟩ := r1
    obtain ⟨b, us2, rfl, n2, q2⟩ := r2
    have io : ItOk g (RZ.ItzT g.K a b) (zipL as bs) w1 := by
      have wk := walk_zipT (K := g.K) (a := a) (b := b) (xs := us) (ys := us2) (n := (zipL as bs).length) (by rw [zipL_len, q1.length, q2.length])
      refine ⟨_, _, wk, fun w2 l => ⟨(n1.le l).sq, (n2.le l).sq⟩, fun i w2 x H' hi l hf y => ?_⟩
      obtain ⟨T, u, v, rfl, hT, eH, e1, e2⟩ := y
      obtain ⟨d, hd, rd⟩ := q1.getV e1
      obtain ⟨e, he, re⟩ := q2.getV e2
      obtain ⟨w3, h3, ex, rp⟩ := pair_ok hf hT (Rep.le l rd) (Rep.le l re) eH
      exact ⟨w3, _, h3, ex, zipL_get hd he, rp⟩
    exact ⟨a, b, us, us2, rfl, .inr ⟨n1.sq, n2.sq, h _ w1 A io⟩⟩
  · exact h.elim
theorem rgOk_ok {a b : Int} (h : rgOk a b = true) : RgOk a b := by
  unfold rgOk at h
  rw [Bool.and_eq_true, Bool.and_eq_true, Nat.ble_eq] at h
  obtain ⟨⟨h1, h2⟩, h5⟩ := h
  have h1 := okR_iff.mp h1
  have h2 := okR_iff.mp h2
  exact ⟨by omega, by omega, by omega, by omega, by omega⟩
theorem rep_rng (lo : Int) : ∀ l : List Nat, RepL g w (l.map fun (k : Nat) => D.int (lo + k * 1)) (l.map fun i => V.int (lo + (i : Nat)))
  | [] => rfl
  | k :: l => by
    rw [List.map_cons, List.map_cons]
    unfold RepL
    exact ⟨_, _, rfl, by unfold Rep; rw [Int.mul_one], rep_rng lo l⟩
theorem lrg_ok {w1 : W} {s1 : S} {a b : Int} {Q : VK} (S : Sim g c w σ fv s) (A : Aft g c σ fv w s w1 s1) (hz : rgOk a b = true) (h : ∀ v w', Aft g c σ fv w s w' s1 → RepR g w w' (σ ++ fv) s1.ρ (.own (rngL a (b - a).toNat 1)) v → Q v w'.H) : RgOk a b ∧ ∀ q, w1.H q = none → Q (.ref q) (upd w1.H q (.lst (rgV a b))) := by
  refine ⟨rgOk_ok hz, fun q hq => ?_⟩
  exact h (.ref q) _ (A.ext (ext_new hq)) ((new_lst A.sim.fz hq (rep_rng a (List.range (b - a).toNat))).repR S A (ext_new hq))
theorem tLr1_le {f : SE} {H : Hp} {Q : VK} (h : tE g C (lr1F f) σ H Q) : tLstRg (tRg1 (tE g C f)) σ H Q := by
  obtain ⟨c, w, fv, s, rfl, S, h⟩ := h
  unfold lr1F at h
  rw [Res.sat_bind] at h
  refine ⟨c, w, fv, s, rfl, S, h.mono fun p h v w1 A r => ?_⟩
  obtain ⟨r0, s1⟩ := p
  rw [Res.sat_bind] at h
  obtain ⟨j, h, _, e⟩ := int1_ok r h
  obtain ⟨hz, h⟩ := Res.sat_ite _ _ h
  exact ⟨j, e, lrg_ok S A hz h⟩
theorem tLr2_le {f k : SE} {H : Hp} {Q : VK} (h : tE g C (lr2F f k) σ H Q) : tLstRg (tRg2 (tE g C f) (tE g C k)) σ H Q := by
  obtain ⟨c, w, fv, s, rfl, S, h⟩ := h
  unfold lr2F at h
  rw [Res.sat_bind] at h
  refine ⟨c, w, fv, s, rfl, S, h.mono fun p h v w1 A r => ?_⟩
  obtain ⟨r0, s1⟩ := p
  rw [Res.sat_bind] at h
  obtain ⟨i, h, _, e⟩ := int1_ok r h
  rw [Res.sat_bind] at h
  refine ⟨c, w1, fv, s1, rfl, A.sim, h.mono fun p h u w2 A2 r => ?_⟩
  obtain ⟨r1, s2⟩ := p
  rw [Res.sat_bind] at h
  obtain ⟨j, h, _, e2⟩ := int1_ok r h
  obtain ⟨hz, h⟩ := Res.sat_ite _ _ h
  exact ⟨i, j, e, e2, lrg_ok S (A.trans A2) hz h⟩
end
end Ev
set_option Elab.async false
set_option maxRecDepth 100000
set_option maxHeartbeats 4000000
namespace Ev
open PySem PySem.Spec PyProof.Rows L2
set_option autoImplicit false
section
variable {P : Program} {w : World} {A : Around} {E : Value → Shared → Prop} {s : Shared}
/-- a set at its birth -/
abbrev oSet (w : World) : Obj := { cls := .type "set", dict := none, data := .set #[] 0 (.fresh 0 0 (!w.params.followText "set-order")) }
abbrev hSet (w : World) (s : Shared) : Heap := s.heap.push (oSet w)
/-- the loop over the list, from the newborn set on -/
theorem fill_ints {l : Addr} {its : Array Value} {is : List Int} (hh : A.handled = none) (hl : s.heap.IsList l its) (hi : IntsAre its.toList is) (hb : is.length + 1 < scanBound) {R : Result → Shared → Prop}
    (h : ∀ s' c, Moved [s.heap.objs.size, (hSet w s).objs.size] (fun x y => y = x) { s with heap := (hSet w s).push { cls := .type "list_iterator", data := .fields #[.ref l, .int 0 0] } } s' → c ≤ is.length → SetR w s'.heap s.heap.objs.size (fun j => decide (j ∈ is)) c → R (.ok (.ret .none)) s') :
    codeAny (model P w) A (.builtin "set.update.loop" ⟨[.ref s.heap.objs.size, .ref (hSet w s).objs.size], []⟩) R { s with heap := (hSet w s).push { cls := .type "list_iterator", data := .fields #[.ref l, .int 0 0] } } := by
  have lt : l < s.heap.objs.size := by
    obtain ⟨o, ho, _⟩ := hl
    exact Heap.lt_size ho
  have sz : (hSet w s).objs.size = s.heap.objs.size + 1 := Heap.size_push ..
  have ln : its.size = is.length := by
    have q := hi.length
    rwa [Array.length_toList] at q
  have l1 : (hSet w s).IsList l its := hl.push _
  refine set_update_ints ((Walks.list (by simp [hh]) (hSet w s).objs.size l (fun z => absurd (z.trans sz) (Nat.ne_of_lt (Nat.lt_succ_of_lt lt))) its).toS) s.heap.objs.size ?_ is ln hb (fun i v e => ?_) its.size 0 _ (Nat.sub_zero _) (Nat.zero_le _) ⟨⟨_, Heap.get?_push_size _ rfl, rfl, rfl⟩, l1.push _⟩ ⟨0, Nat.le_refl _, setR_new_at ?_⟩ fun s' c m hc r => h s' c ?_ (ln ▸ hc) r
  · intro z
    rcases List.mem_cons.mp z with z | z
    · exact Nat.ne_of_lt (Nat.lt_succ_self _) (z.trans sz)
    · exact Nat.ne_of_gt lt (List.mem_singleton.mp z)
  · have lt : i < is.length := by
      rw [← ln]
      exact (Array.getElem?_eq_some_iff.mp e).1
    obtain ⟨t, q⟩ := hi.int_at i v (by rw [Array.getElem?_toList]; exact e)
    exact ⟨is[i], t, List.getElem?_eq_getElem lt, by rw [q, List.getD_eq_getElem?_getD, List.getElem?_eq_getElem lt]; rfl⟩
  · exact Heap.get?_push_of_some _ (Heap.get?_push_size _ rfl)
  · exact m
/-- the newborn set takes in a list's ints -/
theorem init_ints {l : Addr} {its : Array Value} {is : List Int} (hh : A.handled = none) (hl : s.heap.IsList l its) (hi : IntsAre its.toList is) (hb : is.length + 1 < scanBound) {R : Result → Shared → Prop}
    (h : ∀ h' tk c, c ≤ is.length → SetR w h' s.heap.objs.size (fun j => decide (j ∈ is)) c → (∀ b o, s.heap.get? b = some o → h'.get? b = some o) → R (.ok (.ret .none)) { s with heap := h', toks := tk }) :
    codeAny (model P w) A (.call (.builtin "set.__init__") ⟨[.ref s.heap.objs.size, .ref l], []⟩) R { s with heap := hSet w s } := by
  have n1 : (Value.type "list" == Value.type "dict") = false := by decide
  have n2 := F.sub_list_set
  have n3 := F.sub_list_frozenset
  have l1 : (hSet w s).IsList l its := hl.push _
  have hl0 := hl
  obtain ⟨⟨oc, od, oda, os⟩, ho, c1, k1, c2⟩ := hl0
  simp only at c1 c2
  subst c1 c2
  have hol : (hSet w s).get? l = some { cls := .type "list", dict := od, data := .seq its k1, slots := os } := Heap.get?_push_of_some _ ho
  have new : (hSet w s).get? s.heap.objs.size = some (oSet w) := Heap.get?_push_size _ rfl
  refine codeAny_call_builtin F.called_set.init.plain F.entry_set_init (check_set_init_1 ⟨_, new, rfl⟩ ?_)
  unfold Builtin.«set.__init__» noKeywords Builtin.Frozenset.updateFrom
  generalize hp : pyIter = p
  wp_walk
  subst hp
  refine wpAny_pyIter_list l1 (wpAny_bind (wpAny_runValue ?_))
  refine fill_ints (by simp [hh]) hl hi hb fun s' c m hc r => ?_
  obtain ⟨h', g', d', tk, o'⟩ := s'
  obtain rfl : g' = s.gens := m.gens
  obtain rfl : d' = s.drawn := m.drawn
  obtain rfl : o' = s.os := m.os
  refine wpAny_pure (wpAny_pure (h h' tk c hc r fun b o e => m.heap b o ?_ (Heap.get?_push_of_some _ (Heap.get?_push_of_some _ e))))
  have lb := Heap.lt_size e
  have sz : (hSet w s).objs.size = s.heap.objs.size + 1 := Heap.size_push ..
  intro z
  rcases List.mem_cons.mp z with z | z
  · exact Nat.ne_of_lt lb z
  · exact Nat.ne_of_lt (Nat.lt_succ_of_lt lb) ((List.mem_singleton.mp z).trans sz)
/-- set(l) -/
theorem set_ofL {l : Addr} {its : Array Value} {is : List Int} {Q : Value → Shared → Prop} (hh : A.handled = none) (hl : s.heap.IsList l its) (hi : IntsAre its.toList is) (hb : is.length + 1 < scanBound)
    (h : ∀ h' tk c, c ≤ is.length → SetR w h' s.heap.objs.size (fun j => decide (j ∈ is)) c → (∀ b o, s.heap.get? b = some o → h'.get? b = some o) → Q (.ref s.heap.objs.size) { s with heap := h', toks := tk }) :
    wpAny (model P w) A (call (.type "set") [.ref l]) Q E s := by
  have mr := F.called_set.mro
  obtain ⟨c0, tl, mr⟩ := mr
  have m1 := F.called_set.made
  have m2 := F.called_set.sub
  have m3 := F.called_set.notType
  have m4 := F.called_set.canCreate
  have m5 := F.typeCall_set_1 (.ref l)
  have new : (hSet w s).get? s.heap.objs.size = some (oSet w) := Heap.get?_push_size _ rfl
  have ty : Shared.TypeIs { s with heap := hSet w s } (.ref s.heap.objs.size) "set" := ⟨_, new, rfl⟩
  have i1 := F.called_set.init.lookup
  have i2 := F.called_set.init.bind (.ref s.heap.objs.size)
  refine wpAny_call (codeAny_of_tree ?_)
  show wpAny _ _ (callAny (.type "set") _) _ _ _
  refine wpAny_pure (And.intro (Code.quiet_builtin _ (by decide +kernel)) ?_)
  refine codeAny_builtin F.entry_type_call ?_
  rw [Around.under_plain (weight_type_call_type "set" [.ref l] []) rfl]
  repeat (any_goals (first | assumption | wp_step))
  refine codeAny_mono (code_set_led1 (.ref l) (E := E) (Q₁ := fun v s1 => v = .ref s.heap.objs.size ∧ s1 = { s with heap := hSet w s }) (And.intro rfl rfl)) fun r s1 g => ?_
  match r, g with
  | .error e, g => exact g
  | .ok (.ret v), g =>
    obtain ⟨rfl, rfl⟩ := g
    repeat (any_goals (first | assumption | wp_step))
    refine codeAny_mono (init_ints (A := A.in1) (P := P) (R := fun r s2 => r = .ok (.ret .none) ∧ ∃ h' tk c, s2 = { s with heap := h', toks := tk } ∧ c ≤ is.length ∧ SetR w h' s.heap.objs.size (fun j => decide (j ∈ is)) c ∧ ∀ b o, s.heap.get? b = some o → h'.get? b = some o) (by simp [hh]) hl hi hb fun h' tk c x y z => ⟨rfl, h', tk, c, rfl, x, y, z⟩) fun r s2 g => ?_
    obtain ⟨rfl, h', tk, c, rfl, x, y, z⟩ := g
    repeat (any_goals (first | assumption | wp_step))
    exact h h' tk c x y z
end
theorem insU_mem (x z : Int) : ∀ l : List Int, z ∈ insU x l ↔ z = x ∨ z ∈ l
  | [] => by simp [insU]
  | y :: ys => by
    unfold insU
    split
    · simp
    · split
      · rename_i h
        subst h
        simp
      · simp [insU_mem x z ys, or_left_comm]
theorem insU_pw (x : Int) : ∀ {l : List Int}, l.Pairwise (· < ·) → (insU x l).Pairwise (· < ·)
  | [], _ => by simp [insU]
  | y :: ys, h => by
    rw [List.pairwise_cons] at h
    unfold insU
    split
    · rename_i q
      rw [List.pairwise_cons]
      refine ⟨fun z hz => ?_, List.pairwise_cons.mpr h⟩
      rcases List.mem_cons.mp hz with e | e
      · omega
      · have := h.1 z e
        omega
    · split
      · exact List.pairwise_cons.mpr h
      · rw [List.pairwise_cons]
        refine ⟨fun z hz => ?_, insU_pw x h.2⟩
        rcases (insU_mem x z ys).mp hz with e | e
        · omega
        · exact h.1 z e
theorem setI_mem (z : Int) : ∀ l : List Int, z ∈ setI l ↔ z ∈ l
  | [] => by simp [setI]
  | x :: xs => by simp [setI, insU_mem, setI_mem z xs]
theorem setI_pw : ∀ l : List Int, (setI l).Pairwise (· < ·)
  | [] => List.Pairwise.nil
  | x :: xs => insU_pw x (setI_pw xs)
/-- ascending lists are told by their members -/
theorem asc_unique : ∀ {a b : List Int}, a.Pairwise (· < ·) → b.Pairwise (· < ·) → (∀ z, z ∈ a ↔ z ∈ b) → a = b
  | [], [], _, _, _ => rfl
  | [], y :: ys, _, _, h => absurd ((h y).mpr List.mem_cons_self) (by simp)
  | x :: xs, [], _, _, h => absurd ((h x).mp List.mem_cons_self) (by simp)
  | x :: xs, y :: ys, h1, h2, h => by
    rw [List.pairwise_cons] at h1 h2
    have e : x = y := by
      rcases List.mem_cons.mp ((h x).mp List.mem_cons_self) with q | q
      · exact q
      · rcases List.mem_cons.mp ((h y).mpr List.mem_cons_self) with q' | q'
        · exact q'.symm
        · have a1 := h2.1 x q
          have a2 := h1.1 y q'
          omega
    subst e
    refine congrArg _ (asc_unique h1.2 h2.2 fun z => ⟨fun q => ?_, fun q => ?_⟩)
    · rcases List.mem_cons.mp ((h z).mp (List.mem_cons_of_mem _ q)) with e | e
      · have := h1.1 z q
        omega
      · exact e
    · rcases List.mem_cons.mp ((h z).mpr (List.mem_cons_of_mem _ q)) with e | e
      · have := h2.1 z q
        omega
      · exact e
def rSetL (K : PySem.W.Frag) (w : World) : List V → Hp → VK → Prop := fun xs H Q => ∃ (l : Addr) (is : List Int), xs = [.ref l] ∧ SqL K H l (is.map V.int) ∧ is.length + 1 < scanBound ∧
  ∀ a c, H a = none → c ≤ is.length → Q (.ref a) (upd H a (SetO w a (fun j => decide (j ∈ is)) c))
section
variable {X : Cx} {g : Cg} {c : Fc} {w w' : W} {σ fv : Tv} {s : S} {C : Cl}
theorem cr_setL (hc : X.calm = true) : CallR X (.type "set") (rSetL X.K X.w) := by
  intro pins s σ H xs us Q I r h
  obtain ⟨l, is, rfl, hl, hb, q⟩ := h
  rw [Vals.ref1 r]
  obtain ⟨its, rv, pl, hz⟩ := I.list hl
  refine set_ofL (I.ok.hd hc) pl.isList (by simpa using ints_of_vals rv) hb fun h' tk c hcl R k => ?_
  exact ⟨.ref s.heap.objs.size, _, I.laid (t' := tk) k (Nat.le_refl _) (setO_new R), rfl, q _ c (I.hok.fresh (Nat.le_refl _)) hcl⟩
theorem bt_set : bootBuiltins "set" = some (.type "set") := by decide +kernel
theorem bt_sorted : bootBuiltins "sorted" = some (.builtin "sorted") := by decide +kernel
theorem vn_ss (pw : World) : VN g gSS (fun xs H Q => rSetL g.K pw xs H fun x H1 => rSortedSet pw [x] H1 Q) := by
  intro w st ds xs Q F rp h
  unfold gSS at h
  split at h
  · rename_i zs
    obtain ⟨x, rfl, rx⟩ := pps1 rp
    obtain ⟨a, vs, rfl, ha, ra⟩ := rx.lst
    rw [Res.sat_bind] at h
    obtain ⟨is, e, h⟩ := optR_ok h
    obtain ⟨h64, h⟩ := Res.sat_ite _ _ h
    have e' := i1_rep e ra
    subst e'
    refine ⟨a, is, rfl, SqL.of ha, by unfold scanBound; omega, fun b n hb hn => ⟨b, _, n, rfl, upd_same, by omega, fun ns p h1 h2 h3 hp => ?_⟩⟩
    have en : ns = setI is := asc_unique h1 (setI_pw is) fun z => by rw [h2, setI_mem]; simp
    subst en
    have k1 : Ext w ⟨upd w.H b (SetO pw b (fun j => decide (j ∈ is)) n), w.Fz, w.μ⟩ := ext_new hb
    have k2 : Ext ⟨upd w.H b (SetO pw b (fun j => decide (j ∈ is)) n), w.Fz, w.μ⟩ ⟨upd (upd w.H b (SetO pw b (fun j => decide (j ∈ is)) n)) p (.lst ((setI is).map V.int)), w.Fz, w.μ⟩ := ext_new hp
    refine h (.ref p) _ (k1.trans k2) ?_
    have hwp : w.H p = none := by
      cases q : w.H p with
      | none => rfl
      | some o =>
        have := k1.sub p o q
        have hp : upd w.H b (SetO pw b (fun j => decide (j ∈ is)) n) p = none := hp
        rw [show (⟨upd w.H b (SetO pw b (fun j => decide (j ∈ is)) n), w.Fz, w.μ⟩ : W).H p = upd w.H b (SetO pw b (fun j => decide (j ∈ is)) n) p from rfl, hp] at this
        cases this
    refine ⟨p, _, rfl, upd_same, RepL.ints _, fun f => ?_, hwp⟩
    obtain ⟨o, e⟩ := F.fz p f
    rw [hwp] at e
    cases e
  · exact h.elim
theorem tSS_le (pw : World) {f : SE} {H : Hp} {Q : VK} (h : tE g C (opE gSS [f]) σ H Q) : tCB (rSortedSet pw) (tCons (tCB (rSetL g.K pw) (tCons (tE g C f) tNil)) tNil) σ H Q := by
  have h1 := tOps_cons (Q := fun vs H1 => rSetL g.K pw vs H1 fun x H2 => rSortedSet pw [x] H2 Q) (tOpE_le (vn_ss (g := g) pw) h)
  obtain ⟨c, w, fv, s, rfl, S, z⟩ := h1
  exact ⟨c, w, fv, s, rfl, S, z.mono fun p z v w1 A r => tOps_nil (z v w1 A r)⟩
/-- sorted(set(e)) -/
theorem pe_ss {e : Expr} {p q pos pos2 : Pos} {te : TE} (hc : X.calm = true) (h1 : Gl X "sorted") (h2 : X.mg "sorted" = none) (h3 : Gl X "set") (h4 : X.mg "set" = none) (he : PE X e te) (hs : notStar e = true) :
    PE X (.Call (.Name "sorted" p) [.Call (.Name "set" q) [e] [] pos2] [] pos) (tCB (rSortedSet X.w) (tCons (tCB (rSetL X.K X.w) (tCons te tNil)) tNil)) :=
  pe_callB (cr_sortedSet hc) h1 h2 bt_sorted (pa_cons (pe_callTy (cr_setL hc) h3 h4 bt_set (pa_cons he pa_nil (star_cons hs _ _)) (by decide) (by decide) (star_cons hs _ _) (star_any (by rfl) _ _)) pa_nil (star_cons rfl _ _)) (by decide) (by decide) (star_cons rfl _ _) (star_any (by rfl) _ _)

def stars : List (Bool × SE) → Cl → Ev.S → Res (List D × Ev.S)
  | [], _, s => .ok ([], s)
  | (b, f) :: fs, C, s => (f C s).bind fun (r, s1) => (frz r s1).bind fun (d, s2) => (if b then itemsOf s2.st d else .ok [d]).bind fun xs => (stars fs C s2).bind fun (ds, s3) => .ok (xs ++ ds, s3)
def tupS (fs : List (Bool × SE)) : SE := fun C s => (stars fs C s).bind fun (ds, s1) => if ds.length ≤ szL then .ok (.val (.tup (sHd ds) ds), s1) else .stuck
def lstS (fs : List (Bool × SE)) : SE := fun C s => (stars fs C s).bind fun (ds, s1) => if ds.length ≤ szL then .ok (.own ds, s1) else .stuck
def tStars (g : Cg) (C : Cl) (fs : List (Bool × SE)) : TA := fun σ H Q => ∃ c w fv s, w.H = H ∧ Sim g c w σ fv s ∧
  (stars fs C s).Sat fun p => ∀ vs w', Aft g c σ fv w s w' p.2 → RepL g w' p.1 vs → Q vs w'.H
theorem tStars_nil {H : Hp} {Q : List V → Hp → Prop} (h : tStars g C [] σ H Q) : tNil σ H Q := by
  obtain ⟨c, w, fv, s, rfl, S, h⟩ := h
  exact h [] w S.aft rfl
theorem items_ok {w : W} {st : List (List D)} {d : D} {v : V} (r : Rep g w d v) {P : List D → Prop} (k : (itemsOf st d).Sat P) : ∃ a ds vs, P ds ∧ v = .ref a ∧ (SqT g.K w.H a vs ∨ SqL g.K w.H a vs) ∧ RepL g w ds vs := by
  unfold itemsOf at k
  split at k
  · unfold Rep at r
    obtain ⟨a, vs, e, n, rl⟩ := r
    exact ⟨a, _, vs, k, e, .inr n.sq, rl⟩
  · unfold Rep at r
    obtain ⟨a, vs, e, n, rl⟩ := r
    exact ⟨a, _, vs, k, e, .inl n.sq, rl⟩
  · exact k.elim
theorem tStars_one {f : SE} {fs : List (Bool × SE)} {H : Hp} {Q : List V → Hp → Prop} (h : tStars g C ((false, f) :: fs) σ H Q) : tCons (tE g C f) (tStars g C fs) σ H Q := by
  obtain ⟨c, w, fv, s, rfl, S, h⟩ := h
  unfold stars at h
  rw [Res.sat_bind] at h
  refine ⟨c, w, fv, s, rfl, S, h.mono fun p h v w1 A r => ?_⟩
  obtain ⟨r0, s1⟩ := p
  rw [Res.sat_bind] at h
  obtain ⟨d, s2, w2, h, hH, A2, r2⟩ := frz_ok S A r h
  simp only [if_neg Bool.false_ne_true, Res.bind_ok] at h
  rw [Res.sat_bind] at h
  refine ⟨c, w2, fv, s2, hH, A2.sim, h.mono fun q h vs w3 A3 rs => ?_⟩
  obtain ⟨ds, s3⟩ := q
  exact h (v :: vs) w3 (A2.trans A3) ⟨v, vs, rfl, Rep.le A3.stp.le r2, rs⟩
theorem tStars_star {f : SE} {fs : List (Bool × SE)} {H : Hp} {Q : List V → Hp → Prop} (h : tStars g C ((true, f) :: fs) σ H Q) : StX.tStar g.K (tE g C f) (tStars g C fs) σ H Q := by
  obtain ⟨c, w, fv, s, rfl, S, h⟩ := h
  unfold stars at h
  rw [Res.sat_bind] at h
  refine ⟨c, w, fv, s, rfl, S, h.mono fun p h v w1 A r => ?_⟩
  obtain ⟨r0, s1⟩ := p
  rw [Res.sat_bind] at h
  obtain ⟨d, s2, w2, h, hH, A2, r2⟩ := frz_ok S A r h
  simp only [if_true] at h
  rw [Res.sat_bind] at h
  obtain ⟨a, xs, us, h, rfl, hq, rl⟩ := items_ok r2 h
  rw [Res.sat_bind] at h
  rw [← hH]
  refine ⟨a, us, rfl, hq, c, w2, fv, s2, rfl, A2.sim, h.mono fun q h vs w3 A3 rs => ?_⟩
  obtain ⟨ds, s3⟩ := q
  exact h (us ++ vs) w3 (A2.trans A3) ((RepL.le A3.stp.le rl).append rs)
theorem tTupS_le {fs : List (Bool × SE)} {H : Hp} {Q : VK} (h : tE g C (tupS fs) σ H Q) : tTupF (tStars g C fs) σ H Q := by
  obtain ⟨c, w, fv, s, rfl, S, h⟩ := h
  unfold tupS at h
  rw [Res.sat_bind] at h
  refine ⟨c, w, fv, s, rfl, S, h.mono fun p h vs w1 A r => ?_⟩
  obtain ⟨ds, s1⟩ := p
  obtain ⟨hz, h⟩ := Res.sat_ite _ _ h
  refine ⟨by rw [← r.length]; exact hz, fun p o hp hd => ?_⟩
  exact h (.ref p) _ (A.ext (ext_newF hp)) (new_tupF A.sim.fz hp hd r)
theorem tLstS_le {fs : List (Bool × SE)} {H : Hp} {Q : VK} (h : tE g C (lstS fs) σ H Q) : tLst (tStars g C fs) σ H Q := by
  obtain ⟨c, w, fv, s, rfl, S, h⟩ := h
  unfold lstS at h
  rw [Res.sat_bind] at h
  refine ⟨c, w, fv, s, rfl, S, h.mono fun p h vs w1 A r => ?_⟩
  obtain ⟨ds, s1⟩ := p
  obtain ⟨hz, h⟩ := Res.sat_ite _ _ h
  refine ⟨by rw [← r.length]; exact hz, fun p hp => ?_⟩
  exact h (.ref p) _ (A.ext (ext_new hp)) ((new_lst A.sim.fz hp r).repR S A (ext_new hp))
theorem tS_ext {i : Nat} (hi : i < σ.length) {f : SE} {Dn : Ends} {H : Hp} (h : tS g C (extF i f) Dn σ H) : tDrop (tBM g.K "list" rExtend (tVar i) (tCons (tE g C f) tNil)) Dn σ H := by
  obtain ⟨c, w, fv, s, rfl, S, h⟩ := h
  unfold extF at h
  obtain ⟨h0, h⟩ := Res.sat_ite _ _ h
  obtain ⟨es, e0⟩ := ownAt_ok h0
  obtain ⟨a, vs0, ha, ht, hH0, _⟩ := S.ownL hi e0
  rw [Res.sat_bind] at h
  refine ⟨_, ha, .inl ⟨rfl, vs0, .inl (.inl hH0)⟩, c, w, fv, s, rfl, S, h.mono fun p h v w1 A r => ?_⟩
  obtain ⟨r0, s1⟩ := p
  rw [Res.sat_bind] at h
  obtain ⟨d, s2, w2, h, hH, A2, rd⟩ := frz_ok S A r h
  try dsimp only at h
  split at h
  · rename_i zs
    split at h
    · rename_i ds e2
      obtain ⟨hz, h⟩ := Res.sat_ite _ _ h
      obtain ⟨a', vs, ha', ht', hH2, hr⟩ := A2.sim.ownL hi e2
      rw [ha] at ha'
      cases ha'
      unfold Rep at rd
      obtain ⟨b, us, rfl, nb, rb⟩ := rd
      obtain ⟨S3, l3, _⟩ := A2.sim.mutO e2 ht (hr.append rb)
      refine ⟨a, b, vs, us, rfl, rfl, by rw [← hH]; exact hH2, by rw [← hH]; exact nb.2, by rw [← hr.length, ← rb.length]; exact hz, ?_⟩
      have := h σ fv _ (A2.stp.le.trans l3) S3
      rw [hH] at this
      exact this
    · exact h.elim
  · exact h.elim
theorem op_isB (neg k : Bool) : OpR X (compareOp (if neg then .IsNot else .Is)) (fun x y H Q => ∃ b, x = .bl b ∧ y = .bl k ∧ Q (.bl (if neg then !(b == k) else b == k)) H) := by
  intro pins s σ H x y v u Q I rx ry h
  obtain ⟨b, rfl, rfl, q⟩ := h
  cases rx
  cases ry
  cases neg
  · show wpAny _ _ ((isSame (.bool b) (.bool k)) >>= fun z => pure (Value.bool z)) _ _ s
    refine wpAny_bind (wpAny_of_eq (show isSame (.bool b) (.bool k) = pure (b == k) by cases b <;> cases k <;> rfl) (wpAny_pure (fin_bl I q rfl)))
  · show wpAny _ _ ((isSame (.bool b) (.bool k)) >>= fun z => pure (Value.bool (!z))) _ _ s
    refine wpAny_bind (wpAny_of_eq (show isSame (.bool b) (.bool k) = pure (b == k) by cases b <;> cases k <;> rfl) (wpAny_pure (fin_bl I q rfl)))
theorem vn_isB (neg k : Bool) : VN g (gIsB neg k) (fun xs H Q => ∃ b, xs = [.bl b] ∧ Q (.bl (if neg then !(b == k) else b == k)) H) := by
  intro w st ds xs Q F rp h
  unfold gIsB at h
  split at h
  · obtain ⟨x, rfl, rx⟩ := pps1 rp
    exact ⟨_, by rw [rx.bl], Kn.val (g := g) (d := .bl _) h rfl⟩
  · exact h.elim
theorem tIsB_le {neg k : Bool} {f : SE} {H : Hp} {Q : VK} (h : tE g C (opE (gIsB neg k) [f]) σ H Q) : tOp (fun x y H Q => ∃ b, x = .bl b ∧ y = .bl k ∧ Q (.bl (if neg then !(b == k) else b == k)) H) (tE g C f) (tC (.bl k)) σ H Q := by
  obtain ⟨c, w, fv, s, e, S, h1⟩ := tOps_cons (tOpE_le (vn_isB neg k) h)
  refine ⟨c, w, fv, s, e, S, h1.mono fun p h1 v w1 A r => ?_⟩
  obtain ⟨b, eb, q⟩ := tOps_nil (h1 v w1 A r)
  cases eb
  exact ⟨b, rfl, rfl, q⟩
end
end Ev
set_option Elab.async false
set_option maxRecDepth 100000
set_option maxHeartbeats 1000000
namespace Ev
open PySem PySem.Spec PyProof.Rows L2
set_option autoImplicit false
/-- a def called by these keywords alone: what they are, in the parameters' order, keeps the promise -/
def FnKR (P : Program) (w : World) (K : PySem.W.Frag) (mg : Str → Option Value) (base : Heap) (CX : CXT) (k : Nat) (f : Addr) (ks : List Str) (pm : List Nat) (sp : Sp) : Prop :=
  ∀ (A : Around) (outer : List Env) (s : Shared) (H : Hp) (ws : List Value) (zs : List V) (Q : VK) (E : XK), Room k A → Env0 P w K mg base A outer s H → Vals zs ws → zs.length = ks.length → sp (pm.filterMap (zs[·]?)) H Q E →
    codeAny (model P w) A (.call (.ref f) ⟨[], ks.zip ws⟩) (CR CX outer P w H s Q E) s
theorem perm_vals {zs : List V} {ws : List Value} (r : Vals zs ws) : ∀ pm : List Nat, Vals (pm.filterMap (zs[·]?)) (pm.filterMap (ws[·]?))
  | [] => .nil
  | j :: pm => by
    have ih := perm_vals r pm
    rw [List.filterMap_cons, List.filterMap_cons]
    cases h : zs[j]? with
    | some x =>
      obtain ⟨u, hu, ru⟩ := r.get h
      rw [hu]
      exact .cons ru ih
    | none =>
      have : ws[j]? = none := by
        rw [List.getElem?_eq_none_iff] at h ⊢
        rw [← r.length]
        exact h
      rw [this]
      exact ih
section
variable {X : Cx} {g : Cg} {C : Cl} {CX : CXT} {w : W}
theorem RepL.at {ds : List D} : ∀ {vs : List V} {j : Nat} {v : V}, RepL g w ds vs → vs[j]? = some v → ∃ d, ds[j]? = some d ∧ Rep g w d v := by
  induction ds with
  | nil =>
    intro vs j v r h
    unfold RepL at r
    subst r
    simp at h
  | cons d ds ih =>
    intro vs j v r h
    unfold RepL at r
    obtain ⟨x, xs, rfl, r1, r2⟩ := r
    cases j with
    | zero =>
      have : x = v := by simpa using h
      subst this
      exact ⟨d, rfl, r1⟩
    | succ j => exact ih r2 (by simpa using h)
theorem perm_rep {ds : List D} {vs : List V} (r : RepL g w ds vs) : ∀ pm : List Nat, RepL g w (pm.filterMap (ds[·]?)) (pm.filterMap (vs[·]?))
  | [] => by
    show RepL g w [] []
    unfold RepL
    rfl
  | j :: pm => by
    have ih := perm_rep r pm
    rw [List.filterMap_cons, List.filterMap_cons]
    cases h : vs[j]? with
    | some v =>
      obtain ⟨d, hd, rd⟩ := RepL.at r h
      rw [hd]
      exact ⟨v, _, rfl, rd, ih⟩
    | none =>
      have : ds[j]? = none := by
        rw [List.getElem?_eq_none_iff] at h ⊢
        rw [r.length]
        exact h
      rw [this]
      exact ih
/-- f(k = v, ..), all parameters given so -/
def tCallKw (sp : Sp) (pm : List Nat) (n : Nat) (E : XK) (t : TA) : TE := fun σ H Q => t σ H fun vs H1 => vs.length = n ∧ sp (pm.filterMap (vs[·]?)) H1 Q E
theorem pe_callKR {n : Nat} {f : Addr} {sp : Sp} {E : XK} {x : Str} {p pos : Pos} {kws : List Keyword} {t : TA} {ks : List Str} {pm : List Nat} (F : FnKR X.prog X.w X.K X.mg X.base CX n f ks pm sp) (hr : Room n X.A) (hg : Gl X x) (hm : X.mg x = some (.ref f)) (hk : PySem.W.keepIn X.K (.ref f) = true) (hx : Passes CX X E)
    (hkw : PK X kws t) (hdb : (x == ("__debug__" : Str)) = false) (hall : (backToKw pos (keywordEach kws X.env)).all (·.1.isSome) = true) (hks : (backToKw pos (keywordEach kws X.env)).filterMap (·.1) = ks)
    (hpl : (backToKw pos (keywordEach kws X.env)).any (·.1.isNone) = false) : PE X (.Call (.Name x p) [] kws pos) (tCallKw sp pm ks.length E t) := by
  refine ⟨fun pins s σ H Q I h => ?_⟩
  refine wpAny_Call_Name_kw (ld_glob I hg hm ?_ hdb)
  refine PySem.W.callWith_KW0 (h₀ := X.base) I.ok.mod.kin hk hall ?_ (by rw [hpl]; rfl)
  refine thn (hkw.run pos pins s σ H _ I h) fun ws s2 ⟨zs, H2, I2, rz, hl, q2⟩ => ⟨I2.kIn, ?_⟩
  rw [hks]
  refine wpAny_call (codeAny_mono (F X.A X.stack s2 H2 ws zs Q E hr I2.env0 rz hl q2) fun r s' hq => ?_)
  cases r with
  | error e => exact hx pins σ H2 s2 e s' I2 hq
  | ok fl =>
    cases fl with
    | ret u => exact I2.after hq
    | next => exact False.elim hq
    | brk => exact False.elim hq
    | cont => exact False.elim hq
theorem tCallKw_le {σ : Tv} {k n : Nat} {f : Fnl} {pm : List Nat} {fs : List SE} (hf : ∀ ds st, C k ds st = f ds st) (hp : ∀ ds : List D, ds.length = fs.length → (pm.filterMap (ds[·]?)).length = n) {E : XK} {H : Hp} {Q : VK} (h : tE g C (callK k pm fs) σ H Q) : tCallKw (spF g n f) pm fs.length E (tFzs g C fs) σ H Q := by
  obtain ⟨c, w, fv, s, rfl, S, h⟩ := h
  unfold callK at h
  rw [Res.sat_bind] at h
  refine ⟨c, w, fv, s, rfl, S, ?_⟩
  obtain ⟨⟨ds, s1⟩, e, h⟩ := Res.sat_iff.mp h
  rw [e]
  show ∀ vs w', _
  intro vs w1 A r
  rw [Res.sat_bind, hf] at h
  refine ⟨by rw [← r.length]; exact frzs_len e, w1, s1.st, _, rfl, A.sim.wf, perm_rep r pm, hp ds (frzs_len e), h.mono fun p h v w2 k2 F rt => ?_⟩
  rw [Res.sat_bind] at h
  obtain ⟨r', h, rr⟩ := rOf_ok S A rt h (ρ' := s1.ρ)
  exact h v w2 (A.trans (A.sim.callA k2 F)) rr
end
end Ev
set_option Elab.async false
set_option maxRecDepth 100000
set_option maxHeartbeats 1000000
namespace Ev
open PySem PySem.Spec PyProof.Rows L2
set_option autoImplicit false
def lixF (f k : SE) : SE := fun C s => (f C s).bind fun (r, s1) => (frz r s1).bind fun (d, s2) => match d with
  | .lst xs => (k C s2).bind fun (q, s3) => match q with
    | .val (.str z) => (optR (xs.mapM Ev.s1)).bind fun zs => (optR (zs.findIdx? (· == z))).bind fun j => .ok (.val (.int (j : Nat)), s3)
    | _ => .stuck
  | _ => .stuck
section
variable {g : Cg} {C : Cl} {σ : Tv}
theorem tLix_le {f k : SE} {H : Hp} {Q : VK} (h : tE g C (lixF f k) σ H Q) : tBM g.K "list" (rIndex g.K) (tE g C f) (tCons (tE g C k) tNil) σ H Q := by
  obtain ⟨c, w, fv, s, rfl, S, h⟩ := h
  unfold lixF at h
  rw [Res.sat_bind] at h
  refine ⟨c, w, fv, s, rfl, S, h.mono fun p h v w1 A r => ?_⟩
  obtain ⟨r0, s1⟩ := p
  rw [Res.sat_bind] at h
  obtain ⟨d, s2, w2, h, hH, A2, rd⟩ := frz_ok S A r h
  try dsimp only at h
  split at h
  · rename_i xs
    have rd0 := rd
    unfold Rep at rd0
    obtain ⟨a, vs, rfl, nb, rl⟩ := rd0
    rw [Res.sat_bind] at h
    rw [← hH]
    refine ⟨.inl ⟨rfl, vs, nb.sq⟩, c, w2, fv, s2, rfl, A2.sim, h.mono fun p h y w3 A3 r3 => ?_⟩
    obtain ⟨r1, s3⟩ := p
    dsimp only at h
    split at h
    · rename_i z
      have ez : y = .str z ∧ PyData.strOk z = true := by
        have r3 : Rep g w3 (.str z) y := r3
        unfold Rep at r3
        exact r3
      rw [Res.sat_bind] at h
      obtain ⟨zs, hzs, h⟩ := optR_ok h
      rw [Res.sat_bind] at h
      obtain ⟨j, hj, h⟩ := optR_ok h
      have r4 := Rep.le A3.stp.le rd
      unfold Rep at r4
      obtain ⟨a', vs', ea, n', rl'⟩ := r4
      cases ea
      obtain ⟨evs, _⟩ := s1_rep hzs rl'
      obtain ⟨hlt, hz, hno⟩ := List.findIdx?_eq_some_iff_getElem.mp hj
      have hz := eq_of_beq hz
      refine ⟨a, zs.map V.str, y, j, .str z, rfl, rfl, by rw [← evs]; exact n'.sq, by rw [ez.1]; rfl, by rw [List.all_map]; exact List.all_eq_true.mpr fun _ _ => rfl, ?_, by rw [ez.1]; exact beq_self_eq_true z, fun m z' hm e => ?_, h _ w3 (A2.trans A3) rfl⟩
      · rw [List.getElem?_map, List.getElem?_eq_getElem hlt, hz]
        rfl
      · rw [List.getElem?_map] at e
        obtain ⟨hl, _⟩ := List.getElem?_eq_some_iff.mp (show (zs[m]?) = some (zs[m]'(by omega)) from List.getElem?_eq_getElem (by omega))
        rw [List.getElem?_eq_getElem hl] at e
        have e : V.str zs[m] = z' := Option.some.inj e
        rw [← e, ez.1]
        have := hno m hm
        show (zs[m] == z) = false
        exact Bool.eq_false_iff.mpr this
    · exact h.elim
  · exact h.elim
end
end Ev
set_option Elab.async false
set_option maxRecDepth 100000
set_option maxHeartbeats 2000000
namespace Ev
open PySem PySem.Spec PyProof.Rows L2
open PySem.Sem (wp)
set_option autoImplicit false
/-- the enumerate object whose last pair somebody else holds -/
abbrev IsEnumHd (h : Heap) (e it : Addr) (i : Int) (item : Value) (a : Addr) (b : Bool) : Prop :=
  h.get? e = some { cls := .type "enumerate", dict := none, data := .fields #[rawInt a, .bool b, .ref it, rawInt i, .none, item], slots := #[] }
section
variable {prog : Program} {w : World} {A : Around} {E : Value → Shared → Prop} {s : Shared}
theorem wpAny_alive {a : Addr} {o : Obj} {Q : Option Obj → Shared → Prop} (ho : s.heap.get? a = some o) (h : Q (some o) s) : wpAny (model prog w) A (loadIfAlive a) Q E s := fun Γ p _ => by
  unfold loadIfAlive
  rw [Sem.wp_loadIfAlive, ho]
  exact h
theorem held_busy {e it a : Addr} {c : Int} {old : Value} {b : Bool} {o : Obj} {Q : Bool → Shared → Prop} (he : IsEnumHd s.heap e it c old a b) (ha : s.heap.get? a = some o)
    (hQ : ∀ h', IsEnumHd h' e it c old a true → Heap.SameBut e s.heap h' → Q false { s with heap := h' }) : wpAny (model prog w) A (Builtin.SmallTypes.ownedTupleIsFree (.ref e)) Q E s := by
  unfold Builtin.SmallTypes.ownedTupleIsFree
  refine wpAny_bind (wpAny_field he rfl (x := rawInt a) rfl ?_)
  show wpAny _ _ (loadIfAlive ((a : Int)).toNat >>= _) _ _ _
  rw [Int.toNat_natCast]
  refine wpAny_bind (wpAny_alive ha ?_)
  simp only [Option.isNone_some, Bool.false_eq_true, if_false]
  refine wpAny_bind (wpAny_field he rfl (x := .bool b) rfl ?_)
  cases b with
  | true =>
    show wpAny _ _ (if (Value.bool true != Value.bool true) = true then _ else _) _ _ _
    rw [if_neg (by decide)]
    exact wpAny_pure (hQ _ he (⟨rfl, fun _ _ => rfl⟩))
  | false =>
    show wpAny _ _ (if (Value.bool false != Value.bool true) = true then _ else _) _ _ _
    rw [if_pos (by decide)]
    refine wpAny_bind (wpAny_setField_rec he (by simp) fun h' he' sb => ?_)
    exact wpAny_pure (hQ h' he' sb)
theorem enum_next_held {e it a : Addr} {fp : List Addr} {n i : Nat} {c : Int} {b : Bool} {P : Nat → Value → Prop} {St : Nat → Heap → Prop} {old : Value} {Q : Value → Shared → Prop}
    (D : Draws prog w A it fp n P St) (he : IsEnumHd s.heap e it c old a b) (hal : ∃ o, s.heap.get? a = some o) (hae : a ≠ e) (hai : a ≠ it) (hst : St i s.heap) (hlt : i < n) (hne : e ≠ it) (hef : e ∉ fp)
    (hQ : ∀ x h' tk, P i x → IsEnumHd h' e it (c + 1) old a true → St (i + 1) h' →
      h'.get? s.heap.objs.size = some { cls := .type "tuple", data := .seq #[.int c tk, x] } → h'.objs.size = s.heap.objs.size + 1 →
      (∀ b o, b ≠ e → b ≠ it → s.heap.get? b = some o → h'.get? b = some o) → Q (.ref s.heap.objs.size) { s with heap := h', toks := tk + 1 }) :
    wpAny (model prog w) A (Builtin.«enumerate.__next__» ⟨[.ref e], []⟩) (fun fin s' => ∃ v, fin = .done (.ret v) ∧ Q v s') E s := by
  obtain ⟨hp, g, d, tk₀, os⟩ := s
  obtain ⟨oa, hoa⟩ := hal
  show wpAny _ _ (field (.ref e) 2 >>= _) _ _ _
  refine wpAny_bind (wpAny_field he rfl (x := .ref it) rfl ?_)
  refine wpAny_bind (D.item i _ _ _ hlt hst fun x h₁ tk hPx hit₁ hs₁ => ?_)
  replace hs₁ : Heap.SameBut it hp h₁ := hs₁
  have he₁ : IsEnumHd h₁ e it c old a b := (hs₁.2 e hne).trans he
  show wpAny _ _ (field (.ref e) 3 >>= _) _ _ ⟨h₁, g, d, tk, os⟩
  refine wpAny_bind (wpAny_field he₁ rfl (x := rawInt c) rfl ?_)
  show wpAny _ _ (field (.ref e) 4 >>= _) _ _ ⟨h₁, g, d, tk, os⟩
  refine wpAny_bind (wpAny_field he₁ rfl (x := .none) rfl ?_)
  show wpAny _ _ (mkInt c >>= _) _ _ ⟨h₁, g, d, tk, os⟩
  refine wpAny_bind (wpAny_mkInt ?_)
  show wpAny _ _ (setField (.ref e) 3 (rawInt (c + 1)) >>= _) _ _ ⟨h₁, g, d, tk + 1, os⟩
  refine wpAny_bind (wpAny_setField_rec he₁ (by simp) fun h₂ he₂ hs₂ => ?_)
  replace hs₂ : Heap.SameBut e h₁ h₂ := hs₂
  replace he₂ : IsEnumHd h₂ e it (c + 1) old a b := he₂
  show wpAny _ _ (setField (.ref e) 4 .none >>= _) _ _ ⟨h₂, g, d, tk + 1, os⟩
  refine wpAny_bind (wpAny_setField_rec he₂ (by simp) fun h₃ he₃ hs₃ => ?_)
  replace hs₃ : Heap.SameBut e h₂ h₃ := hs₃
  replace he₃ : IsEnumHd h₃ e it (c + 1) old a b := he₃
  show wpAny _ _ (newTuple [.int c tk, x] >>= _) _ _ ⟨h₃, g, d, tk + 1, os⟩
  refine wpAny_bind (wpAny_newTuple ?_)
  have he₄ : IsEnumHd (h₃.push { cls := .type "tuple", data := .seq #[.int c tk, x] }) e it (c + 1) old a b := Heap.get?_push_of_some _ he₃
  generalize hh₄ : h₃.push { cls := .type "tuple", data := .seq #[.int c tk, x] } = h₄ at he₄
  have hsz : h₃.objs.size = hp.objs.size := by rw [hs₃.1, hs₂.1, hs₁.1]
  have hel : e < hp.objs.size := Heap.lt_size he
  have ht₄ : h₄.get? hp.objs.size = some { cls := .type "tuple", data := .seq #[.int c tk, x] } := by rw [← hh₄, ← hsz]; exact Heap.get?_push_size _ rfl
  have hz₄ : h₄.objs.size = hp.objs.size + 1 := by rw [← hh₄, Heap.size_push, hsz]
  have hk₄ : ∀ b o, b ≠ e → b ≠ it → hp.get? b = some o → h₄.get? b = some o := fun b o hbe hbi hb => by
    rw [← hh₄]; exact Heap.get?_push_of_some _ (hs₃.extBut b o hbe (hs₂.extBut b o hbe (hs₁.extBut b o hbi hb)))
  have hit₄ : St (i + 1) h₄ := D.frame _ _ _ hit₁ fun b hb o y => by
    have hbe : b ≠ e := fun q => hef (q ▸ hb)
    rw [← hh₄]; exact Heap.get?_push_of_some _ (hs₃.extBut b o hbe (hs₂.extBut b o hbe y))
  show wpAny _ _ (Builtin.SmallTypes.ownedTupleIsFree (.ref e) >>= _) _ _ ⟨h₄, g, d, tk + 1, os⟩
  rw [hsz]
  clear hh₄ he₃ hs₃ he₂ hs₂ he₁ hs₁ hit₁ hsz h₃ h₂ h₁
  refine wpAny_bind (held_busy he₄ (hk₄ a _ hae hai hoa) fun h₅ he₅ hs₅ => ?_)
  replace hs₅ : Heap.SameBut e h₄ h₅ := hs₅
  simp only [Bool.false_eq_true, if_false]
  refine wpAny_pure ⟨_, rfl, hQ x h₅ tk hPx he₅ ?_ ?_ ?_ ?_⟩
  · exact D.frame _ _ _ hit₄ fun b hb o y => by
      have hbe : b ≠ e := fun q => hef (q ▸ hb)
      exact hs₅.extBut b o hbe y
  · exact hs₅.extBut _ _ (Nat.ne_of_gt hel) ht₄
  · rw [hs₅.1, hz₄]
  · exact fun b o hbe hbi hb => hs₅.extBut b o hbe (hk₄ b o hbe hbi hb)
theorem pyNext_held {e it a : Addr} {fp : List Addr} {n i : Nat} {c : Int} {b : Bool} {P : Nat → Value → Prop} {St : Nat → Heap → Prop} {old : Value} {Q : Option Value → Shared → Prop}
    (D : Draws prog w A.in1 it fp n P St) (he : IsEnumHd s.heap e it c old a b) (hal : ∃ o, s.heap.get? a = some o) (hae : a ≠ e) (hai : a ≠ it) (hst : St i s.heap) (hlt : i < n) (hne : e ≠ it) (hef : e ∉ fp)
    (hQ : ∀ x h' tk, P i x → IsEnumHd h' e it (c + 1) old a true → St (i + 1) h' →
      h'.get? s.heap.objs.size = some { cls := .type "tuple", data := .seq #[.int c tk, x] } → h'.objs.size = s.heap.objs.size + 1 →
      (∀ b o, b ≠ e → b ≠ it → s.heap.get? b = some o → h'.get? b = some o) → Q (some (.ref s.heap.objs.size)) { s with heap := h', toks := tk + 1 }) :
    wpAny (model prog w) A (pyNext (.ref e)) Q E s := by
  have hT : s.TypeIs (.ref e) "enumerate" := ⟨_, he, rfl⟩
  unfold pyNext
  exact wpAny_bind (wpAny_attempt (wpAny_callSpecial?_slot (name := Str.ofString "__next__") hT PySem.F.slot_enumerate_next
    (wpAny_call_entry PySem.F.slot_enumerate_next hT PySem.F.entry_enumerate_next
      (enum_next_held D he hal hae hai hst hlt hne hef fun x h' tk a b c d k q => wpAny_pure (hQ x h' tk a b c d k q)) (PySem.F.args_enumerate_next_1 _))))
theorem pyNext_held_end {e it a : Addr} {fp : List Addr} {n : Nat} {c : Int} {b : Bool} {P : Nat → Value → Prop} {St : Nat → Heap → Prop} {old : Value} {Q : Option Value → Shared → Prop}
    (D : Draws prog w A.in1 it fp n P St) (he : IsEnumHd s.heap e it c old a b) (hst : St n s.heap)
    (hQ : ∀ h', Heap.ExtBut it s.heap h' → Q none { s with heap := h' }) : wpAny (model prog w) A (pyNext (.ref e)) Q E s := by
  have hT : s.TypeIs (.ref e) "enumerate" := ⟨_, he, rfl⟩
  unfold pyNext
  refine wpAny_bind (wpAny_attempt (wpAny_callSpecial?_slot (name := Str.ofString "__next__") hT PySem.F.slot_enumerate_next
    (wpAny_call_entry PySem.F.slot_enumerate_next hT PySem.F.entry_enumerate_next ?_ (PySem.F.args_enumerate_next_1 _))))
  show wpAny _ _ (field (.ref e) 2 >>= _) _ _ _
  refine wpAny_bind (wpAny_field he rfl (x := .ref it) rfl ?_)
  refine wpAny_bind (D.done _ _ _ hst fun h' x he' hx' => ?_)
  obtain ⟨o, ho, hc⟩ := hx'
  refine wpAny_bind (wpAny_isInstance (T := "StopIteration") (b := true) ⟨o, ho, hc⟩ isSubtype_stop ?_)
  exact wpAny_pure (hQ _ he')
end
/-- the enumerate object at its c-th turn: no pair given yet, or the last one is in the list -/
def EnSt (h : Heap) (e it : Addr) (c : Int) : Prop := (∃ old, IsEnum h e it c old) ∨ ∃ old a b o, IsEnumHd h e it c old a b ∧ h.get? a = some o ∧ a ≠ e ∧ a ≠ it
theorem EnSt.there {h : Heap} {e it : Addr} {c : Int} (x : EnSt h e it c) : ∃ vs, h.get? e = some { cls := .type "enumerate", dict := none, data := .fields vs, slots := #[] } := by
  rcases x with ⟨_, h⟩ | ⟨_, _, _, _, h, _⟩ <;> exact ⟨_, h⟩
theorem EnSt.at {h h' : Heap} {e it S : Addr} {c : Int} (x : EnSt h e it c) (hS : S ≠ e) (he : ∃ o, h'.get? S = some o) (k : ∀ b o, b ≠ S → h.get? b = some o → h'.get? b = some o) : EnSt h' e it c := by
  rcases x with ⟨old, h1⟩ | ⟨old, a, b, o, h1, h2, h3, h4⟩
  · exact .inl ⟨old, k _ _ (Ne.symm hS) h1⟩
  · by_cases q : a = S
    · obtain ⟨u, hu⟩ := he
      exact .inr ⟨old, a, b, u, k _ _ (Ne.symm hS) h1, by rw [q]; exact hu, h3, h4⟩
    · exact .inr ⟨old, a, b, o, k _ _ (Ne.symm hS) h1, k _ _ q h2, h3, h4⟩
/-- the pairs, new objects each -/
structure EnR (xs : List V) (S : Addr) (H0 : Hp) (vs : List V) (H : Hp) : Prop where
  at_ : ∀ (j : Nat) (v : V), vs[j]? = some v → ∃ T x, v = .ref T ∧ H T = some (.tup [.int (j : Nat), x]) ∧ xs[j]? = some x ∧ H0 T = none ∧ T ≠ S
  keep : ∀ b o, b ≠ S → H0 b = some o → H b = some o
theorem sqX_mono {K : PySem.W.Frag} {t : Bool} {H H' : Hp} {a : Addr} {xs : List V} (h : SqX K t H a xs) (k : ∀ u, H a = some u → H' a = some u) : SqX K t H' a xs := by
  cases t with
  | true =>
    rcases (show SqT K H a xs from h) with (h | ⟨o, h⟩) | h
    · exact .inl (.inl (k _ h))
    · exact .inl (.inr ⟨o, k _ h⟩)
    · exact .inr h
  | false =>
    rcases (show SqL K H a xs from h) with (h | ⟨o, h⟩) | h
    · exact .inl (.inl (k _ h))
    · exact .inl (.inr ⟨o, k _ h⟩)
    · exact .inr h
theorem loop_enum {X : Cx} {pins : List (Addr × Obj)} {σ : L2.St} {t : Bool} {a e it S : Addr} {xs : List V} {A : Around} {res : Value} {R : Result → Shared → Prop} {H0 : Hp} (hh : A.handled = none) (hz : xs.length ≤ sizeLine) (hne : e ≠ it) (hea : e ≠ a) (hSe : S ≠ e) (hSi : S ≠ it) (hSa : S ≠ a) (hS0 : H0 S = none) :
    ∀ (k : Nat) (s : Shared) (H : Hp) (vs : List V), xs.length - vs.length = k → vs.length ≤ xs.length → Inv X pins σ H s → FpOk X pins H e → FpOk X pins H it → SqX X.K t H a xs → H S = some (.lst vs) → EnSt s.heap e it (vs.length : Nat) → SrcIt t s.heap it a vs.length → EnR xs S H0 vs H →
      (∀ s' H' vs', Inv X pins σ H' s' → vs'.length = xs.length → H' S = some (.lst vs') → EnR xs S H0 vs' H' → R (.ok (.ret res)) s') →
      codeAny (model X.prog X.w) A (.builtin "list.extend.loop" ⟨[.ref S, .ref e, res], []⟩) R s := by
  intro k
  induction k with
  | zero =>
    intro s H vs hk hl I fe fi hq hS st hit er hR
    have hl' : vs.length = xs.length := by omega
    refine codeAny_builtin PySem.F.entry_extend_loop ?_
    rw [Around.under_plainId PySem.F.plain_extend_loop _]
    show wpAny _ A.in1 (pyNext (.ref e) >>= _) _ _ s
    obtain ⟨St, D, h0⟩ := src_end (prog := X.prog) (w := X.w) (A := A.in1.in1) I (by simp [hh]) hq hit (by omega)
    obtain ⟨f0, f1, f2, f3, f4, f5⟩ := fi
    rcases st with ⟨old, he⟩ | ⟨old, b, c, o, he, _⟩
    · exact wpAny_bind (wpAny_pyNext_enum_endD D he h0 fun h' eb => wpAny_pure (hR _ H vs (I.turned (t' := s.toks) (fun b o hb q => eb b o hb q) f0 f1 f3 f4 f5) hl' hS er))
    · exact wpAny_bind (pyNext_held_end D he h0 fun h' eb => wpAny_pure (hR _ H vs (I.turned (t' := s.toks) (fun b o hb q => eb b o hb q) f0 f1 f3 f4 f5) hl' hS er))
  | succ k ih =>
    intro s H vs hk hl I fe fi hq hS st hit er hR
    have hlt : vs.length < xs.length := by omega
    have hai : a ≠ it := src_ne I hq hit
    obtain ⟨its, rv, St, D, h1, h2⟩ := src_draws (prog := X.prog) (w := X.w) (A := A.in1.in1) I (by simp [hh]) hq hai
    obtain ⟨u, hu, ru⟩ := rv.get (List.getElem?_eq_getElem hlt)
    have hul : vs.length < its.length := (List.getElem?_eq_some_iff.mp hu).1
    obtain ⟨ev, hev⟩ := st.there
    have hel : e < s.heap.objs.size := Heap.lt_size hev
    have hil : it < s.heap.objs.size := by obtain ⟨_, q, _⟩ := hit.there; exact Heap.lt_size q
    refine codeAny_builtin PySem.F.entry_extend_loop ?_
    rw [Around.under_plainId PySem.F.plain_extend_loop _]
    show wpAny _ A.in1 (pyNext (.ref e) >>= _) _ _ s
    have go : ∀ x h' tk, its[vs.length]? = some x → EnSt h' e it ((vs.length : Nat) + 1 : Int) → St (vs.length + 1) h' →
        h'.get? s.heap.objs.size = some { cls := .type "tuple", data := .seq #[.int (vs.length : Nat) tk, x] } → h'.objs.size = s.heap.objs.size + 1 →
        (∀ b o, b ≠ e → b ≠ it → s.heap.get? b = some o → h'.get? b = some o) →
        wpAny (model X.prog X.w) A.in1 (updateSeq S (·.push (.ref s.heap.objs.size)) >>= fun _ => again (.builtin "list.extend.loop" ⟨[.ref S, .ref e, res], []⟩))
          (fun fin s' => match fin with | .done f => R (.ok f) s' | .again c' => c'.quiet = true ∧ codeAny (model X.prog X.w) A c' R s') (fun e s' => R (.error e) s') { s with heap := h', toks := tk + 1 } := by
      intro x h' tk hx st' hst' hT hsz hk'
      have ex : x = u := by rw [hu] at hx; exact (Option.some.inj hx).symm
      subst ex
      have new : ObjOk X.prog X.w (upd H s.heap.objs.size (.tup [.int (vs.length : Nat), xs[vs.length]])) h' s.heap.objs.size (.tup [.int (vs.length : Nat), xs[vs.length]]) :=
        ⟨by show 2 ≤ sizeLine; decide, [.int (vs.length : Nat) tk, x], .cons ⟨_, rfl⟩ (.cons ru .nil), ⟨_, hT, rfl, _, rfl⟩⟩
      have hf : ∀ b ∈ [e, it], FpOk X pins H b := fun b hb => by
        rcases List.mem_cons.mp hb with q | q
        · rw [q]; exact fe
        · rw [List.mem_singleton.mp q]; exact fi
      have I1 : Inv X pins σ (upd H s.heap.objs.size (.tup [.int (vs.length : Nat), xs[vs.length]])) { s with heap := h', toks := tk + 1 } :=
        I.turnedNew (ch := [e, it]) (fun b ob hb q => hk' b ob (fun z => hb (by simp [z])) (fun z => hb (by simp [z])) q) hf (Nat.le_refl _) new
      have hfr : H s.heap.objs.size = none := I.hok.fresh (Nat.le_refl _)
      have hST : s.heap.objs.size ≠ S := fun z => by rw [z, hS] at hfr; cases hfr
      have hS1 : (upd H s.heap.objs.size (.tup [.int (vs.length : Nat), xs[vs.length]])) S = some (.lst vs) := by rw [upd_ne (Ne.symm hST)]; exact hS
      obtain ⟨hlz, its', nS, rl, hoS⟩ := (show vs.length ≤ sizeLine ∧ ∃ (its : List Value) (n : Nat), Vals vs its ∧ h'.get? S = some { cls := .type "list", data := .seq its.toArray n } from I1.hok S _ hS1)
      have hln : its'.length = vs.length := rl.length.symm
      have hu2 := Heap.get?_update_self (Obj.mapSeq (·.push (Value.ref s.heap.objs.size))) hoS rfl
      have oth : ∀ b o, b ≠ S → h'.get? b = some o → (h'.update S (Obj.mapSeq (·.push (Value.ref s.heap.objs.size)))).get? b = some o := fun b o hb q => (Heap.get?_update_other _ _ (Ne.symm hb)).trans q
      refine wpAny_bind (wpAny_updateSeq hoS rfl (wpAny_pure ⟨plainId_quiet PySem.F.plain_extend_loop _, ?_⟩) (by rw [List.size_toArray, hln]; omega) (by rw [Array.size_push, List.size_toArray, hln]; omega))
      have I2 : Inv X pins σ (upd (upd H s.heap.objs.size (.tup [.int (vs.length : Nat), xs[vs.length]])) S (.lst (vs ++ [.ref s.heap.objs.size]))) { s with heap := h'.update S (Obj.mapSeq (·.push (Value.ref s.heap.objs.size))), toks := tk + 1 } := by
        refine I1.write (e := S) (t' := tk + 1) (by rw [hS1]; trivial) (.inl rfl) (fun b u hb q => oth b u hb q) ⟨_, hu2⟩ ⟨by rw [List.length_append]; show vs.length + 1 ≤ _; omega, its' ++ [.ref s.heap.objs.size], nS + 1, rl.append (.cons (show RelV (V.ref s.heap.objs.size) (Value.ref s.heap.objs.size) from rfl) .nil), ?_⟩
        rw [hu2]
        simp [Obj.mapSeq]
      have hH : ∀ b u, b ≠ S → H b = some u → (upd (upd H s.heap.objs.size (.tup [.int (vs.length : Nat), xs[vs.length]])) S (.lst (vs ++ [.ref s.heap.objs.size]))) b = some u := fun b u hb q => by
        rw [upd_ne hb, upd_ne (fun z => by rw [z, hfr] at q; cases q)]
        exact q
      have fpk : ∀ b, b < s.heap.objs.size → b ≠ S → FpOk X pins H b → FpOk X pins (upd (upd H s.heap.objs.size (.tup [.int (vs.length : Nat), xs[vs.length]])) S (.lst (vs ++ [.ref s.heap.objs.size]))) b := fun b hb hS f =>
        ⟨by rw [upd_ne hS, upd_ne (Nat.ne_of_lt hb)]; exact f.1, f.2⟩
      refine ih _ _ (vs ++ [.ref s.heap.objs.size]) (by simp; omega) (by simp; omega) I2 (fpk e hel (Ne.symm hSe) fe) (fpk it hil (Ne.symm hSi) fi) (sqX_mono hq fun u q => hH a u (Ne.symm hSa) q) (by rw [upd_same]) ?_ ?_ ⟨fun j v hj => ?_, fun b o hb q => hH b o hb (er.keep b o hb q)⟩ hR
      · rw [List.length_append]
        exact st'.at hSe ⟨_, hu2⟩ oth
      · rw [List.length_append]
        exact (h2 _ _ hst').at fun o q => oth it o (Ne.symm hSi) q
      · by_cases hjl : j < vs.length
        · rw [List.getElem?_append_left hjl] at hj
          obtain ⟨T, y, rfl, hT', hy, h0, hTS⟩ := er.at_ j v hj
          exact ⟨T, y, rfl, hH T _ hTS hT', hy, h0, hTS⟩
        · have ej : j = vs.length := by
            have := (List.getElem?_eq_some_iff.mp hj).1
            simp at this
            omega
          subst ej
          rw [List.getElem?_append_right (Nat.le_refl _)] at hj
          simp at hj
          refine ⟨s.heap.objs.size, xs[vs.length], hj.symm, by rw [upd_ne hST, upd_same], List.getElem?_eq_getElem hlt, ?_, hST⟩
          cases q : H0 s.heap.objs.size with
          | none => rfl
          | some o =>
            have := er.keep _ o hST q
            rw [hfr] at this
            cases this
    rcases st with ⟨old, he⟩ | ⟨old, b, c, o, he, hb, hbe, hbi⟩
    · refine wpAny_bind (wpAny_pyNext_enum_itemC D he (h1 _ hit) hul hne (by simp [hne, hea]) fun x h' tk hP ho hst' hT hsz hk' => ?_)
      refine go x h' tk hP (.inr ⟨_, _, _, _, ho, hT, Nat.ne_of_gt hel, Nat.ne_of_gt hil⟩) hst' hT hsz hk'
    · refine wpAny_bind (pyNext_held D he ⟨o, hb⟩ hbe hbi (h1 _ hit) hul hne (by simp [hne, hea]) fun x h' tk hP ho hst' hT hsz hk' => ?_)
      exact go x h' tk hP (.inr ⟨_, _, _, _, ho, hk' b o hbe hbi hb, hbe, hbi⟩) hst' hT hsz hk'
theorem enum_no_len : typeLookup (.type "enumerate") "__len__" = pure none := by rw [typeLookup_type, builtinLookup_eq_fast]; kernel_rfl
theorem enum_no_hint : typeLookup (.type "enumerate") "__length_hint__" = pure none := by rw [typeLookup_type, builtinLookup_eq_fast]; kernel_rfl
section
variable {prog : Program} {w : World} {A : Around} {E : Value → Shared → Prop} {s : Shared} {R : Result → Shared → Prop}
theorem extend_enum {S e it : Addr} {n : Nat} {old res : Value} (he : IsEnum s.heap e it 0 old) (hSe : S ≠ e) (hS : s.heap.get? S = some { cls := .type "list", data := .seq #[] n })
    (h : ∀ h'' n', h''.get? S = some { cls := .type "list", data := .seq #[] n' } → (∀ b o, b ≠ S → s.heap.get? b = some o → h''.get? b = some o) → codeAny (model prog w) A (.builtin "list.extend.loop" ⟨[.ref S, .ref e, res], []⟩) R { s with heap := h'' }) :
    wpAny (model prog w) A.in1 (Builtin.List.listExtendWith (.ref S) (.ref e) res)
      (fun fin s' => match fin with | .done f => R (.ok f) s' | .again c' => c'.quiet = true ∧ codeAny (model prog w) A c' R s') (fun e s' => R (.error e) s') s := by
  have hT : s.TypeIs (.ref e) "enumerate" := ⟨_, he, rfl⟩
  unfold Builtin.List.listExtendWith
  refine wpAny_bind (wpAny_typeOf hT ?_)
  have h1 : Builtin.List.listSameRef (.ref S) (.ref e) = false := by simp [Builtin.List.listSameRef, hSe]
  have h2 : (Value.type "enumerate" == Value.type "list") = false := by decide
  have h3 : (Value.type "enumerate" == Value.type "tuple") = false := by decide
  simp only [h1, h2, h3, Bool.or_false, Bool.false_eq_true, if_false]
  refine wpAny_bind (wpAny_pyIter_enum he ?_)
  refine wpAny_bind (wpAny_holding ?_)
  unfold Builtin.List.listLengthHint
  refine wpAny_bind (wpAny_specialOf hT enum_no_len ?_)
  show wpAny _ A.in1 (specialOf (Value.ref e) (Str.ofString "__length_hint__") >>= _) _ _ _
  refine wpAny_bind (wpAny_specialOf hT enum_no_hint ?_)
  refine wpAny_pure ?_
  show wpAny _ A.in1 (rule "list.extend.makes-room" >>= fun _ => Builtin.List.listTouch (.ref S) >>= fun _ =>
    again (.builtin "list.extend.loop" ⟨[.ref S, .ref e, res], []⟩)) _ _ _
  refine wpAny_bind (wpAny_rule ?_)
  refine wpAny_bind ?_
  show wpAny _ A.in1 (updateSeq S (·.push .none) >>= fun _ => updateSeq S (·.pop)) _ _ _
  refine wpAny_bind (wpAny_updateSeq hS rfl ?_)
  have hS₂ := Heap.get?_update_self (Obj.mapSeq (·.push Value.none)) hS rfl
  refine wpAny_updateSeq (hz := by seq_fits) hS₂ rfl ?_
  have hS₃ := Heap.get?_update_self (Obj.mapSeq (·.pop)) hS₂ rfl
  have oth : ∀ b o, b ≠ S → s.heap.get? b = some o → ((s.heap.update S (Obj.mapSeq (·.push Value.none))).update S (Obj.mapSeq (·.pop))).get? b = some o :=
    fun b o hb e => (Heap.get?_update_other _ _ (Ne.symm hb)).trans ((Heap.get?_update_other _ _ (Ne.symm hb)).trans e)
  exact wpAny_pure ⟨plainId_quiet PySem.F.plain_extend_loop _, h _ (n + 1 + 1) hS₃ oth⟩
theorem init_enum {S e it : Addr} {old : Value} (he : IsEnum s.heap e it 0 old) (hSe : S ≠ e) (hS : s.heap.get? S = some { cls := .type "list", data := .seq #[] })
    (h : ∀ h'' n', h''.get? S = some { cls := .type "list", data := .seq #[] n' } → (∀ b o, b ≠ S → s.heap.get? b = some o → h''.get? b = some o) → codeAny (model prog w) A (.builtin "list.extend.loop" ⟨[.ref S, .ref e, .none], []⟩) R { s with heap := h'' }) :
    wpAny (model prog w) A.in1 (Builtin.«list.__init__» ⟨[.ref S, .ref e], []⟩)
      (fun fin s' => match fin with | .done f => R (.ok f) s' | .again c' => c'.quiet = true ∧ codeAny (model prog w) A c' R s') (fun e s' => R (.error e) s') s := by
  show wpAny _ _ (do let old ← Builtin.List.listItems (.ref S); Builtin.List.listUpdate (.ref S) (fun _ => #[]); letGo old.toList.reverse; Builtin.List.listExtendWith (.ref S) (.ref e) .none) _ _ s
  refine wpAny_bind ?_
  unfold Builtin.List.listItems
  refine wpAny_bind (wpAny_seqItems hS rfl (wpAny_pure ?_))
  show wpAny _ A.in1 (updateSeq S (fun _ => #[]) >>= fun _ => letGo (#[] : Array Value).toList.reverse >>= fun _ => Builtin.List.listExtendWith (.ref S) (.ref e) .none) _ _ s
  refine wpAny_bind (wpAny_updateSeq hS rfl ?_)
  have hS₂ := Heap.get?_update_self (Obj.mapSeq (fun _ => (#[] : Array Value))) hS rfl
  have oth : ∀ b o, b ≠ S → s.heap.get? b = some o → (s.heap.update S (Obj.mapSeq (fun _ => (#[] : Array Value)))).get? b = some o :=
    fun b o hb e => (Heap.get?_update_other _ _ (Ne.symm hb)).trans e
  refine wpAny_bind (wpAny_letGo ?_)
  refine extend_enum (it := it) (old := old) (oth _ _ (Ne.symm hSe) he) hSe hS₂ fun h'' n' q k => h h'' n' q fun b o hb e => k b o hb (oth b o hb e)
end
section
variable {X : Cx} {g : Cg}
def rListEn (K : PySem.W.Frag) : List V → Hp → VK → Prop := fun vs H Q => ∃ t a xs, vs = [.ref a] ∧ SqX K t H a xs ∧ ∀ S ws H', H S = none → ws.length = xs.length → H' S = some (.lst ws) → EnR xs S H ws H' → Q (.ref S) H'
theorem call_listEn {pins : List (Addr × Obj)} {σ : L2.St} {H : Hp} {s : Shared} {t : Bool} {a e it : Addr} {xs : List V} {old : Value} {E : Value → Shared → Prop} {Q : VK} (hc : X.calm = true) (I : Inv X pins σ H s) (fe : FpOk X pins H e) (fi : FpOk X pins H it) (hq : SqX X.K t H a xs) (he : IsEnum s.heap e it 0 old) (hit : SrcIt t s.heap it a 0) (hne : e ≠ it) (hea : e ≠ a)
    (h : ∀ S ws H', H S = none → ws.length = xs.length → H' S = some (.lst ws) → EnR xs S H ws H' → Q (.ref S) H') :
    wpAny (model X.prog X.w) X.A (call (.type "list") [.ref e]) (fun u s' => ∃ x H', Inv X pins σ H' s' ∧ RelV x u ∧ Q x H') E s := by
  have hz : xs.length ≤ sizeLine := by
    cases t with
    | true => exact (I.tuple (show SqT X.K H a xs from hq)).choose_spec.2.2
    | false => exact (I.list (show SqL X.K H a xs from hq)).choose_spec.2.2
  have hel := Heap.lt_size he
  have hil : it < s.heap.objs.size := by obtain ⟨_, q, _⟩ := hit.there; exact Heap.lt_size q
  have hal : a < s.heap.objs.size := by
    obtain ⟨oa, hoa, _⟩ := hq.lt I
    exact Heap.lt_size hoa
  have hHS : H s.heap.objs.size = none := I.hok.fresh (Nat.le_refl _)
  refine callType_codes (Q₁ := fun obj s₁ => obj = .ref s.heap.objs.size ∧ s₁ = { s with heap := s.heap.push { cls := .type "list", data := .seq #[] } }) PySem.F.called_list (PySem.F.typeCall_list_1 _) PySem.F.entry_list_init
    (code_list_new _ ⟨rfl, rfl⟩) fun obj s₁ h₁ => ?_
  obtain ⟨rfl, rfl⟩ := h₁
  have hS : (s.heap.push { cls := .type "list", data := .seq #[] }).get? s.heap.objs.size = some { cls := .type "list", data := .seq #[] } := Heap.get?_push_size _ rfl
  refine ⟨⟨_, hS, rfl⟩, PySem.F.args_list_init_2 _ _, init_enum (it := it) (old := old) (Heap.get?_push_of_some _ he) (Nat.ne_of_gt hel) hS fun h'' n' q k => ?_⟩
  have kp : ∀ b o, s.heap.get? b = some o → h''.get? b = some o := fun b o e => k b o (Nat.ne_of_lt (Heap.lt_size e)) (Heap.get?_push_of_some _ e)
  have I1 : Inv X pins σ (upd H s.heap.objs.size (.lst [])) { s with heap := h'' } := I.laid (t' := s.toks) kp (Nat.le_refl _) ⟨Nat.zero_le _, [], n', .nil, q⟩
  have f1 : ∀ b, b < s.heap.objs.size → FpOk X pins H b → FpOk X pins (upd H s.heap.objs.size (.lst [])) b := fun b hb f => ⟨by rw [upd_ne (Nat.ne_of_lt hb)]; exact f.1, f.2⟩
  refine loop_enum (X := X) (pins := pins) (σ := σ) (t := t) (a := a) (it := it) (xs := xs) (H0 := H) (by simp [I.ok.hd hc]) hz hne hea (Nat.ne_of_gt hel) (Nat.ne_of_gt hil) (Nat.ne_of_gt hal) hHS xs.length { s with heap := h'' } _ [] rfl (Nat.zero_le _) I1 (f1 e hel fe) (f1 it hil fi)
    (sqX_mono hq fun u q => by rw [upd_ne (Nat.ne_of_lt hal)]; exact q) (by rw [upd_same]) (.inl ⟨old, kp _ _ he⟩) (hit.at fun o q => kp _ _ q) ⟨fun j v hj => by simp at hj, fun b o hb q => by rw [upd_ne hb]; exact q⟩ fun s' H' ws I' hl hS' er => ?_
  exact ⟨rfl, .ref s.heap.objs.size, H', I', rfl, h _ ws H' hHS hl hS' er⟩
theorem pe_listEn {e : Expr} {p q pos pos2 : Pos} {ta : TA} (hc : X.calm = true) (h1 : Gl X "list") (h2 : X.mg "list" = none) (h3 : Gl X "enumerate") (h4 : X.mg "enumerate" = none) (ha : PA X [e] ta) (hs : notStar e = true) :
    PE X (.Call (.Name "list" p) [.Call (.Name "enumerate" q) [e] [] pos2] [] pos) (tCB (rListEn X.K) ta) := by
  refine ⟨fun pins s σ H Q I h => ?_⟩
  refine Call_ (ld_blt I h1 h2 boot_list (PyProof.Rows.callWith_type1 (args_cons (Call_ (ld_blt I h3 h4 boot_enumerate (PyProof.Rows.callWith_type1 (thn (ha.run pos2 pins s σ H _ I h) fun us s1 ⟨vs, H1, I1, r1, q1⟩ => ?_) (star_cons hs _ _) (star_any (by simp) _ _)))) (star_cons rfl _ _)) (star_cons rfl _ _)))
  obtain ⟨t, a, xs, rfl, hq, k⟩ := q1
  have hal : a < s1.heap.objs.size := by
    obtain ⟨oa, hoa, _⟩ := hq.lt I1
    exact Heap.lt_size hoa
  have fin : ∀ (h' : Heap), IsEnum h' (s1.heap.objs.size + 1) s1.heap.objs.size 0 .none → SrcIt t h' s1.heap.objs.size a 0 → (∀ b o, s1.heap.get? b = some o → h'.get? b = some o) →
      wpAny (model X.prog X.w) X.A (call (.type "list") [.ref (s1.heap.objs.size + 1)]) (fun u s' => ∃ x H', Inv X pins σ H' s' ∧ RelV x u ∧ Q x H') X.xe { s1 with heap := h' } := fun h' he hit hk => by
    have I2 : Inv X pins σ H1 { s1 with heap := h' } := I1.kept (t' := s1.toks) hk
    exact call_listEn hc I2 (I1.fpOk (Nat.le_succ _) (I1.hok.fresh (Nat.le_succ _))) (I1.fpOk (Nat.le_refl _) (I1.hok.fresh (Nat.le_refl _))) hq he hit (Nat.succ_ne_self _) (Nat.ne_of_gt (Nat.lt_succ_of_lt hal)) k
  cases r1 with
  | cons r rr =>
    cases rr
    cases r
    cases t with
    | true =>
      obtain ⟨its, rv, p', hz⟩ := I1.tuple (show SqT X.K H1 a xs from hq)
      exact enum_begins1 (begins_tuple a its.toArray) p' fun h' he ho hsz hk => args_nil (fin h' he ⟨_, ho, rfl, rfl⟩ hk)
    | false =>
      obtain ⟨its, rv, p', hz⟩ := I1.list (show SqL X.K H1 a xs from hq)
      exact enum_begins1 (begins_list a its.toArray) p'.isList fun h' he ho hsz hk => args_nil (fin h' he ⟨_, ho, rfl, rfl⟩ hk)
/-- list(enumerate(x)) -/
def gLE : List (List D) → List D → Res R := fun st ds => match ds with
  | [d] => (itemsOf st d).bind fun xs => .ok (.own (enumL 0 xs))
  | _ => .stuck
theorem tCB_ops {r : List V → Hp → VK → Prop} {f : List (List D) → List D → Res R} {C : Cl} {σ : Tv} {fs : List SE} {H : Hp} {Q : VK} (hv : VN g f r) (h : tE g C (opE f fs) σ H Q) : tCB r (tOps g C fs) σ H Q := tOpE_le hv h
theorem repL_en {w : W} : ∀ {ds : List D} {vs : List V}, RepL g w ds vs → ∀ (k : Nat) (ws : List V), ws.length = vs.length → (∀ (j : Nat) (v : V), ws[j]? = some v → ∃ T x, v = .ref T ∧ w.Fz T ∧ w.H T = some (.tup [.int ((k + j : Nat) : Int), x]) ∧ vs[j]? = some x) → RepL g w (enumL (k : Nat) ds) ws
  | [], vs, r, k, ws, hl, _ => by
    unfold RepL at r
    subst r
    unfold enumL RepL
    exact List.length_eq_zero_iff.mp hl
  | d :: ds, vs, r, k, ws, hl, h => by
    unfold RepL at r
    obtain ⟨v, vr, rfl, rd, rl⟩ := r
    cases ws with
    | nil => cases hl
    | cons u ws =>
      obtain ⟨T, x, rfl, hf, hT, hx⟩ := h 0 u rfl
      have ex : v = x := by simpa using hx
      subst ex
      unfold enumL RepL
      refine ⟨_, ws, rfl, ?_, ?_⟩
      · unfold Rep
        refine ⟨T, _, rfl, .inr (.inl ⟨rfl, hf, hT⟩), ?_⟩
        unfold RepL
        refine ⟨_, _, rfl, ?_, ?_⟩
        · unfold Rep
          simp
        · unfold RepL
          refine ⟨_, _, rfl, rd, ?_⟩
          unfold RepL
          rfl
      · have := repL_en rl (k + 1) ws (by simpa using hl) fun j v hj => by
          obtain ⟨T, x, e, hf, hT, hx⟩ := h (j + 1) v (by simpa using hj)
          refine ⟨T, x, e, hf, ?_, by simpa using hx⟩
          rw [hT]
          congr 4
          omega
        simpa using this
theorem vn_LE : VN g gLE (rListEn g.K) := by
  intro w st ds xs Q F rp h
  unfold gLE at h
  split at h
  · rename_i d
    obtain ⟨x, rfl, rx⟩ := pps1 rp
    rw [Res.sat_bind] at h
    obtain ⟨t, a, ds, vs, h, rfl, hq, rl⟩ : ∃ t a ds vs, (Res.ok (R.own (enumL 0 ds)) : Res R).Sat (fun m => ∀ v w', Ext w w' → RepN g w w' m v → Q v w'.H) ∧ x = .ref a ∧ SqX g.K t w.H a vs ∧ RepL g w ds vs := by
      rcases rx with rx | ⟨a, vs, es, rfl, rfl, hH, rl⟩
      · obtain ⟨a, ds, vs, h, e, hq, rl⟩ := items_ok rx h
        rcases hq with hq | hq
        · exact ⟨true, a, ds, vs, h, e, hq, rl⟩
        · exact ⟨false, a, ds, vs, h, e, hq, rl⟩
      · exact ⟨false, a, es, vs, h, rfl, .inl (.inl hH), rl⟩
    refine ⟨t, a, vs, rfl, hq, fun S ws H' hS hl hS' er => ?_⟩
    have ne : ∀ b o, w.H b = some o → b ≠ S := fun b o e z => by rw [z, hS] at e; cases e
    have X : Ext w ⟨H', fun b => w.Fz b ∨ ∃ j : Nat, ws[j]? = some (.ref b), w.μ⟩ := by
      refine ⟨fun b o e => er.keep b o (ne b o e) e, fun b f => .inl f, fun b f => ?_, rfl⟩
      rcases f with f | ⟨j, hj⟩
      · exact .inl f
      · obtain ⟨T, x, e, hT, _, h0, _⟩ := er.at_ j _ hj
        cases e
        exact .inr ⟨h0, _, hT⟩
    refine h (.ref S) ⟨H', fun b => w.Fz b ∨ ∃ j : Nat, ws[j]? = some (.ref b), w.μ⟩ X ⟨S, ws, rfl, hS', ?_, ?_, hS⟩
    · have := repL_en (RepL.le (X.le F.fz) rl) 0 ws hl fun j v hj => by
        obtain ⟨T, x, e, hT, hx, h0, _⟩ := er.at_ j v hj
        refine ⟨T, x, e, .inr ⟨j, by rw [hj, e]⟩, ?_, hx⟩
        show H' T = _
        rw [hT, Nat.zero_add]
      simpa using this
    · rintro (f | ⟨j, hj⟩)
      · obtain ⟨o, e⟩ := F.fz S f
        rw [hS] at e
        cases e
      · obtain ⟨T, x, e, _, _, _, hn⟩ := er.at_ j _ hj
        cases e
        exact hn rfl
  · exact h.elim
end
end Ev
set_option Elab.async false
set_option maxRecDepth 100000
set_option maxHeartbeats 2000000
namespace Ev
open PySem PySem.Spec PyProof.Rows L2
set_option autoImplicit false
/-- a tuple that is not () -/
def tupD : D → Bool
  | .tup _ (_ :: _) => true
  | _ => false
def tupsD (ds : List D) : Bool := !ds.isEmpty && ds.all tupD
def strD : D → Bool
  | .str _ => true
  | _ => false
def srtD (ds : List D) : Bool := tupsD ds || ds.all strD
def alkD (ds : List D) : Bool := ds.all fun a => shp 10 a && ds.all fun b => PySem.W.alike (toPy a) (toPy b)
def ltD (a b : D) : Bool := PySem.W.dataLt (toPy a) (toPy b)
def leD (a b : D) : Bool := PySem.W.dataLe false toPy a b
def minDD : List D → D
  | [] => .non
  | x :: xs => xs.foldl (fun a y => if ltD y a then y else a) x
def maxDD : List D → D
  | [] => .non
  | x :: xs => xs.foldl (fun a y => if ltD a y then y else a) x
def gSortX : List (List D) → List D → Res R := fun st ds => match ds with
  | [.lst xs] => if tupsD xs = true then (if alkD xs = true ∧ xs.length ≤ szL then .ok (.own (xs.mergeSort leD)) else .stuck) else gSorted st [.lst xs]
  | [.tup k xs] => if srtD xs = true then (if alkD xs = true ∧ xs.length ≤ szL then .ok (.own (xs.mergeSort leD)) else .stuck) else gSorted st [.tup k xs]
  | _ => gSorted st ds
def gMinX : List (List D) → List D → Res R := fun st ds => match ds with
  | [.lst xs] => if tupsD xs = true then (if alkD xs = true ∧ xs.length ≤ szL then .ok (.val (minDD xs)) else .stuck) else gMin2 st [.lst xs]
  | _ => gMin2 st ds
def gMaxX : List (List D) → List D → Res R := fun st ds => match ds with
  | [.lst xs] => if tupsD xs = true then (if alkD xs = true ∧ xs.length ≤ szL then .ok (.val (maxDD xs)) else .stuck) else gMax2 st [.lst xs]
  | _ => gMax2 st ds
section
variable {X : Cx} {g : Cg}
structure BsOk (K : PySem.W.Frag) (H : Hp) (xs : List V) (bs : List (D × V)) : Prop where
  snd : bs.map (·.2) = xs
  dp : ∀ b ∈ bs, Dp K H b.2 (toPy b.1)
  dep : ∀ b ∈ bs, PyData.depth (toPy b.1) ≤ 10
  tup : srtD (bs.map (·.1)) = true
  alk : alkD (bs.map (·.1)) = true
  len : bs.length ≤ sizeLine
theorem alk_all {ds : List D} (h : alkD ds = true) : ∀ a ∈ ds, ∀ b ∈ ds, PySem.W.alike (toPy a) (toPy b) = true := fun a ha b hb => by
  have := List.all_eq_true.mp h a ha
  rw [Bool.and_eq_true] at this
  exact List.all_eq_true.mp this.2 b hb
theorem alk_shp {ds : List D} (h : alkD ds = true) : ∀ a ∈ ds, shp 10 a = true := fun a ha => by
  have := List.all_eq_true.mp h a ha
  rw [Bool.and_eq_true] at this
  exact this.1
theorem tup_py {d : D} (h : tupD d = true) : ∃ x r, toPy d = .tuple (x :: r) := by
  unfold tupD at h
  split at h
  · exact ⟨_, _, rfl⟩
  · cases h
theorem str_py {d : D} (h : strD d = true) : toPy d ≠ .none ∧ ∀ xs, toPy d ≠ .tuple xs := by
  unfold strD at h
  split at h
  · exact ⟨(fun e => nomatch e), fun xs e => nomatch e⟩
  · cases h
theorem srt_py {ds : List D} (h : srtD ds = true) : (∀ d ∈ ds, ∃ x r, toPy d = .tuple (x :: r)) ∨ ∀ d ∈ ds, toPy d ≠ .none ∧ ∀ xs, toPy d ≠ .tuple xs := by
  unfold srtD at h
  rw [Bool.or_eq_true] at h
  rcases h with h | h
  · unfold tupsD at h
    rw [Bool.and_eq_true] at h
    exact .inl fun d hd => tup_py (List.all_eq_true.mp h.2 d hd)
  · exact .inr fun d hd => str_py (List.all_eq_true.mp h d hd)
def rSortD (K : PySem.W.Frag) : List V → Hp → VK → Prop := fun vs H Q => ∃ (a : Addr) (xs : List V) (bs : List (D × V)), vs = [.ref a] ∧ SqL K H a xs ∧ BsOk K H xs bs ∧ ∀ p, H p = none → Q (.ref p) (upd H p (.lst ((bs.mergeSort (PySem.W.dataLe false fun b => toPy b.1)).map (·.2))))
theorem bs_sortable {K : PySem.W.Frag} {H : Hp} {xs : List V} {bs : List (D × V)} (B : BsOk K H xs bs) : PySem.W.Sortable (bs.map fun b => toPy b.1) := by
  rcases srt_py B.tup with h | h
  · refine .inl fun d hd => ?_
    obtain ⟨b, hb, rfl⟩ := List.mem_map.mp hd
    exact h _ (List.mem_map.mpr ⟨b, hb, rfl⟩)
  · refine .inr fun d hd => ?_
    obtain ⟨b, hb, rfl⟩ := List.mem_map.mp hd
    exact h _ (List.mem_map.mpr ⟨b, hb, rfl⟩)
theorem each_vals {bs : List (D × V)} {us : List Value} (r : Vals (bs.map (·.2)) us) : PySem.W.EachIs (fun v (b : D × V) => RelV b.2 v) us bs := by
  induction bs generalizing us with
  | nil => cases r; exact .nil
  | cons b bs ih =>
    cases r with
    | cons h t => exact .cons h (ih t)
theorem vals_each {bs : List (D × V)} {us : List Value} (r : PySem.W.EachIs (fun v (b : D × V) => RelV b.2 v) us bs) : Vals (bs.map (·.2)) us := by
  induction r with
  | nil => exact .nil
  | cons h _ ih => exact .cons h ih
theorem cr_sortD {n : Nat} (hr : Room n X.A) : CallR X (.builtin "sorted") (rSortD X.K) := by
  intro pins s σ H vs us Q I r h
  obtain ⟨a, xs, bs, rfl, hs, B, q⟩ := h
  obtain ⟨its, rv, hl, hz⟩ := I.list hs
  rw [Vals.ref1 r]
  have ev := each_vals (by rw [B.snd]; exact rv)
  refine PySem.W.sorted_data (enc := fun b : D × V => toPy b.1) hl.isList ev ?_ ?_ ?_ B.len (fun b hb => ?_) fun out hlen eo => ?_
  · have go : ∀ {bs : List (D × V)} {its : List Value}, PySem.W.EachIs (fun v (b : D × V) => RelV b.2 v) its bs → (∀ b ∈ bs, Dp X.K H b.2 (toPy b.1)) → PySem.W.EachIs (fun v (b : D × V) => ∃ as, Reads s.heap v (toPy b.1) as) its bs := by
      intro bs its e hd
      induction e with
      | nil => exact .nil
      | cons h _ ih => exact .cons (Dp.reads I _ _ _ (hd _ List.mem_cons_self) h) (ih fun b hb => hd b (List.mem_cons_of_mem _ hb))
    exact go ev B.dp
  · intro d hd d' hd'
    obtain ⟨b, hb, rfl⟩ := List.mem_map.mp hd
    obtain ⟨b', hb', rfl⟩ := List.mem_map.mp hd'
    exact alk_all B.alk _ (List.mem_map.mpr ⟨b, hb, rfl⟩) _ (List.mem_map.mpr ⟨b', hb', rfl⟩)
  · exact bs_sortable B
  · have := B.dep b hb
    have := hr.un
    omega
  · obtain ⟨ep, he'⟩ := PyProof.Rows.sortedAll_at s.heap its out.toArray
    have hlen2 : ((bs.mergeSort (PySem.W.dataLe false fun b => toPy b.1)).map (·.2)).length ≤ sizeLine := by
      rw [List.length_map, List.length_mergeSort]
      exact B.len
    exact ⟨.ref _, upd H (s.heap.objs.size + 1) (.lst ((bs.mergeSort (PySem.W.dataLe false fun b => toPy b.1)).map (·.2))), I.laid (t' := s.toks) (fun _ _ => PyProof.Rows.sortedAll_old) (Nat.le_succ _) ⟨hlen2, out, ep, vals_each eo, he'⟩, rfl, q _ (I.hok.fresh (Nat.le_succ _))⟩
/-- sorted(a tuple) -/
def rSortDT (K : PySem.W.Frag) : List V → Hp → VK → Prop := fun vs H Q => ∃ (a : Addr) (xs : List V) (bs : List (D × V)), vs = [.ref a] ∧ SqT K H a xs ∧ BsOk K H xs bs ∧ ∀ p, H p = none → Q (.ref p) (upd H p (.lst ((bs.mergeSort (PySem.W.dataLe false fun b => toPy b.1)).map (·.2))))
theorem each_reads {X : Cx} {pins : List (Addr × Obj)} {σ : L2.St} {H : Hp} {s : Shared} (I : Inv X pins σ H s) : ∀ {bs : List (D × V)} {its : List Value}, PySem.W.EachIs (fun v (b : D × V) => RelV b.2 v) its bs → (∀ b ∈ bs, Dp X.K H b.2 (toPy b.1)) → PySem.W.EachIs (fun v (b : D × V) => ∃ as, Reads s.heap v (toPy b.1) as) its bs := by
  intro bs its e hd
  induction e with
  | nil => exact .nil
  | cons h _ ih => exact .cons (Dp.reads I _ _ _ (hd _ List.mem_cons_self) h) (ih fun b hb => hd b (List.mem_cons_of_mem _ hb))
theorem reads_old {h h' : Heap} {v : Value} {d : PyData} {as : List Addr} (k : ∀ b o, h.get? b = some o → h'.get? b = some o) (r : Reads h v d as) : Reads h' v d as := Reads.keeps k r
theorem cr_sortDT {n : Nat} (hr : Room n X.A) : CallR X (.builtin "sorted") (rSortDT X.K) := by
  intro pins s σ H xs us Q I r h
  obtain ⟨l, ys, bs, rfl, hq, B, q⟩ := h
  obtain ⟨its, rv, ⟨o, ho, oc, n, od⟩, hz⟩ := I.tuple hq
  have il := rv.length
  have ev := each_vals (by rw [B.snd]; exact rv)
  have er := each_reads I ev B.dp
  rw [Vals.ref1 r]
  refine Calls.call_function_entry kind_sorted plain_sorted entry_sorted (args_sorted1 _) ?_
  unfold Builtin.«sorted»
  refine wpAny_bind (m := checkCount "sorted" 1 1 _) (wpAny_pure (wpAny_bind (wpAny_collect_seq l (.inr rfl) ho oc od (fun h' hk => ?_) (by rw [List.size_toArray, ← il]; exact hz))))
  have e : its.toArray.toList = its := by simp
  rw [e]
  refine wpAny_bind (wpAny_newList ?_ (by rw [← il]; exact hz))
  have at0 : (h'.push (seqObj "list" its.toArray 0)).get? h'.objs.size = some (seqObj "list" its.toArray 0) := Heap.get?_push_size _ rfl
  have I1 : Inv X pins σ H { s with heap := h' } := I.kept (t' := s.toks) hk
  have fin : ∀ out : List Value, out.length = bs.length → PySem.W.EachIs (fun v (b : D × V) => RelV b.2 v) out (bs.mergeSort (PySem.W.dataLe false fun b => toPy b.1)) →
      ∃ x H', Inv X pins σ H' { s with heap := sortedHeap (h'.push (seqObj "list" its.toArray 0)) h'.objs.size its out.toArray } ∧ RelV x (.ref h'.objs.size) ∧ Q x H' := fun out ho eo => by
    obtain ⟨ep, he⟩ := sortedHeap_at (out := out.toArray) at0
    have hlen2 : ((bs.mergeSort (PySem.W.dataLe false fun b => toPy b.1)).map (·.2)).length ≤ sizeLine := by
      rw [List.length_map, List.length_mergeSort]
      exact B.len
    refine ⟨.ref h'.objs.size, upd H h'.objs.size (.lst ((bs.mergeSort (PySem.W.dataLe false fun b => toPy b.1)).map (·.2))), I1.laid (t' := s.toks) (fun b u hb => ?_) (Nat.le_refl _) ⟨hlen2, out, ep, vals_each eo, he⟩, rfl, q _ (I1.hok.fresh (Nat.le_refl _))⟩
    have lb := Heap.lt_size hb
    rw [sortedHeap_old (Nat.ne_of_lt lb) (by rw [size_push']; exact Nat.lt_succ_of_lt lb)]
    exact Heap.get?_push_of_some _ hb
  have er2 : PySem.W.EachIs (fun v (b : D × V) => ∃ as, Reads (PySem.W.sortingHeap (h'.push (seqObj "list" its.toArray 0)) h'.objs.size its) v (toPy b.1) as) its bs := er.mono fun _ _ ⟨as, r⟩ => ⟨as, reads_old (fun b o e => PySem.W.sortingHeap_old (Nat.ne_of_lt (Heap.lt_size (hk b o e))) (Heap.get?_push_of_some _ (hk b o e))) r⟩
  have hal : PySem.W.AllAlike (bs.map fun b => toPy b.1) := by
    intro d hd d' hd'
    obtain ⟨b, hb, rfl⟩ := List.mem_map.mp hd
    obtain ⟨b', hb', rfl⟩ := List.mem_map.mp hd'
    exact alk_all B.alk _ (List.mem_map.mpr ⟨b, hb, rfl⟩) _ (List.mem_map.mpr ⟨b', hb', rfl⟩)
  refine wpAny_bind (wpAny_holding (wpAny_call_entry slot_list_sort ⟨_, at0, rfl⟩ entry_list_sort (PySem.W.list_sort_vals (κ := PySem.W.dataKind (PySem.W.sortingHeap (h'.push (seqObj "list" its.toArray 0)) h'.objs.size its) (bs.map fun b => toPy b.1)) at0
    (PySem.W.SortsAt.data (s := { s with heap := PySem.W.sortingHeap (h'.push (seqObj "list" its.toArray 0)) h'.objs.size its }) (PySem.W.each_map (R := fun v d => ∃ as, Reads (PySem.W.sortingHeap (h'.push (seqObj "list" its.toArray 0)) h'.objs.size its) v d as) (fun b : D × V => toPy b.1) er2) hal (bs_sortable B) (PySem.W.bound_map fun b hb => by
      have := B.dep b hb
      have := hr.un
      simp only [Around.units] at *
      omega)) (by rw [ev.length]; exact B.len) ⟨.none, rfl, ?_⟩) (args_list_sort _)))
  obtain ⟨x, H', f1, f2, f3⟩ := fin _ (by rw [PySem.W.sortVals_length false rfl]; exact ev.length) (PySem.W.sortVals_data false ev er2 hal)
  exact wpAny_pure ⟨_, rfl, x, H', f1, f2, f3⟩
theorem srt_tups {ds : List D} (h : tupsD ds = true) : srtD ds = true := by unfold srtD; rw [h]; rfl
theorem bsOk_of {w : W} {ds : List D} {vs : List V} (rl : RepL g w ds vs) (h1 : srtD ds = true) (h2 : alkD ds = true) (h3 : ds.length ≤ szL) : BsOk g.K w.H vs (ds.zip vs) ∧ (ds.zip vs).map (·.1) = ds ∧ ∀ b ∈ ds.zip vs, Rep g w b.1 b.2 := by
  have hl := rl.length
  have e1 : (ds.zip vs).map (·.1) = ds := by
    rw [← List.unzip_fst, List.unzip_zip_left (by omega)]
  have e2 : (ds.zip vs).map (·.2) = vs := by
    rw [← List.unzip_snd, List.unzip_zip_right (by omega)]
  have hr : ∀ b ∈ ds.zip vs, Rep g w b.1 b.2 := by
    intro b hb
    obtain ⟨i, hi⟩ := List.mem_iff_getElem?.mp hb
    rw [List.getElem?_zip_eq_some] at hi
    obtain ⟨v, hv, rv⟩ := rl.get hi.1
    rw [hi.2] at hv
    cases hv
    exact rv
  have hm : ∀ b ∈ ds.zip vs, b.1 ∈ ds := fun b hb => by
    rw [← e1]
    exact List.mem_map.mpr ⟨b, hb, rfl⟩
  have hz : sizeLine = 16777216 := sizeLine_eq
  have hz2 : szL = 16777216 := rfl
  exact ⟨⟨e2, fun b hb => (dp_toPy 10 _ _ (alk_shp h2 _ (hm b hb)) (hr b hb)).1, fun b hb => (dp_toPy 10 _ _ (alk_shp h2 _ (hm b hb)) (hr b hb)).2.2, by rw [e1]; exact h1, by rw [e1]; exact h2, by simp; omega⟩, e1, hr⟩
theorem repL_pairs {w : W} : ∀ {bs : List (D × V)}, (∀ b ∈ bs, Rep g w b.1 b.2) → RepL g w (bs.map (·.1)) (bs.map (·.2))
  | [], _ => by unfold RepL; rfl
  | b :: bs, h => by
    rw [List.map_cons, List.map_cons]
    unfold RepL
    exact ⟨_, _, rfl, h b List.mem_cons_self, repL_pairs fun x hx => h x (List.mem_cons_of_mem _ hx)⟩
theorem sort_fst (bs : List (D × V)) : (bs.mergeSort (PySem.W.dataLe false fun b => toPy b.1)).map (·.1) = (bs.map (·.1)).mergeSort leD := by
  rw [List.map_mergeSort (s := leD)]
  intro a _ b _
  rfl
def rSrtX (K : PySem.W.Frag) : List V → Hp → VK → Prop := fun vs H Q => rSrt K vs H Q ∨ (rSortD K vs H Q ∨ rSortDT K vs H Q)
theorem cr_srtX {n : Nat} (hr : Room n X.A) : CallR X (.builtin "sorted") (rSrtX X.K) := cr_srt.or ((cr_sortD hr).or (cr_sortDT hr))
theorem vn_sortX : VN g gSortX (rSrtX g.K) := by
  intro w st ds xs Q F rp h
  unfold gSortX at h
  split at h
  · rename_i zs
    split at h
    · rename_i ht
      obtain ⟨x, rfl, rx⟩ := pps1 rp
      obtain ⟨a, vs, rfl, ha, ra⟩ := rx.lst
      obtain ⟨⟨hk, hz⟩, h⟩ := Res.sat_ite _ _ h
      obtain ⟨B, e1, hr⟩ := bsOk_of ra (srt_tups ht) hk hz
      refine .inr (.inl ⟨a, vs, zs.zip vs, rfl, SqL.of ha, B, fun p hp => ?_⟩)
      refine Kn.lst F h ?_ p hp
      have := repL_pairs (g := g) (w := w) (bs := (zs.zip vs).mergeSort (PySem.W.dataLe false fun b => toPy b.1)) fun b hb => hr b ((List.mem_mergeSort).mp hb)
      rw [sort_fst, e1] at this
      exact this
    · exact .inl (vn_sorted w st _ xs Q F rp h)
  · rename_i kk zs
    split at h
    · rename_i ht
      obtain ⟨x, rfl, rx⟩ := pps1 rp
      obtain ⟨a, vs, rfl, na, ra, rA⟩ := rx.tup
      obtain ⟨⟨hk, hz⟩, h⟩ := Res.sat_ite _ _ h
      obtain ⟨B, e1, hr⟩ := bsOk_of ra ht hk hz
      refine .inr (.inr ⟨a, vs, zs.zip vs, rfl, na.sq, B, fun p hp => ?_⟩)
      refine Kn.lst F h ?_ p hp
      have := repL_pairs (g := g) (w := w) (bs := (zs.zip vs).mergeSort (PySem.W.dataLe false fun b => toPy b.1)) fun b hb => hr b ((List.mem_mergeSort).mp hb)
      rw [sort_fst, e1] at this
      exact this
    · exact .inl (vn_sorted w st _ xs Q F rp h)
  · exact .inl (vn_sorted w st _ xs Q F rp h)

theorem toPy_getD (ds : List D) (i : Nat) : (ds.map toPy).getD i .none = toPy (ds.getD i .non) := by
  rw [List.getD_eq_getElem?_getD, List.getD_eq_getElem?_getD, List.getElem?_map]
  cases ds[i]? <;> rfl
theorem depth_le {ds : List D} (h : ∀ d ∈ ds, PyData.depth (toPy d) ≤ 10) : PyData.depthAll (ds.map toPy) ≤ 10 := by
  induction ds with
  | nil => exact Nat.zero_le _
  | cons d ds ih =>
    show max (PyData.depth (toPy d)) (PyData.depthAll (ds.map toPy)) ≤ 10
    have := h d List.mem_cons_self
    have := ih fun x hx => h x (List.mem_cons_of_mem _ hx)
    omega
theorem dpAll_of {K : PySem.W.Frag} {H : Hp} : ∀ {bs : List (D × V)}, (∀ b ∈ bs, Dp K H b.2 (toPy b.1)) → DpAll K H (bs.map (·.2)) ((bs.map (·.1)).map toPy)
  | [], _ => .nil
  | b :: bs, h => .cons (h b List.mem_cons_self) (dpAll_of fun x hx => h x (List.mem_cons_of_mem _ hx))
theorem alikeAll_of {ds : List D} (h1 : srtD ds = true) (h2 : alkD ds = true) : PySem.W.AlikeAll (ds.map toPy) := by
  refine ⟨fun x hx y hy => ?_, fun x hx e => ?_⟩
  · obtain ⟨a, ha, rfl⟩ := List.mem_map.mp hx
    obtain ⟨b, hb, rfl⟩ := List.mem_map.mp hy
    exact alk_all h2 a ha b hb
  · obtain ⟨a, ha, rfl⟩ := List.mem_map.mp hx
    rcases srt_py h1 with h | h
    · obtain ⟨x, r, q⟩ := h a ha
      rw [q] at e
      cases e
    · exact (h a ha).1 e
def btMin (ds : List D) (i j : Nat) : Bool := ltD (ds.getD i .non) (ds.getD j .non)
def btMax (ds : List D) (i j : Nat) : Bool := ltD (ds.getD j .non) (ds.getD i .non)
def rMinD (K : PySem.W.Frag) (bt : List D → Nat → Nat → Bool) : List V → Hp → VK → Prop := fun vs H Q => ∃ (a : Addr) (xs : List V) (bs : List (D × V)), vs = [.ref a] ∧ SqL K H a xs ∧ BsOk K H xs bs ∧ bs ≠ [] ∧ ∀ v, xs[argBest (bt (bs.map (·.1))) (bs.length - 1)]? = some v → Q v H
theorem vals_getV {xs : List V} {us : List Value} (r : Vals xs us) : ∀ {i : Nat} {u : Value}, us[i]? = some u → ∃ x, xs[i]? = some x ∧ RelV x u := by
  intro i u h
  have hl := r.length
  have hi := (List.getElem?_eq_some_iff.mp h).1
  obtain ⟨u', hu, ru⟩ := r.get (List.getElem?_eq_getElem (show i < xs.length by omega))
  rw [h] at hu
  cases hu
  exact ⟨_, List.getElem?_eq_getElem (by omega), ru⟩
theorem cr_minD {n : Nat} (hr : Room n X.A) : CallR X (.builtin "min") (rMinD X.K btMin) := by
  intro pins s σ H vs us Q I r h
  obtain ⟨a, xs, bs, rfl, hs, B, hne, q⟩ := h
  obtain ⟨its, rv, hl, hz⟩ := I.list hs
  rw [Vals.ref1 r]
  obtain ⟨as, hra⟩ := Dp.readsAll I _ _ its (dpAll_of B.dp) (by rw [B.snd]; exact rv)
  have hlen : its.length = bs.length := by rw [← rv.length, ← B.snd, List.length_map]
  have hpos : 0 < bs.length := List.length_pos_iff.mpr hne
  have hd : PyData.depthAll ((bs.map (·.1)).map toPy) ≤ 10 := depth_le fun d hd => by
    obtain ⟨b, hb, rfl⟩ := List.mem_map.mp hd
    exact B.dep b hb
  refine PySem.call_min_walkH (PySem.W.iter_listW (A := X.A.in1) (by simp [hr.hd]) hl.isList fun s₂ e W st hfp hw hk => ?_)
  refine ⟨_, _, _, _, _, _, _, s.heap, btMin (bs.map (·.1)), rfl, W, st, hfp, by simpa [hlen] using hpos, hw, hk, ?_, fun v s' hP m => ?_⟩
  · have := PySem.W.cmpIn_lt (prog := X.prog) (w := X.w) (A := X.A.in1) (s := s) (vs := its.toArray) (xs := (bs.map (·.1)).map toPy) (by simpa using hra) (alikeAll_of B.tup B.alk) (by
      have := hr.un
      show X.A.units + 1 + _ < _
      omega)
    have e : (fun i j => PySem.W.dataLt (((bs.map (·.1)).map toPy).getD i .none) (((bs.map (·.1)).map toPy).getD j .none)) = btMin (bs.map (·.1)) := by
      funext i j
      rw [toPy_getD, toPy_getD]
      rfl
    rw [e] at this
    exact this
  · obtain ⟨h', tk, rfl, hk'⟩ := PySem.W.moved_old e rfl m
    have hP : its[argBest (btMin (bs.map (·.1))) (its.length - 1)]? = some v := by simpa using hP
    rw [hlen] at hP
    obtain ⟨x, hx, rx⟩ := vals_getV rv hP
    exact ⟨x, H, I.kept hk', rx, q x hx⟩
theorem cr_maxD {n : Nat} (hr : Room n X.A) : CallR X (.builtin "max") (rMinD X.K btMax) := by
  intro pins s σ H vs us Q I r h
  obtain ⟨a, xs, bs, rfl, hs, B, hne, q⟩ := h
  obtain ⟨its, rv, hl, hz⟩ := I.list hs
  rw [Vals.ref1 r]
  obtain ⟨as, hra⟩ := Dp.readsAll I _ _ its (dpAll_of B.dp) (by rw [B.snd]; exact rv)
  have hlen : its.length = bs.length := by rw [← rv.length, ← B.snd, List.length_map]
  have hpos : 0 < bs.length := List.length_pos_iff.mpr hne
  have hd : PyData.depthAll ((bs.map (·.1)).map toPy) ≤ 10 := depth_le fun d hd => by
    obtain ⟨b, hb, rfl⟩ := List.mem_map.mp hd
    exact B.dep b hb
  refine PySem.call_max_walkH (PySem.W.iter_listW (A := X.A.in1) (by simp [hr.hd]) hl.isList fun s₂ e W st hfp hw hk => ?_)
  refine ⟨_, _, _, _, _, _, _, s.heap, btMax (bs.map (·.1)), rfl, W, st, hfp, by simpa [hlen] using hpos, hw, hk, ?_, fun v s' hP m => ?_⟩
  · have := PySem.W.cmpIn_gt (prog := X.prog) (w := X.w) (A := X.A.in1) (s := s) (vs := its.toArray) (xs := (bs.map (·.1)).map toPy) (by simpa using hra) (alikeAll_of B.tup B.alk) (by
      have := hr.un
      show X.A.units + 1 + _ < _
      omega)
    have e : (fun i j => PySem.W.dataLt (((bs.map (·.1)).map toPy).getD j .none) (((bs.map (·.1)).map toPy).getD i .none)) = btMax (bs.map (·.1)) := by
      funext i j
      rw [toPy_getD, toPy_getD]
      rfl
    rw [e] at this
    exact this
  · obtain ⟨h', tk, rfl, hk'⟩ := PySem.W.moved_old e rfl m
    have hP : its[argBest (btMax (bs.map (·.1))) (its.length - 1)]? = some v := by simpa using hP
    rw [hlen] at hP
    obtain ⟨x, hx, rx⟩ := vals_getV rv hP
    exact ⟨x, H, I.kept hk', rx, q x hx⟩
theorem min_at {x : D} {xs : List D} : ∃ i, argBest (btMin (x :: xs)) xs.length = i ∧ (x :: xs)[i]? = some (minDD (x :: xs)) := by
  obtain ⟨h1, h2⟩ := PySem.W.argBest_fold ltD .non x xs xs.length (Nat.le_refl _)
  rw [List.take_length] at h2
  refine ⟨_, rfl, ?_⟩
  have hlt : argBest (btMin (x :: xs)) xs.length < (x :: xs).length := by
    rw [List.length_cons]
    exact Nat.lt_succ_of_le h1
  have h2 : (x :: xs).getD (argBest (btMin (x :: xs)) xs.length) .non = minDD (x :: xs) := h2
  rw [List.getD_eq_getElem?_getD, List.getElem?_eq_getElem hlt] at h2
  rw [List.getElem?_eq_getElem hlt, ← h2]
  rfl
theorem max_at {x : D} {xs : List D} : ∃ i, argBest (btMax (x :: xs)) xs.length = i ∧ (x :: xs)[i]? = some (maxDD (x :: xs)) := by
  obtain ⟨h1, h2⟩ := PySem.W.argBest_fold (fun a b => ltD b a) .non x xs xs.length (Nat.le_refl _)
  rw [List.take_length] at h2
  refine ⟨_, rfl, ?_⟩
  have hlt : argBest (btMax (x :: xs)) xs.length < (x :: xs).length := by
    rw [List.length_cons]
    exact Nat.lt_succ_of_le h1
  have h2 : (x :: xs).getD (argBest (btMax (x :: xs)) xs.length) .non = maxDD (x :: xs) := h2
  rw [List.getD_eq_getElem?_getD, List.getElem?_eq_getElem hlt] at h2
  rw [List.getElem?_eq_getElem hlt, ← h2]
  rfl
def rMinX (K : PySem.W.Frag) : List V → Hp → VK → Prop := fun xs H Q => ((∃ i j, xs = [.int i, .int j] ∧ Q (.int (if j < i then j else i)) H) ∨ rMin K xs H Q) ∨ rMinD K btMin xs H Q
def rMaxX (K : PySem.W.Frag) : List V → Hp → VK → Prop := fun xs H Q => ((∃ i j, xs = [.int i, .int j] ∧ Q (.int (if j > i then j else i)) H) ∨ rMax K xs H Q) ∨ rMinD K btMax xs H Q
theorem cr_minX {n : Nat} (hc : X.calm = true) (hr : Room n X.A) : CallR X (.builtin "min") (rMinX X.K) := ((call_min2 hc).or (cr_min hc)).or (cr_minD hr)
theorem cr_maxX {n : Nat} (hc : X.calm = true) (hr : Room n X.A) : CallR X (.builtin "max") (rMaxX X.K) := ((call_max2 hc).or (cr_max hc)).or (cr_maxD hr)
theorem tups_ne {ds : List D} (h : tupsD ds = true) : ∃ x xs, ds = x :: xs := by
  cases ds with
  | nil => cases h
  | cons x xs => exact ⟨x, xs, rfl⟩
theorem vn_minX : VN g gMinX (rMinX g.K) := by
  intro w st ds xs Q F rp h
  unfold gMinX at h
  split at h
  · rename_i zs
    split at h
    · rename_i ht
      obtain ⟨x, rfl, rx⟩ := pps1 rp
      obtain ⟨a, vs, rfl, ha, ra⟩ := rx.lst
      obtain ⟨⟨hk, hz⟩, h⟩ := Res.sat_ite _ _ h
      obtain ⟨B, e1, hr⟩ := bsOk_of ra (srt_tups ht) hk hz
      have hl := ra.length
      have hl2 : (zs.zip vs).length = zs.length := by simp; omega
      obtain ⟨z0, z1, rfl⟩ := tups_ne ht
      refine .inr ⟨a, vs, _, rfl, SqL.of ha, B, (fun e => by rw [e] at hl2; cases hl2), fun v hv => ?_⟩
      rw [e1, hl2] at hv
      obtain ⟨i, hi, hd⟩ := min_at (x := z0) (xs := z1)
      have hv : vs[argBest (btMin (z0 :: z1)) z1.length]? = some v := hv
      rw [hi] at hv
      obtain ⟨d, hd2, rd⟩ := RepL.at ra hv
      rw [hd] at hd2
      cases hd2
      exact Kn.val h rd
    · exact .inl (vn_min2 w st _ xs Q F rp h)
  · exact .inl (vn_min2 w st _ xs Q F rp h)
theorem vn_maxX : VN g gMaxX (rMaxX g.K) := by
  intro w st ds xs Q F rp h
  unfold gMaxX at h
  split at h
  · rename_i zs
    split at h
    · rename_i ht
      obtain ⟨x, rfl, rx⟩ := pps1 rp
      obtain ⟨a, vs, rfl, ha, ra⟩ := rx.lst
      obtain ⟨⟨hk, hz⟩, h⟩ := Res.sat_ite _ _ h
      obtain ⟨B, e1, hr⟩ := bsOk_of ra (srt_tups ht) hk hz
      have hl := ra.length
      have hl2 : (zs.zip vs).length = zs.length := by simp; omega
      obtain ⟨z0, z1, rfl⟩ := tups_ne ht
      refine .inr ⟨a, vs, _, rfl, SqL.of ha, B, (fun e => by rw [e] at hl2; cases hl2), fun v hv => ?_⟩
      rw [e1, hl2] at hv
      obtain ⟨i, hi, hd⟩ := max_at (x := z0) (xs := z1)
      have hv : vs[argBest (btMax (z0 :: z1)) z1.length]? = some v := hv
      rw [hi] at hv
      obtain ⟨d, hd2, rd⟩ := RepL.at ra hv
      rw [hd] at hd2
      cases hd2
      exact Kn.val h rd
    · exact .inl (vn_max2 w st _ xs Q F rp h)
  · exact .inl (vn_max2 w st _ xs Q F rp h)

def maxDf (d : Int) : List Int → Int
  | [] => d
  | x :: xs => xs.foldl max x
def gMaxDf (d : Int) : List (List D) → List D → Res R := fun _ ds => match ds with
  | [.lst xs] => (optR (xs.mapM i1)).bind fun is => .ok (.val (.int (maxDf d is)))
  | _ => .stuck
def rMaxDf (K : PySem.W.Frag) (d : Int) : List V → Hp → VK → Prop := fun vs H Q => ∃ (a : Addr) (is : List Int), vs = [.ref a] ∧ SqL K H a (is.map V.int) ∧ Q (.int (maxDf d is)) H
theorem dpInts {K : PySem.W.Frag} {H : Hp} : ∀ is : List Int, DpAll K H (is.map V.int) (is.map PyData.int)
  | [] => .nil
  | i :: is => .cons (.int i) (dpInts is)
theorem alikeInts (is : List Int) : PySem.W.AlikeAll (is.map PyData.int) := by
  refine ⟨fun x hx y hy => ?_, fun x hx e => ?_⟩
  · obtain ⟨a, _, rfl⟩ := List.mem_map.mp hx
    obtain ⟨b, _, rfl⟩ := List.mem_map.mp hy
    rfl
  · obtain ⟨a, _, rfl⟩ := List.mem_map.mp hx
    cases e
theorem depInts : ∀ is : List Int, PyData.depthAll (is.map PyData.int) = 0
  | [] => rfl
  | i :: is => by
    show max 0 (PyData.depthAll (is.map PyData.int)) = 0
    rw [depInts is]
    rfl
theorem cr_maxDf {n : Nat} (hr : Room n X.A) (d : Int) : CallRK X (.builtin "max") [Str.ofString "default"] (fun vs zs H Q => zs = [.int d] ∧ rMaxDf X.K d vs H Q) := by
  intro pins s σ H vs zs us ws Q I r rz h
  obtain ⟨rfl, a, is, rfl, hs, q⟩ := h
  obtain ⟨its, rv, hl, hz⟩ := I.list hs
  obtain rfl := Vals.ref1 r
  obtain ⟨w1, rfl, t, e1⟩ := vals1 rz
  subst e1
  obtain ⟨as, hra⟩ := Dp.readsAll I _ _ its (dpInts is) rv
  refine PySem.W.max_list_default (vs := its.toArray) (xs := is.map PyData.int) hr.hd hl.isList (by simpa using hra) (alikeInts is) ?_ (fun e h' tk hk => ?_) fun y ys i v h' tk bs e hv rd hk => ?_
  · rw [depInts]
    have := hr.un
    omega
  · have : is = [] := by simpa using e
    subst this
    exact ⟨.int d, H, I.kept hk, ⟨_, rfl⟩, q⟩
  · cases is with
    | nil => cases e
    | cons x is =>
      rw [List.map_cons, List.cons.injEq] at e
      obtain ⟨rfl, rfl⟩ := e
      rw [PySem.W.maxD_ints] at rd
      cases rd
      exact ⟨.int _, H, I.kept hk, ⟨_, rfl⟩, q⟩
theorem vn_maxDf (d : Int) : VN g (gMaxDf d) (rMaxDf g.K d) := by
  intro w st ds xs Q F rp h
  unfold gMaxDf at h
  split at h
  · obtain ⟨x, rfl, rx⟩ := pps1 rp
    rw [Res.sat_bind] at h
    obtain ⟨is, e, h⟩ := optR_ok h
    obtain ⟨a, vs, rfl, ha, ra⟩ := rx.lst
    have e' := i1_rep e ra
    subst e'
    exact ⟨a, is, rfl, SqL.of ha, Kn.val (g := g) (d := .int _) h rfl⟩
  · exact h.elim
def tMaxDf (K : PySem.W.Frag) (d : Int) (t : TA) : TE := tCKw (fun vs zs H Q => zs = [.int d] ∧ rMaxDf K d vs H Q) t (tCons (tC (.int d)) tNil)
theorem pe_maxDf {n : Nat} {e : Expr} {p pos cp kp : Pos} {t : TA} {d : Int} {j : Nat} (hr : Room n X.A) (hg : Gl X "max") (hm : X.mg "max" = none) (ha : PA X [e] t) (hs : notStar e = true) :
    PE X (.Call (.Name "max" p) [e] [⟨some "default", .Constant (.int d) j cp, kp⟩] pos) (tMaxDf X.K d t) :=
  pe_callBK (x := "max") (p := p) (pos := pos) (e := e) (es := []) (kws := [⟨some "default", .Constant (.int d) j cp, kp⟩]) (ks := [Str.ofString "default"]) (cr_maxDf hr d) hg hm (by decide +kernel) ha (pk_cons pe_int pk_nil) (by decide) (by decide) (by rw [star_cons hs]; rfl) (by rw [star_cons hs]; rfl)
theorem tMaxDf_le {C : Cl} {σ : Tv} {H : Hp} {Q : VK} {d : Int} {f : SE} (h : tE g C (opE (gMaxDf d) [f]) σ H Q) : tMaxDf g.K d (tOps g C [f]) σ H Q := by
  obtain ⟨c, w, fv, s, rfl, S, h⟩ := tOpE_le (vn_maxDf (g := g) d) h
  exact ⟨c, w, fv, s, rfl, S, h.mono fun p h vs w1 A rs => ⟨rfl, h vs w1 A rs⟩⟩
end
end Ev
set_option Elab.async false
set_option maxRecDepth 100000
set_option maxHeartbeats 2000000
namespace Ev
open PySem PySem.Spec PyProof.Rows L2
set_option autoImplicit false
/-- bounds that no tactic shall look into -/
def rcOk (i j k : Int) : Bool := Nat.ble i.natAbs 1000000000 && Nat.ble j.natAbs 1000000000 && Nat.ble k.natAbs 1000000000 && !Nat.beq k.natAbs 0
theorem rcOk_iff {i j k : Int} : rcOk i j k = true ↔ (-1000000000 ≤ i ∧ i ≤ 1000000000) ∧ (-1000000000 ≤ j ∧ j ≤ 1000000000) ∧ (-1000000000 ≤ k ∧ k ≤ 1000000000) ∧ k ≠ 0 := by
  unfold rcOk
  rw [Bool.and_eq_true, Bool.and_eq_true, Bool.and_eq_true, Nat.ble_eq, Nat.ble_eq, Nat.ble_eq]
  have : (!Nat.beq k.natAbs 0) = true ↔ k.natAbs ≠ 0 := by
    rw [Bool.not_eq_true', ← Bool.not_eq_true, Nat.beq_eq]
  rw [this]
  omega
def rcN (i j k : Int) : Nat := (Builtin.Range.rangeSize i j k).toNat
def rng3F (f g h : SE) : SI := fun C s => (f C s).bind fun (r, s1) => (int1 r).bind fun i => (g C s1).bind fun (r2, s2) => (int1 r2).bind fun j => (h C s2).bind fun (r3, s3) => (int1 r3).bind fun k =>
  if rcOk i j k = true then .ok (rngL i (rcN i j k) k, s3) else .stuck
theorem rc_small {i j k : Int} (h : rcOk i j k = true) : RgC i j k (rcN i j k) := by
  obtain ⟨⟨h1, h2⟩, ⟨h3, h4⟩, ⟨h5, h6⟩, h7⟩ := rcOk_iff.mp h
  have e := rangeSize_toNat i j k
  have l := rangeSize_toNat_le i j k
  have hn : rcN i j k = (Builtin.Range.rangeSize i j k).toNat := rfl
  have hm : Builtin.Range.rangeSize i j k ≤ 2000000000 := by
    omega
  have h0 : 0 ≤ Builtin.Range.rangeSize i j k := by omega
  refine ⟨h7, by omega, ?_, e⟩
  unfold Builtin.Range.small
  generalize Builtin.Range.rangeSize i j k = n at *
  have ft : ∀ x : Int, -9000000000 ≤ x → x ≤ 9000000000 → Builtin.Range.rangeFitsLong x = true := fun x h1 h2 => by
    unfold Builtin.Range.rangeFitsLong
    rw [Bool.and_eq_true, decide_eq_true_eq, decide_eq_true_eq]
    omega
  rw [ft i (by omega) (by omega), ft j (by omega) (by omega), ft k (by omega) (by omega), ft n (by omega) (by omega), ft (j + (k - 1)) (by omega) (by omega), ft (j + (k + 1)) (by omega) (by omega)]
  simp
section
variable {X : Cx} {g : Cg} {C : Cl} {σ : Tv} {w : W}
theorem itOk_rngC {lo c : Int} {n : Nat} : ItOk g (Itc lo c n) (rngL lo n c) w := by
  have hl : (rngL lo n c).length = n := by simp [rngL]
  have wk := walk_rangeC (lo := lo) (c := c) (n := (rngL lo n c).length)
  rw [hl] at wk
  refine ⟨_, _, by rw [hl]; exact wk, fun w2 _ => trivial, fun i w2 x H' hi _ _ y => ?_⟩
  obtain ⟨hx, e⟩ := y
  subst e hx
  rw [hl] at hi
  refine ⟨w2, .int (lo + (i : Int) * c), rfl, Ext.refl _, ?_, rfl⟩
  unfold rngL
  rw [List.getElem?_map, List.getElem?_range hi]
  simp
theorem tI_rng3 {f k l : SE} {H : Hp} {R : It → Hp → Prop} (h : tI g C (rng3F f k l) σ H R) : iRng3 (tCons (tE g C f) (tCons (tE g C k) (tCons (tE g C l) tNil))) σ H R := by
  obtain ⟨c, w, fv, s, rfl, S, h⟩ := h
  unfold rng3F at h
  rw [Res.sat_bind] at h
  refine ⟨c, w, fv, s, rfl, S, h.mono fun p h v w1 A r => ?_⟩
  obtain ⟨r0, s1⟩ := p
  rw [Res.sat_bind] at h
  obtain ⟨i, h, _, e⟩ := int1_ok r h
  subst e
  rw [Res.sat_bind] at h
  refine ⟨c, w1, fv, s1, rfl, A.sim, h.mono fun p h v w2 A2 r => ?_⟩
  obtain ⟨r1, s2⟩ := p
  rw [Res.sat_bind] at h
  obtain ⟨j, h, _, e⟩ := int1_ok r h
  subst e
  rw [Res.sat_bind] at h
  refine ⟨c, w2, fv, s2, rfl, A2.sim, h.mono fun p h v w3 A3 r => ?_⟩
  obtain ⟨r2, s3⟩ := p
  rw [Res.sat_bind] at h
  obtain ⟨k, h, _, e⟩ := int1_ok r h
  subst e
  obtain ⟨hz, h⟩ := Res.sat_ite _ _ h
  exact ⟨i, j, k, _, rfl, rc_small hz, h _ w3 ((A.trans A2).trans A3) itOk_rngC⟩
end
end Ev
set_option Elab.async false
set_option maxRecDepth 100000
set_option maxHeartbeats 2000000
namespace Ev
open PySem PySem.Spec PyProof.Rows L2
set_option autoImplicit false
def gRevX : List (List D) → List D → Res R := fun st ds => match ds with
  | [.tup _ xs] => .ok (.val (.tup (sHd xs.reverse) xs.reverse))
  | _ => gRev st ds
section
variable {prog : Program} {w : World} {A : Around} {E : Value → Shared → Prop} {s : Shared}
theorem adjust_rev (n : Nat) : Builtin.Slice.sliceAdjust none none (-1) (n : Int) = ((n : Int) - 1, -1) := by
  unfold Builtin.Slice.sliceAdjust
  simp
theorem places_rev (n : Nat) : Builtin.Slice.slicePlaces ((n : Int) - 1) (-1) (-1) = n := by
  unfold Builtin.Slice.slicePlaces
  have h1 : ¬ ((-1 : Int) > 0) := by omega
  simp only [h1, if_false]
  have h2 : -(-1 : Int) = 1 := rfl
  rw [h2, Int.ediv_one]
  split <;> omega
theorem pick_rev (xs : Array Value) : ((List.range xs.size).filterMap fun (k : Nat) => xs[(((xs.size : Nat) : Int) - 1 + (k : Int) * (-1)).toNat]?) = xs.toList.reverse := by
  have e : ∀ k ∈ List.range xs.size, xs[(((xs.size : Nat) : Int) - 1 + (k : Int) * (-1)).toNat]? = some (xs.toList.reverse[k]?.getD .none) := fun k hk => by
    have hk := List.mem_range.mp hk
    have e1 : (((xs.size : Nat) : Int) - 1 + (k : Int) * (-1)).toNat = xs.size - 1 - k := by omega
    have hl : k < xs.toList.reverse.length := by simpa using hk
    rw [e1, List.getElem?_eq_getElem hl]
    have hl2 : xs.size - 1 - k < xs.size := by omega
    rw [Array.getElem?_eq_getElem hl2]
    simp
  have : (List.range xs.size).filterMap (fun (k : Nat) => xs[(((xs.size : Nat) : Int) - 1 + (k : Int) * (-1)).toNat]?) = (List.range xs.size).map fun k => xs.toList.reverse[k]?.getD .none := by
    have go : ∀ l : List Nat, (∀ k ∈ l, k ∈ List.range xs.size) → l.filterMap (fun (k : Nat) => xs[(((xs.size : Nat) : Int) - 1 + (k : Int) * (-1)).toNat]?) = l.map fun k => xs.toList.reverse[k]?.getD .none := by
      intro l
      induction l with
      | nil => intro _; rfl
      | cons k l ih =>
        intro h
        rw [List.filterMap_cons, e k (h k List.mem_cons_self), List.map_cons, ih fun j hj => h j (List.mem_cons_of_mem _ hj)]
    exact go _ fun _ h => h
  rw [this]
  apply List.ext_getElem?
  intro i
  rw [List.getElem?_map]
  by_cases h : i < xs.size
  · rw [List.getElem?_range h]
    have hl : i < xs.toList.reverse.length := by simpa using h
    show some (xs.toList.reverse[i]?.getD .none) = _
    rw [List.getElem?_eq_getElem hl]
    rfl
  · rw [List.getElem?_eq_none (by simpa using h), List.getElem?_eq_none (by simpa using h)]
    rfl
theorem sliceApplied_rev {sl : Addr} {vl vu vs : Value} {n : Nat} {Q : Int × Int × Nat → Shared → Prop} (hs : s.heap.IsSliceOf sl vl vu vs) (pl : IsPart vl none) (pu : IsPart vu none) (ps : IsPart vs (some (-1)))
    (h : Q ((n : Int) - 1, -1, n) s) : wpAny (model prog w) A (Builtin.Slice.sliceApplied (.ref sl) (pure (n : Int))) Q E s := by
  obtain ⟨os, hos, hcs, hds⟩ := id hs
  unfold Builtin.Slice.sliceApplied Builtin.Slice.sliceFields
  refine wpAny_bind (wpAny_bind (wpAny_field hos hds (x := vl) rfl (wpAny_bind (wpAny_field hos hds (x := vu) rfl (wpAny_bind (wpAny_field hos hds (x := vs) rfl (wpAny_pure ?_)))))))
  refine wpAny_bind (HT.slicePart_ ps ?_)
  show wpAny _ _ (if ((-1 : Int) == 0) = true then _ else _) _ _ s
  rw [if_neg (by decide)]
  refine wpAny_bind (HT.slicePart_ pl (wpAny_bind (HT.slicePart_ pu (wpAny_bind (wpAny_pure ?_)))))
  show wpAny _ _ (match Builtin.Slice.sliceAdjust none none (-1) (n : Int) with | (lo, hi) => pure (lo, (-1 : Int), Builtin.Slice.slicePlaces lo hi (-1))) _ _ s
  rw [adjust_rev n]
  show wpAny _ _ (pure ((n : Int) - 1, (-1 : Int), Builtin.Slice.slicePlaces ((n : Int) - 1) (-1) (-1))) _ _ s
  rw [places_rev]
  exact wpAny_pure h
theorem getItem_tuple_rev {t sl : Addr} {items : Array Value} {vl vu vs : Value} {Q : Value → Shared → Prop} (ht : IsTup s.heap t items) (hs : s.heap.IsSliceOf sl vl vu vs) (pl : IsPart vl none) (pu : IsPart vu none) (ps : IsPart vs (some (-1)))
    (h : Q (.ref s.heap.objs.size) { s with heap := s.heap.push { cls := .type "tuple", data := .seq items.toList.reverse.toArray } })
    (hsz : items.size ≤ sizeLine) : wpAny (model prog w) A (getItem (.ref t) (.ref sl)) Q E s := by
  have htake : sizeOk (.seq items.toList.reverse.toArray) := by
    show items.toList.reverse.toArray.size ≤ sizeLine
    rw [List.size_toArray, List.length_reverse, Array.length_toList]
    exact hsz
  obtain ⟨os, hos, hcs, hds⟩ := id hs
  have hTs : s.TypeIs (.ref sl) "slice" := ⟨os, hos, hcs⟩
  unfold getItem
  try with_reducible refine wpAny_holding ?_
  first | refine wpAny_bind (wpAny_pure ?_) | skip
  refine wpAny_bind (wpAny_sequenceKey ht.typeIs (by decide) ?_)
  refine wpAny_bind (wpAny_callSpecial?_slot (name := Str.ofString "__getitem__") ht.typeIs PyProof.Rows.slot_tuple_getitem
    (wpAny_call_entry PyProof.Rows.slot_tuple_getitem ht.typeIs entry_tuple_getitem ?_ (args_tuple_getitem _ _)))
  show wpAny _ _ (Builtin.Tuple.tupleItemsOf (.ref t) >>= _) _ _ s
  refine wpAny_bind (tupleItemsOf_ ht ?_)
  refine wpAny_bind (wpAny_typeOf hTs ?_)
  rw [if_pos (by decide)]
  refine wpAny_bind (sliceApplied_rev hs pl pu ps ?_)
  have hno : ¬ ((((items.size : Nat) : Int) - 1 == 0 && (-1 : Int) == 1 && items.size == items.size) = true) := by
    intro q
    rw [Bool.and_eq_true, Bool.and_eq_true] at q
    exact absurd (eq_of_beq q.1.2) (by decide)
  show wpAny _ _ (if ((((items.size : Nat) : Int) - 1 == 0 && (-1 : Int) == 1 && items.size == items.size) = true) then _ else _) _ _ s
  rw [if_neg hno, pick_rev]
  first
    | exact wpAny_bind (m := Builtin.Tuple.tupleExact _) (wpAny_newObj_type (wpAny_pure ⟨_, rfl, wpAny_pure h⟩) htake)
    | exact wpAny_bind (m := Builtin.Tuple.tupleExact _) (wpAny_newObj_type (wpAny_bind (wpAny_pure (wpAny_pure ⟨_, rfl, wpAny_pure h⟩))) htake)
    | exact wpAny_bind (wpAny_bind (m := Builtin.Tuple.tupleExact _) (wpAny_newObj_type (wpAny_pure (wpAny_pure ⟨_, rfl, wpAny_pure h⟩)) htake))
    | exact wpAny_bind (wpAny_bind (m := Builtin.Tuple.tupleExact _) (wpAny_newObj_type (wpAny_pure ⟨_, rfl, wpAny_pure h⟩) htake))
end
section
variable {X : Cx} {g : Cg} {C : Cl} {σ : Tv}
def tRevA (K : PySem.W.Frag) (te : TE) : TE := fun σ H Q => te σ H fun x H1 => (∃ a xs, x = .ref a ∧ SqL K H1 a xs ∧ ∀ p, H1 p = none → Q (.ref p) (upd H1 p (.lst xs.reverse))) ∨
  ∃ a xs, x = .ref a ∧ SqT K H1 a xs ∧ ∀ p o, H1 p = none → o.dict = none → Q (.ref p) (upd H1 p (.frz o (.tup xs.reverse)))
theorem pe_revA {e : Expr} {te : TE} {k : Nat} {p1 p2 p3 pos : Pos} (he : PE X e te) : PE X (.Subscript e (.Slice none none (some (.UnaryOp .USub (.Constant (.int 1) k p1) p2)) p3) pos) (tRevA X.K te) := by
  refine ⟨fun pins s σ H Q I h => ?_⟩
  refine Subscript_ (thn (he.run pins s σ H _ I h) fun v s1 ⟨x, H1, I1, r1, q1⟩ => ?_)
  have hst : PO X (some (.UnaryOp .USub (.Constant (.int 1) k p1) p2)) (tPart (tUn (rU fun i => .int (-i)) (tC (.int 1)))) := po_some (pe_un un_neg pe_int)
  refine wpAny_Slice (thn (po_none.run pins s1 σ H1 (fun o H2 => o = none ∧ H2 = H1) I1 ⟨rfl, rfl⟩) fun vl s2 ⟨l, H2, I2, pl, el, e2⟩ => ?_)
  subst el e2
  refine thn (po_none.run pins s2 σ H2 (fun o H3 => o = none ∧ H3 = H2) I2 ⟨rfl, rfl⟩) fun vu s3 ⟨u, H3, I3, pu, eu, e3⟩ => ?_
  subst eu e3
  refine thn (hst.run pins s3 σ H3 (fun o H4 => o = some (-1) ∧ H4 = H3) I3 ⟨1, rfl, -1, rfl, rfl, rfl⟩) fun vs s4 ⟨o, H4, I4, ps, eo, e4⟩ => ?_
  subst eo e4
  have I5 : Inv X pins σ H4 { s4 with heap := s4.heap.push { cls := .type "slice", data := .fields #[vl, vu, vs] } } := I4.kept (t' := s4.toks) fun b ob q => Heap.get?_push_of_some _ q
  rcases q1 with ⟨a, xs, ex, hx, q⟩ | ⟨a, xs, ex, hx, q⟩
  · subst ex
    cases r1
    obtain ⟨its, r, ht, hz⟩ := I5.list hx
    have hlen := r.length
    show wpAny (model X.prog X.w) X.A (subscriptTail e (.Slice none none (some (.UnaryOp .USub (.Constant (.int 1) k p1) p2)) p3) (.ref a) (.ref s4.heap.objs.size)) (EP X pins σ Q) X.xe { s4 with heap := s4.heap.push { cls := .type "slice", data := .fields #[vl, vu, vs] } }
    refine tail_any (ops := [.ref a, .ref s4.heap.objs.size]) ht.isList.typeIs (PySem.slot_list_getitem.lookup) ?_ (by with_unfolding_all rfl)
    refine wpAny_getItem_list_slice ht.isList (Heap.IsSliceOf.new _ vl vu vs) pl pu ps (by decide) ?_ (by rw [List.size_toArray]; omega)
    rw [PySem.W.krv_pick]
    refine ⟨.ref _, _, I5.laid (t' := s4.toks) (o := .lst xs.reverse) (fun b ob q => Heap.get?_push_of_some _ q) (Nat.le_refl _) ?_, rfl, q _ (I5.hok.fresh (Nat.le_refl _))⟩
    exact ⟨by rw [List.length_reverse]; exact hz, _, 0, r.reverse, Heap.get?_push_size _ rfl⟩
  · subst ex
    cases r1
    obtain ⟨its, r, ht, hz⟩ := I5.tuple hx
    have hlen := r.length
    show wpAny (model X.prog X.w) X.A (subscriptTail e (.Slice none none (some (.UnaryOp .USub (.Constant (.int 1) k p1) p2)) p3) (.ref a) (.ref s4.heap.objs.size)) (EP X pins σ Q) X.xe { s4 with heap := s4.heap.push { cls := .type "slice", data := .fields #[vl, vu, vs] } }
    refine tail_any (ops := [.ref a, .ref s4.heap.objs.size]) ht.typeIs (PyProof.Rows.slot_tuple_getitem.lookup) ?_ (by with_unfolding_all rfl)
    refine getItem_tuple_rev ht (Heap.IsSliceOf.new _ vl vu vs) pl pu ps ?_ (by rw [List.size_toArray]; omega)
    refine ⟨.ref _, _, I5.laid (t' := s4.toks) (o := .frz _ (.tup xs.reverse)) (fun b ob q => Heap.get?_push_of_some _ q) (Nat.le_refl _) ⟨Heap.get?_push_size _ rfl, ?_⟩, rfl, q _ _ (I5.hok.fresh (Nat.le_refl _)) rfl⟩
    exact (show ObjOk X.prog X.w _ _ _ (.tup xs.reverse) from ⟨by rw [List.length_reverse]; exact hz, _, r.reverse, IsTup.new _ _⟩)
theorem repL_rev {w : W} : ∀ {ds : List D} {vs : List V}, RepL g w ds vs → RepL g w ds.reverse vs.reverse := by
  intro ds
  induction ds with
  | nil =>
    intro vs r
    unfold RepL at r
    subst r
    unfold RepL
    rfl
  | cons d ds ih =>
    intro vs r
    unfold RepL at r
    obtain ⟨v, t, rfl, h1, h2⟩ := r
    rw [List.reverse_cons, List.reverse_cons]
    refine (ih h2).append ?_
    unfold RepL
    exact ⟨v, [], rfl, h1, rfl⟩
theorem tRevA_le {f : SE} {H : Hp} {Q : VK} (h : tE g C (opE gRevX [f]) σ H Q) : tRevA g.K (tE g C f) σ H Q := by
  have h := tOpE_le (g := g) (r := fun xs H Q => (∃ a xs', xs = [.ref a] ∧ SqL g.K H a xs' ∧ ∀ p, H p = none → Q (.ref p) (upd H p (.lst xs'.reverse))) ∨
    ∃ a xs', xs = [.ref a] ∧ SqT g.K H a xs' ∧ ∀ p o, H p = none → o.dict = none → Q (.ref p) (upd H p (.frz o (.tup xs'.reverse)))) (fun w st ds xs Q F rp h => ?_) h
  · obtain ⟨c, w, fv, s, rfl, S, h⟩ := tOps_cons h
    refine ⟨c, w, fv, s, rfl, S, h.mono fun p h v w1 A r => ?_⟩
    rcases tOps_nil (h v w1 A r) with ⟨a, xs', e, hq, q⟩ | ⟨a, xs', e, hq, q⟩
    · exact .inl ⟨a, xs', by simpa using e, hq, q⟩
    · exact .inr ⟨a, xs', by simpa using e, hq, q⟩
  · unfold gRevX at h
    split at h
    · obtain ⟨x, rfl, rx⟩ := pps1 rp
      obtain ⟨a, vs, rfl, na, ra, rA⟩ := rx.tup
      refine .inr ⟨a, vs, rfl, na.sq, fun p o hp hd => ?_⟩
      refine h (.ref p) _ (ext_newF hp) ?_
      show Rep g _ (.tup (sHd _) _) _
      unfold Rep
      exact ⟨p, vs.reverse, rfl, .inl ⟨.inr rfl, o, upd_same, fun _ => hd⟩, RepL.le ((ext_newF hp).le F.fz) (repL_rev ra)⟩
    · unfold gRev at h
      split at h
      · obtain ⟨x, rfl, rx⟩ := pps1 rp
        obtain ⟨a, vs, rfl, ha, ra⟩ := rx.lst
        exact .inl ⟨a, vs, rfl, SqL.of ha, Kn.lst F h (repL_rev ra)⟩
      · exact h.elim
end
end Ev
set_option Elab.async false
set_option maxRecDepth 100000
set_option maxHeartbeats 2000000
namespace Ev
open PySem PySem.Spec PyProof.Rows L2
set_option autoImplicit false

/-- the program's tables -/
structure Gm where
  fns : List (Str × Nat × Nat)
  cls : List (Str × Nat × Nat × Nat)
  mts : List (Str × List (Nat × Nat) × Nat)
  fds : List (Str × List (Nat × Nat))
  cel : List Str
  bls : List Str
  kws : List ((Str × List Str) × Nat × List Nat)
  cst : List (Str × Int)
/-- a def's (or a block's) names -/
structure Lc where
  N : List Str
  sc : Scope
  fn : Str → Bool
  slf : Option Nat
  mu : List Str
structure PrgOk (P : Program) (w : World) (K : PySem.W.Frag) (mg : Str → Option Value) (base : Heap) (g : Cg) (C : Cl) (k : Nat) (Γ : Gm) : Prop where
  hK : K = g.K
  fns : ∀ x i a, Γ.fns.lookup x = some (i, a) → ∃ f, mg x = some (.ref f) ∧ PySem.W.keepIn K (.ref f) = true ∧ FnR P w K mg base CX0 k f (spF g a (C i))
  cls : ∀ x i a cc, Γ.cls.lookup x = some (i, a, cc) → ∃ f, L2.Mk K (g.ct cc) f ∧ mg x = some (.ref (g.ct cc)) ∧ FnR P w K mg base CX0 k f (spI g cc a (C i))
  mts : ∀ m cs a, Γ.mts.lookup m = some (cs, a) → ∀ c i, cs.lookup c = some i → SlX.SCls K (g.ct c) ∧ ∃ gf, Meth K (g.ct c) m gf ∧ FnR P w K mg base CX0 k gf (spF g a (C i))
  fds : ∀ f cs, Γ.fds.lookup f = some cs → ∀ c j, cs.lookup c = some j → SlX.SCls K (g.ct c) ∧ ∃ p, SlX.Slot1 K (g.ct c) f p j
  bls : ∀ x ∈ Γ.bls, mg x = none
  kws : ∀ x ks i pm, Γ.kws.lookup (x, ks) = some (i, pm) → ∃ f, mg x = some (.ref f) ∧ PySem.W.keepIn K (.ref f) = true ∧ FnKR P w K mg base CX0 k f ks pm (spF g pm.length (C i)) ∧ ∀ j ∈ pm, j < ks.length
  cst : ∀ x i, Γ.cst.lookup x = some i → ∃ t, mg x = some (.int i t)
structure XOk (X : Cx) (g : Cg) (C : Cl) (k : Nat) (Γ : Gm) (L : Lc) : Prop where
  pr : PrgOk X.prog X.w X.K X.mg X.base g C k Γ
  rm : Room (k + 1) X.A
  cm : X.calm = true
  N : X.N = L.N
  nd : L.N.Nodup
  sc : X.env.scope = L.sc
  fn : ∀ x, L.fn x = true → X.fn x = true
  po : PassesOwn (model X.prog X.w) X.A X.env X.xe
structure CE (Γ : Gm) (L : Lc) (e : Expr) where
  F : SE
  ok : ∀ {X : Cx} {g : Cg} {C : Cl} {k : Nat}, XOk X g C k Γ L → PE X e (tE g C F)
structure CT (Γ : Gm) (L : Lc) (e : Expr) where
  F : SE
  ok : ∀ {X : Cx} {g : Cg} {C : Cl} {k : Nat}, XOk X g C k Γ L → PT X e (tT g C F)
structure CA (Γ : Gm) (L : Lc) (es : List Expr) where
  F : List SE
  o : ∀ {X : Cx} {g : Cg} {C : Cl} {k : Nat}, XOk X g C k Γ L → PA X es (tOps g C F)
  f : ∀ {X : Cx} {g : Cg} {C : Cl} {k : Nat}, XOk X g C k Γ L → PA X es (tFzs g C F)
  m : ∀ {X : Cx} {g : Cg} {C : Cl} {k : Nat}, XOk X g C k Γ L → PA X es (tMs g C F)
  len : F.length = es.length
  ns : es.all notStar = true
/-- what is walked: as a display of the target tg -/
structure CI (Γ : Gm) (L : Lc) (tg e : Expr) where
  F : SI
  ok : ∀ {X : Cx} {g : Cg} {C : Cl} {k : Nat}, XOk X g C k Γ L → PI X tg e (tI g C F)
  fs : ∀ env x, foldedSetIterable e env x = pure x
structure CG (Γ : Gm) (L : Lc) (e : Expr) where
  F : Tg
  ok : ∀ {X : Cx} {g : Cg} {C : Cl} {k : Nat}, XOk X g C k Γ L → PG X e (gT X.K F)
  n : tgOk L.N.length F = true
structure CS (Γ : Gm) (L : Lc) (s : Stmt) where
  F : SS
  ok : ∀ {X : Cx} {g : Cg} {C : Cl} {k : Nat}, XOk X g C k Γ L → PS X s (tS g C F)
structure CB (Γ : Gm) (L : Lc) (s : List Stmt) where
  F : SS
  ok : ∀ {X : Cx} {g : Cg} {C : Cl} {k : Nat}, XOk X g C k Γ L → PSs X s (tS g C F)

section
variable {Γ : Gm} {L : Lc}
def visC (sc : Scope) (x : Str) : Bool := match sc.names.lookup x with
  | some .local => true
  | some .cell => true
  | some .free => true
  | _ => false
def locC (sc : Scope) (x : Str) : Bool := match sc.names.lookup x with
  | some .local => true
  | some .cell => true
  | _ => false
def glC (sc : Scope) (x : Str) : Bool := match sc.names.lookup x with
  | some .globalImplicit => true
  | _ => false
theorem visC_ok {sc : Scope} {x : Str} (h : visC sc x = true) : Vis sc x := by
  unfold visC at h
  unfold Vis
  split at h <;> first | exact .inl (by assumption) | exact .inr (.inl (by assumption)) | exact .inr (.inr (by assumption)) | cases h
theorem locC_ok {sc : Scope} {x : Str} (h : locC sc x = true) : L2.Loc sc x := by
  unfold locC at h
  unfold L2.Loc
  split at h <;> first | exact .inl (by assumption) | exact .inr (by assumption) | cases h
theorem glC_ok {X : Cx} {x : Str} (h : glC X.env.scope x = true) : Gl X x := by
  unfold glC at h
  unfold Gl
  split at h
  · assumption
  · cases h
def stC (L : Lc) (x : Str) : Bool := L.fn x || (match L.sc.names.lookup x with | some .local => true | _ => false)
theorem stC_ok {X : Cx} {g : Cg} {C : Cl} {k : Nat} (O : XOk X g C k Γ L) {x : Str} (h : stC L x = true) : X.fn x = true ∨ X.env.scope.names.lookup x = some .local := by
  unfold stC at h
  rw [Bool.or_eq_true] at h
  rcases h with h | h
  · exact .inl (O.fn x h)
  · rw [O.sc]
    right
    split at h
    · assumption
    · cases h
def slot (N : List Str) (x : Str) : Nat := (N.findIdx? (· == x)).getD N.length
theorem slot_lt {X : Cx} {g : Cg} {C : Cl} {k : Nat} (O : XOk X g C k Γ L) {i : Nat} {x : Str} (h : L.N[i]? = some x) {σ : Tv} (hl : σ.length = X.N.length) : i < σ.length := by
  rw [hl, O.N]
  exact (List.getElem?_eq_some_iff.mp h).1
def ceName (x : Str) (pos : Pos) : Option (CE Γ L (.Name x pos)) :=
  let i := slot L.N x
  if h : L.N[i]? = some x ∧ visC L.sc x = true ∧ (x == ("__debug__" : Str)) = false ∧ (x == ("__classdict__" : Str)) = false then
    some ⟨varF i, fun {X g C k} O => PEn (pe_var (i := i) (by rw [O.N]; exact h.1) (by rw [O.sc]; exact visC_ok h.2.1) h.2.2.1 h.2.2.2) fun σ H Q hl q => tVar_le (slot_lt O h.1 hl) q⟩
  else none
/-- a module's number -/
def ceCst (x : Str) (pos : Pos) : Option (CE Γ L (.Name x pos)) := match hl : Γ.cst.lookup x with
  | some i => if h : glC L.sc x = true ∧ (x == ("__debug__" : Str)) = false then
      some ⟨cstF (.int i), fun {X g C k} O => by
        obtain ⟨t, hm⟩ := O.pr.cst x i hl
        exact PEm (pe_glob (v := .int i) (by rw [← O.sc] at h; exact glC_ok h.1) hm ⟨t, rfl⟩ h.2) fun σ H Q q => tC_le (fun w => by unfold Rep; rfl) q⟩
    else none
  | none => none
def ceConst (c : Const) (j : Nat) (pos : Pos) : Option (CE Γ L (.Constant c j pos)) := match c with
  | .int i => some ⟨cstF (.int i), fun {X g C k} O => PEm pe_int fun σ H Q q => tC_le (fun w => by unfold Rep; rfl) q⟩
  | .bool b => some ⟨cstF (.bl b), fun {X g C k} O => PEm pe_bl fun σ H Q q => tC_le (fun w => by unfold Rep; rfl) q⟩
  | .none => some ⟨cstF .non, fun {X g C k} O => PEm pe_non fun σ H Q q => tC_le (fun w => by unfold Rep; rfl) q⟩
  | .str s => if h : PyData.strOk s = true then some ⟨cstF (.str s), fun {X g C k} O => PEm pe_str fun σ H Q q => tC_le (fun w => by unfold Rep; exact ⟨rfl, h⟩) q⟩ else none
  | _ => none

def caList (r : (e : Expr) → Option (CE Γ L e)) : (es : List Expr) → Option (CA Γ L es)
  | [] => some ⟨[], fun {X g C k} O => PAm pa_nil fun σ H Q q => tOps_nil q, fun {X g C k} O => PAm pa_nil fun σ H Q q => tFzs_nil q, fun {X g C k} O => PAm pa_nil fun σ H Q q => tMs_nil q, rfl, rfl⟩
  | e :: es => match r e, caList r es with
    | some a, some b => if h : notStar e = true then
        some ⟨a.F :: b.F, fun {X g C k} O => PAm (pa_cons (a.ok O) (b.o O) (star_cons h _ _)) fun σ H Q q => tOps_cons q, fun {X g C k} O => PAm (pa_cons (a.ok O) (b.f O) (star_cons h _ _)) fun σ H Q q => tFzs_cons q,
          fun {X g C k} O => PAm (pa_cons (a.ok O) (b.m O) (star_cons h _ _)) fun σ H Q q => tMs_cons q, by simp [b.len], by simp [h, b.ns]⟩
      else none
    | _, _ => none
def ceTup (es : List Expr) (j : Nat) (pos : Pos) (a : CA Γ L es) : CE Γ L (.Tuple es j pos) := ⟨tupF a.F, fun {X g C k} O => PEm (pe_tupF (a.f O)) fun σ H Q q => tTup_le q⟩
def ceLst (es : List Expr) (pos : Pos) (a : CA Γ L es) : CE Γ L (.List es pos) := ⟨lstF a.F, fun {X g C k} O => PEm (pe_lst (a.f O)) fun σ H Q q => tLst_le q⟩

structure BO (op : Operator) where
  f : List (List D) → List D → Res R
  r : PySem.W.Frag → R2
  vn : ∀ g : Cg, VN g f (r2 (r g.K))
  op : ∀ X : Cx, OpR X (binaryOp op) (r X.K)
def boOf : (op : Operator) → Option (BO op)
  | .Add => some ⟨gAdd, rAddA, fun g => vn_add, fun X => op_addA⟩
  | .Sub => some ⟨gSub, fun _ => rI0 fun i j => .int (i - j), fun g => vn_sub, fun X => op_sub⟩
  | .Mult => some ⟨gMul, rMulB, fun g => vn_mul, fun X => op_mulB⟩
  | .FloorDiv => some ⟨gDiv, fun _ => rI CDiv fun i j => .int (i / j), fun g => vn_div, fun X => op_fdiv⟩
  | .Mod => some ⟨gMod, fun _ => rI (fun _ j => 0 < j) fun i j => .int (i % j), fun g => vn_mod, fun X => op_mod⟩
  | .Pow => some ⟨gPow, fun _ => rI CPow fun i j => .int (i ^ j.toNat), fun g => vn_pow, fun X => op_pow⟩
  | _ => none
def ceBin (a b : Expr) (op : Operator) (pos : Pos) (A : CE Γ L a) (B : CE Γ L b) : Option (CE Γ L (.BinOp a op b pos)) := match boOf op with
  | some o => some ⟨opE o.f [A.F, B.F], fun {X g C k} O => PEm (pe_op (o.op X) (A.ok O) (B.ok O)) fun σ H Q q => by rw [O.pr.hK]; exact tOp_le (o.vn g) q⟩
  | none => none
structure CO (op : CmpOp) where
  f : List (List D) → List D → Res R
  r : PySem.W.Frag → R2
  vn : ∀ g : Cg, VN g f (r2 (r g.K))
  op : ∀ (X : Cx) (k : Nat), Room k X.A → OpR X (compareOp op) (r X.K)
def rEqA (neg : Bool) (K : PySem.W.Frag) : R2 := fun x y H Q => ∃ d e, Dp K H x d ∧ Dp K H y e ∧ SeqAt.shaped d = true ∧ SeqAt.shaped e = true ∧ Q (.bl (if neg then !PyData.eqv d e else PyData.eqv d e)) H
def coOf : (op : CmpOp) → Option (CO op)
  | .Eq => some ⟨gEq false, rEqA false, fun g => vn_eq false, fun X k r => op_eqA r false⟩
  | .NotEq => some ⟨gEq true, rEqA true, fun g => vn_eq true, fun X k r => op_eqA r true⟩
  | .Lt => some ⟨gLt, fun _ => rLtA, fun g => vn_lt, fun X k r => op_ltA⟩
  | .LtE => some ⟨gLe, fun _ => rI0 fun i j => .bl (decide (i ≤ j)), fun g => vn_le, fun X k r => op_le⟩
  | .Gt => some ⟨gGt, fun _ => rI0 fun i j => .bl (decide (j < i)), fun g => vn_gt, fun X k r => op_gt⟩
  | .GtE => some ⟨gGe, fun _ => rI0 fun i j => .bl (decide (j ≤ i)), fun g => vn_ge, fun X k r => op_ge⟩
  | .In => some ⟨gIn false, fun K => rInA K false, fun g => vn_in false, fun X k r => op_inA r false⟩
  | .NotIn => some ⟨gIn true, fun K => rInA K true, fun g => vn_in true, fun X k r => op_inA r true⟩
  | _ => none
def noSet : Expr → Bool
  | .Set _ _ _ => false
  | _ => true
theorem noSet_ok {e : Expr} (h : noSet e = true) (op : CmpOp) : behindInMarks op e = false := by
  cases e <;> first | rfl | cases h
def ceCmp (a b : Expr) (op : CmpOp) (pos : Pos) (A : CE Γ L a) (B : CE Γ L b) : Option (CE Γ L (.Compare a [op] [b] pos)) := match coOf op with
  | some o => if h : noSet b = true then some ⟨opE o.f [A.F, B.F], fun {X g C k} O => PEm (pe_cmpR (o.op X _ O.rm) (A.ok O) (B.ok O) (noSet_ok h op)) fun σ H Q q => by rw [O.pr.hK]; exact tOp_le (o.vn g) q⟩ else none
  | none => none
def ctCmp (a b : Expr) (op : CmpOp) (pos : Pos) (A : CE Γ L a) (B : CE Γ L b) : Option (CT Γ L (.Compare a [op] [b] pos)) := match coOf op with
  | some o => if h : noSet b = true then some ⟨opE o.f [A.F, B.F], fun {X g C k} O => PTm (pt_cmpR (o.op X _ O.rm) (A.ok O) (B.ok O) (noSet_ok h op)) fun σ H Q q => by rw [O.pr.hK]; exact tOp_le (o.vn g) (tT_tB q)⟩ else none
  | none => none
def isOf : CmpOp → Option Bool
  | .Is => some false
  | .IsNot => some true
  | _ => none
theorem isOf_ok {op : CmpOp} {b : Bool} (h : isOf op = some b) : op = if b then .IsNot else .Is := by
  cases op <;> first | cases h | skip
  · rfl
  · rfl
def ceIsN (a : Expr) (op : CmpOp) (j : Nat) (p pos : Pos) (A : CE Γ L a) : Option (CE Γ L (.Compare a [op] [.Constant .none j p] pos)) := match h : isOf op with
  | some neg => some ⟨opE (gIsN neg) [A.F], fun {X g C k} O => PEm (pe_cmpR (by rw [isOf_ok h]; exact op_isA neg) (A.ok O) pe_non (noSet_ok rfl op)) fun σ H Q q => tIsN_le q⟩
  | none => none
def ctIsN (a : Expr) (op : CmpOp) (j : Nat) (p pos : Pos) (A : CE Γ L a) : Option (CT Γ L (.Compare a [op] [.Constant .none j p] pos)) := match h : isOf op with
  | some neg => some ⟨opE (gIsN neg) [A.F], fun {X g C k} O => PTm (pt_cmpR (by rw [isOf_ok h]; exact op_isA neg) (A.ok O) pe_non (noSet_ok rfl op)) fun σ H Q q => tIsN_le (tT_tB q)⟩
  | none => none
def ceIsB (a : Expr) (op : CmpOp) (b : Bool) (j : Nat) (p pos : Pos) (A : CE Γ L a) : Option (CE Γ L (.Compare a [op] [.Constant (.bool b) j p] pos)) := match h : isOf op with
  | some neg => some ⟨opE (gIsB neg b) [A.F], fun {X g C k} O => PEm (pe_cmpR (by rw [isOf_ok h]; exact op_isB neg b) (A.ok O) pe_bl (noSet_ok rfl op)) fun σ H Q q => tIsB_le q⟩
  | none => none
def ctIsB (a : Expr) (op : CmpOp) (b : Bool) (j : Nat) (p pos : Pos) (A : CE Γ L a) : Option (CT Γ L (.Compare a [op] [.Constant (.bool b) j p] pos)) := match h : isOf op with
  | some neg => some ⟨opE (gIsB neg b) [A.F], fun {X g C k} O => PTm (pt_cmpR (by rw [isOf_ok h]; exact op_isB neg b) (A.ok O) pe_bl (noSet_ok rfl op)) fun σ H Q q => tIsB_le (tT_tB q)⟩
  | none => none
theorem lastMarks_ok {o1 o2 : CmpOp} {b d : Expr} (h : noSet d = true) : lastMarks [o1, o2] [b, d] = false := by
  show behindInMarks o2 d = false
  exact noSet_ok h o2
def ceChain (a b d : Expr) (o1 o2 : CmpOp) (pos : Pos) (A : CE Γ L a) (B : CE Γ L b) (E : CE Γ L d) : Option (CE Γ L (.Compare a [o1, o2] [b, d] pos)) := match coOf o1, coOf o2 with
  | some p, some q => if h : noSet d = true then some ⟨chF p.f q.f A.F B.F E.F, fun {X g C k} O => PEm (pe_chain (p.op X _ O.rm) (q.op X _ O.rm) (A.ok O) (B.ok O) (E.ok O) (lastMarks_ok h)) fun σ H Q z => by rw [O.pr.hK]; exact tCh_le (p.vn g) (q.vn g) z⟩ else none
  | _, _ => none
def ctChain (a b d : Expr) (o1 o2 : CmpOp) (pos : Pos) (A : CE Γ L a) (B : CE Γ L b) (E : CE Γ L d) : Option (CT Γ L (.Compare a [o1, o2] [b, d] pos)) := match coOf o1, coOf o2 with
  | some p, some q => if h : noSet d = true then some ⟨chF p.f q.f A.F B.F E.F, fun {X g C k} O => PTm (pt_chain (p.op X _ O.rm) (q.op X _ O.rm) (A.ok O) (B.ok O) (E.ok O) (lastMarks_ok h)) fun σ H Q z => by rw [O.pr.hK]; exact tCh_le (p.vn g) (q.vn g) (tT_tB z)⟩ else none
  | _, _ => none
def ceNeg (a : Expr) (pos : Pos) (A : CE Γ L a) : CE Γ L (.UnaryOp .USub a pos) := ⟨opE gNeg [A.F], fun {X g C k} O => PEm (pe_un un_neg (A.ok O)) fun σ H Q q => tE_mono (fun v H z => by
  obtain ⟨i, e, z⟩ := z
  cases e
  exact ⟨i, rfl, z⟩) (tUn_le vn_neg q)⟩
def ceNot (a : Expr) (pos : Pos) (A : CE Γ L a) : CE Γ L (.UnaryOp .Not a pos) := ⟨notF A.F, fun {X g C k} O => PEm (pe_not (A.ok O)) fun σ H Q q => tNotV_le q⟩
def ctNot (a : Expr) (pos : Pos) (A : CT Γ L a) : CT Γ L (.UnaryOp .Not a pos) := ⟨notF A.F, fun {X g C k} O => PTm (pt_not (A.ok O)) fun σ H Q q => tNot_le q⟩
def isListCall : Expr → Bool
  | .Call (.Name f _) [_] [] _ => f == ("list" : Str)
  | _ => false
def ceBoolOp (r : (e : Expr) → Option (CE Γ L e)) : (op : BoolOp) → (es : List Expr) → (pos : Pos) → Option (CE Γ L (.BoolOp op es pos))
  | _, [], _ => none
  | op, [a], pos => match r a with
    | some A => some ⟨A.F, fun {X g C k} O => pe_one (A.ok O)⟩
    | none => none
  | .And, a :: b :: es, pos => match r a, ceBoolOp r .And (b :: es) pos with
    | some A, some B => some ⟨andF A.F B.F, fun {X g C k} O => PEm (pe_and (A.ok O) (B.ok O)) fun σ H Q q => tAndV_le q⟩
    | _, _ => none
  | .Or, a :: b :: es, pos => match r a, ceBoolOp r .Or (b :: es) pos with
    | some A, some B => if isListCall a then some ⟨opOr A.F B.F, fun {X g C k} O => PEm (pe_orT (A.ok O) (B.ok O)) fun σ H Q q => by rw [O.pr.hK]; exact tOr_le q⟩
      else some ⟨orF A.F B.F, fun {X g C k} O => PEm (pe_or (A.ok O) (B.ok O)) fun σ H Q q => tOrV_le q⟩
    | _, _ => none
structure CW (Γ : Gm) (L : Lc) (e : Expr) where
  F : SE
  ok : ∀ {X : Cx} {g : Cg} {C : Cl} {k : Nat}, XOk X g C k Γ L → PW X e (tT g C F)
theorem PWm {X : Cx} {e : Expr} {t t' : TT} (h : PW X e t) (k : ∀ σ H Q, t' σ H Q → t σ H Q) : PW X e t' := ⟨fun wh pins s σ H Q I q => h.run wh pins s σ H Q I (k σ H Q q)⟩
def cwBool (r : (e : Expr) → Option (CT Γ L e)) : (op : BoolOp) → (es : List Expr) → (pos : Pos) → Option (CW Γ L (.BoolOp op es pos))
  | _, [], _ => none
  | .And, [a], pos => match r a with
    | some A => some ⟨A.F, fun {X g C k} O => pw_and1 (A.ok O)⟩
    | none => none
  | .Or, [a], pos => match r a with
    | some A => some ⟨A.F, fun {X g C k} O => pw_or1 (A.ok O)⟩
    | none => none
  | .And, a :: b :: es, pos => match r a, cwBool r .And (b :: es) pos with
    | some A, some B => some ⟨andF A.F B.F, fun {X g C k} O => PWm (pw_and (A.ok O) (B.ok O)) fun σ H Q q => tAnd_le q⟩
    | _, _ => none
  | .Or, a :: b :: es, pos => match r a, cwBool r .Or (b :: es) pos with
    | some A, some B => some ⟨orF A.F B.F, fun {X g C k} O => PWm (pw_or (A.ok O) (B.ok O)) fun σ H Q q => tOrT_le q⟩
    | _, _ => none
def ceIf (t a b : Expr) (pos : Pos) (T : CT Γ L t) (A : CE Γ L a) (B : CE Γ L b) : CE Γ L (.IfExp t a b pos) := ⟨iteF T.F A.F B.F, fun {X g C k} O => PEm (pe_ifExp (T.ok O) (A.ok O) (B.ok O)) fun σ H Q q => tIf_le q⟩

def ixC : Expr → Bool
  | .Slice _ _ _ _ => false
  | _ => true
theorem ixC_ok {e : Expr} (h : ixC e = true) : PlainIx e := by
  intro o i
  cases e <;> first | rfl | cases h
def ceIx (a b : Expr) (pos : Pos) (A : CE Γ L a) (B : CE Γ L b) : Option (CE Γ L (.Subscript a b pos)) :=
  if h : ixC b = true then some ⟨opE gIx [A.F, B.F], fun {X g C k} O => PEm (pe_ix ix_A (A.ok O) (B.ok O) (ixC_ok h)) fun σ H Q q => by rw [O.pr.hK]; exact tOp_le vn_ix q⟩ else none
structure CP (Γ : Gm) (L : Lc) (e : Option Expr) where
  F : Option SE
  ok : ∀ {X : Cx} {g : Cg} {C : Cl} {k : Nat}, XOk X g C k Γ L → PO X e (tPO g C F)
def cpOf (r : (e : Expr) → Option (CE Γ L e)) : (e : Option Expr) → Option (CP Γ L e)
  | none => some ⟨none, fun {X g C k} O => po_none⟩
  | some e => match r e with
    | some A => some ⟨some A.F, fun {X g C k} O => po_some (A.ok O)⟩
    | none => none
def ceSl (a : Expr) (lo hi : Option Expr) (p pos : Pos) (A : CE Γ L a) (B : CP Γ L lo) (E : CP Γ L hi) : CE Γ L (.Subscript a (.Slice lo hi none p) pos) :=
  ⟨slF A.F B.F E.F, fun {X g C k} O => PEm (pe_slice sl_B (A.ok O) (B.ok O) (E.ok O)) fun σ H Q q => by rw [O.pr.hK]; exact tSl_le2 q⟩
def ceRev (a : Expr) (j : Nat) (p1 p2 p3 pos : Pos) (A : CE Γ L a) : CE Γ L (.Subscript a (.Slice none none (some (.UnaryOp .USub (.Constant (.int 1) j p1) p2)) p3) pos) :=
  ⟨opE gRevX [A.F], fun {X g C k} O => PEm (pe_revA (A.ok O)) fun σ H Q q => by rw [O.pr.hK]; exact tRevA_le q⟩
end
end Ev
set_option Elab.async false
set_option maxRecDepth 100000
set_option maxHeartbeats 2000000
namespace Ev
open PySem PySem.Spec PyProof.Rows L2
set_option autoImplicit false
section
variable {Γ : Gm} {L : Lc}
theorem passA {X : Cx} {E : XK} : Passes CX0 X E := fun _ _ _ _ _ _ _ h => h.elim

def stkE : SE := fun _ _ => .stuck
def ceStk (e : Expr) : CE Γ L e := ⟨stkE, fun {X g C k} O => ⟨fun pins s σ H Q I h => by
  obtain ⟨c, w, fv, s, e, S, h⟩ := h
  exact h.elim⟩⟩
def ctStk (e : Expr) : CT Γ L e := ⟨stkE, fun {X g C k} O => ⟨fun pins s σ H Q I h => by
  obtain ⟨c, w, fv, s, e, S, h⟩ := h
  exact h.elim⟩⟩
def csStk (s : Stmt) : CS Γ L s := ⟨stkF, fun {X g C k} O => ⟨fun pins sh σ H Q I h => by
  obtain ⟨c, w, fv, s, e, S, h⟩ := h
  exact h.elim⟩⟩

structure BltB where
  name : Str
  f : List (List D) → List D → Res R
  id : String
  r : PySem.W.Frag → List V → Hp → VK → Prop
  vn : ∀ g : Cg, VN g f (r g.K)
  cr : ∀ (X : Cx) (n : Nat), X.calm = true → Room n X.A → CallR X (.builtin id) (r X.K)
  bt : bootBuiltins name = some (.builtin id)
  nn : name ≠ "__name__"
  nd : (name == ("__debug__" : Str)) = false
structure BltT where
  name : Str
  f : List (List D) → List D → Res R
  T : String
  r : PySem.W.Frag → List V → Hp → VK → Prop
  vn : ∀ g : Cg, VN g f (r g.K)
  cr : ∀ X : Cx, X.calm = true → CallR X (.type T) (r X.K)
  bt : bootBuiltins name = some (.type T)
  nn : name ≠ "__name__"
  nd : (name == ("__debug__" : Str)) = false
def bLen : BltB := ⟨"len", gLen, "len", fun K xs H Q => ∃ x n, xs = [x] ∧ LenV K x H n ∧ Q (.int n) H, fun g => vn_len, fun X _ _ _ => call_len, PySem.boot_len, by decide, by decide⟩
def bSorted : BltB := ⟨"sorted", gSortX, "sorted", rSrtX, fun g => vn_sortX, fun X _ _ hr => cr_srtX hr, by decide +kernel, by decide, by decide⟩
def bAbs : BltB := ⟨"abs", gAbs, "abs", fun _ xs H Q => ∃ i, xs = [.int i] ∧ Q (.int (if i < 0 then -i else i)) H, fun g => vn_abs, fun X _ _ _ => call_abs, by decide +kernel, by decide, by decide⟩
def bMin : BltB := ⟨"min", gMinX, "min", rMinX, fun g => vn_minX, fun X _ h hr => cr_minX h hr, by decide +kernel, by decide, by decide⟩
def bMax : BltB := ⟨"max", gMaxX, "max", rMaxX, fun g => vn_maxX, fun X _ h hr => cr_maxX h hr, by decide +kernel, by decide, by decide⟩
def tList : BltT := ⟨"list", gList, "list", fun K xs H Q => ∃ p ys, xs = [.ref p] ∧ (SqL K H p ys ∨ SqT K H p ys) ∧ ∀ l, H l = none → Q (.ref l) (upd H l (.lst ys)), fun g => vn_list, fun X _ => call_list_of, by decide +kernel, by decide, by decide⟩
def tTuple : BltT := ⟨"tuple", gTuple, "tuple", rTupF, fun g => vn_tuple, fun X _ => call_tupF, by decide +kernel, by decide, by decide⟩
def tInt : BltT := ⟨"int", gInt, "int", fun _ xs H Q => (∃ i, xs = [.int i] ∧ Q (.int i) H) ∨ ∃ k, xs = [.bl k] ∧ Q (.int (if k then 1 else 0)) H, fun g => vn_int, fun X _ => call_int1, by decide +kernel, by decide, by decide⟩
def bAll : BltB := ⟨"all", gAll, "all", rAll, fun g => vn_all, fun X _ h _ => cr_all h, by decide +kernel, by decide, by decide⟩
def bAny : BltB := ⟨"any", gAny, "any", rAny, fun g => vn_any, fun X _ h _ => cr_any h, by decide +kernel, by decide, by decide⟩
def bSum : BltB := ⟨"sum", gSum, "sum", rSum, fun g => vn_sum, fun X _ h _ => cr_sum h, by decide +kernel, by decide, by decide⟩
def bltBs : List BltB := [bLen, bSorted, bAbs, bMin, bMax, bAll, bAny, bSum]
def bltTs : List BltT := [tList, tTuple, tInt]
theorem mem_of_contains {l : List Str} {x : Str} (h : l.contains x = true) : x ∈ l := by simpa using h
def ceBltB (b : BltB) (x : Str) (p pos : Pos) (es : List Expr) (a : CA Γ L es) : Option (CE Γ L (.Call (.Name x p) es [] pos)) :=
  match es, a with
  | [], _ => none
  | e :: es, a => if h : b.name = x ∧ glC L.sc x = true ∧ Γ.bls.contains x = true then
      some ⟨opE b.f a.F, fun {X g C k} O => PEm (pe_callB (b.cr X _ O.cm O.rm) (by rw [← O.sc] at h; exact glC_ok h.2.1) (O.pr.bls x (mem_of_contains h.2.2)) (by rw [← h.1]; exact b.bt) (a.o O) (by rw [← h.1]; exact b.nn) (by rw [← h.1]; exact b.nd)
        (star_cons (by have := a.ns; rw [List.all_cons, Bool.and_eq_true] at this; exact this.1) _ _) (star_any (by have := a.ns; rw [List.all_cons, Bool.and_eq_true] at this; exact this.2) _ _)) fun σ H Q q => by rw [O.pr.hK]; exact tOpE_le (b.vn g) q⟩
    else none
def ceBltT (b : BltT) (x : Str) (p pos : Pos) (es : List Expr) (a : CA Γ L es) : Option (CE Γ L (.Call (.Name x p) es [] pos)) :=
  match es, a with
  | [], _ => none
  | e :: es, a => if h : b.name = x ∧ glC L.sc x = true ∧ Γ.bls.contains x = true then
      some ⟨opE b.f a.F, fun {X g C k} O => PEm (pe_callTy (b.cr X O.cm) (by rw [← O.sc] at h; exact glC_ok h.2.1) (O.pr.bls x (mem_of_contains h.2.2)) (by rw [← h.1]; exact b.bt) (a.o O) (by rw [← h.1]; exact b.nn) (by rw [← h.1]; exact b.nd)
        (star_cons (by have := a.ns; rw [List.all_cons, Bool.and_eq_true] at this; exact this.1) _ _) (star_any (by have := a.ns; rw [List.all_cons, Bool.and_eq_true] at this; exact this.2) _ _)) fun σ H Q q => by rw [O.pr.hK]; exact tOpE_le (b.vn g) q⟩
    else none

structure TyB where
  name : Str
  T : String
  kn : T ∈ knownT
  bt : bootBuiltins name = some (.type T)
  nn : name ≠ "__name__"
  nd : (name == ("__debug__" : Str)) = false
def tyBs : List TyB := [⟨"list", "list", by decide, by decide +kernel, by decide, by decide⟩, ⟨"tuple", "tuple", by decide, by decide +kernel, by decide, by decide⟩, ⟨"int", "int", by decide, by decide +kernel, by decide, by decide⟩,
  ⟨"bool", "bool", by decide, by decide +kernel, by decide, by decide⟩, ⟨"str", "str", by decide, by decide +kernel, by decide, by decide⟩, ⟨"dict", "dict", by decide, by decide +kernel, by decide, by decide⟩]
theorem pe_tyn {X : Cx} {x : Str} {T : String} {pos : Pos} (hg : Gl X x) (hm : X.mg x = none) (hv : bootBuiltins x = some (.type T)) (hn : x ≠ "__name__") (hd : (x == ("__debug__" : Str)) = false) : PE X (.Name x pos) (tC (.ty T)) :=
  ⟨fun pins s σ H Q I h => ld_blt I hg hm hv ⟨.ty T, H, I, rfl, h⟩ hn hd⟩
structure CTy (Γ : Gm) (L : Lc) (e : Expr) where
  T : String
  kn : T ∈ knownT
  ok : ∀ {X : Cx} {g : Cg} {C : Cl} {k : Nat}, XOk X g C k Γ L → PE X e (tC (.ty T))
  ns : notStar e = true
def ctyOf : (e : Expr) → Option (CTy Γ L e)
  | .Name x pos => match tyBs.find? (fun b => b.name == x) with
    | some b => if h : b.name = x ∧ glC L.sc x = true ∧ Γ.bls.contains x = true then
        some ⟨b.T, b.kn, fun {X g C k} O => pe_tyn (by rw [← O.sc] at h; exact glC_ok h.2.1) (O.pr.bls x (mem_of_contains h.2.2)) (by rw [← h.1]; exact b.bt) (by rw [← h.1]; exact b.nn) (by rw [← h.1]; exact b.nd), rfl⟩ else none
    | none => none
  | _ => none
structure CTys (Γ : Gm) (L : Lc) (es : List Expr) where
  Ts : List String
  kn : ∀ T ∈ Ts, T ∈ knownT
  ok : ∀ {X : Cx} {g : Cg} {C : Cl} {k : Nat}, XOk X g C k Γ L → PA X es (tTys Ts)
def ctysOf : (es : List Expr) → Option (CTys Γ L es)
  | [] => some ⟨[], fun _ h => (by cases h), fun {X g C k} O => pa_nil⟩
  | e :: es => match ctyOf (Γ := Γ) (L := L) e, ctysOf es with
    | some a, some b => some ⟨a.T :: b.Ts, fun T h => by
        rcases List.mem_cons.mp h with q | q
        · rw [q]; exact a.kn
        · exact b.kn T q, fun {X g C k} O => pa_cons (a.ok O) (b.ok O) (star_cons a.ns _ _)⟩
    | _, _ => none
theorem nn_isi : ("isinstance" : Str) ≠ "__name__" := by decide
theorem nd_isi : (("isinstance" : Str) == ("__debug__" : Str)) = false := by decide
theorem bt_isi : bootBuiltins "isinstance" = some (.builtin "isinstance") := PyProof.Rows.boot_isinstance
def ceIsi1 (x : Str) (p pos : Pos) (e t : Expr) (A : CE Γ L e) (B : CTy Γ L t) : Option (CE Γ L (.Call (.Name x p) [e, t] [] pos)) :=
  if h : ("isinstance" : Str) = x ∧ glC L.sc x = true ∧ Γ.bls.contains x = true ∧ notStar e = true then
    some ⟨opE (gIsi [B.T]) [A.F], fun {X g C k} O => PEm (pe_callB call_isi (by rw [← O.sc] at h; exact glC_ok h.2.1) (O.pr.bls x (mem_of_contains h.2.2.1)) (by rw [← h.1]; exact bt_isi)
      (pa_cons (A.ok O) (pa_cons (B.ok O) pa_nil (star_cons B.ns _ _)) (star_cons h.2.2.2 _ _)) (by rw [← h.1]; exact nn_isi) (by rw [← h.1]; exact nd_isi) (star_cons h.2.2.2 _ _) (star_any (by simp [B.ns]) _ _)) fun σ H Q q => by rw [O.pr.hK]; exact tIsi1_le B.kn q⟩
  else none
def ceIsiT (x : Str) (p pos tp : Pos) (j : Nat) (e : Expr) (ts : List Expr) (A : CE Γ L e) (B : CTys Γ L ts) : Option (CE Γ L (.Call (.Name x p) [e, .Tuple ts j tp] [] pos)) :=
  if h : ("isinstance" : Str) = x ∧ glC L.sc x = true ∧ Γ.bls.contains x = true ∧ notStar e = true ∧ B.Ts.length ≤ 10 then
    some ⟨opE (gIsi B.Ts) [A.F], fun {X g C k} O => PEm (pe_callB call_isiT (by rw [← O.sc] at h; exact glC_ok h.2.1) (O.pr.bls x (mem_of_contains h.2.2.1)) (by rw [← h.1]; exact bt_isi)
      (pa_cons (A.ok O) (pa_cons (pe_tup (B.ok O)) pa_nil (star_cons rfl _ _)) (star_cons h.2.2.2.1 _ _)) (by rw [← h.1]; exact nn_isi) (by rw [← h.1]; exact nd_isi) (star_cons h.2.2.2.1 _ _) (star_any (by simp [notStar]) _ _)) fun σ H Q q => by rw [O.pr.hK]; exact tIsiT_le B.kn h.2.2.2.2 q⟩
  else none

def ceFn (x : Str) (p pos : Pos) (es : List Expr) (a : CA Γ L es) : Option (CE Γ L (.Call (.Name x p) es [] pos)) :=
  match es, a with
  | [], _ => none
  | e :: es, a => match hl : Γ.fns.lookup x with
    | some (i, n) => if h : glC L.sc x = true ∧ a.F.length = n ∧ (x == ("__debug__" : Str)) = false then
        let B : CE Γ L (.Call (.Name x p) (e :: es) [] pos) := ⟨callF i a.F, fun {X g C k} O => by
          obtain ⟨f, hm, hk, F⟩ := O.pr.fns x i n hl
          exact PEm (pe_callR (E := E0) F (O.rm.mono (Nat.le_succ _)) (by rw [← O.sc] at h; exact glC_ok h.1) hm hk passA (a.f O) h.2.2 a.ns) fun σ H Q q => tCall_le (fun _ _ => rfl) h.2.1 q⟩
        if Γ.cel.contains x then some ⟨cellF B.F, fun {X g C k} O => PEm (B.ok O) fun σ H Q q => tCell_le q⟩ else some B
      else none
    | none => none
/-- keywords -/
structure CK (Γ : Gm) (L : Lc) (kws : List Keyword) where
  F : List SE
  ks : List Str
  ok : ∀ {X : Cx} {g : Cg} {C : Cl} {k : Nat}, XOk X g C k Γ L → PK X kws (tFzs g C F)
  len : F.length = ks.length
  nm : ∀ (pos : Pos) (env : Env), (backToKw pos (keywordEach kws env)).all (·.1.isSome) = true ∧ (backToKw pos (keywordEach kws env)).filterMap (·.1) = ks ∧ (backToKw pos (keywordEach kws env)).any (·.1.isNone) = false
theorem PKm {X : Cx} {kws : List Keyword} {t t' : TA} (h : PK X kws t) (k : ∀ σ H Q, t' σ H Q → t σ H Q) : PK X kws t' := ⟨fun pos pins s σ H Q I q => h.run pos pins s σ H Q I (k σ H Q q)⟩
def ckList (r : (e : Expr) → CE Γ L e) : (kws : List Keyword) → Option (CK Γ L kws)
  | [] => some ⟨[], [], fun {X g C k} O => PKm pk_nil fun σ H Q q => tFzs_nil q, rfl, fun _ _ => ⟨rfl, rfl, rfl⟩⟩
  | ⟨some x, e, kp⟩ :: kws => match ckList r kws with
    | some b => some ⟨(r e).F :: b.F, x :: b.ks, fun {X g C k} O => PKm (pk_cons ((r e).ok O) (b.ok O)) fun σ H Q q => tFzs_cons q, by simp [b.len], fun pos env => by
        obtain ⟨h1, h2, h3⟩ := b.nm pos env
        refine ⟨?_, ?_, ?_⟩
        · show (true && (backToKw pos (keywordEach kws env)).all (·.1.isSome)) = true
          rw [h1]
          rfl
        · show x :: (backToKw pos (keywordEach kws env)).filterMap (·.1) = _
          rw [h2]
        · show (false || (backToKw pos (keywordEach kws env)).any (·.1.isNone)) = false
          rw [h3]
          rfl⟩
    | none => none
  | ⟨none, _, _⟩ :: _ => none
theorem perm_len {α : Type} {ds : List α} : ∀ {pm : List Nat}, (∀ j ∈ pm, j < ds.length) → (pm.filterMap (ds[·]?)).length = pm.length
  | [], _ => rfl
  | j :: pm, h => by
    rw [List.filterMap_cons, List.getElem?_eq_getElem (h j List.mem_cons_self)]
    show (pm.filterMap (ds[·]?)).length + 1 = _
    rw [perm_len fun i hi => h i (List.mem_cons_of_mem _ hi)]
    rfl
def ceKw (x : Str) (p pos : Pos) (kws : List Keyword) (a : CK Γ L kws) : Option (CE Γ L (.Call (.Name x p) [] kws pos)) :=
  match hl : Γ.kws.lookup (x, a.ks) with
  | some (i, pm) => if h : glC L.sc x = true ∧ (x == ("__debug__" : Str)) = false then
      some ⟨callK i pm a.F, fun {X g C k} O => by
        obtain ⟨f, hm, hk, F, hp⟩ := O.pr.kws x a.ks i pm hl
        obtain ⟨h1, h2, h3⟩ := a.nm pos X.env
        have := pe_callKR (E := E0) F (O.rm.mono (Nat.le_succ _)) (by rw [← O.sc] at h; exact glC_ok h.1) hm hk passA (a.ok O) h.2 h1 h2 h3 (p := p)
        rw [← a.len] at this
        exact PEm this fun σ H Q q => tCallKw_le (fun _ _ => rfl) (fun ds hd => perm_len fun j hj => by rw [hd, a.len]; exact hp j hj) q⟩
    else none
  | none => none
def ceCls (x : Str) (p pos : Pos) (es : List Expr) (a : CA Γ L es) : Option (CE Γ L (.Call (.Name x p) es [] pos)) :=
  match es, a with
  | [], _ => none
  | e :: es, a => match hl : Γ.cls.lookup x with
    | some (i, n, cc) => if h : glC L.sc x = true ∧ a.F.length = n ∧ (x == ("__debug__" : Str)) = false then
        some ⟨callF i a.F, fun {X g C k} O => by
          obtain ⟨f, M, hm, F⟩ := O.pr.cls x i n cc hl
          exact PEm (StX.pe_makeR (E := E0) M F O.rm (by rw [← O.sc] at h; exact glC_ok h.1) hm passA (a.f O) h.2.2 (star_cons (by have := a.ns; rw [List.all_cons, Bool.and_eq_true] at this; exact this.1) _ _) (star_any (by have := a.ns; rw [List.all_cons, Bool.and_eq_true] at this; exact this.2) _ _))
            fun σ H Q q => tNew_le (c := ⟨⟨fun _ => none, fun _ => False, []⟩, none, 0⟩) (σ := σ) (fv := []) (s := ⟨[], []⟩) (fun _ _ => rfl) h.2.1 q⟩
      else none
    | none => none
def ceMeth (o : Expr) (m : Str) (apos pos : Pos) (es : List Expr) (A : CE Γ L o) (a : CA Γ L es) : Option (CE Γ L (.Call (.Attribute o m apos) es [] pos)) :=
  match hl : Γ.mts.lookup m with
  | some (cs, n) => if h : plainBase o = true ∧ es.length < 30 ∧ (apos.endLine == pos.line) = true ∧ a.F.length + 1 = n then
      match es, a, h with
      | [], a, h => some ⟨methF cs A.F [], fun {X g C k} O => by
          have hz : a.F = [] := List.length_eq_zero_iff.mp a.len
          have F : MetOk X g C CX0 k m cs n := ⟨fun c i q => O.pr.mts m cs n hl c i q⟩
          refine PEm (pe_methD (CX := CX0) (E := E0) (n := k) (A.ok O) (O.rm.mono (Nat.le_succ _)) passA pa_nil h.1 rfl h.2.1 h.2.2.1 fun _ => rfl) fun σ H Q q => ?_
          refine tE_mono (fun v H1 z => ?_) (tMethD_le (E := E0) F (fs := []) (by rw [← h.2.2.2, hz]) q)
          obtain ⟨a', D, gf, sp, dx, vs, e, sl, sc, me, Fn, z⟩ := z
          exact ⟨a', D, gf, sp, dx, vs, e, sl, sc, me, Fn, tFzs_nil z⟩⟩
      | e :: es, a, h => some ⟨methF cs A.F a.F, fun {X g C k} O => by
          have F : MetOk X g C CX0 k m cs n := ⟨fun c i q => O.pr.mts m cs n hl c i q⟩
          exact PEm (pe_methD (CX := CX0) (E := E0) (n := k) (A.ok O) (O.rm.mono (Nat.le_succ _)) passA (a.f O) h.1 a.ns h.2.1 h.2.2.1 fun z => nomatch z) fun σ H Q q => tMethD_le F h.2.2.2 q⟩
    else none
  | none => none
theorem few_ok {es : List Expr} (h : es.all notStar = true) (hl : es.length < 30) (cpos : Pos) (env : Env) : ((backTo cpos (starEach es env)).all (fun x => !x.1) && (backToKw cpos (keywordEach [] env)).all (fun x => x.1.isSome)
      && decide (es.length + ([] : List Keyword).length + (if ([] : List Keyword).isEmpty then 0 else 1) < 30)) = true := by
  rw [star_len h]
  simp [backToKw, keywordEach, hl]
/-- x.pop(e), x a name -/
def cePop (x m : Str) (p apos pos : Pos) (e : Expr) (A : CE Γ L e) : Option (CE Γ L (.Call (.Attribute (.Name x p) m apos) [e] [] pos)) :=
  let i := slot L.N x
  if h : ("pop" : Str) = m ∧ L.N[i]? = some x ∧ visC L.sc x = true ∧ ((x == ("__debug__" : Str)) = false ∧ (x == ("__classdict__" : Str)) = false) ∧ (apos.endLine == pos.line) = true ∧ notStar e = true then
    some ⟨popF i A.F, fun {X g C k} O => by
      have hv : PE X (.Name x p) (tVar i) := pe_var (i := i) (by rw [O.N]; exact h.2.1) (by rw [O.sc]; exact visC_ok h.2.2.1) h.2.2.2.1.1 h.2.2.2.1.2
      have hs : [e].all notStar = true := by simp [h.2.2.2.2.2]
      have hp := pe_bm (cpos := pos) (apos := apos) (name := m) PySem.F.plainAttrs_list (by rw [← h.1]; exact PySem.F.slot_list_pop) PySem.F.type_list_pop mt_popAt hv (pa_cons (A.ok O) pa_nil (star_cons h.2.2.2.2.2 _ _)) (base_plain rfl _ _ _) (few_ok hs (by simp) _ _) h.2.2.2.2.1 (star_cons h.2.2.2.2.2 _ _) (by rfl)
      exact PEn hp fun σ H Q hl q => by rw [O.pr.hK]; exact tPop_le (slot_lt O h.2.1 hl) q⟩
  else none
/-- t.index(e) -/
def ceIndex (o : Expr) (m : Str) (apos pos : Pos) (e : Expr) (B : CE Γ L o) (A : CE Γ L e) : Option (CE Γ L (.Call (.Attribute o m apos) [e] [] pos)) :=
  if h : ("index" : Str) = m ∧ plainBase o = true ∧ (apos.endLine == pos.line) = true ∧ notStar e = true then
    some ⟨tixF B.F A.F, fun {X g C k} O => by
      have hs : [e].all notStar = true := by simp [h.2.2.2]
      have hp := pe_bmF (cpos := pos) (apos := apos) (name := m) PySem.F.plainAttrs_tuple (by rw [← h.1]; exact PySem.F.slot_tuple_index) PySem.F.type_tuple_index mt_tup_index (B.ok O) (pa_cons (A.ok O) pa_nil (star_cons h.2.2.2 _ _)) (base_plain h.2.1 _ _ _) (few_ok hs (by simp) _ _) h.2.2.1 (star_cons h.2.2.2 _ _) (by rfl)
      exact PEm hp fun σ H Q q => by rw [O.pr.hK]; exact tIx_le q⟩
  else none

/-- list(..).index(e) -/
def ceIndexL (o : Expr) (m : Str) (apos pos : Pos) (e : Expr) (B : CE Γ L o) (A : CE Γ L e) : Option (CE Γ L (.Call (.Attribute o m apos) [e] [] pos)) :=
  if h : ("index" : Str) = m ∧ plainBase o = true ∧ (apos.endLine == pos.line) = true ∧ notStar e = true then
    some ⟨lixF B.F A.F, fun {X g C k} O => by
      have hs : [e].all notStar = true := by simp [h.2.2.2]
      have hp := pe_bm (cpos := pos) (apos := apos) (name := m) PySem.F.plainAttrs_list (by rw [← h.1]; exact PySem.F.slot_list_index) PySem.F.type_list_index mt_index (B.ok O) (pa_cons (A.ok O) pa_nil (star_cons h.2.2.2 _ _)) (base_plain h.2.1 _ _ _) (few_ok hs (by simp) _ _) h.2.2.1 (star_cons h.2.2.2 _ _) (by rfl)
      exact PEm hp fun σ H Q q => by rw [O.pr.hK]; exact tLix_le q⟩
  else none

/-- list(range(..)) -/
def ceLr1 (x y : Str) (p q pos pos2 : Pos) (a : Expr) (A : CE Γ L a) : Option (CE Γ L (.Call (.Name x p) [.Call (.Name y q) [a] [] pos2] [] pos)) :=
  if h : ("list" : Str) = x ∧ ("range" : Str) = y ∧ (glC L.sc x = true ∧ Γ.bls.contains x = true) ∧ (glC L.sc y = true ∧ Γ.bls.contains y = true) ∧ notStar a = true then
    some ⟨lr1F A.F, fun {X g C k} O => by
      obtain ⟨rfl, rfl, ⟨h1, h2⟩, ⟨h3, h4⟩, h5⟩ := h
      rw [← O.sc] at h1 h3
      exact PEm (pe_listRg O.cm (glC_ok h1) (O.pr.bls _ (mem_of_contains h2)) (prg_1 (glC_ok h3) (O.pr.bls _ (mem_of_contains h4)) (A.ok O) (star_cons h5 _ _)) (star_cons rfl _ _)) fun σ H Q z => tLr1_le z⟩
  else none
def ceLr2 (x y : Str) (p q pos pos2 : Pos) (a b : Expr) (A : CE Γ L a) (B : CE Γ L b) : Option (CE Γ L (.Call (.Name x p) [.Call (.Name y q) [a, b] [] pos2] [] pos)) :=
  if h : ("list" : Str) = x ∧ ("range" : Str) = y ∧ (glC L.sc x = true ∧ Γ.bls.contains x = true) ∧ (glC L.sc y = true ∧ Γ.bls.contains y = true) ∧ notStar a = true ∧ notStar b = true then
    some ⟨lr2F A.F B.F, fun {X g C k} O => by
      obtain ⟨rfl, rfl, ⟨h1, h2⟩, ⟨h3, h4⟩, h5, h6⟩ := h
      rw [← O.sc] at h1 h3
      exact PEm (pe_listRg O.cm (glC_ok h1) (O.pr.bls _ (mem_of_contains h2)) (prg_2 (glC_ok h3) (O.pr.bls _ (mem_of_contains h4)) (A.ok O) (B.ok O) (star_cons h5 _ _) (star_cons h6 _ _) (star_any (by simp [h6]) _ _)) (star_cons rfl _ _)) fun σ H Q z => tLr2_le z⟩
  else none

/-- list(enumerate(e)) -/
def ceLE (x y : Str) (p q pos pos2 : Pos) (a : Expr) (A : CE Γ L a) : Option (CE Γ L (.Call (.Name x p) [.Call (.Name y q) [a] [] pos2] [] pos)) :=
  if h : ("list" : Str) = x ∧ ("enumerate" : Str) = y ∧ (glC L.sc x = true ∧ Γ.bls.contains x = true) ∧ (glC L.sc y = true ∧ Γ.bls.contains y = true) ∧ notStar a = true then
    some ⟨opE gLE [A.F], fun {X g C k} O => by
      obtain ⟨rfl, rfl, ⟨h1, h2⟩, ⟨h3, h4⟩, h5⟩ := h
      rw [← O.sc] at h1 h3
      exact PEm (pe_listEn O.cm (glC_ok h1) (O.pr.bls _ (mem_of_contains h2)) (glC_ok h3) (O.pr.bls _ (mem_of_contains h4)) (ta := tOps g C [A.F]) (PAm (pa_cons (A.ok O) (PAm pa_nil fun σ H Q q => tOps_nil q) (star_cons h5 _ _)) fun σ H Q q => tOps_cons q) h5) fun σ H Q z => by rw [O.pr.hK]; exact tCB_ops vn_LE z⟩
  else none
/-- max(e, default=k) -/
def ceMaxDf (x : Str) (p pos cp kp : Pos) (e : Expr) (kx : Str) (d : Int) (j : Nat) (A : CE Γ L e) : Option (CE Γ L (.Call (.Name x p) [e] [⟨some kx, .Constant (.int d) j cp, kp⟩] pos)) :=
  if h : ("max" : Str) = x ∧ ("default" : Str) = kx ∧ (glC L.sc x = true ∧ Γ.bls.contains x = true) ∧ notStar e = true then
    some ⟨opE (gMaxDf d) [A.F], fun {X g C k} O => by
      obtain ⟨rfl, rfl, ⟨h1, h2⟩, h3⟩ := h
      rw [← O.sc] at h1
      exact PEm (pe_maxDf O.rm (glC_ok h1) (O.pr.bls _ (mem_of_contains h2)) (t := tOps g C [A.F]) (PAm (pa_cons (A.ok O) (PAm pa_nil fun σ H Q q => tOps_nil q) (star_cons h3 _ _)) fun σ H Q q => tOps_cons q) h3) fun σ H Q z => by rw [O.pr.hK]; exact tMaxDf_le z⟩
  else none
/-- sorted(set(e)) -/
def ceSS (x y : Str) (p q pos pos2 : Pos) (a : Expr) (A : CE Γ L a) : Option (CE Γ L (.Call (.Name x p) [.Call (.Name y q) [a] [] pos2] [] pos)) :=
  if h : ("sorted" : Str) = x ∧ ("set" : Str) = y ∧ (glC L.sc x = true ∧ Γ.bls.contains x = true) ∧ (glC L.sc y = true ∧ Γ.bls.contains y = true) ∧ notStar a = true then
    some ⟨opE gSS [A.F], fun {X g C k} O => by
      obtain ⟨rfl, rfl, ⟨h1, h2⟩, ⟨h3, h4⟩, h5⟩ := h
      rw [← O.sc] at h1 h3
      exact PEm (pe_ss O.cm (glC_ok h1) (O.pr.bls _ (mem_of_contains h2)) (glC_ok h3) (O.pr.bls _ (mem_of_contains h4)) (A.ok O) h5) fun σ H Q z => by rw [O.pr.hK]; exact tSS_le X.w z⟩
  else none
/-- displays with stars -/
structure CD (Γ : Gm) (L : Lc) (es : List Expr) where
  F : List (Bool × SE)
  ok : ∀ {X : Cx} {g : Cg} {C : Cl} {k : Nat}, XOk X g C k Γ L → PA X es (tStars g C F)
def cdList (r : (e : Expr) → CE Γ L e) : (es : List Expr) → Option (CD Γ L es)
  | [] => some ⟨[], fun {X g C k} O => PAm pa_nil fun σ H Q q => tStars_nil q⟩
  | .Starred e p :: es => match cdList r es with
    | some b => some ⟨(true, (r e).F) :: b.F, fun {X g C k} O => PAm (StX.pa_star ((r e).ok O) (b.ok O)) fun σ H Q q => by rw [O.pr.hK]; exact tStars_star q⟩
    | none => none
  | e :: es => match cdList r es with
    | some b => if h : notStar e = true then some ⟨(false, (r e).F) :: b.F, fun {X g C k} O => PAm (pa_cons ((r e).ok O) (b.ok O) (star_cons h _ _)) fun σ H Q q => tStars_one q⟩ else none
    | none => none
def ceTupS (es : List Expr) (j : Nat) (pos : Pos) (a : CD Γ L es) : CE Γ L (.Tuple es j pos) := ⟨tupS a.F, fun {X g C k} O => PEm (pe_tupF (a.ok O)) fun σ H Q q => tTupS_le q⟩
def ceLstS (es : List Expr) (pos : Pos) (a : CD Γ L es) : CE Γ L (.List es pos) := ⟨lstS a.F, fun {X g C k} O => PEm (pe_lst (a.ok O)) fun σ H Q q => tLstS_le q⟩

def isSelf (L : Lc) : Expr → Option Nat
  | .Name x _ => match L.slf with
    | some cc => if slot L.N x = 0 then some cc else none
    | none => none
  | _ => none
def ceFld (o : Expr) (f : Str) (pos : Pos) (A : CE Γ L o) : Option (CE Γ L (.Attribute o f pos)) :=
  match hl : Γ.fds.lookup f with
  | some cs => if h : plainBase o = true then
      some ⟨fldF cs A.F, fun {X g C k} O => PEm (SlX.pe_sl (A.ok O) (base_plain h _ _ _)) fun σ H Q q => by
        have F : FldOk X g f cs := ⟨fun c j z => O.pr.fds f cs hl c j z⟩
        exact tSl_le F q⟩
    else none
  | none => none
theorem slfOk {X : Cx} {g : Cg} {C : Cl} {k : Nat} (O : XOk X g C k Γ L) {f : Str} {cs : List (Nat × Nat)} {cc j : Nat} (hl : Γ.fds.lookup f = some cs) (hc : cs.lookup cc = some j) : SlfOk g.K g cc f j := by
  obtain ⟨h1, h2⟩ := O.pr.fds f cs hl cc j hc
  rw [O.pr.hK] at h1 h2
  exact ⟨h1, h2⟩
theorem slot0 {X : Cx} {g : Cg} {C : Cl} {k : Nat} (O : XOk X g C k Γ L) {x : Str} (h : L.N[0]? = some x) : 0 < L.N.length := (List.getElem?_eq_some_iff.mp h).1
/-- self.f in a constructor -/
def ceSlf (cc : Nat) (x f : Str) (p pos : Pos) : Option (CE Γ L (.Attribute (.Name x p) f pos)) :=
  match hl : Γ.fds.lookup f with
  | some cs => match hc : cs.lookup cc with
    | some j => if h : L.N[0]? = some x ∧ visC L.sc x = true ∧ ((x == ("__debug__" : Str)) = false ∧ (x == ("__classdict__" : Str)) = false) then
        some ⟨sfF cc L.N.length j, fun {X g C k} O => by
          have hv : PE X (.Name x p) (tVar 0) := pe_var (i := 0) (by rw [O.N]; exact h.1) (by rw [O.sc]; exact visC_ok h.2.1) h.2.2.1 h.2.2.2
          exact PEn (SlX.pe_sl hv (base_plain rfl _ _ _)) fun σ H Q hσ q => by rw [O.pr.hK]; exact tSf_le (slfOk O hl hc) (by rw [hσ, O.N]) (slot0 O h.1) q⟩
      else none
    | none => none
  | none => none

structure CGs (Γ : Gm) (L : Lc) (es : List Expr) where
  F : List Tg
  ok : ∀ {X : Cx} {g : Cg} {C : Cl} {k : Nat}, XOk X g C k Γ L → PGs X es (gTs X.K F)
  n : tgsOk L.N.length F = true
  len : F.length = es.length
  ns : es.all notStar = true
theorem asg_cons {e : Expr} (h : notStar e = true) (es : List Expr) (env : Env) : assignEach (e :: es) env = (false, assign e env) :: assignEach es env := by
  cases e <;> first | rfl | cases h
theorem asg_len : ∀ (es : List Expr) (env : Env), (assignEach es env).length = es.length
  | [], _ => rfl
  | e :: es, env => by
    cases e <;> (show (assignEach es env).length + 1 = es.length + 1; rw [asg_len es env])
theorem asg_star : ∀ {es : List Expr} (h : es.all notStar = true) (env : Env), (assignEach es env).findIdx? (·.1) = none
  | [], _, _ => rfl
  | e :: es, h, env => by
    rw [List.all_cons, Bool.and_eq_true] at h
    rw [asg_cons h.1, List.findIdx?_cons, asg_star h.2 env]
    rfl
def cgName (x : Str) (pos : Pos) : Option (CG Γ L (.Name x pos)) :=
  let i := slot L.N x
  if h : L.N[i]? = some x ∧ locC L.sc x = true ∧ stC L x = true then
    some ⟨.nm i, fun {X g C k} O => by
      unfold gT
      exact pg_name (by rw [O.N]; exact O.nd) (by rw [O.N]; exact h.1) (by rw [O.sc]; exact locC_ok h.2.1) (stC_ok O h.2.2), by
      unfold tgOk
      exact decide_eq_true (List.getElem?_eq_some_iff.mp h.1).1⟩
  else none
def cgsOf (r : (e : Expr) → Option (CG Γ L e)) : (es : List Expr) → Option (CGs Γ L es)
  | [] => some ⟨[], fun {X g C k} O => by unfold gTs; exact pgs_nil, rfl, rfl, rfl⟩
  | e :: es => match r e, cgsOf r es with
    | some a, some b => if h : notStar e = true then
        some ⟨a.F :: b.F, fun {X g C k} O => by
          unfold gTs
          exact pgs_cons (a.ok O) (b.ok O) (by rw [asg_cons h]; rfl), by
          unfold tgsOk
          rw [a.n, b.n]
          rfl, by simp [b.len], by simp [h, b.ns]⟩ else none
    | _, _ => none
def cgOf : Nat → (e : Expr) → Option (CG Γ L e)
  | 0, _ => none
  | n + 1, .Name x pos => cgName x pos
  | n + 1, .Tuple es j pos => match cgsOf (cgOf n) es with
    | some a => some ⟨.tp a.F, fun {X g C k} O => by
        unfold gT
        exact pg_tup O.cm (a.ok O) (by rw [asg_len, a.len]) (asg_star a.ns _), by
        unfold tgOk
        exact a.n⟩
    | none => none
  | _ + 1, _ => none

theorem fsi_ok {e : Expr} (h : noSet e = true) (env : Env) (x : Value) : foldedSetIterable e env x = pure x := by
  cases e <;> first | rfl | cases h
def ciSeq (tg e : Expr) (A : CE Γ L e) : Option (CI Γ L tg e) :=
  if h : noSet e = true then some ⟨itF A.F, fun {X g C k} O => PIm (pi_seq (A.ok O)) fun σ H R q => by rw [O.pr.hK]; exact tI_seq q, fsi_ok h⟩ else none
theorem star_one {e : Expr} (h : notStar e = true) (env : Env) : starEach [e] env = [(false, eval e env)] := star_cons h [] env
def ciRng1 (tg : Expr) (x : Str) (p pos : Pos) (a : Expr) (A : CE Γ L a) : Option (CI Γ L tg (.Call (.Name x p) [a] [] pos)) :=
  if h : ("range" : Str) = x ∧ glC L.sc x = true ∧ Γ.bls.contains x = true ∧ notStar a = true then
    some ⟨rng1F A.F, fun {X g C k} O => by
      obtain ⟨rfl, h1, h2, h3⟩ := h
      rw [← O.sc] at h1
      exact PIm (pi_range1 (glC_ok h1) (O.pr.bls _ (mem_of_contains h2)) (pa_cons (A.ok O) pa_nil (star_cons h3 _ _)) (star_one h3 _)) fun σ H R q => tI_rng1 q, fsi_ok rfl⟩
  else none
def ciRng2 (tg : Expr) (x : Str) (p pos : Pos) (a b : Expr) (A : CE Γ L a) (B : CE Γ L b) : Option (CI Γ L tg (.Call (.Name x p) [a, b] [] pos)) :=
  if h : ("range" : Str) = x ∧ glC L.sc x = true ∧ Γ.bls.contains x = true ∧ notStar a = true ∧ notStar b = true then
    some ⟨rng2F A.F B.F, fun {X g C k} O => by
      obtain ⟨rfl, h1, h2, h3, h4⟩ := h
      rw [← O.sc] at h1
      exact PIm (pi_range2 (glC_ok h1) (O.pr.bls _ (mem_of_contains h2)) (pa_cons (A.ok O) (pa_cons (B.ok O) pa_nil (star_cons h4 _ _)) (star_cons h3 _ _)) (by rw [star_cons h3, star_one h4]) (star_one h4 _)) fun σ H R q => tI_rng2 q, fsi_ok rfl⟩
  else none
def ciRng3 (tg : Expr) (x : Str) (p pos : Pos) (a b d : Expr) (A : CE Γ L a) (B : CE Γ L b) (D : CE Γ L d) : Option (CI Γ L tg (.Call (.Name x p) [a, b, d] [] pos)) :=
  if h : ("range" : Str) = x ∧ glC L.sc x = true ∧ Γ.bls.contains x = true ∧ notStar a = true ∧ notStar b = true ∧ notStar d = true then
    some ⟨rng3F A.F B.F D.F, fun {X g C k} O => by
      obtain ⟨rfl, h1, h2, h3, h4, h5⟩ := h
      rw [← O.sc] at h1
      exact PIm (pi_range3 (glC_ok h1) (O.pr.bls _ (mem_of_contains h2)) (pa_cons (A.ok O) (pa_cons (B.ok O) (pa_cons (D.ok O) pa_nil (star_cons h5 _ _)) (star_cons h4 _ _)) (star_cons h3 _ _)) (star_cons h3 _ _) (star_any (by simp [h4, h5]) _ _)) fun σ H R q => tI_rng3 q, fsi_ok rfl⟩
  else none
def ciEnum0 (elts : List Expr) (kk : Nat) (tp : Pos) (x : Str) (p pos : Pos) (a : Expr) (A : CE Γ L a) : Option (CI Γ L (.Tuple elts kk tp) (.Call (.Name x p) [a] [] pos)) :=
  if h : ("enumerate" : Str) = x ∧ glC L.sc x = true ∧ Γ.bls.contains x = true ∧ notStar a = true then
    some ⟨enumF 0 A.F, fun {X g C k} O => by
      obtain ⟨rfl, h1, h2, h3⟩ := h
      rw [← O.sc] at h1
      exact PIm (pi_enumC (glC_ok h1) (O.pr.bls _ (mem_of_contains h2)) (pa_cons (A.ok O) pa_nil (star_cons h3 _ _)) (by simp [h3])) fun σ H R q => by rw [O.pr.hK]; exact tI_enum0 q, fsi_ok rfl⟩
  else none
def ciEnumK (elts : List Expr) (kk : Nat) (tp : Pos) (x : Str) (p pos cp : Pos) (a : Expr) (i : Int) (j : Nat) (A : CE Γ L a) : Option (CI Γ L (.Tuple elts kk tp) (.Call (.Name x p) [a, .Constant (.int i) j cp] [] pos)) :=
  if h : ("enumerate" : Str) = x ∧ glC L.sc x = true ∧ Γ.bls.contains x = true ∧ notStar a = true ∧ (-(2 ^ 63) ≤ i ∧ i < 2 ^ 63) then
    some ⟨enumF i A.F, fun {X g C k} O => by
      obtain ⟨rfl, h1, h2, h3, h4⟩ := h
      rw [← O.sc] at h1
      exact PIm (pi_enumC (glC_ok h1) (O.pr.bls _ (mem_of_contains h2)) (pa_cons (A.ok O) (pa_cons pe_int pa_nil (star_cons rfl _ _)) (star_cons h3 _ _)) (by rw [List.all_cons, h3]; rfl)) fun σ H R q => by rw [O.pr.hK]; exact tI_enumK h4 q, fsi_ok rfl⟩
  else none
def ciZip (elts : List Expr) (kk : Nat) (tp : Pos) (x : Str) (p pos : Pos) (a b : Expr) (A : CE Γ L a) (B : CE Γ L b) : Option (CI Γ L (.Tuple elts kk tp) (.Call (.Name x p) [a, b] [] pos)) :=
  if h : ("zip" : Str) = x ∧ glC L.sc x = true ∧ Γ.bls.contains x = true ∧ notStar a = true ∧ notStar b = true then
    some ⟨zipF A.F B.F, fun {X g C k} O => by
      obtain ⟨rfl, h1, h2, h3, h4⟩ := h
      rw [← O.sc] at h1
      refine PIm (RZ.pi_zipA (glC_ok h1) (O.pr.bls _ (mem_of_contains h2)) (ta := tFzs g C [A.F, B.F]) ?_ (star_cons h3 _ _) (star_any (by simp [h4]) _ _)) fun σ H R q => by rw [O.pr.hK]; exact tI_zip q
      exact PAm (pa_cons (A.ok O) (PAm (pa_cons (B.ok O) (PAm pa_nil fun σ H Q q => tFzs_nil q) (star_cons h4 _ _)) fun σ H Q q => tFzs_cons q) (star_cons h3 _ _)) fun σ H Q q => tFzs_cons q, fsi_ok rfl⟩
  else none

def blkL (L : Lc) (scope : Scope) : Lc := ⟨L.N, relS scope L.sc, fun x => scope.names.lookup x == some .cell, L.slf, L.mu⟩
theorem XOk.blk {X : Cx} {g : Cg} {C : Cl} {k : Nat} (O : XOk X g C k Γ L) (s : Shared) (H : Hp) (scope : Scope) (cl : List (Str × Addr)) (Cc : Addr) (fp : List Addr) : XOk (X.blk s H scope (compEnvC scope cl Cc X.env) fp) g C k Γ (blkL L scope) :=
  ⟨O.pr, O.rm, O.cm, O.N, O.nd, by
    show relabel scope X.env = relS scope L.sc
    rw [← O.sc]
    rfl, fun x h => h, PassesOwn.never⟩
def ownOf (N : List Str) (scope : Scope) : List (Str × Nat) := scope.names.filterMap fun y => match y.2 with
  | .local => if N.contains y.1 then some (y.1, slot N y.1) else none
  | .cell => if N.contains y.1 then some (y.1, slot N y.1) else none
  | _ => none
structure CIf (Γ : Gm) (L : Lc) (es : List Expr) where
  F : List SE
  ok : ∀ {X : Cx} {g : Cg} {C : Cl} {k : Nat}, XOk X g C k Γ L → PTs X es (tIs g C F)
  len : F.length ≤ 1
def cifOf (r : (e : Expr) → CT Γ L e) : (es : List Expr) → Option (CIf Γ L es)
  | [] => some ⟨[], fun {X g C k} O => pts_nil, by decide⟩
  | [e] => let a := r e
    some ⟨[a.F], fun {X g C k} O => pts_one (a.ok O), by simp⟩
  | _ => none
theorem own_lt {N : List Str} {sc scope : Scope} {own : List (Str × Nat)} (h : BlkOk N sc scope own) : ∀ v ∈ own.map (·.2), v < N.length := fun v hv => by
  obtain ⟨p, hp, e⟩ := List.mem_map.mp hv
  subst e
  exact (List.getElem?_eq_some_iff.mp (h.ix p hp)).1
def ceLc (elt tg it : Expr) (ifs : List Expr) (scope : Scope) (pos : Pos) (I : CI Γ L tg it) (T : CG Γ (blkL L scope) tg) (Fi : CIf Γ (blkL L scope) ifs) (E : CE Γ (blkL L scope) elt) : Option (CE Γ L (.ListComp elt [⟨tg, it, ifs, 0⟩] scope pos)) :=
  let own := ownOf L.N scope
  if h : blkC L.N L.sc scope own = true ∧ tgIn (own.map (·.2)) T.F = true then
    some ⟨lcF (own.map (·.2)) T.F I.F Fi.F E.F, fun {X g C k} O => by
      have ok := blkOk_by h.1
      refine PEn (pe_lc (g := gT X.K T.F) O.cm (by rw [O.N]; exact O.nd) (I.ok O) (own := own) (by rw [O.N, O.sc]; exact ok) (fun s H Cc cl fp => T.ok (O.blk s H scope cl Cc fp)) (fun s H Cc cl fp => Fi.ok (O.blk s H scope cl Cc fp)) (fun s H Cc cl fp => E.ok (O.blk s H scope cl Cc fp)) (I.fs _)) fun σ H Q hσ q => ?_
      have := tLc_le (n := L.N.length) (own_lt ok) (by rw [hσ, O.N]) T.n h.2 Fi.len q
      rw [← O.pr.hK] at this
      exact this⟩
  else none
mutual
def tgSl : Tg → List Nat
  | .nm i => [i]
  | .tp ts => tgsSl ts
def tgsSl : List Tg → List Nat
  | [] => []
  | t :: ts => tgSl t ++ tgsSl ts
end
def ceLc2 (elt tg it tg1 it1 : Expr) (ifs ifs1 : List Expr) (scope : Scope) (pos : Pos) (I : CI Γ L tg it) (T : CG Γ (blkL L scope) tg) (Fi : CIf Γ (blkL L scope) ifs) (I1 : CI Γ (blkL L scope) tg1 it1) (T1 : CG Γ (blkL L scope) tg1) (Fi1 : CIf Γ (blkL L scope) ifs1)
    (E : CE Γ (blkL L scope) elt) : Option (CE Γ L (.ListComp elt [⟨tg, it, ifs, 0⟩, ⟨tg1, it1, ifs1, 0⟩] scope pos)) :=
  let own := ownOf L.N scope
  let vs1 := tgSl T1.F
  if h : blkC L.N L.sc scope own = true ∧ tgIn (own.map (·.2)) T.F = true ∧ tgIn vs1 T1.F = true ∧ (vs1.all fun v => (own.map (·.2)).contains v) = true then
    some ⟨lc2F (own.map (·.2)) vs1 T.F I.F Fi.F T1.F I1.F Fi1.F E.F, fun {X g C k} O => by
      have ok := blkOk_by h.1
      have hv : ∀ i ∈ vs1, i ∈ own.map (·.2) := fun i hi => by
        have := List.all_eq_true.mp h.2.2.2 i hi
        simpa using this
      refine PEn (pe_lc2 (g := gT X.K T.F) (g1 := gT X.K T1.F) O.cm (by rw [O.N]; exact O.nd) (I.ok O) (own := own) (vs1 := vs1) (by rw [O.N, O.sc]; exact ok) hv (fun s H Cc cl fp => T.ok (O.blk s H scope cl Cc fp)) (fun s H Cc cl fp => Fi.ok (O.blk s H scope cl Cc fp)) (fun s H Cc cl fp => I1.ok (O.blk s H scope cl Cc fp)) (fun s H Cc cl fp => T1.ok (O.blk s H scope cl Cc fp)) (fun s H Cc cl fp => Fi1.ok (O.blk s H scope cl Cc fp))
        (fun s H Cc cl fp => E.ok (O.blk s H scope cl Cc fp)) (I.fs _) I1.fs) fun σ H Q hσ q => ?_
      have := tLc2_le (n := L.N.length) (own_lt ok) hv (by rw [hσ, O.N]) T.n h.2.1 T1.n h.2.2.1 Fi.len Fi1.len q
      rw [← O.pr.hK] at this
      exact this⟩
  else none
end
end Ev
set_option Elab.async false
set_option maxRecDepth 100000
set_option maxHeartbeats 2000000
namespace Ev
open PySem PySem.Spec PyProof.Rows L2
set_option autoImplicit false
section
variable {g : Cg} {c : Fc} {w w' : W} {σ fv : Tv} {s : S} {C : Cl} {Dn : Ends}
theorem RepTs.ext {w1 w2 : W} (k : Ext w1 w2) (F : ∀ a, w1.Fz a → ∃ o, w1.H a = some o) : ∀ {ms : List M} {vs : List V} {wb : W}, RepTs g w1 wb ms vs → RepTs g w2 wb ms vs
  | [], _, _, h => h
  | m :: ms, vs, wb, h => by
    unfold RepTs at h ⊢
    obtain ⟨v, r, wn, e, rt, h1, h2, rs⟩ := h
    refine ⟨v, r, wn, e, ?_, h1, h2, RepTs.ext k F rs⟩
    cases m with
    | val d => exact Rep.le (k.le F) rt
    | odic _ => exact rt
    | slf _ => exact rt
    | own ds =>
      obtain ⟨a, us, e, hH, hr, hf, hm, hn⟩ := rt
      refine ⟨a, us, e, k.sub _ _ hH, RepL.le (k.le F) hr, fun z => ?_, by rw [k.mu]; exact hm, hn⟩
      rcases k.new a z with y | ⟨y, _⟩
      · exact hf y
      · rw [hH] at y
        cases y
theorem gTs_sets {K : PySem.W.Frag} : ∀ {is : List Nat} {vs : List V} {σ : Tv} {H : Hp} {Q : L2.St → Hp → Prop}, is.length = vs.length → Q (sets σ is vs) H → gTs K (is.map Tg.nm) vs σ H Q
  | [], [], σ, H, Q, _, q => by
    show gTs K [] [] σ H Q
    unfold gTs
    exact ⟨rfl, q⟩
  | [], _ :: _, _, _, _, h, _ => by cases h
  | _ :: _, [], _, _, _, h, _ => by cases h
  | i :: is, v :: vs, σ, H, Q, h, q => by
    show gTs K (Tg.nm i :: is.map Tg.nm) (v :: vs) σ H Q
    unfold gTs gT
    exact ⟨v, vs, rfl, gTs_sets (by simpa using h) q⟩
/-- a, b, .. = x, y, .. by a tuple -/
theorem tS_parT {is : List Nat} {fs : List SE} (hi : ∀ i ∈ is, i < σ.length) (hz : is.length ≤ 1000) {H : Hp} (h : tS g C (parF is fs) Dn σ H) : tAsg (tTup (tMs g C fs)) (gTup g.K is.length (gTs g.K (is.map Tg.nm))) Dn σ H := by
  obtain ⟨c, w, fv, s, rfl, S, h⟩ := h
  unfold parF at h
  rw [Res.sat_bind] at h
  refine ⟨c, w, fv, s, rfl, S, h.mono fun p h vs w1 A r => ?_⟩
  obtain ⟨ms, s1⟩ := p
  rw [Res.sat_bind] at h
  have go : ∀ p, w1.H p = none → is.length = vs.length ∧ gTup g.K is.length (gTs g.K (is.map Tg.nm)) (.ref p) σ (upd w1.H p (.tup vs)) Dn.nx := fun p hp => by
    have k := ext_new (w := w1) (o := .tup vs) hp
    obtain ⟨ρ', h, hl, S2⟩ := stos_ok hi (A.sim.ext k) (r.ext k A.sim.fz) (fun a h => S.new h) (fun a z => by
      obtain ⟨xs, e⟩ := S.owH (A.env.ow z)
      exact ⟨_, e⟩) h
    refine ⟨hl, p, vs, rfl, .inl (.inl upd_same), hl.symm, gTs_sets hl ?_⟩
    exact h _ fv _ (A.stp.le.trans (k.le A.sim.fz)) S2
  obtain ⟨ρ', _, hl, _⟩ := stos_ok hi A.sim r (fun a h => S.new h) (fun a z => by
    obtain ⟨xs, e⟩ := S.owH (A.env.ow z)
    exact ⟨_, e⟩) h
  have hs : sizeLine = 16777216 := sizeLine_eq
  exact ⟨by omega, fun p hp => (go p hp).2⟩
def retN : SS := fun _ s => .ok (.ret (.val .non), s)
theorem tS_retN {H : Hp} (h : tS g C retN Dn σ H) : tRetN Dn σ H := by
  obtain ⟨c, w, fv, s, rfl, S, h⟩ := h
  exact h .non σ fv w (Le.refl _) S rfl
def brkF : SS := fun _ s => .ok (.bk, s)
def cntF : SS := fun _ s => .ok (.ct, s)
theorem tS_brk {H : Hp} (h : tS g C brkF Dn σ H) : tBreak Dn σ H := by
  obtain ⟨c, w, fv, s, rfl, S, h⟩ := h
  exact h σ fv w (Le.refl _) S
theorem tS_cnt {H : Hp} (h : tS g C cntF Dn σ H) : tCont Dn σ H := by
  obtain ⟨c, w, fv, s, rfl, S, h⟩ := h
  exact h σ fv w (Le.refl _) S
end

def bk (sc : Scope) : ScopeKind := if sc.kind.isAnnotationScope then .function else sc.kind
def swB (sc s : Scope) (t : Str) (tp vp : Pos) : Bool := bk sc == .function && sc.names.lookup t == some .local && tp.line == vp.line && !(s.names.any fun (n, k) => n == t && (k == .local || k == .cell))
theorem swB_ok {elt : Expr} {gs : List Comprehension} {s : Scope} {p tp : Pos} {t : Str} {line : Nat} {env : Env} : swapsWith (.ListComp elt gs s p) (some (.Name t tp)) line env = pure (swB env.scope s t tp p) := rfl
def noComp : Expr → Bool
  | .ListComp _ _ _ _ => false
  | .SetComp _ _ _ _ => false
  | .DictComp _ _ _ _ _ => false
  | _ => true
theorem noComp_ok {e : Expr} (h : noComp e = true) (t : Option Expr) (line : Nat) (env : Env) : swapsWith e t line env = pure false := by
  cases e <;> first | rfl | cases h
def noName : Expr → Bool
  | .Name _ _ => false
  | _ => true
theorem noName_ok {t : Expr} (h : noName t = true) (e : Expr) (line : Nat) (env : Env) : swapsWithSole [t] e line env = pure false := by
  show swapsWith e (some t) line env = pure false
  cases t <;> first | (cases e <;> rfl) | cases h
def isStar : Expr → Bool
  | .Starred _ _ => true
  | _ => false
def swLine (ts : List Expr) : Nat := (ts.head?.map (·.pos.line)).getD 0
def swNames (sc : Scope) (line : Nat) (ts : List Expr) : List Str := ts.filterMap fun
  | .Name id pos => if sc.names.lookup id == some .local && pos.line == line then some id else none
  | _ => none
def swNone (sc : Scope) (ts vs : List Expr) : Bool := !(ts.length == 2 || ts.length == 3) || vs.length != ts.length || bk sc != .function || vs.any isStar || (swNames sc (swLine ts) ts).length != ts.length || (swNames sc (swLine ts) ts).eraseDups.length != (swNames sc (swLine ts) ts).length || vs.all (foldedForSure 8)
theorem isStar_eq : (fun | Expr.Starred .. => true | _ => false : Expr → Bool) = isStar := by
  funext e
  cases e <;> rfl
theorem swNone_ok {env : Env} {ts vs : List Expr} {k1 k2 : Nat} {p1 p2 : Pos} (h : swNone env.scope ts vs = true) : swappedStores [.Tuple ts k1 p1] (.Tuple vs k2 p2) env = pure none := by
  have e0 : swappedStores [.Tuple ts k1 p1] (.Tuple vs k2 p2) env = (if (!(ts.length == 2 || ts.length == 3) || vs.length != ts.length || bk env.scope != .function) = true then pure none else if vs.any isStar = true then pure none else
      if ((swNames env.scope (swLine ts) ts).length != ts.length || (swNames env.scope (swLine ts) ts).eraseDups.length != (swNames env.scope (swLine ts) ts).length) = true then pure none else if vs.all (foldedForSure 8) = true then pure none else
      if vs.all (constantsAlone 8) = true then ((unsupported "assign.tuple-of-constant-expressions:order-of-the-stores" : Sem PUnit) >>= fun _ => pure (some (swNames env.scope (swLine ts) ts))) else pure (some (swNames env.scope (swLine ts) ts))) := by
    rw [← isStar_eq]
    rfl
  rw [e0]
  unfold swNone at h
  split
  · rfl
  · rename_i h1
    split
    · rfl
    · rename_i h2
      split
      · rfl
      · rename_i h3
        split
        · rfl
        · rename_i h4
          rw [Bool.not_eq_true] at h1 h2 h3 h4
          rw [h4, h2] at h
          simp only [Bool.or_false, Bool.or_eq_true] at h
          simp only [Bool.or_eq_false_iff] at h1 h3
          rcases h with ((h | h) | h) | h
          · rcases h with h | h
            · rw [h1.1.1] at h; cases h
            · rw [h1.1.2] at h; cases h
          · rw [h1.2] at h; cases h
          · rw [h3.1] at h; cases h
          · rw [h3.2] at h; cases h
theorem swSome_ok {env : Env} {ts vs : List Expr} {k1 k2 : Nat} {p1 p2 : Pos} (h : swNone env.scope ts vs = false) (hc : vs.all (constantsAlone 8) = false) : swappedStores [.Tuple ts k1 p1] (.Tuple vs k2 p2) env = pure (some (swNames env.scope (swLine ts) ts)) := by
  have e0 : swappedStores [.Tuple ts k1 p1] (.Tuple vs k2 p2) env = (if (!(ts.length == 2 || ts.length == 3) || vs.length != ts.length || bk env.scope != .function) = true then pure none else if vs.any isStar = true then pure none else
      if ((swNames env.scope (swLine ts) ts).length != ts.length || (swNames env.scope (swLine ts) ts).eraseDups.length != (swNames env.scope (swLine ts) ts).length) = true then pure none else if vs.all (foldedForSure 8) = true then pure none else
      if vs.all (constantsAlone 8) = true then ((unsupported "assign.tuple-of-constant-expressions:order-of-the-stores" : Sem PUnit) >>= fun _ => pure (some (swNames env.scope (swLine ts) ts))) else pure (some (swNames env.scope (swLine ts) ts))) := by
    rw [← isStar_eq]
    rfl
  rw [e0]
  unfold swNone at h
  simp only [Bool.or_eq_false_iff] at h
  obtain ⟨⟨⟨⟨⟨⟨h1, h2⟩, h3⟩, h4⟩, h5⟩, h6⟩, h7⟩ := h
  rw [if_neg (by simp only [h1, h2, h3]; decide), if_neg (by rw [h4]; decide), if_neg (by simp only [h5, h6]; decide), if_neg (by rw [h7]; decide), if_neg (by rw [hc]; decide)]
/-- x = e: what is never changed in place is frozen at once -/
def setX (mu : Bool) (i : Nat) (f : SE) : SS := if mu = true then setF i f else asgF (.nm i) f
section
variable {g : Cg} {c : Fc} {w w' : W} {σ fv : Tv} {s : S} {C : Cl} {Dn : Ends}
theorem tS_setX {mu : Bool} {i : Nat} (hi : i < σ.length) {f : SE} {H : Hp} (h : tS g C (setX mu i f) Dn σ H) : tAsg (tE g C f) (gName i) Dn σ H := by
  unfold setX at h
  split at h
  · exact tS_set hi h
  · have := tS_asg (t := .nm i) (by unfold tgOk; exact decide_eq_true hi) h
    unfold gT at this
    exact this
end
def zsI (L : Lc) (is : List Nat) : List Nat := is.filter fun i => match L.N[i]? with
  | some x => !L.mu.contains x
  | none => false
section
variable {Γ : Gm} {L : Lc}
/-- x = e -/
def csSet (x : Str) (tp pos : Pos) (e : Expr) (A : CE Γ L e) : Option (CS Γ L (.Assign [.Name x tp] e pos)) :=
  let i := slot L.N x
  if h : L.N[i]? = some x ∧ locC L.sc x = true ∧ stC L x = true ∧ noComp e = true then
    some ⟨setX (L.mu.contains x) i A.F, fun {X g C k} O => PSn (ps_set (by rw [O.N]; exact O.nd) (by rw [O.N]; exact h.1) (by rw [O.sc]; exact locC_ok h.2.1) (A.ok O) (noComp_ok h.2.2.2 _ _ _) (stC_ok O h.2.2.1)) fun D σ H hl q => tS_setX (slot_lt O h.1 hl) q⟩
  else none
def csSetC (x : Str) (tp pos : Pos) (elt : Expr) (gs : List Comprehension) (sc : Scope) (p : Pos) (A : CE Γ L (.ListComp elt gs sc p)) : Option (CS Γ L (.Assign [.Name x tp] (.ListComp elt gs sc p) pos)) :=
  let i := slot L.N x
  if h : L.N[i]? = some x ∧ locC L.sc x = true ∧ stC L x = true ∧ swB L.sc sc x tp p = false then
    some ⟨setX (L.mu.contains x) i A.F, fun {X g C k} O => PSn (ps_set (by rw [O.N]; exact O.nd) (by rw [O.N]; exact h.1) (by rw [O.sc]; exact locC_ok h.2.1) (A.ok O) (by rw [swB_ok, O.sc, h.2.2.2]) (stC_ok O h.2.2.1)) fun D σ H hl q => tS_setX (slot_lt O h.1 hl) q⟩
  else none
def lcl (sc : Scope) (x : Str) : Bool := match sc.names.lookup x with
  | some .local => true
  | _ => false
theorem lcl_ok {sc : Scope} {x : Str} (h : lcl sc x = true) : sc.names.lookup x = some .local := by
  unfold lcl at h
  split at h
  · assumption
  · cases h
def csLc (x : Str) (tp pos : Pos) (elt tg it : Expr) (ifs : List Expr) (scope : Scope) (p : Pos) (I : CI Γ L tg it) (T : CG Γ (blkL L scope) tg) (Fi : CIf Γ (blkL L scope) ifs) (E : CE Γ (blkL L scope) elt) : Option (CS Γ L (.Assign [.Name x tp] (.ListComp elt [⟨tg, it, ifs, 0⟩] scope p) pos)) :=
  let own := ownOf L.N scope
  let i := slot L.N x
  if h : (blkC L.N L.sc scope own = true ∧ tgIn (own.map (·.2)) T.F = true) ∧ L.N[i]? = some x ∧ lcl L.sc x = true ∧ swB L.sc scope x tp p = true then
    some ⟨setX (L.mu.contains x) i (lcF (own.map (·.2)) T.F I.F Fi.F E.F), fun {X g C k} O => by
      have ok := blkOk_by h.1.1
      refine PSn (ps_setLc (g := gT X.K T.F) (i := i) O.cm (by rw [O.N]; exact O.nd) (by rw [O.N]; exact h.2.1) (by rw [O.sc]; exact lcl_ok h.2.2.1) (by rw [swB_ok, O.sc, h.2.2.2]) (I.ok O) (own := own) (by rw [O.N, O.sc]; exact ok) (fun s H Cc cl fp => T.ok (O.blk s H scope cl Cc fp)) (fun s H Cc cl fp => Fi.ok (O.blk s H scope cl Cc fp)) (fun s H Cc cl fp => E.ok (O.blk s H scope cl Cc fp)) (I.fs _)) fun D σ H hσ q => ?_
      have := tLc_le (n := L.N.length) (own_lt ok) (by rw [hσ, O.N]) T.n h.1.2 Fi.len (tS_setX (slot_lt O h.2.1 hσ) q)
      rw [← O.pr.hK] at this
      exact this⟩
  else none
def csLc2 (x : Str) (tp pos : Pos) (elt tg it tg1 it1 : Expr) (ifs ifs1 : List Expr) (scope : Scope) (p : Pos) (I : CI Γ L tg it) (T : CG Γ (blkL L scope) tg) (Fi : CIf Γ (blkL L scope) ifs) (I1 : CI Γ (blkL L scope) tg1 it1) (T1 : CG Γ (blkL L scope) tg1) (Fi1 : CIf Γ (blkL L scope) ifs1)
    (E : CE Γ (blkL L scope) elt) : Option (CS Γ L (.Assign [.Name x tp] (.ListComp elt [⟨tg, it, ifs, 0⟩, ⟨tg1, it1, ifs1, 0⟩] scope p) pos)) :=
  let own := ownOf L.N scope
  let vs1 := tgSl T1.F
  let i := slot L.N x
  if h : (blkC L.N L.sc scope own = true ∧ tgIn (own.map (·.2)) T.F = true ∧ tgIn vs1 T1.F = true ∧ (vs1.all fun v => (own.map (·.2)).contains v) = true) ∧ L.N[i]? = some x ∧ lcl L.sc x = true ∧ swB L.sc scope x tp p = true then
    some ⟨setX (L.mu.contains x) i (lc2F (own.map (·.2)) vs1 T.F I.F Fi.F T1.F I1.F Fi1.F E.F), fun {X g C k} O => by
      have ok := blkOk_by h.1.1
      have hv : ∀ i ∈ vs1, i ∈ own.map (·.2) := fun i hi => by
        have := List.all_eq_true.mp h.1.2.2.2 i hi
        simpa using this
      refine PSn (ps_setLc2 (g := gT X.K T.F) (g1 := gT X.K T1.F) (i := i) O.cm (by rw [O.N]; exact O.nd) (by rw [O.N]; exact h.2.1) (by rw [O.sc]; exact lcl_ok h.2.2.1) (by rw [swB_ok, O.sc, h.2.2.2]) (I.ok O) (own := own) (vs1 := vs1) (by rw [O.N, O.sc]; exact ok) hv (fun s H Cc cl fp => T.ok (O.blk s H scope cl Cc fp)) (fun s H Cc cl fp => Fi.ok (O.blk s H scope cl Cc fp))
        (fun s H Cc cl fp => I1.ok (O.blk s H scope cl Cc fp)) (fun s H Cc cl fp => T1.ok (O.blk s H scope cl Cc fp)) (fun s H Cc cl fp => Fi1.ok (O.blk s H scope cl Cc fp)) (fun s H Cc cl fp => E.ok (O.blk s H scope cl Cc fp)) (I.fs _) I1.fs) fun D σ H hσ q => ?_
      have := tLc2_le (n := L.N.length) (own_lt ok) hv (by rw [hσ, O.N]) T.n h.1.2.1 T1.n h.1.2.2.1 Fi.len Fi1.len (tS_setX (slot_lt O h.2.1 hσ) q)
      rw [← O.pr.hK] at this
      exact this⟩
  else none
/-- target = e, by the value's tuple -/
def noTup : Expr → Bool
  | .Tuple _ _ _ => false
  | .List _ _ => false
  | _ => true
theorem sws_ok {tg e : Expr} (h : noTup e = true) (env : Env) : swappedStores [tg] e env = pure none := by
  unfold swappedStores
  cases e <;> first | (cases tg <;> rfl) | cases h
def csAsg (tg e : Expr) (pos : Pos) (T : CG Γ L tg) (A : CE Γ L e) : Option (CS Γ L (.Assign [tg] e pos)) :=
  if h : noName tg = true ∧ noTup e = true ∧ notStar tg = true then
    some ⟨asgF T.F A.F, fun {X g C k} O => PSn (ps_asg (A.ok O) (T.ok O) (noName_ok h.1 _ _ _) (sws_ok h.2.1 _) (by rw [asg_cons h.2.2]; rfl)) fun D σ H hl q => by rw [O.pr.hK]; exact tS_asg (by rw [hl, O.N]; exact T.n) q⟩
  else none
/-- names of one display -/
def nmsOf (N : List Str) : List Expr → Option (List Nat)
  | [] => some []
  | .Name x _ :: es => match nmsOf N es with
    | some is => some (slot N x :: is)
    | none => none
  | _ => none
def csPar2 (x y : Str) (px py pt p2 pos : Pos) (kt k2 : Nat) (a b : Expr) (A : CA Γ L [a, b]) : Option (CS Γ L (.Assign [.Tuple [.Name x px, .Name y py] kt pt] (.Tuple [a, b] k2 p2) pos)) :=
  let i := slot L.N x
  let j := slot L.N y
  if h : L.N[i]? = some x ∧ L.N[j]? = some y ∧ i ≠ j ∧ lcl L.sc x = true ∧ lcl L.sc y = true ∧ swNone L.sc [.Name x px, .Name y py] [a, b] = false ∧ [a, b].all (constantsAlone 8) = false ∧ swNames L.sc (swLine [.Name x px, .Name y py]) [.Name x px, .Name y py] = [x, y] then
    some ⟨seqF (parF [i, j] A.F) (fzF (zsI L [i, j])), fun {X g C k} O => by
      obtain ⟨h1, h2, h3, h4, h5, h6, h7, h8⟩ := h
      rw [← O.sc] at h4 h5 h6 h8
      refine PSn (ps_par (i := i) (j := j) O.cm (by rw [O.N]; exact O.nd) (by rw [O.N]; exact h1) (by rw [O.N]; exact h2) h3 (lcl_ok h4) (lcl_ok h5) (A.m O) (by rw [swSome_ok h6 h7, h8]) (noName_ok rfl _ _ _)) fun D σ H hl q => ?_
      have := tS_par (is := [i, j]) (fun l hm => by
        rcases List.mem_cons.mp hm with z | z
        · rw [z]; exact slot_lt O h1 hl
        · rw [List.mem_singleton.mp z]; exact slot_lt O h2 hl) (tS_fz q)
      obtain ⟨c, w, fv, s, e, S, this⟩ := this
      refine ⟨c, w, fv, s, e, S, this.mono fun p z vs w' A r => ?_⟩
      obtain ⟨hlen, z⟩ := z vs w' A r
      match vs, hlen, z with
      | [u, v], _, z => exact ⟨u, v, rfl, z⟩⟩
  else none
def csPar3 (x y w' : Str) (px py pw pt p2 pos : Pos) (kt k2 : Nat) (a b d : Expr) (A : CA Γ L [a, b, d]) : Option (CS Γ L (.Assign [.Tuple [.Name x px, .Name y py, .Name w' pw] kt pt] (.Tuple [a, b, d] k2 p2) pos)) :=
  let i := slot L.N x
  let j := slot L.N y
  let l := slot L.N w'
  if h : L.N[i]? = some x ∧ L.N[j]? = some y ∧ L.N[l]? = some w' ∧ (i ≠ j ∧ i ≠ l ∧ j ≠ l) ∧ (lcl L.sc x = true ∧ lcl L.sc y = true ∧ lcl L.sc w' = true) ∧ swNone L.sc [.Name x px, .Name y py, .Name w' pw] [a, b, d] = false ∧ [a, b, d].all (constantsAlone 8) = false ∧ swNames L.sc (swLine [.Name x px, .Name y py, .Name w' pw]) [.Name x px, .Name y py, .Name w' pw] = [x, y, w'] then
    some ⟨seqF (parF [i, j, l] A.F) (fzF (zsI L [i, j, l])), fun {X g C k} O => by
      obtain ⟨h1, h2, h2', ⟨h3, h3', h3''⟩, ⟨h4, h5, h5'⟩, h6, h7, h8⟩ := h
      rw [← O.sc] at h4 h5 h5' h6 h8
      refine PSn (ps_par3 (i := i) (j := j) (l := l) O.cm (by rw [O.N]; exact O.nd) (by rw [O.N]; exact h1) (by rw [O.N]; exact h2) (by rw [O.N]; exact h2') h3 h3' h3'' (lcl_ok h4) (lcl_ok h5) (lcl_ok h5') (A.m O) (by rw [swSome_ok h6 h7, h8]) (noName_ok rfl _ _ _)) fun D σ H hl q => ?_
      have := tS_par (is := [i, j, l]) (fun z hm => by
        simp only [List.mem_cons, List.not_mem_nil, or_false] at hm
        rcases hm with z | z | z
        · rw [z]; exact slot_lt O h1 hl
        · rw [z]; exact slot_lt O h2 hl
        · rw [z]; exact slot_lt O h2' hl) (tS_fz q)
      obtain ⟨c, w, fv, s, e, S, this⟩ := this
      refine ⟨c, w, fv, s, e, S, this.mono fun p z vs w' A r => ?_⟩
      obtain ⟨hlen, z⟩ := z vs w' A r
      match vs, hlen, z with
      | [u, v, t], _, z => exact ⟨u, v, t, rfl, z⟩⟩
  else none
def isNms : List Tg → List Nat → Bool
  | [], [] => true
  | .nm i :: ts, j :: js => i == j && isNms ts js
  | _, _ => false
theorem isNms_ok : ∀ {ts : List Tg} {is : List Nat}, isNms ts is = true → ts = is.map Tg.nm
  | [], [], _ => rfl
  | [], _ :: _, h => by cases h
  | .nm i :: ts, j :: js, h => by
    have h : (i == j && isNms ts js) = true := h
    rw [Bool.and_eq_true] at h
    rw [eq_of_beq h.1, isNms_ok h.2]
    rfl
  | .nm _ :: _, [], h => by cases h
  | .tp _ :: _, _, h => by cases h
def csParT (ts vs : List Expr) (kt k2 : Nat) (pt p2 pos : Pos) (T : CG Γ L (.Tuple ts kt pt)) (A : CA Γ L vs) (is : List Nat) : Option (CS Γ L (.Assign [.Tuple ts kt pt] (.Tuple vs k2 p2) pos)) :=
  match hT : T.F with
  | .tp tgs => if h : isNms tgs is = true ∧ swNone L.sc ts vs = true ∧ (is.all fun i => decide (i < L.N.length)) = true ∧ is.length ≤ 1000 then
      some ⟨seqF (parF is A.F) (fzF (zsI L is)), fun {X g C k} O => by
        obtain ⟨h1, h2, h3, h4⟩ := h
        rw [← O.sc] at h2
        refine PSn (ps_asg (pe_tup (A.m O)) (T.ok O) (noName_ok rfl _ _ _) (swNone_ok h2) (by rw [asg_cons rfl]; rfl)) fun D σ H hl q => ?_
        have := tS_parT (fun i hi => by
          have := List.all_eq_true.mp h3 i hi
          rw [hl, O.N]
          exact of_decide_eq_true this) h4 (tS_fz q)
        rw [hT, isNms_ok h1]
        unfold gT
        rw [O.pr.hK, List.length_map]
        exact this⟩
    else none
  | _ => none
/-- x[e] = v -/
def csIx (x : Str) (p tp pos : Pos) (ix e : Expr) (B : CE Γ L ix) (A : CE Γ L e) : Option (CS Γ L (.Assign [.Subscript (.Name x p) ix tp] e pos)) :=
  let i := slot L.N x
  if h : L.N[i]? = some x ∧ visC L.sc x = true ∧ (x == ("__debug__" : Str)) = false ∧ (x == ("__classdict__" : Str)) = false ∧ ixC ix = true then
    some ⟨setIxF i B.F A.F, fun {X g C k} O => by
      have hv : PE X (.Name x p) (tVar i) := pe_var (i := i) (by rw [O.N]; exact h.1) (by rw [O.sc]; exact visC_ok h.2.1) h.2.2.1 h.2.2.2.1
      have hx := h.2.2.2.2
      exact PSn (ps_asg (A.ok O) (pg_sub hv (B.ok O) set_list (fun _ => by cases ix <;> first | rfl | cases hx)) (noName_ok rfl _ _ _) (by unfold swappedStores; cases e <;> rfl) rfl) fun D σ H hl q => tS_setIx (slot_lt O h.1 hl) q⟩
  else none
/-- self.f = e in a constructor -/
def csSlf (cc : Nat) (x f : Str) (p tp pos : Pos) (e : Expr) (A : CE Γ L e) : Option (CS Γ L (.Assign [.Attribute (.Name x p) f tp] e pos)) :=
  match hl : Γ.fds.lookup f with
  | some cs => match hc : cs.lookup cc with
    | some j => if h : L.N[0]? = some x ∧ visC L.sc x = true ∧ ((x == ("__debug__" : Str)) = false ∧ (x == ("__classdict__" : Str)) = false) then
        some ⟨sfSet cc L.N.length j A.F, fun {X g C k} O => by
          have hv : PE X (.Name x p) (tVar 0) := pe_var (i := 0) (by rw [O.N]; exact h.1) (by rw [O.sc]; exact visC_ok h.2.1) h.2.2.1 h.2.2.2
          exact PSn (SlX.ps_sl hv (A.ok O) (by cases e <;> rfl)) fun D σ H hσ q => by rw [O.pr.hK]; exact tS_sf (slfOk O hl hc) (by rw [hσ, O.N]) (slot0 O h.1) q⟩
      else none
    | none => none
  | none => none
def csAug (x : Str) (tp pos : Pos) (e : Expr) (A : CE Γ L e) : Option (CS Γ L (.AugAssign (.Name x tp) .Add e pos)) :=
  let i := slot L.N x
  if h : L.N[i]? = some x ∧ locC L.sc x = true ∧ stC L x = true then
    some ⟨augF i A.F, fun {X g C k} O => PSn (ps_aug (i := i) (by rw [O.N]; exact O.nd) (by rw [O.N]; exact h.1) (by rw [O.sc]; exact locC_ok h.2.1) (A.ok O) ip_add (stC_ok O h.2.2)) fun D σ H hl q => tS_aug (slot_lt O h.1 hl) q⟩
  else none
/-- x.append(e) -/
def csApp (x m : Str) (p apos cpos pos : Pos) (e : Expr) (A : CE Γ L e) : Option (CS Γ L (.Expr (.Call (.Attribute (.Name x p) m apos) [e] [] cpos) pos)) :=
  let i := slot L.N x
  if h : ("append" : Str) = m ∧ L.N[i]? = some x ∧ visC L.sc x = true ∧ ((x == ("__debug__" : Str)) = false ∧ (x == ("__classdict__" : Str)) = false) ∧ (apos.endLine == cpos.line) = true ∧ notStar e = true then
    some ⟨appF i A.F, fun {X g C k} O => by
      have hv : PE X (.Name x p) (tVar i) := pe_var (i := i) (by rw [O.N]; exact h.2.1) (by rw [O.sc]; exact visC_ok h.2.2.1) h.2.2.2.1.1 h.2.2.2.1.2
      have hs : [e].all notStar = true := by simp [h.2.2.2.2.2]
      have hp := pe_bm (cpos := cpos) (apos := apos) (name := m) PySem.F.plainAttrs_list (by rw [← h.1]; exact PySem.F.slot_list_append) PySem.F.type_list_append mt_append hv (pa_cons (A.ok O) pa_nil (star_cons h.2.2.2.2.2 _ _)) (base_plain rfl _ _ _) (few_ok hs (by simp) _ _) h.2.2.2.2.1 (star_cons h.2.2.2.2.2 _ _) (by rfl)
      exact PSn (ps_expr hp rfl) fun D σ H hl q => by rw [O.pr.hK]; exact tS_app (slot_lt O h.2.1 hl) q⟩
  else none
/-- x.extend(e) -/
def csExt (x m : Str) (p apos cpos pos : Pos) (e : Expr) (A : CE Γ L e) : Option (CS Γ L (.Expr (.Call (.Attribute (.Name x p) m apos) [e] [] cpos) pos)) :=
  let i := slot L.N x
  if h : ("extend" : Str) = m ∧ L.N[i]? = some x ∧ visC L.sc x = true ∧ ((x == ("__debug__" : Str)) = false ∧ (x == ("__classdict__" : Str)) = false) ∧ (apos.endLine == cpos.line) = true ∧ notStar e = true then
    some ⟨extF i A.F, fun {X g C k} O => by
      have hv : PE X (.Name x p) (tVar i) := pe_var (i := i) (by rw [O.N]; exact h.2.1) (by rw [O.sc]; exact visC_ok h.2.2.1) h.2.2.2.1.1 h.2.2.2.1.2
      have hs : [e].all notStar = true := by simp [h.2.2.2.2.2]
      have hp := pe_bm (cpos := cpos) (apos := apos) (name := m) PySem.F.plainAttrs_list (by rw [← h.1]; exact PySem.F.slot_list_extend) PySem.F.type_list_extend mt_extend hv (pa_cons (A.ok O) pa_nil (star_cons h.2.2.2.2.2 _ _)) (base_plain rfl _ _ _) (few_ok hs (by simp) _ _) h.2.2.2.2.1 (star_cons h.2.2.2.2.2 _ _) (by rfl)
      exact PSn (ps_expr hp rfl) fun D σ H hl q => by rw [O.pr.hK]; exact tS_ext (slot_lt O h.2.1 hl) q⟩
  else none
def csAppS (cc : Nat) (x f m : Str) (p fp apos cpos pos : Pos) (e : Expr) (A : CE Γ L e) : Option (CS Γ L (.Expr (.Call (.Attribute (.Attribute (.Name x p) f fp) m apos) [e] [] cpos) pos)) :=
  match hl : Γ.fds.lookup f with
  | some cs => match hc : cs.lookup cc with
    | some j => if h : L.N[0]? = some x ∧ visC L.sc x = true ∧ ((x == ("__debug__" : Str)) = false ∧ (x == ("__classdict__" : Str)) = false) ∧ ("append" : Str) = m ∧ (apos.endLine == cpos.line) = true ∧ notStar e = true then
        some ⟨sfApp cc L.N.length j A.F, fun {X g C k} O => by
          have hv : PE X (.Name x p) (tVar 0) := pe_var (i := 0) (by rw [O.N]; exact h.1) (by rw [O.sc]; exact visC_ok h.2.1) h.2.2.1.1 h.2.2.1.2
          have hs : [e].all notStar = true := by simp [h.2.2.2.2.2]
          have hp := pe_bm (cpos := cpos) (apos := apos) (name := m) PySem.F.plainAttrs_list (by rw [← h.2.2.2.1]; exact PySem.F.slot_list_append) PySem.F.type_list_append mt_append (SlX.pe_sl (f := f) (pos := fp) hv (base_plain rfl _ _ _)) (pa_cons (A.ok O) pa_nil (star_cons h.2.2.2.2.2 _ _)) (base_plain rfl _ _ _) (few_ok hs (by simp) _ _) h.2.2.2.2.1 (star_cons h.2.2.2.2.2 _ _) (by rfl)
          exact PSn (ps_expr hp rfl) fun D σ H hσ q => by rw [O.pr.hK]; exact tS_sfApp (slfOk O hl hc) (by rw [hσ, O.N]) (slot0 O h.1) q⟩
      else none
    | none => none
  | none => none
def csCall (f : Expr) (es : List Expr) (kws : List Keyword) (cpos pos : Pos) (A : CE Γ L (.Call f es kws cpos)) : CS Γ L (.Expr (.Call f es kws cpos) pos) :=
  ⟨expF A.F, fun {X g C k} O => PSm (ps_expr (A.ok O) rfl) fun D σ H q => tS_exp q⟩
def csDoc (x : Str) (j : Nat) (p pos : Pos) : CS Γ L (.Expr (.Constant (.str x) j p) pos) := ⟨nxF, fun {X g C k} O => PSm ps_doc fun D σ H q => tS_nx q⟩
def csRet (e : Expr) (pos : Pos) (A : CE Γ L e) : CS Γ L (.Return (some e) pos) := ⟨retF A.F, fun {X g C k} O => PSm (ps_ret (A.ok O)) fun D σ H q => tS_ret q⟩
def csRetN (pos : Pos) : CS Γ L (.Return none pos) := ⟨retN, fun {X g C k} O => PSm ps_retN fun D σ H q => tS_retN q⟩
def csIf (t : Expr) (a b : List Stmt) (pos : Pos) (T : CT Γ L t) (A : CB Γ L a) (B : CB Γ L b) : CS Γ L (.If t a b pos) := ⟨ifF T.F A.F B.F, fun {X g C k} O => PSm (ps_if (T.ok O) (A.ok O) (B.ok O)) fun D σ H q => tS_if q⟩
def csFor (tg it : Expr) (body : List Stmt) (pos : Pos) (I : CI Γ L tg it) (T : CG Γ L tg) (B : CB Γ L body) : CS Γ L (.For tg it body [] pos) :=
  ⟨forF T.F I.F B.F, fun {X g C k} O => PSn (ps_for O.po O.cm (I.ok O) (T.ok O) (B.ok O) (I.fs _)) fun D σ H hl q => by rw [O.pr.hK]; exact tS_for T.n (by rw [hl, O.N]) q⟩
def csWhile (t : Expr) (body : List Stmt) (pos : Pos) (T : CT Γ L t) (B : CB Γ L body) : CS Γ L (.While t body [] pos) :=
  ⟨whileF T.F B.F, fun {X g C k} O => PSm (ps_while O.po (T.ok O) (B.ok O)) fun D σ H q => tS_while q⟩
def csPass (pos : Pos) : CS Γ L (.Pass pos) := ⟨nxF, fun {X g C k} O => PSm ps_pass fun D σ H q => tS_nx q⟩
def csBrk (pos : Pos) : CS Γ L (.Break pos) := ⟨brkF, fun {X g C k} O => PSm ps_break fun D σ H q => tS_brk q⟩
def csCnt (pos : Pos) : CS Γ L (.Continue pos) := ⟨cntF, fun {X g C k} O => PSm ps_continue fun D σ H q => tS_cnt q⟩
def cbOf (r : (s : Stmt) → CS Γ L s) : (ss : List Stmt) → CB Γ L ss
  | [] => ⟨nxF, fun {X g C k} O => PSsm pss_nil fun D σ H q => tS_nx q⟩
  | s :: ss => ⟨seqF (r s).F (cbOf r ss).F, fun {X g C k} O => PSsm (pss_cons ((r s).ok O) ((cbOf r ss).ok O)) fun D σ H q => tS_seq q⟩
end

structure Rc (Γ : Gm) where
  e : (L : Lc) → (e : Expr) → CE Γ L e
  t : (L : Lc) → (e : Expr) → CT Γ L e
  s : (L : Lc) → (s : Stmt) → CS Γ L s
def orO {α : Type} : Option α → Option α → Option α
  | some a, _ => some a
  | none, b => b
section
variable {Γ : Gm} (r : Rc Γ) (L : Lc)
def ciOf (tg e : Expr) : Option (CI Γ L tg e) := match e with
  | .Call (.Name x p) [a] [] pos => orO (ciRng1 tg x p pos a (r.e L a)) (orO (match tg with
    | .Tuple elts kk tp => ciEnum0 elts kk tp x p pos a (r.e L a)
    | _ => none) (ciSeq tg _ (r.e L (.Call (.Name x p) [a] [] pos))))
  | .Call (.Name x p) [a, b] [] pos => orO (ciRng2 tg x p pos a b (r.e L a) (r.e L b)) (orO (match tg with
    | .Tuple elts kk tp => orO (match b with
      | .Constant (.int i) j cp => ciEnumK elts kk tp x p pos cp a i j (r.e L a)
      | _ => none) (ciZip elts kk tp x p pos a b (r.e L a) (r.e L b))
    | _ => none) (ciSeq tg _ (r.e L (.Call (.Name x p) [a, b] [] pos))))
  | .Call (.Name x p) [a, b, d] [] pos => orO (ciRng3 tg x p pos a b d (r.e L a) (r.e L b) (r.e L d)) (ciSeq tg _ (r.e L (.Call (.Name x p) [a, b, d] [] pos)))
  | e => ciSeq tg e (r.e L e)
def ceCallN (x : Str) (p pos : Pos) (es : List Expr) : Option (CE Γ L (.Call (.Name x p) es [] pos)) :=
  match caList (fun e => some (r.e L e)) es with
  | some a => match bltBs.find? (fun b => b.name == x) with
    | some b => ceBltB b x p pos es a
    | none => match bltTs.find? (fun b => b.name == x) with
      | some b => ceBltT b x p pos es a
      | none => orO (ceFn x p pos es a) (ceCls x p pos es a)
  | none => none
def ceIsi (x : Str) (p pos : Pos) (e t : Expr) : Option (CE Γ L (.Call (.Name x p) [e, t] [] pos)) := match t with
  | .Name y q => match ctyOf (Γ := Γ) (L := L) (.Name y q) with
    | some B => ceIsi1 x p pos e (.Name y q) (r.e L e) B
    | none => none
  | .Tuple ts j tp => match ctysOf (Γ := Γ) (L := L) ts with
    | some B => ceIsiT x p pos tp j e ts (r.e L e) B
    | none => none
  | _ => none
def stepE : (e : Expr) → CE Γ L e
  | .Name x pos => (orO (ceName x pos) (ceCst x pos)).getD (ceStk _)
  | .Constant c j pos => (ceConst c j pos).getD (ceStk _)
  | .Tuple es j pos => match caList (fun e => some (r.e L e)) es with
    | some a => ceTup es j pos a
    | none => match cdList (r.e L) es with
      | some a => ceTupS es j pos a
      | none => ceStk _
  | .List es pos => match caList (fun e => some (r.e L e)) es with
    | some a => ceLst es pos a
    | none => match cdList (r.e L) es with
      | some a => ceLstS es pos a
      | none => ceStk _
  | .BinOp a op b pos => (ceBin a b op pos (r.e L a) (r.e L b)).getD (ceStk _)
  | .Compare a [op] [.Constant .none j p] pos => (orO (ceIsN a op j p pos (r.e L a)) (ceCmp a _ op pos (r.e L a) (r.e L (.Constant .none j p)))).getD (ceStk _)
  | .Compare a [op] [.Constant (.bool b) j p] pos => (orO (ceIsB a op b j p pos (r.e L a)) (ceCmp a _ op pos (r.e L a) (r.e L (.Constant (.bool b) j p)))).getD (ceStk _)
  | .Compare a [op] [b] pos => (ceCmp a b op pos (r.e L a) (r.e L b)).getD (ceStk _)
  | .Compare a [o1, o2] [b, d] pos => (ceChain a b d o1 o2 pos (r.e L a) (r.e L b) (r.e L d)).getD (ceStk _)
  | .BoolOp op es pos => (ceBoolOp (fun e => some (r.e L e)) op es pos).getD (ceStk _)
  | .UnaryOp .Not a pos => ceNot a pos (r.e L a)
  | .UnaryOp .USub a pos => ceNeg a pos (r.e L a)
  | .IfExp t a b pos => ceIf t a b pos (r.t L t) (r.e L a) (r.e L b)
  | .Subscript a (.Slice none none (some (.UnaryOp .USub (.Constant (.int 1) j p1) p2)) p3) pos => ceRev a j p1 p2 p3 pos (r.e L a)
  | .Subscript a (.Slice lo hi none p) pos => match cpOf (fun e => some (r.e L e)) lo, cpOf (fun e => some (r.e L e)) hi with
    | some B, some E => ceSl a lo hi p pos (r.e L a) B E
    | _, _ => ceStk _
  | .Subscript a b pos => (ceIx a b pos (r.e L a) (r.e L b)).getD (ceStk _)
  | .Call (.Name x p) [e, t] [] pos => (orO (ceIsi r L x p pos e t) (ceCallN r L x p pos [e, t])).getD (ceStk _)
  | .Call (.Name x p) [.Call (.Name y q) [a] [] pos2] [] pos => (orO (ceLr1 x y p q pos pos2 a (r.e L a)) (orO (ceSS x y p q pos pos2 a (r.e L a)) <| orO (ceLE x y p q pos pos2 a (r.e L a)) (ceCallN r L x p pos [.Call (.Name y q) [a] [] pos2]))).getD (ceStk _)
  | .Call (.Name x p) [.Call (.Name y q) [a, b] [] pos2] [] pos => (orO (ceLr2 x y p q pos pos2 a b (r.e L a) (r.e L b)) (ceCallN r L x p pos [.Call (.Name y q) [a, b] [] pos2])).getD (ceStk _)
  | .Call (.Name x p) es [] pos => (ceCallN r L x p pos es).getD (ceStk _)
  | .Call (.Name x p) [e] [⟨some kx, .Constant (.int d) j cp, kp⟩] pos => (ceMaxDf x p pos cp kp e kx d j (r.e L e)).getD (ceStk _)
  | .Call (.Name x p) [] kws pos => (match ckList (r.e L) kws with
    | some a => ceKw x p pos kws a
    | none => none).getD (ceStk _)
  | .Call (.Attribute (.Name x p) m apos) [e] [] pos => (orO (cePop x m p apos pos e (r.e L e)) (orO (ceIndex (.Name x p) m apos pos e (r.e L (.Name x p)) (r.e L e)) (match caList (fun e => some (r.e L e)) [e] with
    | some a => ceMeth (.Name x p) m apos pos [e] (r.e L (.Name x p)) a
    | none => none))).getD (ceStk _)
  | .Call (.Attribute o m apos) [e] [] pos => (orO (if isListCall o then ceIndexL o m apos pos e (r.e L o) (r.e L e) else none) <| orO (ceIndex o m apos pos e (r.e L o) (r.e L e)) (match caList (fun e => some (r.e L e)) [e] with
    | some a => ceMeth o m apos pos [e] (r.e L o) a
    | none => none)).getD (ceStk _)
  | .Call (.Attribute o m apos) es [] pos => (match caList (fun e => some (r.e L e)) es with
    | some a => ceMeth o m apos pos es (r.e L o) a
    | none => none).getD (ceStk _)
  | .Attribute (.Name x p) f pos => (match isSelf L (.Name x p) with
    | some cc => ceSlf cc x f p pos
    | none => ceFld (.Name x p) f pos (r.e L (.Name x p))).getD (ceStk _)
  | .Attribute o f pos => (ceFld o f pos (r.e L o)).getD (ceStk _)
  | .ListComp elt [⟨tg, it, ifs, .ofNat 0⟩] scope pos => match ciOf r L tg it, cgOf (Γ := Γ) (L := blkL L scope) 5 tg, cifOf (r.t (blkL L scope)) ifs with
    | some I, some T, some Fi => (ceLc elt tg it ifs scope pos I T Fi (r.e (blkL L scope) elt)).getD (ceStk _)
    | _, _, _ => ceStk _
  | .ListComp elt [⟨tg, it, ifs, .ofNat 0⟩, ⟨tg1, it1, ifs1, .ofNat 0⟩] scope pos => match ciOf r L tg it, cgOf (Γ := Γ) (L := blkL L scope) 5 tg, cifOf (r.t (blkL L scope)) ifs, ciOf r (blkL L scope) tg1 it1, cgOf (Γ := Γ) (L := blkL L scope) 5 tg1, cifOf (r.t (blkL L scope)) ifs1 with
    | some I, some T, some Fi, some I1, some T1, some Fi1 => (ceLc2 elt tg it tg1 it1 ifs ifs1 scope pos I T Fi I1 T1 Fi1 (r.e (blkL L scope) elt)).getD (ceStk _)
    | _, _, _, _, _, _ => ceStk _
  | e => ceStk e
def ctVal (e : Expr) (A : CE Γ L e) (h : ∀ (env : Env) (whole : Sem Value), isTrue e env whole = (do let v ← whole; standAt e.pos; holding [v] (truthy v))) : CT Γ L e :=
  ⟨A.F, fun {X g C k} O => PTm (pt_val (A.ok O) (h _)) fun σ H Q q => tT_tB q⟩
def stepT : (e : Expr) → CT Γ L e
  | .Compare a [op] [.Constant .none j p] pos => (orO (ctIsN a op j p pos (r.e L a)) (ctCmp a _ op pos (r.e L a) (r.e L (.Constant .none j p)))).getD (ctStk _)
  | .Compare a [op] [.Constant (.bool b) j p] pos => (orO (ctIsB a op b j p pos (r.e L a)) (ctCmp a _ op pos (r.e L a) (r.e L (.Constant (.bool b) j p)))).getD (ctStk _)
  | .Compare a [op] [b] pos => (ctCmp a b op pos (r.e L a) (r.e L b)).getD (ctStk _)
  | .Compare a [o1, o2] [b, d] pos => (ctChain a b d o1 o2 pos (r.e L a) (r.e L b) (r.e L d)).getD (ctStk _)
  | .UnaryOp .Not a pos => ctNot a pos (r.t L a)
  | .BoolOp op es pos => match cwBool (fun e => some (r.t L e)) op es pos with
    | some w => ⟨w.F, fun {X g C k} O => (w.ok O).pt⟩
    | none => ctStk _
  | .Name x p => ctVal L _ (r.e L (.Name x p)) fun _ _ => rfl
  | .Call f es kws p => ctVal L _ (r.e L (.Call f es kws p)) fun _ _ => rfl
  | .Attribute o f p => ctVal L _ (r.e L (.Attribute o f p)) fun _ _ => rfl
  | .Subscript a b p => ctVal L _ (r.e L (.Subscript a b p)) fun _ _ => rfl
  | .Constant c j p => ctVal L _ (r.e L (.Constant c j p)) fun _ _ => rfl
  | e => ctStk e
def parT (ts vs : List Expr) (kt k2 : Nat) (pt p2 pos : Pos) : Option (CS Γ L (.Assign [.Tuple ts kt pt] (.Tuple vs k2 p2) pos)) := match cgOf (Γ := Γ) (L := L) 5 (.Tuple ts kt pt), caList (fun e => some (r.e L e)) vs, nmsOf L.N ts with
  | some T, some A, some is => csParT ts vs kt k2 pt p2 pos T A is
  | _, _, _ => none
def stepS : (s : Stmt) → CS Γ L s
  | .Assign [.Name x tp] (.ListComp elt [⟨tg, it, ifs, .ofNat 0⟩] scope p) pos => (orO (csSetC x tp pos elt [⟨tg, it, ifs, .ofNat 0⟩] scope p (r.e L (.ListComp elt [⟨tg, it, ifs, .ofNat 0⟩] scope p)))
    (match ciOf r L tg it, cgOf (Γ := Γ) (L := blkL L scope) 5 tg, cifOf (r.t (blkL L scope)) ifs with
    | some I, some T, some Fi => csLc x tp pos elt tg it ifs scope p I T Fi (r.e (blkL L scope) elt)
    | _, _, _ => none)).getD (csStk _)
  | .Assign [.Name x tp] (.ListComp elt [⟨tg, it, ifs, .ofNat 0⟩, ⟨tg1, it1, ifs1, .ofNat 0⟩] scope p) pos => (orO (csSetC x tp pos elt [⟨tg, it, ifs, .ofNat 0⟩, ⟨tg1, it1, ifs1, .ofNat 0⟩] scope p (r.e L (.ListComp elt [⟨tg, it, ifs, .ofNat 0⟩, ⟨tg1, it1, ifs1, .ofNat 0⟩] scope p)))
    (match ciOf r L tg it, cgOf (Γ := Γ) (L := blkL L scope) 5 tg, cifOf (r.t (blkL L scope)) ifs, ciOf r (blkL L scope) tg1 it1, cgOf (Γ := Γ) (L := blkL L scope) 5 tg1, cifOf (r.t (blkL L scope)) ifs1 with
    | some I, some T, some Fi, some I1, some T1, some Fi1 => csLc2 x tp pos elt tg it tg1 it1 ifs ifs1 scope p I T Fi I1 T1 Fi1 (r.e (blkL L scope) elt)
    | _, _, _, _, _, _ => none)).getD (csStk _)
  | .Assign [.Name x tp] e pos => (csSet x tp pos e (r.e L e)).getD (csStk _)
  | .Assign [.Tuple [.Name x px, .Name y py] kt pt] (.Tuple [a, b] k2 p2) pos => (orO (match caList (fun e => some (r.e L e)) [a, b] with
      | some A => csPar2 x y px py pt p2 pos kt k2 a b A
      | none => none) (parT r L [.Name x px, .Name y py] [a, b] kt k2 pt p2 pos)).getD (csStk _)
  | .Assign [.Tuple [.Name x px, .Name y py, .Name z pz] kt pt] (.Tuple [a, b, d] k2 p2) pos => (orO (match caList (fun e => some (r.e L e)) [a, b, d] with
      | some A => csPar3 x y z px py pz pt p2 pos kt k2 a b d A
      | none => none) (parT r L [.Name x px, .Name y py, .Name z pz] [a, b, d] kt k2 pt p2 pos)).getD (csStk _)
  | .Assign [.Tuple ts kt pt] (.Tuple vs k2 p2) pos => (parT r L ts vs kt k2 pt p2 pos).getD (csStk _)
  | .Assign [.Tuple ts kt pt] e pos => match cgOf (Γ := Γ) (L := L) 5 (.Tuple ts kt pt) with
    | some T => (csAsg (.Tuple ts kt pt) e pos T (r.e L e)).getD (csStk _)
    | none => csStk _
  | .Assign [.Subscript (.Name x p) ix tp] e pos => (csIx x p tp pos ix e (r.e L ix) (r.e L e)).getD (csStk _)
  | .Assign [.Attribute (.Name x p) f tp] e pos => (match isSelf L (.Name x p) with
    | some cc => csSlf cc x f p tp pos e (r.e L e)
    | none => none).getD (csStk _)
  | .AugAssign (.Name x tp) .Add e pos => (csAug x tp pos e (r.e L e)).getD (csStk _)
  | .Expr (.Call (.Attribute (.Name x p) m apos) [e] [] cpos) pos => (orO (csApp x m p apos cpos pos e (r.e L e)) (csExt x m p apos cpos pos e (r.e L e))).getD (csCall _ _ _ _ _ (r.e L (.Call (.Attribute (.Name x p) m apos) [e] [] cpos)))
  | .Expr (.Call (.Attribute (.Attribute (.Name x p) f fp) m apos) [e] [] cpos) pos => (match isSelf L (.Name x p) with
    | some cc => csAppS cc x f m p fp apos cpos pos e (r.e L e)
    | none => none).getD (csCall _ _ _ _ _ (r.e L (.Call (.Attribute (.Attribute (.Name x p) f fp) m apos) [e] [] cpos)))
  | .Expr (.Call f es kws cpos) pos => csCall f es kws cpos pos (r.e L (.Call f es kws cpos))
  | .Expr (.Constant (.str x) j p) pos => csDoc x j p pos
  | .Return (some e) pos => csRet e pos (r.e L e)
  | .Return none pos => csRetN pos
  | .If t a b pos => csIf t a b pos (r.t L t) (cbOf (r.s L) a) (cbOf (r.s L) b)
  | .For tg it body [] pos => match ciOf r L tg it, cgOf (Γ := Γ) (L := L) 5 tg with
    | some I, some T => csFor tg it body pos I T (cbOf (r.s L) body)
    | _, _ => csStk _
  | .While t body [] pos => csWhile t body pos (r.t L t) (cbOf (r.s L) body)
  | .Pass pos => csPass pos
  | .Break pos => csBrk pos
  | .Continue pos => csCnt pos
  | s => csStk s
end
def rc (Γ : Gm) : Nat → Rc Γ
  | 0 => ⟨fun L e => ceStk e, fun L e => ctStk e, fun L s => csStk s⟩
  | n + 1 => ⟨stepE (rc Γ n), stepT (rc Γ n), stepS (rc Γ n)⟩
def mtNames : List Str := ["append", "pop", "extend", "sort", "insert", "remove", "clear", "reverse", "update", "add"]
def mutE : Nat → Expr → List Str
  | 0, _ => []
  | n + 1, .Call (.Attribute (.Name x _) m _) es kws _ => (if mtNames.contains m then [x] else []) ++ (es.flatMap (mutE n) ++ kws.flatMap fun k => mutE n k.value)
  | n + 1, .Call f es kws _ => mutE n f ++ (es.flatMap (mutE n) ++ kws.flatMap fun k => mutE n k.value)
  | n + 1, .Attribute e _ _ => mutE n e
  | n + 1, .BoolOp _ es _ => es.flatMap (mutE n)
  | n + 1, .BinOp a _ b _ => mutE n a ++ mutE n b
  | n + 1, .UnaryOp _ a _ => mutE n a
  | n + 1, .IfExp a b d _ => mutE n a ++ (mutE n b ++ mutE n d)
  | n + 1, .Compare a _ es _ => mutE n a ++ es.flatMap (mutE n)
  | n + 1, .Subscript a b _ => mutE n a ++ mutE n b
  | n + 1, .Starred a _ => mutE n a
  | n + 1, .List es _ => es.flatMap (mutE n)
  | n + 1, .Tuple es _ _ => es.flatMap (mutE n)
  | n + 1, .ListComp e gs _ _ => mutE n e ++ gs.flatMap fun g => mutE n g.iter ++ g.ifs.flatMap (mutE n)
  | _ + 1, _ => []
def mutS : Nat → Stmt → List Str
  | 0, _ => []
  | n + 1, .Assign ts e _ => (ts.flatMap fun t => match t with
    | .Subscript (.Name x _) _ _ => [x]
    | _ => []) ++ mutE 20 e
  | n + 1, .AugAssign _ _ e _ => mutE 20 e
  | n + 1, .Return (some e) _ => mutE 20 e
  | n + 1, .Expr e _ => mutE 20 e
  | n + 1, .If t a b _ => mutE 20 t ++ (a.flatMap (mutS n) ++ b.flatMap (mutS n))
  | n + 1, .For _ it a b _ => mutE 20 it ++ (a.flatMap (mutS n) ++ b.flatMap (mutS n))
  | n + 1, .While t a b _ => mutE 20 t ++ (a.flatMap (mutS n) ++ b.flatMap (mutS n))
  | n + 1, .Try a hs b d _ => a.flatMap (mutS n) ++ ((hs.flatMap fun h => match h with
    | .ExceptHandler _ _ c _ => c.flatMap (mutS n)) ++ (b.flatMap (mutS n) ++ d.flatMap (mutS n)))
  | _ + 1, _ => []
theorem XOk.withMu {X : Cx} {g : Cg} {C : Cl} {k : Nat} {Γ : Gm} {L : Lc} (O : XOk X g C k Γ L) (mu : List Str) : XOk X g C k Γ ⟨L.N, L.sc, L.fn, L.slf, mu⟩ :=
  ⟨O.pr, O.rm, O.cm, O.N, O.nd, O.sc, O.fn, O.po⟩
/-- a def's body -/
def bodyC (Γ : Gm) (L : Lc) (ss : List Stmt) : CB Γ L ss :=
  let L' : Lc := ⟨L.N, L.sc, L.fn, L.slf, ss.flatMap (mutS 20)⟩
  ⟨(cbOf ((rc Γ 24).s L') ss).F, fun {X g C k} O => (cbOf ((rc Γ 24).s L') ss).ok (O.withMu _)⟩
end Ev
set_option Elab.async false
set_option maxRecDepth 100000
set_option maxHeartbeats 2000000
namespace Ev
open PySem PySem.Spec PyProof.Rows L2
set_option autoImplicit false
abbrev Tb := List (Cl → Fnl)
/-- the table's defs, calls nested at most n deep -/
def callN (T : Tb) : Nat → Cl
  | 0 => fun _ _ _ => .stuck
  | n + 1 => fun i ds st => match T[i]? with
    | some f => f (callN T n) ds st
    | none => .stuck
/-- the def at f is the table's i-th, with a parameters -/
structure FnD (K : PySem.W.Frag) (Γ : Gm) (T : Tb) (i a : Nat) (f : Addr) : Prop where
  ex : ∃ (x qual : Str) (st : Stmt) (fd : FuncData) (N ps : List Str), L2.Fun K x qual st f fd ∧ Binds K fd ps [] ∧ FnScope N ps (defScope st) ∧ ps.length = a ∧ T[i]? = some (runF N.length (bodyC Γ ⟨N, defScope st, fun _ => true, none, []⟩ (defBody st)).F)
structure InD (K : PySem.W.Frag) (Γ : Gm) (T : Tb) (i a cc : Nat) (f : Addr) : Prop where
  ex : ∃ (x qual : Str) (st : Stmt) (fd : FuncData) (N ps : List Str) (nf : Nat), L2.Fun K x qual st f fd ∧ Binds K fd ps [] ∧ FnScope N ps (defScope st) ∧ ps.length = a + 1 ∧ T[i]? = some (runI cc nf N.length (bodyC Γ ⟨N, defScope st, fun _ => true, some cc, []⟩ (defBody st)).F)
/-- the same, called by these keywords alone -/
structure KwD (K : PySem.W.Frag) (Γ : Gm) (T : Tb) (i : Nat) (ks : List Str) (pm : List Nat) (f : Addr) : Prop where
  ex : ∃ (x qual : Str) (st : Stmt) (fd : FuncData) (N ps : List Str), L2.Fun K x qual st f fd ∧ (∀ (s : Shared) (ws : List Value), ws.length = ks.length → BindsTo s fd ⟨[], ks.zip ws⟩ (ps.zip (pm.filterMap (ws[·]?)))) ∧ FnScope N ps (defScope st) ∧ ps.length = pm.length ∧ (∀ j ∈ pm, j < ks.length) ∧
    T[i]? = some (runF N.length (bodyC Γ ⟨N, defScope st, fun _ => true, none, []⟩ (defBody st)).F)
structure Tab (K : PySem.W.Frag) (mg : Str → Option Value) (g : Cg) (Γ : Gm) (T : Tb) : Prop where
  hK : K = g.K
  fns : ∀ p ∈ Γ.fns, ∃ f, mg p.1 = some (.ref f) ∧ PySem.W.keepIn K (.ref f) = true ∧ FnD K Γ T p.2.1 p.2.2 f
  cls : ∀ p ∈ Γ.cls, ∃ f, L2.Mk K (g.ct p.2.2.2) f ∧ mg p.1 = some (.ref (g.ct p.2.2.2)) ∧ InD K Γ T p.2.1 p.2.2.1 p.2.2.2 f
  mts : ∀ p ∈ Γ.mts, ∀ q ∈ p.2.1, SlX.SCls K (g.ct q.1) ∧ ∃ gf, Meth K (g.ct q.1) p.1 gf ∧ FnD K Γ T q.2 p.2.2 gf
  fds : ∀ p ∈ Γ.fds, ∀ q ∈ p.2, SlX.SCls K (g.ct q.1) ∧ ∃ a, SlX.Slot1 K (g.ct q.1) p.1 a q.2
  bls : ∀ x ∈ Γ.bls, mg x = none
  kws : ∀ p ∈ Γ.kws, ∃ f, mg p.1.1 = some (.ref f) ∧ PySem.W.keepIn K (.ref f) = true ∧ KwD K Γ T p.2.1 p.1.2 p.2.2 f
  cst : ∀ p ∈ Γ.cst, ∃ t, mg p.1 = some (.int p.2 t)
theorem lookup_mem {α β : Type} [BEq α] [LawfulBEq α] {l : List (α × β)} {a : α} {b : β} (h : l.lookup a = some b) : (a, b) ∈ l := by
  induction l with
  | nil => cases h
  | cons p l ih =>
    obtain ⟨x, y⟩ := p
    rw [List.lookup_cons] at h
    split at h
    · rename_i e
      have := eq_of_beq e
      cases h
      subst this
      exact List.mem_cons_self
    · exact List.mem_cons_of_mem _ (ih h)
section
variable {P : Program} {w : World} {K : PySem.W.Frag} {mg : Str → Option Value} {base : Heap} {g : Cg} {Γ : Gm} {T : Tb}
theorem xok_of {C : Cl} {k : Nat} (h : PrgOk P w K mg base g C k Γ) {N ps : List Str} {sc : Scope} {sf : Option Nat} (S : FnScope N ps sc) {qual : Str} {f : Addr} {cdv : Value} {A : Around} {outer : List Env} {s : Shared} {H : Hp} {E : XK}
    (hr : Room (k + 1) (A.deeper (envOfC qual sc s.heap.objs.size f cdv))) : XOk (cxOf CX0 P w K mg base N qual sc f cdv A outer s H E).nox g C k Γ ⟨N, sc, fun _ => true, sf, []⟩ :=
  ⟨h, hr, rfl, rfl, S.nd, rfl, fun _ _ => rfl, PassesOwn.never⟩
theorem start_eq (N : List Str) (vs : List V) : L2.start N vs = vs.map some ++ List.replicate (N.length - vs.length) none := rfl
theorem pre_len {N ps : List Str} {sc : Scope} (S : FnScope N ps sc) : ps.length ≤ N.length := by
  have h := S.pre
  have := congrArg List.length h
  rw [List.length_take] at this
  omega
theorem fnR_of {n i a : Nat} {f : Addr} (F : FnD K Γ T i a f) (h : PrgOk P w K mg base g (callN T n) (2 * n) Γ) : FnR P w K mg base CX0 (2 * (n + 1)) f (spF g a (callN T (n + 1) i)) := by
  obtain ⟨x, qual, st, fd, N, ps, Fn, B, S, hl, hT⟩ := F.ex
  have hpre := pre_len S
  have ok : FnOk P w K mg base CX0 (2 * n + 1 + 1) f fd ps (spF g a (runF N.length (bodyC Γ ⟨N, defScope st, fun _ => true, none, []⟩ (defBody st)).F (callN T n))) := by
    refine Fn.ok S (fun vs H Q E q => ?_) (fun cdv A outer s H vs Q E hr q => ?_)
    · obtain ⟨w, st', ds, rfl, _, r, hd, _⟩ := q
      rw [← r.length, hd, hl]
    · exact ⟨_, (bodyC Γ ⟨N, defScope st, fun _ => true, none, []⟩ (defBody st)).ok (xok_of h S hr), runF_ok (by omega) q⟩
  have R := ok.raw B .nil
  refine (R.imp fun vs H Q E q => ?_)
  rw [List.append_nil]
  obtain ⟨w, st', ds, e, F0, r, hd, q⟩ := q
  refine ⟨w, st', ds, e, F0, r, hd, ?_⟩
  have q : (callN T (n + 1) i ds st').Sat _ := q
  unfold callN at q
  rw [hT] at q
  exact q
theorem inR_of {n i a cc : Nat} {f : Addr} (F : InD K Γ T i a cc f) (h : PrgOk P w K mg base g (callN T n) (2 * n) Γ) : FnR P w K mg base CX0 (2 * (n + 1)) f (spI g cc a (callN T (n + 1) i)) := by
  obtain ⟨x, qual, st, fd, N, ps, nf, Fn, B, S, hl, hT⟩ := F.ex
  have hpre := pre_len S
  have ok : FnOk P w K mg base CX0 (2 * n + 1 + 1) f fd ps (spI g cc a (runI cc nf N.length (bodyC Γ ⟨N, defScope st, fun _ => true, some cc, []⟩ (defBody st)).F (callN T n))) := by
    refine Fn.ok S (fun vs H Q E q => ?_) (fun cdv A outer s H vs Q E hr q => ?_)
    · obtain ⟨w, st', ds, x, dx, args, rfl, _, _, _, _, _, r, hd, _⟩ := q
      rw [List.length_cons, ← r.length, hd, hl]
    · exact ⟨_, (bodyC Γ ⟨N, defScope st, fun _ => true, some cc, []⟩ (defBody st)).ok (xok_of h S hr), runI_ok (by omega) q⟩
  have R := ok.raw B .nil
  refine (R.imp fun vs H Q E q => ?_)
  rw [List.append_nil]
  obtain ⟨w, st', ds, x, dx, args, e1, e2, h1, h2, h3, F0, r, hd, q⟩ := q
  refine ⟨w, st', ds, x, dx, args, e1, e2, h1, h2, h3, F0, r, hd, ?_⟩
  have q : (callN T (n + 1) i ds st').Sat _ := q
  unfold callN at q
  rw [hT] at q
  exact q
theorem fnKR_of {n i : Nat} {f : Addr} {ks : List Str} {pm : List Nat} (F : KwD K Γ T i ks pm f) (h : PrgOk P w K mg base g (callN T n) (2 * n) Γ) : FnKR P w K mg base CX0 (2 * (n + 1)) f ks pm (spF g pm.length (callN T (n + 1) i)) := by
  obtain ⟨x, qual, st, fd, N, ps, Fn, B, S, hl, hj, hT⟩ := F.ex
  have hpre := pre_len S
  have ok : FnOk P w K mg base CX0 (2 * n + 1 + 1) f fd ps (spF g pm.length (runF N.length (bodyC Γ ⟨N, defScope st, fun _ => true, none, []⟩ (defBody st)).F (callN T n))) := by
    refine Fn.ok S (fun vs H Q E q => ?_) (fun cdv A outer s H vs Q E hr q => ?_)
    · obtain ⟨w, st', ds, rfl, _, r, hd, _⟩ := q
      rw [← r.length, hd, hl]
    · exact ⟨_, (bodyC Γ ⟨N, defScope st, fun _ => true, none, []⟩ (defBody st)).ok (xok_of h S hr), runF_ok (by omega) q⟩
  intro A outer s H ws zs Q E hr e0 r hz q
  refine ok.run A outer s H ⟨[], ks.zip ws⟩ (pm.filterMap (ws[·]?)) (pm.filterMap (zs[·]?)) Q E hr e0 (B s ws (by rw [← r.length]; exact hz)) (perm_vals r pm) ?_
  obtain ⟨w, st', ds, e, F0, r, hd, q⟩ := q
  refine ⟨w, st', ds, e, F0, r, hd, ?_⟩
  have q : (callN T (n + 1) i ds st').Sat _ := q
  unfold callN at q
  rw [hT] at q
  exact q
theorem tab_ok (h : Tab K mg g Γ T) : ∀ n, PrgOk P w K mg base g (callN T n) (2 * n) Γ
  | 0 => by
    refine ⟨h.hK, fun x i a e => ?_, fun x i a cc e => ?_, fun m cs a e c i e2 => ?_, fun f cs e c j e2 => h.fds _ (lookup_mem e) _ (lookup_mem e2), h.bls, fun x ks i pm e => ?_, fun x i e => h.cst _ (lookup_mem e)⟩
    · obtain ⟨f, h1, h2, _⟩ := h.fns _ (lookup_mem e)
      refine ⟨f, h1, h2, fun A outer s H us vs Q E _ _ _ q => ?_⟩
      obtain ⟨_, _, _, _, _, _, _, q⟩ := q
      exact q.elim
    · obtain ⟨f, h1, h2, _⟩ := h.cls _ (lookup_mem e)
      refine ⟨f, h1, h2, fun A outer s H us vs Q E _ _ _ q => ?_⟩
      obtain ⟨_, _, _, _, _, _, _, _, _, _, _, _, _, _, q⟩ := q
      exact q.elim
    · obtain ⟨h1, gf, h2, _⟩ := h.mts _ (lookup_mem e) _ (lookup_mem e2)
      refine ⟨h1, gf, h2, fun A outer s H us vs Q E _ _ _ q => ?_⟩
      obtain ⟨_, _, _, _, _, _, _, q⟩ := q
      exact q.elim
    · obtain ⟨f, h1, h2, F⟩ := h.kws _ (lookup_mem e)
      obtain ⟨_, _, _, _, _, _, _, _, _, _, hj, _⟩ := F.ex
      refine ⟨f, h1, h2, fun A outer s H us vs Q E _ _ _ _ q => ?_, hj⟩
      obtain ⟨_, _, _, _, _, _, _, q⟩ := q
      exact q.elim
  | n + 1 => by
    have ih := tab_ok h n
    refine ⟨h.hK, fun x i a e => ?_, fun x i a cc e => ?_, fun m cs a e c i e2 => ?_, fun f cs e c j e2 => h.fds _ (lookup_mem e) _ (lookup_mem e2), h.bls, fun x ks i pm e => ?_, fun x i e => h.cst _ (lookup_mem e)⟩
    · obtain ⟨f, h1, h2, F⟩ := h.fns _ (lookup_mem e)
      exact ⟨f, h1, h2, fnR_of F ih⟩
    · obtain ⟨f, h1, h2, F⟩ := h.cls _ (lookup_mem e)
      exact ⟨f, h1, h2, inR_of F ih⟩
    · obtain ⟨h1, gf, h2, F⟩ := h.mts _ (lookup_mem e) _ (lookup_mem e2)
      exact ⟨h1, gf, h2, fnR_of F ih⟩
    · obtain ⟨f, h1, h2, F⟩ := h.kws _ (lookup_mem e)
      obtain ⟨_, _, _, _, _, _, _, _, _, _, hj, _⟩ := F.ex
      exact ⟨f, h1, h2, fnKR_of F ih, hj⟩
end
end Ev
namespace Ev
open PySem PySem.Spec PyProof.Rows L2
section
variable {P : Program} {w : World} {K : PySem.W.Frag} {mg : Str → Option Value} {base : Heap} {g : Cg} {Γ : Gm} {T : Tb}
/-- the law's promise -/
def spL (K : PySem.W.Frag) : Sp := fun vs H Q _ => ∃ (a : Addr) (ns : List Int), vs = [.ref a] ∧ SqL K H a (ns.map V.int) ∧ ns.length ≤ 63 ∧ ∀ H', Q (.bl true) H'
theorem law_ok {n i : Nat} {f : Addr} {x nm qual : Str} {st : Stmt} {fd : FuncData} {N : List Str} (h : Tab K mg g Γ T) (Fn : L2.Fun K nm qual st f fd) (S : FnScope N [x] (defScope st)) (hT : T[i]? = some (runF N.length (bodyC Γ ⟨N, defScope st, fun _ => true, none, []⟩ (defBody st)).F))
    (hm : ∀ ns : List Int, ns.length ≤ 63 → ∃ st', callN T (n + 1) i [.scr ns] [] = .ok (.val (.bl true), st')) : FnOk P w K mg base CX0 (2 * n + 2) f fd [x] (spL K) := by
  refine Fn.ok S (fun vs H Q E q => ?_) (fun cdv A outer s H vs Q E hr q => ?_)
  · obtain ⟨a, ns, rfl, _⟩ := q
    rfl
  · have hpre := pre_len S
    obtain ⟨a, ns, rfl, hS, hl, q⟩ := q
    refine ⟨_, (bodyC Γ ⟨N, defScope st, fun _ => true, none, []⟩ (defBody st)).ok (xok_of (tab_ok h n) S hr), runF_ok (n := 1) (C := callN T n) (E := E0) (by simpa using hpre) ?_⟩
    obtain ⟨st', e⟩ := hm ns hl
    refine ⟨⟨H, fun b => b = a ∧ ∃ o, H a = some o, []⟩, [], [.scr ns], rfl, ⟨fun b ⟨e1, o, e2⟩ => ⟨o, by rw [e1]; exact e2⟩, fun _ h => (by cases h), List.nodup_nil, rfl, fun n a ds e => (by simp at e)⟩, ?_, rfl, ?_⟩
    · unfold RepL
      refine ⟨.ref a, [], rfl, ?_, rfl⟩
      unfold Rep
      refine ⟨a, rfl, ?_⟩
      rw [← h.hK]
      rcases hS with (h1 | ⟨o, h1⟩) | h1
      · exact .inl ⟨⟨rfl, _, h1⟩, .inr h1⟩
      · exact .inl ⟨⟨rfl, _, h1⟩, .inl ⟨o, h1⟩⟩
      · exact .inr h1
    · unfold callN at e
      rw [hT] at e
      have e : runF N.length (bodyC Γ ⟨N, defScope st, fun _ => true, none, []⟩ (defBody st)).F (callN T n) [.scr ns] [] = .ok (.val (.bl true), st') := e
      rw [e]
      exact fun v w' _ _ r => by
        cases r
        exact q _
end
end Ev
set_option Elab.async false
set_option maxRecDepth 100000
set_option maxHeartbeats 2000000
namespace Ev
open PySem PySem.Spec PyProof.Rows L2
section
variable {K : PySem.W.Frag} {h : Heap} {mg : Str → Option Value} {Γ : Gm} {T : Tb} {x qual m : Str} {st : Stmt} {N ps : List Str} {i a cc nf : Nat} {F : SS} {f C p : Addr} {oc kV doc pm cd ct : Value} {od an : Option Addr} {sl : Array (Option Value)}
theorem fnD_of (l : K.lookup f = some ⟨oc, od, .func (PySem.W.fnOf x qual (defArgs st) (defBody st) (defScope st) .none kV doc pm an cd ct), sl⟩) (c : PySem.W.codeIn K cd qual = true) (k : PySem.W.keepIn K (.ref f) = true) (S : FnScope N ps (defScope st))
    (hb : ∀ (kV doc pm : Value) (an : Option Addr) (cdv ct : Value) (us : List Value), us.length = ps.length → bindArgs (PySem.W.fnOf x qual (defArgs st) (defBody st) (defScope st) .none kV doc pm an cdv ct) ⟨us, []⟩ = pure (ps.zip us))
    (hF : (bodyC Γ ⟨N, defScope st, fun _ => true, none, []⟩ (defBody st)).F = F) (hT : T[i]? = some (runF N.length F)) (hl : ps.length = a) : FnD K Γ T i a f := by
  have Fn := fun_mk (st := st) l c k
  exact ⟨_, _, st, _, N, ps, Fn, Fn.binds hb, S, hl, by rw [hF]; exact hT⟩
theorem fnD_mk (X : K.In h) (G : h.Ns mainGlobals mg) (aa : PySem.W.nsIn K mainGlobals x = some (some (.ref f))) (l : K.lookup f = some ⟨oc, od, .func (PySem.W.fnOf x x (defArgs st) (defBody st) (defScope st) .none kV doc pm an cd ct), sl⟩) (c : PySem.W.codeIn K cd x = true) (k : PySem.W.keepIn K (.ref f) = true) (S : FnScope N ps (defScope st))
    (hb : ∀ (kV doc pm : Value) (an : Option Addr) (cdv ct : Value) (us : List Value), us.length = ps.length → bindArgs (PySem.W.fnOf x x (defArgs st) (defBody st) (defScope st) .none kV doc pm an cdv ct) ⟨us, []⟩ = pure (ps.zip us))
    (hF : (bodyC Γ ⟨N, defScope st, fun _ => true, none, []⟩ (defBody st)).F = F) (hT : T[i]? = some (runF N.length F)) (hl : ps.length = a) : ∃ f, mg x = some (.ref f) ∧ PySem.W.keepIn K (.ref f) = true ∧ FnD K Γ T i a f :=
  ⟨f, PySem.W.mg_of X G aa, k, fnD_of l c k S hb hF hT hl⟩
theorem kwD_mk {ks : List Str} {pl : List Nat} (X : K.In h) (G : h.Ns mainGlobals mg) (aa : PySem.W.nsIn K mainGlobals x = some (some (.ref f))) (l : K.lookup f = some ⟨oc, od, .func (PySem.W.fnOf x x (defArgs st) (defBody st) (defScope st) .none kV doc pm an cd ct), sl⟩) (c : PySem.W.codeIn K cd x = true) (k : PySem.W.keepIn K (.ref f) = true) (S : FnScope N ps (defScope st))
    (hb : ∀ (kV doc pm : Value) (an : Option Addr) (cdv ct : Value) (us : List Value), us.length = ks.length → bindArgs (PySem.W.fnOf x x (defArgs st) (defBody st) (defScope st) .none kV doc pm an cdv ct) ⟨[], ks.zip us⟩ = pure (ps.zip (pl.filterMap (us[·]?))))
    (hF : (bodyC Γ ⟨N, defScope st, fun _ => true, none, []⟩ (defBody st)).F = F) (hT : T[i]? = some (runF N.length F)) (hl : ps.length = pl.length) (hj : ∀ j ∈ pl, j < ks.length) : ∃ f, mg x = some (.ref f) ∧ PySem.W.keepIn K (.ref f) = true ∧ KwD K Γ T i ks pl f :=
  ⟨f, PySem.W.mg_of X G aa, k, _, _, st, _, N, ps, fun_mk (st := st) l c k, fun s ws hw => BindsTo.of_eq (hb _ _ _ _ _ _ ws hw), S, hl, hj, by rw [hF]; exact hT⟩
theorem mtD_mk (aa : PySem.W.findIn K (.ref C) m = some (some (.ref f))) (ii : PySem.W.isFn K (.ref f) = true) (l : K.lookup f = some ⟨oc, od, .func (PySem.W.fnOf m qual (defArgs st) (defBody st) (defScope st) .none kV doc pm an cd ct), sl⟩) (c : PySem.W.codeIn K cd qual = true) (k : PySem.W.keepIn K (.ref f) = true) (S : FnScope N ps (defScope st))
    (hb : ∀ (kV doc pm : Value) (an : Option Addr) (cdv ct : Value) (us : List Value), us.length = ps.length → bindArgs (PySem.W.fnOf m qual (defArgs st) (defBody st) (defScope st) .none kV doc pm an cdv ct) ⟨us, []⟩ = pure (ps.zip us))
    (hF : (bodyC Γ ⟨N, defScope st, fun _ => true, none, []⟩ (defBody st)).F = F) (hT : T[i]? = some (runF N.length F)) (hl : ps.length = a) : ∃ gf, Meth K C m gf ∧ FnD K Γ T i a gf :=
  ⟨f, ⟨aa, ii, k⟩, fnD_of l c k S hb hF hT hl⟩
theorem inD_mk (aa : PySem.W.findIn K (.ref C) "__init__" = some (some (.ref f))) (ii : PySem.W.isFn K (.ref f) = true) (mk : PySem.W.makesIn K C = true) (kc : PySem.W.keepIn K (.ref C) = true)
    (l : K.lookup f = some ⟨oc, od, .func (PySem.W.fnOf x qual (defArgs st) (defBody st) (defScope st) .none kV doc pm an cd ct), sl⟩) (c : PySem.W.codeIn K cd qual = true) (k : PySem.W.keepIn K (.ref f) = true) (S : FnScope N ps (defScope st))
    (hb : ∀ (kV doc pm : Value) (an : Option Addr) (cdv ct : Value) (us : List Value), us.length = ps.length → bindArgs (PySem.W.fnOf x qual (defArgs st) (defBody st) (defScope st) .none kV doc pm an cdv ct) ⟨us, []⟩ = pure (ps.zip us))
    (hF : (bodyC Γ ⟨N, defScope st, fun _ => true, some cc, []⟩ (defBody st)).F = F) (hT : T[i]? = some (runI cc nf N.length F)) (hl : ps.length = a + 1) : ∃ f, L2.Mk K C f ∧ InD K Γ T i a cc f := by
  have Fn := fun_mk (st := st) l c k
  exact ⟨f, ⟨mk, aa, ii, kc⟩, _, _, st, _, N, ps, nf, Fn, Fn.binds hb, S, hl, by rw [hF]; exact hT⟩
theorem sc_mk (pg : PySem.W.plainGet K C Str.empty = true) (ic : PySem.W.isClsIn K C = true) (po : PySem.W.plainOver K C = true) (sa : PySem.W.findIn K (.ref C) "__setattr__" = some (some (.builtin "object.__setattr__"))) : SlX.SCls K C := ⟨pg, ic, po, sa⟩
theorem sl_mk (aa : PySem.W.findIn K (.ref C) x = some (some (.ref p))) (g : PySem.W.specialIn K (.ref p) "__get__" = some (some (.builtin "member_descriptor.__get__"))) (tk : PySem.W.takesIn K (.ref p) = some true) (ty : PySem.W.typeIn K (.ref p) = some (.type "member_descriptor")) (ix : PySem.W.slotIn K p C = some i) (hi : i < 1000) : ∃ p, SlX.Slot1 K C x p i :=
  ⟨p, aa, g, tk, ty, ix, hi⟩
theorem law_mk {l : PySem.W.OpenLaw} {w : World} {g : Cg} {n : Nat} {fa : Addr} {y : Str} (X : K.In h) (G : h.Ns mainGlobals mg) (hfa : mg "law" = some (.ref fa)) (aa : PySem.W.nsIn K mainGlobals "law" = some (some (.ref f)))
    (ll : K.lookup f = some ⟨oc, od, .func (PySem.W.fnOf "law" "law" (defArgs st) (defBody st) (defScope st) .none kV doc pm an cd ct), sl⟩) (c : PySem.W.codeIn K cd "law" = true) (k : PySem.W.keepIn K (.ref f) = true) (tab : Tab K mg g Γ T) (S : FnScope N [y] (defScope st))
    (hb : ∀ (s : Shared) (v : Value), BindsTo s (PySem.W.fnOf "law" "law" (defArgs st) (defBody st) (defScope st) .none kV doc pm an cd ct) ⟨[v], []⟩ [(y, v)])
    (hF : (bodyC Γ ⟨N, defScope st, fun _ => true, none, []⟩ (defBody st)).F = F) (hT : T[i]? = some (runF N.length F)) (hm : ∀ ns : List Int, ns.length ≤ 63 → ∃ st', callN T (n + 1) i [.scr ns] [] = .ok (.val (.bl true), st')) :
    ∃ fd : FuncData, (∀ (s : Shared) (v : Value), BindsTo s fd ⟨[v], []⟩ [(y, v)]) ∧ ∀ base : Heap, K.In base → base.Ns mainGlobals mg → FnOk l.prog w K mg base CX0 (2 * n + 2) fa fd [y] (spL K) := by
  have e := hfa.symm.trans (PySem.W.mg_of X G aa)
  cases e
  exact ⟨_, hb, fun base _ _ => law_ok tab (fun_mk (st := st) ll c k) S (by rw [hF]; exact hT) hm⟩
theorem ct_mk {y : Str} {j : Int} {t : Tok} (X : K.In h) (G : h.Ns mainGlobals mg) (aa : PySem.W.nsIn K mainGlobals y = some (some (.int j t))) : ∃ t, mg y = some (.int j t) := ⟨t, PySem.W.mg_of X G aa⟩
theorem ex_mk {P : Addr → Prop} {C : Addr} (h : P C) : ∃ C, P C := ⟨C, h⟩
theorem dl_mk (aa : PySem.W.nsIn K mainGlobals x = some (some (.ref f))) (l : K.lookup f = some ⟨oc, od, .func (PySem.W.fnOf x x (defArgs st) (defBody st) (defScope st) .none kV doc pm an cd ct), sl⟩) (c : PySem.W.codeIn K cd x = true) (k : PySem.W.keepIn K (.ref f) = true) :
    ∃ (f : Addr) (oc : Value) (od : Option Addr) (kV doc pm : Value) (an : Option Addr) (cd ct : Value) (sl : Array (Option Value)), PySem.W.nsIn K mainGlobals x = some (some (.ref f)) ∧ K.lookup f = some ⟨oc, od, .func (PySem.W.fnOf x x (defArgs st) (defBody st) (defScope st) .none kV doc pm an cd ct), sl⟩ ∧ PySem.W.codeIn K cd x = true ∧ PySem.W.keepIn K (.ref f) = true :=
  ⟨_, _, _, _, _, _, _, _, _, _, aa, l, c, k⟩
theorem acs {α : Type} {P : α → Prop} {a : α} {l : List α} (h : P a) (t : ∀ x ∈ l, P x) : ∀ x ∈ a :: l, P x := fun x hx => by
  rcases List.mem_cons.mp hx with q | q
  · rw [q]; exact h
  · exact t x q
theorem anil {α : Type} {P : α → Prop} : ∀ x ∈ ([] : List α), P x := fun _ h => (by cases h)
end
theorem walk_mk {l : PySem.W.OpenLaw} {n : Nat} {y : Str} {q : Program} {loose : List Str} {XP : (Str → Option Value) → Heap → Prop} {YP : World → Heap → Prop} {d : DefRec} {K : Params → PySem.W.Frag} (hn : l.most = some 63) (hdf : d.params.defaults = []) (hr : Room (2 * n + 2) callerA)
    (hY : ∀ (w : World) (h : Heap), YP w h → (K w.params).In h)
    (F : ∀ (w : World) (mg : Str → Option Value) (fa : Addr) (h : Heap), (K w.params).In h → h.Ns mainGlobals mg → mg d.name = some (.ref fa) →
      ∃ fd : FuncData, (∀ (s : Shared) (u : Value), BindsTo s fd ⟨[u], []⟩ [(y, u)]) ∧ ∀ base : Heap, (K w.params).In base → base.Ns mainGlobals mg → FnOk l.prog w (K w.params) mg base CX0 (2 * n + 2) fa fd [y] (spL (K w.params))) :
    PySem.W.WalkO q loose XP YP l.row.toRowW d [] (fun f vs => PySem.call f vs) :=
  L2.walk_of (n := 63) (k := 2 * n + 2) (x := y) (CX := fun _ => CX0) (sp := fun w => spL (K w.params)) hn (by decide) hdf hr hY F (fun _ _ a ns hl _ hS => ⟨a, ns, rfl, hS, hl, fun _ => rfl⟩) fun _ _ _ _ _ z => z
end Ev
namespace Ev
/-- a law's numbers: defs, methods, fields, classes by name -/
structure Ix where
  fn : String → Nat
  mt : String → List (Nat × Nat)
  fd : String → List (Nat × Nat)
  cl : String → Nat
def ixOf (a : List (String × Nat)) (b c : List (String × List (Nat × Nat))) (d : List (String × Nat)) : Ix :=
  ⟨fun x => (a.lookup x).getD 0, fun x => (b.lookup x).getD [], fun x => (c.lookup x).getD [], fun x => (d.lookup x).getD 0⟩
end Ev
set_option Elab.async false
set_option maxRecDepth 100000
namespace Ev
open PySem
def B_tupled (J : Ix) : SS :=
 (seqF (retF (iteF (opE (gIsi ["list", "tuple"]) [varF 0]) (opE gTuple [lcF [1] (.nm 1) (itF (varF 0)) [] (callF (J.fn "tupled") [varF 1])]) (varF 0)))
 (nxF))
def B_is_name (J : Ix) : SS :=
 (seqF (retF (andF (opE (gIsi ["str"]) [varF 0]) (andF (chF gLe gLe (cstF (.int 1)) (opE gLen [varF 0]) (cstF (.int 8))) (opE gAll [lcF [1] (.nm 1) (itF (varF 0)) [] (opE (gIn false) [varF 1, stkE])]))))
 (nxF))
def B_rises (J : Ix) : SS :=
 (seqF (asgF (.nm 1) (opE gList [varF 0]))
 (seqF (retF (opE gAll [lcF [2, 3] (.tp [.nm 2, .nm 3]) (zipF (varF 1) (slF (varF 1) (some (cstF (.int 1))) none)) [] (opE gLt [varF 2, varF 3])]))
 (nxF)))
def B_joined_hf337 (J : Ix) : SS :=
 (seqF (retF (iteF (opE gGt [opE gLen [varF 0], cstF (.int 0)]) (stkE) (stkE)))
 (nxF))
def B_joined_h871e (J : Ix) : SS :=
 (seqF (retF (callF (J.fn "Joined") [callF (J.fn "Shape") [varF 0, varF 1, varF 2], varF 3]))
 (nxF))
def B_plan_text (J : Ix) : SS :=
 (seqF (asgF (.tp [.nm 1, .nm 2]) (callF (J.fn "tupled") [varF 0]))
 (seqF (setF 3 (lstF [callF (J.fn "joined") [varF 1, stkE]]))
 (seqF (forF (.nm 4) (itF (varF 2))
 (seqF (appF 3 (callF (J.fn "joined") [lcF [5] (.nm 5) (itF (varF 4)) [] (stkE), stkE]))
 (nxF)))
 (seqF (retF (stkE))
 (nxF)))))
def B_names_in (J : Ix) : SS :=
 (seqF (asgF (.nm 2) (iteF (opE (gEq true) [varF 0, stkE]) (stkE) (lstF [])))
 (seqF (retF (iteF (opE gAll [lcF [3] (.nm 3) (itF (varF 2)) [] (callF (J.fn "is_name") [varF 3])]) (opE gTuple [varF 2]) (cstF .non)))
 (nxF)))
def B_update_in (J : Ix) : SS :=
 (seqF (seqF (parF [2, 3] [lstF [], lstF []]) (fzF []))
 (seqF (forF (.nm 4) (itF (iteF (opE (gEq true) [varF 0, stkE]) (stkE) (lstF [])))
 (seqF (asgF (.nm 5) (callF (J.fn "names_in") [varF 4, stkE]))
 (seqF (ifF (orF (opE (gIsN false) [varF 5]) (orF (opE (gEq false) [opE gLen [varF 5], cstF (.int 0)]) (orF (notF (callF (J.fn "rises") [varF 5])) (notF (opE gAll [lcF [6] (.nm 6) (itF (varF 5)) [] (opE (gIn false) [varF 6, varF 1])])))))
 (seqF (retF (cstF .non))
 (nxF))
 (nxF))
 (seqF (appF 2 (varF 5))
 (seqF (extF 3 (varF 5))
 (nxF))))))
 (seqF (retF (iteF (opE (gEq false) [opE gLen [stkE], opE gLen [varF 3]]) (opE gTuple [varF 2]) (cstF .non)))
 (nxF))))
def B_plan_in (J : Ix) : SS :=
 (seqF (stkF)
 (seqF (seqF (parF [3, 4] [callF (J.fn "names_in") [varF 1, stkE], lstF []]) (fzF [3]))
 (seqF (ifF (orF (opE (gIsN false) [varF 3]) (notF (callF (J.fn "rises") [varF 3])))
 (seqF (stkF)
 (nxF))
 (nxF))
 (seqF (forF (.tp [.nm 5, .nm 6]) (enumF 0 (varF 2))
 (seqF (asgF (.nm 7) (callF (J.fn "update_in") [varF 6, varF 3]))
 (seqF (ifF (opE (gIsN false) [varF 7])
 (seqF (stkF)
 (nxF))
 (nxF))
 (seqF (appF 4 (varF 7))
 (nxF)))))
 (seqF (retF (tupF [varF 3, opE gTuple [varF 4]]))
 (nxF))))))
def B_order_text (J : Ix) : SS :=
 (seqF (retF (callF (J.fn "joined") [callF (J.fn "tupled") [varF 0], stkE]))
 (nxF))
def B_mix_text (J : Ix) : SS :=
 (seqF (retF (callF (J.fn "joined") [lcF [1] (.nm 1) (itF (callF (J.fn "tupled") [varF 0])) [] (stkE), stkE]))
 (nxF))
def B_need_in (J : Ix) : SS :=
 (seqF (asgF (.tp [.nm 1, .nm 2, .nm 3]) (stkE))
 (seqF (retF (iteF (andF (callF (J.fn "is_name") [varF 1]) (andF (callF (J.fn "is_name") [varF 3]) (opE (gEq true) [varF 1, varF 3]))) (tupF [varF 1, varF 3]) (cstF .non)))
 (nxF)))
def B_needs_text (J : Ix) : SS :=
 (seqF (retF (callF (J.fn "joined") [lcF [1, 2] (.tp [.nm 1, .nm 2]) (itF (callF (J.fn "tupled") [varF 0])) [] (opE gAdd [opE gAdd [varF 1, stkE], varF 2]), stkE]))
 (nxF))
def B_needs_in (J : Ix) : SS :=
 (seqF (asgF (.nm 1) (iteF (opE (gEq true) [varF 0, stkE]) (lcF [2] (.nm 2) (itF (stkE)) [] (callF (J.fn "need_in") [varF 2])) (lstF [])))
 (seqF (ifF (orF (opE (gIn false) [cstF .non, varF 1]) (notF (callF (J.fn "rises") [varF 1])))
 (seqF (stkF)
 (nxF))
 (nxF))
 (seqF (retF (opE gTuple [varF 1]))
 (nxF))))
def B__law_box (J : Ix) : SS :=
 (seqF (asgF (.nm 2) (iteF (opE gLt [varF 1, opE gLen [varF 0]]) (opE gIx [varF 0, varF 1]) (cstF (.int 0))))
 (seqF (retF (lstF [opE gMul [opE gAbs [varF 2], opE gInt [opE gGe [opE gAbs [varF 2], opE gPow [cstF (.int 10), cstF (.int 18)]]]], opE gAdd [opE gAdd [opE gMod [opE gInt [varF 2], cstF (.int 2305843009213693951)], opE gMul [cstF (.int 39373), varF 1]], cstF (.int 227)], cstF (.int 0)]))
 (nxF)))
def B__law_take (J : Ix) : SS :=
 (seqF (ifF (opE gGt [opE gIx [varF 0, cstF (.int 0)], cstF (.int 0)])
 (seqF (asgF (.nm 2) (opE gMod [opE gInt [opE gIx [varF 0, cstF (.int 0)]], varF 1]))
 (seqF (setIxF 0 (cstF (.int 0)) (opE gDiv [opE gIx [varF 0, cstF (.int 0)], varF 1]))
 (seqF (retF (varF 2))
 (nxF))))
 (nxF))
 (seqF (setIxF 0 (cstF (.int 2)) (opE gAdd [opE gIx [varF 0, cstF (.int 2)], cstF (.int 1)]))
 (seqF (asgF (.nm 3) (opE gMod [opE gInt [opE gMul [opE gAdd [opE gIx [varF 0, cstF (.int 1)], opE gMul [cstF (.int 48271), opE gIx [varF 0, cstF (.int 2)]]], opE gAdd [cstF (.int 39373), opE gIx [varF 0, cstF (.int 2)]]]], cstF (.int 2147483647)]))
 (seqF (asgF (.nm 4) (opE gAdd [opE gMod [opE gInt [varF 3], cstF (.int 40009)], cstF (.int 7)]))
 (seqF (asgF (.nm 5) (opE gMod [opE gInt [opE gMul [opE gAdd [opE gAdd [varF 3, opE gIx [varF 0, cstF (.int 2)]], opE gDiv [opE gIx [varF 0, cstF (.int 1)], cstF (.int 1000003)]], varF 4]], cstF (.int 2147483629)]))
 (seqF (retF (opE gMod [opE gInt [opE gDiv [opE gMod [opE gInt [opE gAdd [opE gMul [varF 5, cstF (.int 48271)], varF 3]], cstF (.int 2147483587)], cstF (.int 64)]], varF 1]))
 (nxF)))))))
def B__law_cells (J : Ix) : SS :=
 (seqF (setF 2 (opOr (opE gList [slF (varF 0) none (some (varF 1))]) (lstF [cstF (.int 0)])))
 (seqF (forF (.tp [.nm 3, .nm 4]) (enumF 0 (slF (varF 0) (some (varF 1)) (some (cstF (.int 63)))))
 (seqF (asgF (.nm 5) (opE gMod [opE gInt [varF 3], varF 1]))
 (seqF (setIxF 2 (varF 5) (opE gAdd [opE gIx [varF 2, varF 5], opE gMul [varF 4, opE gAdd [varF 3, cstF (.int 2)]]]))
 (nxF))))
 (seqF (retF (varF 2))
 (nxF))))
def B__law_of (J : Ix) : SS :=
 (seqF (retF (opE gIx [varF 1, callF (J.fn "_law_take") [varF 0, opE gLen [varF 1]]]))
 (nxF))
def B__law_lists (J : Ix) : SS :=
 (seqF (retF (iteF (opE (gIsi ["list", "tuple"]) [varF 0]) (lcF [1] (.nm 1) (itF (varF 0)) [] (callF (J.fn "_law_lists") [varF 1])) (varF 0)))
 (nxF))
def B__law_same (J : Ix) : SS :=
 (seqF (ifF (opE (gIsi ["list", "tuple"]) [varF 1])
 (seqF (ifF (orF (opE (gEq true) [opE (gIsi ["list"]) [varF 0], opE (gIsi ["list"]) [varF 1]]) (opE (gEq true) [opE (gIsi ["tuple"]) [varF 0], opE (gIsi ["tuple"]) [varF 1]]))
 (seqF (retF (cstF (.bl false)))
 (nxF))
 (nxF))
 (seqF (retF (andF (opE (gEq false) [opE gLen [varF 0], opE gLen [varF 1]]) (opE gAll [lcF [2, 3] (.tp [.nm 2, .nm 3]) (zipF (varF 0) (varF 1)) [] (callF (J.fn "_law_same") [varF 2, varF 3])])))
 (nxF)))
 (nxF))
 (seqF (ifF (opE (gIsi ["dict"]) [varF 1])
 (seqF (ifF (orF (notF (opE (gIsi ["dict"]) [varF 0])) (orF (opE (gEq true) [opE gLen [varF 0], opE gLen [varF 1]]) (opE (gEq true) [lcF [4] (.nm 4) (itF (varF 1)) [opE (gIn true) [varF 4, varF 0]] (varF 4), lstF []])))
 (seqF (retF (cstF (.bl false)))
 (nxF))
 (nxF))
 (seqF (retF (opE gAll [lcF [4] (.nm 4) (itF (varF 1)) [] (callF (J.fn "_law_same") [opE gIx [varF 0, varF 4], opE gIx [varF 1, varF 4]])]))
 (nxF)))
 (nxF))
 (seqF (ifF (orF (opE (gIsN false) [varF 1]) (opE (gIsi ["bool", "str"]) [varF 1]))
 (seqF (retF (andF (opE (gEq false) [varF 0, varF 1]) (andF (opE (gEq false) [opE (gIsi ["bool"]) [varF 0], opE (gIsi ["bool"]) [varF 1]]) (opE (gEq false) [opE (gIsN false) [varF 0], opE (gIsN false) [varF 1]]))))
 (nxF))
 (nxF))
 (seqF (retF (andF (opE (gIsi ["int"]) [varF 0]) (andF (notF (opE (gIsi ["bool"]) [varF 0])) (opE (gEq false) [varF 0, varF 1]))))
 (nxF)))))
def B__law_pick (J : Ix) : SS :=
 (seqF (seqF (parF [3, 4] [opE gList [varF 1], lstF []]) (fzF []))
 (seqF (forF (.nm 5) (rng1F (opE gMinX [varF 2, opE gLen [varF 3]]))
 (seqF (appF 4 (popF 3 (callF (J.fn "_law_take") [varF 0, opE gLen [varF 3]])))
 (nxF)))
 (seqF (retF (varF 4))
 (nxF))))
def B__law_files (J : Ix) : SS :=
 (seqF (retF (opE gTuple [opE gSortX [callF (J.fn "_law_pick") [varF 0, lstF [cstF (.str "a"), cstF (.str "ab"), cstF (.str "b"), cstF (.str "c"), cstF (.str "cert"), cstF (.str "d"), cstF (.str "e"), cstF (.str "f"), cstF (.str "key"), cstF (.str "z")], varF 1]]]))
 (nxF))
def B__law_update (J : Ix) : SS :=
 (seqF (asgF (.nm 3) (callF (J.fn "_law_pick") [varF 0, varF 1, iteF (varF 2) (opE gLen [varF 1]) (opE gAdd [cstF (.int 1), callF (J.fn "_law_take") [varF 0, opE gLen [varF 1]]])]))
 (seqF (setF 4 (lstF []))
 (seqF (whileF (opE (gEq true) [varF 3, lstF []])
 (seqF (asgF (.nm 5) (callF (J.fn "_law_of") [varF 0, lstF [cstF (.int 1), cstF (.int 1), cstF (.int 1), cstF (.int 1), cstF (.int 2)]]))
 (seqF (appF 4 (opE gTuple [opE gSortX [slF (varF 3) none (some (varF 5))]]))
 (seqF (asgF (.nm 3) (slF (varF 3) (some (varF 5)) none))
 (nxF)))))
 (seqF (retF (opE gTuple [varF 4]))
 (nxF)))))
def B__law_plan (J : Ix) : SS :=
 (seqF (retF (tupF [varF 1, opE gTuple [lcF [3] (.nm 3) (rng1F (varF 2)) [] (callF (J.fn "_law_update") [varF 0, varF 1, opE (gEq false) [callF (J.fn "_law_take") [varF 0, cstF (.int 2)], cstF (.int 0)]])]]))
 (nxF))
def B__law_order (J : Ix) : SS :=
 (seqF (ifF (notF (varF 3))
 (seqF (retF (opE gTuple [callF (J.fn "_law_pick") [varF 0, varF 1, varF 2]]))
 (nxF))
 (nxF))
 (seqF (retF (opE gTuple [lcF [4] (.nm 4) (rng1F (varF 2)) [] (callF (J.fn "_law_of") [varF 0, opE gList [varF 1]])]))
 (nxF)))
def B__law_needs (J : Ix) : SS :=
 (seqF (setF 3 (lstF []))
 (seqF (forF (.nm 4) (rng1F (callF (J.fn "_law_take") [varF 0, opE gAdd [varF 2, cstF (.int 1)]]))
 (seqF (asgF (.nm 5) (opE gTuple [callF (J.fn "_law_pick") [varF 0, varF 1, cstF (.int 2)]]))
 (seqF (ifF (andF (opE (gEq false) [opE gLen [varF 5], cstF (.int 2)]) (opE (gIn true) [varF 5, varF 3]))
 (seqF (appF 3 (varF 5))
 (nxF))
 (nxF))
 (nxF))))
 (seqF (retF (opE gTuple [opE gSortX [varF 3]]))
 (nxF))))
def B__law_words (J : Ix) : SS :=
 (seqF (retF (iteF (opE gGt [opE gLen [varF 0], cstF (.int 0)]) (stkE) (cstF (.str "-"))))
 (nxF))
def B__law_sheet (J : Ix) : SS :=
 (seqF (setF 1 (lstF [callF (J.fn "_law_words") [opE gIx [varF 0, cstF (.int 0)], cstF (.str " ")]]))
 (seqF (forF (.nm 2) (itF (opE gIx [varF 0, cstF (.int 1)]))
 (seqF (appF 1 (callF (J.fn "_law_words") [lcF [3] (.nm 3) (itF (varF 2)) [] (stkE), cstF (.str " ")]))
 (nxF)))
 (seqF (retF (stkE))
 (nxF))))
def B__law_numbers_line (J : Ix) : SS :=
 (seqF (retF (callF (J.fn "_law_words") [lcF [2] (.nm 2) (itF (varF 0)) [] (stkE), varF 1]))
 (nxF))
def B__law_needs_line (J : Ix) : SS :=
 (seqF (retF (callF (J.fn "_law_words") [lcF [1] (.nm 1) (itF (varF 0)) [] (opE gAdd [opE gAdd [opE gIx [varF 1, cstF (.int 0)], cstF (.str "<")], opE gIx [varF 1, cstF (.int 1)]]), cstF (.str " ")]))
 (nxF))
def B__law_mixed (J : Ix) : SS :=
 (seqF (ifF (notF (opE (gIsi ["list", "tuple"]) [varF 1]))
 (seqF (retF (varF 1))
 (nxF))
 (nxF))
 (seqF (asgF (.nm 2) (lcF [3] (.nm 3) (itF (varF 1)) [] (callF (J.fn "_law_mixed") [varF 0, varF 3])))
 (seqF (retF (iteF (opE (gEq false) [callF (J.fn "_law_take") [varF 0, cstF (.int 2)], cstF (.int 0)]) (varF 2) (opE gTuple [varF 2])))
 (nxF))))
def B__law_back (J : Ix) : SS :=
 (seqF (seqF (parF [2, 3, 4] [stkE, lstF [], lstF []]) (fzF [2]))
 (seqF (appF 3 (opE gTuple [lcF [5] (.nm 5) (itF (opE gIx [varF 0, cstF (.int 0)])) [] (opE gIx [varF 2, varF 5])]))
 (seqF (seqF (parF [6, 7] [lstF [], cstF (.int 0)]) (fzF [6, 7]))
 (seqF (forF (.tp [.nm 8, .nm 9]) (enumF 0 (opE gIx [varF 0, cstF (.int 1)]))
 (seqF (asgF (.nm 10) (lcF [11] (.nm 11) (itF (varF 9)) [] (tupF [varF 11, opE gAdd [varF 8, cstF (.int 1)]])))
 (seqF (ifF (chF gLt gLt (varF 7) (varF 1) (opE gAdd [varF 7, opE gLen [varF 10]]))
 (seqF (asgF (.nm 6) (opE gAdd [opE gAdd [opE gAdd [varF 6, slF (varF 10) none (some (opE gSub [varF 1, varF 7]))], opE gMul [lstF [cstF .non], opE gSub [varF 1, varF 7]]], varF 10]))
 (nxF))
 (seqF (asgF (.nm 6) (opE gAdd [varF 6, varF 10]))
 (nxF)))
 (seqF (asgF (.nm 7) (opE gAdd [varF 7, opE gLen [varF 10]]))
 (nxF)))))
 (seqF (forF (.nm 12) (itF (varF 6))
 (seqF (ifF (opE (gIsN false) [varF 12])
 (seqF (asgF (.nm 2) (stkE))
 (nxF))
 (seqF (appF 4 (stkE))
 (seqF (asgF (.nm 2) (stkE))
 (nxF))))
 (seqF (appF 3 (opE gTuple [lcF [5] (.nm 5) (itF (opE gIx [varF 0, cstF (.int 0)])) [] (opE gIx [varF 2, varF 5])]))
 (nxF))))
 (seqF (retF (varF 3))
 (nxF)))))))
def B_law_h424e (J : Ix) : SS :=
 (seqF (asgF (.nm 1) (callF (J.fn "_law_cells") [varF 0, cstF (.int 3)]))
 (seqF (retF (opE gAll [lcF [2] (.nm 2) (rng1F (opE gLen [varF 1])) [] (callF (J.fn "_law_right") [cellF (callF (J.fn "_law_box") [varF 1, varF 2])])]))
 (nxF)))
def B_law_h4878 (J : Ix) : SS :=
 (seqF (asgF (.nm 1) (callF (J.fn "_law_cells") [varF 0, cstF (.int 2)]))
 (seqF (retF (opE gAll [lcF [2] (.nm 2) (rng1F (opE gLen [varF 1])) [] (callF (J.fn "_law_right") [cellF (callF (J.fn "_law_box") [varF 1, varF 2])])]))
 (nxF)))
def B_law_h8860 (J : Ix) : SS :=
 (seqF (asgF (.nm 1) (callF (J.fn "_law_cells") [varF 0, cstF (.int 2)]))
 (seqF (forF (.nm 2) (rng1F (opE gLen [varF 1]))
 (seqF (ifF (notF (callF (J.fn "_law_right") [cellF (callF (J.fn "_law_box") [varF 1, varF 2])]))
 (seqF (retF (cstF (.bl false)))
 (nxF))
 (nxF))
 (nxF)))
 (seqF (retF (cstF (.bl true)))
 (nxF))))
def B_law_hcc6e (J : Ix) : SS :=
 (seqF (asgF (.nm 1) (callF (J.fn "_law_cells") [varF 0, cstF (.int 3)]))
 (seqF (forF (.nm 2) (rng1F (opE gLen [varF 1]))
 (seqF (asgF (.nm 3) (cellF (callF (J.fn "_law_box") [varF 1, varF 2])))
 (seqF (ifF (notF (opE gAll [lcF [4] (.nm 4) (rng1F (cstF (.int 8))) [] (callF (J.fn "_law_right") [varF 3])]))
 (seqF (retF (cstF (.bl false)))
 (nxF))
 (nxF))
 (nxF))))
 (seqF (retF (cstF (.bl true)))
 (nxF))))
def B_law_hb0cf (J : Ix) : SS :=
 (seqF (asgF (.nm 1) (callF (J.fn "_law_cells") [varF 0, cstF (.int 3)]))
 (seqF (forF (.nm 2) (rng1F (opE gLen [varF 1]))
 (seqF (asgF (.nm 3) (cellF (callF (J.fn "_law_box") [varF 1, varF 2])))
 (seqF (ifF (notF (opE gAll [lcF [4] (.nm 4) (rng1F (cstF (.int 5))) [] (callF (J.fn "_law_right") [varF 3])]))
 (seqF (retF (cstF (.bl false)))
 (nxF))
 (nxF))
 (nxF))))
 (seqF (retF (cstF (.bl true)))
 (nxF))))
def B_law_hd40c (J : Ix) : SS :=
 (seqF (asgF (.nm 1) (callF (J.fn "_law_cells") [varF 0, cstF (.int 2)]))
 (seqF (forF (.nm 2) (rng1F (opE gLen [varF 1]))
 (seqF (asgF (.nm 3) (cellF (callF (J.fn "_law_box") [varF 1, varF 2])))
 (seqF (ifF (notF (opE gAll [lcF [4] (.nm 4) (rng1F (cstF (.int 2))) [] (callF (J.fn "_law_right") [varF 3])]))
 (seqF (retF (cstF (.bl false)))
 (nxF))
 (nxF))
 (nxF))))
 (seqF (retF (cstF (.bl true)))
 (nxF))))
def B_law_h0cad (J : Ix) : SS :=
 (seqF (asgF (.nm 1) (callF (J.fn "_law_cells") [varF 0, cstF (.int 3)]))
 (seqF (forF (.nm 2) (rng1F (opE gLen [varF 1]))
 (seqF (asgF (.nm 3) (cellF (callF (J.fn "_law_box") [varF 1, varF 2])))
 (seqF (ifF (notF (opE gAll [lcF [4] (.nm 4) (rng1F (cstF (.int 4))) [] (callF (J.fn "_law_right") [varF 3])]))
 (seqF (retF (cstF (.bl false)))
 (nxF))
 (nxF))
 (nxF))))
 (seqF (retF (cstF (.bl true)))
 (nxF))))
def B_law_h18d9 (J : Ix) : SS :=
 (seqF (asgF (.nm 1) (callF (J.fn "_law_cells") [varF 0, cstF (.int 3)]))
 (seqF (forF (.nm 2) (rng1F (opE gLen [varF 1]))
 (seqF (asgF (.nm 3) (cellF (callF (J.fn "_law_box") [varF 1, varF 2])))
 (seqF (ifF (notF (opE gAll [lcF [4] (.nm 4) (rng1F (cstF (.int 6))) [] (callF (J.fn "_law_right") [varF 3])]))
 (seqF (retF (cstF (.bl false)))
 (nxF))
 (nxF))
 (nxF))))
 (seqF (retF (cstF (.bl true)))
 (nxF))))
def B_law_h010c (J : Ix) : SS :=
 (seqF (asgF (.nm 1) (callF (J.fn "_law_cells") [varF 0, cstF (.int 3)]))
 (seqF (forF (.nm 2) (rng1F (opE gLen [varF 1]))
 (seqF (asgF (.nm 3) (cellF (callF (J.fn "_law_box") [varF 1, varF 2])))
 (seqF (ifF (notF (opE gAll [lcF [4] (.nm 4) (rng1F (cstF (.int 2))) [] (callF (J.fn "_law_right") [varF 3])]))
 (seqF (retF (cstF (.bl false)))
 (nxF))
 (nxF))
 (nxF))))
 (seqF (retF (cstF (.bl true)))
 (nxF))))
def B_law_h4b31 (J : Ix) : SS :=
 (seqF (asgF (.nm 1) (callF (J.fn "_law_cells") [varF 0, cstF (.int 3)]))
 (seqF (forF (.nm 2) (rng1F (opE gLen [varF 1]))
 (seqF (asgF (.nm 3) (cellF (callF (J.fn "_law_box") [varF 1, varF 2])))
 (seqF (ifF (notF (opE gAll [lcF [4] (.nm 4) (rng1F (cstF (.int 3))) [] (callF (J.fn "_law_right") [varF 3])]))
 (seqF (retF (cstF (.bl false)))
 (nxF))
 (nxF))
 (nxF))))
 (seqF (retF (cstF (.bl true)))
 (nxF))))
def B_law_ha866 (J : Ix) : SS :=
 (seqF (asgF (.nm 1) (callF (J.fn "_law_cells") [varF 0, cstF (.int 3)]))
 (seqF (forF (.nm 2) (rng1F (opE gLen [varF 1]))
 (seqF (asgF (.nm 3) (cellF (callF (J.fn "_law_box") [varF 1, varF 2])))
 (seqF (ifF (notF (opE gAll [lcF [4] (.nm 4) (rng1F (cstF (.int 1))) [] (callF (J.fn "_law_right") [varF 3])]))
 (seqF (retF (cstF (.bl false)))
 (nxF))
 (nxF))
 (nxF))))
 (seqF (retF (cstF (.bl true)))
 (nxF))))
def B_law_ha50b (J : Ix) : SS :=
 (seqF (asgF (.nm 1) (callF (J.fn "_law_cells") [varF 0, cstF (.int 3)]))
 (seqF (forF (.nm 2) (rng1F (opE gLen [varF 1]))
 (seqF (asgF (.nm 3) (cellF (callF (J.fn "_law_box") [varF 1, varF 2])))
 (seqF (ifF (notF (opE gAll [lcF [4] (.nm 4) (rng1F (cstF (.int 10))) [] (callF (J.fn "_law_right") [varF 3])]))
 (seqF (retF (cstF (.bl false)))
 (nxF))
 (nxF))
 (nxF))))
 (seqF (retF (cstF (.bl true)))
 (nxF))))
def B_law_h32c8 (J : Ix) : SS :=
 (seqF (asgF (.nm 1) (callF (J.fn "_law_cells") [varF 0, cstF (.int 2)]))
 (seqF (forF (.nm 2) (rng1F (opE gLen [varF 1]))
 (seqF (asgF (.nm 3) (cellF (callF (J.fn "_law_box") [varF 1, varF 2])))
 (seqF (ifF (notF (opE gAll [lcF [4] (.nm 4) (rng1F (cstF (.int 12))) [] (callF (J.fn "_law_right") [varF 3])]))
 (seqF (retF (cstF (.bl false)))
 (nxF))
 (nxF))
 (nxF))))
 (seqF (retF (cstF (.bl true)))
 (nxF))))
def B__law_is_word (J : Ix) : SS :=
 (seqF (retF (andF (chF gLe gLe (cstF (.int 1)) (opE gLen [varF 0]) (cstF (.int 8))) (opE (gEq false) [lcF [1] (.nm 1) (itF (varF 0)) [notF (chF gLe gLe (cstF (.str "a")) (varF 1) (cstF (.str "z")))] (varF 1), lstF []])))
 (nxF))
def B__law_names_form (J : Ix) : SS :=
 (seqF (asgF (.nm 2) (iteF (opE (gEq true) [varF 0, cstF (.str "-")]) (stkE) (lstF [])))
 (seqF (retF (iteF (opE (gEq false) [lcF [3] (.nm 3) (itF (varF 2)) [notF (callF (J.fn "_law_is_word") [varF 3])] (varF 3), lstF []]) (opE gTuple [varF 2]) (cstF .non)))
 (nxF)))
def B__law_read_update (J : Ix) : SS :=
 (seqF (seqF (parF [2, 3] [lstF [], lstF []]) (fzF [3]))
 (seqF (forF (.nm 4) (itF (iteF (opE (gEq true) [varF 0, cstF (.str "-")]) (stkE) (lstF [])))
 (seqF (asgF (.nm 5) (callF (J.fn "_law_names_form") [varF 4, cstF (.str "+")]))
 (seqF (ifF (orF (opE (gIsN false) [varF 5]) (orF (opE (gEq false) [varF 5, tupF []]) (opE (gEq true) [opE gList [varF 5], opE gSS [varF 5]])))
 (seqF (retF (cstF .non))
 (nxF))
 (nxF))
 (seqF (ifF (opE (gEq true) [lcF [6] (.nm 6) (itF (varF 5)) [opE (gIn true) [varF 6, varF 1]] (varF 6), lstF []])
 (seqF (retF (cstF .non))
 (nxF))
 (nxF))
 (seqF (appF 2 (varF 5))
 (seqF (asgF (.nm 3) (opE gAdd [varF 3, opE gList [varF 5]]))
 (nxF)))))))
 (seqF (retF (iteF (opE (gEq false) [opE gLen [stkE], opE gLen [varF 3]]) (opE gTuple [varF 2]) (cstF .non)))
 (nxF))))
def B__law_read_plan (J : Ix) : SS :=
 (seqF (asgF (.nm 1) (stkE))
 (seqF (seqF (parF [2, 3] [callF (J.fn "_law_names_form") [opE gIx [varF 1, cstF (.int 0)], cstF (.str " ")], lstF []]) (fzF [2]))
 (seqF (ifF (orF (opE (gIsN false) [varF 2]) (opE (gEq true) [opE gList [varF 2], opE gSS [varF 2]]))
 (seqF (retF (cstF (.int 0)))
 (nxF))
 (nxF))
 (seqF (forF (.nm 4) (rng2F (cstF (.int 1)) (opE gLen [varF 1]))
 (seqF (asgF (.nm 5) (callF (J.fn "_law_read_update") [opE gIx [varF 1, varF 4], varF 2]))
 (seqF (ifF (opE (gIsN false) [varF 5])
 (seqF (retF (varF 4))
 (nxF))
 (nxF))
 (seqF (appF 3 (varF 5))
 (nxF)))))
 (seqF (retF (tupF [varF 2, opE gTuple [varF 3]]))
 (nxF))))))
def B__law_read_needs (J : Ix) : SS :=
 (seqF (setF 1 (lstF []))
 (seqF (forF (.nm 2) (itF (iteF (opE (gEq true) [varF 0, cstF (.str "-")]) (stkE) (lstF [])))
 (seqF (asgF (.nm 3) (stkE))
 (seqF (ifF (orF (opE (gEq true) [opE gLen [varF 3], cstF (.int 2)]) (orF (notF (callF (J.fn "_law_is_word") [opE gIx [varF 3, cstF (.int 0)]])) (orF (notF (callF (J.fn "_law_is_word") [opE gIx [varF 3, cstF (.int 1)]])) (opE (gEq false) [opE gIx [varF 3, cstF (.int 0)], opE gIx [varF 3, cstF (.int 1)]]))))
 (seqF (retF (cstF .non))
 (nxF))
 (nxF))
 (seqF (appF 1 (tupF [opE gIx [varF 3, cstF (.int 0)], opE gIx [varF 3, cstF (.int 1)]]))
 (nxF)))))
 (seqF (retF (iteF (opE (gEq false) [varF 1, opE gSS [varF 1]]) (opE gTuple [varF 1]) (cstF .non)))
 (nxF))))
def B__law_spoilt (J : Ix) : SS :=
 (seqF (seqF (parF [2, 3] [callF (J.fn "_law_take") [varF 0, cstF (.int 7)], callF (J.fn "_law_take") [varF 0, opE gAdd [opE gLen [varF 1], cstF (.int 1)]]]) (fzF [2, 3]))
 (seqF (asgF (.nm 4) (lstF [cstF (.str " "), cstF (.str "
"), cstF (.str "+"), cstF (.str ">"), cstF (.str "<"), cstF (.str "-"), cstF (.str "a"), cstF (.str "b"), cstF (.str "x"), cstF (.str "1"), cstF (.str "Z"), cstF (.str "_"), cstF (.str ","), cstF (.str "~")]))
 (seqF (ifF (opE gLt [varF 2, cstF (.int 2)])
 (seqF (retF (opE gAdd [opE gAdd [slF (varF 1) none (some (varF 3)), callF (J.fn "_law_of") [varF 0, varF 4]], slF (varF 1) (some (varF 3)) none]))
 (nxF))
 (nxF))
 (seqF (ifF (opE (gEq false) [varF 2, cstF (.int 2)])
 (seqF (retF (opE gAdd [slF (varF 1) none (some (varF 3)), slF (varF 1) (some (opE gAdd [varF 3, cstF (.int 1)])) none]))
 (nxF))
 (nxF))
 (seqF (ifF (opE (gEq false) [varF 2, cstF (.int 3)])
 (seqF (retF (opE gAdd [opE gAdd [slF (varF 1) none (some (varF 3)), slF (varF 1) (some (varF 3)) (some (opE gAdd [varF 3, cstF (.int 1)]))], slF (varF 1) (some (varF 3)) none]))
 (nxF))
 (nxF))
 (seqF (ifF (opE (gEq false) [varF 2, cstF (.int 4)])
 (seqF (retF (opE gAdd [opE gAdd [slF (varF 1) none (some (varF 3)), callF (J.fn "_law_of") [varF 0, varF 4]], slF (varF 1) (some (opE gAdd [varF 3, cstF (.int 1)])) none]))
 (nxF))
 (nxF))
 (seqF (asgF (.nm 5) (callF (J.fn "_law_of") [varF 0, lstF [cstF (.str " "), cstF (.str "
"), cstF (.str "+")]]))
 (seqF (asgF (.nm 6) (stkE))
 (seqF (asgF (.nm 3) (callF (J.fn "_law_take") [varF 0, opE gLen [varF 6]]))
 (seqF (ifF (opE (gEq false) [varF 2, cstF (.int 5)])
 (seqF (retF (stkE))
 (nxF))
 (nxF))
 (seqF (asgF (.nm 7) (opE gRevX [slF (varF 6) (some (varF 3)) (some (opE gAdd [varF 3, cstF (.int 2)]))]))
 (seqF (retF (stkE))
 (nxF)))))))))))))
def B_Plan___init__ (J : Ix) : SS :=
 (seqF (asgF (.tp [.nm 2, .nm 3]) (callF (J.fn "tupled") [varF 1]))
 (seqF (sfSet (J.cl "Plan") 10 0 (varF 2))
 (seqF (sfSet (J.cl "Plan") 10 2 (lc2F [4, 5, 6] [6] (.tp [.nm 4, .nm 5]) (enumF 1 (varF 3)) [] (.nm 6) (itF (varF 5)) [] (tupF [varF 4, varF 6])))
 (seqF (sfSet (J.cl "Plan") 10 1 (lstF [opE gMul [tupF [cstF (.int 0)], opE gLen [varF 2]]]))
 (seqF (forF (.tp [.nm 4, .nm 6]) (itF (sfF (J.cl "Plan") 10 2))
 (seqF (asgF (.nm 7) (opE gIx [sfF (J.cl "Plan") 10 1, opE gNeg [cstF (.int 1)]]))
 (seqF (sfApp (J.cl "Plan") 10 1 (opE gTuple [lcF [8, 9] (.tp [.nm 8, .nm 9]) (enumF 0 (varF 2)) [] (iteF (opE (gIn false) [varF 9, varF 6]) (varF 4) (opE gIx [varF 7, varF 8]))]))
 (nxF))))
 (nxF))))))
def B_Plan_files (J : Ix) : SS :=
 (seqF (retF (fldF (J.fd "own_files") (varF 0)))
 (nxF))
def B_Plan_steps (J : Ix) : SS :=
 (seqF (retF (lcF [1, 2] (.tp [.nm 1, .nm 2]) (itF (fldF (J.fd "own_steps") (varF 0))) [] (varF 2)))
 (nxF))
def B_Plan_moments (J : Ix) : SS :=
 (seqF (retF (opE gLen [fldF (J.fd "own_steps") (varF 0)]))
 (nxF))
def B_Plan_rows (J : Ix) : SS :=
 (seqF (retF (opE gList [fldF (J.fd "own_rows") (varF 0)]))
 (nxF))
def B_Plan_check_file (J : Ix) : SS :=
 (seqF (ifF (opE (gIn true) [varF 1, fldF (J.fd "own_files") (varF 0)])
 (seqF (stkF)
 (nxF))
 (nxF))
 (seqF (retF (tixF (fldF (J.fd "own_files") (varF 0)) (varF 1)))
 (nxF)))
def B_Plan_column (J : Ix) : SS :=
 (seqF (asgF (.nm 2) (methF (J.mt "check_file") (varF 0) [varF 1]))
 (seqF (retF (lcF [3] (.nm 3) (itF (fldF (J.fd "own_rows") (varF 0))) [] (opE gIx [varF 3, varF 2])))
 (nxF)))
def B_Plan_version (J : Ix) : SS :=
 (seqF (asgF (.nm 3) (methF (J.mt "column") (varF 0) [varF 1]))
 (seqF (ifF (notF (chF gLe gLt (cstF (.int 0)) (varF 2) (opE gLen [varF 3])))
 (seqF (stkF)
 (nxF))
 (nxF))
 (seqF (retF (opE gIx [varF 3, varF 2]))
 (nxF))))
def B_Plan_versions (J : Ix) : SS :=
 (seqF (retF (opE gSS [methF (J.mt "column") (varF 0) [varF 1]]))
 (nxF))
def B_Plan_span (J : Ix) : SS :=
 (seqF (asgF (.nm 3) (lcF [4, 5] (.tp [.nm 4, .nm 5]) (enumF 0 (methF (J.mt "column") (varF 0) [varF 1])) [opE (gEq false) [varF 5, varF 2]] (varF 4)))
 (seqF (ifF (opE (gEq false) [opE gLen [varF 3], cstF (.int 0)])
 (seqF (stkF)
 (nxF))
 (nxF))
 (seqF (retF (tupF [opE gIx [varF 3, cstF (.int 0)], opE gIx [varF 3, opE gNeg [cstF (.int 1)]]]))
 (nxF))))
def B_Plan_spans (J : Ix) : SS :=
 (seqF (retF (lcF [3, 4] (.tp [.nm 3, .nm 4]) (zipF (varF 1) (varF 2)) [] (methF (J.mt "span") (varF 0) [varF 3, varF 4])))
 (nxF))
def B_Plan_check_order (J : Ix) : SS :=
 (seqF (asgF (.nm 2) (callF (J.fn "tupled") [varF 1]))
 (seqF (forF (.nm 3) (itF (varF 2))
 (seqF (expF (methF (J.mt "check_file") (varF 0) [varF 3]))
 (nxF)))
 (seqF (retF (varF 2))
 (nxF))))
def B_Plan_check_mix (J : Ix) : SS :=
 (seqF (asgF (.nm 3) (callF (J.fn "tupled") [varF 2]))
 (seqF (ifF (orF (opE (gEq true) [opE gLen [varF 3], opE gLen [varF 1]]) (notF (opE gAll [lcF [4, 5] (.tp [.nm 4, .nm 5]) (zipF (varF 1) (varF 3)) [] (opE (gIn false) [varF 5, methF (J.mt "versions") (varF 0) [varF 4]])])))
 (seqF (stkF)
 (nxF))
 (nxF))
 (seqF (retF (varF 3))
 (nxF))))
def B_version (J : Ix) : SS :=
 (seqF (retF (methF (J.mt "version") (callF (J.fn "Plan") [varF 0]) [varF 1, varF 2]))
 (nxF))
def B_found_mixes (J : Ix) : SS :=
 (seqF (asgF (.nm 2) (lstF [tupF [tupF [], cstF (.int 0)]]))
 (seqF (forF (.nm 3) (itF (varF 1))
 (seqF (setF 4 (lstF []))
 (seqF (forF (.tp [.nm 5, .nm 6]) (itF (varF 2))
 (seqF (forF (.nm 7) (itF (methF (J.mt "versions") (varF 0) [varF 3]))
 (seqF (asgF (.tp [.nm 8, .nm 9]) (methF (J.mt "span") (varF 0) [varF 3, varF 7]))
 (seqF (ifF (opE gLe [varF 6, varF 9])
 (seqF (appF 4 (tupF [tupS [(true, varF 5), (false, varF 7)], opE gMaxX [varF 6, varF 8]]))
 (nxF))
 (nxF))
 (nxF))))
 (nxF)))
 (seqF (asgF (.nm 2) (varF 4))
 (nxF)))))
 (seqF (retF (lcF [5, 6] (.tp [.nm 5, .nm 6]) (itF (varF 2)) [] (varF 5)))
 (nxF))))
def B_mixes (J : Ix) : SS :=
 (seqF (asgF (.nm 2) (callF (J.fn "Plan") [varF 0]))
 (seqF (retF (callF (J.fn "found_mixes") [varF 2, methF (J.mt "check_order") (varF 2) [varF 1]]))
 (nxF)))
def B_checked_needs (J : Ix) : SS :=
 (seqF (asgF (.nm 2) (callF (J.fn "tupled") [varF 1]))
 (seqF (forF (.nm 3) (itF (varF 2))
 (seqF (expF (methF (J.mt "check_order") (varF 0) [varF 3]))
 (nxF)))
 (seqF (retF (varF 2))
 (nxF))))
def B_wanted (J : Ix) : SS :=
 (seqF (retF (opE gMaxX [lcF [3] (.nm 3) (itF (methF (J.mt "versions") (varF 0) [varF 1])) [opE gLe [varF 3, varF 2]] (varF 3)]))
 (nxF))
def B_is_broken (J : Ix) : SS :=
 (seqF (asgF (.tp [.nm 4, .nm 5]) (varF 3))
 (seqF (asgF (.nm 6) (lcF [7, 8] (.tp [.nm 7, .nm 8]) (zipF (varF 1) (varF 2)) [opE (gEq false) [varF 7, varF 4]] (varF 8)))
 (seqF (asgF (.nm 9) (lcF [7, 8] (.tp [.nm 7, .nm 8]) (zipF (varF 1) (varF 2)) [opE (gEq false) [varF 7, varF 5]] (varF 8)))
 (seqF (retF (opE gAny [lc2F [8, 10] [10] (.nm 8) (itF (varF 6)) [] (.nm 10) (itF (varF 9)) [] (opE gLt [varF 10, callF (J.fn "wanted") [varF 0, varF 5, varF 8]])]))
 (nxF)))))
def B_broken_by (J : Ix) : SS :=
 (seqF (retF (lcF [4] (.nm 4) (itF (varF 3)) [callF (J.fn "is_broken") [varF 0, varF 1, varF 2, varF 4]] (varF 4)))
 (nxF))
def B_breaks (J : Ix) : SS :=
 (seqF (asgF (.nm 4) (callF (J.fn "Plan") [varF 0]))
 (seqF (asgF (.nm 5) (methF (J.mt "check_order") (varF 4) [varF 1]))
 (seqF (asgF (.nm 6) (callF (J.fn "checked_needs") [varF 4, varF 3]))
 (seqF (retF (callF (J.fn "broken_by") [varF 4, varF 5, methF (J.mt "check_mix") (varF 4) [varF 5, varF 2], varF 6]))
 (nxF)))))
def B_bad_stops (J : Ix) : SS :=
 (seqF (asgF (.nm 2) (callF (J.fn "Plan") [varF 0]))
 (seqF (asgF (.nm 3) (opE gLE [methF (J.mt "rows") (varF 2) []]))
 (seqF (retF (lcF [4, 5] (.tp [.nm 4, .nm 5]) (itF (varF 3)) [opE gGt [opE gLen [callF (J.fn "breaks") [varF 0, methF (J.mt "files") (varF 2) [], varF 5, varF 1]], cstF (.int 0)]] (varF 4)))
 (nxF))))
def B_order_in (J : Ix) : SS :=
 (seqF (retF (callF (J.fn "names_in") [varF 0, stkE]))
 (nxF))
def B_are_apart (J : Ix) : SS :=
 (seqF (retF (orF (opE gLt [opE gIx [varF 0, cstF (.int 1)], opE gIx [varF 1, cstF (.int 0)]]) (opE gLt [opE gIx [varF 1, cstF (.int 1)], opE gIx [varF 0, cstF (.int 0)]])))
 (nxF))
def B_parted (J : Ix) : SS :=
 (seqF (asgF (.nm 3) (callF (J.fn "Plan") [varF 0]))
 (seqF (asgF (.nm 4) (methF (J.mt "check_order") (varF 3) [varF 1]))
 (seqF (asgF (.nm 5) (methF (J.mt "spans") (varF 3) [varF 4, methF (J.mt "check_mix") (varF 3) [varF 4, varF 2]]))
 (seqF (forF (.tp [.nm 6, .nm 7]) (enumF 0 (varF 5))
 (seqF (forF (.nm 8) (rng2F (opE gAdd [varF 6, cstF (.int 1)]) (opE gLen [varF 5]))
 (seqF (ifF (callF (J.fn "are_apart") [varF 7, opE gIx [varF 5, varF 8]])
 (seqF (retF (tupF [varF 6, varF 8]))
 (nxF))
 (nxF))
 (nxF)))
 (nxF)))
 (seqF (retF (cstF .non))
 (nxF))))))
def B_can_part (J : Ix) : SS :=
 (seqF (forF (.nm 3) (itF (methF (J.mt "versions") (varF 0) [varF 1]))
 (seqF (forF (.nm 4) (itF (methF (J.mt "versions") (varF 0) [varF 2]))
 (seqF (ifF (opE gLt [opE gIx [methF (J.mt "span") (varF 0) [varF 1, varF 3], cstF (.int 1)], opE gIx [methF (J.mt "span") (varF 0) [varF 2, varF 4], cstF (.int 0)]])
 (seqF (retF (cstF (.bl true)))
 (nxF))
 (nxF))
 (nxF)))
 (nxF)))
 (seqF (retF (cstF (.bl false)))
 (nxF)))
def B_has_no_untrue (J : Ix) : SS :=
 (seqF (forF (.tp [.nm 2, .nm 3]) (enumF 0 (varF 1))
 (seqF (ifF (opE gAny [lcF [4] (.nm 4) (itF (slF (varF 1) (some (opE gAdd [varF 2, cstF (.int 1)])) none)) [] (callF (J.fn "can_part") [varF 0, varF 3, varF 4])])
 (seqF (retF (cstF (.bl false)))
 (nxF))
 (nxF))
 (nxF)))
 (seqF (retF (cstF (.bl true)))
 (nxF)))
def B_is_safe (J : Ix) : SS :=
 (seqF (asgF (.nm 2) (callF (J.fn "Plan") [varF 0]))
 (seqF (retF (callF (J.fn "has_no_untrue") [varF 2, methF (J.mt "check_order") (varF 2) [varF 1]]))
 (nxF)))
def B_needs_of (J : Ix) : SS :=
 (seqF (stkF)
 (seqF (retF (varF 1))
 (nxF)))
def B_request_in (J : Ix) : SS :=
 (seqF (stkF)
 (seqF (ifF (opE (gEq false) [varF 1, stkE])
 (seqF (asgF (.nm 3) (callF (J.fn "needs_of") [varF 2]))
 (seqF (retF (iteF (opE (gIsN false) [varF 3]) (cstF .non) (tupF [varF 1, varF 3])))
 (nxF)))
 (nxF))
 (seqF (ifF (opE (gIn false) [varF 1, stkE])
 (seqF (retF (iteF (opE (gEq false) [opE gLen [varF 2], cstF (.int 0)]) (tupF [varF 1]) (cstF .non)))
 (nxF))
 (nxF))
 (seqF (ifF (opE (gIn false) [varF 1, stkE])
 (seqF (retF (iteF (andF (opE (gEq false) [opE gLen [varF 2], cstF (.int 1)]) (callF (J.fn "is_name") [opE gIx [varF 2, cstF (.int 0)]])) (tupF [varF 1, opE gIx [varF 2, cstF (.int 0)]]) (cstF .non)))
 (nxF))
 (nxF))
 (seqF (ifF (andF (opE (gEq false) [varF 1, stkE]) (opE (gEq false) [opE gLen [varF 2], cstF (.int 1)]))
 (seqF (asgF (.nm 4) (callF (J.fn "order_in") [opE gIx [varF 2, cstF (.int 0)]]))
 (seqF (retF (iteF (opE (gIsN false) [varF 4]) (cstF .non) (tupF [varF 1, varF 4])))
 (nxF)))
 (nxF))
 (seqF (ifF (andF (opE (gEq false) [varF 1, stkE]) (andF (opE (gEq false) [opE gLen [varF 2], cstF (.int 2)]) (callF (J.fn "is_name") [opE gIx [varF 2, cstF (.int 0)]])))
 (seqF (asgF (.nm 4) (callF (J.fn "order_in") [opE gIx [varF 2, cstF (.int 1)]]))
 (seqF (retF (iteF (opE (gIsN false) [varF 4]) (cstF .non) (tupF [varF 1, opE gIx [varF 2, cstF (.int 0)], varF 4])))
 (nxF)))
 (nxF))
 (seqF (retF (cstF .non))
 (nxF))))))))
def B_Reader___init__ (J : Ix) : SS :=
 (seqF (sfSet (J.cl "Reader") 2 0 (varF 1))
 (seqF (sfSet (J.cl "Reader") 2 1 (lstF []))
 (nxF)))
def B_Reader_order (J : Ix) : SS :=
 (seqF (retF (fldF (J.fd "own_order") (varF 0)))
 (nxF))
def B_Reader_seen (J : Ix) : SS :=
 (seqF (retF (slF (fldF (J.fd "own_order") (varF 0)) none (some (opE gLen [fldF (J.fd "own_read") (varF 0)]))))
 (nxF))
def B_Reader_versions_read (J : Ix) : SS :=
 (seqF (retF (opE gTuple [fldF (J.fd "own_read") (varF 0)]))
 (nxF))
def B_Reader_is_through (J : Ix) : SS :=
 (seqF (retF (opE (gEq false) [opE gLen [fldF (J.fd "own_read") (varF 0)], opE gLen [fldF (J.fd "own_order") (varF 0)]]))
 (nxF))
def B_Reader_take (J : Ix) : SS :=
 (seqF (expF (stkE))
 (nxF))
def B_Desk___init__ (J : Ix) : SS :=
 (seqF (sfSet (J.cl "Desk") 2 2 (varF 1))
 (seqF (sfSet (J.cl "Desk") 2 0 (cstF (.int 0)))
 (seqF (sfSet (J.cl "Desk") 2 1 (tupF []))
 (seqF (sfSet (J.cl "Desk") 2 3 (stkE))
 (nxF)))))
def B_Desk_check (J : Ix) : SS :=
 (seqF (forF (.nm 2) (itF (varF 1))
 (seqF (ifF (opE (gIn true) [varF 2, opE gIx [fldF (J.fd "own_plan") (varF 0), cstF (.int 0)]])
 (seqF (stkF)
 (nxF))
 (nxF))
 (nxF)))
 (nxF))
def B_Desk_reader (J : Ix) : SS :=
 (seqF (ifF (opE (gIn true) [varF 1, fldF (J.fd "own_readers") (varF 0)])
 (seqF (stkF)
 (nxF))
 (nxF))
 (seqF (retF (opE gIx [fldF (J.fd "own_readers") (varF 0), varF 1]))
 (nxF)))
def B_Desk_write (J : Ix) : SS :=
 (seqF (asgF (.nm 1) (lc2F [2, 3] [3] (.nm 2) (itF (opE gIx [fldF (J.fd "own_plan") (varF 0), cstF (.int 1)])) [] (.nm 3) (itF (varF 2)) [] (varF 3)))
 (seqF (ifF (opE (gEq false) [fldF (J.fd "own_moment") (varF 0), opE gLen [varF 1]])
 (seqF (retF (callF (J.fn "joined") [lstF [], stkE]))
 (nxF))
 (nxF))
 (seqF (stkF)
 (seqF (retF (stkE))
 (nxF)))))
def B_Desk_read (J : Ix) : SS :=
 (seqF (asgF (.nm 2) (methF (J.mt "reader") (varF 0) [varF 1]))
 (seqF (ifF (methF (J.mt "is_through") (varF 2) [])
 (seqF (retF (callF (J.fn "joined") [lstF [], stkE]))
 (nxF))
 (nxF))
 (seqF (asgF (.nm 3) (opE gIx [methF (J.mt "order") (varF 2) [], opE gLen [methF (J.mt "versions_read") (varF 2) []]]))
 (seqF (asgF (.nm 4) (callF (J.fn "version") [fldF (J.fd "own_plan") (varF 0), varF 3, fldF (J.fd "own_moment") (varF 0)]))
 (seqF (expF (methF (J.mt "take") (varF 2) [varF 4]))
 (seqF (retF (opE gAdd [opE gAdd [varF 3, stkE], stkE]))
 (nxF)))))))
def B_Desk_left (J : Ix) : SS :=
 (seqF (asgF (.nm 2) (methF (J.mt "reader") (varF 0) [varF 1]))
 (seqF (asgF (.nm 3) (slF (methF (J.mt "order") (varF 2) []) (some (opE gLen [methF (J.mt "versions_read") (varF 2) []])) none))
 (seqF (asgF (.nm 4) (lcF [5] (.nm 5) (itF (varF 3)) [] (callF (J.fn "version") [fldF (J.fd "own_plan") (varF 0), varF 5, fldF (J.fd "own_moment") (varF 0)])))
 (seqF (retF (stkE))
 (nxF)))))
def B_Desk_is_late (J : Ix) : SS :=
 (seqF (retF (opE gAll [lcF [3, 4] (.tp [.nm 3, .nm 4]) (zipF (varF 1) (varF 2)) [] (opE gGe [varF 3, varF 4])]))
 (nxF))
def B_Desk_of_reader (J : Ix) : SS :=
 (seqF (asgF (.nm 3) (methF (J.mt "reader") (varF 0) [varF 2]))
 (seqF (ifF (opE (gEq false) [varF 1, cstF (.str "mix")])
 (seqF (retF (callF (J.fn "mix_text") [methF (J.mt "versions_read") (varF 3) []]))
 (nxF))
 (nxF))
 (seqF (ifF (opE (gEq false) [varF 1, cstF (.str "breaks")])
 (seqF (retF (callF (J.fn "needs_text") [callF (J.fn "breaks") [fldF (J.fd "own_plan") (varF 0), methF (J.mt "seen") (varF 3) [], methF (J.mt "versions_read") (varF 3) [], fldF (J.fd "own_needs") (varF 0)]]))
 (nxF))
 (nxF))
 (seqF (asgF (.nm 4) (callF (J.fn "parted") [fldF (J.fd "own_plan") (varF 0), methF (J.mt "seen") (varF 3) [], methF (J.mt "versions_read") (varF 3) []]))
 (seqF (retF (iteF (opE (gIsN false) [varF 4]) (cstF (.str "yes")) (stkE)))
 (nxF))))))
def B_Desk_done (J : Ix) : SS :=
 (seqF (stkF)
 (seqF (ifF (opE (gEq false) [varF 2, stkE])
 (seqF (expF (methF (J.mt "check") (varF 0) [lc2F [4, 5] [5] (.nm 4) (itF (opE gIx [varF 3, cstF (.int 0)])) [] (.nm 5) (itF (varF 4)) [] (varF 5)]))
 (seqF (stkF)
 (seqF (retF (cstF (.str "done")))
 (nxF))))
 (nxF))
 (seqF (ifF (opE (gEq false) [varF 2, stkE])
 (seqF (expF (methF (J.mt "check") (varF 0) [opE gIx [varF 3, cstF (.int 1)]]))
 (seqF (stkF)
 (seqF (retF (cstF (.str "done")))
 (nxF))))
 (nxF))
 (seqF (ifF (opE (gEq false) [varF 2, cstF (.str "write")])
 (seqF (retF (methF (J.mt "write") (varF 0) []))
 (nxF))
 (nxF))
 (seqF (ifF (opE (gEq false) [varF 2, cstF (.str "stops")])
 (seqF (retF (callF (J.fn "joined") [lcF [6] (.nm 6) (itF (callF (J.fn "bad_stops") [fldF (J.fd "own_plan") (varF 0), fldF (J.fd "own_needs") (varF 0)])) [] (stkE), stkE]))
 (nxF))
 (nxF))
 (seqF (ifF (opE (gEq false) [varF 2, stkE])
 (seqF (retF (iteF (callF (J.fn "is_safe") [fldF (J.fd "own_plan") (varF 0), opE gIx [varF 3, cstF (.int 0)]]) (cstF (.str "yes")) (cstF (.str "no"))))
 (nxF))
 (nxF))
 (seqF (ifF (opE (gEq false) [varF 2, cstF (.str "read")])
 (seqF (retF (methF (J.mt "read") (varF 0) [opE gIx [varF 3, cstF (.int 0)]]))
 (nxF))
 (nxF))
 (seqF (retF (iteF (opE (gEq false) [varF 2, cstF (.str "left")]) (methF (J.mt "left") (varF 0) [opE gIx [varF 3, cstF (.int 0)]]) (methF (J.mt "of_reader") (varF 0) [varF 2, opE gIx [varF 3, cstF (.int 0)]])))
 (nxF)))))))))
def B_Desk_answer (J : Ix) : SS :=
 (seqF (stkF)
 (seqF (retF (varF 2))
 (nxF)))
def B_answers (J : Ix) : SS :=
 (seqF (asgF (.nm 1) (stkE))
 (seqF (asgF (.nm 2) (iteF (opE (gIn false) [cstF (.str ""), varF 1]) (tixF (varF 1) (cstF (.str ""))) (opE gLen [varF 1])))
 (seqF (asgF (.nm 3) (iteF (opE gGt [varF 2, cstF (.int 0)]) (callF (J.fn "plan_in") [stkE]) (tupF [tupF [], tupF []])))
 (seqF (ifF (opE (gEq false) [varF 2, opE gLen [varF 1]])
 (seqF (stkF)
 (nxF))
 (nxF))
 (seqF (asgF (.nm 4) (lcF [5] (.nm 5) (itF (slF (varF 1) (some (opE gAdd [varF 2, cstF (.int 1)])) none)) [] (callF (J.fn "request_in") [varF 5])))
 (seqF (ifF (opE (gIn false) [cstF .non, varF 4])
 (seqF (stkF)
 (nxF))
 (nxF))
 (seqF (asgF (.nm 6) (callF (J.fn "Desk") [varF 3]))
 (seqF (retF (lcF [7] (.nm 7) (itF (varF 4)) [] (methF (J.mt "answer") (varF 6) [varF 7])))
 (nxF)))))))))
def B__law_rows (J : Ix) : SS :=
 (seqF (seqF (parF [1, 2] [opE gMul [lstF [cstF (.int 0)], opE gLen [opE gIx [varF 0, cstF (.int 0)]]], lstF []]) (fzF [1]))
 (seqF (appF 2 (opE gTuple [varF 1]))
 (seqF (forF (.nm 3) (rng1F (opE gLen [opE gIx [varF 0, cstF (.int 1)]]))
 (seqF (forF (.nm 4) (itF (opE gIx [opE gIx [varF 0, cstF (.int 1)], varF 3]))
 (seqF (asgF (.nm 1) (lcF [5] (.nm 5) (rng1F (opE gLen [varF 1])) [] (iteF (opE (gIn false) [opE gIx [opE gIx [varF 0, cstF (.int 0)], varF 5], varF 4]) (opE gAdd [varF 3, cstF (.int 1)]) (opE gIx [varF 1, varF 5]))))
 (seqF (appF 2 (opE gTuple [varF 1]))
 (nxF))))
 (nxF)))
 (seqF (retF (varF 2))
 (nxF)))))
def B__law_column (J : Ix) : SS :=
 (seqF (retF (lcF [3] (.nm 3) (itF (varF 0)) [] (opE gIx [varF 3, lixF (opE gList [varF 1]) (varF 2)])))
 (nxF))
def B__law_read (J : Ix) : SS :=
 (seqF (asgF (.nm 3) (stkE))
 (seqF (forF (.nm 4) (itF (varF 2))
 (seqF (seqF (parF [5, 6] [callF (J.fn "_law_column") [varF 0, varF 1, varF 4], stkE]) (fzF [5]))
 (seqF (forF (.nm 7) (itF (varF 3))
 (seqF (forF (.nm 8) (rng3F (opE gSub [opE gLen [varF 0], cstF (.int 1)]) (opE gSub [opE gIx [varF 3, varF 7], cstF (.int 1)]) (opE gNeg [cstF (.int 1)]))
 (seqF (setIxF 6 (opE gAdd [varF 7, tupF [opE gIx [varF 5, varF 8]]]) (varF 8))
 (nxF)))
 (nxF)))
 (seqF (asgF (.nm 3) (stkE))
 (nxF)))))
 (seqF (retF (varF 3))
 (nxF))))
def B__law_mixes (J : Ix) : SS :=
 (seqF (retF (opE gSortX [callF (J.fn "_law_read") [callF (J.fn "_law_rows") [varF 0], opE gIx [varF 0, cstF (.int 0)], varF 1]]))
 (nxF))
def B__law_stands (J : Ix) : SS :=
 (seqF (asgF (.nm 4) (lcF [5] (.nm 5) (itF (varF 2)) [] (callF (J.fn "_law_column") [varF 0, varF 1, varF 5])))
 (seqF (setF 6 (lstF []))
 (seqF (forF (.nm 7) (rng1F (opE gLen [varF 0]))
 (seqF (ifF (opE (gEq false) [lcF [8] (.nm 8) (rng1F (opE gLen [varF 2])) [opE (gEq true) [opE gIx [opE gIx [varF 4, varF 8], varF 7], opE gIx [varF 3, varF 8]]] (varF 8), lstF []])
 (seqF (appF 6 (varF 7))
 (nxF))
 (nxF))
 (nxF)))
 (seqF (retF (varF 6))
 (nxF)))))
def B__law_need (J : Ix) : SS :=
 (seqF (asgF (.nm 3) (opE gSum [lcF [4] (.nm 4) (itF (slF (opE gIx [varF 0, cstF (.int 1)]) none (some (varF 2)))) [] (opE gLen [varF 4])]))
 (seqF (retF (opE gIx [callF (J.fn "_law_column") [callF (J.fn "_law_rows") [varF 0], opE gIx [varF 0, cstF (.int 0)], varF 1], varF 3]))
 (nxF)))
def B__law_breaks (J : Ix) : SS :=
 (seqF (setF 4 (lstF []))
 (seqF (forF (.tp [.nm 5, .nm 6]) (itF (varF 3))
 (seqF (asgF (.nm 7) (lcF [8] (.nm 8) (rng1F (opE gLen [varF 1])) [opE (gEq false) [opE gIx [varF 1, varF 8], varF 5]] (opE gIx [varF 2, varF 8])))
 (seqF (asgF (.nm 9) (lcF [8] (.nm 8) (rng1F (opE gLen [varF 1])) [opE (gEq false) [opE gIx [varF 1, varF 8], varF 6]] (opE gIx [varF 2, varF 8])))
 (seqF (ifF (opE (gEq true) [lcF [10] (.nm 10) (itF (varF 7)) [andF (opE (gEq true) [varF 9, lstF []]) (opE gLt [opE gMinX [varF 9], callF (J.fn "_law_need") [varF 0, varF 6, varF 10]])] (varF 10), lstF []])
 (seqF (appF 4 (tupF [varF 5, varF 6]))
 (nxF))
 (nxF))
 (nxF)))))
 (seqF (retF (varF 4))
 (nxF))))
def B__law_told_by (J : Ix) : SS :=
 (seqF (retF (callF (J.fn "answers") [stkE]))
 (nxF))
def B__law_all_steps (J : Ix) : SS :=
 (seqF (asgF (.nm 1) (lstF []))
 (seqF (forF (.nm 2) (itF (opE gIx [varF 0, cstF (.int 1)]))
 (seqF (asgF (.nm 1) (opE gAdd [varF 1, opE gList [varF 2]]))
 (nxF)))
 (seqF (retF (varF 1))
 (nxF))))
def B__law_is_safe (J : Ix) : SS :=
 (seqF (asgF (.nm 2) (callF (J.fn "_law_rows") [varF 0]))
 (seqF (asgF (.nm 3) (callF (J.fn "_law_mixes") [varF 0, varF 1]))
 (seqF (retF (opE (gEq false) [lcF [4] (.nm 4) (itF (varF 3)) [opE (gEq false) [callF (J.fn "_law_stands") [varF 2, opE gIx [varF 0, cstF (.int 0)], varF 1, varF 4], lstF []]] (varF 4), lstF []]))
 (nxF))))
def B__law_stops_line (J : Ix) : SS :=
 (seqF (asgF (.nm 2) (callF (J.fn "_law_rows") [varF 0]))
 (seqF (asgF (.nm 3) (lcF [4] (.nm 4) (rng1F (opE gLen [varF 2])) [opE (gEq true) [callF (J.fn "_law_breaks") [varF 0, opE gIx [varF 0, cstF (.int 0)], opE gIx [varF 2, varF 4], varF 1], lstF []]] (varF 4)))
 (seqF (retF (callF (J.fn "_law_numbers_line") [varF 3, cstF (.str " ")]))
 (nxF))))
def B__law_desk (J : Ix) : SS :=
 (seqF (retF (stkE))
 (nxF))
def B__law_now (J : Ix) : SS :=
 (seqF (retF (opE gIx [opE gIx [opE gIx [varF 0, cstF (.str "rows")], opE gIx [varF 0, cstF (.str "now")]], lixF (opE gList [opE gIx [opE gIx [varF 0, cstF (.str "plan")], cstF (.int 0)]]) (varF 1)]))
 (nxF))
def B__law_write_line (J : Ix) : SS :=
 (seqF (ifF (opE (gEq false) [opE gIx [varF 0, cstF (.str "now")], opE gLen [callF (J.fn "_law_all_steps") [opE gIx [varF 0, cstF (.str "plan")]]]])
 (seqF (retF (cstF (.str "-")))
 (nxF))
 (nxF))
 (seqF (setIxF 0 (cstF (.str "now")) (opE gAdd [opE gIx [varF 0, cstF (.str "now")], cstF (.int 1)]))
 (seqF (retF (stkE))
 (nxF))))
def B__law_read_line (J : Ix) : SS :=
 (seqF (asgF (.tp [.nm 2, .nm 3]) (opE gIx [opE gIx [varF 0, cstF (.str "who")], varF 1]))
 (seqF (ifF (opE (gEq false) [opE gLen [varF 3], opE gLen [varF 2]])
 (seqF (retF (cstF (.str "-")))
 (nxF))
 (nxF))
 (seqF (asgF (.nm 4) (opE gIx [varF 2, opE gLen [varF 3]]))
 (seqF (stkF)
 (seqF (retF (opE gAdd [opE gAdd [varF 4, cstF (.str " ")], stkE]))
 (nxF))))))
def B__law_parted (J : Ix) : SS :=
 (seqF (forF (.nm 4) (rng1F (opE gLen [varF 3]))
 (seqF (forF (.nm 5) (rng2F (opE gAdd [varF 4, cstF (.int 1)]) (opE gLen [varF 3]))
 (seqF (ifF (opE (gEq false) [callF (J.fn "_law_stands") [varF 0, varF 1, tupF [opE gIx [varF 2, varF 4], opE gIx [varF 2, varF 5]], tupF [opE gIx [varF 3, varF 4], opE gIx [varF 3, varF 5]]], lstF []])
 (seqF (retF (tupF [varF 4, varF 5]))
 (nxF))
 (nxF))
 (nxF)))
 (nxF)))
 (seqF (retF (cstF .non))
 (nxF)))
def B__law_true_line (J : Ix) : SS :=
 (seqF (asgF (.tp [.nm 2, .nm 3]) (opE gIx [opE gIx [varF 0, cstF (.str "who")], varF 1]))
 (seqF (asgF (.nm 4) (callF (J.fn "_law_parted") [opE gIx [varF 0, cstF (.str "rows")], opE gIx [opE gIx [varF 0, cstF (.str "plan")], cstF (.int 0)], slF (varF 2) none (some (opE gLen [varF 3])), varF 3]))
 (seqF (retF (iteF (opE (gIsN false) [varF 4]) (cstF (.str "yes")) (opE gAdd [opE gAdd [opE gAdd [cstF (.str "no "), stkE], cstF (.str " ")], stkE])))
 (nxF))))
def B__law_breaks_line (J : Ix) : SS :=
 (seqF (asgF (.tp [.nm 2, .nm 3]) (opE gIx [opE gIx [varF 0, cstF (.str "who")], varF 1]))
 (seqF (retF (callF (J.fn "_law_needs_line") [callF (J.fn "_law_breaks") [opE gIx [varF 0, cstF (.str "plan")], slF (varF 2) none (some (opE gLen [varF 3])), varF 3, opE gIx [varF 0, cstF (.str "needs")]]]))
 (nxF)))
def B__law_left_line (J : Ix) : SS :=
 (seqF (asgF (.tp [.nm 2, .nm 3]) (opE gIx [opE gIx [varF 0, cstF (.str "who")], varF 1]))
 (seqF (retF (stkE))
 (nxF)))
def B__law_of_reader (J : Ix) : SS :=
 (seqF (ifF (opE (gIn true) [varF 2, opE gIx [varF 0, cstF (.str "who")]])
 (seqF (retF (cstF (.str "refused NoReader")))
 (nxF))
 (nxF))
 (seqF (ifF (opE (gEq false) [varF 1, cstF (.str "read")])
 (seqF (retF (callF (J.fn "_law_read_line") [varF 0, varF 2]))
 (nxF))
 (nxF))
 (seqF (ifF (opE (gEq false) [varF 1, cstF (.str "mix")])
 (seqF (retF (callF (J.fn "_law_numbers_line") [opE gIx [opE gIx [opE gIx [varF 0, cstF (.str "who")], varF 2], cstF (.int 1)], cstF (.str ",")]))
 (nxF))
 (nxF))
 (seqF (ifF (opE (gEq false) [varF 1, cstF (.str "true")])
 (seqF (retF (callF (J.fn "_law_true_line") [varF 0, varF 2]))
 (nxF))
 (nxF))
 (seqF (retF (iteF (opE (gEq false) [varF 1, cstF (.str "breaks")]) (callF (J.fn "_law_breaks_line") [varF 0, varF 2]) (callF (J.fn "_law_left_line") [varF 0, varF 2])))
 (nxF))))))
def B__law_asked (J : Ix) : SS :=
 (seqF (asgF (.nm 3) (callF (J.fn "_law_files") [varF 0, opE gAdd [cstF (.int 2), callF (J.fn "_law_take") [varF 0, cstF (.int 3)]]]))
 (seqF (asgF (.nm 4) (callF (J.fn "_law_plan") [varF 0, varF 3, opE gAdd [cstF (.int 1), callF (J.fn "_law_take") [varF 0, cstF (.int 3)]]]))
 (seqF (retF (tupF [varF 4, callF (J.fn "_law_order") [varF 0, varF 3, opE gAdd [cstF (.int 1), callF (J.fn "_law_take") [varF 0, varF 1]], varF 2]]))
 (nxF))))
def B_is_number (J : Ix) : SS :=
 (seqF (retF (andF (opE (gIsi ["int"]) [varF 0]) (andF (notF (opE (gIsi ["bool"]) [varF 0])) (opE gGe [varF 0, varF 1]))))
 (nxF))
def B_versions (J : Ix) : SS :=
 (seqF (retF (methF (J.mt "versions") (callF (J.fn "Plan") [varF 0]) [varF 1]))
 (nxF))
def B_span (J : Ix) : SS :=
 (seqF (retF (methF (J.mt "span") (callF (J.fn "Plan") [varF 0]) [varF 1, varF 2]))
 (nxF))
def B_check_row (J : Ix) : SS :=
 (seqF (asgF (.nm 3) (callF (J.fn "tupled") [varF 2]))
 (seqF (asgF (.nm 4) (opE gAll [lcF [5, 6] (.tp [.nm 5, .nm 6]) (zipF (varF 3) (slF (varF 3) (some (cstF (.int 1))) none)) [] (opE gLe [varF 5, varF 6])]))
 (seqF (ifF (orF (notF (varF 4)) (orF (opE (gEq true) [opE gMod [opE gLen [varF 3], opE gLen [varF 1]], cstF (.int 0)]) (notF (opE gAll [lcF [7] (.nm 7) (itF (varF 3)) [] (chF gLe gLe (cstF (.int 0)) (varF 7) (methF (J.mt "moments") (varF 0) []))]))))
 (seqF (stkF)
 (nxF))
 (nxF))
 (seqF (retF (varF 3))
 (nxF)))))
def B_rounds_of (J : Ix) : SS :=
 (seqF (setF 3 (lstF []))
 (seqF (forF (.nm 4) (rng3F (cstF (.int 0)) (opE gLen [varF 2]) (opE gLen [varF 1]))
 (seqF (asgF (.nm 5) (slF (varF 2) (some (varF 4)) (some (opE gAdd [varF 4, opE gLen [varF 1]]))))
 (seqF (appF 3 (opE gTuple [lcF [6, 7] (.tp [.nm 6, .nm 7]) (zipF (varF 1) (varF 5)) [] (methF (J.mt "version") (varF 0) [varF 6, varF 7])]))
 (nxF))))
 (seqF (retF (varF 3))
 (nxF))))
def B_taken (J : Ix) : SS :=
 (seqF (asgF (.nm 3) (callF (J.fn "Plan") [varF 0]))
 (seqF (asgF (.nm 4) (methF (J.mt "check_order") (varF 3) [varF 1]))
 (seqF (asgF (.nm 5) (callF (J.fn "rounds_of") [varF 3, varF 4, callF (J.fn "check_row") [varF 3, varF 4, varF 2]]))
 (seqF (forF (.nm 6) (rng2F (cstF (.int 1)) (opE gLen [varF 5]))
 (seqF (ifF (opE (gEq false) [opE gIx [varF 5, varF 6], opE gIx [varF 5, opE gSub [varF 6, cstF (.int 1)]]])
 (seqF (retF (tupF [opE gAdd [varF 6, cstF (.int 1)], opE gIx [varF 5, varF 6]]))
 (nxF))
 (nxF))
 (nxF)))
 (seqF (retF (cstF .non))
 (nxF))))))
def B_most_rounds (J : Ix) : SS :=
 (seqF (asgF (.nm 2) (callF (J.fn "Plan") [varF 0]))
 (seqF (asgF (.nm 3) (methF (J.mt "check_order") (varF 2) [varF 1]))
 (seqF (asgF (.nm 4) (lcF [6] (.nm 6) (itF (methF (J.mt "steps") (varF 2) [])) [] (opE gLen [lcF [5] (.nm 5) (itF (varF 3)) [opE (gIn false) [varF 5, varF 6]] (varF 5)])))
 (seqF (retF (opE gAdd [cstF (.int 2), opE gSum [lcF [7] (.nm 7) (itF (varF 4)) [] (opE gMinX [cstF (.int 2), varF 7])]]))
 (nxF)))))
def B_first_moments (J : Ix) : SS :=
 (seqF (setF 1 (lstF [cstF (.int 0)]))
 (seqF (forF (.tp [.nm 2, .nm 3]) (itF (varF 0))
 (seqF (ifF (opE gGt [opE gIx [varF 1, opE gNeg [cstF (.int 1)]], varF 3])
 (seqF (retF (cstF .non))
 (nxF))
 (nxF))
 (seqF (appF 1 (opE gMaxX [opE gIx [varF 1, opE gNeg [cstF (.int 1)]], varF 2]))
 (nxF))))
 (seqF (retF (opE gTuple [slF (varF 1) (some (cstF (.int 1))) none]))
 (nxF))))
def B_can_be (J : Ix) : SS :=
 (seqF (retF (opE (gIsN true) [callF (J.fn "moments_for") [varF 0, varF 1, varF 2]]))
 (nxF))
def B_moments_for (J : Ix) : SS :=
 (seqF (asgF (.nm 3) (callF (J.fn "Plan") [varF 0]))
 (seqF (asgF (.nm 4) (methF (J.mt "check_order") (varF 3) [varF 1]))
 (seqF (retF (callF (J.fn "first_moments") [methF (J.mt "spans") (varF 3) [varF 4, methF (J.mt "check_mix") (varF 3) [varF 4, varF 2]]]))
 (nxF))))
def B_barred (J : Ix) : SS :=
 (seqF (asgF (.nm 3) (callF (J.fn "Plan") [varF 0]))
 (seqF (asgF (.nm 4) (methF (J.mt "check_order") (varF 3) [varF 1]))
 (seqF (asgF (.nm 5) (methF (J.mt "spans") (varF 3) [varF 4, methF (J.mt "check_mix") (varF 3) [varF 4, varF 2]]))
 (seqF (forF (.tp [.nm 6, .tp [.nm 7, .nm 8]]) (enumF 0 (varF 5))
 (seqF (forF (.nm 9) (rng2F (opE gAdd [varF 6, cstF (.int 1)]) (opE gLen [varF 5]))
 (seqF (ifF (opE gGt [varF 7, opE gIx [opE gIx [varF 5, varF 9], cstF (.int 1)]])
 (seqF (retF (tupF [varF 6, varF 9]))
 (nxF))
 (nxF))
 (nxF)))
 (nxF)))
 (seqF (retF (cstF .non))
 (nxF))))))
def B_bad (J : Ix) : SS :=
 (seqF (asgF (.nm 3) (callF (J.fn "Plan") [varF 0]))
 (seqF (asgF (.nm 4) (methF (J.mt "check_order") (varF 3) [varF 1]))
 (seqF (asgF (.nm 5) (callF (J.fn "checked_needs") [varF 3, varF 2]))
 (seqF (retF (lcF [6] (.nm 6) (itF (callF (J.fn "found_mixes") [varF 3, varF 4])) [opE gGt [opE gLen [callF (J.fn "broken_by") [varF 3, varF 4, varF 6, varF 5]], cstF (.int 0)]] (varF 6)))
 (nxF)))))
def B_broken (J : Ix) : SS :=
 (seqF (asgF (.nm 3) (callF (J.fn "Plan") [varF 0]))
 (seqF (asgF (.nm 4) (methF (J.mt "check_order") (varF 3) [varF 1]))
 (seqF (asgF (.nm 5) (callF (J.fn "checked_needs") [varF 3, varF 2]))
 (seqF (asgF (.nm 6) (callF (J.fn "found_mixes") [varF 3, varF 4]))
 (seqF (retF (lcF [7] (.nm 7) (itF (varF 5)) [opE gAny [lcF [8] (.nm 8) (itF (varF 6)) [] (callF (J.fn "is_broken") [varF 3, varF 4, varF 8, varF 7])]] (varF 7)))
 (nxF))))))
def B_begin_of (J : Ix) : SS :=
 (seqF (asgF (.nm 2) (cstF (.int 0)))
 (seqF (forF (.nm 3) (itF (opE gIx [callF (J.fn "tupled") [varF 0], cstF (.int 1)]))
 (seqF (ifF (andF (callF (J.fn "is_number") [varF 1, cstF (.int 0)]) (chF gLt gLt (varF 2) (varF 1) (opE gAdd [varF 2, opE gLen [varF 3]])))
 (seqF (retF (varF 2))
 (nxF))
 (nxF))
 (seqF (augF 2 (opE gLen [varF 3]))
 (nxF))))
 (seqF (stkF)
 (nxF))))
def B_Back___init__ (J : Ix) : SS :=
 (seqF (seqF (parF [3, 4] [callF (J.fn "Plan") [varF 1], callF (J.fn "begin_of") [varF 1, varF 2]]) (fzF [3, 4]))
 (seqF (asgF (.nm 5) (methF (J.mt "rows") (varF 3) []))
 (seqF (sfSet (J.cl "Back") 6 0 (methF (J.mt "files") (varF 3) []))
 (seqF (sfSet (J.cl "Back") 6 1 (opE gAdd [opE gAdd [slF (varF 5) none (some (opE gAdd [varF 2, cstF (.int 1)])), opE gRevX [slF (varF 5) (some (varF 4)) (some (varF 2))]], slF (varF 5) (some (opE gAdd [varF 4, cstF (.int 1)])) none]))
 (nxF)))))
def B_Back_rows (J : Ix) : SS :=
 (seqF (retF (opE gList [fldF (J.fd "own_rows") (varF 0)]))
 (nxF))
def B_Back_column (J : Ix) : SS :=
 (seqF (asgF (.nm 2) (tixF (fldF (J.fd "own_files") (varF 0)) (varF 1)))
 (seqF (retF (lcF [3] (.nm 3) (itF (fldF (J.fd "own_rows") (varF 0))) [] (opE gIx [varF 3, varF 2])))
 (nxF)))
def B_Back_mixes (J : Ix) : SS :=
 (seqF (asgF (.nm 2) (stkE))
 (seqF (forF (.nm 3) (itF (varF 1))
 (seqF (seqF (parF [4, 5] [methF (J.mt "column") (varF 0) [varF 3], stkE]) (fzF [4]))
 (seqF (forF (.tp [.nm 6, .nm 7]) (itF (stkE))
 (seqF (forF (.nm 8) (itF (opE gRevX [lr2F (varF 7) (opE gLen [varF 4])]))
 (seqF (asgF (.nm 9) (tupS [(true, varF 6), (false, opE gIx [varF 4, varF 8])]))
 (seqF (setIxF 5 (varF 9) (varF 8))
 (nxF))))
 (nxF)))
 (seqF (asgF (.nm 2) (varF 5))
 (nxF)))))
 (seqF (retF (opE gSortX [varF 2]))
 (nxF))))
def B_Back_can_be (J : Ix) : SS :=
 (seqF (asgF (.nm 3) (cstF (.int 0)))
 (seqF (forF (.tp [.nm 4, .nm 5]) (zipF (varF 1) (varF 2))
 (seqF (asgF (.nm 6) (lcF [7, 8] (.tp [.nm 7, .nm 8]) (enumF 0 (methF (J.mt "column") (varF 0) [varF 4])) [andF (opE gGe [varF 7, varF 3]) (opE (gEq false) [varF 8, varF 5])] (varF 7)))
 (seqF (ifF (opE (gEq false) [opE gLen [varF 6], cstF (.int 0)])
 (seqF (retF (cstF (.bl false)))
 (nxF))
 (nxF))
 (seqF (asgF (.nm 3) (opE gIx [varF 6, cstF (.int 0)]))
 (nxF)))))
 (seqF (retF (cstF (.bl true)))
 (nxF))))
def B_Back_is_true (J : Ix) : SS :=
 (seqF (asgF (.nm 3) (lcF [4] (.nm 4) (itF (varF 1)) [] (tixF (fldF (J.fd "own_files") (varF 0)) (varF 4))))
 (seqF (retF (opE gAny [lcF [6] (.nm 6) (itF (fldF (J.fd "own_rows") (varF 0))) [] (opE (gEq false) [opE gTuple [lcF [5] (.nm 5) (itF (varF 3)) [] (opE gIx [varF 6, varF 5])], varF 2])]))
 (nxF)))
def B_back_versions (J : Ix) : SS :=
 (seqF (retF (methF (J.mt "rows") (callF (J.fn "Back") [varF 0, varF 1]) []))
 (nxF))
def B_back_mixes (J : Ix) : SS :=
 (seqF (asgF (.nm 3) (methF (J.mt "check_order") (callF (J.fn "Plan") [varF 0]) [varF 1]))
 (seqF (retF (methF (J.mt "mixes") (callF (J.fn "Back") [varF 0, varF 2]) [varF 3]))
 (nxF)))
def B_fooled (J : Ix) : SS :=
 (seqF (asgF (.nm 3) (methF (J.mt "check_order") (callF (J.fn "Plan") [varF 0]) [varF 1]))
 (seqF (asgF (.nm 4) (callF (J.fn "Back") [varF 0, varF 2]))
 (seqF (asgF (.nm 5) (lcF [6] (.nm 6) (itF (methF (J.mt "mixes") (varF 4) [varF 3])) [andF (notF (methF (J.mt "is_true") (varF 4) [varF 3, varF 6])) (methF (J.mt "can_be") (varF 4) [opE gAdd [varF 3, varF 3], opE gAdd [varF 6, varF 6]])] (varF 6)))
 (seqF (retF (iteF (opE gGt [opE gLen [varF 5], cstF (.int 0)]) (opE gIx [varF 5, cstF (.int 0)]) (cstF .non)))
 (nxF)))))
def B_common (J : Ix) : SS :=
 (seqF (asgF (.nm 1) (opE (gMaxDf 0) [lcF [2] (.nm 2) (itF (varF 0)) [] (opE gIx [varF 2, cstF (.int 0)])]))
 (seqF (retF (iteF (opE gAll [lcF [2] (.nm 2) (itF (varF 0)) [] (opE gLe [varF 1, opE gIx [varF 2, cstF (.int 1)]])]) (varF 1) (cstF .non)))
 (nxF)))
def B_true_at (J : Ix) : SS :=
 (seqF (asgF (.nm 3) (callF (J.fn "Plan") [varF 0]))
 (seqF (asgF (.nm 4) (methF (J.mt "check_order") (varF 3) [varF 1]))
 (seqF (retF (callF (J.fn "common") [methF (J.mt "spans") (varF 3) [varF 4, methF (J.mt "check_mix") (varF 3) [varF 4, varF 2]]]))
 (nxF))))
def B_untrue (J : Ix) : SS :=
 (seqF (asgF (.nm 2) (callF (J.fn "Plan") [varF 0]))
 (seqF (asgF (.nm 3) (methF (J.mt "check_order") (varF 2) [varF 1]))
 (seqF (retF (lcF [4] (.nm 4) (itF (callF (J.fn "mixes") [varF 0, varF 1])) [opE (gIsN false) [callF (J.fn "common") [methF (J.mt "spans") (varF 2) [varF 3, varF 4]]]] (varF 4)))
 (nxF))))
def B_safe_orders (J : Ix) : SS :=
 (seqF (seqF (parF [1, 2] [callF (J.fn "Plan") [varF 0], lstF [tupF []]]) (fzF [1, 2]))
 (seqF (forF (.nm 3) (rng1F (opE gLen [methF (J.mt "files") (varF 1) []]))
 (seqF (setF 4 (lstF []))
 (seqF (forF (.nm 5) (itF (varF 2))
 (seqF (asgF (.nm 6) (lcF [7] (.nm 7) (itF (methF (J.mt "files") (varF 1) [])) [opE (gIn true) [varF 7, varF 5]] (varF 7)))
 (seqF (extF 4 (lcF [7] (.nm 7) (itF (varF 6)) [notF (opE gAny [lcF [8] (.nm 8) (itF (varF 5)) [] (callF (J.fn "can_part") [varF 1, varF 8, varF 7])])] (tupS [(true, varF 5), (false, varF 7)])))
 (nxF))))
 (seqF (asgF (.nm 2) (varF 4))
 (nxF)))))
 (seqF (retF (varF 2))
 (nxF))))
def B_is_tuple (J : Ix) : SS :=
 (seqF (retF (andF (opE (gIsi ["tuple"]) [varF 0]) (opE (gEq false) [opE gLen [varF 0], varF 1])))
 (nxF))
def B_are_names (J : Ix) : SS :=
 (seqF (retF (andF (opE (gIsi ["tuple"]) [varF 0]) (opE gAll [lcF [1] (.nm 1) (itF (varF 0)) [] (callF (J.fn "is_name") [varF 1])])))
 (nxF))
def B_is_update (J : Ix) : SS :=
 (seqF (ifF (orF (notF (opE (gIsi ["tuple"]) [varF 0])) (notF (opE gAll [lcF [2] (.nm 2) (itF (varF 0)) [] (andF (callF (J.fn "are_names") [varF 2]) (andF (opE gGt [opE gLen [varF 2], cstF (.int 0)]) (callF (J.fn "rises") [varF 2])))])))
 (seqF (retF (cstF (.bl false)))
 (nxF))
 (nxF))
 (seqF (asgF (.nm 3) (lc2F [2, 4] [4] (.nm 2) (itF (varF 0)) [] (.nm 4) (itF (varF 2)) [] (varF 4)))
 (seqF (retF (andF (opE gAll [lcF [4] (.nm 4) (itF (varF 3)) [] (opE (gIn false) [varF 4, varF 1])]) (opE (gEq false) [opE gLen [stkE], opE gLen [varF 3]])))
 (nxF))))
def B_is_plan (J : Ix) : SS :=
 (seqF (ifF (orF (notF (callF (J.fn "is_tuple") [varF 0, cstF (.int 2)])) (orF (notF (callF (J.fn "are_names") [opE gIx [varF 0, cstF (.int 0)]])) (orF (notF (callF (J.fn "rises") [opE gIx [varF 0, cstF (.int 0)]])) (notF (opE (gIsi ["tuple"]) [opE gIx [varF 0, cstF (.int 1)]])))))
 (seqF (retF (cstF (.bl false)))
 (nxF))
 (nxF))
 (seqF (retF (opE gAll [lcF [1] (.nm 1) (itF (opE gIx [varF 0, cstF (.int 1)])) [] (callF (J.fn "is_update") [varF 1, opE gIx [varF 0, cstF (.int 0)]])]))
 (nxF)))
def B__law_job (J : Ix) : SS :=
 (seqF (retF (callF (J.fn "_law_plan") [varF 0, callF (J.fn "_law_files") [varF 0, opE gAdd [cstF (.int 1), callF (J.fn "_law_take") [varF 0, varF 1]]], callF (J.fn "_law_take") [varF 0, cstF (.int 4)]]))
 (nxF))
def B_moments (J : Ix) : SS :=
 (seqF (retF (methF (J.mt "moments") (callF (J.fn "Plan") [varF 0]) []))
 (nxF))
def B__law_refill (J : Ix) : SS :=
 (seqF (whileF (opE (gEq true) [varF 0, lstF []])
 (seqF (expF (stkE))
 (nxF)))
 (seqF (extF 0 (callF (J.fn "_law_lists") [varF 1]))
 (seqF (retF (varF 0))
 (nxF))))
def B__law_every (J : Ix) : SS :=
 (seqF (seqF (parF [2, 3] [callF (J.fn "_law_rows") [varF 0], lstF [tupF []]]) (fzF [2, 3]))
 (seqF (forF (.nm 4) (itF (varF 1))
 (seqF (asgF (.nm 5) (lstF []))
 (seqF (forF (.nm 6) (itF (varF 3))
 (seqF (asgF (.nm 5) (opE gAdd [varF 5, lcF [7] (.nm 7) (itF (opE gSS [callF (J.fn "_law_column") [varF 2, opE gIx [varF 0, cstF (.int 0)], varF 4]])) [] (opE gAdd [varF 6, tupF [varF 7]])]))
 (nxF)))
 (seqF (asgF (.nm 3) (opE gList [varF 5]))
 (nxF)))))
 (seqF (retF (varF 3))
 (nxF))))
def B__law_moments_of (J : Ix) : SS :=
 (seqF (setF 4 (lstF []))
 (seqF (forF (.nm 5) (rng1F (opE gLen [varF 2]))
 (seqF (asgF (.nm 6) (callF (J.fn "_law_column") [varF 0, varF 1, opE gIx [varF 2, varF 5]]))
 (seqF (appF 4 (lcF [7] (.nm 7) (rng1F (opE gLen [varF 6])) [opE (gEq false) [opE gIx [varF 6, varF 7], opE gIx [varF 3, varF 5]]] (varF 7)))
 (nxF))))
 (seqF (retF (varF 4))
 (nxF))))
def B__law_at (J : Ix) : SS :=
 (seqF (asgF (.nm 3) (callF (J.fn "_law_rows") [varF 0]))
 (seqF (retF (opE gTuple [lcF [4] (.nm 4) (rng1F (opE gLen [varF 1])) [] (opE gIx [callF (J.fn "_law_column") [varF 3, opE gIx [varF 0, cstF (.int 0)], opE gIx [varF 1, varF 4]], opE gIx [varF 2, varF 4]])]))
 (nxF)))
def B__law_inner (J : Ix) : SS :=
 (seqF (seqF (parF [1, 2] [lstF [], cstF (.int 0)]) (fzF [1, 2]))
 (seqF (forF (.nm 3) (itF (opE gIx [varF 0, cstF (.int 1)]))
 (seqF (asgF (.nm 1) (opE gAdd [varF 1, lr2F (opE gAdd [varF 2, cstF (.int 1)]) (opE gAdd [varF 2, opE gLen [varF 3]])]))
 (seqF (asgF (.nm 2) (opE gAdd [varF 2, opE gLen [varF 3]]))
 (nxF))))
 (seqF (retF (varF 1))
 (nxF))))
def B__law_scene (J : Ix) : SS :=
 (seqF (asgF (.nm 3) (callF (J.fn "_law_files") [varF 0, opE gAdd [cstF (.int 2), callF (J.fn "_law_take") [varF 0, opE gSub [varF 1, cstF (.int 1)]]]]))
 (seqF (asgF (.nm 4) (callF (J.fn "_law_plan") [varF 0, varF 3, varF 2]))
 (seqF (ifF (opE (gEq false) [callF (J.fn "_law_inner") [varF 4], lstF []])
 (seqF (asgF (.nm 4) (tupF [varF 3, opE gAdd [opE gIx [varF 4, cstF (.int 1)], tupF [opE gTuple [lcF [5] (.nm 5) (itF (callF (J.fn "_law_pick") [varF 0, varF 3, opE gLen [varF 3]])) [] (tupF [varF 5])]]]]))
 (nxF))
 (nxF))
 (seqF (retF (tupF [varF 4, callF (J.fn "_law_of") [varF 0, callF (J.fn "_law_inner") [varF 4]]]))
 (nxF)))))
def B__law_twice (J : Ix) : SS :=
 (seqF (asgF (.nm 4) (cstF (.int 0)))
 (seqF (forF (.tp [.nm 5, .nm 6]) (zipF (opE gAdd [varF 2, varF 2]) (opE gAdd [varF 3, varF 3]))
 (seqF (asgF (.nm 7) (callF (J.fn "_law_column") [varF 0, varF 1, varF 5]))
 (seqF (asgF (.nm 8) (lcF [9] (.nm 9) (rng2F (varF 4) (opE gLen [varF 0])) [opE (gEq false) [opE gIx [varF 7, varF 9], varF 6]] (varF 9)))
 (seqF (ifF (opE (gEq false) [varF 8, lstF []])
 (seqF (retF (cstF (.bl false)))
 (nxF))
 (nxF))
 (seqF (asgF (.nm 4) (opE gIx [varF 8, cstF (.int 0)]))
 (nxF))))))
 (seqF (retF (cstF (.bl true)))
 (nxF))))
def B__law_a_mix (J : Ix) : SS :=
 (seqF (seqF (parF [3, 4, 5] [callF (J.fn "_law_rows") [varF 1], cstF (.int 0), lstF []]) (fzF [3, 4]))
 (seqF (forF (.nm 6) (itF (varF 2))
 (seqF (asgF (.nm 7) (callF (J.fn "_law_column") [varF 3, opE gIx [varF 1, cstF (.int 0)], varF 6]))
 (seqF (asgF (.nm 4) (opE gAdd [varF 4, callF (J.fn "_law_take") [varF 0, opE gSub [opE gLen [varF 3], varF 4]]]))
 (seqF (appF 5 (iteF (opE gGt [callF (J.fn "_law_take") [varF 0, cstF (.int 4)], cstF (.int 0)]) (opE gIx [varF 7, varF 4]) (callF (J.fn "_law_of") [varF 0, varF 7])))
 (nxF)))))
 (seqF (retF (opE gTuple [varF 5]))
 (nxF))))
def B__law_spans (J : Ix) : SS :=
 (seqF (seqF (parF [3, 4] [callF (J.fn "_law_rows") [varF 0], lstF []]) (fzF [3]))
 (seqF (forF (.nm 5) (rng1F (opE gLen [varF 1]))
 (seqF (asgF (.nm 6) (callF (J.fn "_law_column") [varF 3, opE gIx [varF 0, cstF (.int 0)], opE gIx [varF 1, varF 5]]))
 (seqF (asgF (.nm 7) (lcF [8] (.nm 8) (rng1F (opE gLen [varF 3])) [opE (gEq false) [opE gIx [varF 6, varF 8], opE gIx [varF 2, varF 5]]] (varF 8)))
 (seqF (appF 4 (tupF [opE gIx [varF 7, cstF (.int 0)], opE gIx [varF 7, opE gSub [opE gLen [varF 7], cstF (.int 1)]]]))
 (nxF)))))
 (seqF (retF (varF 4))
 (nxF))))
def B__law_bars (J : Ix) : SS :=
 (seqF (seqF (parF [3, 4] [callF (J.fn "_law_spans") [varF 0, varF 1, varF 2], lstF []]) (fzF [3, 4]))
 (seqF (forF (.nm 5) (rng1F (opE gLen [varF 1]))
 (seqF (asgF (.nm 4) (opE gAdd [varF 4, lcF [6] (.nm 6) (rng2F (opE gAdd [varF 5, cstF (.int 1)]) (opE gLen [varF 1])) [opE gGt [opE gIx [opE gIx [varF 3, varF 5], cstF (.int 0)], opE gIx [opE gIx [varF 3, varF 6], cstF (.int 1)]]] (tupF [varF 5, varF 6])]))
 (nxF)))
 (seqF (retF (varF 4))
 (nxF))))
def B__law_row (J : Ix) : SS :=
 (seqF (seqF (parF [4, 5, 6] [opE gSub [opE gLen [callF (J.fn "_law_rows") [varF 1]], cstF (.int 1)], cstF (.int 0), lstF []]) (fzF [4, 5]))
 (seqF (forF (.nm 7) (rng1F (opE gMul [varF 3, opE gLen [varF 2]]))
 (seqF (asgF (.nm 5) (opE gMinX [varF 4, opE gAdd [varF 5, callF (J.fn "_law_of") [varF 0, lstF [cstF (.int 0), cstF (.int 0), cstF (.int 0), cstF (.int 1), cstF (.int 1), cstF (.int 2)]]]]))
 (seqF (appF 6 (varF 5))
 (nxF))))
 (seqF (retF (opE gTuple [varF 6]))
 (nxF))))
def B__law_refused (J : Ix) : SS :=
 (seqF (asgF (.nm 4) (cstF .non))
 (seqF (stkF)
 (seqF (ifF (andF (stkE) (stkE))
 (seqF (retF (tupF [cstF (.str "file"), stkE]))
 (nxF))
 (nxF))
 (seqF (ifF (andF (stkE) (stkE))
 (seqF (retF (tupF [cstF (.str "mix"), stkE]))
 (nxF))
 (nxF))
 (seqF (ifF (andF (stkE) (stkE))
 (seqF (retF (tupF [cstF (.str "row"), stkE]))
 (nxF))
 (nxF))
 (seqF (retF (iteF (opE (gIsN false) [varF 4]) (cstF .non) (cstF (.str "other"))))
 (nxF)))))))
def B_Shape___init__ (J : Ix) : SS :=
 (seqF (stkF)
 (seqF (sfSet (J.cl "Shape") 4 1 (callF (J.fn "tupled") [varF 2]))
 (seqF (sfSet (J.cl "Shape") 4 2 (callF (J.fn "tupled") [varF 3]))
 (nxF))))
def B_Shape_counts (J : Ix) : SS :=
 (seqF (asgF (.tp [.nm 2, .nm 3]) (varF 1))
 (seqF (asgF (.nm 4) (lcF [5, 6] (.tp [.nm 5, .nm 6]) (enumF 0 (fldF (J.fd "own_updates") (varF 0))) [opE (gIn false) [varF 3, varF 6]] (varF 5)))
 (seqF (retF (andF (opE gGt [opE gLen [varF 4], cstF (.int 0)]) (opE gAny [lcF [6] (.nm 6) (itF (slF (fldF (J.fd "own_updates") (varF 0)) (some (opE gIx [varF 4, cstF (.int 0)])) none)) [] (opE (gIn false) [varF 2, varF 6])])))
 (nxF))))
def B_Shape_needs (J : Ix) : SS :=
 (seqF (retF (lcF [1] (.nm 1) (itF (fldF (J.fd "own_needs") (varF 0))) [methF (J.mt "counts") (varF 0) [varF 1]] (varF 1)))
 (nxF))
def B_Joined___init__ (J : Ix) : SS :=
 (seqF (sfSet (J.cl "Joined") 3 1 (varF 1))
 (seqF (sfSet (J.cl "Joined") 3 0 (callF (J.fn "tupled") [varF 2]))
 (nxF)))
def B_Joined_bundle (J : Ix) : SS :=
 (seqF (retF (opE gIx [lcF [2] (.nm 2) (itF (fldF (J.fd "own_bundles") (varF 0))) [opE (gIn false) [varF 1, varF 2]] (varF 2), cstF (.int 0)]))
 (nxF))
def B_Joined_place (J : Ix) : SS :=
 (seqF (retF (opE gMinX [lcF [3, 4] (.tp [.nm 3, .nm 4]) (enumF 0 (varF 1)) [opE (gIn false) [varF 4, methF (J.mt "bundle") (varF 0) [varF 2]]] (varF 3)]))
 (nxF))
def B_Joined_is_apart (J : Ix) : SS :=
 (seqF (retF (opE (gEq true) [methF (J.mt "bundle") (varF 0) [opE gIx [varF 1, cstF (.int 0)]], methF (J.mt "bundle") (varF 0) [opE gIx [varF 1, cstF (.int 1)]]]))
 (nxF))
def B_Joined_is_helpless (J : Ix) : SS :=
 (seqF (ifF (orF (opE (gIn true) [opE gIx [varF 1, cstF (.int 0)], varF 2]) (orF (opE (gIn true) [opE gIx [varF 1, cstF (.int 1)], varF 2]) (notF (methF (J.mt "is_apart") (varF 0) [varF 1]))))
 (seqF (retF (cstF (.bl false)))
 (nxF))
 (nxF))
 (seqF (retF (andF (opE gLt [methF (J.mt "place") (varF 0) [varF 2, opE gIx [varF 1, cstF (.int 1)]], methF (J.mt "place") (varF 0) [varF 2, opE gIx [varF 1, cstF (.int 0)]]]) (methF (J.mt "counts") (fldF (J.fd "own_shape") (varF 0)) [varF 1])))
 (nxF)))
def B_Joined_helpless (J : Ix) : SS :=
 (seqF (seqF (parF [1, 2] [lstF [], fldF (J.fd "own_readers") (fldF (J.fd "own_shape") (varF 0))]) (fzF [2]))
 (seqF (forF (.nm 3) (itF (fldF (J.fd "own_needs") (fldF (J.fd "own_shape") (varF 0))))
 (seqF (extF 1 (lcF [4, 5] (.tp [.nm 4, .nm 5]) (enumF 0 (varF 2)) [methF (J.mt "is_helpless") (varF 0) [varF 3, varF 5]] (tupF [varF 3, varF 4])))
 (nxF)))
 (seqF (retF (varF 1))
 (nxF))))
def B_helpless (J : Ix) : SS :=
 (seqF (retF (methF (J.mt "helpless") (callF (J.fn "joined") [varF 0, varF 1, varF 2, varF 3]) []))
 (nxF))
def B__law_shape (J : Ix) : SS :=
 (seqF (seqF (parF [3, 4] [callF (J.fn "_law_files") [varF 0, varF 1], lstF []]) (fzF [3]))
 (seqF (forF (.nm 5) (rng1F (opE gAdd [cstF (.int 1), callF (J.fn "_law_take") [varF 0, varF 2]]))
 (seqF (asgF (.nm 6) (callF (J.fn "_law_pick") [varF 0, varF 3, opE gSub [opE gLen [varF 3], callF (J.fn "_law_of") [varF 0, lstF [cstF (.int 0), cstF (.int 0), cstF (.int 1), cstF (.int 2)]]]]))
 (seqF (appF 4 (opE gTuple [opE gSortX [iteF (opE (gEq true) [varF 6, lstF []]) (varF 6) (slF (varF 3) none (some (cstF (.int 1))))]]))
 (nxF))))
 (seqF (retF (tupF [varF 3, opE gTuple [varF 4]]))
 (nxF))))
def B__law_folk (J : Ix) : SS :=
 (seqF (setF 3 (lstF []))
 (seqF (forF (.nm 4) (rng1F (opE gAdd [cstF (.int 1), callF (J.fn "_law_take") [varF 0, varF 2]]))
 (seqF (appF 3 (opE gTuple [callF (J.fn "_law_pick") [varF 0, varF 1, opE gSub [opE gLen [varF 1], callF (J.fn "_law_of") [varF 0, lstF [cstF (.int 0), cstF (.int 0), cstF (.int 0), cstF (.int 1)]]]]]))
 (nxF)))
 (seqF (retF (opE gTuple [varF 3]))
 (nxF))))
def B__law_lots (J : Ix) : SS :=
 (seqF (setF 2 (lstF []))
 (seqF (forF (.nm 3) (itF (varF 1))
 (seqF (ifF (andF (opE (gEq true) [varF 2, lstF []]) (opE (gEq false) [callF (J.fn "_law_take") [varF 0, cstF (.int 3)], cstF (.int 0)]))
 (seqF (expF (stkE))
 (nxF))
 (seqF (appF 2 (lstF [varF 3]))
 (nxF)))
 (nxF)))
 (seqF (retF (opE gTuple [opE gSortX [lcF [4] (.nm 4) (itF (varF 2)) [] (opE gTuple [varF 4])]]))
 (nxF))))
def B__law_lot (J : Ix) : SS :=
 (seqF (retF (opE gIx [lcF [2] (.nm 2) (itF (varF 0)) [opE (gIn false) [varF 1, varF 2]] (varF 2), cstF (.int 0)]))
 (nxF))
def B__law_spot (J : Ix) : SS :=
 (seqF (retF (opE gMinX [lcF [2] (.nm 2) (rng1F (opE gLen [varF 0])) [opE (gIn false) [opE gIx [varF 0, varF 2], varF 1]] (varF 2)]))
 (nxF))
def B__law_counts (J : Ix) : SS :=
 (seqF (asgF (.nm 2) (slF (lcF [3] (.nm 3) (rng1F (opE gLen [opE gIx [varF 0, cstF (.int 1)]])) [opE (gIn false) [opE gIx [varF 1, cstF (.int 1)], opE gIx [opE gIx [varF 0, cstF (.int 1)], varF 3]]] (varF 3)) none (some (cstF (.int 1)))))
 (seqF (retF (andF (opE (gEq true) [varF 2, lstF []]) (opE (gEq true) [lcF [4] (.nm 4) (itF (slF (opE gIx [varF 0, cstF (.int 1)]) (some (opE gIx [varF 2, cstF (.int 0)])) none)) [opE (gIn false) [opE gIx [varF 1, cstF (.int 0)], varF 4]] (varF 4), lstF []])))
 (nxF)))
def B__law_lost (J : Ix) : SS :=
 (seqF (setF 4 (lstF []))
 (seqF (forF (.nm 5) (itF (varF 1))
 (seqF (forF (.nm 6) (rng1F (opE gLen [varF 2]))
 (seqF (ifF (andF (opE (gIn false) [opE gIx [varF 5, cstF (.int 0)], opE gIx [varF 2, varF 6]]) (andF (opE (gIn false) [opE gIx [varF 5, cstF (.int 1)], opE gIx [varF 2, varF 6]]) (callF (J.fn "_law_counts") [varF 0, varF 5])))
 (seqF (seqF (parF [7, 8] [callF (J.fn "_law_lot") [varF 3, opE gIx [varF 5, cstF (.int 0)]], callF (J.fn "_law_lot") [varF 3, opE gIx [varF 5, cstF (.int 1)]]]) (fzF [7, 8]))
 (seqF (ifF (andF (opE (gEq true) [varF 7, varF 8]) (opE gLt [callF (J.fn "_law_spot") [opE gIx [varF 2, varF 6], varF 8], callF (J.fn "_law_spot") [opE gIx [varF 2, varF 6], varF 7]]))
 (seqF (appF 4 (tupF [varF 5, varF 6]))
 (nxF))
 (nxF))
 (nxF)))
 (nxF))
 (nxF)))
 (nxF)))
 (seqF (retF (varF 4))
 (nxF))))
def B__law_asks (J : Ix) : SS :=
 (seqF (setF 4 (lstF []))
 (seqF (forF (.nm 5) (rng1F (opE gAdd [varF 2, callF (J.fn "_law_take") [varF 0, varF 3]]))
 (seqF (appF 4 (opE gTuple [callF (J.fn "_law_pick") [varF 0, varF 1, cstF (.int 2)]]))
 (nxF)))
 (seqF (retF (opE gTuple [opE gSS [varF 4]]))
 (nxF))))
def B_Joined_binding (J : Ix) : SS :=
 (seqF (seqF (parF [2, 3] [fldF (J.fd "own_readers") (fldF (J.fd "own_shape") (varF 0)), lstF []]) (fzF [2]))
 (seqF (forF (.nm 4) (itF (fldF (J.fd "own_needs") (fldF (J.fd "own_shape") (varF 0))))
 (seqF (ifF (andF (methF (J.mt "is_apart") (varF 0) [varF 4]) (andF (opE (gIn false) [opE gIx [varF 4, cstF (.int 0)], varF 1]) (opE (gIn false) [opE gIx [varF 4, cstF (.int 1)], varF 1])))
 (seqF (appF 3 (varF 4))
 (nxF))
 (nxF))
 (nxF)))
 (seqF (retF (lcF [4] (.nm 4) (itF (varF 3)) [opE gAny [lcF [5] (.nm 5) (itF (varF 2)) [] (andF (opE (gIn false) [opE gIx [varF 4, cstF (.int 0)], varF 5]) (opE (gIn false) [opE gIx [varF 4, cstF (.int 1)], varF 5]))]] (varF 4)))
 (nxF))))
def B_Joined_steps (J : Ix) : SS :=
 (seqF (asgF (.nm 2) (lcF [4] (.nm 4) (itF (fldF (J.fd "own_bundles") (varF 0))) [] (opE gTuple [lcF [3] (.nm 3) (itF (varF 4)) [opE (gIn false) [varF 3, varF 1]] (varF 3)])))
 (seqF (retF (opE gSortX [lcF [5] (.nm 5) (itF (varF 2)) [opE gGt [opE gLen [varF 5], cstF (.int 0)]] (varF 5)]))
 (nxF)))
def B_Joined_waits (J : Ix) : SS :=
 (seqF (asgF (.nm 4) (lc2F [5, 6] [6] (.nm 5) (itF (varF 2)) [opE (gEq true) [varF 5, varF 1]] (.nm 6) (itF (varF 5)) [] (varF 6)))
 (seqF (retF (lcF [7] (.nm 7) (itF (varF 3)) [andF (opE (gIn false) [opE gIx [varF 7, cstF (.int 0)], varF 1]) (opE (gIn false) [opE gIx [varF 7, cstF (.int 1)], varF 4])] (varF 7)))
 (nxF)))
def B_Joined_written_h4a15 (J : Ix) : SS :=
 (seqF (seqF (parF [2, 3, 4] [lstF [], methF (J.mt "steps") (varF 0) [varF 1], methF (J.mt "binding") (varF 0) [varF 1]]) (fzF [4]))
 (seqF (asgF (.nm 5) (lcF [6] (.nm 6) (itF (varF 3)) [opE (gEq false) [opE gLen [methF (J.mt "waits") (varF 0) [varF 6, varF 3, varF 4]], cstF (.int 0)]] (varF 6)))
 (seqF (whileF (opE gGt [opE gLen [varF 5], cstF (.int 0)])
 (seqF (appF 2 (opE gIx [varF 5, cstF (.int 0)]))
 (seqF (expF (stkE))
 (seqF (asgF (.nm 5) (lcF [6] (.nm 6) (itF (varF 3)) [opE (gEq false) [opE gLen [methF (J.mt "waits") (varF 0) [varF 6, varF 3, varF 4]], cstF (.int 0)]] (varF 6)))
 (nxF)))))
 (seqF (retF (tupF [opE gTuple [varF 2], varF 3]))
 (nxF)))))
def B_Joined_written_hd87d (J : Ix) : SS :=
 (seqF (seqF (parF [2, 3, 4] [lstF [], stkE, methF (J.mt "binding") (varF 0) [varF 1]]) (fzF [4]))
 (seqF (asgF (.nm 5) (lcF [6] (.nm 6) (itF (varF 3)) [opE (gEq false) [opE gLen [methF (J.mt "waits") (varF 0) [varF 6, varF 3, varF 4]], cstF (.int 0)]] (varF 6)))
 (seqF (whileF (opE gGt [opE gLen [varF 5], cstF (.int 0)])
 (seqF (appF 2 (opE gIx [varF 5, cstF (.int 0)]))
 (seqF (expF (stkE))
 (seqF (asgF (.nm 5) (lcF [6] (.nm 6) (itF (varF 3)) [opE (gEq false) [opE gLen [methF (J.mt "waits") (varF 0) [varF 6, varF 3, varF 4]], cstF (.int 0)]] (varF 6)))
 (nxF)))))
 (seqF (retF (tupF [opE gTuple [varF 2], varF 3]))
 (nxF)))))
def B_plan_for (J : Ix) : SS :=
 (seqF (asgF (.nm 4) (callF (J.fn "joined") [varF 0, varF 1, varF 2, varF 3]))
 (seqF (asgF (.nm 5) (lcF [6] (.nm 6) (itF (fldF (J.fd "own_updates") (fldF (J.fd "own_shape") (varF 4)))) [] (methF (J.mt "written") (varF 4) [varF 6])))
 (seqF (ifF (orF (opE gGt [opE gLen [methF (J.mt "helpless") (varF 4) []], cstF (.int 0)]) (opE gAny [lcF [7, 8] (.tp [.nm 7, .nm 8]) (itF (varF 5)) [] (opE gGt [opE gLen [varF 8], cstF (.int 0)])]))
 (seqF (retF (cstF .non))
 (nxF))
 (nxF))
 (seqF (retF (tupF [fldF (J.fd "own_files") (fldF (J.fd "own_shape") (varF 4)), opE gTuple [lcF [7, 8] (.tp [.nm 7, .nm 8]) (itF (varF 5)) [] (varF 7)]]))
 (nxF)))))
def B__law_rows_of (J : Ix) : SS :=
 (seqF (asgF (.nm 1) (lstF [tupF []]))
 (seqF (forF (.nm 2) (rng1F (opE gLen [varF 0]))
 (seqF (asgF (.nm 3) (lstF []))
 (seqF (forF (.nm 4) (itF (varF 1))
 (seqF (asgF (.nm 3) (opE gAdd [varF 3, lcF [5] (.nm 5) (itF (opE gSortX [varF 0])) [opE (gIn true) [varF 5, varF 4]] (opE gAdd [varF 4, tupF [varF 5]])]))
 (nxF)))
 (seqF (asgF (.nm 1) (opE gList [varF 3]))
 (nxF)))))
 (seqF (retF (varF 1))
 (nxF))))
def B__law_fitting (J : Ix) : SS :=
 (seqF (asgF (.nm 2) (lstF [tupF []]))
 (seqF (forF (.nm 3) (itF (opE gIx [varF 0, cstF (.int 1)]))
 (seqF (seqF (parF [4, 5] [lstF [], lstF []]) (fzF [5]))
 (seqF (forF (.nm 6) (itF (varF 1))
 (seqF (asgF (.nm 7) (opE gTuple [lcF [8] (.nm 8) (itF (varF 6)) [opE (gIn false) [varF 8, varF 3]] (varF 8)]))
 (seqF (ifF (opE (gEq true) [varF 7, tupF []])
 (seqF (appF 4 (varF 7))
 (nxF))
 (nxF))
 (nxF))))
 (seqF (forF (.nm 9) (itF (varF 2))
 (seqF (asgF (.nm 5) (opE gAdd [varF 5, lcF [7] (.nm 7) (itF (callF (J.fn "_law_rows_of") [varF 4])) [] (opE gAdd [varF 9, tupF [varF 7]])]))
 (nxF)))
 (seqF (asgF (.nm 2) (opE gList [varF 5]))
 (nxF))))))
 (seqF (retF (lcF [9] (.nm 9) (itF (varF 2)) [] (tupF [opE gIx [varF 0, cstF (.int 0)], varF 9])))
 (nxF))))
def B__law_wants (J : Ix) : SS :=
 (seqF (retF (opE gMaxX [opE gAdd [lstF [cstF (.int 0)], lcF [3] (.nm 3) (rng1F (varF 2)) [opE (gIn false) [varF 1, opE gIx [opE gIx [varF 0, cstF (.int 1)], varF 3]]] (opE gAdd [varF 3, cstF (.int 1)])]]))
 (nxF))
def B__law_harms (J : Ix) : SS :=
 (seqF (seqF (parF [5, 6] [callF (J.fn "_law_rows") [varF 4], lstF []]) (fzF [5]))
 (seqF (forF (.nm 7) (itF (varF 2))
 (seqF (ifF (opE (gIn true) [callF (J.fn "_law_lot") [varF 3, varF 7], varF 6])
 (seqF (appF 6 (callF (J.fn "_law_lot") [varF 3, varF 7]))
 (nxF))
 (nxF))
 (nxF)))
 (seqF (forF (.tp [.nm 8, .nm 9]) (itF (varF 1))
 (seqF (ifF (andF (opE (gIn false) [varF 8, varF 2]) (opE (gIn false) [varF 9, varF 2]))
 (seqF (seqF (parF [10, 11] [tixF (varF 6) (callF (J.fn "_law_lot") [varF 3, varF 8]), tixF (varF 6) (callF (J.fn "_law_lot") [varF 3, varF 9])]) (fzF [10, 11]))
 (seqF (forF (.nm 12) (rng1F (opE gLen [varF 5]))
 (seqF (forF (.nm 13) (rng2F (varF 12) (opE gLen [varF 5]))
 (seqF (asgF (.tp [.nm 14, .nm 15]) (iteF (opE gLe [varF 10, varF 11]) (tupF [varF 12, varF 13]) (tupF [varF 13, varF 12])))
 (seqF (ifF (orF (opE (gEq true) [varF 10, varF 11]) (opE (gEq false) [varF 12, varF 13]))
 (seqF (asgF (.nm 16) (opE gIx [opE gIx [varF 5, varF 14], tixF (opE gIx [varF 4, cstF (.int 0)]) (varF 8)]))
 (seqF (ifF (opE gLt [opE gIx [opE gIx [varF 5, varF 15], tixF (opE gIx [varF 4, cstF (.int 0)]) (varF 9)], callF (J.fn "_law_wants") [varF 0, varF 9, varF 16]])
 (seqF (retF (cstF (.bl true)))
 (nxF))
 (nxF))
 (nxF)))
 (nxF))
 (nxF))))
 (nxF)))
 (nxF)))
 (nxF))
 (nxF)))
 (seqF (retF (cstF (.bl false)))
 (nxF)))))
def B_Joined_round_of (J : Ix) : SS :=
 (seqF (seqF (parF [3, 4, 5, 6] [opE gIx [varF 1, cstF (.int 0)], lstF [], lstF [], methF (J.mt "binding") (varF 0) [varF 2]]) (fzF [3, 6]))
 (seqF (whileF (opE (gIn true) [varF 3, varF 5])
 (seqF (appF 5 (varF 3))
 (seqF (appF 4 (opE gIx [methF (J.mt "waits") (varF 0) [varF 3, varF 1, varF 6], cstF (.int 0)]))
 (seqF (asgF (.nm 3) (opE gIx [lcF [7] (.nm 7) (itF (varF 1)) [opE (gIn false) [opE gIx [opE gIx [varF 4, opE gNeg [cstF (.int 1)]], cstF (.int 1)], varF 7]] (varF 7), cstF (.int 0)]))
 (nxF)))))
 (seqF (retF (opE gTuple [opE gRevX [slF (varF 4) (some (tixF (varF 5) (varF 3))) none]]))
 (nxF))))
def B_ring (J : Ix) : SS :=
 (seqF (asgF (.nm 4) (callF (J.fn "joined") [varF 0, varF 1, varF 2, varF 3]))
 (seqF (forF (.tp [.nm 5, .nm 6]) (enumF 0 (fldF (J.fd "own_updates") (fldF (J.fd "own_shape") (varF 4))))
 (seqF (asgF (.nm 7) (opE gIx [methF (J.mt "written") (varF 4) [varF 6], cstF (.int 1)]))
 (seqF (ifF (opE gGt [opE gLen [varF 7], cstF (.int 0)])
 (seqF (retF (tupF [opE gAdd [varF 5, cstF (.int 1)], methF (J.mt "round_of") (varF 4) [varF 7, varF 6]]))
 (nxF))
 (nxF))
 (nxF))))
 (seqF (retF (cstF .non))
 (nxF))))
def B_is_ring (J : Ix) : SS :=
 (seqF (seqF (parF [5, 6] [callF (J.fn "joined") [varF 0, varF 1, varF 2, varF 3], callF (J.fn "ring") [varF 0, varF 1, varF 2, varF 3]]) (fzF [5, 6]))
 (seqF (ifF (orF (opE (gIsN false) [varF 6]) (orF (notF (callF (J.fn "is_tuple") [varF 4, cstF (.int 2)])) (orF (notF (callF (J.fn "is_number") [opE gIx [varF 4, cstF (.int 0)], cstF (.int 1)])) (opE (gEq true) [opE gIx [varF 4, cstF (.int 0)], opE gIx [varF 6, cstF (.int 0)]]))))
 (seqF (retF (cstF (.bl false)))
 (nxF))
 (nxF))
 (seqF (asgF (.nm 7) (opE gIx [varF 4, cstF (.int 1)]))
 (seqF (ifF (orF (notF (opE (gIsi ["tuple"]) [varF 7])) (opE (gEq false) [opE gLen [varF 7], cstF (.int 0)]))
 (seqF (retF (cstF (.bl false)))
 (nxF))
 (nxF))
 (seqF (asgF (.nm 8) (methF (J.mt "binding") (varF 5) [opE gIx [fldF (J.fd "own_updates") (fldF (J.fd "own_shape") (varF 5)), opE gSub [opE gIx [varF 6, cstF (.int 0)], cstF (.int 1)]]]))
 (seqF (ifF (notF (opE gAll [lcF [9] (.nm 9) (itF (varF 7)) [] (andF (callF (J.fn "is_tuple") [varF 9, cstF (.int 2)]) (opE (gIn false) [varF 9, varF 8]))]))
 (seqF (retF (cstF (.bl false)))
 (nxF))
 (nxF))
 (seqF (retF (opE gAll [lcF [9, 10] (.tp [.nm 9, .nm 10]) (zipF (varF 7) (tupS [(true, slF (varF 7) (some (cstF (.int 1))) none), (false, opE gIx [varF 7, cstF (.int 0)])])) [] (opE (gEq false) [methF (J.mt "bundle") (varF 5) [opE gIx [varF 9, cstF (.int 0)]], methF (J.mt "bundle") (varF 5) [opE gIx [varF 10, cstF (.int 1)]]])]))
 (nxF))))))))
def B__law_tight (J : Ix) : SS :=
 (seqF (asgF (.nm 4) (lstF []))
 (seqF (forF (.nm 5) (itF (varF 0))
 (seqF (asgF (.nm 6) (opE (gEq true) [callF (J.fn "_law_lot") [varF 2, opE gIx [varF 5, cstF (.int 0)]], callF (J.fn "_law_lot") [varF 2, opE gIx [varF 5, cstF (.int 1)]]]))
 (seqF (ifF (andF (varF 6) (andF (opE (gIn false) [opE gIx [varF 5, cstF (.int 0)], varF 3]) (opE (gIn false) [opE gIx [varF 5, cstF (.int 1)], varF 3])))
 (seqF (asgF (.nm 4) (opE gAdd [varF 4, opE gMul [lstF [varF 5], opE gInt [opE (gEq true) [lcF [7] (.nm 7) (itF (varF 1)) [andF (opE (gIn false) [opE gIx [varF 5, cstF (.int 0)], varF 7]) (opE (gIn false) [opE gIx [varF 5, cstF (.int 1)], varF 7])] (varF 7), lstF []]]]]))
 (nxF))
 (nxF))
 (nxF))))
 (seqF (retF (varF 4))
 (nxF))))
def B__law_goes (J : Ix) : SS :=
 (seqF (seqF (parF [4, 5] [callF (J.fn "_law_tight") [varF 0, varF 1, varF 2, varF 3], lcF [6] (.nm 6) (itF (varF 2)) [] (varF 6)]) (fzF [4, 5]))
 (seqF (forF (.nm 7) (rng1F (opE gLen [varF 2]))
 (seqF (asgF (.nm 8) (lcF [6] (.nm 6) (itF (varF 5)) [opE (gEq true) [lcF [9] (.nm 9) (itF (varF 4)) [andF (opE (gIn false) [opE gIx [varF 9, cstF (.int 0)], varF 6]) (opE (gIn false) [callF (J.fn "_law_lot") [varF 2, opE gIx [varF 9, cstF (.int 1)]], varF 5])] (varF 9), lstF []]] (varF 6)))
 (seqF (asgF (.nm 5) (opE gList [varF 8]))
 (nxF))))
 (seqF (retF (opE (gEq false) [varF 5, lstF []]))
 (nxF))))
def B_partings (J : Ix) : SS :=
 (seqF (asgF (.nm 1) (lstF [lstF []]))
 (seqF (forF (.nm 2) (itF (varF 0))
 (seqF (setF 3 (lstF []))
 (seqF (forF (.nm 4) (itF (varF 1))
 (seqF (appF 3 (lstS [(true, varF 4), (false, tupF [varF 2])]))
 (seqF (forF (.tp [.nm 5, .nm 6]) (enumF 0 (varF 4))
 (seqF (appF 3 (lstS [(true, slF (varF 4) none (some (varF 5))), (false, tupS [(true, varF 6), (false, varF 2)]), (true, slF (varF 4) (some (opE gAdd [varF 5, cstF (.int 1)])) none)]))
 (nxF)))
 (nxF))))
 (seqF (asgF (.nm 1) (varF 3))
 (nxF)))))
 (seqF (retF (lcF [4] (.nm 4) (itF (varF 1)) [] (opE gTuple [opE gSortX [varF 4]])))
 (nxF))))
def B_fewest_joins (J : Ix) : SS :=
 (seqF (asgF (.nm 3) (callF (J.fn "partings") [fldF (J.fd "own_files") (callF (J.fn "Shape") [varF 0, varF 1, varF 2])]))
 (seqF (asgF (.nm 4) (lcF [5] (.nm 5) (itF (varF 3)) [opE (gIsN true) [callF (J.fn "plan_for") [varF 0, varF 1, varF 2, varF 5]]] (varF 5)))
 (seqF (asgF (.nm 6) (opE gMaxX [lcF [5] (.nm 5) (itF (varF 4)) [] (opE gLen [varF 5])]))
 (seqF (retF (opE gMinX [lcF [5] (.nm 5) (itF (varF 4)) [opE (gEq false) [opE gLen [varF 5], varF 6]] (varF 5)]))
 (nxF)))))
def B__law_works (J : Ix) : SS :=
 (seqF (ifF (opE (gEq true) [callF (J.fn "_law_lost") [varF 0, varF 1, varF 2, varF 3], lstF []])
 (seqF (retF (cstF (.bl false)))
 (nxF))
 (nxF))
 (seqF (retF (opE (gEq false) [lcF [4] (.nm 4) (itF (opE gIx [varF 0, cstF (.int 1)])) [notF (callF (J.fn "_law_goes") [varF 1, varF 2, varF 3, varF 4])] (varF 4), lstF []]))
 (nxF)))
def B__law_partings (J : Ix) : SS :=
 (seqF (asgF (.nm 1) (lstF [lstF []]))
 (seqF (forF (.nm 2) (itF (varF 0))
 (seqF (setF 3 (lstF []))
 (seqF (forF (.nm 4) (itF (varF 1))
 (seqF (appF 3 (opE gAdd [varF 4, lstF [tupF [varF 2]]]))
 (seqF (forF (.nm 5) (rng1F (opE gLen [varF 4]))
 (seqF (appF 3 (opE gAdd [opE gAdd [slF (varF 4) none (some (varF 5)), lstF [opE gAdd [opE gIx [varF 4, varF 5], tupF [varF 2]]]], slF (varF 4) (some (opE gAdd [varF 5, cstF (.int 1)])) none]))
 (nxF)))
 (nxF))))
 (seqF (asgF (.nm 1) (opE gList [varF 3]))
 (nxF)))))
 (seqF (retF (lcF [4] (.nm 4) (itF (varF 1)) [] (opE gTuple [opE gSortX [varF 4]])))
 (nxF))))
def B_behind (J : Ix) : SS :=
 (seqF (seqF (parF [2, 3] [lstF [varF 1], cstF (.int 0)]) (fzF [3]))
 (seqF (whileF (opE gLt [varF 3, opE gLen [varF 2]])
 (seqF (asgF (.nm 3) (opE gLen [varF 2]))
 (seqF (extF 2 (opE gSortX [stkE]))
 (nxF))))
 (seqF (retF (varF 2))
 (nxF))))
def B_free_bundles (J : Ix) : SS :=
 (seqF (asgF (.nm 2) (callF (J.fn "Shape") [varF 0, varF 1, tupF []]))
 (seqF (stkF)
 (seqF (stkF)
 (seqF (retF (opE gTuple [opE gSortX [varF 5]]))
 (nxF)))))
def B_read_order (J : Ix) : SS :=
 (seqF (seqF (parF [2, 3] [callF (J.fn "Shape") [varF 0, varF 1, tupF []], lstF []]) (fzF [2]))
 (seqF (asgF (.nm 4) (callF (J.fn "Joined") [varF 2, callF (J.fn "free_bundles") [varF 0, varF 1]]))
 (seqF (setF 5 (opE gList [fldF (J.fd "own_files") (varF 2)]))
 (seqF (whileF (opE gGt [opE gLen [varF 5], cstF (.int 0)])
 (seqF (asgF (.nm 6) (lc2F [7, 8] [8] (.nm 7) (itF (fldF (J.fd "own_bundles") (varF 4))) [] (.nm 8) (itF (varF 7)) [opE gAny [lcF [2] (.nm 2) (itF (varF 7)) [] (opE (gIn false) [varF 2, varF 3])]] (varF 8)))
 (seqF (asgF (.nm 9) (lcF [10] (.nm 10) (itF (methF (J.mt "needs") (varF 2) [])) [andF (methF (J.mt "is_apart") (varF 4) [varF 10]) (opE (gIn true) [opE gIx [varF 10, cstF (.int 0)], varF 6])] (varF 10)))
 (seqF (asgF (.nm 11) (lcF [8] (.nm 8) (itF (varF 5)) [orF (opE (gIn false) [varF 8, varF 6]) (notF (opE gAny [lcF [10] (.nm 10) (itF (varF 9)) [] (opE (gIn false) [opE gIx [varF 10, cstF (.int 1)], methF (J.mt "bundle") (varF 4) [varF 8]])]))] (varF 8)))
 (seqF (appF 3 (opE gIx [varF 11, cstF (.int 0)]))
 (seqF (expF (stkE))
 (nxF)))))))
 (seqF (retF (opE gTuple [varF 3]))
 (nxF))))))
def B__law_all_needs (J : Ix) : SS :=
 (seqF (asgF (.nm 1) (lstF []))
 (seqF (forF (.nm 2) (itF (varF 0))
 (seqF (asgF (.nm 1) (opE gAdd [varF 1, lcF [3] (.nm 3) (itF (varF 0)) [opE (gEq true) [varF 2, varF 3]] (tupF [varF 2, varF 3])]))
 (nxF)))
 (seqF (retF (opE gTuple [varF 1]))
 (nxF))))
end Ev
set_option maxRecDepth 100000
namespace Ev
open PySem
@[simp] theorem x_varF (i : Nat) (C : Cl) (s : S) : varF i C s = match s.ρ[i]? with
    | some (some (.val d)) => .ok (.val d, s)
    | some (some (.own _)) => .ok (.ref i, s)
    | some (some (.odic _)) => .ok (.ref i, s)
    | _ => .stuck := rfl
@[simp] theorem x_cstF (d : D) (C : Cl) (s : S) : cstF d C s = .ok (.val d, s) := rfl
@[simp] theorem x_tupF (fs : List SE) (C : Cl) (s : S) : tupF fs C s = (frzs fs C s).bind fun (ds, s1) => if ds.length ≤ szL then .ok (.val (.tup (sHd ds) ds), s1) else .stuck := rfl
@[simp] theorem x_lstF (fs : List SE) (C : Cl) (s : S) : lstF fs C s = (frzs fs C s).bind fun (ds, s1) => if ds.length ≤ szL then .ok (.own ds, s1) else .stuck := rfl
@[simp] theorem x_andF (f : SE) (g : SE) (C : Cl) (s : S) : andF f g C s = (tst f C s).bind fun (b, s1) => if b then g C s1 else .ok (.val (.bl false), s1) := rfl
@[simp] theorem x_orF (f : SE) (g : SE) (C : Cl) (s : S) : orF f g C s = (tst f C s).bind fun (b, s1) => if b then .ok (.val (.bl true), s1) else g C s1 := rfl
@[simp] theorem x_notF (f : SE) (C : Cl) (s : S) : notF f C s = (tst f C s).bind fun (b, s1) => .ok (.val (.bl (!b)), s1) := rfl
@[simp] theorem x_iteF (c : SE) (f : SE) (g : SE) (C : Cl) (s : S) : iteF c f g C s = (tst c C s).bind fun (b, s1) => if b then f C s1 else g C s1 := rfl
@[simp] theorem x_callF (k : Nat) (fs : List SE) (C : Cl) (s : S) : callF k fs C s = (frzs fs C s).bind fun (ds, s1) => (C k ds s1.st).bind fun (m, st') => (rOf m).bind fun r => .ok (r, ⟨s1.ρ, st'⟩) := rfl
@[simp] theorem x_callK (k : Nat) (perm : List Nat) (fs : List SE) (C : Cl) (s : S) : callK k perm fs C s = (frzs fs C s).bind fun (ds, s1) => (C k (perm.filterMap (ds[·]?)) s1.st).bind fun (m, st') => (rOf m).bind fun r => .ok (r, ⟨s1.ρ, st'⟩) := rfl
@[simp] theorem x_itF (f : SE) (C : Cl) (s : S) : itF f C s = (f C s).bind fun (r, s1) => (frz r s1).bind fun (d, s2) => (itemsOf s2.st d).bind fun ds => .ok (ds, s2) := rfl
@[simp] theorem x_rng1F (f : SE) (C : Cl) (s : S) : rng1F f C s = (f C s).bind fun (r, s1) => (int1 r).bind fun j =>
    if okR j = true then .ok (rngL 0 j.toNat 1, s1) else .stuck := rfl
@[simp] theorem x_rng2F (f : SE) (g : SE) (C : Cl) (s : S) : rng2F f g C s = (f C s).bind fun (r, s1) => (int1 r).bind fun i => (g C s1).bind fun (r2, s2) => (int1 r2).bind fun j =>
    if okR i = true ∧ okR j = true then .ok (rngL i (j - i).toNat 1, s2) else .stuck := rfl
@[simp] theorem x_enumF (k : Int) (f : SE) (C : Cl) (s : S) : enumF k f C s = (itF f C s).bind fun (ds, s1) => .ok (enumL k ds, s1) := rfl
@[simp] theorem x_zipF (f : SE) (g : SE) (C : Cl) (s : S) : zipF f g C s = (frzs [f, g] C s).bind fun (ds, s1) => match ds with
    | [.lst as, .lst bs] => .ok (zipL as bs, s1)
    | [.tup _ as, .tup _ bs] => .ok (zipL as bs, s1)
    | _ => .stuck
   := rfl
theorem x_lcF (vs : List Nat) (tg : Tg) (it : SI) (ifs : List SE) (el : SE) (C : Cl) (s : S) : lcF vs tg it ifs el C s = (it C s).bind fun (ds, s1) => if vs.all (fun v => isVal (s1.ρ[v]?.getD none)) then
      (lcGo (lcTurn tg ifs el vs C) ds [] ⟨wipeR s1.ρ vs, s1.st⟩).bind fun (out, s2) => .ok (.own out, ⟨backR s1.ρ s2.ρ vs, s2.st⟩)
    else .stuck := rfl
theorem x_lc2F (vs : List Nat) (vs1 : List Nat) (tg0 : Tg) (it0 : SI) (ifs0 : List SE) (tg : Tg) (it : SI) (ifs : List SE) (el : SE) (C : Cl) (s : S) : lc2F vs vs1 tg0 it0 ifs0 tg it ifs el C s = (it0 C s).bind fun (ds, s1) => if vs.all (fun v => isVal (s1.ρ[v]?.getD none)) then
      (lc2Go tg0 ifs0 (lc2In tg it ifs el vs1 C) vs C ds [] ⟨wipeR s1.ρ vs, s1.st⟩).bind fun (out, s2) => .ok (.own out, ⟨backR s1.ρ s2.ρ vs, s2.st⟩)
    else .stuck
   := rfl
@[simp] theorem x_nxF  (C : Cl) (s : S) : nxF C s = .ok (.nx, s) := rfl
@[simp] theorem x_seqF (f : SS) (g : SS) (C : Cl) (s : S) : seqF f g C s = (f C s).bind fun (o, s1) => match o with
    | .nx => g C s1
    | o => .ok (o, s1) := rfl
@[simp] theorem x_stkF  (C : Cl) (s : S) : stkF C s = .stuck := rfl
@[simp] theorem x_setF (i : Nat) (f : SE) (C : Cl) (s : S) : setF i f C s = (f C s).bind fun (r, s1) => (mOf r s1).bind fun (m, s2) => (sto i m s2.ρ).bind fun ρ => .ok (.nx, ⟨ρ, s2.st⟩) := rfl
@[simp] theorem x_asgF (tg : Tg) (f : SE) (C : Cl) (s : S) : asgF tg f C s = (f C s).bind fun (r, s1) => (frz r s1).bind fun (d, s2) => (bindT tg d s2.ρ).bind fun ρ => .ok (.nx, ⟨ρ, s2.st⟩) := rfl
@[simp] theorem x_parF (is : List Nat) (fs : List SE) (C : Cl) (s : S) : parF is fs C s = (mOfs fs C s).bind fun (ms, s1) => (stos is ms s1.ρ).bind fun ρ => .ok (.nx, ⟨ρ, s1.st⟩) := rfl
@[simp] theorem x_expF (f : SE) (C : Cl) (s : S) : expF f C s = (f C s).bind fun (_, s1) => .ok (.nx, s1) := rfl
@[simp] theorem x_retF (f : SE) (C : Cl) (s : S) : retF f C s = (f C s).bind fun (r, s1) => match r with
    | .val d => .ok (.ret (.val d), s1.wipe)
    | .own ds => .ok (.ret (.own ds), s1.wipe)
    | .odic kvs => .ok (.ret (.odic kvs), s1.wipe)
    | .ref i => match s1.ρ[i]? with
      | some (some (.own ds)) => .ok (.ret (.own ds), s1.wipe)
      | some (some (.odic kvs)) => .ok (.ret (.odic kvs), s1.wipe)
      | _ => .stuck := rfl
@[simp] theorem x_ifF (c : SE) (t : SS) (e : SS) (C : Cl) (s : S) : ifF c t e C s = (tst c C s).bind fun (b, s1) => if b then t C s1 else e C s1 := rfl
@[simp] theorem x_appF (i : Nat) (f : SE) (C : Cl) (s : S) : appF i f C s = if ownAt s.ρ i = true then (f C s).bind fun (r, s1) => (frz r s1).bind fun (d, s2) => match s2.ρ[i]? with
    | some (some (.own ds)) => if ds.length < szL then .ok (.nx, ⟨s2.ρ.set i (some (.own (ds ++ [d]))), s2.st⟩) else .stuck
    | _ => .stuck
    else .stuck := rfl
@[simp] theorem x_forF (tg : Tg) (it : SI) (body : SS) (C : Cl) (s : S) : forF tg it body C s = (it C s).bind fun (ds, s1) => forGo tg body C s1.ρ ds s1 := rfl
@[simp] theorem x_whileF (c : SE) (body : SS) (C : Cl) (s : S) : whileF c body C s = whileGo c body C s.ρ 1000 s := rfl
@[simp] theorem x_fzF (is : List Nat) (C : Cl) (s : S) : fzF is C s = .ok (.nx, ⟨fzGo is s.ρ, s.st⟩) := rfl
@[simp] theorem x_slF (f : SE) (lo : Option SE) (hi : Option SE) (C : Cl) (s : S) : slF f lo hi C s = (f C s).bind fun (r, s1) => (part1 lo C s1).bind fun (l, s2) => (part1 hi C s2).bind fun (u, s3) => (pk s3.ρ (opd r)).bind fun d => (slD d l u).bind fun r => .ok (r, s3) := rfl
@[simp] theorem x_popF (i : Nat) (f : SE) (C : Cl) (s : S) : popF i f C s = if ownAt s.ρ i = true then (f C s).bind fun (r, s1) => (int1 r).bind fun k => match s1.ρ[i]? with
    | some (some (.own ds)) => if okP k = true then (optR (ixN ds.length k)).bind fun j => (optR ds[j]?).bind fun d => .ok (.val d, ⟨s1.ρ.set i (some (.own (ds.eraseIdx j))), s1.st⟩) else .stuck
    | _ => .stuck
    else .stuck := rfl
@[simp] theorem x_extF (i : Nat) (f : SE) (C : Cl) (s : S) : extF i f C s = if ownAt s.ρ i = true then (f C s).bind fun (r, s1) => (frz r s1).bind fun (d, s2) => match d with
    | .lst zs => match s2.ρ[i]? with
      | some (some (.own ds)) => if ds.length + zs.length ≤ szL then .ok (.nx, ⟨s2.ρ.set i (some (.own (ds ++ zs))), s2.st⟩) else .stuck
      | _ => .stuck
    | _ => .stuck
    else .stuck := rfl
@[simp] theorem x_setIxF (i : Nat) (f : SE) (v : SE) (C : Cl) (s : S) : setIxF i f v C s = (v C s).bind fun (r, s1) => (frz r s1).bind fun (d, s2) => if defAt s2.ρ i = true then (f C s2).bind fun (q, s3) => (int1 q).bind fun k => match s3.ρ[i]? with
    | some (some (.own ds)) => (optR (ixN ds.length k)).bind fun j => .ok (.nx, ⟨s3.ρ.set i (some (.own (ds.set j d))), s3.st⟩)
    | some (some (.val (.cell n))) => (optR s3.st[n]?).bind fun ds => (optR (ixN ds.length k)).bind fun j => .ok (.nx, ⟨s3.ρ, s3.st.set n (ds.set j d)⟩)
    | _ => .stuck
    else .stuck := rfl
@[simp] theorem x_augF (i : Nat) (f : SE) (C : Cl) (s : S) : augF i f C s = if defAt s.ρ i = true then (f C s).bind fun (r, s1) => (int1 r).bind fun k => match s1.ρ[i]? with
    | some (some (.val (.int j))) => .ok (.nx, ⟨s1.ρ.set i (some (.val (.int (j + k)))), s1.st⟩)
    | _ => .stuck
    else .stuck := rfl
@[simp] theorem x_cellF (f : SE) (C : Cl) (s : S) : cellF f C s = (f C s).bind fun (r, s1) => match r with
    | .own ds => .ok (.val (.cell s1.st.length), ⟨s1.ρ, s1.st ++ [ds]⟩)
    | _ => .stuck := rfl
@[simp] theorem x_opOr (f : SE) (g : SE) (C : Cl) (s : S) : opOr f g C s = (f C s).bind fun (r, s1) => (pk s1.ρ (opd r)).bind fun d => match d with
    | .lst ds => if ds.isEmpty then g C s1 else .ok (r, s1)
    | _ => .stuck := rfl
@[simp] theorem x_sfF (cc : Nat) (n : Nat) (j : Nat) (C : Cl) (s : S) : sfF cc n j C s = if slfAt s.ρ cc = true then varF (n + j) C s else .stuck := rfl
@[simp] theorem x_sfSet (cc : Nat) (n : Nat) (j : Nat) (f : SE) (C : Cl) (s : S) : sfSet cc n j f C s = (f C s).bind fun (r, s1) => (mOf r s1).bind fun (m, s2) => if slfAt s2.ρ cc = true then (sto (n + j) m s2.ρ).bind fun ρ => .ok (.nx, ⟨ρ, s2.st⟩) else .stuck := rfl
@[simp] theorem x_sfApp (cc : Nat) (n : Nat) (j : Nat) (f : SE) (C : Cl) (s : S) : sfApp cc n j f C s = if slfAt s.ρ cc = true then appF (n + j) f C s else .stuck := rfl
@[simp] theorem x_lr1F (f : SE) (C : Cl) (s : S) : lr1F f C s = (f C s).bind fun (r, s1) => (int1 r).bind fun j => if rgOk 0 j = true then .ok (.own (rngL 0 (j - 0).toNat 1), s1) else .stuck := rfl
@[simp] theorem x_lr2F (f : SE) (k : SE) (C : Cl) (s : S) : lr2F f k C s = (f C s).bind fun (r, s1) => (int1 r).bind fun i => (k C s1).bind fun (q, s2) => (int1 q).bind fun j => if rgOk i j = true then .ok (.own (rngL i (j - i).toNat 1), s2) else .stuck := rfl
@[simp] theorem x_tixF (f : SE) (k : SE) (C : Cl) (s : S) : tixF f k C s = (f C s).bind fun (r, s1) => match r with
    | .val (.tup true xs) => (k C s1).bind fun (q, s2) => match q with
      | .val (.str z) => (optR (xs.mapM Ev.s1)).bind fun zs => (optR (zs.findIdx? (· == z))).bind fun j => .ok (.val (.int (j : Nat)), s2)
      | _ => .stuck
    | _ => .stuck := rfl
@[simp] theorem x_retN  (C : Cl) (s : S) : retN C s = .ok (.ret (.val .non), s) := rfl
@[simp] theorem x_brkF  (C : Cl) (s : S) : brkF C s = .ok (.bk, s) := rfl
@[simp] theorem x_cntF  (C : Cl) (s : S) : cntF C s = .ok (.ct, s) := rfl
@[simp] theorem x_stkE  (C : Cl) (s : S) : stkE C s = .stuck := rfl
@[simp] theorem x_lixF (f : SE) (k : SE) (C : Cl) (s : S) : lixF f k C s = (f C s).bind fun (r, s1) => (frz r s1).bind fun (d, s2) => match d with
    | .lst xs => (k C s2).bind fun (q, s3) => match q with
      | .val (.str z) => (optR (xs.mapM Ev.s1)).bind fun zs => (optR (zs.findIdx? (· == z))).bind fun j => .ok (.val (.int (j : Nat)), s3)
      | _ => .stuck
    | _ => .stuck := rfl
@[simp] theorem x_rng3F (f : SE) (g : SE) (h : SE) (C : Cl) (s : S) : rng3F f g h C s = (f C s).bind fun (r, s1) => (int1 r).bind fun i => (g C s1).bind fun (r2, s2) => (int1 r2).bind fun j => (h C s2).bind fun (r3, s3) => (int1 r3).bind fun k =>
    if rcOk i j k = true then .ok (rngL i (rcN i j k) k, s3) else .stuck := rfl
@[simp] theorem x_opE (g : List (List D) → List D → Res R) (fs : List SE) (C : Cl) (s : S) : opE g fs C s = (ops fs C s).bind fun (os, s1) => (pks s1.ρ os).bind fun ds => (g s1.st ds).bind fun r => .ok (r, s1) := rfl
@[simp] theorem x_methF (ms : List (Nat × Nat)) (o : SE) (fs : List SE) (C : Cl) (s : S) : methF ms o fs C s = (o C s).bind fun (r, s1) => (insOf r).bind fun (c, ds) => (frzs fs C s1).bind fun (as, s2) => (optR (ms.lookup c)).bind fun k =>
    (C k (.ins c ds :: as) s2.st).bind fun (m, st') => (rOf m).bind fun r => .ok (r, ⟨s2.ρ, st'⟩) := rfl
@[simp] theorem x_fldF (cs : List (Nat × Nat)) (o : SE) (C : Cl) (s : S) : fldF cs o C s = (o C s).bind fun (r, s1) => (insOf r).bind fun (c, ds) => (optR (cs.lookup c)).bind fun j => (optR ds[j]?).bind fun d => .ok (.val d, s1) := rfl
@[simp] theorem x_chF (f f' : List (List D) → List D → Res R) (a b k : SE) (C : Cl) (s : S) : chF f f' a b k C s = (ops [a, b] C s).bind fun (os, s1) => (pks s1.ρ os).bind fun ds => (f s1.st ds).bind fun r => (bool1 r).bind fun t =>
  if t then (match os with
    | [_, ob] => (k C s1).bind fun (r2, s2) => (pks s2.ρ [ob, opd r2]).bind fun ds2 => (f' s2.st ds2).bind fun r => .ok (r, s2)
    | _ => .stuck) else .ok (.val (.bl false), s1) := rfl
@[simp] theorem x_runF (n : Nat) (body : SS) (C : Cl) (ds : List D) (st : List (List D)) : runF n body C ds st =
  (body C ⟨ds.map (fun d => some (.val d)) ++ List.replicate (n - ds.length) none, st⟩).bind fun (o, s) => match o with
    | .nx => .ok (.val .non, s.st)
    | .ret m => .ok (m, s.st)
    | _ => .stuck := rfl
end Ev
set_option Elab.async false
set_option maxRecDepth 100000
set_option maxHeartbeats 1000000
namespace Ev
open PySem
theorem Res.eq_sat {α : Type} {x : Res α} {a : α} : x = .ok a ↔ x.Sat fun p => p = a := by
  cases x with
  | ok b => exact ⟨fun h => by cases h; rfl, fun h => by rw [show b = a from h]⟩
  | exc _ _ _ => exact ⟨fun h => (by cases h), fun h => h.elim⟩
  | stuck => exact ⟨fun h => (by cases h), fun h => h.elim⟩
section
variable {C : Cl} {s : S} {ρ : List (Option M)} {st : List (List D)}
@[simp] theorem q_ops0 : ops [] C s = .ok ([], s) := rfl
@[simp] theorem q_ops {f : SE} {fs : List SE} : ops (f :: fs) C s = (f C s).bind fun (r, s1) => (ops fs C s1).bind fun (os, s2) => .ok (opd r :: os, s2) := rfl
@[simp] theorem q_pks0 : pks ρ [] = .ok [] := rfl
@[simp] theorem q_pks {o : Op} {os : List Op} : pks ρ (o :: os) = (pk ρ o).bind fun d => (pks ρ os).bind fun ds => .ok (d :: ds) := rfl
@[simp] theorem q_pk1 {d : D} : pk ρ (.val d) = .ok d := rfl
@[simp] theorem q_pk2 {i : Nat} : pk ρ (.ref i) = match ρ[i]? with
    | some (some (.own ds)) => .ok (.lst ds)
    | some (some (.odic kvs)) => .ok (.dic kvs)
    | some (some (.val d)) => .ok d
    | _ => .stuck := rfl
@[simp] theorem q_opd1 {d : D} : opd (.val d) = .val d := rfl
@[simp] theorem q_opd2 {d : List D} : opd (.own d) = .val (.lst d) := rfl
@[simp] theorem q_opd3 {i : Nat} : opd (.ref i) = .ref i := rfl
@[simp] theorem q_frz1 {d : D} : frz (.val d) s = .ok (d, s) := rfl
@[simp] theorem q_frz2 {d : List D} : frz (.own d) s = .ok (.lst d, s) := rfl
@[simp] theorem q_frz3 {i : Nat} : frz (.ref i) s = match s.ρ[i]? with
    | some (some (.own ds)) => .ok (.lst ds, ⟨s.ρ.set i (some (.val (.lst ds))), s.st⟩)
    | some (some (.odic kvs)) => .ok (.dic kvs, ⟨s.ρ.set i (some (.val (.dic kvs))), s.st⟩)
    | some (some (.val d)) => .ok (d, s)
    | _ => .stuck := rfl
@[simp] theorem q_frzs0 : frzs [] C s = .ok ([], s) := rfl
@[simp] theorem q_frzs {f : SE} {fs : List SE} : frzs (f :: fs) C s = (f C s).bind fun (r, s1) => (frz r s1).bind fun (d, s2) => (frzs fs C s2).bind fun (ds, s3) => .ok (d :: ds, s3) := rfl
@[simp] theorem q_mOfs0 : mOfs [] C s = .ok ([], s) := rfl
@[simp] theorem q_mOfs {f : SE} {fs : List SE} : mOfs (f :: fs) C s = (f C s).bind fun (r, s1) => (mOf r s1).bind fun (m, s2) => (mOfs fs C s2).bind fun (ms, s3) => .ok (m :: ms, s3) := rfl
@[simp] theorem q_mOf1 {d : D} : mOf (.val d) s = .ok (.val d, s) := rfl
@[simp] theorem q_mOf2 {d : List D} : mOf (.own d) s = .ok (.own d, s) := rfl
@[simp] theorem q_mOf3 {i : Nat} : mOf (.ref i) s = match s.ρ[i]? with
    | some (some (.own ds)) => .ok (.val (.lst ds), ⟨s.ρ.set i (some (.val (.lst ds))), s.st⟩)
    | some (some (.odic kvs)) => .ok (.val (.dic kvs), ⟨s.ρ.set i (some (.val (.dic kvs))), s.st⟩)
    | some (some (.val d)) => .ok (.val d, s)
    | _ => .stuck := rfl
@[simp] theorem q_stos0 : stos [] [] ρ = .ok ρ := rfl
@[simp] theorem q_stos {i : Nat} {is : List Nat} {m : M} {ms : List M} : stos (i :: is) (m :: ms) ρ = (sto i m ρ).bind fun ρ1 => stos is ms ρ1 := rfl
@[simp] theorem q_sto {i : Nat} {m : M} : sto i m ρ = if i < ρ.length then .ok (ρ.set i (some m)) else .stuck := rfl
@[simp] theorem q_tst {f : SE} : tst f C s = (f C s).bind fun (r, s1) => (bool1 r).bind fun b => .ok (b, s1) := rfl
@[simp] theorem q_bool1 {b : Bool} : bool1 (.val (.bl b)) = .ok b := rfl
@[simp] theorem q_rOf1 {d : D} : rOf (.val d) = .ok (.val d) := rfl
@[simp] theorem q_rOf2 {d : List D} : rOf (.own d) = .ok (.own d) := rfl
@[simp] theorem q_items1 {ds : List D} : itemsOf st (.lst ds) = .ok ds := rfl
@[simp] theorem q_items2 {k : Bool} {ds : List D} : itemsOf st (.tup k ds) = .ok ds := rfl
@[simp] theorem q_part0 : part1 none C s = .ok (none, s) := rfl
@[simp] theorem q_part1 {f : SE} : part1 (some f) C s = (f C s).bind fun (r, s1) => (int1 r).bind fun i => .ok (some i, s1) := rfl
@[simp] theorem q_int1 {i : Int} : int1 (.val (.int i)) = .ok i := rfl
@[simp] theorem q_insOf {c : Nat} {ds : List D} : insOf (.val (.ins c ds)) = .ok (c, ds) := rfl
@[simp] theorem q_optR1 {α : Type} {a : α} : optR (some a) = .ok a := rfl
@[simp] theorem q_optR0 {α : Type} : optR (none : Option α) = .stuck := rfl
@[simp] theorem q_bind1 {i : Nat} {d : D} : bindT (.nm i) d ρ = sto i (.val d) ρ := rfl
@[simp] theorem q_bind2 {ts : List Tg} {k : Bool} {ds : List D} : bindT (.tp ts) (.tup k ds) ρ = bindTs ts ds ρ := rfl
@[simp] theorem q_binds0 : bindTs [] [] ρ = .ok ρ := rfl
@[simp] theorem q_binds {t : Tg} {ts : List Tg} {d : D} {ds : List D} : bindTs (t :: ts) (d :: ds) ρ = (bindT t d ρ).bind fun ρ1 => bindTs ts ds ρ1 := rfl
@[simp] theorem q_ownAt {i : Nat} : ownAt ρ i = match ρ[i]? with
    | some (some (.own _)) => true
    | _ => false := rfl
@[simp] theorem q_defAt {i : Nat} : defAt ρ i = match ρ[i]? with
    | some (some _) => true
    | _ => false := rfl
@[simp] theorem q_keep0 : keepR [] ρ = ρ := by unfold keepR; rfl
@[simp] theorem q_keep1 {a : List (Option M)} {x : Option M} : keepR (none :: a) (x :: ρ) = none :: keepR a ρ := rfl
@[simp] theorem q_keep2 {a : List (Option M)} {m : M} {x : Option M} : keepR (some m :: a) (x :: ρ) = x :: keepR a ρ := rfl
@[simp] theorem q_wipe : S.wipe ⟨ρ, st⟩ = ⟨ρ.map fun _ => none, st⟩ := rfl
@[simp] theorem q_wipe0 : wipeR ρ [] = ρ := rfl
@[simp] theorem q_wipe1 {v : Nat} {vs : List Nat} : wipeR ρ (v :: vs) = (wipeR ρ vs).set v none := rfl
@[simp] theorem q_fz0 : fzGo [] ρ = ρ := rfl
@[simp] theorem q_fz1 {i : Nat} {is : List Nat} : fzGo (i :: is) ρ = fzGo is (match ρ[i]? with
    | some (some (.own ds)) => ρ.set i (some (.val (.lst ds)))
    | some (some (.odic kvs)) => ρ.set i (some (.val (.dic kvs)))
    | _ => ρ) := rfl
@[simp] theorem q_slf {c cc : Nat} : slfAt (some (.slf c) :: ρ) cc = (c == cc) := rfl
@[simp] theorem q_fl0 : fldsR [] = .ok [] := rfl
@[simp] theorem q_fl1 {d : D} : fldsR (some (.val d) :: ρ) = (fldsR ρ).bind fun ds => .ok (d :: ds) := rfl
@[simp] theorem q_fl2 {ds : List D} : fldsR (some (.own ds) :: ρ) = (fldsR ρ).bind fun es => .ok (.lst ds :: es) := rfl
@[simp] theorem q_ifs0 : ifsF [] C s = .ok (true, s) := rfl
@[simp] theorem q_ifs {c : SE} {cs : List SE} : ifsF (c :: cs) C s = (tst c C s).bind fun (b, s1) => if b then ifsF cs C s1 else .ok (false, s1) := rfl
variable {i j : Int} {a b : Str} {xs ys : List D} {k l : Bool} {d : D}
@[simp] theorem g_add1 : gAdd st [.int i, .int j] = .ok (.val (.int (i + j))) := rfl
@[simp] theorem g_add2 : gAdd st [.str a, .str b] = if a.length + b.length ≤ szL then .ok (.val (.str (a ++ b))) else .stuck := rfl
@[simp] theorem g_add3 : gAdd st [.lst xs, .lst ys] = if xs.length + ys.length ≤ szL then .ok (.own (xs ++ ys)) else .stuck := rfl
@[simp] theorem g_add4 : gAdd st [.tup k xs, .tup l ys] = if xs.length + ys.length ≤ szL then .ok (.val (.tup ((k || !sHd xs) && (l || !sHd ys) && sHd (xs ++ ys)) (xs ++ ys))) else .stuck := rfl
@[simp] theorem g_sub : gSub st [.int i, .int j] = .ok (.val (.int (i - j))) := rfl
theorem g_mul1 : gMul st [.int i, .int j] = if okM i = true ∨ okM j = true then .ok (.val (.int (i * j))) else .stuck := rfl
theorem g_mul1a (h : -1000000000 ≤ i) (h2 : i ≤ 1000000000) : gMul st [.int i, .int j] = .ok (.val (.int (i * j))) := by
  rw [g_mul1, if_pos (.inl (okM_iff.mpr ⟨by omega, by omega⟩))]
theorem g_mul1b (h : -1000000000 ≤ j) (h2 : j ≤ 1000000000) : gMul st [.int i, .int j] = .ok (.val (.int (i * j))) := by
  rw [g_mul1, if_pos (.inr (okM_iff.mpr ⟨by omega, by omega⟩))]
@[simp] theorem g_neg : gNeg st [.int i] = .ok (.val (.int (-i))) := rfl
@[simp] theorem g_lt1 : gLt st [.int i, .int j] = .ok (.val (.bl (decide (i < j)))) := rfl
@[simp] theorem g_le1 : gLe st [.int i, .int j] = .ok (.val (.bl (decide (i ≤ j)))) := rfl
@[simp] theorem g_gt1 : gGt st [.int i, .int j] = .ok (.val (.bl (decide (j < i)))) := rfl
@[simp] theorem g_ge1 : gGe st [.int i, .int j] = .ok (.val (.bl (decide (j ≤ i)))) := rfl
theorem g_div (h : 0 < j) (h2 : j < 1073741824) : gDiv st [.int i, .int j] = .ok (.val (.int (i / j))) := by
  simp only [gDiv, vI]
  rw [if_pos ⟨h, h2⟩]
theorem g_mod (h : 0 < j) : gMod st [.int i, .int j] = .ok (.val (.int (i % j))) := by
  simp only [gMod, vI]
  rw [if_pos h]
@[simp] theorem g_isn0 {n : Bool} : gIsN n st [.non] = .ok (.val (.bl (!n))) := rfl
@[simp] theorem g_isn1 {n c : Bool} : gIsN n st [.bl c] = .ok (.val (.bl n)) := rfl
@[simp] theorem g_isn2 {n : Bool} : gIsN n st [.int i] = .ok (.val (.bl n)) := rfl
@[simp] theorem g_isn3 {n : Bool} : gIsN n st [.str a] = .ok (.val (.bl n)) := rfl
@[simp] theorem g_isn4 {n : Bool} : gIsN n st [.tup k xs] = .ok (.val (.bl n)) := rfl
@[simp] theorem g_isn5 {n : Bool} : gIsN n st [.lst xs] = .ok (.val (.bl n)) := rfl
@[simp] theorem g_ix1 : gIx st [.lst xs, .int i] = (optR (atI xs i)).bind fun d => .ok (.val d) := rfl
@[simp] theorem g_ix2 : gIx st [.tup k xs, .int i] = (optR (atI xs i)).bind fun d => .ok (.val d) := rfl
@[simp] theorem g_ix3 {n : Nat} : gIx st [.cell n, .int i] = (optR st[n]?).bind fun xs => (optR (atI xs i)).bind fun d => .ok (.val d) := rfl
@[simp] theorem g_rev : gRev st [.lst xs] = .ok (.own xs.reverse) := rfl
@[simp] theorem g_len1 : gLen st [.lst xs] = .ok (.val (.int xs.length)) := rfl
@[simp] theorem g_len2 : gLen st [.tup k xs] = .ok (.val (.int xs.length)) := rfl
@[simp] theorem g_abs : gAbs st [.int i] = .ok (.val (.int (if i < 0 then -i else i))) := rfl
@[simp] theorem g_int1 : gInt st [.int i] = .ok (.val (.int i)) := rfl
@[simp] theorem g_int2 {c : Bool} : gInt st [.bl c] = .ok (.val (.int (if c then 1 else 0))) := rfl
@[simp] theorem g_min : gMin2 st [.int i, .int j] = .ok (.val (.int (if j < i then j else i))) := rfl
@[simp] theorem g_max : gMax2 st [.int i, .int j] = .ok (.val (.int (if j > i then j else i))) := rfl
@[simp] theorem g_list1 : gList st [.lst xs] = .ok (.own xs) := rfl
@[simp] theorem g_list2 : gList st [.tup k xs] = .ok (.own xs) := rfl
@[simp] theorem g_tup1 : gTuple st [.lst xs] = .ok (.val (.tup (sHd xs) xs)) := rfl
@[simp] theorem g_tup2 : gTuple st [.tup k xs] = .ok (.val (.tup k xs)) := rfl
@[simp] theorem sl_lst {lo hi : Option Int} : slD (.lst xs) lo hi = .ok (.own (cutD xs lo hi)) := rfl
@[simp] theorem sl_tup {lo hi : Option Int} : slD (.tup k xs) lo hi = .ok (.val (.tup ((k || !sHd xs) && sHd (cutD xs lo hi)) (cutD xs lo hi))) := rfl
@[simp] theorem sl_scr {is : List Int} {lo hi : Option Int} : slD (.scr is) lo hi = .ok (.own (cutD (is.map .int) lo hi)) := rfl
theorem mapM_bl : ∀ bs : List Bool, (bs.map D.bl).mapM bl1 = some bs
  | [] => rfl
  | x :: fs => by rw [List.map_cons, List.mapM_cons, mapM_bl fs]; rfl
theorem mapM_i1 : ∀ bs : List Int, (bs.map D.int).mapM i1 = some bs
  | [] => rfl
  | x :: fs => by rw [List.map_cons, List.mapM_cons, mapM_i1 fs]; rfl
theorem mapM_s1 : ∀ bs : List Str, (bs.map D.str).mapM s1 = some bs
  | [] => rfl
  | x :: fs => by rw [List.map_cons, List.mapM_cons, mapM_s1 fs]; rfl
@[simp] theorem g_all {bs : List Bool} : gAll st [.lst (bs.map .bl)] = .ok (.val (.bl (bs.all id))) := by
  simp only [gAll, mapM_bl]; rfl
@[simp] theorem g_any {bs : List Bool} : gAny st [.lst (bs.map .bl)] = .ok (.val (.bl (bs.any id))) := by
  simp only [gAny, mapM_bl]; rfl
@[simp] theorem g_sum {is : List Int} : gSum st [.lst (is.map .int)] = .ok (.val (.int is.sum)) := by
  simp only [gSum, mapM_i1]; rfl
theorem g_sorted {ss : List Str} (h : ss.length < 64) : gSorted st [.lst (ss.map .str)] = .ok (.own ((sortS ss).map .str)) := by
  simp only [gSorted, mapM_s1]
  rw [if_pos h]
theorem okR_of {j : Int} (h : -1000000000 ≤ j) (k : j ≤ 1000000000) : okR j = true := okR_iff.mpr ⟨by omega, by omega⟩
theorem rgOk_of {i j : Int} (h : -8000000 ≤ i) (h2 : i ≤ 8000000) (h3 : -8000000 ≤ j) (h4 : j ≤ 8000000) : rgOk i j = true := by
  unfold rgOk
  rw [okR_of (by omega) (by omega), okR_of (by omega) (by omega), Bool.and_self, Bool.true_and, Nat.ble_eq]
  omega
theorem okP_of {j : Int} (h : -1000000000 ≤ j) (k : j ≤ 1000000000) : okP j = true := okP_iff.mpr ⟨by omega, by omega⟩
theorem okR_nat {n : Nat} (k : n ≤ 1000000000) : okR (n : Int) = true := okR_of (by omega) (by omega)
theorem szL_val : szL = 16777216 := rfl
@[simp] theorem sHd_nil : sHd [] = false := rfl
@[simp] theorem sHd_s {a : Str} {r : List D} : sHd (.str a :: r) = true := rfl
@[simp] theorem sHd_i {a : Int} {r : List D} : sHd (.int a :: r) = false := rfl
@[simp] theorem sHd_b {a : Bool} {r : List D} : sHd (.bl a :: r) = false := rfl
@[simp] theorem sHd_n {r : List D} : sHd (.non :: r) = false := rfl
@[simp] theorem sHd_t {k : Bool} {x r : List D} : sHd (.tup k x :: r) = false := rfl
@[simp] theorem sHd_l {x r : List D} : sHd (.lst x :: r) = false := rfl
@[simp] theorem sHd_c {x : Nat} {r : List D} : sHd (.cell x :: r) = false := rfl
@[simp] theorem sHd_o {c : Nat} {x r : List D} : sHd (.ins c x :: r) = false := rfl
theorem sHd_app (xs ys : List D) : sHd (xs ++ ys) = (sHd xs || (xs.isEmpty && sHd ys)) := by
  cases xs with
  | nil => simp
  | cons x xs => cases x <;> simp [sHd]
@[simp] theorem sHd_str (ss : List Str) : sHd (ss.map .str) = !ss.isEmpty := by cases ss <;> rfl
@[simp] theorem sHd_int (ss : List Int) : sHd (ss.map .int) = false := by cases ss <;> rfl
/-- what is no text -/
def nS : D → Bool
  | .str _ => false
  | _ => true
@[simp] theorem nS_t {k : Bool} {x : List D} : nS (.tup k x) = true := rfl
@[simp] theorem nS_l {x : List D} : nS (.lst x) = true := rfl
@[simp] theorem nS_i {x : Int} : nS (.int x) = true := rfl
@[simp] theorem nS_b {x : Bool} : nS (.bl x) = true := rfl
@[simp] theorem nS_n : nS .non = true := rfl
@[simp] theorem sHd_nS {α : Type} {e : α → D} (h : ∀ x, nS (e x) = true) (xs : List α) : sHd (xs.map e) = false := by
  cases xs with
  | nil => rfl
  | cons x xs =>
    have := h x
    rw [List.map_cons]
    cases q : e x <;> first | rfl | (rw [q] at this; cases this)
theorem atI_nat {α : Type} (xs : List α) (n : Nat) : atI xs (n : Int) = xs[n]? := by
  unfold atI ixN
  rw [if_pos (by omega)]
  by_cases h : n < xs.length
  · rw [if_pos (by omega)]
    rfl
  · rw [if_neg (by omega), List.getElem?_eq_none (by omega)]
    rfl
theorem atI_pos {α : Type} {xs : List α} {r : Int} (h : 0 ≤ r) : atI xs r = xs[r.toNat]? := by
  have e : r = ((r.toNat : Nat) : Int) := by omega
  exact (congrArg (atI xs) e).trans (atI_nat xs r.toNat)
theorem atI_last {α : Type} (xs : List α) : atI xs (-1) = xs.getLast? := by
  unfold atI ixN
  rw [if_neg (by omega)]
  cases xs with
  | nil => rfl
  | cons x t =>
    rw [if_pos (by simp only [List.length_cons]; omega), List.getLast?_eq_getElem?]
    show ((x :: t) : List α)[((-1 : Int) + ((x :: t).length : Nat)).toNat]? = _
    congr 1
    simp only [List.length_cons]
    omega
@[simp] theorem atI_0 {α : Type} (xs : List α) : atI xs 0 = xs[0]? := atI_nat xs 0
@[simp] theorem atI_1 {α : Type} (xs : List α) : atI xs 1 = xs[1]? := atI_nat xs 1
@[simp] theorem atI_2 {α : Type} (xs : List α) : atI xs 2 = xs[2]? := atI_nat xs 2
@[simp] theorem atI_m1 {α : Type} (xs : List α) : atI xs (-1) = xs.getLast? := atI_last xs
theorem atI_map {α β : Type} (f : α → β) (xs : List α) (i : Int) : atI (xs.map f) i = (atI xs i).map f := by
  unfold atI
  rw [List.length_map]
  cases ixN xs.length i <;> simp
theorem cut_take (xs : List D) (j : Nat) : cutD xs none (some (j : Int)) = xs.take j := by
  simp only [cutD, sIx]
  rw [if_neg (by omega)]
  simp [List.take_eq_take_iff]
theorem cut_drop (xs : List D) (j : Nat) : cutD xs (some (j : Int)) none = xs.drop j := by
  simp only [cutD, sIx]
  rw [if_neg (by omega)]
  simp
  by_cases h : j ≤ xs.length
  · rw [Nat.min_eq_left h, List.take_of_length_le (by simp)]
  · rw [Nat.min_eq_right (by omega), List.drop_eq_nil_of_le (i := j) (by omega)]
    simp
theorem cut_take1 (xs : List D) (j : Nat) : cutD xs none (some ((j : Int) + 1)) = xs.take (j + 1) := cut_take xs (j + 1)
theorem cut_drop1 (xs : List D) (j : Nat) : cutD xs (some ((j : Int) + 1)) none = xs.drop (j + 1) := cut_drop xs (j + 1)
theorem cut_mid (xs : List D) (i j : Nat) : cutD xs (some (i : Int)) (some (j : Int)) = (xs.take j).drop i := by
  simp only [cutD, sIx]
  rw [if_neg (by omega), if_neg (by omega)]
  simp only [Int.toNat_natCast]
  rw [List.drop_take]
  by_cases h : i ≤ xs.length
  · rw [Nat.min_eq_left h]
    by_cases h2 : j ≤ xs.length
    · rw [Nat.min_eq_left h2]
    · have e : min j xs.length = xs.length := by omega
      rw [e, List.take_of_length_le (by simp), List.take_of_length_le (by simp; omega)]
  · have e : min i xs.length = xs.length := by omega
    rw [e, List.drop_eq_nil_of_le (Nat.le_refl _), List.drop_eq_nil_of_le (i := i) (by omega)]
    simp
theorem cut_all (xs : List D) : cutD xs none none = xs := by
  simp [cutD, sIx]
end
def enP (p : Int × D) : D := .tup false [.int p.1, p.2]
theorem enumL_map {α : Type} (e : α → D) (k : Int) (xs : List α) : enumL k (xs.map e) = (xs.zipIdx.map fun p => D.tup false [.int (k + (p.2 : Nat)), e p.1]) := by
  apply List.ext_getElem?
  intro i
  rw [List.getElem?_map, List.getElem?_zipIdx]
  cases h : xs[i]? with
  | none =>
    rw [List.getElem?_eq_none]
    · rfl
    · rw [enumL_len, List.length_map]
      exact List.getElem?_eq_none_iff.mp h
  | some x =>
    rw [enumL_get (d := e x) (by rw [List.getElem?_map, h]; rfl)]
    simp
theorem rngL_map (lo : Int) (n : Nat) : rngL lo n 1 = (List.range n).map fun (k : Nat) => D.int (lo + k) := by
  unfold rngL
  congr 1
  funext k
  rw [Int.mul_one]
theorem zipL_map {α β : Type} (e : α → D) (f : β → D) (xs : List α) (ys : List β) : zipL (xs.map e) (ys.map f) = (xs.zip ys).map fun p => D.tup false [e p.1, f p.2] := by
  induction xs generalizing ys with
  | nil => rfl
  | cons x xs ih =>
    cases ys with
    | nil => rfl
    | cons y ys =>
      show D.tup false [e x, f y] :: zipL (xs.map e) (ys.map f) = _
      rw [ih]
      rfl
theorem wipeR_nn {ρ : List (Option M)} : ∀ {vs : List Nat}, (∀ v ∈ vs, ρ[v]? = some none) → wipeR ρ vs = ρ
  | [], _ => rfl
  | v :: vs, h => by
    rw [q_wipe1, wipeR_nn fun u hu => h u (List.mem_cons_of_mem _ hu)]
    have := h v List.mem_cons_self
    apply List.ext_getElem?
    intro i
    by_cases e : v = i
    · subst e
      rw [List.getElem?_set_self (List.getElem?_eq_some_iff.mp this).1, this]
    · rw [List.getElem?_set_ne e]
theorem backR_nn {ρ0 ρ : List (Option M)} : ∀ {vs : List Nat}, (∀ v ∈ vs, ρ0[v]? = some none) → backR ρ0 ρ vs = wipeR ρ vs
  | [], _ => rfl
  | v :: vs, h => by
    unfold backR
    rw [backR_nn fun u hu => h u (List.mem_cons_of_mem _ hu), h v List.mem_cons_self]
    rfl
theorem lcGo_ok {α : Type} {turn : D → S → Res (Option D × S)} {e : α → D} {g : α → Option D} {s : S} : ∀ (xs : List α) (acc : List D), (∀ x ∈ xs, turn (e x) s = .ok (g x, s)) → acc.length + xs.length ≤ szL → lcGo turn (xs.map e) acc s = .ok (acc ++ xs.filterMap g, s)
  | [], acc, _, _ => by simp [lcGo]
  | x :: xs, acc, h, hz => by
    rw [List.map_cons]
    unfold lcGo
    rw [h x List.mem_cons_self]
    simp only [Res.bind_ok]
    rw [List.length_cons] at hz
    cases hg : g x with
    | none =>
      show lcGo turn (xs.map e) acc s = _
      rw [lcGo_ok xs acc (fun y hy => h y (List.mem_cons_of_mem _ hy)) (by omega), List.filterMap_cons, hg]
    | some y =>
      show (if acc.length < szL then lcGo turn (xs.map e) (acc ++ [y]) s else .stuck) = _
      rw [if_pos (by omega), lcGo_ok xs (acc ++ [y]) (fun y hy => h y (List.mem_cons_of_mem _ hy)) (by simp; omega), List.filterMap_cons, hg]
      simp
theorem lc_ok {α : Type} {vs : List Nat} {tg : Tg} {it : SI} {ifs : List SE} {el : SE} {C : Cl} {s s1 : S} (xs : List α) (e : α → D) (g : α → Option D) (hit : it C s = .ok (xs.map e, s1)) (hz : xs.length ≤ szL) (hv : ∀ v ∈ vs, s1.ρ[v]? = some none)
    (ht : ∀ x ∈ xs, lcTurn tg ifs el vs C (e x) s1 = .ok (g x, s1)) : lcF vs tg it ifs el C s = .ok (.own (xs.filterMap g), s1) := by
  rw [x_lcF, hit]
  have hall : (vs.all fun v => isVal (s1.ρ[v]?.getD none)) = true := List.all_eq_true.mpr fun v hm => by
    rw [hv v hm]
    rfl
  simp only [Res.bind_ok]
  rw [if_pos hall, wipeR_nn hv, lcGo_ok xs [] ht (by simpa using hz)]
  simp only [Res.bind_ok]
  rw [backR_nn hv, wipeR_nn hv]
  rfl
theorem lc_map {α : Type} {vs : List Nat} {tg : Tg} {it : SI} {el : SE} {C : Cl} {s s1 : S} (xs : List α) (e : α → D) (f : α → D) (hit : it C s = .ok (xs.map e, s1)) (hz : xs.length ≤ szL) (hv : ∀ v ∈ vs, s1.ρ[v]? = some none)
    (ht : ∀ x ∈ xs, lcTurn tg [] el vs C (e x) s1 = .ok (some (f x), s1)) : lcF vs tg it [] el C s = .ok (.own (xs.map f), s1) := by
  rw [lc_ok xs e (fun x => some (f x)) hit hz hv ht]
  simp
theorem lc_filter {α : Type} {vs : List Nat} {tg : Tg} {it : SI} {c el : SE} {C : Cl} {s s1 : S} (xs : List α) (e : α → D) (P : α → Bool) (f : α → D) (hit : it C s = .ok (xs.map e, s1)) (hz : xs.length ≤ szL) (hv : ∀ v ∈ vs, s1.ρ[v]? = some none)
    (ht : ∀ x ∈ xs, lcTurn tg [c] el vs C (e x) s1 = .ok (if P x then some (f x) else none, s1)) : lcF vs tg it [c] el C s = .ok (.own ((xs.filter P).map f), s1) := by
  rw [lc_ok xs e (fun x => if P x then some (f x) else none) hit hz hv ht, ← List.filterMap_eq_map, List.filterMap_filter]
  rfl
@[simp] theorem q_turn {tg : Tg} {ifs : List SE} {el : SE} {vs : List Nat} {C : Cl} {d : D} {s : S} : lcTurn tg ifs el vs C d s = (bindT tg d (wipeR s.ρ vs)).bind fun ρ1 => (ifsF ifs C ⟨ρ1, s.st⟩).bind fun (b, s2) =>
    if b then (el C s2).bind fun (r, s3) => (frz r s3).bind fun (x, s4) => .ok (some x, ⟨wipeR s4.ρ vs, s4.st⟩) else .ok (none, ⟨wipeR s2.ρ vs, s2.st⟩) := rfl
theorem lc2Go_ok {α β : Type} {tg0 : Tg} {vs vs1 : List Nat} {tg : Tg} {it : SI} {ifs : List SE} {el : SE} {C : Cl} {s1 : S} {e : α → D} {ys : α → List β} {e2 : α → β → D} {g : α → β → Option D} {ρx : α → List (Option M)} (hv : ∀ v ∈ vs, s1.ρ[v]? = some none) : ∀ (xs : List α) (acc : List D),
    (∀ x ∈ xs, bindT tg0 (e x) s1.ρ = .ok (ρx x) ∧ it C ⟨ρx x, s1.st⟩ = .ok ((ys x).map (e2 x), ⟨ρx x, s1.st⟩) ∧ (∀ v ∈ vs1, (ρx x)[v]? = some none) ∧ wipeR (ρx x) vs = s1.ρ ∧ ∀ y ∈ ys x, lcTurn tg ifs el vs1 C (e2 x y) ⟨ρx x, s1.st⟩ = .ok (g x y, ⟨ρx x, s1.st⟩)) →
    acc.length + (xs.flatMap ys).length ≤ szL → lc2Go tg0 [] (lc2In tg it ifs el vs1 C) vs C (xs.map e) acc s1 = .ok (acc ++ xs.flatMap (fun x => (ys x).filterMap (g x)), s1)
  | [], acc, _, _ => by simp [lc2Go]
  | x :: xs, acc, h, hz => by
    obtain ⟨h1, h2, h3, h4, h5⟩ := h x List.mem_cons_self
    rw [List.flatMap_cons, List.length_append] at hz
    rw [List.map_cons]
    unfold lc2Go
    rw [wipeR_nn hv, h1]
    simp only [Res.bind_ok, q_ifs0, if_true]
    unfold lc2In
    rw [h2]
    simp only [Res.bind_ok]
    rw [wipeR_nn h3, lcGo_ok (ys x) acc h5 (by omega)]
    simp only [Res.bind_ok]
    rw [h4]
    have hl : ((ys x).filterMap (g x)).length ≤ (ys x).length := List.length_filterMap_le _ _
    have := lc2Go_ok hv xs (acc ++ (ys x).filterMap (g x)) (fun y hy => h y (List.mem_cons_of_mem _ hy)) (by rw [List.length_append]; omega)
    unfold lc2In at this
    rw [this]
    simp
theorem lc2_ok {α β : Type} {tg0 : Tg} {it0 : SI} {vs vs1 : List Nat} {tg : Tg} {it : SI} {ifs : List SE} {el : SE} {C : Cl} {s s1 : S} (xs : List α) (e : α → D) (ys : α → List β) (e2 : α → β → D) (g : α → β → Option D) (ρx : α → List (Option M)) (hit : it0 C s = .ok (xs.map e, s1)) (hv : ∀ v ∈ vs, s1.ρ[v]? = some none) (hz : (xs.flatMap ys).length ≤ szL)
    (h : ∀ x ∈ xs, bindT tg0 (e x) s1.ρ = .ok (ρx x) ∧ it C ⟨ρx x, s1.st⟩ = .ok ((ys x).map (e2 x), ⟨ρx x, s1.st⟩) ∧ (∀ v ∈ vs1, (ρx x)[v]? = some none) ∧ wipeR (ρx x) vs = s1.ρ ∧ ∀ y ∈ ys x, lcTurn tg ifs el vs1 C (e2 x y) ⟨ρx x, s1.st⟩ = .ok (g x y, ⟨ρx x, s1.st⟩)) :
    lc2F vs vs1 tg0 it0 [] tg it ifs el C s = .ok (.own (xs.flatMap fun x => (ys x).filterMap (g x)), s1) := by
  rw [x_lc2F, hit]
  have hall : (vs.all fun v => isVal (s1.ρ[v]?.getD none)) = true := List.all_eq_true.mpr fun v hm => by
    rw [hv v hm]
    rfl
  simp only [Res.bind_ok]
  rw [if_pos hall, wipeR_nn hv, lc2Go_ok hv xs [] h (by simpa using hz)]
  simp only [Res.bind_ok]
  rw [backR_nn hv, wipeR_nn hv]
  rfl
def turnF (tg : Tg) (body : SS) (C : Cl) (ρ0 : List (Option M)) (d : D) (s : S) : Res (Out × S) := (bindT tg d s.ρ).bind fun ρ1 => (body C ⟨ρ1, s.st⟩).bind fun (o, s1) => match o with
  | .nx => .ok (.nx, ⟨keepR ρ0 s1.ρ, s1.st⟩)
  | .ct => .ok (.nx, ⟨keepR ρ0 s1.ρ, s1.st⟩)
  | .bk => .ok (.bk, ⟨keepR ρ0 s1.ρ, s1.st⟩)
  | .ret m => .ok (.ret m, s1)
theorem forGo_cons {tg : Tg} {body : SS} {C : Cl} {ρ0 : List (Option M)} {d : D} {ds : List D} {s : S} : forGo tg body C ρ0 (d :: ds) s = (turnF tg body C ρ0 d s).bind fun (o, s1) => match o with
    | .nx => forGo tg body C ρ0 ds s1
    | .ct => forGo tg body C ρ0 ds s1
    | .bk => .ok (.nx, s1)
    | .ret m => .ok (.ret m, s1) := by
  conv => lhs; unfold forGo
  unfold turnF
  cases bindT tg d s.ρ with
  | ok ρ1 =>
    simp only [Res.bind_ok]
    cases body C ⟨ρ1, s.st⟩ with
    | ok p =>
      obtain ⟨o, s1⟩ := p
      cases o <;> rfl
    | exc _ _ _ => rfl
    | stuck => rfl
  | exc _ _ _ => rfl
  | stuck => rfl
@[simp] theorem q_turnF {tg : Tg} {body : SS} {C : Cl} {ρ0 : List (Option M)} {d : D} {s : S} : turnF tg body C ρ0 d s = (bindT tg d s.ρ).bind fun ρ1 => (body C ⟨ρ1, s.st⟩).bind fun (o, s1) => match o with
    | .nx => .ok (.nx, ⟨keepR ρ0 s1.ρ, s1.st⟩)
    | .ct => .ok (.nx, ⟨keepR ρ0 s1.ρ, s1.st⟩)
    | .bk => .ok (.bk, ⟨keepR ρ0 s1.ρ, s1.st⟩)
    | .ret m => .ok (.ret m, s1) := rfl
theorem turn_eq {tg : Tg} {body : SS} {C : Cl} {ρ0 ρ1 : List (Option M)} {d : D} {s s' : S} (h : bindT tg d s.ρ = .ok ρ1) (h2 : (body C ⟨ρ1, s.st⟩).Sat fun r => r.1 = .nx ∧ (⟨keepR ρ0 r.2.ρ, r.2.st⟩ : S) = s') : turnF tg body C ρ0 d s = .ok (.nx, s') := by
  obtain ⟨⟨o, s1⟩, e, h3, h4⟩ := Res.sat_iff.mp h2
  simp only at h3
  subst h3
  unfold turnF
  rw [h]
  simp only [Res.bind_ok]
  rw [e]
  simp only [Res.bind_ok]
  rw [h4]
/-- a loop whose state is told by what was walked -/
theorem for_pre {α : Type} {tg : Tg} {body : SS} {C : Cl} {ρ0 : List (Option M)} (xs : List α) (e : α → D) (F : List α → S) (h : ∀ p x q, xs = p ++ x :: q → turnF tg body C ρ0 (e x) (F p) = .ok (.nx, F (p ++ [x]))) : forGo tg body C ρ0 (xs.map e) (F []) = .ok (.nx, F xs) := by
  have go : ∀ (q p : List α), xs = p ++ q → forGo tg body C ρ0 (q.map e) (F p) = .ok (.nx, F xs) := by
    intro q
    induction q with
    | nil =>
      intro p hp
      rw [List.append_nil] at hp
      subst hp
      rfl
    | cons x q ih =>
      intro p hp
      rw [List.map_cons, forGo_cons, h p x q hp]
      exact ih (p ++ [x]) (by rw [hp]; simp)
  exact go xs [] rfl
/-- a loop that is left at the first hit, and else does nothing -/
theorem for_find {α : Type} {tg : Tg} {body : SS} {C : Cl} {ρ0 : List (Option M)} {s s' : S} (xs : List α) (e : α → D) (P : α → Bool) (m : α → M) (h : ∀ x ∈ xs, turnF tg body C ρ0 (e x) s = .ok (if P x then (.ret (m x), s') else (.nx, s))) :
    forGo tg body C ρ0 (xs.map e) s = .ok (match xs.find? P with | some x => (.ret (m x), s') | none => (.nx, s)) := by
  induction xs with
  | nil => rfl
  | cons x xs ih =>
    rw [List.map_cons, forGo_cons, h x List.mem_cons_self, List.find?_cons]
    cases P x with
    | true => rfl
    | false => exact ih fun y hy => h y (List.mem_cons_of_mem _ hy)
/-- a loop up to a hit, its state told by what was walked -/
theorem for_hit {α : Type} {tg : Tg} {body : SS} {C : Cl} {ρ0 : List (Option M)} (xs : List α) (e : α → D) (F : List α → S) (p : List α) (x : α) (q : List α) (hx : xs = p ++ x :: q) (m : M) (s' : S) (h : ∀ p1 y q1, p = p1 ++ y :: q1 → turnF tg body C ρ0 (e y) (F p1) = .ok (.nx, F (p1 ++ [y]))) (h2 : turnF tg body C ρ0 (e x) (F p) = .ok (.ret m, s')) :
    forGo tg body C ρ0 (xs.map e) (F []) = .ok (.ret m, s') := by
  subst hx
  have go : ∀ (q2 p2 : List α), p = p2 ++ q2 → forGo tg body C ρ0 ((q2 ++ x :: q).map e) (F p2) = .ok (.ret m, s') := by
    intro q2
    induction q2 with
    | nil =>
      intro p2 hp
      rw [List.append_nil] at hp
      subst hp
      rw [List.nil_append, List.map_cons, forGo_cons, h2]
      rfl
    | cons y q2 ih =>
      intro p2 hp
      rw [List.cons_append, List.map_cons, forGo_cons, h p2 y q2 hp]
      exact ih (p2 ++ [y]) (by rw [hp]; simp)
  exact go p [] rfl
/-- a loop by an invariant -/
theorem for_sat {α : Type} {tg : Tg} {body : SS} {C : Cl} {ρ0 : List (Option M)} {P : Out × S → Prop} (xs : List α) (e : α → D) (I : List α → S → Prop) {s : S} (h0 : I [] s)
    (h : ∀ p x q s, xs = p ++ x :: q → I p s → (turnF tg body C ρ0 (e x) s).Sat fun r => match r.1 with
      | .nx => I (p ++ [x]) r.2
      | .ct => I (p ++ [x]) r.2
      | .bk => P (.nx, r.2)
      | .ret m => P (.ret m, r.2)) (hd : ∀ s, I xs s → P (.nx, s)) : (forGo tg body C ρ0 (xs.map e) s).Sat P := by
  have go : ∀ (q p : List α) (s : S), xs = p ++ q → I p s → (forGo tg body C ρ0 (q.map e) s).Sat P := by
    intro q
    induction q with
    | nil =>
      intro p s hp hi
      rw [List.append_nil] at hp
      subst hp
      exact hd s hi
    | cons x q ih =>
      intro p s hp hi
      rw [List.map_cons, forGo_cons, Res.sat_bind]
      refine (h p x q s hp hi).mono fun r hr => ?_
      obtain ⟨o, s1⟩ := r
      cases o with
      | nx => exact ih (p ++ [x]) s1 (by rw [hp]; simp) hr
      | ct => exact ih (p ++ [x]) s1 (by rw [hp]; simp) hr
      | bk => exact hr
      | ret m => exact hr
  exact go xs [] s rfl h0
/-- a comprehension by an invariant, its items yielded in the store's own time -/
theorem lcGo_sat {α : Type} {turn : D → S → Res (Option D × S)} {P : List D × S → Prop} (xs : List α) (e : α → D) (I : List α → List D → S → Prop) {acc : List D} {s : S} (h0 : I [] acc s)
    (h : ∀ p x q acc s, xs = p ++ x :: q → I p acc s → (turn (e x) s).Sat fun r => match r.1 with
      | some y => acc.length < szL ∧ I (p ++ [x]) (acc ++ [y]) r.2
      | none => I (p ++ [x]) acc r.2) (hd : ∀ acc s, I xs acc s → P (acc, s)) : (lcGo turn (xs.map e) acc s).Sat P := by
  have go : ∀ (q p : List α) (acc : List D) (s : S), xs = p ++ q → I p acc s → (lcGo turn (q.map e) acc s).Sat P := by
    intro q
    induction q with
    | nil =>
      intro p acc s hp hi
      rw [List.append_nil] at hp
      subst hp
      exact hd acc s hi
    | cons x q ih =>
      intro p acc s hp hi
      rw [List.map_cons]
      unfold lcGo
      rw [Res.sat_bind]
      refine (h p x q acc s hp hi).mono fun r hr => ?_
      obtain ⟨o, s1⟩ := r
      cases o with
      | none => exact ih (p ++ [x]) acc s1 (by rw [hp]; simp) hr
      | some y =>
        show (if acc.length < szL then _ else _ : Res _).Sat P
        rw [if_pos hr.1]
        exact ih (p ++ [x]) (acc ++ [y]) s1 (by rw [hp]; simp) hr.2
  exact go xs [] acc s rfl h0
/-- a comprehension whose turns change the store -/
theorem lc_sat {α : Type} {vs : List Nat} {tg : Tg} {it : SI} {el : SE} {C : Cl} {s s1 : S} {P : R × S → Prop} (xs : List α) (e : α → D) (I : List α → List D → List (List D) → Prop) (hit : it C s = .ok (xs.map e, s1)) (hv : ∀ v ∈ vs, s1.ρ[v]? = some none) (h0 : I [] [] s1.st)
    (h : ∀ p x q acc st, xs = p ++ x :: q → I p acc st → ((bindT tg (e x) s1.ρ).bind fun ρ1 => (el C ⟨ρ1, st⟩).bind fun (r, s3) => (frz r s3).bind fun (x, s4) => .ok (x, (⟨wipeR s4.ρ vs, s4.st⟩ : S))).Sat fun r => acc.length < szL ∧ r.2.ρ = s1.ρ ∧ I (p ++ [x]) (acc ++ [r.1]) r.2.st)
    (hd : ∀ acc st, I xs acc st → P (.own acc, ⟨s1.ρ, st⟩)) : (lcF vs tg it [] el C s).Sat P := by
  rw [x_lcF, hit]
  have hall : (vs.all fun v => isVal (s1.ρ[v]?.getD none)) = true := List.all_eq_true.mpr fun v hm => by
    rw [hv v hm]
    rfl
  simp only [Res.bind_ok]
  rw [if_pos hall, wipeR_nn hv, Res.sat_bind]
  refine lcGo_sat xs e (fun p acc s => s.ρ = s1.ρ ∧ I p acc s.st) ⟨rfl, h0⟩ ?_ ?_
  · rintro p x q acc ⟨ρ, st⟩ hp ⟨e1, hi⟩
    simp only at e1
    subst e1
    have := h p x q acc st hp hi
    unfold lcTurn
    simp only [wipeR_nn hv]
    rw [Res.sat_bind] at this ⊢
    refine this.mono fun ρ1 h => ?_
    simp only [q_ifs0, Res.bind_ok, if_true]
    rw [Res.sat_bind] at h ⊢
    refine h.mono fun r h => ?_
    obtain ⟨r, s3⟩ := r
    rw [Res.sat_bind] at h ⊢
    refine h.mono fun r h => ?_
    exact ⟨h.1, h.2.1, h.2.2⟩
  · rintro acc ⟨ρ, st⟩ ⟨e1, hi⟩
    simp only at e1
    subst e1
    have := hd acc st hi
    rw [Res.sat_ok, backR_nn hv, wipeR_nn hv]
    exact this
theorem for_findT {α : Type} {tg : Tg} {body : SS} {C : Cl} {ρ0 : List (Option M)} {s s' : S} {P : Out × S → Prop} (xs : List α) (e : α → D) (Q : α → Bool) (m : α → M) (h : ∀ x ∈ xs, turnF tg body C ρ0 (e x) s = .ok (if Q x then (.ret (m x), s') else (.nx, s)))
    (h1 : ∀ x, xs.find? Q = some x → P (.ret (m x), s')) (h2 : xs.find? Q = none → P (.nx, s)) : (forGo tg body C ρ0 (xs.map e) s).Sat P := by
  rw [for_find xs e Q m h]
  cases hq : xs.find? Q with
  | none => exact h2 hq
  | some x => exact h1 x hq
/-- slots known anew -/
def ups : List (Option M) → List (Nat × M) → List (Option M)
  | ρ, [] => ρ
  | ρ, (i, m) :: r => ups (ρ.set i (some m)) r
@[simp] theorem ups_nil {ρ : List (Option M)} : ups ρ [] = ρ := rfl
@[simp] theorem ups_cons {ρ : List (Option M)} {i : Nat} {m : M} {r : List (Nat × M)} : ups ρ ((i, m) :: r) = ups (ρ.set i (some m)) r := rfl
theorem lc_mapT {α : Type} {vs : List Nat} {tg : Tg} {it : SI} {el : SE} {C : Cl} {s : S} {P : R × S → Prop} (xs : List α) (e : α → D) (f : α → D) (hit : it C s = .ok (xs.map e, s)) (hz : xs.length ≤ szL) (hv : ∀ v ∈ vs, s.ρ[v]? = some none)
    (ht : ∀ x ∈ xs, lcTurn tg [] el vs C (e x) s = .ok (some (f x), s)) (hd : P (.own (xs.map f), s)) : (lcF vs tg it [] el C s).Sat P := by
  rw [lc_map xs e f hit hz hv ht]
  exact hd
theorem lc_mapU {α : Type} {vs : List Nat} {tg : Tg} {it : SI} {el : SE} {C : Cl} {s s1 : S} {P : R × S → Prop} (xs : List α) (e : α → D) (f : α → D) (hit : it C s = .ok (xs.map e, s1)) (hz : xs.length ≤ szL) (hv : ∀ v ∈ vs, s1.ρ[v]? = some none)
    (ht : ∀ x ∈ xs, lcTurn tg [] el vs C (e x) s1 = .ok (some (f x), s1)) (hd : P (.own (xs.map f), s1)) : (lcF vs tg it [] el C s).Sat P := by
  rw [lc_map xs e f hit hz hv ht]
  exact hd
theorem lc_filterT {α : Type} {vs : List Nat} {tg : Tg} {it : SI} {c el : SE} {C : Cl} {s : S} {P : R × S → Prop} (xs : List α) (e : α → D) (Q : α → Bool) (f : α → D) (hit : it C s = .ok (xs.map e, s)) (hz : xs.length ≤ szL) (hv : ∀ v ∈ vs, s.ρ[v]? = some none)
    (ht : ∀ x ∈ xs, lcTurn tg [c] el vs C (e x) s = .ok (if Q x then some (f x) else none, s)) (hd : P (.own ((xs.filter Q).map f), s)) : (lcF vs tg it [c] el C s).Sat P := by
  rw [lc_filter xs e Q f hit hz hv ht]
  exact hd
theorem lc2T {α β : Type} {tg0 : Tg} {it0 : SI} {vs vs1 : List Nat} {tg : Tg} {it : SI} {ifs : List SE} {el : SE} {C : Cl} {s : S} {P : R × S → Prop} (xs : List α) (e : α → D) (ys : α → List β) (e2 : α → β → D) (g : α → β → Option D) (U : α → List (Nat × M)) (hit : it0 C s = .ok (xs.map e, s)) (hv : ∀ v ∈ vs, s.ρ[v]? = some none) (hz : (xs.flatMap ys).length ≤ szL)
    (h : ∀ x ∈ xs, bindT tg0 (e x) s.ρ = .ok (ups s.ρ (U x)) ∧ it C ⟨ups s.ρ (U x), s.st⟩ = .ok ((ys x).map (e2 x), ⟨ups s.ρ (U x), s.st⟩) ∧ (∀ v ∈ vs1, (ups s.ρ (U x))[v]? = some none) ∧ wipeR (ups s.ρ (U x)) vs = s.ρ ∧ ∀ y ∈ ys x, lcTurn tg ifs el vs1 C (e2 x y) ⟨ups s.ρ (U x), s.st⟩ = .ok (g x y, ⟨ups s.ρ (U x), s.st⟩))
    (hd : P (.own (xs.flatMap fun x => (ys x).filterMap (g x)), s)) : (lc2F vs vs1 tg0 it0 [] tg it ifs el C s).Sat P := by
  rw [lc2_ok xs e ys e2 g (fun x => ups s.ρ (U x)) hit hv hz h]
  exact hd
theorem while_sat {c : SE} {body : SS} {C : Cl} {ρ0 : List (Option M)} {P : Out × S → Prop} (I : Nat → S → Prop)
    (hs : ∀ k s, I k s → (tst c C s).Sat fun p => if p.1 = true then (body C p.2).Sat fun q => (match q.1 with
      | .nx => ∃ k', k' < k ∧ I k' ⟨keepR ρ0 q.2.ρ, q.2.st⟩
      | .ct => ∃ k', k' < k ∧ I k' ⟨keepR ρ0 q.2.ρ, q.2.st⟩
      | .bk => P (.nx, ⟨keepR ρ0 q.2.ρ, q.2.st⟩)
      | .ret m => P (.ret m, q.2)) else P (.nx, p.2)) : ∀ (n k : Nat) (s : S), k < n → I k s → (whileGo c body C ρ0 n s).Sat P
  | 0, _, _, h, _ => by omega
  | n + 1, k, s, h, hi => by
    have h1 := hs k s hi
    unfold whileGo
    rw [Res.sat_bind]
    refine h1.mono fun p h2 => ?_
    obtain ⟨b, s1⟩ := p
    cases b with
    | false => exact h2
    | true =>
      have h2 : (body C s1).Sat _ := h2
      show ((body C s1).bind _).Sat P
      rw [Res.sat_bind]
      refine h2.mono fun q h3 => ?_
      obtain ⟨o, s2⟩ := q
      cases o with
      | nx =>
        obtain ⟨k', hk, h4⟩ := h3
        exact while_sat I hs n k' _ (by omega) h4
      | ct =>
        obtain ⟨k', hk, h4⟩ := h3
        exact while_sat I hs n k' _ (by omega) h4
      | bk => exact h3
      | ret m => exact h3
/-- statement by statement -/
theorem seq_eq {f k : SS} {C : Cl} {s s1 : S} {P : Out × S → Prop} (h : f C s = .ok (.nx, s1)) (h2 : (k C s1).Sat P) : (seqF f k C s).Sat P := by
  show ((f C s).bind _).Sat P
  rw [h]
  exact h2
theorem seq_ret {f k : SS} {C : Cl} {s s1 : S} {m : M} {P : Out × S → Prop} (h : f C s = .ok (.ret m, s1)) (h2 : P (.ret m, s1)) : (seqF f k C s).Sat P := by
  show ((f C s).bind _).Sat P
  rw [h]
  exact h2
/-- a loop as a statement: behind each prefix these slots have changed -/
theorem forF_pre {α : Type} {tg : Tg} {it : SI} {body : SS} {C : Cl} {s s0 : S} (xs : List α) (e : α → D) (G : List α → List (Nat × M)) (hit : it C s = .ok (xs.map e, s0)) (h0 : ups s0.ρ (G []) = s0.ρ)
    (h : ∀ p x q, xs = p ++ x :: q → turnF tg body C s0.ρ (e x) ⟨ups s0.ρ (G p), s0.st⟩ = .ok (.nx, ⟨ups s0.ρ (G (p ++ [x])), s0.st⟩)) : forF tg it body C s = .ok (.nx, ⟨ups s0.ρ (G xs), s0.st⟩) := by
  rw [x_forF, hit]
  simp only [Res.bind_ok]
  have e1 : s0 = (fun p => (⟨ups s0.ρ (G p), s0.st⟩ : S)) [] := by
    show s0 = ⟨ups s0.ρ (G []), s0.st⟩
    rw [h0]
  conv => lhs; rw [show forGo tg body C s0.ρ (xs.map e) s0 = forGo tg body C s0.ρ (xs.map e) ((fun p => (⟨ups s0.ρ (G p), s0.st⟩ : S)) []) by rw [← e1]]
  exact for_pre xs e (fun p => ⟨ups s0.ρ (G p), s0.st⟩) h
/-- a loop whose turns change the store alone -/
theorem forF_inv {α : Type} {tg : Tg} {it : SI} {body : SS} {C : Cl} {s s0 : S} {P : Out × S → Prop} (xs : List α) (e : α → D) (I : List α → List (List D) → Prop) (hit : it C s = .ok (xs.map e, s0)) (h0 : I [] s0.st)
    (h : ∀ p x q st, xs = p ++ x :: q → I p st → ∃ ρ1, bindT tg (e x) s0.ρ = .ok ρ1 ∧ (body C ⟨ρ1, st⟩).Sat fun r => r.1 = .nx ∧ keepR s0.ρ r.2.ρ = s0.ρ ∧ I (p ++ [x]) r.2.st)
    (hd : ∀ st, I xs st → P (.nx, ⟨s0.ρ, st⟩)) : (forF tg it body C s).Sat P := by
  rw [x_forF, hit]
  simp only [Res.bind_ok]
  refine for_sat xs e (fun p s => s.ρ = s0.ρ ∧ I p s.st) ⟨rfl, h0⟩ ?_ ?_
  · rintro p x q ⟨ρ, st⟩ hp ⟨e1, hi⟩
    simp only at e1
    subst e1
    obtain ⟨ρ1, e2, h2⟩ := h p x q st hp hi
    unfold turnF
    simp only [e2, Res.bind_ok]
    rw [Res.sat_bind]
    refine h2.mono fun r h3 => ?_
    obtain ⟨o, s1⟩ := r
    obtain ⟨e3, e4, h5⟩ := h3
    simp only at e3 e4
    subst e3
    exact ⟨e4, h5⟩
  · rintro ⟨ρ, st⟩ ⟨e1, hi⟩
    simp only at e1
    subst e1
    exact hd st hi
theorem seq_ex {f k : SS} {C : Cl} {s : S} {P : Out × S → Prop} (Q : S → Prop) (h : ∃ s1, f C s = .ok (.nx, s1) ∧ Q s1) (h2 : ∀ s1, Q s1 → (k C s1).Sat P) : (seqF f k C s).Sat P := by
  obtain ⟨s1, e, q⟩ := h
  exact seq_eq e (h2 s1 q)
/-- a loop that is left by a return -/
theorem forF_hit {α : Type} {tg : Tg} {it : SI} {body : SS} {C : Cl} {s s0 s' : S} {m : M} (xs : List α) (e : α → D) (G : List α → List (Nat × M)) (p : List α) (x : α) (q : List α) (hx : xs = p ++ x :: q) (hit : it C s = .ok (xs.map e, s0)) (h0 : ups s0.ρ (G []) = s0.ρ)
    (h : ∀ p1 y q1, p = p1 ++ y :: q1 → turnF tg body C s0.ρ (e y) ⟨ups s0.ρ (G p1), s0.st⟩ = .ok (.nx, ⟨ups s0.ρ (G (p1 ++ [y])), s0.st⟩)) (h2 : turnF tg body C s0.ρ (e x) ⟨ups s0.ρ (G p), s0.st⟩ = .ok (.ret m, s')) : forF tg it body C s = .ok (.ret m, s') := by
  rw [x_forF, hit]
  simp only [Res.bind_ok]
  have e1 : s0 = (fun p => (⟨ups s0.ρ (G p), s0.st⟩ : S)) [] := by
    show s0 = ⟨ups s0.ρ (G []), s0.st⟩
    rw [h0]
  conv => lhs; rw [show forGo tg body C s0.ρ (xs.map e) s0 = forGo tg body C s0.ρ (xs.map e) ((fun p => (⟨ups s0.ρ (G p), s0.st⟩ : S)) []) by rw [← e1]]
  exact for_hit xs e (fun p => ⟨ups s0.ρ (G p), s0.st⟩) p x q hx m s' h h2
theorem forF_find {α : Type} {tg : Tg} {it : SI} {body : SS} {C : Cl} {s s0 s' : S} (xs : List α) (e : α → D) (Q : α → Bool) (m : α → M) (hit : it C s = .ok (xs.map e, s0)) (h : ∀ x ∈ xs, turnF tg body C s0.ρ (e x) s0 = .ok (if Q x then (.ret (m x), s') else (.nx, s0))) :
    forF tg it body C s = .ok (match xs.find? Q with | some x => (.ret (m x), s') | none => (.nx, s0)) := by
  rw [x_forF, hit]
  exact for_find xs e Q m h
theorem run_eq {n : Nat} {body : SS} {C : Cl} {ds : List D} {st : List (List D)} {r : M × List (List D)} (h : (body C ⟨ds.map (fun d => some (.val d)) ++ List.replicate (n - ds.length) none, st⟩).Sat fun p => (match p.1 with
    | .nx => (.val .non, p.2.st) = r
    | .ret m => (m, p.2.st) = r
    | _ => False)) : runF n body C ds st = .ok r := by
  rw [x_runF]
  obtain ⟨⟨o, s⟩, e, h⟩ := Res.sat_iff.mp h
  rw [e]
  cases o with
  | nx => exact congrArg _ h
  | ret m => exact congrArg _ h
  | bk => exact h.elim
  | ct => exact h.elim
theorem runI_eq {cc nf n : Nat} {body : SS} {C : Cl} {ds : List D} {st : List (List D)} {r : M × List (List D)} (h : (body C ⟨(some (.slf cc) :: (ds.map (fun d => some (.val d)) ++ List.replicate (n - (ds.length + 1)) none)) ++ List.replicate nf none, st⟩).Sat fun p => p.1 = .nx ∧ ∃ fs, fldsR (p.2.ρ.drop n) = .ok fs ∧ (.val (.ins cc fs), p.2.st) = r) :
    runI cc nf n body C ds st = .ok r := by
  obtain ⟨⟨o, s⟩, e, h1, fs, h2, h3⟩ := Res.sat_iff.mp h
  simp only at h1
  subst h1
  show ((body C _).bind _) = _
  rw [e]
  show ((fldsR (s.ρ.drop n)).bind _) = _
  rw [h2]
  exact congrArg _ h3
theorem seq_sat {f k : SS} {C : Cl} {s : S} {P : Out × S → Prop} (h : (f C s).Sat fun p => p.1 = .nx ∧ (k C p.2).Sat P) : (seqF f k C s).Sat P := by
  show ((f C s).bind _).Sat P
  rw [Res.sat_bind]
  refine h.mono fun p h => ?_
  obtain ⟨o, s1⟩ := p
  obtain ⟨e, h⟩ := h
  simp only at e
  subst e
  exact h
def EndP (P : M × List (List D) → Prop) : Out × S → Prop := fun p => match p.1 with
  | .nx => P (.val .non, p.2.st)
  | .ret m => P (m, p.2.st)
  | _ => False
theorem run_sat {n : Nat} {body : SS} {C : Cl} {ds : List D} {st : List (List D)} {P : M × List (List D) → Prop} (h : (body C ⟨ds.map (fun d => some (.val d)) ++ List.replicate (n - ds.length) none, st⟩).Sat (EndP P)) : (runF n body C ds st).Sat P := by
  show ((body C _).bind _).Sat P
  rw [Res.sat_bind]
  refine h.mono fun p h => ?_
  obtain ⟨o, s1⟩ := p
  cases o with
  | nx => exact h
  | ret m => exact h
  | bk => exact h.elim
  | ct => exact h.elim
theorem callN_s {T : Tb} {n i : Nat} {f : Cl → Fnl} (h : T[i]? = some f) : callN T (n + 1) i = f (callN T n) := by
  funext ds st
  show (match T[i]? with | some f => f (callN T n) ds st | none => .stuck) = _
  rw [h]
@[simp] theorem tups_str (ss : List Str) : tupsD (ss.map .str) = false := by cases ss <;> simp [tupsD, tupD]
@[simp] theorem tups_int (ss : List Int) : tupsD (ss.map .int) = false := by cases ss <;> simp [tupsD, tupD]
@[simp] theorem tups_nil : tupsD [] = false := rfl
@[simp] theorem tups_cs {a : Str} {r : List D} : tupsD (.str a :: r) = false := by simp [tupsD, tupD]
@[simp] theorem tups_ci {a : Int} {r : List D} : tupsD (.int a :: r) = false := by simp [tupsD, tupD]
@[simp] theorem g_sortX {st : List (List D)} {xs : List D} (h : tupsD xs = false) : gSortX st [.lst xs] = gSorted st [.lst xs] := by simp [gSortX, h]
@[simp] theorem g_sortXi {st : List (List D)} {k : Bool} {is : List Int} : gSortX st [.tup k (is.map .int)] = gSorted st [.tup k (is.map .int)] := by
  cases is with
  | nil => simp [gSortX, gSorted, srtD, tupsD, alkD, szL, sortI, optR]
  | cons x r => simp [gSortX, srtD, tupsD, tupD, strD]
@[simp] theorem g_revX {st : List (List D)} {xs : List D} : gRevX st [.lst xs] = .ok (.own xs.reverse) := rfl
@[simp] theorem g_revXt {st : List (List D)} {k : Bool} {xs : List D} : gRevX st [.tup k xs] = .ok (.val (.tup (sHd xs.reverse) xs.reverse)) := rfl
@[simp] theorem g_minX {st : List (List D)} {xs : List D} (h : tupsD xs = false) : gMinX st [.lst xs] = gMin2 st [.lst xs] := by simp [gMinX, h]
@[simp] theorem g_minX2 {st : List (List D)} {i j : Int} : gMinX st [.int i, .int j] = gMin2 st [.int i, .int j] := rfl
@[simp] theorem g_maxX {st : List (List D)} {xs : List D} (h : tupsD xs = false) : gMaxX st [.lst xs] = gMax2 st [.lst xs] := by simp [gMaxX, h]
@[simp] theorem g_maxX2 {st : List (List D)} {i j : Int} : gMaxX st [.int i, .int j] = gMax2 st [.int i, .int j] := rfl
@[simp] theorem g_maxDf {st : List (List D)} {d : Int} {is : List Int} : gMaxDf d st [.lst (is.map .int)] = .ok (.val (.int (maxDf d is))) := by
  show (optR ((is.map D.int).mapM i1)).bind _ = _
  rw [mapM_i1]
  rfl
@[simp] theorem g_maxDf0 {st : List (List D)} {d : Int} : gMaxDf d st [.lst []] = .ok (.val (.int d)) := rfl
@[simp] theorem g_LE {st : List (List D)} {xs : List D} : gLE st [.lst xs] = .ok (.own (enumL 0 xs)) := rfl
@[simp] theorem g_LEt {st : List (List D)} {k : Bool} {xs : List D} : gLE st [.tup k xs] = .ok (.own (enumL 0 xs)) := rfl
end Ev
set_option Elab.async false
set_option maxRecDepth 100000
set_option maxHeartbeats 1000000
namespace Ev
open PySem
/-- the box at place n: what is left of the number, the seed, how often it was asked -/
def Box (st : List (List D)) (n : Nat) (m : Int) : Prop := ∃ a b c : Int, st[n]? = some [.int a, .int b, .int c] ∧ 0 ≤ a ∧ 0 ≤ b ∧ b < 2 ^ 62 ∧ 0 ≤ c ∧ c ≤ m
def Kp (st st' : List (List D)) (n : Nat) : Prop := st'.length = st.length ∧ ∀ k, k ≠ n → st'[k]? = st[k]?
theorem Kp.refl (st : List (List D)) (n : Nat) : Kp st st n := ⟨rfl, fun _ _ => rfl⟩
theorem Kp.trans {a b c : List (List D)} {n : Nat} (h : Kp a b n) (k : Kp b c n) : Kp a c n := ⟨k.1.trans h.1, fun j hj => (k.2 j hj).trans (h.2 j hj)⟩
theorem Box.mono {st : List (List D)} {n : Nat} {m m' : Int} (h : Box st n m) (k : m ≤ m') : Box st n m' := by
  obtain ⟨a, b, c, h1, h2, h3, h4, h5, h6⟩ := h
  exact ⟨a, b, c, h1, h2, h3, h4, h5, Int.le_trans h6 k⟩
def big : Int := 2 ^ 60
theorem big_eq : big = 1152921504606846976 := rfl
theorem g_mulA {st : List (List D)} {i j : Int} (h : (-(2 ^ 64) < i ∧ i < 2 ^ 64) ∨ (-(2 ^ 64) < j ∧ j < 2 ^ 64)) : gMul st [.int i, .int j] = .ok (.val (.int (i * j))) := by
  rw [g_mul1, if_pos (h.imp okM_iff.mpr okM_iff.mpr)]
theorem ex_sat {β : Type} {x : Res (M × List (List D))} (v : β → M) (Q : β → List (List D) → Prop) (h : x.Sat fun p => ∃ b, p.1 = v b ∧ Q b p.2) : ∃ b st', x = .ok (v b, st') ∧ Q b st' := by
  obtain ⟨⟨w, st'⟩, e, b, e2, q⟩ := Res.sat_iff.mp h
  simp only at e2
  subst e2
  exact ⟨b, st', e, q⟩
def TakeS (f : Fnl) : Prop := ∀ st n m b, Box st n m → m < big → 0 < b → b < 1000000000 → ∃ r st', f [.cell n, .int b] st = .ok (.val (.int r), st') ∧ 0 ≤ r ∧ r < b ∧ Box st' n (m + 1) ∧ Kp st st' n
theorem take_spec (J : Ix) (C : Cl) : TakeS (runF 6 (B__law_take J) C) := by
  intro st n m b h hm hb hb2
  refine ex_sat (fun r => .val (.int r)) (fun r st' => 0 ≤ r ∧ r < b ∧ Box st' n (m + 1) ∧ Kp st st' n) ?_
  rw [big_eq] at hm
  obtain ⟨a, s, c, hs, ha, h0, h1, hc, hcm⟩ := h
  have hl : n < st.length := (List.getElem?_eq_some_iff.mp hs).1
  have hbd : b < 1073741824 := by omega
  have hset : ∀ x, (st.set n x)[n]? = some x := fun x => List.getElem?_set_self hl
  by_cases hp : 0 < a
  · simp [B__law_take, hs, hp, hset, Ev.ixN]
    repeat (simp (disch := omega) only [g_mulA, g_div, g_mod]; simp [hs, hset, Ev.ixN, Res.sat_ok])
    exact ⟨Int.emod_nonneg _ (by omega), Int.emod_lt_of_pos _ hb, ⟨a / b, s, c, hset _, Int.ediv_nonneg ha (by omega), h0, h1, hc, by omega⟩, by simp [Kp], fun k hk => by simp [Ne.symm hk]⟩
  · simp [B__law_take, hs, hp, hset, Ev.ixN]
    repeat (simp (disch := omega) only [g_mulA, g_div, g_mod]; simp [hs, hset, Ev.ixN, Res.sat_ok])
    refine ⟨Int.emod_nonneg _ (by omega), Int.emod_lt_of_pos _ hb, ⟨a, s, c + 1, hset _, ha, h0, h1, by omega, by omega⟩, by simp, fun k hk => by simp [Ne.symm hk]⟩
/-- a list or a tuple of these -/
def IsSeq (d : D) (xs : List D) : Prop := d = .lst xs ∨ ∃ k, d = .tup k xs
def OfS (f : Fnl) : Prop := ∀ st n m d xs, Box st n m → m < big → IsSeq d xs → xs ≠ [] → xs.length < 1000000000 → ∃ x st', f [.cell n, d] st = .ok (.val x, st') ∧ x ∈ xs ∧ Box st' n (m + 1) ∧ Kp st st' n
theorem of_spec {J : Ix} {C : Cl} (hC : TakeS (C (J.fn "_law_take"))) : OfS (runF 2 (B__law_of J) C) := by
  intro st n m d xs h hm hd hx hl
  have hpos : 0 < xs.length := by
    cases xs with
    | nil => exact absurd rfl hx
    | cons _ _ => simp
  obtain ⟨r, st', hp, hr0, hr1, hb, hk⟩ := hC st n m xs.length h hm (by omega) (by omega)
  have hlt : r.toNat < xs.length := by omega
  have hix : atI xs r = some xs[r.toNat] := by
    rw [atI_pos hr0, List.getElem?_eq_getElem hlt]
  rcases hd with rfl | ⟨k, rfl⟩
  all_goals
    exact ⟨xs[r.toNat], st', by simp [B__law_of, hp, hix], List.getElem_mem hlt, hb, hk⟩
theorem erase_perm {α : Type} : ∀ {l : List α} {i : Nat} (h : i < l.length), (l[i] :: l.eraseIdx i).Perm l
  | a :: l, 0, _ => List.Perm.refl _
  | a :: l, i + 1, h => (List.Perm.swap a _ _).trans ((erase_perm (l := l) (i := i) (by simpa using h)).cons a)
theorem ixN_nat {n : Nat} {r : Int} (h : 0 ≤ r) (h2 : r < n) : Ev.ixN n r = some r.toNat := by
  unfold Ev.ixN
  rw [if_pos h, if_pos h2]
def PickS (f : Fnl) : Prop := ∀ st n m d xs (many : Int), Box st n m → m + xs.length < big → IsSeq d xs → xs.length < 100000 → -1000000 ≤ many → many < 1000000 →
  ∃ l st', f [.cell n, d, .int many] st = .ok (.own l, st') ∧ l.length = min many.toNat xs.length ∧ (∃ rest, (l ++ rest).Perm xs) ∧ Box st' n (m + l.length) ∧ Kp st st' n
theorem pick_spec {J : Ix} {C : Cl} (hC : TakeS (C (J.fn "_law_take"))) : PickS (runF 6 (B__law_pick J) C) := by
  intro st0 n m d xs many h hm hd hl hm1 hm2
  have hmin : okR (if (xs.length : Int) < many then (xs.length : Int) else many) = true := okR_of (by split <;> omega) (by split <;> omega)
  have hmn : (if (xs.length : Int) < many then (xs.length : Int) else many).toNat = min many.toNat xs.length := by split <;> omega
  refine ex_sat (fun l => .own l) (fun l st' => l.length = min many.toNat xs.length ∧ (∃ rest, (l ++ rest).Perm xs) ∧ Box st' n (m + l.length) ∧ Kp st0 st' n) ?_
  rcases hd with rfl | ⟨k, rfl⟩
  all_goals
    simp [B__law_pick, hmin, hmn, rngL_map, Res.sat_bind]
    refine for_sat _ _ (fun p s => ∃ l rest st, s = ⟨[_, _, _, some (.own rest), some (.own l), none], st⟩ ∧ l.length = p.length ∧ (l ++ rest).Perm xs ∧ Box st n (m + l.length) ∧ Kp st0 st n) ⟨[], xs, st0, rfl, rfl, by simp, by simpa using h, Kp.refl _ _⟩ ?_ ?_
    · rintro p x q s hpx ⟨l, rest, st, rfl, hli, hp, hb, hk⟩
      have hi' : p.length < min many.toNat xs.length := by
        have := congrArg List.length hpx
        simp at this
        omega
      have hlen := hp.length_eq
      rw [List.length_append] at hlen
      have hrp : 0 < rest.length := by omega
      obtain ⟨r, st', hpp, hr0, hr1, hb', hk'⟩ := hC st n (m + l.length) rest.length hb (by omega) (by omega) (by omega)
      have hlt : r.toNat < rest.length := by omega
      have hls : l.length < szL := by rw [szL_val]; omega
      have g1 : okP r = true := okP_of (by omega) (by omega)
      simp [hpp, g1, hls, ixN_nat hr0 hr1, List.getElem?_eq_getElem hlt, Res.sat_ok]
      refine ⟨_, _, _, ⟨⟨rfl, rfl⟩, rfl⟩, ?_, ?_, ?_, hk.trans hk'⟩
      · simp [hli]
      · refine List.Perm.trans ?_ hp
        rw [List.append_assoc]
        refine List.Perm.append_left l ?_
        exact erase_perm hlt
      · simpa [Int.add_assoc] using hb'
    · rintro s ⟨l, rest, st, rfl, hli, hp, hb, hk⟩
      simp at hli
      simp [Res.sat_ok]
      exact ⟨hli, ⟨_, hp⟩, hb, hk⟩
end Ev
set_option Elab.async false
set_option maxRecDepth 100000
set_option maxHeartbeats 1000000
namespace Ev
open PySem
/-- texts; ints; an update; a plan: as tupled makes them -/
def TS (ss : List Str) : D := .tup (!ss.isEmpty) (ss.map .str)
def TI (is : List Int) : D := .tup false (is.map .int)
def TU (u : List (List Str)) : D := .tup false (u.map TS)
def TP (fs : List Str) (us : List (List (List Str))) : D := .tup false [TS fs, .tup false (us.map TU)]
@[simp] theorem nS_TS (x : List Str) : nS (TS x) = true := rfl
@[simp] theorem nS_TI (x : List Int) : nS (TI x) = true := rfl
@[simp] theorem nS_TU (x : List (List Str)) : nS (TU x) = true := rfl
@[simp] theorem sHd_TS (ss : List (List Str)) : sHd (ss.map TS) = false := sHd_nS nS_TS ss
@[simp] theorem sHd_TI (ss : List (List Int)) : sHd (ss.map TI) = false := sHd_nS nS_TI ss
@[simp] theorem sHd_TU (ss : List (List (List Str))) : sHd (ss.map TU) = false := sHd_nS nS_TU ss
@[simp] theorem sHd_cTS {x : List Str} {r : List D} : sHd (TS x :: r) = false := rfl
@[simp] theorem sHd_cTI {x : List Int} {r : List D} : sHd (TI x :: r) = false := rfl
@[simp] theorem sHd_cTU {x : List (List Str)} {r : List D} : sHd (TU x :: r) = false := rfl
@[simp] theorem sHd_cTP {fs : List Str} {us : List (List (List Str))} {r : List D} : sHd (TP fs us :: r) = false := rfl
def unS : D → Str
  | .str s => s
  | _ => Str.empty
theorem perm_str {l rest : List D} {names : List Str} (h : (l ++ rest).Perm (names.map .str)) : ∃ fs rs : List Str, l = fs.map .str ∧ rest = rs.map .str ∧ (fs ++ rs).Perm names := by
  have hall : ∀ d ∈ l ++ rest, d = .str (unS d) := fun d hd => by
    have := h.subset hd
    obtain ⟨s, _, rfl⟩ := List.mem_map.mp this
    rfl
  have go : ∀ l' : List D, (∀ d ∈ l', d = .str (unS d)) → l' = (l'.map unS).map .str := by
    intro l'
    induction l' with
    | nil => intro _; rfl
    | cons d t ih =>
      intro k
      rw [List.map_cons, List.map_cons, ← ih fun d hd => k d (List.mem_cons_of_mem _ hd), ← k d List.mem_cons_self]
  refine ⟨l.map unS, rest.map unS, go l fun d hd => hall d (List.mem_append_left _ hd), go rest fun d hd => hall d (List.mem_append_right _ hd), ?_⟩
  have := h.map unS
  rw [List.map_append, List.map_map] at this
  refine this.trans ?_
  have e : (unS ∘ D.str : Str → Str) = id := rfl
  rw [e, List.map_id]
def names10 : List Str := ["a", "ab", "b", "c", "cert", "d", "e", "f", "key", "z"]
theorem names10_nd : names10.Nodup := by decide +kernel
/-- drawn files: ascending, of the ten names -/
structure FilesOk (fs : List Str) : Prop where
  nd : fs.Nodup
  sub : ∀ x ∈ fs, x ∈ names10
  pw : fs.Pairwise leS
def FilesS (f : Fnl) : Prop := ∀ st n m (many : Int), Box st n m → m + 20 < big → 0 ≤ many → many ≤ 10 → ∃ (fs : List Str) (st' : List (List D)), f [.cell n, .int many] st = .ok (.val (TS fs), st') ∧ fs.length = many.toNat ∧ FilesOk fs ∧ Box st' n (m + 10) ∧ Kp st st' n
theorem files_spec {J : Ix} {C : Cl} (hC : PickS (C (J.fn "_law_pick"))) : FilesS (runF 2 (B__law_files J) C) := by
  intro st n m many h hm h0 h1
  have hl10 : names10.length = 10 := rfl
  obtain ⟨l, st', hp0, hl, ⟨rest, hp⟩, hb, hk⟩ := hC st n m (.lst (names10.map .str)) (names10.map .str) many h (by simp [hl10]; omega) (.inl rfl) (by simp [hl10]) (by omega) (by omega)
  have e : ([D.str "a", D.str "ab", D.str "b", D.str "c", D.str "cert", D.str "d", D.str "e", D.str "f", D.str "key", D.str "z"] : List D) = names10.map .str := rfl
  obtain ⟨fs, rs, rfl, rfl, hp'⟩ := perm_str hp
  have hfl : fs.length = many.toNat := by simp [hl10] at hl; omega
  have hnd : (fs ++ rs).Nodup := hp'.nodup_iff.mpr names10_nd
  have hz : (10 : Nat) ≤ szL := by decide
  have sp := sortS_perm fs
  refine ⟨sortS fs, st', by simp [B__law_files, e, hp0, hl10, hz, g_sorted (show fs.length < 64 by omega), TS], by rw [sp.length_eq, hfl], ⟨sp.nodup_iff.mpr (List.nodup_append.mp hnd).1, fun x hx => hp'.subset (List.mem_append_left _ (sp.subset hx)), sortS_sorted fs⟩, hb.mono ?_, hk⟩
  simp
  omega
theorem eq_nil (st : List (List D)) (fs : List Str) : gEq true st [.lst (fs.map .str), .lst []] = .ok (.val (.bl (!fs.isEmpty))) := by
  have h1 : shp 20 (.lst (fs.map D.str)) = true := by
    unfold shp
    rw [List.all_map]
    exact List.all_eq_true.mpr fun x _ => rfl
  have h2 : shp 20 (.lst []) = true := rfl
  simp only [gEq, h1, h2, Bool.and_self, if_true, vB]
  cases fs <;> rfl
/-- an update's steps -/
structure UpdOk (fs : List Str) (u : List (List Str)) : Prop where
  sub : ∀ s ∈ u, ∀ x ∈ s, x ∈ fs
  nd : fs.Nodup → u.flatten.Nodup
  ne : ∀ s ∈ u, s ≠ []
  ne' : u ≠ []
  len : u.length ≤ fs.length
  srt : ∀ s ∈ u, s.Pairwise leS
def UpdS (f : Fnl) : Prop := ∀ st n m d (fs : List Str) (wh : Bool), Box st n m → m + 3 * fs.length + 3 < big → IsSeq d (fs.map .str) → fs ≠ [] → fs.length < 60 →
  ∃ (u : List (List Str)) (st' : List (List D)), f [.cell n, d, .bl wh] st = .ok (.val (TU u), st') ∧ UpdOk fs u ∧ (wh = true → u.flatten.length = fs.length) ∧ Box st' n (m + 2 * fs.length + 1) ∧ Kp st st' n
theorem ne_len {u : List (List Str)} (h : ∀ s ∈ u, s ≠ []) : u.length ≤ u.flatten.length := by
  induction u with
  | nil => simp
  | cons s u ih =>
    have := ih fun t ht => h t (List.mem_cons_of_mem _ ht)
    have hs : 0 < s.length := List.length_pos_iff.mpr (h s List.mem_cons_self)
    simp only [List.length_cons, List.flatten_cons, List.length_append]
    omega
theorem upd_spec {J : Ix} {C : Cl} (hT : TakeS (C (J.fn "_law_take"))) (hP : PickS (C (J.fn "_law_pick"))) (hO : OfS (C (J.fn "_law_of"))) : UpdS (runF 6 (B__law_update J) C) := by
  intro st0 n m d fs wh h hm hd hne hlen
  refine ex_sat (fun u => .val (TU u)) (fun u st' => UpdOk fs u ∧ (wh = true → u.flatten.length = fs.length) ∧ Box st' n (m + 2 * fs.length + 1) ∧ Kp st0 st' n) ?_
  have hpos : 0 < fs.length := List.length_pos_iff.mpr hne
  -- how many are picked
  obtain ⟨many, st1, hb1, hk1, h0, h1, hw, hrun⟩ : ∃ (many : Int) (st1 : List (List D)), Box st1 n (m + 1) ∧ Kp st0 st1 n ∧ 0 < many ∧ many ≤ fs.length ∧ (wh = true → many = fs.length) ∧
      iteF (varF 2) (opE gLen [varF 1]) (opE gAdd [cstF (.int 1), callF (J.fn "_law_take") [varF 0, opE gLen [varF 1]]]) C ⟨[some (.val (.cell n)), some (.val d), some (.val (.bl wh)), none, none, none], st0⟩ = .ok (.val (.int many), ⟨[some (.val (.cell n)), some (.val d), some (.val (.bl wh)), none, none, none], st1⟩) := by
    cases wh with
    | true =>
      refine ⟨fs.length, st0, h.mono (by omega), Kp.refl _ _, by omega, by omega, fun _ => rfl, ?_⟩
      rcases hd with rfl | ⟨kk, rfl⟩ <;> simp
    | false =>
      obtain ⟨r, st', hp, h0, h1, hb, hk⟩ := hT st0 n m fs.length h (by omega) (by omega) (by omega)
      refine ⟨1 + r, st', hb, hk, by omega, by omega, (fun e => by cases e), ?_⟩
      rcases hd with rfl | ⟨kk, rfl⟩ <;> simp [hp]
  obtain ⟨l, st2, hp2, hl, ⟨rest, hperm⟩, hb2, hk2⟩ := hP st1 n (m + 1) d (fs.map .str) many hb1 (by simp; omega) hd (by simp; omega) (by omega) (by omega)
  obtain ⟨l, rs, rfl, rfl, hpm⟩ := perm_str hperm
  clear hperm
  simp only [List.length_map] at hl hb2
  have hll : l.length = many.toNat := by omega
  have hl0 : l ≠ [] := fun e => by
    rw [e] at hll
    simp at hll
    omega
  have hz5 : (5 : Nat) ≤ szL := by decide
  refine run_sat ?_
  unfold B__law_update
  refine seq_sat ?_
  simp [-x_iteF, hrun, hp2, Res.sat_ok]
  rw [Res.sat_bind]
  refine while_sat (fun k s => ∃ (u : List (List Str)) (r : List Str) (st' : List (List D)), s = ⟨[some (.val (.cell n)), some (.val d), some (.val (.bl wh)), some (.val (.lst (r.map .str))), some (.own (u.map TS)), none], st'⟩ ∧ r.length = k ∧ (u.flatten ++ r).Perm l ∧ (∀ s ∈ u, s ≠ [] ∧ s.Pairwise leS) ∧ Box st' n (m + 1 + l.length + u.length) ∧ Kp st0 st' n) ?_ 1000 l.length _ (by omega) ⟨[], l, st2, rfl, rfl, by simp, by simp, by simpa using hb2, hk1.trans hk2⟩
  rintro k s ⟨u, r, st', rfl, hrk, hpu, hnn, hb', hk'⟩
  have hul : u.length + r.length ≤ l.length := by
    have h1 := hpu.length_eq
    rw [List.length_append] at h1
    have := ne_len fun s hs => (hnn s hs).1
    omega
  have huz : u.length < szL := by rw [szL_val]; omega
  by_cases hr0 : r = []
  · subst hr0
    have e0 := eq_nil st' []
    simp at e0
    simp [e0, Res.sat_ok]
    simp only [List.append_nil] at hpu
    refine ⟨u, rfl, ⟨fun s hs x hx => ?_, fun hnd => ?_, fun s hs => (hnn s hs).1, fun e => ?_, by omega, fun s hs => (hnn s hs).2⟩, fun hw' => ?_, hb'.mono (by omega), hk'⟩
    · exact hpm.subset (List.mem_append_left _ (hpu.subset (List.mem_flatten.mpr ⟨s, hs, hx⟩)))
    · exact hpu.nodup_iff.mpr (List.nodup_append.mp (hpm.nodup_iff.mpr hnd)).1
    · subst e
      have := hpu.length_eq
      simp at this
      exact hl0 (List.length_eq_zero_iff.mp this.symm)
    · rw [← List.length_flatten, hpu.length_eq, hll]
      have := hw hw'
      omega
  · have hrp : 0 < r.length := List.length_pos_iff.mpr hr0
    obtain ⟨x, st3, hp3, hx, hb3, hk3⟩ := hO st' n (m + 1 + l.length + u.length) (.lst [.int 1, .int 1, .int 1, .int 1, .int 2]) _ hb' (by omega) (.inl rfl) (by simp) (by simp)
    obtain ⟨j, hj, rfl⟩ : ∃ j : Nat, (j = 1 ∨ j = 2) ∧ x = .int (j : Int) := by
      simp at hx
      rcases hx with rfl | rfl
      · exact ⟨1, .inl rfl, rfl⟩
      · exact ⟨2, .inr rfl, rfl⟩
    have hs64 : (r.take j).length < 64 := by rw [List.length_take]; omega
    simp [eq_nil, hr0, hz5, hp3, Res.sat_ok, cut_take, cut_drop, ← List.map_take, ← List.map_drop, g_sorted hs64, huz]
    have sp := sortS_perm (r.take j)
    refine ⟨r.length - j, by omega, u ++ [sortS (r.take j)], r.drop j, st3, ⟨⟨rfl, by simp [TS]⟩, rfl⟩, by simp, ?_, ?_, hb3.mono ?_, hk'.trans hk3⟩
    · refine List.Perm.trans ?_ hpu
      rw [List.flatten_append, List.append_assoc]
      refine List.Perm.append_left _ ?_
      have : (r.take j ++ r.drop j).Perm r := by rw [List.take_append_drop]
      refine List.Perm.trans ?_ this
      have e : [sortS (r.take j)].flatten = sortS (r.take j) := by simp
      rw [e]
      exact List.Perm.append_right _ sp
    · intro s hs
      rcases List.mem_append.mp hs with q | q
      · exact hnn s q
      · rw [List.mem_singleton.mp q]
        refine ⟨fun e => ?_, sortS_sorted _⟩
        have h1 := sp.length_eq
        rw [e, List.length_take] at h1
        simp only [List.length_nil] at h1
        omega
    · simp
      omega
end Ev
set_option Elab.async false
set_option maxRecDepth 100000
set_option maxHeartbeats 1000000
namespace Ev
open PySem
theorem eq_int {st : List (List D)} {i j : Int} {n : Bool} : gEq n st [.int i, .int j] = .ok (.val (.bl (if n then !decide (i = j) else decide (i = j)))) := by
  cases n <;> (simp [gEq, shp, eqD, vB]; try rfl)
def PlanDS (f : Fnl) : Prop := ∀ st n m (fs : List Str) (many : Int), Box st n m → m + 200 * (many + 1) < big → fs ≠ [] → fs.length < 60 → 0 ≤ many → many < 1000 →
  ∃ (us : List (List (List Str))) (st' : List (List D)), f [.cell n, TS fs, .int many] st = .ok (.val (TP fs us), st') ∧ us.length = many.toNat ∧ (∀ u ∈ us, UpdOk fs u) ∧ Box st' n (m + 200 * many) ∧ Kp st st' n
theorem plan_spec {J : Ix} {C : Cl} (hT : TakeS (C (J.fn "_law_take"))) (hU : UpdS (C (J.fn "_law_update"))) : PlanDS (runF 4 (B__law_plan J) C) := by
  intro st0 n m fs many h hm hne hlen h0 h1
  refine ex_sat (fun us => .val (TP fs us)) (fun us st' => us.length = many.toNat ∧ (∀ u ∈ us, UpdOk fs u) ∧ Box st' n (m + 200 * many) ∧ Kp st0 st' n) ?_
  have g : okR many = true := okR_of (by omega) (by omega)
  have z2 : (2 : Nat) ≤ szL := by decide
  simp [B__law_plan, Res.sat_bind]
  refine lc_sat (List.range many.toNat) (fun (k : Nat) => D.int (0 + k)) (fun p acc st => ∃ us : List (List (List Str)), acc = us.map TU ∧ us.length = p.length ∧ (∀ u ∈ us, UpdOk fs u) ∧ Box st n (m + 200 * p.length) ∧ Kp st0 st n) (by simp [g, rngL_map]; rfl) (by simp) ⟨[], rfl, rfl, by simp, by simpa using h, Kp.refl _ _⟩ ?_ ?_
  · rintro p x q acc st hp ⟨us, rfl, hl, hu, hb, hk⟩
    have hp' : p.length < many.toNat := by
      have := congrArg List.length hp
      simp at this
      omega
    obtain ⟨r, st2, e1, hr0, hr1, hb2, hk2⟩ := hT st n _ 2 hb (by omega) (by omega) (by omega)
    obtain ⟨u, st3, e2, ok, _, hb3, hk3⟩ := hU st2 n _ (TS fs) fs (decide (r = 0)) hb2 (by omega) (.inr ⟨_, rfl⟩) hne hlen
    have hz : us.length < szL := by rw [szL_val]; omega
    simp [e1, eq_int, e2, hz, Res.sat_ok]
    refine ⟨us ++ [u], by simp, by simp [hl], fun x hx => ?_, hb3.mono (by omega), (hk.trans hk2).trans hk3⟩
    rcases List.mem_append.mp hx with q | q
    · exact hu x q
    · rw [List.mem_singleton.mp q]
      exact ok
  · rintro acc st ⟨us, rfl, hl, hu, hb, hk⟩
    simp at hl hb
    simp [z2, Res.sat_ok]
    exact ⟨us, rfl, hl, hu, hb.mono (by omega), hk⟩
def BoxS (f : Fnl) : Prop := ∀ st (is : List Int) (k : Int), 0 ≤ k → k < is.length → is.length < 100 → ∃ a s : Int, f [.lst (is.map .int), .int k] st = .ok (.own [.int a, .int s, .int 0], st) ∧ 0 ≤ a ∧ 0 ≤ s ∧ s < 2 ^ 62
theorem gPow_i {st : List (List D)} : gPow st [.int 10, .int 18] = .ok (.val (.int (10 ^ 18))) := by
  simp only [gPow, vI]
  rw [if_pos (by decide)]
  rfl
theorem box_spec (J : Ix) (C : Cl) : BoxS (runF 3 (B__law_box J) C) := by
  intro st is k h0 h1 h2
  have hk : k.toNat < is.length := by omega
  have hx : ∀ x : Int, ∃ a : Int, 0 ≤ a ∧ ∀ st', gMul st' [.int (if x < 0 then -x else x), .int (if (10 : Int) ^ 18 ≤ (if x < 0 then -x else x) then 1 else 0)] = .ok (.val (.int a)) := fun x => by
    refine ⟨(if x < 0 then -x else x) * (if (10 : Int) ^ 18 ≤ (if x < 0 then -x else x) then 1 else 0), ?_, fun st' => g_mulA (.inr ?_)⟩
    · have h3 : 0 ≤ (if x < 0 then -x else x) := by split <;> omega
      by_cases h4 : (10 : Int) ^ 18 ≤ (if x < 0 then -x else x)
      · rw [if_pos h4]; omega
      · rw [if_neg h4]; omega
    · by_cases h4 : (10 : Int) ^ 18 ≤ (if x < 0 then -x else x)
      · rw [if_pos h4]; decide
      · rw [if_neg h4]; decide
  obtain ⟨a, ha, hm⟩ := hx is[k.toNat]
  have g1 : ∀ st', gMul st' [.int 39373, .int k] = .ok (.val (.int (39373 * k))) := fun st' => g_mulA (.inl (by decide))
  have g2 : ∀ st' (x : Int), gMod st' [.int x, .int 2305843009213693951] = .ok (.val (.int (x % 2305843009213693951))) := fun st' x => g_mod (by decide)
  have g3 : (3 : Nat) ≤ szL := by decide
  refine ⟨a, is[k.toNat] % 2305843009213693951 + 39373 * k + 227, ?_, ha, by omega, by omega⟩
  simp [B__law_box, h0, h1, gPow_i, g1, g2, g3, atI_pos h0, List.getElem?_eq_getElem hk]
  simp at hm
  simp [hm, g1, g2, g3]
def CellsS (f : Fnl) : Prop := ∀ st (ns : List Int) (most : Int), ns.length ≤ 63 → 1 ≤ most → most ≤ 10 → ∃ (is : List Int), f [.scr ns, .int most] st = .ok (.own (is.map .int), st) ∧ 1 ≤ is.length ∧ is.length ≤ most
theorem cells_spec (J : Ix) (C : Cl) : CellsS (runF 6 (B__law_cells J) C) := by
  intro st ns most hn h1 h2
  suffices h : (runF 6 (B__law_cells J) C [.scr ns, .int most] st).Sat fun p => p.2 = st ∧ ∃ is : List Int, p.1 = .own (is.map .int) ∧ 1 ≤ is.length ∧ is.length ≤ most by
    obtain ⟨⟨v, st'⟩, e, e2, is, e3, h5⟩ := Res.sat_iff.mp h
    simp only at e2 e3
    subst e2 e3
    exact ⟨is, e, h5⟩
  obtain ⟨mo, rfl⟩ : ∃ mo : Nat, most = mo := ⟨most.toNat, by omega⟩
  have hmo : 1 ≤ mo ∧ mo ≤ 10 := by omega
  have c1 : cutD (ns.map .int) none (some (mo : Int)) = (ns.take mo).map .int := by rw [cut_take, List.map_take]
  have c2 : cutD (ns.map .int) (some (mo : Int)) (some 63) = (ns.drop mo).map .int := by
    rw [show (63 : Int) = ((63 : Nat) : Int) from rfl, cut_mid, List.take_of_length_le (by simpa using hn), List.map_drop]
  have g1 : (1 : Nat) ≤ szL := by decide
  have main : ∀ is : List Int, 1 ≤ is.length → is.length ≤ mo → (ns.drop mo ≠ [] → is.length = mo) →
      (forGo (.tp [.nm 3, .nm 4]) (seqF (asgF (.nm 5) (opE gMod [opE gInt [varF 3], varF 1])) (seqF (setIxF 2 (varF 5) (opE gAdd [opE gIx [varF 2, varF 5], opE gMul [varF 4, opE gAdd [varF 3, cstF (.int 2)]]])) nxF)) C [some (.val (.scr ns)), some (.val (.int mo)), some (.own (is.map .int)), none, none, none] (enumL 0 ((ns.drop mo).map .int))
        ⟨[some (.val (.scr ns)), some (.val (.int mo)), some (.own (is.map .int)), none, none, none], st⟩).Sat fun p => ∃ (is' : List Int), p = (.nx, ⟨[some (.val (.scr ns)), some (.val (.int mo)), some (.own (is'.map .int)), none, none, none], st⟩) ∧ is'.length = is.length := by
    intro is l1 l2 l3
    rw [enumL_map]
    refine for_sat _ _ (fun _ s => ∃ (is' : List Int), s = ⟨[some (.val (.scr ns)), some (.val (.int mo)), some (.own (is'.map .int)), none, none, none], st⟩ ∧ is'.length = is.length) ⟨is, rfl, rfl⟩ ?_ ?_
    · rintro p ⟨x, i⟩ q s hp ⟨is', rfl, hl⟩
      have hne : ns.drop mo ≠ [] := fun e => by rw [e] at hp; simp at hp
      have hlm : is'.length = mo := by rw [hl]; exact l3 hne
      have hii : i < 63 := by
        have hm : (x, i) ∈ (ns.drop mo).zipIdx := by rw [hp]; simp
        have := (List.mem_zipIdx hm).2.1
        simp at this
        omega
      have r0 : 0 ≤ (i : Int) % (mo : Int) := Int.emod_nonneg _ (by omega)
      have r1 : (i : Int) % (mo : Int) < mo := Int.emod_lt_of_pos _ (by omega)
      have r2 : ((i : Int) % (mo : Int)).toNat < is'.length := by omega
      have e1 : ∀ st', gMod st' [.int (i : Int), .int (mo : Int)] = .ok (.val (.int ((i : Int) % (mo : Int)))) := fun st' => g_mod (by omega)
      have e2 : ∀ st' (x : Int), gMul st' [.int x, .int ((i : Int) + 2)] = .ok (.val (.int (x * ((i : Int) + 2)))) := fun st' x => g_mulA (.inr (by omega))
      have e3 : Ev.ixN mo ((i : Int) % (mo : Int)) = some ((i : Int) % (mo : Int)).toNat := ixN_nat r0 (by omega)
      simp [e1, e2, e3, atI_map, atI_pos r0, List.getElem?_eq_getElem r2, hlm, Res.sat_ok]
      exact ⟨is'.set _ _, by rw [List.map_set], by simp [hl]⟩
    · rintro s ⟨is', rfl, hl⟩
      exact ⟨is', rfl, hl⟩
  by_cases hns : ns = []
  · have k := main [0] (by simp) (by simp; omega) (fun h => by simp [hns] at h)
    subst hns
    simp only [List.drop_nil, List.map_nil, List.map_cons] at k
    have c0 : ∀ lo hi, cutD ([] : List D) lo hi = [] := fun lo hi => by simp [cutD]
    simp [B__law_cells, slD, c0, g1, Res.sat_bind]
    refine k.mono ?_
    rintro _ ⟨is', rfl, hl⟩
    simp at hl
    simp [Res.sat_ok]
    exact ⟨is', rfl, by omega, by omega⟩
  · have hmo0 : mo ≠ 0 := by omega
    have hp : 0 < ns.length := List.length_pos_iff.mpr hns
    have k := main (ns.take mo) (by rw [List.length_take]; omega) (by rw [List.length_take]; omega) (fun h => by
      rw [List.length_take]
      have : mo < ns.length := by
        rcases Nat.lt_or_ge mo ns.length with q | q
        · exact q
        · exact absurd (List.drop_eq_nil_of_le q) h
      omega)
    simp [B__law_cells, slD, c1, c2, hns, hmo0, Res.sat_bind]
    rw [List.map_drop, List.map_take] at k
    refine k.mono ?_
    rintro _ ⟨is', rfl, hl⟩
    simp at hl
    simp [Res.sat_ok]
    exact ⟨is', rfl, by omega, by omega⟩
end Ev
set_option Elab.async false
set_option maxRecDepth 100000
set_option maxHeartbeats 1000000
namespace Ev
open PySem
def RightS (f : Fnl) (B : Int) : Prop := ∀ st n m, Box st n m → m + B < big → ∃ st', f [.cell n] st = .ok (.val (.bl true), st') ∧ Box st' n (m + B) ∧ Kp st st' n
def lawA (J : Ix) (K : Int) : SS :=
 (seqF (asgF (.nm 1) (callF (J.fn "_law_cells") [varF 0, cstF (.int K)]))
 (seqF (forF (.nm 2) (rng1F (opE gLen [varF 1]))
 (seqF (ifF (notF (callF (J.fn "_law_right") [cellF (callF (J.fn "_law_box") [varF 1, varF 2])]))
 (seqF (retF (cstF (.bl false)))
 (nxF))
 (nxF))
 (nxF)))
 (seqF (retF (cstF (.bl true)))
 (nxF))))
def lawB (J : Ix) (K : Int) : SS :=
 (seqF (asgF (.nm 1) (callF (J.fn "_law_cells") [varF 0, cstF (.int K)]))
 (seqF (retF (opE gAll [lcF [2] (.nm 2) (rng1F (opE gLen [varF 1])) [] (callF (J.fn "_law_right") [cellF (callF (J.fn "_law_box") [varF 1, varF 2])])]))
 (nxF)))
def lawC (J : Ix) (K m : Int) : SS :=
 (seqF (asgF (.nm 1) (callF (J.fn "_law_cells") [varF 0, cstF (.int K)]))
 (seqF (forF (.nm 2) (rng1F (opE gLen [varF 1]))
 (seqF (asgF (.nm 3) (cellF (callF (J.fn "_law_box") [varF 1, varF 2])))
 (seqF (ifF (notF (opE gAll [lcF [4] (.nm 4) (rng1F (cstF (.int m))) [] (callF (J.fn "_law_right") [varF 3])]))
 (seqF (retF (cstF (.bl false)))
 (nxF))
 (nxF))
 (nxF))))
 (seqF (retF (cstF (.bl true)))
 (nxF))))
theorem sat_true {x : Res (M × List (List D))} (h : x.Sat fun p => p.1 = .val (.bl true)) : ∃ st', x = .ok (.val (.bl true), st') := by
  obtain ⟨⟨v, st⟩, e1, e2⟩ := Res.sat_iff.mp h
  simp only at e2
  subst e2
  exact ⟨st, e1⟩
section
variable {J : Ix} {C : Cl} {K B : Int} (hc : CellsS (C (J.fn "_law_cells"))) (hb : BoxS (C (J.fn "_law_box"))) (hr : RightS (C (J.fn "_law_right")) B)
include hb hr in
theorem right1 (hB : B < big) (st : List (List D)) (is : List Int) (i : Nat) (hi : i < is.length) (hl : is.length < 100) : ∃ a s : Int, C (J.fn "_law_box") [.lst (is.map .int), .int (i : Int)] st = .ok (.own [.int a, .int s, .int 0], st) ∧
    ∃ st2, C (J.fn "_law_right") [.cell st.length] (st ++ [[.int a, .int s, .int 0]]) = .ok (.val (.bl true), st2) := by
  obtain ⟨a, z, hbx, ha, hz0, hz1⟩ := hb st is i (by omega) (by omega) hl
  have hbox : Box (st ++ [[.int a, .int z, .int 0]]) st.length 0 := ⟨a, z, 0, by simp, ha, hz0, hz1, by omega, by omega⟩
  obtain ⟨st2, e1, _⟩ := hr _ _ 0 hbox (by omega)
  exact ⟨a, z, hbx, st2, e1⟩
include hc hb hr in
theorem lawA_ok (k0 : 1 ≤ K) (k1 : K ≤ 10) (hB : B < big) (ns : List Int) (hn : ns.length ≤ 63) : ∃ st', runF 3 (lawA J K) C [.scr ns] [] = .ok (.val (.bl true), st') := by
  refine sat_true ?_
  obtain ⟨is, e1, l1, l2⟩ := hc [] ns K hn k0 k1
  have g : okR (is.length : Int) = true := okR_nat (by omega)
  simp [lawA, e1, g, rngL_map, Res.sat_bind]
  refine for_sat _ _ (fun p s => ∃ st, s = ⟨[_, _, none], st⟩) ⟨_, rfl⟩ ?_ ?_
  · rintro p i q s hp ⟨st, rfl⟩
    have hi : i < is.length := by
      have : i ∈ List.range is.length := by rw [hp]; simp
      exact List.mem_range.mp this
    obtain ⟨a, z, h1, st2, h2⟩ := right1 hb hr hB st is i hi (by omega)
    simp [h1, h2, Res.sat_ok]
  · rintro s ⟨st, rfl⟩
    simp [Res.sat_ok]
include hc hb hr in
theorem lawB_ok (k0 : 1 ≤ K) (k1 : K ≤ 10) (hB : B < big) (ns : List Int) (hn : ns.length ≤ 63) : ∃ st', runF 3 (lawB J K) C [.scr ns] [] = .ok (.val (.bl true), st') := by
  refine sat_true ?_
  obtain ⟨is, e1, l1, l2⟩ := hc [] ns K hn k0 k1
  have g : okR (is.length : Int) = true := okR_nat (by omega)
  simp [lawB, e1, g, Res.sat_bind]
  refine lc_sat (List.range is.length) (fun (k : Nat) => D.int (0 + k)) (fun p acc st => acc = (p.map fun _ => true).map D.bl) (by simp [g, rngL_map]; rfl) (by simp) (by simp) ?_ ?_
  · rintro p i q acc st hp rfl
    have hi : i < is.length := by
      have : i ∈ List.range is.length := by rw [hp]; simp
      exact List.mem_range.mp this
    have hpl : p.length < 100 := by
      have := congrArg List.length hp
      simp at this
      omega
    have hz : p.length < szL := by rw [szL_val]; omega
    obtain ⟨a, z, h1, st2, h2⟩ := right1 hb hr hB st is i hi (by omega)
    simp only [List.map_map] 
    simp [h1, h2, hz, Res.sat_ok]
  · rintro acc st rfl
    simp only [Res.sat_ok, q_opd2, q_pks, q_pk1, q_pks0, Res.bind_ok, g_all, Res.sat_bind]
    simp [Res.sat_ok]
include hc hb hr in
theorem lawC_ok {m : Int} (m0 : 0 ≤ m) (m1 : m ≤ 100) (k0 : 1 ≤ K) (k1 : K ≤ 10) (hB : 100 * B < big) (hB0 : 0 ≤ B) (ns : List Int) (hn : ns.length ≤ 63) : ∃ st', runF 5 (lawC J K m) C [.scr ns] [] = .ok (.val (.bl true), st') := by
  refine sat_true ?_
  obtain ⟨is, e1, l1, l2⟩ := hc [] ns K hn k0 k1
  have g : okR (is.length : Int) = true := okR_nat (by omega)
  have g2 : okR m = true := okR_of (by omega) (by omega)
  simp [lawC, e1, g, rngL_map, Res.sat_bind]
  refine for_sat _ _ (fun p s => ∃ st, s = ⟨[_, _, none, none, none], st⟩) ⟨_, rfl⟩ ?_ ?_
  · rintro p i q s hp ⟨st, rfl⟩
    have hi : i < is.length := by
      have : i ∈ List.range is.length := by rw [hp]; simp
      exact List.mem_range.mp this
    obtain ⟨a, z, hbx, ha, hz0, hz1⟩ := hb st is i (by omega) (by omega) (by omega)
    have hbox : Box (st ++ [[.int a, .int z, .int 0]]) st.length 0 := ⟨a, z, 0, by simp, ha, hz0, hz1, by omega, by omega⟩
    simp [hbx, Res.sat_bind, Res.sat_ok]
    refine lc_sat (List.range m.toNat) (fun (k : Nat) => D.int (0 + k)) (fun p acc st' => acc = (p.map fun _ => true).map D.bl ∧ Box st' st.length (p.length * B)) (by simp [g2, rngL_map]; rfl) (by simp) ⟨rfl, by simpa using hbox⟩ ?_ ?_
    · rintro p i q acc st' hp ⟨rfl, hb1⟩
      have hpl : p.length < m.toNat := by
        have := congrArg List.length hp
        simp at this
        omega
      have hz : p.length < szL := by rw [szL_val]; omega
      have hpB : (p.length : Int) * B + B ≤ 100 * B := by
        have : ((p.length : Int) + 1) * B ≤ 100 * B := Int.mul_le_mul_of_nonneg_right (by omega) hB0
        rw [Int.add_mul] at this
        omega
      obtain ⟨st2, e1, hb2, _⟩ := hr _ _ _ hb1 (by omega)
      simp [e1, hz, Res.sat_ok]
      refine hb2.mono (Int.le_of_eq ?_)
      rw [Int.add_mul]
      omega
    · rintro acc st' ⟨rfl, hb1⟩
      simp only [Res.sat_ok, q_opd2, q_pks, q_pk1, q_pks0, Res.bind_ok, g_all, Res.sat_bind]
      simp [Res.sat_ok]
  · rintro s ⟨st, rfl⟩
    simp [Res.sat_ok]
end
end Ev
set_option Elab.async false
set_option maxRecDepth 100000
set_option maxHeartbeats 1000000
namespace Ev
open PySem
mutual
/-- what tupled makes of data -/
def nrm : D → D
  | .lst ds => .tup (sHd (nrms ds)) (nrms ds)
  | .tup _ ds => .tup (sHd (nrms ds)) (nrms ds)
  | d => d
def nrms : List D → List D
  | [] => []
  | d :: ds => nrm d :: nrms ds
end
theorem nrms_map : ∀ ds : List D, nrms ds = ds.map nrm
  | [] => rfl
  | d :: ds => by
    unfold nrms
    rw [nrms_map ds, List.map_cons]
theorem nrm_lst (ds : List D) : nrm (.lst ds) = .tup (sHd (ds.map nrm)) (ds.map nrm) := by rw [← nrms_map]; unfold nrm; rfl
theorem nrm_tup (k : Bool) (ds : List D) : nrm (.tup k ds) = .tup (sHd (ds.map nrm)) (ds.map nrm) := by rw [← nrms_map]; unfold nrm; rfl
@[simp] theorem nrm_str (s : Str) : nrm (.str s) = .str s := by unfold nrm; rfl
@[simp] theorem nrm_int (s : Int) : nrm (.int s) = .int s := by unfold nrm; rfl
/-- data of at most n levels, of no great length -/
def dOk : Nat → D → Bool
  | _, .non => true
  | _, .bl _ => true
  | _, .int _ => true
  | _, .str _ => true
  | n + 1, .lst ds => Nat.ble ds.length 100000 && ds.all (dOk n)
  | n + 1, .tup _ ds => Nat.ble ds.length 100000 && ds.all (dOk n)
  | _, _ => false
/-- tupled, n levels deep -/
def TupledS (f : Fnl) (n : Nat) : Prop := ∀ st d, dOk n d = true → f [d] st = .ok (.val (nrm d), st)
theorem g_isi {st : List (List D)} {ts : List String} {d : D} (h : plainD d = true) : gIsi ts st [d] = .ok (.val (.bl (ts.any (isT d)))) := by
  simp only [gIsi, h, if_true, vB]
theorem tupled_step {J : Ix} {C : Cl} {n : Nat} (hC : ∀ m, m < n → TupledS (C (J.fn "tupled")) m) : TupledS (runF 2 (B_tupled J) C) n := by
  intro st d hd
  have flat : ∀ d : D, plainD d = true → isT d "list" = false → isT d "tuple" = false → nrm d = d → runF 2 (B_tupled J) C [d] st = .ok (.val (nrm d), st) := fun d h1 h2 h3 h4 => by
    simp [B_tupled, g_isi h1, h2, h3, h4]
  have seq : ∀ (d : D) (ds : List D), itemsOf st d = .ok ds → plainD d = true → (isT d "list" || isT d "tuple") = true → (∀ x ∈ ds, ∃ m, m < n ∧ dOk m x = true) → ds.length ≤ 100000 → nrm d = .tup (sHd (ds.map nrm)) (ds.map nrm) → runF 2 (B_tupled J) C [d] st = .ok (.val (nrm d), st) := by
    intro d ds hit h2 h3 h4 h5 h6
    simp at h3
    have hl := lc_map (vs := [1]) (tg := .nm 1) (it := itF (varF 0)) (el := callF (J.fn "tupled") [varF 1]) (C := C) (s := ⟨[some (.val d), none], st⟩) (s1 := ⟨[some (.val d), none], st⟩) ds id nrm (by simp [hit]) (by rw [szL_val]; omega) (by simp) (fun x hx => by
      obtain ⟨m, hm, hk⟩ := h4 x hx
      simp [hC m hm st x hk])
    simp [B_tupled, g_isi h2, h3, hl, h6]
  cases d with
  | non => exact flat _ rfl rfl rfl (by unfold nrm; rfl)
  | bl b => exact flat _ rfl rfl rfl (by unfold nrm; rfl)
  | int i => exact flat _ rfl rfl rfl (by unfold nrm; rfl)
  | str s => exact flat _ rfl rfl rfl (by unfold nrm; rfl)
  | lst ds =>
    cases n with
    | zero => cases hd
    | succ n =>
      simp only [dOk, Bool.and_eq_true, List.all_eq_true, Nat.ble_eq] at hd
      exact seq _ ds rfl rfl rfl (fun x hx => ⟨n, Nat.lt_succ_self _, hd.2 x hx⟩) hd.1 (nrm_lst ds)
  | tup k ds =>
    cases n with
    | zero => cases hd
    | succ n =>
      simp only [dOk, Bool.and_eq_true, List.all_eq_true, Nat.ble_eq] at hd
      exact seq _ ds rfl rfl rfl (fun x hx => ⟨n, Nat.lt_succ_self _, hd.2 x hx⟩) hd.1 (nrm_tup k ds)
  | dic _ => cases n <;> cases hd
  | ins _ _ => cases n <;> cases hd
  | cell _ => cases n <;> cases hd
  | scr _ => cases n <;> cases hd
/-- data of a plan, lists for tuples allowed -/
structure IsPl (d : D) (fs : List Str) (us : List (List (List Str))) : Prop where
  ok : dOk 5 d = true
  eq : nrm d = TP fs us
theorem nrm_TS (s : List Str) : nrm (TS s) = TS s := by
  unfold TS
  rw [nrm_tup, List.map_map]
  have e : (nrm ∘ D.str : Str → D) = D.str := funext nrm_str
  rw [e, sHd_str]
theorem nrm_TI (s : List Int) : nrm (TI s) = TI s := by
  unfold TI
  rw [nrm_tup, List.map_map]
  have e : (nrm ∘ D.int : Int → D) = D.int := funext nrm_int
  rw [e, sHd_int]
theorem nrm_TU (s : List (List Str)) : nrm (TU s) = TU s := by
  unfold TU
  rw [nrm_tup, List.map_map]
  have e : (nrm ∘ TS : List Str → D) = TS := funext nrm_TS
  rw [e, sHd_TS]
theorem nrm_TP (fs : List Str) (us : List (List (List Str))) : nrm (TP fs us) = TP fs us := by
  unfold TP
  rw [nrm_tup, List.map_cons, List.map_cons, List.map_nil, nrm_TS, nrm_tup, List.map_map]
  have e : (nrm ∘ TU : List (List Str) → D) = TU := funext nrm_TU
  rw [e, sHd_TU]
  rfl
/-- sizes of a plan -/
structure PlOk (fs : List Str) (us : List (List (List Str))) : Prop where
  fl : fs.length ≤ 1000
  ul : us.length ≤ 1000
  sl : ∀ u ∈ us, u.length ≤ 1000
  tl : ∀ u ∈ us, ∀ s ∈ u, s.length ≤ 1000
theorem dOk_TS {n : Nat} {s : List Str} (h : s.length ≤ 100000) : dOk (n + 1) (TS s) = true := by
  unfold TS
  simp only [dOk, Bool.and_eq_true, List.all_eq_true, Nat.ble_eq, List.length_map]
  refine ⟨h, fun x hx => ?_⟩
  obtain ⟨y, _, rfl⟩ := List.mem_map.mp hx
  cases n <;> rfl
theorem dOk_TI {n : Nat} {s : List Int} (h : s.length ≤ 100000) : dOk (n + 1) (TI s) = true := by
  unfold TI
  simp only [dOk, Bool.and_eq_true, List.all_eq_true, Nat.ble_eq, List.length_map]
  refine ⟨h, fun x hx => ?_⟩
  obtain ⟨y, _, rfl⟩ := List.mem_map.mp hx
  cases n <;> rfl
theorem isPl_TP {fs : List Str} {us : List (List (List Str))} (h : PlOk fs us) : IsPl (TP fs us) fs us := by
  refine ⟨?_, nrm_TP fs us⟩
  unfold TP
  simp only [dOk, Bool.and_eq_true, List.all_eq_true, Nat.ble_eq, List.length_cons, List.length_nil, List.mem_cons, List.not_mem_nil, or_false, forall_eq_or_imp, forall_eq, List.length_map, List.mem_map, forall_exists_index, and_imp, forall_apply_eq_imp_iff₂]
  refine ⟨by omega, dOk_TS (by have := h.fl; omega), by have := h.ul; omega, fun u hu => ?_⟩
  unfold TU
  simp only [dOk, Bool.and_eq_true, List.all_eq_true, Nat.ble_eq, List.length_map, List.mem_map, forall_exists_index, and_imp, forall_apply_eq_imp_iff₂]
  exact ⟨by have := h.sl u hu; omega, fun s hs => dOk_TS (by have := h.tl u hu s hs; omega)⟩
/-- the steps, each with its update's number -/
def stepsOf : Int → List (List (List Str)) → List (Int × List Str)
  | _, [] => []
  | k, u :: us => u.map (fun s => (k, s)) ++ stepsOf (k + 1) us
/-- the version of a file behind these steps -/
def ver (ts : List (Int × List Str)) (f : Str) : Int := ts.foldl (fun v t => if f ∈ t.2 then t.1 else v) 0
def rowAt (fs : List Str) (ts : List (Int × List Str)) : List Int := fs.map (ver ts)
/-- all rows -/
def rowsP (fs : List Str) (ts : List (Int × List Str)) : List (List Int) := (List.range (ts.length + 1)).map fun m => rowAt fs (ts.take m)
def encT (t : Int × List Str) : D := .tup false [.int t.1, TS t.2]
def insP (J : Ix) (fs : List Str) (us : List (List (List Str))) : D := .ins (J.cl "Plan") [TS fs, .lst ((rowsP fs (stepsOf 1 us)).map TI), .lst ((stepsOf 1 us).map encT)]
theorem ver_snoc (ts : List (Int × List Str)) (t : Int × List Str) (f : Str) : ver (ts ++ [t]) f = if f ∈ t.2 then t.1 else ver ts f := by
  unfold ver
  rw [List.foldl_append]
  rfl
theorem rowsP_snoc (fs : List Str) (ts : List (Int × List Str)) (t : Int × List Str) : rowsP fs (ts ++ [t]) = rowsP fs ts ++ [rowAt fs (ts ++ [t])] := by
  unfold rowsP
  rw [List.length_append, List.length_singleton, List.range_succ, List.map_append]
  congr 1
  · apply List.map_congr_left
    intro m hm
    have := List.mem_range.mp hm
    rw [List.take_append_of_le_length (by omega)]
  · simp [List.take_of_length_le]
theorem rowsP_last (fs : List Str) (ts : List (Int × List Str)) : (rowsP fs ts).getLast? = some (rowAt fs ts) := by
  unfold rowsP
  rw [List.range_succ, List.map_append]
  simp
theorem rowsP_len (fs : List Str) (ts : List (Int × List Str)) : (rowsP fs ts).length = ts.length + 1 := by simp [rowsP]
theorem stepsOf_eq : ∀ (k : Nat) (us : List (List (List Str))), stepsOf ((1 : Int) + (k : Nat)) us = (us.zipIdx k).flatMap fun p => p.1.map fun s => ((1 : Int) + (p.2 : Nat), s)
  | k, [] => rfl
  | k, u :: us => by
    have := stepsOf_eq (k + 1) us
    rw [show (1 : Int) + ((k + 1 : Nat) : Int) = 1 + k + 1 by omega] at this
    rw [List.zipIdx_cons, List.flatMap_cons, ← this]
    rfl
theorem stepsOf_eq0 (us : List (List (List Str))) : stepsOf 1 us = us.zipIdx.flatMap fun p => p.1.map fun s => ((1 : Int) + (p.2 : Nat), s) := stepsOf_eq 0 us
theorem stepsOf_len : ∀ (k : Int) (us : List (List (List Str))), (stepsOf k us).length = (us.map List.length).sum
  | _, [] => rfl
  | k, u :: us => by simp [stepsOf, stepsOf_len (k + 1) us]
theorem sum_le {l : List Nat} {m : Nat} (h : ∀ x ∈ l, x ≤ m) : l.sum ≤ l.length * m := by
  induction l with
  | nil => simp
  | cons a l ih =>
    have := ih fun x hx => h x (List.mem_cons_of_mem _ hx)
    have := h a List.mem_cons_self
    rw [List.sum_cons, List.length_cons, Nat.succ_mul]
    omega
theorem PlOk.steps {fs : List Str} {us : List (List (List Str))} (h : PlOk fs us) : (stepsOf 1 us).length ≤ 1000000 := by
  rw [stepsOf_len]
  have h1 := sum_le (l := us.map List.length) (m := 1000) (fun x hx => by
    obtain ⟨u, hu, rfl⟩ := List.mem_map.mp hx
    exact h.sl u hu)
  rw [List.length_map] at h1
  have := h.ul
  have : us.length * 1000 ≤ 1000 * 1000 := Nat.mul_le_mul_right _ this
  omega
theorem g_in {st : List (List D)} {x : Str} {s : List Str} {k n : Bool} : gIn n st [.str x, .tup k (s.map .str)] = .ok (.val (.bl (if n then !decide (x ∈ s) else decide (x ∈ s)))) := by
  have h : (s.map D.str).all flatD = true := by
    rw [List.all_map]
    exact List.all_eq_true.mpr fun _ _ => rfl
  have e : ((s.map D.str).any fun z => eqD z (.str x)) = decide (x ∈ s) := by
    induction s with
    | nil => rfl
    | cons y s ih =>
      rw [List.map_cons, List.any_cons, ih (by rw [List.all_map]; exact List.all_eq_true.mpr fun _ _ => rfl)]
      show ((y == x) || _) = _
      by_cases hy : y = x
      · subst hy; simp
      · have : (y == x) = false := beq_eq_false_iff_ne.mpr hy
        rw [this]
        simp [Ne.symm hy]
  simp [gIn, flatD, h, e, vB]
theorem g_in' {st : List (List D)} {x : Str} {s : List Str} {n : Bool} : gIn n st [.str x, TS s] = .ok (.val (.bl (if n then !decide (x ∈ s) else decide (x ∈ s)))) := g_in
theorem g_rep0 {st : List (List D)} {n : Nat} (h : n ≤ 1000) : gMul st [.tup false [.int 0], .int (n : Int)] = .ok (.val (TI (List.replicate n 0))) := by
  have e : ∀ n : Nat, (List.replicate n [D.int 0]).flatten = (List.replicate n (0 : Int)).map D.int := fun n => by
    induction n with
    | zero => rfl
    | succ n ih => rw [List.replicate_succ, List.flatten_cons, ih]; rfl
  simp only [gMul, List.length_singleton]
  rw [if_pos (by simp; omega)]
  simp [e, TI]
def PlanInitS (J : Ix) (f : Fnl) : Prop := ∀ st d fs us, IsPl d fs us → PlOk fs us → f [d] st = .ok (.val (insP J fs us), st)
theorem planInit_spec {J : Ix} {C : Cl} (hT : TupledS (C (J.fn "tupled")) 5) : PlanInitS J (runI (J.cl "Plan") 3 10 (B_Plan___init__ J) C) := by
  intro st d fs us hp hk
  have hfl := hk.fl
  have hst := hk.steps
  have z1 : (1 : Nat) ≤ szL := by decide
  have z2 : (2 : Nat) ≤ szL := by decide
  refine runI_eq ?_
  unfold B_Plan___init__
  refine seq_eq (by simp [hT st d hp.ok, hp.eq, TP] <;> rfl) ?_
  refine seq_eq (by simp <;> rfl) ?_
  apply seq_eq
  · rw [Res.eq_sat]
    simp [Res.sat_bind]
    refine lc2T us.zipIdx (fun p => D.tup false [.int (1 + (p.2 : Nat)), TU p.1]) (fun p => p.1) (fun _ => TS) (fun p s => some (encT (1 + (p.2 : Nat), s)))
      (fun p => [(4, .val (.int (1 + (p.2 : Nat)))), (5, .val (TU p.1))]) (by simp [enumL_map]) (by simp) ?_ ?_ ?_
    · have e : (us.zipIdx.flatMap fun p => p.1).length = (stepsOf 1 us).length := by
        rw [stepsOf_eq0, List.length_flatMap, List.length_flatMap]
        simp
      rw [e, szL_val]; omega
    · rintro ⟨u, i⟩ hu
      simp [TU, encT, z2]
    have L2 : (us.zipIdx.flatMap fun p => p.1.filterMap fun s => some (encT (1 + (p.2 : Nat), s))) = (stepsOf 1 us).map encT := by
      rw [stepsOf_eq0, List.map_flatMap]
      simp [Function.comp_def]
    rw [L2]
    simp [Res.sat_ok]
    rfl
  have e0 : TI (List.replicate fs.length 0) = TI (rowAt fs []) := by
    unfold rowAt
    congr 1
    exact List.map_const'.symm
  have e1 : gLen st [TS fs] = .ok (.val (.int fs.length)) := by simp [TS]
  refine seq_eq (by simp [e1, g_rep0 hfl, e0, z1] <;> rfl) ?_
  refine seq_eq (forF_pre (stepsOf 1 us) encT (fun p => [(11, .own ((rowsP fs p).map TI))]) (by simp <;> rfl) rfl ?_) ?_
  · rintro p ⟨k, s⟩ q hpq
    have hz : p.length + 1 < szL := by
      have := congrArg List.length hpq
      simp at this
      rw [szL_val]
      omega
    rw [Res.eq_sat]
    simp [encT, rowsP_last, Res.sat_bind, Res.sat_ok]
    refine lc_mapT fs.zipIdx (fun x => D.tup false [.int (0 + (x.2 : Nat)), .str x.1]) (fun x => .int (ver (p ++ [(k, s)]) x.1)) (by simp [TS, enumL_map]) (by rw [szL_val]; simp; omega) (by simp) ?_ ?_
    · rintro ⟨f, i⟩ hf
      obtain ⟨_, hlt, hfe⟩ := List.mem_zipIdx hf
      have hi : i < fs.length := by omega
      have hfe : f = fs[i] := by simpa using hfe
      have hg : (rowAt fs p)[i]? = some (ver p f) := by
        unfold rowAt
        rw [List.getElem?_map, List.getElem?_eq_getElem hi, ← hfe]
        rfl
      by_cases hm : f ∈ s
      · simp [g_in', hm, ver_snoc]
      · simp [g_in', hm, ver_snoc, TI, atI_map, atI_nat, hg]
    have L5 : (fs.zipIdx.map fun x => D.int (ver (p ++ [(k, s)]) x.1)) = (rowAt fs (p ++ [(k, s)])).map .int := by
      unfold rowAt
      rw [List.map_map]
      conv => rhs; rw [← List.zipIdx_map_fst 0 fs, List.map_map]
      rfl
    rw [L5]
    simp [hz, rowsP_len, TI, rowsP_snoc, Res.sat_ok, Res.sat_bind]
  · simp [insP, Res.sat_ok, Res.sat_bind]
end Ev
set_option Elab.async false
set_option maxRecDepth 100000
set_option maxHeartbeats 1000000
namespace Ev
open PySem
@[simp] theorem ins_insP {J : Ix} {fs : List Str} {us : List (List (List Str))} : insOf (.val (insP J fs us)) = .ok (J.cl "Plan", [TS fs, .lst ((rowsP fs (stepsOf 1 us)).map TI), .lst ((stepsOf 1 us).map encT)]) := rfl
@[simp] theorem fold_insP {J : Ix} {fs : List Str} {us : List (List (List Str))} : D.ins (J.cl "Plan") [TS fs, .lst ((rowsP fs (stepsOf 1 us)).map TI), .lst ((stepsOf 1 us).map encT)] = insP J fs us := rfl
@[simp] theorem len_TS {st : List (List D)} {fs : List Str} : gLen st [TS fs] = .ok (.val (.int fs.length)) := by simp [TS]
@[simp] theorem len_TI {st : List (List D)} {fs : List Int} : gLen st [TI fs] = .ok (.val (.int fs.length)) := by simp [TI]
@[simp] theorem len_TU {st : List (List D)} {fs : List (List Str)} : gLen st [TU fs] = .ok (.val (.int fs.length)) := by simp [TU]
@[simp] theorem items_TS {st : List (List D)} {fs : List Str} : itemsOf st (TS fs) = .ok (fs.map .str) := rfl
@[simp] theorem items_TI {st : List (List D)} {fs : List Int} : itemsOf st (TI fs) = .ok (fs.map .int) := rfl
@[simp] theorem items_TU {st : List (List D)} {fs : List (List Str)} : itemsOf st (TU fs) = .ok (fs.map TS) := rfl
@[simp] theorem ix_TP0 {st : List (List D)} {fs : List Str} {us : List (List (List Str))} : gIx st [TP fs us, .int 0] = .ok (.val (TS fs)) := by simp [TP]
@[simp] theorem ix_TP1 {st : List (List D)} {fs : List Str} {us : List (List (List Str))} : gIx st [TP fs us, .int 1] = .ok (.val (.tup false (us.map TU))) := by simp [TP]
theorem ix_TI {st : List (List D)} {is : List Int} {n : Nat} (h : n < is.length) : gIx st [TI is, .int (n : Int)] = .ok (.val (.int is[n])) := by
  simp [TI, atI_map, atI_nat, List.getElem?_eq_getElem h]
theorem ix_TI' {st : List (List D)} {is : List Int} {n : Nat} {v : Int} (h : is[n]? = some v) : gIx st [TI is, .int (n : Int)] = .ok (.val (.int v)) := by
  simp [TI, atI_map, atI_nat, h]
theorem mapM_s1c : ∀ fs : List Str, fs.mapM (s1 ∘ D.str) = some fs
  | [] => rfl
  | x :: fs => by rw [List.mapM_cons, mapM_s1c fs]; rfl
theorem rowAt_get {fs : List Str} {ts : List (Int × List Str)} {x : Str} (h : x ∈ fs) : (rowAt fs ts)[fs.idxOf x]? = some (ver ts x) := by
  have hlt : fs.idxOf x < fs.length := List.idxOf_lt_length_iff.mpr h
  unfold rowAt
  rw [List.getElem?_map, List.getElem?_eq_getElem hlt, List.getElem_idxOf hlt]
  rfl
theorem fold_TI {is : List Int} : D.tup false (is.map .int) = TI is := rfl
theorem fold_TS {is : List Str} : D.tup (!is.isEmpty) (is.map .str) = TS is := rfl
theorem fold_TU {u : List (List Str)} : D.tup false (u.map TS) = TU u := rfl
/-- the class's fields -/
structure PlanJ (J : Ix) : Prop where
  f0 : (J.fd "own_files").lookup (J.cl "Plan") = some 0
  f1 : (J.fd "own_rows").lookup (J.cl "Plan") = some 1
  f2 : (J.fd "own_steps").lookup (J.cl "Plan") = some 2
/-- a file's versions, moment by moment -/
def colT (ts : List (Int × List Str)) (f : Str) : List Int := (List.range (ts.length + 1)).map fun m => ver (ts.take m) f
abbrev col (us : List (List (List Str))) (f : Str) : List Int := colT (stepsOf 1 us) f
theorem colT_len (ts : List (Int × List Str)) (f : Str) : (colT ts f).length = ts.length + 1 := by simp [colT]
theorem colT_get (ts : List (Int × List Str)) (f : Str) {m : Nat} (h : m ≤ ts.length) : (colT ts f)[m]? = some (ver (ts.take m) f) := by
  unfold colT
  rw [List.getElem?_map, List.getElem?_range (by omega)]
  rfl
section
variable {J : Ix} {C : Cl} (hJ : PlanJ J)
def PFilesS (J : Ix) (f : Fnl) : Prop := ∀ st fs us, f [insP J fs us] st = .ok (.val (TS fs), st)
include hJ in
theorem pFiles_spec : PFilesS J (runF 1 (B_Plan_files J) C) := by
  intro st fs us
  simp [B_Plan_files, hJ.f0]
def PRowsS (J : Ix) (f : Fnl) : Prop := ∀ st fs us, f [insP J fs us] st = .ok (.own ((rowsP fs (stepsOf 1 us)).map TI), st)
include hJ in
theorem pRows_spec : PRowsS J (runF 1 (B_Plan_rows J) C) := by
  intro st fs us
  simp [B_Plan_rows, hJ.f1]
def PMomentsS (J : Ix) (f : Fnl) : Prop := ∀ st fs us, f [insP J fs us] st = .ok (.val (.int (stepsOf 1 us).length), st)
include hJ in
theorem pMoments_spec : PMomentsS J (runF 1 (B_Plan_moments J) C) := by
  intro st fs us
  simp [B_Plan_moments, hJ.f2]
theorem findIdx_mem {fs : List Str} {f : Str} (h : f ∈ fs) : fs.findIdx? (· == f) = some (fs.idxOf f) := by
  rw [List.findIdx?_eq_some_iff_findIdx_eq]
  exact ⟨List.findIdx_lt_length_of_exists ⟨f, h, beq_self_eq_true f⟩, rfl⟩
def PCheckFileS (J : Ix) (f : Fnl) : Prop := ∀ st fs us (x : Str), x ∈ fs → f [insP J fs us, .str x] st = .ok (.val (.int (fs.idxOf x : Nat)), st)
include hJ in
theorem pCheckFile_spec : PCheckFileS J (runF 2 (B_Plan_check_file J) C) := by
  intro st fs us x hx
  have hne : fs.isEmpty = false := by cases fs with
    | nil => cases hx
    | cons _ _ => rfl
  have e : TS fs = .tup true (fs.map .str) := by unfold TS; rw [hne]; rfl
  simp [B_Plan_check_file, hJ.f0, g_in', hx]
  simp [e, mapM_s1c, findIdx_mem hx]
def PColumnS (J : Ix) (f : Fnl) : Prop := ∀ st fs us (x : Str), x ∈ fs → PlOk fs us → f [insP J fs us, .str x] st = .ok (.own ((col us x).map .int), st)
include hJ in
theorem pColumn_spec (hm : (J.mt "check_file").lookup (J.cl "Plan") = some (J.fn "Plan.check_file")) (hC : PCheckFileS J (C (J.fn "Plan.check_file"))) : PColumnS J (runF 4 (B_Plan_column J) C) := by
  intro st fs us x hx hk
  have hs := hk.steps
  refine run_eq ?_
  unfold B_Plan_column
  refine seq_eq (by simp [hm, hC st fs us x hx] <;> rfl) ?_
  simp [Res.sat_bind]
  refine lc_mapT (List.range ((stepsOf 1 us).length + 1)) (fun m => TI (rowAt fs ((stepsOf 1 us).take m))) (fun m => .int (ver ((stepsOf 1 us).take m) x)) (by simp [hJ.f1, rowsP]) (by rw [szL_val]; simp; omega) (by simp) ?_ ?_
  · intro m hm
    simp [ix_TI' (rowAt_get hx)]
  · simp [Res.sat_ok, colT]
def PVersionS (J : Ix) (f : Fnl) : Prop := ∀ st fs us (x : Str) (m : Nat), x ∈ fs → PlOk fs us → m ≤ (stepsOf 1 us).length → f [insP J fs us, .str x, .int m] st = .ok (.val (.int (ver ((stepsOf 1 us).take m) x)), st)
theorem pVersion_spec (hm : (J.mt "column").lookup (J.cl "Plan") = some (J.fn "Plan.column")) (hC : PColumnS J (C (J.fn "Plan.column"))) : PVersionS J (runF 4 (B_Plan_version J) C) := by
  intro st fs us x m hx hk hle
  have h1 : (m : Int) < (stepsOf 1 us).length + 1 := by omega
  simp [B_Plan_version, hm, hC st fs us x hx hk, colT_len, h1, atI_map, atI_nat, colT_get (stepsOf 1 us) x hle]
def MomentsS (f : Fnl) : Prop := ∀ st d fs us, IsPl d fs us → PlOk fs us → f [d] st = .ok (.val (.int (stepsOf 1 us).length), st)
theorem moments_spec (hm : (J.mt "moments").lookup (J.cl "Plan") = some (J.fn "Plan.moments")) (hP : PlanInitS J (C (J.fn "Plan"))) (hC : PMomentsS J (C (J.fn "Plan.moments"))) : MomentsS (runF 1 (B_moments J) C) := by
  intro st d fs us h1 h2
  simp [B_moments, hm, hP st d fs us h1 h2, hC st fs us]
def VersionS (f : Fnl) : Prop := ∀ st d fs us (x : Str) (m : Nat), IsPl d fs us → PlOk fs us → x ∈ fs → m ≤ (stepsOf 1 us).length → f [d, .str x, .int m] st = .ok (.val (.int (ver ((stepsOf 1 us).take m) x)), st)
theorem version_spec (hm : (J.mt "version").lookup (J.cl "Plan") = some (J.fn "Plan.version")) (hP : PlanInitS J (C (J.fn "Plan"))) (hC : PVersionS J (C (J.fn "Plan.version"))) : VersionS (runF 3 (B_version J) C) := by
  intro st d fs us x m h1 h2 h3 h4
  simp [B_version, hm, hP st d fs us h1 h2, hC st fs us x m h3 h2 h4]
end
end Ev
set_option Elab.async false
set_option maxRecDepth 100000
set_option maxHeartbeats 1000000
namespace Ev
open PySem
def lens (us : List (List (List Str))) : Nat := (us.map List.length).sum
theorem lens_append (a b : List (List (List Str))) : lens (a ++ b) = lens a + lens b := by simp [lens]
theorem lens_one (u : List (List Str)) : lens [u] = u.length := by simp [lens]
theorem steps_lens (us : List (List (List Str))) : (stepsOf 1 us).length = lens us := stepsOf_len 1 us
def IsNumS (f : Fnl) : Prop := ∀ st (i b : Int), f [.int i, .int b] st = .ok (.val (.bl (decide (b ≤ i))), st)
theorem isNum_spec {J : Ix} {C : Cl} : IsNumS (runF 2 (B_is_number J) C) := by
  intro st i b
  have h1 : gIsi ["int"] st [.int i] = .ok (.val (.bl true)) := by simp [gIsi, plainD, isT, tyN, tySub, vB]
  have h2 : gIsi ["bool"] st [.int i] = .ok (.val (.bl false)) := by simp [gIsi, plainD, isT, tyN, tySub, vB]
  simp [B_is_number, h1, h2]
/-- the moment m lies within an update that begins at b -/
structure Within (us : List (List (List Str))) (m b : Nat) : Prop where
  ex : ∃ p u q, us = p ++ u :: q ∧ b = lens p ∧ b < m ∧ m < b + u.length
theorem Within.le {us : List (List (List Str))} {m b : Nat} (h : Within us m b) : b < m ∧ m < lens us := by
  obtain ⟨p, u, q, rfl, rfl, h1, h2⟩ := h.ex
  rw [lens_append, show u :: q = [u] ++ q from rfl, lens_append, lens_one]
  omega
section
variable {J : Ix} {C : Cl}
def BeginS (f : Fnl) : Prop := ∀ st d fs us (m b : Nat), IsPl d fs us → Within us m b → f [d, .int m] st = .ok (.val (.int b), st)
theorem begin_spec (hT : TupledS (C (J.fn "tupled")) 5) (hN : IsNumS (C (J.fn "is_number"))) : BeginS (runF 4 (B_begin_of J) C) := by
  intro st d fs us m b hp hw
  obtain ⟨p, u, q, hu, rfl, h1, h2⟩ := hw.ex
  refine run_eq ?_
  unfold B_begin_of
  refine seq_eq (by simp <;> rfl) ?_
  refine seq_ret (m := .val (.int (lens p : Nat))) (s1 := ⟨[none, none, none, none], st⟩) (forF_hit us TU (fun p => [(2, .val (.int (lens p : Nat)))]) p u q hu (by simp [hT st d hp.ok, hp.eq] <;> rfl) rfl ?_ ?_) rfl
  · rintro p1 y q1 rfl
    have h3 : lens p1 + y.length ≤ lens (p1 ++ y :: q1) := by
      rw [lens_append, show y :: q1 = [y] ++ q1 from rfl, lens_append, lens_one]
      omega
    have h4 : (lens p1 : Int) < (m : Int) := by omega
    have h5 : ¬ ((m : Int) < (lens p1 : Int) + y.length) := by omega
    simp [hN st, h4, h5, lens_append, lens_one]
  · have h4 : (lens p : Int) < (m : Int) := by omega
    have h5 : (m : Int) < (lens p : Int) + u.length := by omega
    simp [hN st, h4, h5]
/-- the row while an update is taken back -/
def backR' {α : Type} (R : List α) (b m : Nat) : List α := R.take (m + 1) ++ ((R.take m).drop b).reverse ++ R.drop (b + 1)
def insB (J : Ix) (fs : List Str) (rs : List (List Int)) : D := .ins (J.cl "Back") [TS fs, .lst (rs.map TI)]
@[simp] theorem ins_insB {J : Ix} {fs : List Str} {rs : List (List Int)} : insOf (.val (insB J fs rs)) = .ok (J.cl "Back", [TS fs, .lst (rs.map TI)]) := rfl
@[simp] theorem fold_insB {J : Ix} {fs : List Str} {rs : List (List Int)} : D.ins (J.cl "Back") [TS fs, .lst (rs.map TI)] = insB J fs rs := rfl
def BackInitS (J : Ix) (f : Fnl) : Prop := ∀ st d fs us (m b : Nat), IsPl d fs us → PlOk fs us → Within us m b → f [d, .int m] st = .ok (.val (insB J fs (backR' (rowsP fs (stepsOf 1 us)) b m)), st)
theorem backInit_spec (hP : PlanInitS J (C (J.fn "Plan"))) (hB : BeginS (C (J.fn "begin_of"))) (m1 : (J.mt "rows").lookup (J.cl "Plan") = some (J.fn "Plan.rows")) (hR : PRowsS J (C (J.fn "Plan.rows")))
    (m2 : (J.mt "files").lookup (J.cl "Plan") = some (J.fn "Plan.files")) (hF : PFilesS J (C (J.fn "Plan.files"))) : BackInitS J (runI (J.cl "Back") 2 6 (B_Back___init__ J) C) := by
  intro st d fs us m b hp hk hw
  have hs := hk.steps
  have hl := rowsP_len fs (stepsOf 1 us)
  refine runI_eq ?_
  unfold B_Back___init__
  refine seq_eq (by simp [hP st d fs us hp hk, hB st d fs us m b hp hw] <;> rfl) ?_
  refine seq_eq (by simp [m1, hR st fs us] <;> rfl) ?_
  refine seq_eq (by simp [m2, hF st fs us] <;> rfl) ?_
  have z1 : min (m + 1) (rowsP fs (stepsOf 1 us)).length + (min m (rowsP fs (stepsOf 1 us)).length - b) ≤ szL := by rw [szL_val]; omega
  have z2 : min (m + 1) (rowsP fs (stepsOf 1 us)).length + (min m (rowsP fs (stepsOf 1 us)).length - b) + ((rowsP fs (stepsOf 1 us)).length - (b + 1)) ≤ szL := by rw [szL_val]; omega
  refine seq_eq (by simp [cut_take1, cut_mid, cut_drop1, z1, z2] <;> rfl) ?_
  simp [Res.sat_ok, insB, backR', List.map_take, List.map_drop]
def BRowsS (J : Ix) (f : Fnl) : Prop := ∀ st fs rs, f [insB J fs rs] st = .ok (.own (rs.map TI), st)
theorem bRows_spec (h1 : (J.fd "own_rows").lookup (J.cl "Back") = some 1) : BRowsS J (runF 1 (B_Back_rows J) C) := by
  intro st fs rs
  simp [B_Back_rows, h1]
def BackVersionsS (f : Fnl) : Prop := ∀ st d fs us (m b : Nat), IsPl d fs us → PlOk fs us → Within us m b → f [d, .int m] st = .ok (.own ((backR' (rowsP fs (stepsOf 1 us)) b m).map TI), st)
theorem backVersions_spec (hB : BackInitS J (C (J.fn "Back"))) (m1 : (J.mt "rows").lookup (J.cl "Back") = some (J.fn "Back.rows")) (hR : BRowsS J (C (J.fn "Back.rows"))) : BackVersionsS (runF 2 (B_back_versions J) C) := by
  intro st d fs us m b h1 h2 h3
  simp [B_back_versions, hB st d fs us m b h1 h2 h3, m1, hR st]
end
end Ev
set_option Elab.async false
set_option maxRecDepth 100000
set_option maxHeartbeats 1000000
namespace Ev
open PySem
/-- what is told apart by == just as what it stands for -/
structure EqE {α : Type} [DecidableEq α] (n : Nat) (e : α → D) : Prop where
  shp : ∀ x, shp n (e x) = true
  eq : ∀ x y, eqD (e x) (e y) = decide (x = y)
theorem eqE_int : EqE 0 D.int := ⟨fun _ => rfl, fun x y => by
  show (x == y) = _
  by_cases h : x = y
  · subst h; simp
  · simp [h]⟩
theorem eqE_str : EqE 0 D.str := ⟨fun _ => rfl, fun x y => by
  show (x == y) = _
  by_cases h : x = y
  · subst h; simp
  · simp [h]⟩
theorem eqE_bl : EqE 0 D.bl := ⟨fun _ => rfl, fun x y => by cases x <;> cases y <;> rfl⟩
theorem eqDs_map {α : Type} [DecidableEq α] {n : Nat} {e : α → D} (h : EqE n e) : ∀ xs ys : List α, eqDs (xs.map e) (ys.map e) = decide (xs = ys)
  | [], [] => rfl
  | [], _ :: _ => rfl
  | _ :: _, [] => rfl
  | x :: xs, y :: ys => by
    show (eqD (e x) (e y) && eqDs (xs.map e) (ys.map e)) = _
    rw [h.eq, eqDs_map h xs ys]
    by_cases h1 : x = y <;> by_cases h2 : xs = ys <;> simp [h1, h2]
theorem eqE_lst {α : Type} [DecidableEq α] {n : Nat} {e : α → D} (h : EqE n e) : EqE (n + 1) (fun xs : List α => D.lst (xs.map e)) := ⟨fun xs => by
  simp only [Ev.shp, List.all_map]
  exact List.all_eq_true.mpr fun x _ => h.shp x, fun xs ys => eqDs_map h xs ys⟩
theorem eqE_tup {α : Type} [DecidableEq α] {n : Nat} {e : α → D} (k : List α → Bool) (h : EqE n e) : EqE (n + 1) (fun xs : List α => D.tup (k xs) (xs.map e)) := ⟨fun xs => by
  simp only [Ev.shp, List.all_map]
  exact List.all_eq_true.mpr fun x _ => h.shp x, fun xs ys => eqDs_map h xs ys⟩
theorem eqE_TS : EqE 1 TS := eqE_tup (fun xs => !xs.isEmpty) eqE_str
theorem eqE_TI : EqE 1 TI := eqE_tup (fun _ => false) eqE_int
theorem eqE_TU : EqE 2 TU := eqE_tup (fun _ => false) eqE_TS
theorem shp_le {n m : Nat} (h : n ≤ m) {d : D} (k : shp n d = true) : shp m d = true := by
  induction h with
  | refl => exact k
  | step _ ih => exact shp_up ih
theorem g_eq {α : Type} [DecidableEq α] {n : Nat} {e : α → D} (h : EqE n e) (hn : n ≤ 20) {st : List (List D)} {neg : Bool} {x y : α} : gEq neg st [e x, e y] = .ok (.val (.bl (if neg then !decide (x = y) else decide (x = y)))) := by
  simp only [gEq, shp_le hn (h.shp x), shp_le hn (h.shp y), Bool.and_self, if_true, vB, h.eq]
theorem g_eqL {α : Type} [DecidableEq α] {n : Nat} {e : α → D} (h : EqE n e) (hn : n ≤ 19) {st : List (List D)} {neg : Bool} {x y : List α} : gEq neg st [.lst (x.map e), .lst (y.map e)] = .ok (.val (.bl (if neg then !decide (x = y) else decide (x = y)))) :=
  g_eq (eqE_lst h) (by omega)
theorem g_eqL0 {α : Type} [DecidableEq α] {n : Nat} {e : α → D} (h : EqE n e) (hn : n ≤ 19) {st : List (List D)} {neg : Bool} {x : List α} : gEq neg st [.lst (x.map e), .lst []] = .ok (.val (.bl (if neg then !decide (x = []) else decide (x = [])))) :=
  g_eqL h hn (y := [])
@[simp] theorem g_eq00 {st : List (List D)} {n : Bool} : gEq n st [.lst [], .lst []] = .ok (.val (.bl (!n))) := by cases n <;> rfl
def innerOf : Nat → List (List (List Str)) → List Int
  | _, [] => []
  | f, u :: us => (List.range (u.length - 1)).map (fun (k : Nat) => (f : Int) + 1 + k) ++ innerOf (f + u.length) us
theorem innerOf_append : ∀ (f : Nat) (a b : List (List (List Str))), innerOf f (a ++ b) = innerOf f a ++ innerOf (f + lens a) b
  | f, [], b => by simp [innerOf, lens]
  | f, u :: a, b => by
    show _ ++ innerOf (f + u.length) (a ++ b) = (_ ++ innerOf (f + u.length) a) ++ _
    rw [innerOf_append (f + u.length) a b, List.append_assoc]
    congr 3
    simp [lens]
    omega
theorem innerOf_len : ∀ (f : Nat) (us : List (List (List Str))), (innerOf f us).length ≤ lens us
  | _, [] => by simp [innerOf, lens]
  | f, u :: us => by
    have := innerOf_len (f + u.length) us
    simp only [innerOf, List.length_append, List.length_map, List.length_range, lens, List.map_cons, List.sum_cons] at this ⊢
    omega
theorem innerOf_mem : ∀ (p us : List (List (List Str))) {x : Int}, x ∈ innerOf (lens p) us → ∃ m b : Nat, x = m ∧ Within (p ++ us) m b
  | p, [], x, h => by simp [innerOf] at h
  | p, u :: us, x, h => by
    rcases List.mem_append.mp h with q | q
    · obtain ⟨k, hk, rfl⟩ := List.mem_map.mp q
      have hk := List.mem_range.mp hk
      exact ⟨lens p + 1 + k, lens p, by omega, p, u, us, rfl, rfl, by omega, by omega⟩
    · have e : lens p + u.length = lens (p ++ [u]) := by rw [lens_append, lens_one]
      rw [e] at q
      have := innerOf_mem (p ++ [u]) us q
      rwa [List.append_assoc] at this
section
variable {J : Ix} {C : Cl}
def InnerS (f : Fnl) : Prop := ∀ st fs us, PlOk fs us → f [TP fs us] st = .ok (.val (.lst ((innerOf 0 us).map .int)), st)
theorem inner_spec : InnerS (runF 4 (B__law_inner J) C) := by
  intro st fs us hk
  have hs := hk.steps
  rw [steps_lens] at hs
  refine run_eq ?_
  unfold B__law_inner
  refine seq_eq (by simp <;> rfl) ?_
  refine seq_eq (forF_pre us TU (fun p => [(1, .val (.lst ((innerOf 0 p).map .int))), (2, .val (.int (lens p : Nat)))]) (by simp <;> rfl) rfl ?_) ?_
  · rintro p u q hpq
    have hp : lens p + u.length ≤ lens us := by
      rw [hpq, lens_append, show u :: q = [u] ++ q from rfl, lens_append, lens_one]
      omega
    have hl := innerOf_len 0 p
    have h1 : rgOk ((lens p : Int) + 1) ((lens p : Int) + u.length) = true := rgOk_of (by omega) (by omega) (by omega) (by omega)
    have h2 : (((lens p : Int) + u.length) - ((lens p : Int) + 1)).toNat = u.length - 1 := by omega
    have h3 : (innerOf 0 p).length + (u.length - 1) ≤ szL := by rw [szL_val]; omega
    simp [h1, h2, h3, rngL_map, innerOf_append, lens_append, lens_one, innerOf, Function.comp_def]
  · simp [Res.sat_ok]
theorem nd_len {α : Type} [DecidableEq α] : ∀ {s t : List α}, s.Nodup → (∀ x ∈ s, x ∈ t) → s.length ≤ t.length
  | [], _, _, _ => Nat.zero_le _
  | a :: s, t, h, k => by
    rw [List.nodup_cons] at h
    have ha := k a List.mem_cons_self
    have := nd_len (t := t.erase a) h.2 fun x hx => (List.mem_erase_of_ne fun e => h.1 (by rw [← e]; exact hx)).mpr (k x (List.mem_cons_of_mem _ hx))
    have h2 := List.length_erase_of_mem ha
    have h3 := List.length_pos_of_mem ha
    rw [List.length_cons]
    omega
theorem PlOk.of {fs : List Str} {us : List (List (List Str))} (h1 : fs.length ≤ 60) (h2 : us.length ≤ 1000) (h : ∀ u ∈ us, UpdOk fs u) (hn : fs.Nodup) : PlOk fs us := by
  refine ⟨by omega, h2, fun u hu => by have := (h u hu).len; omega, fun u hu s hs => ?_⟩
  have hnd := (h u hu).nd hn
  have h3 : s.Sublist u.flatten := List.sublist_flatten_of_mem hs
  have h4 : s.Nodup := h3.nodup hnd
  have := nd_len h4 fun x hx => (h u hu).sub s hs x hx
  omega
/-- an update of all files, one by one -/
theorem updOk_single {fs l : List Str} (hp : l.Perm fs) (hne : fs ≠ []) : UpdOk fs (l.map fun x => [x]) := by
  refine ⟨fun s hs x hx => ?_, fun hn => ?_, fun s hs => ?_, fun e => ?_, by rw [List.length_map, hp.length_eq]; omega, fun s hs => ?_⟩
  · obtain ⟨y, hy, rfl⟩ := List.mem_map.mp hs
    rw [List.mem_singleton.mp hx]
    exact hp.subset hy
  · have e : (l.map fun x => [x]).flatten = l := by
      rw [List.flatten_eq_flatMap, List.flatMap_map]
      simp
    rw [e]
    exact hp.nodup_iff.mpr hn
  · obtain ⟨y, hy, rfl⟩ := List.mem_map.mp hs
    simp
  · have : l = [] := List.map_eq_nil_iff.mp e
    rw [this] at hp
    exact hne hp.nil_eq.symm
  · obtain ⟨y, hy, rfl⟩ := List.mem_map.mp hs
    simp
/-- picked: all files, in a drawn order -/
theorem pick_all {J : Ix} {C : Cl} (hP : PickS (C (J.fn "_law_pick"))) {st : List (List D)} {n : Nat} {m : Int} {fs : List Str} {many : Int} (hb : Box st n m) (hm : m + fs.length < big) (h1 : fs.length ≤ many) (h2 : many < 1000000) (h3 : fs.length < 100000) :
    ∃ (l : List Str) (st' : List (List D)), C (J.fn "_law_pick") [.cell n, TS fs, .int many] st = .ok (.own (l.map .str), st') ∧ l.Perm fs ∧ Box st' n (m + fs.length) ∧ Kp st st' n := by
  obtain ⟨l, st', e1, hl, ⟨rest, hp⟩, hb', hk⟩ := hP st n m (TS fs) (fs.map .str) many hb (by simpa using hm) (.inr ⟨_, rfl⟩) (by simpa using h3) (by omega) (by omega)
  obtain ⟨l, rs, rfl, rfl, hq⟩ := perm_str hp
  clear hp
  simp only [List.length_map] at hl hb'
  have hl' : l.length = fs.length := by omega
  have : rs = [] := by
    have := hq.length_eq
    rw [List.length_append] at this
    exact List.length_eq_zero_iff.mp (by omega)
  subst this
  rw [List.append_nil] at hq
  exact ⟨l, st', e1, hq, by rw [← hl']; exact hb', hk⟩
def SceneS (f : Fnl) : Prop := ∀ st n m (most size : Int), Box st n m → m + 1000000 < big → 2 ≤ most → most ≤ 10 → 0 ≤ size → size ≤ 100 → ∃ fs us, ∃ mm b : Nat, ∃ st', f [.cell n, .int most, .int size] st = .ok (.val (.tup false [TP fs us, .int mm]), st') ∧ FilesOk fs ∧ 2 ≤ fs.length ∧ (fs.length : Int) ≤ most ∧ (∀ u ∈ us, UpdOk fs u) ∧ (us.length : Int) ≤ size + 1 ∧ Within us mm b ∧ Box st' n (m + 100000) ∧ Kp st st' n
theorem scene_spec (hT : TakeS (C (J.fn "_law_take"))) (hP : PickS (C (J.fn "_law_pick"))) (hO : OfS (C (J.fn "_law_of"))) (hF : FilesS (C (J.fn "_law_files"))) (hPl : PlanDS (C (J.fn "_law_plan"))) (hI : InnerS (C (J.fn "_law_inner"))) : SceneS (runF 6 (B__law_scene J) C) := by
  intro st n m most size hb hm h1 h2 h3 h4
  rw [big_eq] at hm
  have z1 : (1 : Nat) ≤ szL := by decide
  have z2 : (2 : Nat) ≤ szL := by decide
  obtain ⟨r, st1, e1, hr0, hr1, hb1, hk1⟩ := hT st n m (most - 1) hb (by rw [big_eq]; omega) (by omega) (by omega)
  obtain ⟨fs, st2, e2, hfl, hfs, hb2, hk2⟩ := hF st1 n _ (2 + r) hb1 (by rw [big_eq]; omega) (by omega) (by omega)
  have hne : fs ≠ [] := fun e => by rw [e] at hfl; simp at hfl; omega
  obtain ⟨us, st3, e3, hul, hus, hb3, hk3⟩ := hPl st2 n _ fs size hb2 (by rw [big_eq]; omega) hne (by omega) h3 (by omega)
  have hok := PlOk.of (by omega) (by omega) hus hfs.nd
  -- behind the plan: a data and a moment of it
  have fin : ∀ (us' : List (List (List Str))) st4 m4, innerOf 0 us' ≠ [] → Box st4 n m4 → m4 + 10 < big → Kp st st4 n → PlOk fs us' → ∃ (mm b : Nat) (st5 : List (List D)), C (J.fn "_law_inner") [TP fs us'] st4 = .ok (.val (.lst ((innerOf 0 us').map .int)), st4) ∧
      C (J.fn "_law_of") [.cell n, .lst ((innerOf 0 us').map .int)] st4 = .ok (.val (.int mm), st5) ∧ Within us' mm b ∧ Box st5 n (m4 + 1) ∧ Kp st st5 n := by
    intro us' st4 m4 hi hb4 hm4 hk4 hok'
    have hs := hok'.steps
    rw [steps_lens] at hs
    have hl := innerOf_len 0 us'
    obtain ⟨x, st5, e5, hx, hb5, hk5⟩ := hO st4 n m4 (.lst ((innerOf 0 us').map .int)) _ hb4 (by omega) (.inl rfl) (by simpa using hi) (by simp; omega)
    obtain ⟨i, hi, rfl⟩ := List.mem_map.mp hx
    obtain ⟨mm, b, rfl, hw⟩ := innerOf_mem [] us' hi
    exact ⟨mm, b, st5, hI st4 fs us' hok', e5, hw, hb5, hk4.trans hk5⟩
  by_cases hi : innerOf 0 us = []
  · obtain ⟨l, st4, e4, hlp, hb4, hk4⟩ := pick_all (fs := fs) hP (many := fs.length) hb3 (by rw [big_eq]; omega) (by omega) (by omega) (by omega)
    have hus' : ∀ u ∈ us ++ [l.map fun x => [x]], UpdOk fs u := fun u hu => by
      rcases List.mem_append.mp hu with q | q
      · exact hus u q
      · rw [List.mem_singleton.mp q]
        exact updOk_single hlp hne
    have hok' := PlOk.of (fs := fs) (us := us ++ [l.map fun x => [x]]) (by omega) (by simp; omega) hus' hfs.nd
    have hi' : innerOf 0 (us ++ [l.map fun x => [x]]) ≠ [] := fun e => by
      rw [innerOf_append] at e
      have e := (List.append_eq_nil_iff.mp e).2
      simp [innerOf, hlp.length_eq] at e
      omega
    obtain ⟨mm, b, st5, e5, e6, hw, hb5, hk5⟩ := fin _ st4 _ hi' hb4 (by rw [big_eq]; omega) (((hk1.trans hk2).trans hk3).trans hk4) hok'
    have hz : us.length + 1 ≤ szL := by rw [szL_val]; omega
    have hl2 : l.length ≤ szL := by rw [szL_val, hlp.length_eq]; omega
    refine ⟨fs, _, mm, b, st5, ?_, hfs, by omega, by omega, hus', by simp; omega, hw, hb5.mono (by omega), hk5⟩
    refine run_eq ?_
    unfold B__law_scene
    refine seq_eq (by simp [e1, e2] <;> rfl) ?_
    refine seq_eq (by simp [e3] <;> rfl) ?_
    refine seq_eq (s1 := ⟨[some (.val (.cell n)), some (.val (.int most)), some (.val (.int size)), some (.val (TS fs)), some (.val (TP fs (us ++ [l.map fun x => [x]]))), none], st4⟩) ?_ ?_
    · rw [Res.eq_sat]
      simp [hI st3 fs us hok, hi, g_eqL0 eqE_int, Res.sat_bind, Res.sat_ok]
      refine lc_mapU l D.str (fun x => TS [x]) (by simp [e4] <;> rfl) hl2 (by simp) (by intro x hx; simp [z1, TS]) ?_
      have e7 : (l.map fun x => TS [x]) = (l.map fun x => [x]).map TS := by simp [Function.comp_def]
      simp only [e7]
      simp [hz, z1, z2, sHd_app, Res.sat_ok, Res.sat_bind, TP, TU]
      exact sHd_nS (fun _ => rfl) _
    · simp [e5, e6, z2, Res.sat_ok]
  · obtain ⟨mm, b, st5, e5, e6, hw, hb5, hk5⟩ := fin us st3 _ hi hb3 (by rw [big_eq]; omega) ((hk1.trans hk2).trans hk3) hok
    refine ⟨fs, us, mm, b, st5, ?_, hfs, by omega, by omega, hus, by omega, hw, hb5.mono (by omega), hk5⟩
    refine run_eq ?_
    unfold B__law_scene
    refine seq_eq (by simp [e1, e2] <;> rfl) ?_
    refine seq_eq (by simp [e3] <;> rfl) ?_
    refine seq_eq (by simp [hI st3 fs us hok, hi, g_eqL0 eqE_int] <;> rfl) ?_
    simp [e5, e6, z2, Res.sat_ok]
end
end Ev
set_option Elab.async false
set_option maxRecDepth 100000
set_option maxHeartbeats 1000000
namespace Ev
open PySem
section
variable {C : Cl} {s : S} {st : List (List D)}
@[simp] theorem x_tupS (fs : List (Bool × SE)) (C : Cl) (s : S) : tupS fs C s = (stars fs C s).bind fun (ds, s1) => if ds.length ≤ szL then .ok (.val (.tup (sHd ds) ds), s1) else .stuck := rfl
@[simp] theorem x_lstS (fs : List (Bool × SE)) (C : Cl) (s : S) : lstS fs C s = (stars fs C s).bind fun (ds, s1) => if ds.length ≤ szL then .ok (.own ds, s1) else .stuck := rfl
@[simp] theorem q_stars0 : stars [] C s = .ok ([], s) := rfl
@[simp] theorem q_stars1 {f : SE} {fs : List (Bool × SE)} : stars ((true, f) :: fs) C s = (f C s).bind fun (r, s1) => (frz r s1).bind fun (d, s2) => (itemsOf s2.st d).bind fun xs => (stars fs C s2).bind fun (ds, s3) => .ok (xs ++ ds, s3) := rfl
@[simp] theorem q_stars2 {f : SE} {fs : List (Bool × SE)} : stars ((false, f) :: fs) C s = (f C s).bind fun (r, s1) => (frz r s1).bind fun (d, s2) => (stars fs C s2).bind fun (ds, s3) => .ok (d :: ds, s3) := rfl
@[simp] theorem g_isB {n k b : Bool} : gIsB n k st [.bl b] = .ok (.val (.bl (if n then !(b == k) else b == k))) := rfl
theorem g_ss {is : List Int} (h : is.length < 64) : gSS st [.lst (is.map .int)] = .ok (.own ((setI is).map .int)) := by
  simp only [gSS, mapM_i1]
  show (if is.length < 64 then _ else _) = _
  rw [if_pos h]
theorem g_sortT {is : List Int} {k : Bool} : gSorted st [.tup k (is.map .int)] = .ok (.own ((sortI is).map .int)) := by
  simp only [gSorted, mapM_i1]
  rfl
theorem g_sortL {is : List Int} : gSorted st [.lst (is.map .int)] = .ok (.own ((sortI is).map .int)) := by
  cases is with
  | nil => rfl
  | cons x xs =>
    have e : ((x :: xs).map D.int).mapM s1 = none := rfl
    simp only [gSorted, e, mapM_i1]
    rfl
theorem g_inL {α : Type} [DecidableEq α] {n : Nat} {e : α → D} (h : EqE n e) (hn : n ≤ 19) {neg : Bool} {x : α} {ys : List α} : gIn neg st [e x, .lst (ys.map e)] = .ok (.val (.bl (if neg then !decide (x ∈ ys) else decide (x ∈ ys)))) := by
  have h1 : Ev.shp 20 (e x) = true := shp_le (by omega) (h.shp x)
  have h2 : Ev.shp 20 (.lst (ys.map e)) = true := shp_le (by omega) ((eqE_lst h).shp ys)
  have h3 : ((ys.map e).any fun z => eqD z (e x)) = decide (x ∈ ys) := by
    rw [List.any_map]
    rw [Bool.eq_iff_iff]
    simp only [List.any_eq_true, Function.comp_apply, h.eq, decide_eq_true_eq]
    exact ⟨fun ⟨z, hz, q⟩ => q ▸ hz, fun hx => ⟨x, hx, rfl⟩⟩
  have gi : gIn neg st [e x, .lst (ys.map e)] = if Ev.shp 20 (e x) && Ev.shp 20 (.lst (ys.map e)) then vB (let b := (ys.map e).any fun z => eqD z (e x); if neg then !b else b) else .stuck := by
    simp only [gIn]
  rw [gi, h1, h2, h3]
  rfl
end
theorem steps_ge : ∀ (k : Int) (us : List (List (List Str))), ∀ t ∈ stepsOf k us, k ≤ t.1
  | _, [], t, h => by cases h
  | k, u :: us, t, h => by
    unfold stepsOf at h
    rcases List.mem_append.mp h with q | q
    · obtain ⟨s, _, rfl⟩ := List.mem_map.mp q
      exact Int.le_refl _
    · have := steps_ge (k + 1) us t q
      omega
theorem steps_lt : ∀ (k : Int) (us : List (List (List Str))), ∀ t ∈ stepsOf k us, t.1 < k + us.length
  | _, [], t, h => by cases h
  | k, u :: us, t, h => by
    unfold stepsOf at h
    rw [List.length_cons]
    rcases List.mem_append.mp h with q | q
    · obtain ⟨s, _, rfl⟩ := List.mem_map.mp q
      simp only
      omega
    · have := steps_lt (k + 1) us t q
      omega
theorem steps_pw : ∀ (k : Int) (us : List (List (List Str))), (stepsOf k us).Pairwise fun a b => a.1 ≤ b.1
  | _, [] => List.Pairwise.nil
  | k, u :: us => by
    unfold stepsOf
    refine List.pairwise_append.mpr ⟨?_, steps_pw (k + 1) us, fun a ha b hb => ?_⟩
    · rw [List.pairwise_map]
      exact List.pairwise_of_forall (fun _ _ => Int.le_refl _)
    · obtain ⟨s, _, rfl⟩ := List.mem_map.mp ha
      have := steps_ge (k + 1) us b hb
      simp only
      omega
theorem fold_mem (f : Str) : ∀ (ts : List (Int × List Str)) (v : Int), ts.foldl (fun v t => if f ∈ t.2 then t.1 else v) v = v ∨ ∃ t ∈ ts, ts.foldl (fun v t => if f ∈ t.2 then t.1 else v) v = t.1
  | [], v => .inl rfl
  | t :: ts, v => by
    rw [List.foldl_cons]
    rcases fold_mem f ts (if f ∈ t.2 then t.1 else v) with q | ⟨t', h, q⟩
    · rw [q]
      by_cases hf : f ∈ t.2
      · rw [if_pos hf]
        exact .inr ⟨t, List.mem_cons_self, rfl⟩
      · rw [if_neg hf]
        exact .inl rfl
    · exact .inr ⟨t', List.mem_cons_of_mem _ h, q⟩
theorem ver_mem (ts : List (Int × List Str)) (f : Str) : ver ts f = 0 ∨ ∃ t ∈ ts, ver ts f = t.1 := fold_mem f ts 0
theorem ver_range {us : List (List (List Str))} {f : Str} {m : Nat} : 0 ≤ ver ((stepsOf 1 us).take m) f ∧ ver ((stepsOf 1 us).take m) f ≤ us.length := by
  rcases ver_mem ((stepsOf 1 us).take m) f with q | ⟨t, h, q⟩
  · rw [q]; omega
  · have h1 := steps_ge 1 us t (List.mem_of_mem_take h)
    have h2 := steps_lt 1 us t (List.mem_of_mem_take h)
    rw [q]; omega
theorem ver_step {us : List (List (List Str))} {f : Str} {m : Nat} : ver ((stepsOf 1 us).take m) f ≤ ver ((stepsOf 1 us).take (m + 1)) f := by
  by_cases hm : m < (stepsOf 1 us).length
  · rw [List.take_succ, List.getElem?_eq_getElem hm]
    show _ ≤ ver ((stepsOf 1 us).take m ++ [(stepsOf 1 us)[m]]) f
    rw [ver_snoc]
    split
    · rcases ver_mem ((stepsOf 1 us).take m) f with q | ⟨t, h, q⟩
      · have := steps_ge 1 us _ (List.getElem_mem hm)
        rw [q]; omega
      · rw [q]
        obtain ⟨i, hi, rfl⟩ := List.mem_iff_getElem.mp h
        rw [List.length_take] at hi
        rw [List.getElem_take]
        exact List.pairwise_iff_getElem.mp (steps_pw 1 us) i m (by omega) hm (by omega)
    · exact Int.le_refl _
  · rw [List.take_of_length_le (by omega), List.take_of_length_le (by omega)]
    exact Int.le_refl _
theorem ver_mono {us : List (List (List Str))} {f : Str} {m n : Nat} (h : m ≤ n) : ver ((stepsOf 1 us).take m) f ≤ ver ((stepsOf 1 us).take n) f := by
  induction h with
  | refl => exact Int.le_refl _
  | step _ ih => exact Int.le_trans ih ver_step
theorem col_at {us : List (List (List Str))} {f : Str} {m : Nat} {v : Int} (h : (col us f)[m]? = some v) : m ≤ (stepsOf 1 us).length ∧ v = ver ((stepsOf 1 us).take m) f := by
  have hm : m < (col us f).length := (List.getElem?_eq_some_iff.mp h).1
  rw [colT_len] at hm
  rw [colT_get _ _ (by omega)] at h
  exact ⟨by omega, (Option.some.inj h).symm⟩
theorem col_ge {us : List (List (List Str))} {f : Str} {v : Int} (h : v ∈ col us f) : 0 ≤ v ∧ v ≤ us.length := by
  obtain ⟨i, hi⟩ := List.mem_iff_getElem?.mp h
  rw [(col_at hi).2]
  exact ver_range
theorem asc_len : ∀ {l : List Int} {lo hi : Int}, l.Pairwise (· < ·) → (∀ x ∈ l, lo ≤ x ∧ x ≤ hi) → (l.length : Int) ≤ max 0 (hi - lo + 1)
  | [], _, _, _, _ => by simp; omega
  | x :: xs, lo, hi, h, h2 => by
    rw [List.pairwise_cons] at h
    have hx := h2 x List.mem_cons_self
    have := asc_len (lo := x + 1) (hi := hi) h.2 fun y hy => ⟨by have := h.1 y hy; omega, (h2 y (List.mem_cons_of_mem _ hy)).2⟩
    rw [List.length_cons]
    omega
theorem vers_len (us : List (List (List Str))) (f : Str) : (setI (col us f)).length ≤ us.length + 1 := by
  have := asc_len (lo := 0) (hi := us.length) (setI_pw (col us f)) fun x hx => col_ge ((setI_mem x _).mp hx)
  omega
def idxs (c : List Int) (n : Int) : List Nat := (c.zipIdx.filter fun p => p.1 == n).map (·.2)
theorem mem_idxs {c : List Int} {n : Int} {m : Nat} : m ∈ idxs c n ↔ c[m]? = some n := by
  unfold idxs
  constructor
  · intro h
    obtain ⟨⟨v, i⟩, hp, rfl⟩ := List.mem_map.mp h
    obtain ⟨h1, h2⟩ := List.mem_filter.mp hp
    have := List.mem_zipIdx_iff_getElem?.mp h1
    simp only at this h2 ⊢
    rw [this, eq_of_beq h2]
  · intro h
    exact List.mem_map.mpr ⟨(n, m), List.mem_filter.mpr ⟨List.mem_zipIdx_iff_getElem?.mpr h, beq_self_eq_true n⟩, rfl⟩
theorem idxs_pw (c : List Int) (n : Int) : (idxs c n).Pairwise (· < ·) := by
  have h : (c.zipIdx.map (·.2)).Pairwise (· < ·) := by
    rw [List.zipIdx_map_snd]
    exact List.pairwise_lt_range'
  exact h.sublist (List.filter_sublist.map _)
def spn (c : List Int) (n : Int) : Nat × Nat := ((idxs c n).head?.getD 0, (idxs c n).getLast?.getD 0)
theorem last_ge : ∀ {l : List Nat}, l.Pairwise (· < ·) → ∀ m ∈ l, m ≤ l.getLast?.getD 0
  | [], _, m, h => by cases h
  | [x], _, m, h => by
    rw [List.mem_singleton.mp h]
    exact Nat.le_refl _
  | x :: y :: l, hp, m, h => by
    rw [List.pairwise_cons] at hp
    have ih := last_ge hp.2
    rw [List.getLast?_cons_cons]
    rcases List.mem_cons.mp h with e | e
    · have := hp.1 y List.mem_cons_self
      have := ih y List.mem_cons_self
      omega
    · exact ih m e
theorem spn_of {c : List Int} {n : Int} {m : Nat} (h : c[m]? = some n) : (spn c n).1 ≤ m ∧ m ≤ (spn c n).2 ∧ c[(spn c n).1]? = some n ∧ c[(spn c n).2]? = some n := by
  have hm := mem_idxs.mpr h
  have hp := idxs_pw c n
  unfold spn
  cases hl : idxs c n with
  | nil => rw [hl] at hm; cases hm
  | cons a l =>
    rw [hl] at hm hp
    refine ⟨?_, last_ge hp m hm, mem_idxs.mp (by rw [hl]; exact List.mem_cons_self), mem_idxs.mp ?_⟩
    · rcases List.mem_cons.mp hm with e | e
      · rw [e]; exact Nat.le_refl _
      · exact Nat.le_of_lt ((List.pairwise_cons.mp hp).1 m e)
    · rw [hl, List.getLast?_eq_some_getLast (List.cons_ne_nil _ _)]
      exact List.getLast_mem _
theorem spn_in {us : List (List (List Str))} {f : Str} {n : Int} {m k : Nat} (h : (col us f)[m]? = some n) (h1 : (spn (col us f) n).1 ≤ k) (h2 : k ≤ (spn (col us f) n).2) : (col us f)[k]? = some n := by
  obtain ⟨_, _, e1, e2⟩ := spn_of h
  obtain ⟨l1, v1⟩ := col_at e1
  obtain ⟨l2, v2⟩ := col_at e2
  rw [colT_get _ _ (by omega)]
  have a1 := ver_mono (us := us) (f := f) h1
  have a2 := ver_mono (us := us) (f := f) h2
  rw [← v1] at a1
  rw [← v2] at a2
  congr 1
  omega
end Ev
set_option Elab.async false
set_option maxRecDepth 100000
set_option maxHeartbeats 1000000
namespace Ev
open PySem
abbrev TN2 (p : Nat × Nat) : D := .tup false [.int p.1, .int p.2]
section
variable {J : Ix} {C : Cl} (hJ : PlanJ J)
def PVersionsS (J : Ix) (f : Fnl) : Prop := ∀ st fs us (x : Str), x ∈ fs → PlOk fs us → (stepsOf 1 us).length < 63 → f [insP J fs us, .str x] st = .ok (.own ((setI (col us x)).map .int), st)
theorem pVersions_spec (hm : (J.mt "column").lookup (J.cl "Plan") = some (J.fn "Plan.column")) (hC : PColumnS J (C (J.fn "Plan.column"))) : PVersionsS J (runF 2 (B_Plan_versions J) C) := by
  intro st fs us x hx hk hl
  have h1 : (col us x).length < 64 := by rw [colT_len]; omega
  simp [B_Plan_versions, hm, hC st fs us x hx hk, g_ss h1]
def PSpanS (J : Ix) (f : Fnl) : Prop := ∀ st fs us (x : Str) (n : Int), x ∈ fs → PlOk fs us → n ∈ col us x → f [insP J fs us, .str x, .int n] st = .ok (.val (TN2 (spn (col us x) n)), st)
theorem pSpan_spec (hm : (J.mt "column").lookup (J.cl "Plan") = some (J.fn "Plan.column")) (hC : PColumnS J (C (J.fn "Plan.column"))) : PSpanS J (runF 6 (B_Plan_span J) C) := by
  intro st fs us x n hx hk hn
  have hs := hk.steps
  have z2 : (2 : Nat) ≤ szL := by decide
  obtain ⟨i, hi⟩ := List.mem_iff_getElem?.mp hn
  have hmem := mem_idxs.mpr hi
  have hne : idxs (col us x) n ≠ [] := fun e => by rw [e] at hmem; cases hmem
  obtain ⟨a, ha⟩ : ∃ a, (idxs (col us x) n).head? = some a := by
    cases hl : idxs (col us x) n with
    | nil => exact absurd hl hne
    | cons a l => exact ⟨a, rfl⟩
  have hb := List.getLast?_eq_some_getLast hne
  refine run_eq ?_
  unfold B_Plan_span
  refine seq_eq (s1 := ⟨[some (.val (insP J fs us)), some (.val (.str x)), some (.val (.int n)), some (.val (.lst ((idxs (col us x) n).map fun (k : Nat) => D.int k))), none, none], st⟩) ?_ ?_
  · rw [Res.eq_sat]
    simp [Res.sat_bind]
    refine lc_filterT (col us x).zipIdx (fun p => D.tup false [.int (0 + (p.2 : Nat)), .int p.1]) (fun p => p.1 == n) (fun p => .int (p.2 : Nat)) (by simp [hm, hC st fs us x hx hk, enumL_map]) (by rw [szL_val]; simp [colT_len]; omega) (by simp) ?_ ?_
    · rintro ⟨v, k⟩ hv
      by_cases hvn : v = n
      · simp [g_eq eqE_int, hvn]
      · simp [g_eq eqE_int, hvn]
    · simp [Res.sat_ok, idxs]
  have hl0 : (idxs (col us x) n).length ≠ 0 := fun e => hne (List.length_eq_zero_iff.mp e)
  refine seq_eq (by simp [g_eq eqE_int, hne] <;> rfl) ?_
  have h0 : (idxs (col us x) n)[0]? = some a := by rw [← List.head?_eq_getElem?]; exact ha
  simp [z2, h0, hb, Res.sat_ok, spn, ha]
def PSpansS (J : Ix) (f : Fnl) : Prop := ∀ st fs us (xs : List Str) (ns : List Int), PlOk fs us → xs.length < 100000 → (∀ p ∈ xs.zip ns, p.1 ∈ fs ∧ p.2 ∈ col us p.1) → f [insP J fs us, TS xs, TI ns] st = .ok (.own ((xs.zip ns).map fun p => TN2 (spn (col us p.1) p.2)), st)
theorem pSpans_spec (hm : (J.mt "span").lookup (J.cl "Plan") = some (J.fn "Plan.span")) (hC : PSpanS J (C (J.fn "Plan.span"))) : PSpansS J (runF 5 (B_Plan_spans J) C) := by
  intro st fs us xs ns hk hl h
  refine run_eq ?_
  unfold B_Plan_spans
  simp [Res.sat_bind]
  refine lc_mapT (xs.zip ns) (fun p => D.tup false [.str p.1, .int p.2]) (fun p => TN2 (spn (col us p.1) p.2)) (by simp [TS, TI, zipL_map]) (by rw [szL_val]; simp; omega) (by simp) ?_ ?_
  · rintro ⟨x, n⟩ hp
    obtain ⟨h1, h2⟩ := h _ hp
    simp [hm, hC st fs us x n h1 hk h2]
  · simp [Res.sat_ok]
/-- data of an order; of a mix -/
structure IsTS (d : D) (xs : List Str) : Prop where
  ok : dOk 5 d = true
  eq : nrm d = TS xs
structure IsTI (d : D) (xs : List Int) : Prop where
  ok : dOk 5 d = true
  eq : nrm d = TI xs
theorem isTS_TS {xs : List Str} (h : xs.length ≤ 100000) : IsTS (TS xs) xs := ⟨dOk_TS h, nrm_TS xs⟩
theorem isTI_TI {xs : List Int} (h : xs.length ≤ 100000) : IsTI (TI xs) xs := ⟨dOk_TI h, nrm_TI xs⟩
def PCheckOrderS (J : Ix) (f : Fnl) : Prop := ∀ st d fs us (xs : List Str), IsTS d xs → (∀ x ∈ xs, x ∈ fs) → f [insP J fs us, d] st = .ok (.val (TS xs), st)
theorem pCheckOrder_spec (hT : TupledS (C (J.fn "tupled")) 5) (hm : (J.mt "check_file").lookup (J.cl "Plan") = some (J.fn "Plan.check_file")) (hC : PCheckFileS J (C (J.fn "Plan.check_file"))) : PCheckOrderS J (runF 4 (B_Plan_check_order J) C) := by
  intro st d fs us xs hd h
  refine run_eq ?_
  unfold B_Plan_check_order
  refine seq_eq (by simp [hT st d hd.ok, hd.eq] <;> rfl) ?_
  refine seq_eq (forF_pre xs D.str (fun _ => []) (by simp <;> rfl) rfl ?_) ?_
  · rintro p x q hp
    have hx : x ∈ fs := h x (by rw [hp]; simp)
    simp [hm, hC st fs us x hx]
  · simp [Res.sat_ok]
def PCheckMixS (J : Ix) (f : Fnl) : Prop := ∀ st d fs us (xs : List Str) (ns : List Int), PlOk fs us → (stepsOf 1 us).length < 63 → xs.length < 100000 → IsTI d ns → ns.length = xs.length → (∀ p ∈ xs.zip ns, p.1 ∈ fs ∧ p.2 ∈ col us p.1) → f [insP J fs us, TS xs, d] st = .ok (.val (TI ns), st)
theorem pCheckMix_spec (hT : TupledS (C (J.fn "tupled")) 5) (hm : (J.mt "versions").lookup (J.cl "Plan") = some (J.fn "Plan.versions")) (hC : PVersionsS J (C (J.fn "Plan.versions"))) : PCheckMixS J (runF 6 (B_Plan_check_mix J) C) := by
  intro st d fs us xs ns hk h63 hl hd hn h
  refine run_eq ?_
  unfold B_Plan_check_mix
  refine seq_eq (by simp [hT st d hd.ok, hd.eq] <;> rfl) ?_
  refine seq_eq (s1 := ⟨[some (.val (insP J fs us)), some (.val (TS xs)), some (.val d), some (.val (TI ns)), none, none], st⟩) ?_ ?_
  · rw [Res.eq_sat]
    simp [Res.sat_bind, hn, g_eq eqE_int]
    refine lc_mapT (xs.zip ns) (fun p => D.tup false [.str p.1, .int p.2]) (fun _ => D.bl true) (by simp [TS, TI, zipL_map]) (by rw [szL_val]; simp; omega) (by simp) ?_ ?_
    · rintro ⟨x, n⟩ hp
      obtain ⟨h1, h2⟩ := h _ hp
      simp only at h1 h2
      simp [hm, hC st fs us x h1 hk h63, g_inL eqE_int, setI_mem, h2]
    · have ga : gAll st [D.lst ((xs.zip ns).map fun _ => D.bl true)] = .ok (.val (.bl true)) := by
        have e : ((xs.zip ns).map fun _ => D.bl true) = ((xs.zip ns).map fun _ => true).map D.bl := by simp
        rw [e, g_all]
        simp
      simp [Res.sat_ok, Res.sat_bind, ga]
  · simp [Res.sat_ok]
theorem cut_1 (xs : List D) : cutD xs (some 1) none = xs.drop 1 := cut_drop xs 1
def topM (t : Nat) (sp : List (Nat × Nat)) : Nat := sp.foldl (fun t s => max t s.1) t
def scanM : Nat → List (Nat × Nat) → List Nat
  | _, [] => []
  | t, s :: r => max t s.1 :: scanM (max t s.1) r
theorem scanM_snoc : ∀ (t : Nat) (p : List (Nat × Nat)) (x : Nat × Nat), scanM t (p ++ [x]) = scanM t p ++ [max (topM t p) x.1]
  | t, [], x => rfl
  | t, s :: r, x => by
    show max t s.1 :: scanM (max t s.1) (r ++ [x]) = _
    rw [scanM_snoc]
    rfl
theorem scanM_last : ∀ (t : Nat) (p : List (Nat × Nat)), (t :: scanM t p).getLast? = some (topM t p)
  | t, [] => rfl
  | t, s :: r => by
    show (t :: max t s.1 :: scanM (max t s.1) r).getLast? = _
    rw [List.getLast?_cons_cons, scanM_last (max t s.1) r]
    rfl
theorem scanM_len : ∀ (t : Nat) (p : List (Nat × Nat)), (scanM t p).length = p.length
  | t, [] => rfl
  | t, s :: r => by
    show (scanM (max t s.1) r).length + 1 = _
    rw [scanM_len (max t s.1) r]
    rfl
def FirstS (f : Fnl) : Prop := ∀ st (sp : List (Nat × Nat)), sp.length < 100000 → (∀ p x q, sp = p ++ x :: q → topM 0 p ≤ x.2) → f [.lst (sp.map TN2)] st = .ok (.val (TI ((scanM 0 sp).map fun (k : Nat) => (k : Int))), st)
theorem first_spec : FirstS (runF 4 (B_first_moments J) C) := by
  intro st sp hl h
  have z1 : (1 : Nat) ≤ szL := by decide
  refine run_eq ?_
  unfold B_first_moments
  refine seq_eq (by simp [z1] <;> rfl) ?_
  refine seq_eq (forF_pre sp TN2 (fun p => [(1, .own ((0 :: scanM 0 p).map fun (k : Nat) => D.int k))]) (by simp <;> rfl) rfl ?_) ?_
  · rintro p ⟨a, b⟩ q hp
    have h1 := h p (a, b) q hp
    have hlast : ((0 :: scanM 0 p).map fun (k : Nat) => D.int k).getLast? = some (.int (topM 0 p : Nat)) := by
      rw [List.getLast?_map, scanM_last]
      rfl
    simp only at h1
    have h2 : ¬ ((b : Int) < (topM 0 p : Nat)) := by omega
    have hz : ((0 :: scanM 0 p).map fun (k : Nat) => D.int k).length < szL := by
      have := congrArg List.length hp
      simp at this
      simp [scanM_len]
      rw [szL_val]
      omega
    have hmx : (if (topM 0 p : Int) < (a : Int) then (a : Int) else (topM 0 p : Int)) = ((max (topM 0 p) a : Nat) : Int) := by split <;> omega
    generalize hL : ((0 :: scanM 0 p).map fun (k : Nat) => D.int k) = Lx at hlast hz
    have hL2 : ((0 :: scanM 0 (p ++ [(a, b)])).map fun (k : Nat) => D.int k) = Lx ++ [.int (max (topM 0 p) a : Nat)] := by
      rw [← hL, scanM_snoc]
      simp
    simp only [hL, hL2]
    simp [hlast, h2, hz]
    split <;> omega
  · simp [Res.sat_ok, cut_1, TI, Function.comp_def]
    exact sHd_nS (fun _ => rfl) _
end
end Ev
set_option Elab.async false
set_option maxRecDepth 100000
set_option maxHeartbeats 1000000
namespace Ev
open PySem
def spansO (us : List (List (List Str))) (xs : List Str) (ns : List Int) : List (Nat × Nat) := (xs.zip ns).map fun p => spn (col us p.1) p.2
/-- a plan, an order of it, a mix of it -/
structure Asked (d o m : D) (fs : List Str) (us : List (List (List Str))) (xs : List Str) (ns : List Int) : Prop where
  pl : IsPl d fs us
  ok : PlOk fs us
  sh : (stepsOf 1 us).length < 63
  os : IsTS o xs
  ms : IsTI m ns
  sub : ∀ x ∈ xs, x ∈ fs
  len : ns.length = xs.length
  ll : xs.length < 100000
  mem : ∀ p ∈ xs.zip ns, p.2 ∈ col us p.1
theorem Asked.mem2 {d o m : D} {fs : List Str} {us : List (List (List Str))} {xs : List Str} {ns : List Int} (h : Asked d o m fs us xs ns) : ∀ p ∈ xs.zip ns, p.1 ∈ fs ∧ p.2 ∈ col us p.1 := fun p hp => ⟨h.sub _ (List.of_mem_zip hp).1, h.mem p hp⟩
theorem spansO_len {us : List (List (List Str))} {xs : List Str} {ns : List Int} (h : ns.length = xs.length) : (spansO us xs ns).length = xs.length := by simp [spansO, h]
section
variable {J : Ix} {C : Cl}
def MomForS (f : Fnl) : Prop := ∀ st d o m fs us xs ns, Asked d o m fs us xs ns → (∀ p x q, spansO us xs ns = p ++ x :: q → topM 0 p ≤ x.2) → f [d, o, m] st = .ok (.val (TI ((scanM 0 (spansO us xs ns)).map fun (k : Nat) => (k : Int))), st)
theorem momFor_spec (hP : PlanInitS J (C (J.fn "Plan"))) (m1 : (J.mt "check_order").lookup (J.cl "Plan") = some (J.fn "Plan.check_order")) (h1 : PCheckOrderS J (C (J.fn "Plan.check_order"))) (m2 : (J.mt "check_mix").lookup (J.cl "Plan") = some (J.fn "Plan.check_mix")) (h2 : PCheckMixS J (C (J.fn "Plan.check_mix")))
    (m3 : (J.mt "spans").lookup (J.cl "Plan") = some (J.fn "Plan.spans")) (h3 : PSpansS J (C (J.fn "Plan.spans"))) (h4 : FirstS (C (J.fn "first_moments"))) : MomForS (runF 5 (B_moments_for J) C) := by
  intro st d o m fs us xs ns a h
  have e4 := h4 st (spansO us xs ns) (by rw [spansO_len a.len]; exact a.ll) h
  have e3 := h3 st fs us xs ns a.ok a.ll a.mem2
  have e5 : ((xs.zip ns).map fun p => TN2 (spn (col us p.1) p.2)) = (spansO us xs ns).map TN2 := by simp [spansO]
  rw [e5] at e3
  simp [B_moments_for, hP st d fs us a.pl a.ok, m1, m2, m3, h1 st o fs us xs a.os a.sub, h2 st m fs us xs ns a.ok a.sh a.ll a.ms a.len a.mem2, e3, e4]
def CanBeS (f : Fnl) : Prop := ∀ st d o m fs us xs ns, Asked d o m fs us xs ns → (∀ p x q, spansO us xs ns = p ++ x :: q → topM 0 p ≤ x.2) → f [d, o, m] st = .ok (.val (.bl true), st)
theorem canBe_spec (h1 : MomForS (C (J.fn "moments_for"))) : CanBeS (runF 3 (B_can_be J) C) := by
  intro st d o m fs us xs ns a h
  simp [B_can_be, h1 st d o m fs us xs ns a h, TI]
def BarNoS (f : Fnl) : Prop := ∀ st d o m fs us xs ns, Asked d o m fs us xs ns → (spansO us xs ns).Pairwise (fun a b => a.1 ≤ b.2) → f [d, o, m] st = .ok (.val .non, st)
theorem barNo_spec (hP : PlanInitS J (C (J.fn "Plan"))) (m1 : (J.mt "check_order").lookup (J.cl "Plan") = some (J.fn "Plan.check_order")) (h1 : PCheckOrderS J (C (J.fn "Plan.check_order"))) (m2 : (J.mt "check_mix").lookup (J.cl "Plan") = some (J.fn "Plan.check_mix")) (h2 : PCheckMixS J (C (J.fn "Plan.check_mix")))
    (m3 : (J.mt "spans").lookup (J.cl "Plan") = some (J.fn "Plan.spans")) (h3 : PSpansS J (C (J.fn "Plan.spans"))) : BarNoS (runF 10 (B_barred J) C) := by
  intro st d o m fs us xs ns a h
  have e3 := h3 st fs us xs ns a.ok a.ll a.mem2
  have e5 : ((xs.zip ns).map fun p => TN2 (spn (col us p.1) p.2)) = (spansO us xs ns).map TN2 := by simp [spansO]
  rw [e5] at e3
  have hl : (spansO us xs ns).length < 100000 := by rw [spansO_len a.len]; exact a.ll
  generalize spansO us xs ns = sp at h e3 hl
  refine run_eq ?_
  unfold B_barred
  refine seq_eq (by simp [hP st d fs us a.pl a.ok] <;> rfl) ?_
  refine seq_eq (by simp [m1, h1 st o fs us xs a.os a.sub] <;> rfl) ?_
  refine seq_eq (by simp [m2, m3, h2 st m fs us xs ns a.ok a.sh a.ll a.ms a.len a.mem2, e3] <;> rfl) ?_
  refine seq_eq (forF_pre sp.zipIdx (fun p => D.tup false [.int (0 + (p.2 : Nat)), TN2 p.1]) (fun _ => []) (by simp [enumL_map] <;> rfl) rfl ?_) ?_
  · rintro p ⟨s, i⟩ q hp
    have hi : sp[i]? = some s := by
      have : (s, i) ∈ sp.zipIdx := by rw [hp]; simp
      exact List.mem_zipIdx_iff_getElem?.mp this
    have hil : i < sp.length := (List.getElem?_eq_some_iff.mp hi).1
    have g1 : okR ((i : Int) + 1) = true := okR_of (by omega) (by omega)
    have g2 : okR (sp.length : Int) = true := okR_of (by omega) (by omega)
    have g3 : rgOk ((i : Int) + 1) (sp.length : Int) = true := rgOk_of (by omega) (by omega) (by omega) (by omega)
    have g4 : ((sp.length : Int) - ((i : Int) + 1)).toNat = sp.length - (i + 1) := by omega
    refine turn_eq (by simp <;> rfl) ?_
    refine seq_eq (forF_pre (List.range (sp.length - (i + 1))) (fun (k : Nat) => D.int ((i : Int) + 1 + k)) (fun _ => []) (by simp [g1, g2, g3, g4, rngL_map] <;> rfl) rfl ?_) ?_
    · rintro p2 k q2 hp2
      have hk : k < sp.length - (i + 1) := by
        have : k ∈ List.range (sp.length - (i + 1)) := by rw [hp2]; simp
        exact List.mem_range.mp this
      obtain ⟨L, hL⟩ : ∃ L : Nat, L = i + 1 + k := ⟨_, rfl⟩
      have iL : (i : Int) + 1 + (k : Int) = (L : Int) := by omega
      have hLl : L < sp.length := by omega
      have hge := List.pairwise_iff_getElem.mp h i L hil hLl (by omega)
      have hs : s = sp[i] := by
        rw [List.getElem?_eq_getElem hil] at hi
        exact (Option.some.inj hi).symm
      have h5 : ¬ (((sp[L]).2 : Int) < ((s.1 : Nat) : Int)) := by rw [hs]; omega
      simp [iL, atI_map, atI_nat, List.getElem?_eq_getElem hLl, h5]
    · simp [Res.sat_ok]
  · simp [Res.sat_ok]
end
end Ev
set_option Elab.async false
set_option maxRecDepth 100000
set_option maxHeartbeats 1000000
namespace Ev
open PySem
/-- the mixes of an order with their least last moments, file by file -/
def mixOne (us : List (List (List Str))) (x : Str) (p : List Int × Nat) : List (List Int × Nat) := (setI (col us x)).filterMap fun n => if p.2 ≤ (spn (col us x) n).2 then some (p.1 ++ [n], max p.2 (spn (col us x) n).1) else none
def mixStep (us : List (List (List Str))) (f : List (List Int × Nat)) (x : Str) : List (List Int × Nat) := f.flatMap (mixOne us x)
def mixM (us : List (List (List Str))) (xs : List Str) : List (List Int × Nat) := xs.foldl (mixStep us) [([], 0)]
theorem mixM_snoc (us : List (List (List Str))) (xs : List Str) (x : Str) : mixM us (xs ++ [x]) = mixStep us (mixM us xs) x := by
  unfold mixM
  rw [List.foldl_append]
  rfl
theorem mixOne_len (us : List (List (List Str))) (x : Str) (p : List Int × Nat) : (mixOne us x p).length ≤ us.length + 1 := Nat.le_trans (List.length_filterMap_le _ _) (vers_len us x)
theorem flat_len {α β : Type} {g : α → List β} {k : Nat} (h : ∀ x, (g x).length ≤ k) : ∀ l : List α, (l.flatMap g).length ≤ l.length * k
  | [] => by simp
  | x :: l => by
    rw [List.flatMap_cons, List.length_append, List.length_cons, Nat.succ_mul]
    have := h x
    have := flat_len h l
    omega
theorem mixM_len (us : List (List (List Str))) : ∀ (n : Nat) (xs : List Str), xs.length = n → (mixM us xs).length ≤ (us.length + 1) ^ n
  | 0, xs, h => by
    have := List.length_eq_zero_iff.mp h
    subst this
    simp [mixM]
  | n + 1, xs, h => by
    have hne : xs ≠ [] := fun e => by rw [e] at h; cases h
    obtain ⟨ys, y, rfl⟩ : ∃ ys y, xs = ys ++ [y] := ⟨xs.dropLast, xs.getLast hne, (List.dropLast_concat_getLast hne).symm⟩
    rw [List.length_append, List.length_singleton] at h
    rw [mixM_snoc, Nat.pow_succ]
    exact Nat.le_trans (flat_len (mixOne_len us y) _) (Nat.mul_le_mul_right _ (mixM_len us n ys (by omega)))
theorem mixM_items (us : List (List (List Str))) : ∀ (n : Nat) (xs : List Str), xs.length = n → ∀ p ∈ mixM us xs, p.1.length = n
  | 0, xs, h, p, hp => by
    have := List.length_eq_zero_iff.mp h
    subst this
    rw [show mixM us [] = [([], 0)] from rfl, List.mem_singleton] at hp
    rw [hp]
    rfl
  | n + 1, xs, h, p, hp => by
    have hne : xs ≠ [] := fun e => by rw [e] at h; cases h
    obtain ⟨ys, y, rfl⟩ : ∃ ys y, xs = ys ++ [y] := ⟨xs.dropLast, xs.getLast hne, (List.dropLast_concat_getLast hne).symm⟩
    rw [List.length_append, List.length_singleton] at h
    rw [mixM_snoc] at hp
    obtain ⟨q, hq, h2⟩ := List.mem_flatMap.mp hp
    obtain ⟨v, _, h3⟩ := List.mem_filterMap.mp h2
    split at h3
    · rw [← Option.some.inj h3]
      simp [mixM_items us n ys (by omega) q hq]
    · cases h3
def encM (p : List Int × Nat) : D := .tup false [TI p.1, .int p.2]
section
variable {J : Ix} {C : Cl}
def FoundS (J : Ix) (f : Fnl) : Prop := ∀ st fs us (xs : List Str), PlOk fs us → (stepsOf 1 us).length < 63 → (∀ x ∈ xs, x ∈ fs) → xs.length < 1000 → (us.length + 1) ^ xs.length < 10000000 → f [insP J fs us, TS xs] st = .ok (.own ((mixM us xs).map fun p => TI p.1), st)
theorem found_spec (m1 : (J.mt "versions").lookup (J.cl "Plan") = some (J.fn "Plan.versions")) (h1 : PVersionsS J (C (J.fn "Plan.versions"))) (m2 : (J.mt "span").lookup (J.cl "Plan") = some (J.fn "Plan.span")) (h2 : PSpanS J (C (J.fn "Plan.span"))) : FoundS J (runF 10 (B_found_mixes J) C) := by
  intro st fs us xs hk h63 hsub hl hz
  have z0 : (0 : Nat) ≤ szL := Nat.zero_le _
  have z1 : (1 : Nat) ≤ szL := by decide
  have z2 : (2 : Nat) ≤ szL := by decide
  refine run_eq ?_
  unfold B_found_mixes
  refine seq_eq (s1 := ⟨[some (.val (insP J fs us)), some (.val (TS xs)), some (.val (.lst ((mixM us []).map encM))), none, none, none, none, none, none, none], st⟩) (by simp [z0, z1, z2, mixM, encM, TI] <;> rfl) ?_
  refine seq_eq (forF_pre xs D.str (fun p => [(2, .val (.lst ((mixM us p).map encM)))]) (by simp <;> rfl) rfl ?_) ?_
  · rintro p x q hp
    have hx : x ∈ fs := hsub x (by rw [hp]; simp)
    have hpl : p.length + 1 ≤ xs.length := by
      have := congrArg List.length hp
      simp at this
      omega
    have hB : (mixM us p).length * (us.length + 1) < 10000000 := by
      have q1 := mixM_len us p.length p rfl
      have q2 : (mixM us p).length * (us.length + 1) ≤ (us.length + 1) ^ p.length * (us.length + 1) := Nat.mul_le_mul_right _ q1
      rw [← Nat.pow_succ] at q2
      have q3 : (us.length + 1) ^ p.length.succ ≤ (us.length + 1) ^ xs.length := Nat.pow_le_pow_right (by omega) hpl
      omega
    have hit := mixM_items us p.length p rfl
    have hst : mixM us (p ++ [x]) = (mixM us p).flatMap (mixOne us x) := mixM_snoc us p x
    rw [hst]
    generalize mixM us p = F at hB hit
    refine turn_eq (by simp <;> rfl) ?_
    refine seq_eq (by simp <;> rfl) ?_
    refine seq_eq (forF_pre F encM (fun p2 => [(4, .own ((p2.flatMap (mixOne us x)).map encM))]) (by simp <;> rfl) rfl ?_) ?_
    · rintro p2 ⟨mx, t⟩ q2 hp2
      have hmx : mx.length < 1000 := by
        have := hit (mx, t) (by rw [hp2]; simp)
        simp only at this
        omega
      have hz2 : (p2.flatMap (mixOne us x)).length + (us.length + 1) ≤ 10000000 := by
        have a1 := flat_len (mixOne_len us x) p2
        have a2 : (p2.length + 1) * (us.length + 1) ≤ F.length * (us.length + 1) := Nat.mul_le_mul_right _ (by
          have := congrArg List.length hp2
          simp at this
          omega)
        rw [Nat.succ_mul] at a2
        omega
      rw [List.flatMap_append, List.flatMap_singleton]
      generalize p2.flatMap (mixOne us x) = Acc at hz2
      refine turn_eq (by simp [encM] <;> rfl) ?_
      refine seq_eq (forF_pre (setI (col us x)) D.int (fun p3 => [(4, .own ((Acc ++ p3.filterMap fun n => if t ≤ (spn (col us x) n).2 then some (mx ++ [n], max t (spn (col us x) n).1) else none).map encM))]) (by simp [m1, h1 st fs us x hx hk h63] <;> rfl) (by simp) ?_) ?_
      · rintro p3 n q3 hp3
        have hn : n ∈ col us x := (setI_mem n _).mp (by rw [hp3]; simp)
        have hz3 : (Acc ++ p3.filterMap fun n => if t ≤ (spn (col us x) n).2 then some (mx ++ [n], max t (spn (col us x) n).1) else none).length < szL := by
          have b1 := List.length_filterMap_le (fun n => if t ≤ (spn (col us x) n).2 then some (mx ++ [n], max t (spn (col us x) n).1) else none) p3
          have b2 := vers_len us x
          have := congrArg List.length hp3
          simp at this
          rw [List.length_append, szL_val]
          omega
        rw [List.filterMap_append, ← List.append_assoc]
        generalize hA : (Acc ++ p3.filterMap fun n => if t ≤ (spn (col us x) n).2 then some (mx ++ [n], max t (spn (col us x) n).1) else none) = A3 at hz3
        have hmz : mx.length + 1 ≤ szL := by rw [szL_val]; omega
        refine turn_eq (by simp <;> rfl) ?_
        refine seq_eq (by simp [m2, h2 st fs us x n hx hk hn] <;> rfl) ?_
        by_cases ht : t ≤ (spn (col us x) n).2
        · have ht' : (t : Int) ≤ ((spn (col us x) n).2 : Int) := by omega
          have hmm : (if (t : Int) < ((spn (col us x) n).1 : Int) then ((spn (col us x) n).1 : Int) else (t : Int)) = ((max t (spn (col us x) n).1 : Nat) : Int) := by split <;> omega
          simp [ht, hz3, hmz, z2, Res.sat_ok, encM, TI, sHd_app]
          split <;> omega
        · simp [ht, Res.sat_ok]
      · simp [Res.sat_ok, mixOne]
    · simp [Res.sat_ok]
  · have hzl : (mixM us xs).length ≤ szL := by
      have := mixM_len us xs.length xs rfl
      rw [szL_val]
      omega
    simp [Res.sat_bind]
    refine lc_mapT (mixM us xs) encM (fun p => TI p.1) (by simp) hzl (by simp) ?_ ?_
    · rintro ⟨mx, t⟩ hp
      simp [encM]
    · simp [Res.sat_ok]
def MixesS (f : Fnl) : Prop := ∀ st d o fs us (xs : List Str), IsPl d fs us → PlOk fs us → (stepsOf 1 us).length < 63 → IsTS o xs → (∀ x ∈ xs, x ∈ fs) → xs.length < 1000 → (us.length + 1) ^ xs.length < 10000000 → f [d, o] st = .ok (.own ((mixM us xs).map fun p => TI p.1), st)
theorem mixes_spec (hP : PlanInitS J (C (J.fn "Plan"))) (m1 : (J.mt "check_order").lookup (J.cl "Plan") = some (J.fn "Plan.check_order")) (h1 : PCheckOrderS J (C (J.fn "Plan.check_order"))) (h2 : FoundS J (C (J.fn "found_mixes"))) : MixesS (runF 3 (B_mixes J) C) := by
  intro st d o fs us xs hp hk h63 ho hs hl hz
  simp [B_mixes, hP st d fs us hp hk, m1, h1 st o fs us xs ho hs, h2 st fs us xs hk h63 hs hl hz]
/-- a drawn order -/
def OrderS (f : Fnl) : Prop := ∀ st n m (fs : List Str) (many : Int) (ag : Bool), Box st n m → m + 2000 < big → fs ≠ [] → fs.length < 60 → 0 ≤ many → many ≤ 100 →
  ∃ (xs : List Str) (st' : List (List D)), f [.cell n, TS fs, .int many, .bl ag] st = .ok (.val (TS xs), st') ∧ (∀ x ∈ xs, x ∈ fs) ∧ (xs.length : Int) ≤ many ∧ (0 < many → xs ≠ []) ∧ Box st' n (m + 1000) ∧ Kp st st' n
theorem order_spec (hP : PickS (C (J.fn "_law_pick"))) (hO : OfS (C (J.fn "_law_of"))) : OrderS (runF 5 (B__law_order J) C) := by
  intro st n m fs many ag hb hm hne hfl h0 h1
  rw [big_eq] at hm
  cases ag with
  | false =>
    obtain ⟨l, st', e1, hl, ⟨rest, hp⟩, hb', hk⟩ := hP st n m (TS fs) (fs.map .str) many hb (by rw [big_eq]; simp; omega) (.inr ⟨_, rfl⟩) (by simp; omega) (by omega) (by omega)
    obtain ⟨l, rs, rfl, rfl, hq⟩ := perm_str hp
    clear hp
    simp only [List.length_map] at hl hb'
    refine ⟨l, st', ?_, fun x hx => hq.subset (List.mem_append_left _ hx), by omega, fun hm e => ?_, hb'.mono (by omega), hk⟩
    · simp [B__law_order, e1]
      rfl
    · rw [e] at hl
      have : fs.length ≠ 0 := fun e => hne (List.length_eq_zero_iff.mp e)
      simp at hl
      omega
  | true =>
    have g : okR many = true := okR_of (by omega) (by omega)
    have hl : ((fs.map D.str).length : Int) < 1000000000 := by simp; omega
    refine ex_sat (fun xs => .val (TS xs)) (fun xs st' => (∀ x ∈ xs, x ∈ fs) ∧ (xs.length : Int) ≤ many ∧ (0 < many → xs ≠ []) ∧ Box st' n (m + 1000) ∧ Kp st st' n) ?_
    simp [B__law_order, Res.sat_bind]
    refine lc_sat (List.range many.toNat) (fun (k : Nat) => D.int (0 + k)) (fun p acc st2 => ∃ xs : List Str, acc = xs.map .str ∧ xs.length = p.length ∧ (∀ x ∈ xs, x ∈ fs) ∧ Box st2 n (m + p.length) ∧ Kp st st2 n) (by simp [g, rngL_map]; rfl) (by simp) ⟨[], rfl, rfl, by simp, by simpa using hb, Kp.refl _ _⟩ ?_ ?_
    · rintro p x q acc st2 hp ⟨xs, rfl, hlx, hx, hb2, hk2⟩
      have hp' : p.length < many.toNat := by
        have := congrArg List.length hp
        simp at this
        omega
      obtain ⟨y, st3, e1, hy, hb3, hk3⟩ := hO st2 n _ (.lst (fs.map .str)) (fs.map .str) hb2 (by rw [big_eq]; omega) (.inl rfl) (by simpa using hne) (by simp; omega)
      obtain ⟨z, hz, rfl⟩ := List.mem_map.mp hy
      have hzl : xs.length < szL := by rw [szL_val]; omega
      simp [TS] at e1 ⊢
      simp [e1, hzl, Res.sat_ok]
      refine ⟨xs ++ [z], by simp, by simp [hlx], fun w hw => ?_, hb3.mono (by omega), hk2.trans hk3⟩
      rcases List.mem_append.mp hw with q | q
      · exact hx w q
      · rw [List.mem_singleton.mp q]
        exact hz
    · rintro acc st2 ⟨xs, rfl, hlx, hx, hb2, hk2⟩
      simp at hlx hb2
      simp [Res.sat_ok]
      refine ⟨xs, rfl, hx, by omega, fun hm e => ?_, hb2.mono (by omega), hk2⟩
      rw [e] at hlx
      simp at hlx
      omega
end
end Ev
set_option Elab.async false
set_option maxRecDepth 100000
set_option maxHeartbeats 1000000
namespace Ev
open PySem
abbrev encN (p : Str × Str) : D := .tup true [.str p.1, .str p.2]
def TN (ps : List (Str × Str)) : D := .tup false (ps.map encN)
theorem encN_TS (p : Str × Str) : encN p = TS [p.1, p.2] := rfl
def wantM (us : List (List (List Str))) (b : Str) (n : Int) : Int := maxI ((setI (col us b)).filter fun v => decide (v ≤ n))
def selM (xs : List Str) (ns : List Int) (x : Str) : List Int := ((xs.zip ns).filter fun p => p.1 == x).map (·.2)
def isBrkM (us : List (List (List Str))) (xs : List Str) (ns : List Int) (nd : Str × Str) : Bool := (selM xs ns nd.1).any fun n => (selM xs ns nd.2).any fun i => decide (i < wantM us nd.2 n)
structure IsNd (d : D) (ps : List (Str × Str)) : Prop where
  ok : dOk 5 d = true
  eq : nrm d = TN ps
theorem nrm_TN (ps : List (Str × Str)) : nrm (TN ps) = TN ps := by
  unfold TN
  rw [nrm_tup, List.map_map]
  have e : (nrm ∘ encN : Str × Str → D) = encN := funext fun p => nrm_TS [p.1, p.2]
  rw [e, sHd_nS (fun _ => rfl)]
theorem isNd_TN {ps : List (Str × Str)} (h : ps.length ≤ 100000) : IsNd (TN ps) ps := ⟨by
  unfold TN
  simp only [dOk, Bool.and_eq_true, List.all_eq_true, Nat.ble_eq, List.length_map, List.mem_map, forall_exists_index, and_imp, forall_apply_eq_imp_iff₂]
  exact ⟨h, fun p _ => ⟨by simp, by simp [dOk]⟩⟩, nrm_TN ps⟩
theorem col0 (us : List (List (List Str))) (f : Str) : (0 : Int) ∈ col us f := List.mem_of_getElem? (i := 0) (by rw [colT_get _ _ (Nat.zero_le _)]; rfl)
theorem g_maxL {st : List (List D)} {is : List Int} (h : is ≠ []) : gMax2 st [.lst (is.map .int)] = .ok (.val (.int (maxI is))) := by
  have : 0 < is.length := List.length_pos_iff.mpr h
  simp only [gMax2, mapM_i1]
  show (if 0 < is.length then _ else _) = _
  rw [if_pos this]
  rfl
section
variable {J : Ix} {C : Cl}
def ChkNeedsS (J : Ix) (f : Fnl) : Prop := ∀ st d fs us ps, IsNd d ps → (∀ p ∈ ps, p.1 ∈ fs ∧ p.2 ∈ fs) → f [insP J fs us, d] st = .ok (.val (TN ps), st)
theorem chkNeeds_spec (hT : TupledS (C (J.fn "tupled")) 5) (m1 : (J.mt "check_order").lookup (J.cl "Plan") = some (J.fn "Plan.check_order")) (h1 : PCheckOrderS J (C (J.fn "Plan.check_order"))) : ChkNeedsS J (runF 4 (B_checked_needs J) C) := by
  intro st d fs us ps hd h
  refine run_eq ?_
  unfold B_checked_needs
  refine seq_eq (by simp [hT st d hd.ok, hd.eq] <;> rfl) ?_
  refine seq_eq (forF_pre ps encN (fun _ => []) (by simp [TN] <;> rfl) rfl ?_) ?_
  · rintro p x q hp
    have hx := h x (by rw [hp]; simp)
    have e := h1 st (encN x) fs us [x.1, x.2] (show IsTS (encN x) [x.1, x.2] from isTS_TS (xs := [x.1, x.2]) (by simp only [List.length_cons, List.length_nil]; omega)) (by simp [hx.1, hx.2])
    simp [m1, e]
  · simp [Res.sat_ok, TN]
def WantedS (J : Ix) (f : Fnl) : Prop := ∀ st fs us (b : Str) (n : Int), b ∈ fs → PlOk fs us → (stepsOf 1 us).length < 63 → 0 ≤ n → f [insP J fs us, .str b, .int n] st = .ok (.val (.int (wantM us b n)), st)
theorem wanted_spec (m1 : (J.mt "versions").lookup (J.cl "Plan") = some (J.fn "Plan.versions")) (h1 : PVersionsS J (C (J.fn "Plan.versions"))) : WantedS J (runF 4 (B_wanted J) C) := by
  intro st fs us b n hb hk h63 hn
  have hne : ((setI (col us b)).filter fun v => decide (v ≤ n)) ≠ [] := fun e => by
    have : (0 : Int) ∈ ((setI (col us b)).filter fun v => decide (v ≤ n)) := List.mem_filter.mpr ⟨(setI_mem _ _).mpr (col0 us b), by simpa using hn⟩
    rw [e] at this
    cases this
  refine run_eq ?_
  unfold B_wanted
  simp [Res.sat_bind]
  refine lc_filterT (setI (col us b)) D.int (fun v => decide (v ≤ n)) D.int (by simp [m1, h1 st fs us b hb hk h63]) (by have := vers_len us b; have := hk.ul; rw [szL_val]; omega) (by simp) ?_ ?_
  · intro v hv
    by_cases h : v ≤ n <;> simp [h]
  · simp only [q_opd2, q_opd1, Res.bind_ok, q_pks, q_pks0, q_pk1]
    simp [Res.sat_ok, Res.sat_bind, g_maxL hne, wantM]
def IsBrkS (J : Ix) (f : Fnl) : Prop := ∀ st fs us (xs : List Str) (ns : List Int) (nd : Str × Str), nd.2 ∈ fs → PlOk fs us → (stepsOf 1 us).length < 63 → xs.length < 1000 → (∀ p ∈ xs.zip ns, 0 ≤ p.2) → f [insP J fs us, TS xs, TI ns, encN nd] st = .ok (.val (.bl (isBrkM us xs ns nd)), st)
theorem sel_len (xs : List Str) (ns : List Int) (x : Str) : (selM xs ns x).length ≤ xs.length := by
  unfold selM
  rw [List.length_map]
  refine Nat.le_trans (List.length_filter_le _ _) ?_
  rw [List.length_zip]
  exact Nat.min_le_left _ _
theorem isBrk_spec (h1 : WantedS J (C (J.fn "wanted"))) : IsBrkS J (runF 11 (B_is_broken J) C) := by
  rintro st fs us xs ns ⟨a, b⟩ hb hk h63 hl hge
  have hsel : ∀ x, ∀ n ∈ selM xs ns x, 0 ≤ n := fun x n hn => by
    obtain ⟨p, hp, rfl⟩ := List.mem_map.mp hn
    exact hge p (List.mem_filter.mp hp).1
  have hz : (xs.zip ns).length ≤ szL := by rw [szL_val]; simp; omega
  refine run_eq ?_
  unfold B_is_broken
  refine seq_eq (by simp <;> rfl) ?_
  refine seq_eq (s1 := ⟨[some (.val (insP J fs us)), some (.val (TS xs)), some (.val (TI ns)), some (.val (encN (a, b))), some (.val (.str a)), some (.val (.str b)), some (.val (.lst ((selM xs ns a).map .int))), none, none, none, none], st⟩) ?_ ?_
  · rw [Res.eq_sat]
    simp [Res.sat_bind]
    refine lc_filterT (xs.zip ns) (fun p => D.tup false [.str p.1, .int p.2]) (fun p => p.1 == a) (fun p => .int p.2) (by simp [TS, TI, zipL_map]) hz (by simp) ?_ ?_
    · rintro ⟨x, n⟩ hp
      by_cases h : x = a <;> simp [g_eq eqE_str, h]
    · simp [Res.sat_ok, selM]
  refine seq_eq (s1 := ⟨[some (.val (insP J fs us)), some (.val (TS xs)), some (.val (TI ns)), some (.val (encN (a, b))), some (.val (.str a)), some (.val (.str b)), some (.val (.lst ((selM xs ns a).map .int))), none, none, some (.val (.lst ((selM xs ns b).map .int))), none], st⟩) ?_ ?_
  · rw [Res.eq_sat]
    simp [Res.sat_bind]
    refine lc_filterT (xs.zip ns) (fun p => D.tup false [.str p.1, .int p.2]) (fun p => p.1 == b) (fun p => .int p.2) (by simp [TS, TI, zipL_map]) hz (by simp) ?_ ?_
    · rintro ⟨x, n⟩ hp
      by_cases h : x = b <;> simp [g_eq eqE_str, h]
    · simp [Res.sat_ok, selM]
  have ha := sel_len xs ns a
  have hb2 := sel_len xs ns b
  simp [Res.sat_bind]
  refine lc2T (selM xs ns a) D.int (fun _ => selM xs ns b) (fun _ => D.int) (fun n i => some (.bl (decide (i < wantM us b n)))) (fun n => [(8, .val (.int n))]) (by simp) (by simp) ?_ ?_ ?_
  · have := flat_len (g := fun _ : Int => selM xs ns b) (k := 1000) (fun _ => by omega) (selM xs ns a)
    have : (selM xs ns a).length * 1000 ≤ 1000 * 1000 := Nat.mul_le_mul_right _ (by omega)
    rw [szL_val]
    omega
  · intro n hn
    have e := h1 st fs us b n hb hk h63 (hsel a n hn)
    simp [e]
  · have e : ((selM xs ns a).flatMap fun n => (selM xs ns b).filterMap fun i => some (D.bl (decide (i < wantM us b n)))) = ((selM xs ns a).flatMap fun n => (selM xs ns b).map fun i => decide (i < wantM us b n)).map D.bl := by
      rw [List.map_flatMap]
      simp [Function.comp_def]
    have ga := g_any (st := st) (bs := (selM xs ns a).flatMap fun n => (selM xs ns b).map fun i => decide (i < wantM us b n))
    have e2 : (((selM xs ns a).flatMap fun n => (selM xs ns b).map fun i => decide (i < wantM us b n)).any id) = isBrkM us xs ns (a, b) := by
      unfold isBrkM
      rw [List.any_flatMap]
      simp [List.any_map]
    rw [e]
    clear e ga
    generalize ((selM xs ns a).flatMap fun n => (selM xs ns b).map fun i => decide (i < wantM us b n)) = F at e2
    simp [Res.sat_ok, Res.sat_bind]
    exact e2
def BrkByS (J : Ix) (f : Fnl) : Prop := ∀ st fs us (xs : List Str) (ns : List Int) (ps : List (Str × Str)), (∀ p ∈ ps, p.1 ∈ fs ∧ p.2 ∈ fs) → PlOk fs us → (stepsOf 1 us).length < 63 → xs.length < 1000 → ps.length < 100000 → (∀ p ∈ xs.zip ns, 0 ≤ p.2) → f [insP J fs us, TS xs, TI ns, TN ps] st = .ok (.own ((ps.filter (isBrkM us xs ns)).map encN), st)
theorem brkBy_spec (h1 : IsBrkS J (C (J.fn "is_broken"))) : BrkByS J (runF 5 (B_broken_by J) C) := by
  intro st fs us xs ns ps hp hk h63 hl hpl hge
  refine run_eq ?_
  unfold B_broken_by
  simp [Res.sat_bind]
  refine lc_filterT ps encN (isBrkM us xs ns) encN (by simp [TN]) (by rw [szL_val]; omega) (by simp) ?_ ?_
  · intro nd hnd
    have e := h1 st fs us xs ns nd (hp nd hnd).2 hk h63 hl hge
    by_cases h : isBrkM us xs ns nd = true
    · rw [h] at e
      simp [e, h]
    · rw [Bool.not_eq_true] at h
      rw [h] at e
      simp [e, h]
  · simp [Res.sat_ok]
/-- a plan, an order, needs of it -/
structure Needed (d o w : D) (fs : List Str) (us : List (List (List Str))) (xs : List Str) (ps : List (Str × Str)) : Prop where
  pl : IsPl d fs us
  ok : PlOk fs us
  sh : (stepsOf 1 us).length < 63
  os : IsTS o xs
  sub : ∀ x ∈ xs, x ∈ fs
  ll : xs.length < 1000
  nd : IsNd w ps
  sub2 : ∀ p ∈ ps, p.1 ∈ fs ∧ p.2 ∈ fs
  nl : ps.length < 100000
def BreaksS (f : Fnl) : Prop := ∀ st d o m w fs us xs ns ps, Asked d o m fs us xs ns → Needed d o w fs us xs ps → f [d, o, m, w] st = .ok (.own ((ps.filter (isBrkM us xs ns)).map encN), st)
theorem breaks_spec (hP : PlanInitS J (C (J.fn "Plan"))) (m1 : (J.mt "check_order").lookup (J.cl "Plan") = some (J.fn "Plan.check_order")) (h1 : PCheckOrderS J (C (J.fn "Plan.check_order"))) (h2 : ChkNeedsS J (C (J.fn "checked_needs"))) (m3 : (J.mt "check_mix").lookup (J.cl "Plan") = some (J.fn "Plan.check_mix"))
    (h3 : PCheckMixS J (C (J.fn "Plan.check_mix"))) (h4 : BrkByS J (C (J.fn "broken_by"))) : BreaksS (runF 7 (B_breaks J) C) := by
  intro st d o m w fs us xs ns ps a b
  have e4 := h4 st fs us xs ns ps b.sub2 a.ok a.sh b.ll b.nl fun p hp => (col_ge (a.mem p hp)).1
  simp [B_breaks, hP st d fs us a.pl a.ok, m1, h1 st o fs us xs a.os a.sub, h2 st w fs us ps b.nd b.sub2, m3, h3 st m fs us xs ns a.ok a.sh a.ll a.ms a.len a.mem2, e4]
theorem mixM_ge (us : List (List (List Str))) : ∀ (n : Nat) (xs : List Str), xs.length = n → ∀ p ∈ mixM us xs, ∀ q ∈ xs.zip p.1, q.2 ∈ col us q.1
  | 0, xs, h, p, hp => by
    have := List.length_eq_zero_iff.mp h
    subst this
    intro q hq
    cases hq
  | n + 1, xs, h, p, hp => by
    have hne : xs ≠ [] := fun e => by rw [e] at h; cases h
    obtain ⟨ys, y, rfl⟩ : ∃ ys y, xs = ys ++ [y] := ⟨xs.dropLast, xs.getLast hne, (List.dropLast_concat_getLast hne).symm⟩
    rw [List.length_append, List.length_singleton] at h
    rw [mixM_snoc] at hp
    obtain ⟨q, hq, h2⟩ := List.mem_flatMap.mp hp
    obtain ⟨v, hv, h3⟩ := List.mem_filterMap.mp h2
    have hl := mixM_items us n ys (by omega) q hq
    have ih := mixM_ge us n ys (by omega) q hq
    split at h3
    · rw [← Option.some.inj h3]
      intro r hr
      rw [List.zip_append (by omega)] at hr
      rcases List.mem_append.mp hr with z | z
      · exact ih r z
      · simp at z
        rw [z]
        exact (setI_mem _ _).mp hv
    · cases h3
def BadS (f : Fnl) : Prop := ∀ st d o w fs us xs ps, Needed d o w fs us xs ps → (us.length + 1) ^ xs.length < 10000000 → f [d, o, w] st = .ok (.own (((mixM us xs).filter fun p => decide (0 < (ps.filter (isBrkM us xs p.1)).length)).map fun p => TI p.1), st)
theorem bad_spec (hP : PlanInitS J (C (J.fn "Plan"))) (m1 : (J.mt "check_order").lookup (J.cl "Plan") = some (J.fn "Plan.check_order")) (h1 : PCheckOrderS J (C (J.fn "Plan.check_order"))) (h2 : ChkNeedsS J (C (J.fn "checked_needs")))
    (h3 : FoundS J (C (J.fn "found_mixes"))) (h4 : BrkByS J (C (J.fn "broken_by"))) : BadS (runF 7 (B_bad J) C) := by
  intro st d o w fs us xs ps b hz
  refine run_eq ?_
  unfold B_bad
  refine seq_eq (by simp [hP st d fs us b.pl b.ok] <;> rfl) ?_
  refine seq_eq (by simp [m1, h1 st o fs us xs b.os b.sub] <;> rfl) ?_
  refine seq_eq (by simp [h2 st w fs us ps b.nd b.sub2] <;> rfl) ?_
  simp [Res.sat_bind]
  have hm := mixM_len us xs.length xs rfl
  refine lc_filterT (mixM us xs) (fun p => TI p.1) (fun p => decide (0 < (ps.filter (isBrkM us xs p.1)).length)) (fun p => TI p.1) (by simp [h3 st fs us xs b.ok b.sh b.sub b.ll hz]) (by rw [szL_val]; omega) (by simp) ?_ ?_
  · intro p hp
    have e4 := h4 st fs us xs p.1 ps b.sub2 b.ok b.sh b.ll b.nl fun q hq => (col_ge (mixM_ge us xs.length xs rfl p hp q hq)).1
    by_cases h : 0 < (ps.filter (isBrkM us xs p.1)).length
    · simp [-List.length_pos_iff, e4, h]
    · simp [-List.length_pos_iff, e4, h]
  · simp [Res.sat_ok]
def BrokenS (f : Fnl) : Prop := ∀ st d o w fs us xs ps, Needed d o w fs us xs ps → (us.length + 1) ^ xs.length < 10000000 → f [d, o, w] st = .ok (.own ((ps.filter fun q => (mixM us xs).any fun p => isBrkM us xs p.1 q).map encN), st)
theorem broken_spec (hP : PlanInitS J (C (J.fn "Plan"))) (m1 : (J.mt "check_order").lookup (J.cl "Plan") = some (J.fn "Plan.check_order")) (h1 : PCheckOrderS J (C (J.fn "Plan.check_order"))) (h2 : ChkNeedsS J (C (J.fn "checked_needs")))
    (h3 : FoundS J (C (J.fn "found_mixes"))) (h4 : IsBrkS J (C (J.fn "is_broken"))) : BrokenS (runF 9 (B_broken J) C) := by
  intro st d o w fs us xs ps b hz
  refine run_eq ?_
  unfold B_broken
  refine seq_eq (by simp [hP st d fs us b.pl b.ok] <;> rfl) ?_
  refine seq_eq (by simp [m1, h1 st o fs us xs b.os b.sub] <;> rfl) ?_
  refine seq_eq (by simp [h2 st w fs us ps b.nd b.sub2] <;> rfl) ?_
  refine seq_eq (by simp [h3 st fs us xs b.ok b.sh b.sub b.ll hz] <;> rfl) ?_
  have hm := mixM_len us xs.length xs rfl
  have hm2 : (mixM us xs).length ≤ szL := by rw [szL_val]; omega
  simp [Res.sat_bind]
  refine lc_filterT ps encN (fun q => (mixM us xs).any fun p => isBrkM us xs p.1 q) encN (by simp [TN]) (by have := b.nl; rw [szL_val]; omega) (by simp) ?_ ?_
  · intro q hq
    have hin : lcF [8] (.nm 8) (itF (varF 6)) [] (callF (J.fn "is_broken") [varF 3, varF 4, varF 8, varF 7]) C ⟨[some (.val d), some (.val o), some (.val w), some (.val (insP J fs us)), some (.val (TS xs)), some (.val (TN ps)), some (.val (.lst ((mixM us xs).map fun p => TI p.1))), some (.val (encN q)), none], st⟩ =
        .ok (.own ((mixM us xs).map fun p => D.bl (isBrkM us xs p.1 q)), ⟨[some (.val d), some (.val o), some (.val w), some (.val (insP J fs us)), some (.val (TS xs)), some (.val (TN ps)), some (.val (.lst ((mixM us xs).map fun p => TI p.1))), some (.val (encN q)), none], st⟩) := by
      refine lc_map (mixM us xs) (fun p => TI p.1) (fun p => D.bl (isBrkM us xs p.1 q)) (by simp) hm2 (by simp) ?_
      intro p hp
      have e4 := h4 st fs us xs p.1 q (b.sub2 q hq).2 b.ok b.sh b.ll fun r hr => (col_ge (mixM_ge us xs.length xs rfl p hp r hr)).1
      simp [e4]
    have ga : gAny st [.lst ((mixM us xs).map fun p => D.bl (isBrkM us xs p.1 q))] = .ok (.val (.bl ((mixM us xs).any fun p => isBrkM us xs p.1 q))) := by
      have e : ((mixM us xs).map fun p => D.bl (isBrkM us xs p.1 q)) = ((mixM us xs).map fun p => isBrkM us xs p.1 q).map D.bl := by simp [Function.comp_def]
      rw [e, g_any, List.any_map]
      rfl
    cases h : (mixM us xs).any fun p => isBrkM us xs p.1 q
    · rw [h] at ga
      simp [hin, ga]
    · rw [h] at ga
      simp [hin, ga]
  · simp [Res.sat_ok]
end
end Ev
set_option Elab.async false
set_option maxRecDepth 100000
set_option maxHeartbeats 1000000
namespace Ev
open PySem
/-- data of at most n levels, told the same as itself -/
def sOk : Nat → D → Bool
  | _, .non => true
  | _, .bl _ => true
  | _, .int _ => true
  | _, .str _ => true
  | n + 1, .lst ds => Nat.ble ds.length 100000 && ds.all (sOk n)
  | n + 1, .tup _ ds => Nat.ble ds.length 100000 && ds.all (sOk n)
  | _, _ => false
def SameS (f : Fnl) (n : Nat) : Prop := ∀ st d, sOk n d = true → f [d, d] st = .ok (.val (.bl true), st)
theorem zipL_self (ds : List D) : zipL ds ds = ds.map fun d => D.tup false [d, d] := by
  induction ds with
  | nil => rfl
  | cons d ds ih =>
    show D.tup false [d, d] :: zipL ds ds = _
    rw [ih]
    rfl
theorem same_step {J : Ix} {C : Cl} {n : Nat} (hC : ∀ m, m < n → SameS (C (J.fn "_law_same")) m) : SameS (runF 5 (B__law_same J) C) n := by
  intro st d hd
  have g1 : ∀ b c : Bool, gEq b st [.bl c, .bl c] = .ok (.val (.bl (!b))) := fun b c => by
    rw [g_eq eqE_bl (by omega)]
    cases b <;> simp
  have seq : ∀ (d : D) (ds : List D), itemsOf st d = .ok ds → gLen st [d] = .ok (.val (.int ds.length)) → plainD d = true → (isT d "list" || isT d "tuple") = true → (∀ x ∈ ds, ∃ m, m < n ∧ sOk m x = true) → ds.length ≤ 100000 → (zipF (varF 0) (varF 1) C ⟨[some (.val d), some (.val d), none, none, none], st⟩ = .ok (ds.map fun d => D.tup false [d, d], ⟨[some (.val d), some (.val d), none, none, none], st⟩)) → runF 5 (B__law_same J) C [d, d] st = .ok (.val (.bl true), st) := by
    intro d ds hit hlen h2 h3 h4 h5 h6
    simp at h3
    have hl := lc_map (vs := [2, 3]) (tg := .tp [.nm 2, .nm 3]) (it := zipF (varF 0) (varF 1)) (el := callF (J.fn "_law_same") [varF 2, varF 3]) (C := C) (s := ⟨[some (.val d), some (.val d), none, none, none], st⟩) (s1 := ⟨[some (.val d), some (.val d), none, none, none], st⟩) ds (fun x => D.tup false [x, x]) (fun _ => .bl true) h6 (by rw [szL_val]; omega) (by simp) (fun x hx => by
      obtain ⟨m, hm, hk⟩ := h4 x hx
      simp [hC m hm st x hk])
    have ga : gAll st [D.lst (ds.map fun _ => D.bl true)] = .ok (.val (.bl true)) := by
      have e : (ds.map fun _ => D.bl true) = (ds.map fun _ => true).map D.bl := by simp
      rw [e, g_all]
      simp
    simp [B__law_same, g_isi h2, h3, g1, hlen, g_eq eqE_int, hl, ga]
  cases d with
  | non => simp [B__law_same, g_isi (d := D.non) rfl, isT, tyN, tySub, g1, gEq, Ev.shp, eqD, vB]
  | bl b => simp [B__law_same, g_isi (d := D.bl b) rfl, isT, tyN, tySub, g1]
  | int i => simp [B__law_same, g_isi (d := D.int i) rfl, isT, tyN, tySub, g1, g_eq eqE_int]
  | str s => simp [B__law_same, g_isi (d := D.str s) rfl, isT, tyN, tySub, g1, g_eq eqE_str]
  | lst ds =>
    cases n with
    | zero => cases hd
    | succ n =>
      simp only [sOk, Bool.and_eq_true, List.all_eq_true, Nat.ble_eq] at hd
      exact seq _ ds rfl rfl rfl rfl (fun x hx => ⟨n, Nat.lt_succ_self _, hd.2 x hx⟩) hd.1 (by simp [zipL_self])
  | tup k ds =>
    cases n with
    | zero => cases hd
    | succ n =>
      simp only [sOk, Bool.and_eq_true, List.all_eq_true, Nat.ble_eq] at hd
      exact seq _ ds rfl rfl rfl rfl (fun x hx => ⟨n, Nat.lt_succ_self _, hd.2 x hx⟩) hd.1 (by simp [zipL_self])
  | dic _ => cases n <;> cases hd
  | ins _ _ => cases n <;> cases hd
  | cell _ => cases n <;> cases hd
  | scr _ => cases n <;> cases hd
end Ev
set_option Elab.async false
set_option maxRecDepth 100000
set_option maxHeartbeats 1000000
namespace Ev
open PySem
def stepsN : Int → List (List (List Nat)) → List (Int × List Nat)
  | _, [] => []
  | k, u :: us => u.map (fun s => (k, s)) ++ stepsN (k + 1) us
def verN (ts : List (Int × List Nat)) (f : Nat) : Int := ts.foldl (fun v t => if f ∈ t.2 then t.1 else v) 0
def colN (us : List (List (List Nat))) (f : Nat) : List Int := (List.range ((stepsN 1 us).length + 1)).map fun m => verN ((stepsN 1 us).take m) f
def oneC (c : List Int) (p : List Int × Nat) : List (List Int × Nat) := (setI c).filterMap fun n => if p.2 ≤ (spn c n).2 then some (p.1 ++ [n], max p.2 (spn c n).1) else none
def mixC (cs : List (List Int)) : List (List Int × Nat) := cs.foldl (fun f c => f.flatMap (oneC c)) [([], 0)]
def selN (xs : List Nat) (ns : List Int) (x : Nat) : List Int := ((xs.zip ns).filter fun p => p.1 == x).map (·.2)
def isBrkN (us : List (List (List Nat))) (xs : List Nat) (ns : List Int) (nd : Nat × Nat) : Bool := (selN xs ns nd.1).any fun n => (selN xs ns nd.2).any fun i => decide (i < maxI ((setI (colN us nd.2)).filter fun v => decide (v ≤ n)))
section
variable (nm : Nat → Str)
abbrev usM (us : List (List (List Nat))) : List (List (List Str)) := us.map fun u => u.map fun s => s.map nm
abbrev psM (ps : List (Nat × Nat)) : List (Str × Str) := ps.map fun p => (nm p.1, nm p.2)
variable {nm} {K : Nat} (inj : ∀ i, i < K → ∀ j, j < K → nm i = nm j → i = j)
theorem stepsM : ∀ (k : Int) (us : List (List (List Nat))), stepsOf k (usM nm us) = (stepsN k us).map fun t => (t.1, t.2.map nm)
  | _, [] => rfl
  | k, u :: us => by
    show (u.map fun s => s.map nm).map (fun s => (k, s)) ++ stepsOf (k + 1) (usM nm us) = _
    rw [stepsM (k + 1) us, show stepsN k (u :: us) = u.map (fun s => (k, s)) ++ stepsN (k + 1) us from rfl]
    simp [Function.comp_def]
theorem stepsN_mem : ∀ (k : Int) (us : List (List (List Nat))), ∀ t ∈ stepsN k us, ∃ u ∈ us, t.2 ∈ u
  | _, [], t, h => by cases h
  | k, u :: us, t, h => by
    unfold stepsN at h
    rcases List.mem_append.mp h with q | q
    · obtain ⟨s, hs, rfl⟩ := List.mem_map.mp q
      exact ⟨u, List.mem_cons_self, hs⟩
    · obtain ⟨v, hv, h2⟩ := stepsN_mem (k + 1) us t q
      exact ⟨v, List.mem_cons_of_mem _ hv, h2⟩
include inj in
theorem mem_nm {s : List Nat} {x : Nat} (hs : ∀ y ∈ s, y < K) (hx : x < K) : nm x ∈ s.map nm ↔ x ∈ s := by
  constructor
  · intro h
    obtain ⟨y, hy, e⟩ := List.mem_map.mp h
    rwa [← inj y (hs y hy) x hx e]
  · exact fun h => List.mem_map.mpr ⟨x, h, rfl⟩
include inj in
theorem foldM {x : Nat} (hx : x < K) : ∀ (ts : List (Int × List Nat)) (v : Int), (∀ t ∈ ts, ∀ y ∈ t.2, y < K) → (ts.map fun t => (t.1, t.2.map nm)).foldl (fun v t => if nm x ∈ t.2 then t.1 else v) v = ts.foldl (fun v t => if x ∈ t.2 then t.1 else v) v
  | [], _, _ => rfl
  | t :: ts, v, h => by
    rw [List.map_cons, List.foldl_cons, List.foldl_cons]
    have := mem_nm inj (h t List.mem_cons_self) hx
    rw [foldM hx ts _ fun u hu => h u (List.mem_cons_of_mem _ hu)]
    congr 1
    by_cases q : x ∈ t.2
    · rw [if_pos (this.mpr q), if_pos q]
    · rw [if_neg (fun z => q (this.mp z)), if_neg q]
include inj in
theorem colM {us : List (List (List Nat))} {x : Nat} (hu : ∀ u ∈ us, ∀ s ∈ u, ∀ y ∈ s, y < K) (hx : x < K) : col (usM nm us) (nm x) = colN us x := by
  unfold col colT colN
  rw [stepsM, List.length_map]
  apply List.map_congr_left
  intro m _
  unfold ver verN
  rw [← List.map_take]
  exact foldM inj hx _ 0 fun t ht => by
    obtain ⟨u, h1, h2⟩ := stepsN_mem 1 us t (List.mem_of_mem_take ht)
    exact hu u h1 t.2 h2
theorem mixM_C (us : List (List (List Str))) (xs : List Str) : mixM us xs = mixC (xs.map (col us)) := by
  unfold mixM mixC
  rw [List.foldl_map]
  rfl
include inj in
theorem mixMN {us : List (List (List Nat))} {xs : List Nat} (hu : ∀ u ∈ us, ∀ s ∈ u, ∀ y ∈ s, y < K) (hx : ∀ x ∈ xs, x < K) : mixM (usM nm us) (xs.map nm) = mixC (xs.map (colN us)) := by
  rw [mixM_C, List.map_map]
  congr 1
  apply List.map_congr_left
  intro x h
  exact colM inj hu (hx x h)
include inj in
theorem selMN {xs : List Nat} {ns : List Int} {x : Nat} (hx : ∀ y ∈ xs, y < K) (h : x < K) : selM (xs.map nm) ns (nm x) = selN xs ns x := by
  induction xs generalizing ns with
  | nil => rfl
  | cons y xs ih =>
    cases ns with
    | nil => rfl
    | cons n ns =>
      have ih := ih (ns := ns) fun z hz => hx z (List.mem_cons_of_mem _ hz)
      unfold selM selN at ih ⊢
      rw [List.map_cons, List.zip_cons_cons, List.zip_cons_cons]
      by_cases q : y = x
      · subst q
        rw [List.filter_cons_of_pos (by simp), List.filter_cons_of_pos (by simp), List.map_cons, List.map_cons, ih]
      · have q' : nm y ≠ nm x := fun e => q (inj y (hx y List.mem_cons_self) x h e)
        rw [List.filter_cons_of_neg (by simpa using q'), List.filter_cons_of_neg (by simpa using q), ih]
include inj in
theorem isBrkMN {us : List (List (List Nat))} {xs : List Nat} {ns : List Int} {nd : Nat × Nat} (hu : ∀ u ∈ us, ∀ s ∈ u, ∀ y ∈ s, y < K) (hx : ∀ x ∈ xs, x < K) (h1 : nd.1 < K) (h2 : nd.2 < K) : isBrkM (usM nm us) (xs.map nm) ns (nm nd.1, nm nd.2) = isBrkN us xs ns nd := by
  unfold isBrkM isBrkN wantM
  rw [selMN inj hx h1, selMN inj hx h2, colM inj hu h2]
/-- what is asked of numbers -/
def chkP (K : Nat) (fs : List Nat) (us : List (List (List Nat))) : Bool :=
  fs.all (fun x => decide (x < K)) && us.all (fun u => u.all fun s => s.all fun y => decide (y < K)) && decide (fs.length ≤ 1000) && decide (us.length ≤ 1000) && us.all (fun u => decide (u.length ≤ 1000)) && us.all (fun u => u.all fun s => decide (s.length ≤ 1000)) && decide ((stepsN 1 us).length < 63)
def chkO (fs xs : List Nat) : Bool := xs.all (fun x => fs.contains x) && decide (xs.length < 1000)
def chkD (fs : List Nat) (ps : List (Nat × Nat)) : Bool := ps.all (fun p => fs.contains p.1 && fs.contains p.2) && decide (ps.length < 100000)
structure ChkP (K : Nat) (fs : List Nat) (us : List (List (List Nat))) : Prop where
  fk : ∀ x ∈ fs, x < K
  uk : ∀ u ∈ us, ∀ s ∈ u, ∀ y ∈ s, y < K
  ok : ∀ nm : Nat → Str, PlOk (fs.map nm) (usM nm us)
  sh : ∀ nm : Nat → Str, (stepsOf 1 (usM nm us)).length < 63
theorem chkP_ok {K : Nat} {fs : List Nat} {us : List (List (List Nat))} (h : chkP K fs us = true) : ChkP K fs us := by
  simp only [chkP, Bool.and_eq_true, List.all_eq_true, decide_eq_true_eq] at h
  obtain ⟨⟨⟨⟨⟨⟨h1, h2⟩, h3⟩, h4⟩, h5⟩, h6⟩, h7⟩ := h
  refine ⟨h1, h2, fun nm => ⟨by simpa using h3, by simpa using h4, fun u hu => ?_, fun u hu s hs => ?_⟩, fun nm => by rw [stepsM]; simpa using h7⟩
  · obtain ⟨v, hv, rfl⟩ := List.mem_map.mp hu
    simpa using h5 v hv
  · obtain ⟨v, hv, rfl⟩ := List.mem_map.mp hu
    obtain ⟨t, ht, rfl⟩ := List.mem_map.mp hs
    simpa using h6 v hv t ht
theorem chkO_ok {fs xs : List Nat} (h : chkO fs xs = true) : (∀ x ∈ xs, x ∈ fs) ∧ xs.length < 1000 := by
  simp only [chkO, Bool.and_eq_true, List.all_eq_true, decide_eq_true_eq] at h
  exact ⟨fun x hx => by simpa using h.1 x hx, h.2⟩
theorem chkD_ok {fs : List Nat} {ps : List (Nat × Nat)} (h : chkD fs ps = true) : (∀ p ∈ ps, p.1 ∈ fs ∧ p.2 ∈ fs) ∧ ps.length < 100000 := by
  simp only [chkD, Bool.and_eq_true, List.all_eq_true, decide_eq_true_eq] at h
  exact ⟨fun p hp => by simpa using h.1 p hp, h.2⟩
include inj in
theorem needed_ix {fs : List Nat} {us : List (List (List Nat))} {xs : List Nat} {ps : List (Nat × Nat)} (h1 : chkP K fs us = true) (h2 : chkO fs xs = true) (h3 : chkD fs ps = true) : Needed (TP (fs.map nm) (usM nm us)) (TS (xs.map nm)) (TN (psM nm ps)) (fs.map nm) (usM nm us) (xs.map nm) (psM nm ps) := by
  have a := chkP_ok h1
  obtain ⟨b1, b2⟩ := chkO_ok h2
  obtain ⟨c1, c2⟩ := chkD_ok h3
  refine ⟨isPl_TP (a.ok nm), a.ok nm, a.sh nm, isTS_TS (by simp; omega), fun x hx => ?_, by simpa using b2, isNd_TN (by simp; omega), fun p hp => ?_, by simpa using c2⟩
  · obtain ⟨y, hy, rfl⟩ := List.mem_map.mp hx
    exact List.mem_map.mpr ⟨y, b1 y hy, rfl⟩
  · obtain ⟨q, hq, rfl⟩ := List.mem_map.mp hp
    exact ⟨List.mem_map.mpr ⟨q.1, (c1 q hq).1, rfl⟩, List.mem_map.mpr ⟨q.2, (c1 q hq).2, rfl⟩⟩
def brokenN (us : List (List (List Nat))) (xs : List Nat) (ps : List (Nat × Nat)) : List (Nat × Nat) := ps.filter fun q => (mixC (xs.map (colN us))).any fun p => isBrkN us xs p.1 q
def badN (us : List (List (List Nat))) (xs : List Nat) (ps : List (Nat × Nat)) : List (List Int) := ((mixC (xs.map (colN us))).filter fun p => decide (0 < (ps.filter (isBrkN us xs p.1)).length)).map (·.1)
def breaksN (us : List (List (List Nat))) (xs : List Nat) (ns : List Int) (ps : List (Nat × Nat)) : List (Nat × Nat) := ps.filter (isBrkN us xs ns)
theorem filter_ix {α β : Type} {g : α → β} {P : β → Bool} {Q : α → Bool} : ∀ {l : List α}, (∀ x ∈ l, P (g x) = Q x) → (l.map g).filter P = (l.filter Q).map g
  | [], _ => rfl
  | x :: l, h => by
    have ih := filter_ix (l := l) fun y hy => h y (List.mem_cons_of_mem _ hy)
    have hx := h x List.mem_cons_self
    rw [List.map_cons]
    cases q : Q x
    · rw [List.filter_cons_of_neg (by rw [hx, q]; decide), List.filter_cons_of_neg (by rw [q]; decide), ih]
    · rw [List.filter_cons_of_pos (by rw [hx, q]), List.filter_cons_of_pos q, List.map_cons, ih]
include inj in
theorem broken_ix {f : Fnl} (h : BrokenS f) (st : List (List D)) {fs : List Nat} {us : List (List (List Nat))} {xs : List Nat} {ps : List (Nat × Nat)} (r : List (Nat × Nat)) (h1 : chkP K fs us = true) (h2 : chkO fs xs = true) (h3 : chkD fs ps = true) (hz : (us.length + 1) ^ xs.length < 10000000) (hr : brokenN us xs ps = r) :
    f [TP (fs.map nm) (usM nm us), TS (xs.map nm), TN (psM nm ps)] st = .ok (.own (r.map fun p => encN (nm p.1, nm p.2)), st) := by
  have a := chkP_ok h1
  have hx : ∀ x ∈ xs, x < K := fun x hx => a.fk x ((chkO_ok h2).1 x hx)
  rw [h st _ _ _ _ _ _ _ (needed_ix inj h1 h2 h3) (by simpa using hz), ← hr, mixMN inj a.uk hx, filter_ix (Q := fun q => (mixC (xs.map (colN us))).any fun p => isBrkN us xs p.1 q), List.map_map]
  · rfl
  · intro q hq
    congr 1
    funext p
    exact isBrkMN inj a.uk hx (a.fk _ ((chkD_ok h3).1 q hq).1) (a.fk _ ((chkD_ok h3).1 q hq).2)
include inj in
theorem bad_ix {f : Fnl} (h : BadS f) (st : List (List D)) {fs : List Nat} {us : List (List (List Nat))} {xs : List Nat} {ps : List (Nat × Nat)} (r : List (List Int)) (h1 : chkP K fs us = true) (h2 : chkO fs xs = true) (h3 : chkD fs ps = true) (hz : (us.length + 1) ^ xs.length < 10000000) (hr : badN us xs ps = r) :
    f [TP (fs.map nm) (usM nm us), TS (xs.map nm), TN (psM nm ps)] st = .ok (.own (r.map TI), st) := by
  have a := chkP_ok h1
  have hx : ∀ x ∈ xs, x < K := fun x hx => a.fk x ((chkO_ok h2).1 x hx)
  have e : ∀ p : List Int × Nat, ((psM nm ps).filter (isBrkM (usM nm us) (xs.map nm) p.1)).length = (ps.filter (isBrkN us xs p.1)).length := fun p => by
    rw [filter_ix (Q := isBrkN us xs p.1), List.length_map]
    intro q hq
    exact isBrkMN inj a.uk hx (a.fk _ ((chkD_ok h3).1 q hq).1) (a.fk _ ((chkD_ok h3).1 q hq).2)
  rw [h st _ _ _ _ _ _ _ (needed_ix inj h1 h2 h3) (by simpa using hz), ← hr, mixMN inj a.uk hx]
  unfold badN
  rw [List.map_map]
  congr 3
  simp only [e]
  rfl
include inj in
theorem breaks_ix {f : Fnl} (h : BreaksS f) (st : List (List D)) {fs : List Nat} {us : List (List (List Nat))} {xs : List Nat} {ns : List Int} {ps : List (Nat × Nat)} (r : List (Nat × Nat)) (h1 : chkP K fs us = true) (h2 : chkO fs xs = true) (h3 : chkD fs ps = true) (hl : ns.length = xs.length) (hm : ((xs.zip ns).all fun p => (colN us p.1).contains p.2) = true) (hr : breaksN us xs ns ps = r) :
    f [TP (fs.map nm) (usM nm us), TS (xs.map nm), TI ns, TN (psM nm ps)] st = .ok (.own (r.map fun p => encN (nm p.1, nm p.2)), st) := by
  have a := chkP_ok h1
  have hx : ∀ x ∈ xs, x < K := fun x hx => a.fk x ((chkO_ok h2).1 x hx)
  have nd := needed_ix (nm := nm) inj h1 h2 h3
  have hll := (chkO_ok h2).2
  have ask : Asked (TP (fs.map nm) (usM nm us)) (TS (xs.map nm)) (TI ns) (fs.map nm) (usM nm us) (xs.map nm) ns := by
    refine ⟨nd.pl, nd.ok, nd.sh, nd.os, isTI_TI (by omega), nd.sub, by simpa using hl, by simp; omega, fun p hp => ?_⟩
    rw [List.zip_map_left] at hp
    obtain ⟨q, hq, rfl⟩ := List.mem_map.mp hp
    have := List.all_eq_true.mp hm q hq
    show q.2 ∈ col (usM nm us) (nm q.1)
    rw [colM inj a.uk (hx _ (List.of_mem_zip hq).1)]
    simpa using this
  rw [h st _ _ _ _ _ _ _ _ _ ask nd, ← hr, filter_ix (Q := isBrkN us xs ns), List.map_map]
  · rfl
  · intro q hq
    exact isBrkMN inj a.uk hx (a.fk _ ((chkD_ok h3).1 q hq).1) (a.fk _ ((chkD_ok h3).1 q hq).2)
end
end Ev
set_option Elab.async false
set_option maxRecDepth 100000
set_option maxHeartbeats 1000000
namespace Ev
open PySem
def gfirst : Nat → List (Nat × Nat) → Option (List Nat)
  | _, [] => some []
  | t, s :: r => if s.2 < t then none else (gfirst (max t s.1) r).map (max t s.1 :: ·)
theorem gfirst_some : ∀ {t : Nat} {sp : List (Nat × Nat)} {l : List Nat}, gfirst t sp = some l → l = scanM t sp ∧ ∀ p x q, sp = p ++ x :: q → topM t p ≤ x.2
  | t, [], l, h => by
    cases h
    exact ⟨rfl, fun p x q e => by cases p <;> cases e⟩
  | t, s :: r, l, h => by
    unfold gfirst at h
    split at h
    · cases h
    · rename_i h1
      cases h2 : gfirst (max t s.1) r with
      | none => rw [h2] at h; cases h
      | some l' =>
        rw [h2] at h
        cases h
        obtain ⟨rfl, h3⟩ := gfirst_some h2
        refine ⟨rfl, fun p x q e => ?_⟩
        cases p with
        | nil =>
          cases e
          show t ≤ s.2
          omega
        | cons y p =>
          cases e
          exact h3 p x q rfl
theorem gfirst_none : ∀ {t : Nat} {sp : List (Nat × Nat)}, gfirst t sp = none → ∃ p x q, sp = p ++ x :: q ∧ x.2 < topM t p ∧ ∀ p1 y q1, p = p1 ++ y :: q1 → topM t p1 ≤ y.2
  | t, [], h => by cases h
  | t, s :: r, h => by
    unfold gfirst at h
    split at h
    · rename_i h1
      exact ⟨[], s, r, rfl, h1, fun p1 y q1 e => by cases p1 <;> cases e⟩
    · rename_i h1
      cases h2 : gfirst (max t s.1) r with
      | some l' => rw [h2] at h; cases h
      | none =>
        obtain ⟨p, x, q, rfl, h3, h4⟩ := gfirst_none h2
        refine ⟨s :: p, x, q, rfl, h3, fun p1 y q1 e => ?_⟩
        cases p1 with
        | nil =>
          cases e
          show t ≤ s.2
          omega
        | cons z p1 =>
          cases e
          exact h4 p1 y q1 rfl
def momD : Option (List Nat) → D
  | some l => TI (l.map fun (k : Nat) => (k : Int))
  | none => .non
def FirstS2 (f : Fnl) : Prop := ∀ st (sp : List (Nat × Nat)), sp.length < 100000 → f [.lst (sp.map TN2)] st = .ok (.val (momD (gfirst 0 sp)), st)
theorem first_spec2 {J : Ix} {C : Cl} : FirstS2 (runF 4 (B_first_moments J) C) := by
  intro st sp hl
  cases h : gfirst 0 sp with
  | some l =>
    obtain ⟨rfl, h2⟩ := gfirst_some h
    exact first_spec (J := J) (C := C) st sp hl h2
  | none =>
    obtain ⟨p, x, q, hsp, h1, h2⟩ := gfirst_none h
    have z1 : (1 : Nat) ≤ szL := by decide
    have hlast : ∀ p : List (Nat × Nat), ((0 :: scanM 0 p).map fun (k : Nat) => D.int k).getLast? = some (.int (topM 0 p : Nat)) := fun p => by
      rw [List.getLast?_map, scanM_last]
      rfl
    refine run_eq ?_
    unfold B_first_moments
    refine seq_eq (by simp [z1] <;> rfl) ?_
    refine seq_ret (m := .val .non) (s1 := ⟨[none, none, none, none], st⟩) (forF_hit sp TN2 (fun p => [(1, .own ((0 :: scanM 0 p).map fun (k : Nat) => D.int k))]) p x q hsp (by simp <;> rfl) rfl ?_ ?_) rfl
    · rintro p1 ⟨a, b⟩ q1 hp
      have h3 := h2 p1 (a, b) q1 hp
      have hl1 := hlast p1
      simp only at h3
      have h4 : ¬ ((b : Int) < (topM 0 p1 : Nat)) := by omega
      have hz : ((0 :: scanM 0 p1).map fun (k : Nat) => D.int k).length < szL := by
        have := congrArg List.length hp
        have := congrArg List.length hsp
        simp at *
        simp [scanM_len]
        rw [szL_val]
        omega
      generalize hL : ((0 :: scanM 0 p1).map fun (k : Nat) => D.int k) = Lx at hl1 hz
      have hL2 : ((0 :: scanM 0 (p1 ++ [(a, b)])).map fun (k : Nat) => D.int k) = Lx ++ [.int (max (topM 0 p1) a : Nat)] := by
        rw [← hL, scanM_snoc]
        simp
      simp only [hL, hL2]
      simp [hl1, h4, hz]
      split <;> omega
    · obtain ⟨a, b⟩ := x
      have hl1 := hlast p
      simp only at h1
      have h4 : ((b : Int) < (topM 0 p : Nat)) := by omega
      generalize hL : ((0 :: scanM 0 p).map fun (k : Nat) => D.int k) = Lx at hl1
      simp [hl1, h4]
section
variable {J : Ix} {C : Cl}
def MomForS2 (f : Fnl) : Prop := ∀ st d o m fs us xs ns, Asked d o m fs us xs ns → f [d, o, m] st = .ok (.val (momD (gfirst 0 (spansO us xs ns))), st)
theorem momFor_spec2 (hP : PlanInitS J (C (J.fn "Plan"))) (m1 : (J.mt "check_order").lookup (J.cl "Plan") = some (J.fn "Plan.check_order")) (h1 : PCheckOrderS J (C (J.fn "Plan.check_order"))) (m2 : (J.mt "check_mix").lookup (J.cl "Plan") = some (J.fn "Plan.check_mix")) (h2 : PCheckMixS J (C (J.fn "Plan.check_mix")))
    (m3 : (J.mt "spans").lookup (J.cl "Plan") = some (J.fn "Plan.spans")) (h3 : PSpansS J (C (J.fn "Plan.spans"))) (h4 : FirstS2 (C (J.fn "first_moments"))) : MomForS2 (runF 5 (B_moments_for J) C) := by
  intro st d o m fs us xs ns a
  have e4 := h4 st (spansO us xs ns) (by rw [spansO_len a.len]; exact a.ll)
  have e3 := h3 st fs us xs ns a.ok a.ll a.mem2
  have e5 : ((xs.zip ns).map fun p => TN2 (spn (col us p.1) p.2)) = (spansO us xs ns).map TN2 := by simp [spansO]
  rw [e5] at e3
  simp [B_moments_for, hP st d fs us a.pl a.ok, m1, m2, m3, h1 st o fs us xs a.os a.sub, h2 st m fs us xs ns a.ok a.sh a.ll a.ms a.len a.mem2, e3, e4]
def CanBeS2 (f : Fnl) : Prop := ∀ st d o m fs us xs ns, Asked d o m fs us xs ns → f [d, o, m] st = .ok (.val (.bl (gfirst 0 (spansO us xs ns)).isSome), st)
theorem canBe_spec2 (h1 : MomForS2 (C (J.fn "moments_for"))) : CanBeS2 (runF 3 (B_can_be J) C) := by
  intro st d o m fs us xs ns a
  cases h : gfirst 0 (spansO us xs ns) <;> simp [B_can_be, h1 st d o m fs us xs ns a, h, momD, TI]
end
end Ev
set_option Elab.async false
set_option maxRecDepth 100000
set_option maxHeartbeats 1000000
namespace Ev
open PySem
def barQ (sp : List (Nat × Nat)) (i k : Nat) : Bool := match sp[i]?, sp[i + 1 + k]? with
  | some a, some b => decide (b.2 < a.1)
  | _, _ => false
def barI (sp : List (Nat × Nat)) (i : Nat) : Option Nat := (List.range (sp.length - (i + 1))).find? (barQ sp i)
def barP (sp : List (Nat × Nat)) : Option (Nat × Nat) := match sp.zipIdx.find? (fun p => (barI sp p.2).isSome) with
  | some p => some (p.2, p.2 + 1 + (barI sp p.2).getD 0)
  | none => none
def barD : Option (Nat × Nat) → D
  | some p => .tup false [.int p.1, .int p.2]
  | none => .non
section
variable {J : Ix} {C : Cl}
def BarS2 (f : Fnl) : Prop := ∀ st d o m fs us xs ns, Asked d o m fs us xs ns → f [d, o, m] st = .ok (.val (barD (barP (spansO us xs ns))), st)
theorem bar_spec2 (hP : PlanInitS J (C (J.fn "Plan"))) (m1 : (J.mt "check_order").lookup (J.cl "Plan") = some (J.fn "Plan.check_order")) (h1 : PCheckOrderS J (C (J.fn "Plan.check_order"))) (m2 : (J.mt "check_mix").lookup (J.cl "Plan") = some (J.fn "Plan.check_mix")) (h2 : PCheckMixS J (C (J.fn "Plan.check_mix")))
    (m3 : (J.mt "spans").lookup (J.cl "Plan") = some (J.fn "Plan.spans")) (h3 : PSpansS J (C (J.fn "Plan.spans"))) : BarS2 (runF 10 (B_barred J) C) := by
  intro st d o m fs us xs ns a
  have e3 := h3 st fs us xs ns a.ok a.ll a.mem2
  have e5 : ((xs.zip ns).map fun p => TN2 (spn (col us p.1) p.2)) = (spansO us xs ns).map TN2 := by simp [spansO]
  rw [e5] at e3
  have hl : (spansO us xs ns).length < 100000 := by rw [spansO_len a.len]; exact a.ll
  generalize spansO us xs ns = sp at e3 hl
  have z2 : (2 : Nat) ≤ szL := by decide
  refine run_eq ?_
  unfold B_barred
  refine seq_eq (by simp [hP st d fs us a.pl a.ok] <;> rfl) ?_
  refine seq_eq (by simp [m1, h1 st o fs us xs a.os a.sub] <;> rfl) ?_
  refine seq_eq (by simp [m2, m3, h2 st m fs us xs ns a.ok a.sh a.ll a.ms a.len a.mem2, e3] <;> rfl) ?_
  have hout := forF_find (tg := .tp [.nm 6, .tp [.nm 7, .nm 8]]) (it := enumF 0 (varF 5)) (body := seqF (forF (.nm 9) (rng2F (opE gAdd [varF 6, cstF (.int 1)]) (opE gLen [varF 5]))
      (seqF (ifF (opE gGt [varF 7, opE gIx [opE gIx [varF 5, varF 9], cstF (.int 1)]]) (seqF (retF (tupF [varF 6, varF 9])) nxF) nxF) nxF)) nxF) (C := C)
    (s := ⟨[some (.val d), some (.val o), some (.val m), some (.val (insP J fs us)), some (.val (TS xs)), some (.val (.lst (sp.map TN2))), none, none, none, none], st⟩) (s0 := ⟨[some (.val d), some (.val o), some (.val m), some (.val (insP J fs us)), some (.val (TS xs)), some (.val (.lst (sp.map TN2))), none, none, none, none], st⟩) (s' := ⟨[none, none, none, none, none, none, none, none, none, none], st⟩)
    sp.zipIdx (fun p => D.tup false [.int (0 + (p.2 : Nat)), TN2 p.1]) (fun p => (barI sp p.2).isSome) (fun p => .val (.tup false [.int (p.2 : Nat), .int ((p.2 + 1 + (barI sp p.2).getD 0 : Nat) : Int)])) (by simp [enumL_map]) ?_
  · cases h : sp.zipIdx.find? (fun p => (barI sp p.2).isSome) with
    | some p =>
      rw [h] at hout
      refine seq_ret hout ?_
      simp [barP, h, barD]
    | none =>
      rw [h] at hout
      refine seq_eq hout ?_
      simp [Res.sat_ok, barP, h, barD]
  · rintro ⟨s, i⟩ hp
    have hi : sp[i]? = some s := List.mem_zipIdx_iff_getElem?.mp hp
    have hil : i < sp.length := (List.getElem?_eq_some_iff.mp hi).1
    have g1 : okR ((i : Int) + 1) = true := okR_of (by omega) (by omega)
    have g2 : okR (sp.length : Int) = true := okR_of (by omega) (by omega)
    have g3 : rgOk ((i : Int) + 1) (sp.length : Int) = true := rgOk_of (by omega) (by omega) (by omega) (by omega)
    have g4 : ((sp.length : Int) - ((i : Int) + 1)).toNat = sp.length - (i + 1) := by omega
    have hin := forF_find (tg := .nm 9) (it := rng2F (opE gAdd [varF 6, cstF (.int 1)]) (opE gLen [varF 5])) (body := (seqF (ifF (opE gGt [varF 7, opE gIx [opE gIx [varF 5, varF 9], cstF (.int 1)]]) (seqF (retF (tupF [varF 6, varF 9])) nxF) nxF) nxF)) (C := C)
      (s := ⟨[some (.val d), some (.val o), some (.val m), some (.val (insP J fs us)), some (.val (TS xs)), some (.val (.lst (sp.map TN2))), some (.val (.int i)), some (.val (.int s.1)), some (.val (.int s.2)), none], st⟩) (s0 := ⟨[some (.val d), some (.val o), some (.val m), some (.val (insP J fs us)), some (.val (TS xs)), some (.val (.lst (sp.map TN2))), some (.val (.int i)), some (.val (.int s.1)), some (.val (.int s.2)), none], st⟩)
      (s' := ⟨[none, none, none, none, none, none, none, none, none, none], st⟩)
      (List.range (sp.length - (i + 1))) (fun (k : Nat) => D.int ((i : Int) + 1 + k)) (barQ sp i) (fun k => .val (.tup false [.int (i : Nat), .int ((i + 1 + k : Nat) : Int)])) (by simp [g1, g2, g3, g4, rngL_map]) (by
        intro k hk
        have hk := List.mem_range.mp hk
        obtain ⟨L, hL⟩ : ∃ L : Nat, L = i + 1 + k := ⟨_, rfl⟩
        have iL : (i : Int) + 1 + (k : Int) = (L : Int) := by omega
        have hLl : L < sp.length := by omega
        have hq : barQ sp i k = decide ((sp[L]).2 < s.1) := by
          unfold barQ
          rw [← hL, hi, List.getElem?_eq_getElem hLl]
        rw [hq, ← hL]
        by_cases h : (sp[L]).2 < s.1
        · have h' : ((sp[L]).2 : Int) < (s.1 : Int) := by omega
          simp [iL, atI_map, atI_nat, List.getElem?_eq_getElem hLl, h, z2]
        · have h' : ¬ ((sp[L]).2 : Int) < (s.1 : Int) := by omega
          simp [iL, atI_map, atI_nat, List.getElem?_eq_getElem hLl, h])
    have hb : barI sp i = (List.range (sp.length - (i + 1))).find? (barQ sp i) := rfl
    rw [← hb] at hin
    cases h : barI sp i with
    | none =>
      rw [h] at hin
      simp [-x_forF, hin, h]
    | some k =>
      rw [h] at hin
      simp [-x_forF, hin, h]
end
end Ev
set_option Elab.async false
set_option maxRecDepth 100000
set_option maxHeartbeats 1000000
namespace Ev
open PySem
def spansN (us : List (List (List Nat))) (xs : List Nat) (ns : List Int) : List (Nat × Nat) := (xs.zip ns).map fun p => spn (colN us p.1) p.2
def mixesN (us : List (List (List Nat))) (xs : List Nat) : List (List Int) := (mixC (xs.map (colN us))).map (·.1)
section
variable {nm : Nat → Str} {K : Nat} (inj : ∀ i, i < K → ∀ j, j < K → nm i = nm j → i = j)
include inj in
theorem asked_ix {fs : List Nat} {us : List (List (List Nat))} {xs : List Nat} {ns : List Int} (h1 : chkP K fs us = true) (h2 : chkO fs xs = true) (hl : ns.length = xs.length) (hm : ((xs.zip ns).all fun p => (colN us p.1).contains p.2) = true) :
    Asked (TP (fs.map nm) (usM nm us)) (TS (xs.map nm)) (TI ns) (fs.map nm) (usM nm us) (xs.map nm) ns := by
  have a := chkP_ok h1
  obtain ⟨b1, b2⟩ := chkO_ok h2
  have hx : ∀ x ∈ xs, x < K := fun x hx => a.fk x (b1 x hx)
  refine ⟨isPl_TP (a.ok nm), a.ok nm, a.sh nm, isTS_TS (by simp; omega), isTI_TI (by omega), fun x hx => ?_, by simpa using hl, by simp; omega, fun p hp => ?_⟩
  · obtain ⟨y, hy, rfl⟩ := List.mem_map.mp hx
    exact List.mem_map.mpr ⟨y, b1 y hy, rfl⟩
  · rw [List.zip_map_left] at hp
    obtain ⟨q, hq, rfl⟩ := List.mem_map.mp hp
    have := List.all_eq_true.mp hm q hq
    show q.2 ∈ col (usM nm us) (nm q.1)
    rw [colM inj a.uk (hx _ (List.of_mem_zip hq).1)]
    simpa using this
include inj in
theorem spans_ix {us : List (List (List Nat))} {xs : List Nat} {ns : List Int} (hu : ∀ u ∈ us, ∀ s ∈ u, ∀ y ∈ s, y < K) (hx : ∀ x ∈ xs, x < K) : spansO (usM nm us) (xs.map nm) ns = spansN us xs ns := by
  unfold spansO spansN
  rw [List.zip_map_left, List.map_map]
  apply List.map_congr_left
  intro p hp
  show spn (col (usM nm us) (nm p.1)) p.2 = _
  rw [colM inj hu (hx _ (List.of_mem_zip hp).1)]
include inj in
theorem momFor_ix {f : Fnl} (h : MomForS2 f) (st : List (List D)) {fs : List Nat} {us : List (List (List Nat))} {xs : List Nat} {ns : List Int} (r : Option (List Nat)) (h1 : chkP K fs us = true) (h2 : chkO fs xs = true) (hl : ns.length = xs.length) (hm : ((xs.zip ns).all fun p => (colN us p.1).contains p.2) = true) (hr : gfirst 0 (spansN us xs ns) = r) :
    f [TP (fs.map nm) (usM nm us), TS (xs.map nm), TI ns] st = .ok (.val (momD r), st) := by
  have a := chkP_ok h1
  rw [h st _ _ _ _ _ _ _ (asked_ix inj h1 h2 hl hm), spans_ix inj a.uk fun x hx => a.fk x ((chkO_ok h2).1 x hx), hr]
include inj in
theorem canBe_ix {f : Fnl} (h : CanBeS2 f) (st : List (List D)) {fs : List Nat} {us : List (List (List Nat))} {xs : List Nat} {ns : List Int} (r : Bool) (h1 : chkP K fs us = true) (h2 : chkO fs xs = true) (hl : ns.length = xs.length) (hm : ((xs.zip ns).all fun p => (colN us p.1).contains p.2) = true) (hr : (gfirst 0 (spansN us xs ns)).isSome = r) :
    f [TP (fs.map nm) (usM nm us), TS (xs.map nm), TI ns] st = .ok (.val (.bl r), st) := by
  have a := chkP_ok h1
  rw [h st _ _ _ _ _ _ _ (asked_ix inj h1 h2 hl hm), spans_ix inj a.uk fun x hx => a.fk x ((chkO_ok h2).1 x hx), hr]
include inj in
theorem bar_ix {f : Fnl} (h : BarS2 f) (st : List (List D)) {fs : List Nat} {us : List (List (List Nat))} {xs : List Nat} {ns : List Int} (r : Option (Nat × Nat)) (h1 : chkP K fs us = true) (h2 : chkO fs xs = true) (hl : ns.length = xs.length) (hm : ((xs.zip ns).all fun p => (colN us p.1).contains p.2) = true) (hr : barP (spansN us xs ns) = r) :
    f [TP (fs.map nm) (usM nm us), TS (xs.map nm), TI ns] st = .ok (.val (barD r), st) := by
  have a := chkP_ok h1
  rw [h st _ _ _ _ _ _ _ (asked_ix inj h1 h2 hl hm), spans_ix inj a.uk fun x hx => a.fk x ((chkO_ok h2).1 x hx), hr]
include inj in
theorem mixes_ix {f : Fnl} (h : MixesS f) (st : List (List D)) {fs : List Nat} {us : List (List (List Nat))} {xs : List Nat} (r : List (List Int)) (h1 : chkP K fs us = true) (h2 : chkO fs xs = true) (hz : (us.length + 1) ^ xs.length < 10000000) (hr : mixesN us xs = r) :
    f [TP (fs.map nm) (usM nm us), TS (xs.map nm)] st = .ok (.own (r.map TI), st) := by
  have a := chkP_ok h1
  obtain ⟨b1, b2⟩ := chkO_ok h2
  rw [h st _ _ (fs.map nm) (usM nm us) (xs.map nm) (isPl_TP (a.ok nm)) (a.ok nm) (a.sh nm) (isTS_TS (by simp; omega)) (fun x hx => ?_) (by simpa using b2) (by simpa using hz), mixMN inj a.uk (fun x hx => a.fk x (b1 x hx)), ← hr]
  · unfold mixesN
    rw [List.map_map]
    rfl
  · obtain ⟨y, hy, rfl⟩ := List.mem_map.mp hx
    exact List.mem_map.mpr ⟨y, b1 y hy, rfl⟩
end
end Ev
set_option Elab.async false
set_option maxRecDepth 100000
set_option maxHeartbeats 1000000
namespace Ev
open PySem
def LColS (f : Fnl) : Prop := ∀ st fs us (x : Str), x ∈ fs → PlOk fs us → f [.lst ((rowsP fs (stepsOf 1 us)).map TI), TS fs, .str x] st = .ok (.own ((col us x).map .int), st)
theorem lcol_spec {J : Ix} {C : Cl} : LColS (runF 4 (B__law_column J) C) := by
  intro st fs us x hx hk
  have hs := hk.steps
  refine run_eq ?_
  unfold B__law_column
  simp [Res.sat_bind]
  refine lc_mapT (List.range ((stepsOf 1 us).length + 1)) (fun m => TI (rowAt fs ((stepsOf 1 us).take m))) (fun m => .int (ver ((stepsOf 1 us).take m) x)) (by simp [rowsP]) (by rw [szL_val]; simp; omega) (by simp) ?_ ?_
  · intro m hm
    have e := ix_TI' (st := st) (rowAt_get (ts := (stepsOf 1 us).take m) hx)
    simp [TS, mapM_s1c, findIdx_mem hx, e]
  · simp [Res.sat_ok, colT]
end Ev
set_option Elab.async false
set_option maxRecDepth 100000
set_option maxHeartbeats 1000000
namespace Ev
open PySem
theorem p_range_get {α : Type} (l : List α) (d : α) : (List.range l.length).map (fun k => l[k]?.getD d) = l := by
  apply List.ext_getElem?
  intro i
  rw [List.getElem?_map]
  by_cases h : i < l.length
  · rw [List.getElem?_range h, List.getElem?_eq_getElem h]
    simp [List.getElem?_eq_getElem h]
  · rw [List.getElem?_eq_none (by simp; omega), List.getElem?_eq_none (by omega)]
    rfl
theorem p_natL : ∀ {l : List Int}, (∀ x ∈ l, 0 ≤ x) → ∃ r : List Nat, l = r.map fun (k : Nat) => (k : Int)
  | [], _ => ⟨[], rfl⟩
  | x :: l, h => by
    obtain ⟨r, hr⟩ := p_natL fun y hy => h y (List.mem_cons_of_mem _ hy)
    have hx := h x List.mem_cons_self
    refine ⟨x.toNat :: r, ?_⟩
    rw [List.map_cons, ← hr]
    congr 1
    omega
theorem p_range_at {n x : Nat} {p q : List Nat} (h : List.range n = p ++ x :: q) : x = p.length ∧ x < n := by
  have h1 : (List.range n)[p.length]? = some x := by rw [h]; simp
  have h2 : p.length < n := by
    have := congrArg List.length h
    simp at this
    omega
  rw [List.getElem?_range h2] at h1
  exact ⟨(Option.some.inj h1).symm, by rw [← Option.some.inj h1]; exact h2⟩
section
variable (us : List (List (List Str)))
/-- what is read of a file at a moment; its span -/
def vz (z : Str × Nat) : Int := ver ((stepsOf 1 us).take z.2) z.1
def sz (z : Str × Nat) : Nat × Nat := spn (col us z.1) (vz us z)
/-- reads at moments that do not fall -/
structure RdOk (zs : List (Str × Nat)) : Prop where
  pw : zs.Pairwise fun a b => a.2 ≤ b.2
  le : ∀ z ∈ zs, z.2 ≤ (stepsOf 1 us).length
variable {us}
theorem vz_at {z : Str × Nat} (h : z.2 ≤ (stepsOf 1 us).length) : (col us z.1)[z.2]? = some (vz us z) := colT_get _ _ h
theorem sz_ok {z : Str × Nat} (h : z.2 ≤ (stepsOf 1 us).length) : (sz us z).1 ≤ z.2 ∧ z.2 ≤ (sz us z).2 := ⟨(spn_of (vz_at h)).1, (spn_of (vz_at h)).2.1⟩
theorem spans_eq (zs : List (Str × Nat)) : spansO us (zs.map (·.1)) (zs.map (vz us)) = zs.map (sz us) := by
  unfold spansO
  rw [List.zip_map', List.map_map]
  rfl
theorem mix_mem : ∀ (n : Nat) (zs : List (Str × Nat)), zs.length = n → RdOk us zs → ∃ t, (zs.map (vz us), t) ∈ mixM us (zs.map (·.1)) ∧ ∀ b, (∀ z ∈ zs, z.2 ≤ b) → t ≤ b
  | 0, zs, h, _ => by
    have := List.length_eq_zero_iff.mp h
    subst this
    exact ⟨0, List.mem_cons_self, fun b _ => Nat.zero_le _⟩
  | n + 1, zs, h, ⟨hp, hm⟩ => by
    have hne : zs ≠ [] := fun e => by rw [e] at h; cases h
    obtain ⟨ys, z, rfl⟩ : ∃ ys y, zs = ys ++ [y] := ⟨zs.dropLast, zs.getLast hne, (List.dropLast_concat_getLast hne).symm⟩
    rw [List.length_append, List.length_singleton] at h
    obtain ⟨hp1, _, hp2⟩ := List.pairwise_append.mp hp
    obtain ⟨t, ht, hb⟩ := mix_mem n ys (by omega) ⟨hp1, fun w hw => hm w (by simp [hw])⟩
    have hz := hm z (by simp)
    have hs := sz_ok hz
    have htz : t ≤ z.2 := hb z.2 fun w hw => hp2 w hw z (List.mem_singleton.mpr rfl)
    refine ⟨max t (sz us z).1, ?_, fun b hbb => ?_⟩
    · rw [List.map_append, List.map_append, List.map_singleton, List.map_singleton, mixM_snoc]
      refine List.mem_flatMap.mpr ⟨_, ht, List.mem_filterMap.mpr ⟨vz us z, (setI_mem _ _).mpr (List.mem_of_getElem? (vz_at hz)), ?_⟩⟩
      exact if_pos (show t ≤ (sz us z).2 by omega)
    · have := hbb z (by simp)
      omega
/-- a version that a file has: from its first moment to its last one -/
theorem in_span {f : Str} {v : Int} (h : v ∈ col us f) : (spn (col us f) v).1 ≤ (spn (col us f) v).2 ∧ (spn (col us f) v).2 ≤ (stepsOf 1 us).length ∧ ∀ m, m ≤ (stepsOf 1 us).length → (vz us (f, m) = v ↔ (spn (col us f) v).1 ≤ m ∧ m ≤ (spn (col us f) v).2) := by
  obtain ⟨m, hm⟩ := List.mem_iff_getElem?.mp h
  obtain ⟨h1, h2, h3, h4⟩ := spn_of hm
  refine ⟨by omega, (col_at h4).1, fun k hk => ⟨fun e => ?_, fun e => ?_⟩⟩
  · have := vz_at (us := us) (z := (f, k)) hk
    rw [e] at this
    exact ⟨(spn_of this).1, (spn_of this).2.1⟩
  · have := spn_in hm e.1 e.2
    exact (col_at this).2.symm
theorem mix_conv : ∀ (n : Nat) (xs : List Str), xs.length = n → ∀ p ∈ mixM us xs, ∃ zs, zs.map (·.1) = xs ∧ zs.map (vz us) = p.1 ∧ RdOk us zs ∧ (∀ z ∈ zs, z.2 ≤ p.2) ∧ p.2 ≤ (stepsOf 1 us).length
  | 0, xs, h, p, hp => by
    have := List.length_eq_zero_iff.mp h
    subst this
    rw [show mixM us [] = [([], 0)] from rfl, List.mem_singleton] at hp
    subst hp
    exact ⟨[], rfl, rfl, ⟨List.Pairwise.nil, fun z hz => nomatch hz⟩, (fun z hz => nomatch hz), Nat.zero_le _⟩
  | n + 1, xs, h, p, hp => by
    have hne : xs ≠ [] := fun e => by rw [e] at h; cases h
    obtain ⟨ys, y, rfl⟩ : ∃ ys y, xs = ys ++ [y] := ⟨xs.dropLast, xs.getLast hne, (List.dropLast_concat_getLast hne).symm⟩
    rw [List.length_append, List.length_singleton] at h
    rw [mixM_snoc] at hp
    obtain ⟨q, hq, hp⟩ := List.mem_flatMap.mp hp
    obtain ⟨v, hv, hp⟩ := List.mem_filterMap.mp hp
    obtain ⟨zs, e1, e2, ⟨r1, r2⟩, hl, hN⟩ := mix_conv n ys (by omega) q hq
    split at hp
    · rename_i hle
      have hp := Option.some.inj hp
      subst hp
      have hv := (setI_mem _ _).mp hv
      obtain ⟨s1, s2, s3⟩ := in_span hv
      refine ⟨zs ++ [(y, max q.2 (spn (col us y) v).1)], by simp [e1], ?_, ⟨?_, fun z hz => ?_⟩, fun z hz => ?_, by show max _ _ ≤ _; omega⟩
      · rw [List.map_append, e2, List.map_singleton]
        rw [(s3 (max q.2 (spn (col us y) v).1) (by omega)).mpr ⟨by omega, by omega⟩]
      · refine List.pairwise_append.mpr ⟨r1, List.pairwise_singleton _ _, fun a ha b hb => ?_⟩
        rw [List.mem_singleton.mp hb]
        have := hl a ha
        show a.2 ≤ max _ _
        omega
      · rcases List.mem_append.mp hz with hz | hz
        · exact r2 z hz
        · rw [List.mem_singleton.mp hz]
          show max _ _ ≤ _
          omega
      · rcases List.mem_append.mp hz with hz | hz
        · have := hl z hz
          show z.2 ≤ max _ _
          omega
        · rw [List.mem_singleton.mp hz]
          exact Nat.le_refl _
    · cases hp
/-- the mixes are what is read at moments that do not fall -/
theorem mem_mix {xs : List Str} {ns : List Int} : ns ∈ (mixM us xs).map (·.1) ↔ ∃ zs, zs.map (·.1) = xs ∧ zs.map (vz us) = ns ∧ RdOk us zs := by
  constructor
  · intro h
    obtain ⟨p, hp, rfl⟩ := List.mem_map.mp h
    obtain ⟨zs, e1, e2, r, _⟩ := mix_conv _ xs rfl p hp
    exact ⟨zs, e1, e2, r⟩
  · rintro ⟨zs, rfl, rfl, r⟩
    obtain ⟨t, ht, _⟩ := mix_mem _ zs rfl r
    exact List.mem_map.mpr ⟨_, ht, rfl⟩
end

theorem ver_geT {f : Str} {n : Int} (hn : 1 ≤ n) : ∀ (k : Nat) (ts : List (Int × List Str)), ts.length = k → ts.Pairwise (fun a b => a.1 ≤ b.1) → (n ≤ ver ts f ↔ ∃ t ∈ ts, n ≤ t.1 ∧ f ∈ t.2)
  | 0, ts, h, _ => by
    have := List.length_eq_zero_iff.mp h
    subst this
    show n ≤ 0 ↔ _
    simp
    omega
  | k + 1, ts, h, hp => by
    have hne : ts ≠ [] := fun e => by rw [e] at h; cases h
    obtain ⟨ys, y, rfl⟩ : ∃ ys y, ts = ys ++ [y] := ⟨ts.dropLast, ts.getLast hne, (List.dropLast_concat_getLast hne).symm⟩
    rw [List.length_append, List.length_singleton] at h
    obtain ⟨hp1, _, hp2⟩ := List.pairwise_append.mp hp
    have ih := ver_geT (f := f) hn k ys (by omega) hp1
    rw [ver_snoc]
    split
    · rename_i hf
      constructor
      · intro h
        exact ⟨y, by simp, h, hf⟩
      · rintro ⟨t, ht, h1, h2⟩
        rcases List.mem_append.mp ht with ht | ht
        · have := hp2 t ht y (by simp)
          omega
        · rw [← List.mem_singleton.mp ht]
          exact h1
    · rename_i hf
      rw [ih]
      constructor
      · rintro ⟨t, ht, h1, h2⟩
        exact ⟨t, by simp [ht], h1, h2⟩
      · rintro ⟨t, ht, h1, h2⟩
        rcases List.mem_append.mp ht with ht | ht
        · exact ⟨t, ht, h1, h2⟩
        · rw [List.mem_singleton.mp ht] at h2
          exact absurd h2 hf
section
variable {us : List (List (List Str))}
theorem steps_pw' (m : Nat) : ((stepsOf 1 us).take m).Pairwise fun a b => a.1 ≤ b.1 := (steps_pw 1 us).sublist (List.take_sublist _ _)
theorem ver_ge {f : Str} {m : Nat} {n : Int} (hn : 1 ≤ n) : n ≤ ver ((stepsOf 1 us).take m) f ↔ ∃ t ∈ (stepsOf 1 us).take m, n ≤ t.1 ∧ f ∈ t.2 := ver_geT hn _ _ rfl (steps_pw' m)
theorem steps_getK : ∀ (k : Int) (us : List (List (List Str))) (i : Nat) (t : Int × List Str), (stepsOf k us)[i]? = some t ↔ ∃ p u q j, us = p ++ u :: q ∧ i = lens p + j ∧ u[j]? = some t.2 ∧ t.1 = k + p.length
  | k, [], i, t => by
    unfold stepsOf
    constructor
    · intro h
      simp at h
    · rintro ⟨p, u, q, j, h, _⟩
      cases p <;> cases h
  | k, u :: us, i, t => by
    have ih := steps_getK (k + 1) us
    unfold stepsOf
    by_cases hi : i < u.length
    · rw [List.getElem?_append_left (by simpa using hi), List.getElem?_map]
      constructor
      · intro h
        rw [List.getElem?_eq_getElem hi] at h
        have h := Option.some.inj h
        subst h
        exact ⟨[], u, us, i, rfl, by simp [lens], List.getElem?_eq_getElem hi, by simp⟩
      · rintro ⟨p, u', q, j, h, h1, h2, h3⟩
        cases p with
        | nil =>
          cases h
          have e1 : i = j := by simpa [lens] using h1
          subst e1
          rw [h2]
          obtain ⟨a, b⟩ := t
          simp at h3
          subst h3
          rfl
        | cons x p =>
          cases h
          have : lens (u :: p) = u.length + lens p := by
            rw [show u :: p = [u] ++ p from rfl, lens_append, lens_one]
          omega
    · rw [List.getElem?_append_right (by simpa using Nat.le_of_not_lt hi), List.length_map, ih]
      constructor
      · rintro ⟨p, u', q, j, h, h1, h2, h3⟩
        refine ⟨u :: p, u', q, j, by rw [h]; rfl, ?_, h2, by rw [h3, List.length_cons]; omega⟩
        have : lens (u :: p) = u.length + lens p := by
          rw [show u :: p = [u] ++ p from rfl, lens_append, lens_one]
        omega
      · rintro ⟨p, u', q, j, h, h1, h2, h3⟩
        cases p with
        | nil =>
          cases h
          have := (List.getElem?_eq_some_iff.mp h2).1
          simp [lens] at h1
          omega
        | cons x p =>
          cases h
          have : lens (u :: p) = u.length + lens p := by
            rw [show u :: p = [u] ++ p from rfl, lens_append, lens_one]
          exact ⟨p, u', q, j, rfl, by omega, h2, by rw [h3, List.length_cons]; omega⟩
theorem steps_get {i : Nat} {t : Int × List Str} : (stepsOf 1 us)[i]? = some t ↔ ∃ p u q j, us = p ++ u :: q ∧ i = lens p + j ∧ u[j]? = some t.2 ∧ t.1 = 1 + p.length := steps_getK 1 us i t
/-- a file's version: the last update whose step with it is done -/
theorem ver_ge' {f : Str} {m : Nat} {n : Int} (hn : 1 ≤ n) : n ≤ ver ((stepsOf 1 us).take m) f ↔ ∃ p u q j s, us = p ++ u :: q ∧ lens p + j < m ∧ u[j]? = some s ∧ f ∈ s ∧ n ≤ 1 + p.length := by
  rw [ver_ge hn]
  constructor
  · rintro ⟨t, ht, h1, h2⟩
    obtain ⟨i, hi⟩ := List.mem_iff_getElem?.mp ht
    have hlt : i < m := by
      have := (List.getElem?_eq_some_iff.mp hi).1
      simp at this
      omega
    rw [List.getElem?_take_of_lt hlt] at hi
    obtain ⟨p, u, q, j, e1, e2, e3, e4⟩ := steps_get.mp hi
    exact ⟨p, u, q, j, t.2, e1, by omega, e3, h2, by omega⟩
  · rintro ⟨p, u, q, j, s, e1, e2, e3, h2, e4⟩
    refine ⟨(1 + p.length, s), List.mem_iff_getElem?.mpr ⟨lens p + j, ?_⟩, e4, h2⟩
    rw [List.getElem?_take_of_lt e2]
    exact steps_get.mpr ⟨p, u, q, j, e1, rfl, e3, rfl⟩
/-- the moment at which the n-th update is done to its end -/
def endM (us : List (List (List Str))) (n : Nat) : Nat := lens (us.take n)
theorem lens_take_le (us : List (List (List Str))) (n : Nat) : lens (us.take n) ≤ lens us := by
  have := lens_append (us.take n) (us.drop n)
  rw [List.take_append_drop] at this
  omega
theorem endM_le (us : List (List (List Str))) (n : Nat) : endM us n ≤ (stepsOf 1 us).length := by
  rw [steps_lens]
  exact lens_take_le us n
theorem lens_split {p q : List (List (List Str))} {u : List (List Str)} : lens (p ++ u :: q) = lens p + u.length + lens q := by
  rw [show p ++ u :: q = p ++ ([u] ++ q) from rfl, lens_append, lens_append, lens_one]
  omega
theorem lens_take_lt {p q : List (List (List Str))} {u : List (List Str)} {n : Nat} (h : p.length < n) : lens p + u.length ≤ lens ((p ++ u :: q).take n) := by
  have : (p ++ u :: q).take n = p ++ u :: q.take (n - p.length - 1) := by
    rw [List.take_append, List.take_of_length_le (by omega)]
    congr 1
    obtain ⟨k, hk⟩ : ∃ k, n - p.length = k + 1 := ⟨n - p.length - 1, by omega⟩
    rw [hk]
    simp
  rw [this, lens_split]
  omega
theorem lens_take_ge {p q : List (List (List Str))} {u : List (List Str)} {n : Nat} (h : n ≤ p.length) : lens ((p ++ u :: q).take n) ≤ lens p := by
  rw [List.take_append_of_le_length h]
  exact lens_take_le p n
/-- .. and what a file has then: the last update up to it that renews it -/
theorem ver_end {f : Str} {n : Nat} {k : Int} (hk : 1 ≤ k) : k ≤ ver ((stepsOf 1 us).take (endM us n)) f ↔ ∃ p u q s, us = p ++ u :: q ∧ s ∈ u ∧ f ∈ s ∧ k ≤ 1 + p.length ∧ p.length < n := by
  rw [ver_ge' hk]
  constructor
  · rintro ⟨p, u, q, j, s, rfl, e2, e3, h2, e4⟩
    refine ⟨p, u, q, s, rfl, List.mem_of_getElem? e3, h2, e4, ?_⟩
    rcases Nat.lt_or_ge p.length n with h | h
    · exact h
    · have := lens_take_ge (p := p) (q := q) (u := u) h
      unfold endM at e2
      omega
  · rintro ⟨p, u, q, s, rfl, hs, h2, e4, hn⟩
    obtain ⟨j, hj⟩ := List.mem_iff_getElem?.mp hs
    have hl := (List.getElem?_eq_some_iff.mp hj).1
    have := lens_take_lt (p := p) (q := q) (u := u) hn
    exact ⟨p, u, q, j, s, rfl, by unfold endM; omega, hj, h2, e4⟩
theorem ver_nn {f : Str} {m : Nat} : 0 ≤ ver ((stepsOf 1 us).take m) f := ver_range.1
/-- two numbers with the same lower bounds -/
theorem int_ext {a b : Int} (ha : 0 ≤ a) (hb : 0 ≤ b) (h : ∀ k, 1 ≤ k → (k ≤ a ↔ k ≤ b)) : a = b := by
  rcases Int.lt_trichotomy a b with q | q | q
  · have := (h b (by omega)).mpr (by omega)
    omega
  · exact q
  · have := (h a (by omega)).mp (by omega)
    omega
theorem maxI_of {l : List Int} {m : Int} (h1 : m ∈ l) (h2 : ∀ x ∈ l, x ≤ m) : maxI l = m := by
  have hp : 0 < l.length := List.length_pos_of_mem h1
  obtain ⟨k1, k2⟩ := maxI_mem hp
  have := h2 _ k1
  have := k2 _ h1
  omega
/-- the version when an update is done to its end, as the program finds it -/
theorem want_end {f : Str} {n : Int} (hn : 0 ≤ n) : wantM us f n = ver ((stepsOf 1 us).take (endM us n.toNat)) f := by
  unfold wantM
  have hc : ∀ m, m ≤ (stepsOf 1 us).length → ver ((stepsOf 1 us).take m) f ∈ col us f := fun m hm => List.mem_of_getElem? (colT_get _ _ hm)
  refine maxI_of ?_ fun v hv => ?_
  · refine List.mem_filter.mpr ⟨(setI_mem _ _).mpr (hc _ (endM_le us _)), decide_eq_true ?_⟩
    rcases Int.lt_or_le (ver ((stepsOf 1 us).take (endM us n.toNat)) f) 1 with h | h
    · have := ver_nn (us := us) (f := f) (m := endM us n.toNat)
      omega
    · obtain ⟨p, u, q, s, _, _, _, h1, h2⟩ := (ver_end (us := us) (f := f) (n := n.toNat) h).mp (Int.le_refl _)
      omega
  · obtain ⟨hv, hle⟩ := List.mem_filter.mp hv
    have hle := of_decide_eq_true hle
    have hv := (setI_mem _ _).mp hv
    rcases Int.lt_or_le v 1 with h | h
    · have := ver_nn (us := us) (f := f) (m := endM us n.toNat)
      omega
    · obtain ⟨m, hm⟩ := List.mem_iff_getElem?.mp hv
      obtain ⟨hm1, hm2⟩ := col_at hm
      rw [ver_end h]
      have : v ≤ ver ((stepsOf 1 us).take m) f := by rw [← hm2]; exact Int.le_refl _
      obtain ⟨p, u, q, j, s, e1, e2, e3, e4, e5⟩ := (ver_ge' h).mp this
      refine ⟨p, u, q, s, e1, List.mem_of_getElem? e3, e4, e5, ?_⟩
      have h2 : (1 : Int) + p.length ≤ ver ((stepsOf 1 us).take m) f := (ver_ge' (by omega)).mpr ⟨p, u, q, j, s, e1, e2, e3, e4, Int.le_refl _⟩
      omega
end
end Ev
set_option Elab.async false
set_option maxRecDepth 100000
set_option maxHeartbeats 1000000
namespace Ev
open PySem
theorem stepsOf_append : ∀ (k : Int) (a b : List (List (List Str))), stepsOf k (a ++ b) = stepsOf k a ++ stepsOf (k + a.length) b
  | k, [], b => by simp [stepsOf]
  | k, u :: a, b => by
    show u.map (fun s => (k, s)) ++ stepsOf (k + 1) (a ++ b) = (u.map (fun s => (k, s)) ++ stepsOf (k + 1) a) ++ _
    rw [stepsOf_append (k + 1) a b, List.append_assoc, List.length_cons, show k + 1 + (a.length : Int) = k + ((a.length + 1 : Nat) : Int) by omega]
theorem stepsOf_one (k : Int) (u : List (List Str)) : stepsOf k [u] = u.map fun s => (k, s) := by simp [stepsOf]
theorem stepsOf_snoc (p : List (List (List Str))) (u : List (List Str)) : stepsOf 1 (p ++ [u]) = stepsOf 1 p ++ u.map fun s => (1 + (p.length : Int), s) := by
  rw [stepsOf_append, stepsOf_one]
@[simp] theorem g_inS {st : List (List D)} {x : Str} {s : List Str} {n : Bool} : gIn n st [.str x, TS s] = .ok (.val (.bl (if n then !decide (x ∈ s) else decide (x ∈ s)))) := g_in'
theorem ix_TSn {st : List (List D)} {xs : List Str} {n : Nat} {v : Str} (h : xs[n]? = some v) : gIx st [TS xs, .int (n : Int)] = .ok (.val (.str v)) := by
  simp [TS, atI_map, atI_nat, h]
theorem zip_len_eq {α β : Type} {xs : List α} {ys : List β} (h : ys.length = xs.length) : (xs.zip ys).length = xs.length := by simp [h]
def LRowsS (f : Fnl) : Prop := ∀ st fs us, PlOk fs us → f [TP fs us] st = .ok (.own ((rowsP fs (stepsOf 1 us)).map TI), st)
theorem g_rep0L {st : List (List D)} {n : Nat} (h : n ≤ 1000) : gMul st [.lst [.int 0], .int (n : Int)] = .ok (.own ((List.replicate n (0 : Int)).map .int)) := by
  have h1 : okP (n : Int) = true := okP_of (by omega) (by omega)
  have h2 : n ≤ szL := by rw [szL_val]; omega
  rw [szL_val] at h2
  simp [gMul, h1, h2, szL_val]
theorem lrows_spec {J : Ix} {C : Cl} : LRowsS (runF 6 (B__law_rows J) C) := by
  intro st fs us hk
  have hfl := hk.fl
  have hst := hk.steps
  have hul := hk.ul
  have z1 : (1 : Nat) ≤ szL := by decide
  have z0 : (0 : Nat) ≤ szL := Nat.zero_le _
  have zl : (0 : Nat) < szL := by decide
  have hr : okR (us.length : Int) = true := okR_nat (by omega)
  have e0 : (List.replicate fs.length (0 : Int)) = rowAt fs [] := by
    unfold rowAt
    exact List.map_const'.symm
  refine run_eq ?_
  unfold B__law_rows
  refine seq_eq (by simp [g_rep0L hfl, e0, z1, z0] <;> rfl) ?_
  refine seq_eq (by simp [zl] <;> rfl) ?_
  refine seq_eq (forF_pre (List.range us.length) (fun (k : Nat) => D.int (0 + k)) (fun p => [(1, .val (.lst ((rowAt fs (stepsOf 1 (us.take p.length))).map .int))), (2, .own ((rowsP fs (stepsOf 1 (us.take p.length))).map TI))]) (by simp [hr, rngL_map] <;> rfl) ?_ ?_) ?_
  · simp [stepsOf, rowsP, TI]
  · rintro p k q hpq
    obtain ⟨rfl, hlt⟩ := p_range_at hpq
    obtain ⟨u, hu⟩ : ∃ u, us[p.length]? = some u := ⟨_, List.getElem?_eq_getElem hlt⟩
    have htk : us.take (p.length + 1) = us.take p.length ++ [u] := by rw [List.take_succ, hu]; rfl
    have hsl : (stepsOf 1 (us.take p.length)).length + u.length ≤ 1000000 := by
      have : us = us.take p.length ++ [u] ++ us.drop (p.length + 1) := by rw [← htk, List.take_append_drop]
      rw [this, stepsOf_append, stepsOf_append] at hst
      simp [stepsOf_one] at hst
      omega
    generalize hts : stepsOf 1 (us.take p.length) = ts at hsl
    have hstep : stepsOf 1 (us.take (p.length + 1)) = ts ++ u.map fun s => ((p.length : Int) + 1, s) := by
      have : (us.take p.length).length = p.length := by rw [List.length_take]; omega
      rw [htk, stepsOf_snoc, this, hts, Int.add_comm]
    have e1 : atI (us.map TU) (p.length : Int) = some (TU u) := by
      rw [atI_map, atI_nat, hu]
      rfl
    refine turn_eq (by simp [hts] <;> rfl) ?_
    refine seq_eq (forF_pre u TS (fun r => [(1, .val (.lst ((rowAt fs (ts ++ r.map fun s => ((p.length : Int) + 1, s))).map .int))), (2, .own ((rowsP fs (ts ++ r.map fun s => ((p.length : Int) + 1, s))).map TI))]) (by simp [e1] <;> rfl) (by simp [TI]) ?_) ?_
    · rintro r s r2 hr2
      have hrl : r.length < u.length := by rw [hr2]; simp
      have hz : (rowsP fs (ts ++ r.map fun s => ((p.length : Int) + 1, s))).length < szL := by
        rw [rowsP_len, szL_val]
        simp
        omega
      have hrow : okR (fs.length : Int) = true := okR_nat (by omega)
      have hrl2 : (rowAt fs (ts ++ r.map fun s => ((p.length : Int) + 1, s))).length = fs.length := by simp [rowAt]
      generalize hts2 : ts ++ r.map (fun s => ((p.length : Int) + 1, s)) = ts2 at hz hrl2
      have hts3 : ts ++ (r ++ [s]).map (fun s => ((p.length : Int) + 1, s)) = ts2 ++ [((p.length : Int) + 1, s)] := by
        rw [List.map_append, ← List.append_assoc, hts2]
        rfl
      refine turn_eq (by simp [hts2] <;> rfl) ?_
      apply seq_eq
      · rw [Res.eq_sat]
        simp [Res.sat_bind]
        refine lc_mapT (List.range fs.length) (fun (k : Nat) => D.int (0 + k)) (fun i => .int (ver (ts2 ++ [((p.length : Int) + 1, s)]) (fs[i]?.getD Str.empty))) (by simp [hrow, hrl2, rngL_map]) (by simp [szL_val]; omega) (by simp) ?_ ?_
        · intro i hi
          have hi := List.mem_range.mp hi
          have h1 : fs[i]? = some fs[i] := List.getElem?_eq_getElem hi
          have h2 := ix_TSn (st := st) h1
          have h3 : atI (List.map D.int (rowAt fs ts2)) (i : Int) = some (D.int (ver ts2 fs[i])) := by
            rw [atI_map, atI_nat]
            unfold rowAt
            rw [List.getElem?_map, h1]
            rfl
          have h4 : fs[i]?.getD Str.empty = fs[i] := by rw [h1]; rfl
          rw [h4]
          by_cases hm : fs[i] ∈ s
          · simp [h2, hm, ver_snoc]
          · simp [h2, hm, ver_snoc, h3]
        · have e : ((List.range fs.length).map fun i => D.int (ver (ts2 ++ [((p.length : Int) + 1, s)]) (fs[i]?.getD Str.empty))) = (rowAt fs (ts2 ++ [((p.length : Int) + 1, s)])).map .int := by
            unfold rowAt
            conv => rhs; rw [← p_range_get fs Str.empty, List.map_map, List.map_map]
            rfl
          rw [e]
          simp [Res.sat_ok]
          rfl
      refine seq_eq (by simp [hz] <;> rfl) ?_
      rw [hts3, rowsP_snoc]
      simp [Res.sat_ok, TI]
    · simp [Res.sat_ok, List.length_append, hstep]
  · simp [Res.sat_ok]

theorem turn_sat {tg : Tg} {body : SS} {C : Cl} {ρ0 ρ1 : List (Option M)} {d : D} {s : S} {P : Out × S → Prop} (h : bindT tg d s.ρ = .ok ρ1) (h2 : (body C ⟨ρ1, s.st⟩).Sat fun r => r.1 = .nx ∧ P (.nx, ⟨keepR ρ0 r.2.ρ, r.2.st⟩)) : (turnF tg body C ρ0 d s).Sat P := by
  obtain ⟨⟨o, s2⟩, e, h3, h4⟩ := Res.sat_iff.mp h2
  simp only at h3
  subst h3
  unfold turnF
  rw [h]
  simp only [Res.bind_ok]
  rw [e]
  exact h4
theorem forF_gen {α : Type} {tg : Tg} {it : SI} {body : SS} {C : Cl} {s s0 : S} {P : Out × S → Prop} (xs : List α) (e : α → D) (I : List α → S → Prop) (hit : it C s = .ok (xs.map e, s0)) (h0 : I [] s0)
    (h : ∀ p x q s1, xs = p ++ x :: q → I p s1 → (turnF tg body C s0.ρ (e x) s1).Sat fun r => r.1 = .nx ∧ I (p ++ [x]) r.2) (hd : ∀ s1, I xs s1 → P (.nx, s1)) : (forF tg it body C s).Sat P := by
  rw [x_forF, hit]
  simp only [Res.bind_ok]
  refine for_sat xs e I h0 (fun p x q s1 hx hi => (h p x q s1 hx hi).mono fun r hr => ?_) hd
  obtain ⟨o, s2⟩ := r
  obtain ⟨e1, e2⟩ := hr
  simp only at e1
  subst e1
  exact e2
/-- a statement whose end is told, then the rest -/
theorem seq_gen {f k : SS} {C : Cl} {s : S} {P : Out × S → Prop} (Q : S → Prop) (h : (f C s).Sat fun r => r.1 = .nx ∧ Q r.2) (h2 : ∀ s1, Q s1 → (k C s1).Sat P) : (seqF f k C s).Sat P := by
  refine seq_sat (h.mono fun r hr => ?_)
  exact ⟨hr.1, h2 _ hr.2⟩
structure AskP (st : List (List D)) (n : Nat) (m : Int) (fs : List Str) (us : List (List (List Str))) (a b c d : Nat) (B : Int) (st0 : List (List D)) : Prop where
  fo : FilesOk fs
  f1 : a ≤ fs.length
  f2 : fs.length ≤ b
  uo : ∀ u ∈ us, UpdOk fs u
  u1 : c ≤ us.length
  u2 : us.length ≤ d
  bx : Box st n (m + B)
  kp : Kp st0 st n
theorem AskP.ok {st : List (List D)} {n : Nat} {m : Int} {fs : List Str} {us : List (List (List Str))} {a b c d : Nat} {B : Int} {st0 : List (List D)} (h : AskP st n m fs us a b c d B st0) (hb : b ≤ 60) (hd : d ≤ 1000) : PlOk fs us :=
  PlOk.of (by have := h.f2; omega) (by have := h.u2; omega) h.uo h.fo.nd
theorem sum_len_le {fs : List Str} : ∀ {us : List (List (List Str))}, (∀ u ∈ us, UpdOk fs u) → lens us ≤ us.length * fs.length
  | [], _ => by simp [lens]
  | u :: us, h => by
    have h1 := (h u List.mem_cons_self).len
    have h2 := sum_len_le (us := us) fun v hv => h v (List.mem_cons_of_mem _ hv)
    rw [show u :: us = [u] ++ us from rfl, lens_append, lens_one, List.length_append, Nat.add_mul, List.length_singleton]
    omega
theorem AskP.sh {st : List (List D)} {n : Nat} {m : Int} {fs : List Str} {us : List (List (List Str))} {a b c d : Nat} {B : Int} {st0 : List (List D)} (h : AskP st n m fs us a b c d B st0) (hz : d * b < 63) : (stepsOf 1 us).length < 63 := by
  rw [steps_lens]
  have h1 := sum_len_le h.uo
  have h2 : us.length * fs.length ≤ d * b := Nat.mul_le_mul h.u2 h.f2
  omega
structure OrdOk (fs xs : List Str) (k : Nat) : Prop where
  sub : ∀ x ∈ xs, x ∈ fs
  len : xs.length ≤ k
  ne : 0 < k → xs ≠ []
def LAskedS (f : Fnl) : Prop := ∀ st n m (k : Int) (ag : Bool), Box st n m → m + 10000 < big → 1 ≤ k → k ≤ 50 →
  ∃ fs us xs, ∃ st', f [.cell n, .int k, .bl ag] st = .ok (.val (.tup false [TP fs us, TS xs]), st') ∧ OrdOk fs xs k.toNat ∧ xs ≠ [] ∧ AskP st' n m fs us 2 4 1 3 8000 st
theorem lasked_spec {J : Ix} {C : Cl} (hT : TakeS (C (J.fn "_law_take"))) (hF : FilesS (C (J.fn "_law_files"))) (hP : PlanDS (C (J.fn "_law_plan"))) (hO : OrderS (C (J.fn "_law_order"))) : LAskedS (runF 5 (B__law_asked J) C) := by
  intro st n m k ag hb hm h1 h2
  rw [big_eq] at hm
  have z2 : (2 : Nat) ≤ szL := by decide
  obtain ⟨r, st1, e1, hr0, hr1, hb1, hk1⟩ := hT st n m 3 hb (by rw [big_eq]; omega) (by omega) (by omega)
  obtain ⟨fs, st2, e2, hl, hfs, hb2, hk2⟩ := hF st1 n _ (2 + r) hb1 (by rw [big_eq]; omega) (by omega) (by omega)
  have hne : fs ≠ [] := fun e => by rw [e] at hl; simp at hl; omega
  obtain ⟨r2, st3, e3, hr20, hr21, hb3, hk3⟩ := hT st2 n _ 3 hb2 (by rw [big_eq]; omega) (by omega) (by omega)
  obtain ⟨us, st4, e4, hul, hus, hb4, hk4⟩ := hP st3 n _ fs (1 + r2) hb3 (by rw [big_eq]; omega) hne (by omega) (by omega) (by omega)
  obtain ⟨r3, st5, e5, hr30, hr31, hb5, hk5⟩ := hT st4 n _ k hb4 (by rw [big_eq]; omega) (by omega) (by omega)
  obtain ⟨xs, st6, e6, hxs, hxl, hxne, hb6, hk6⟩ := hO st5 n _ fs (1 + r3) ag hb5 (by rw [big_eq]; omega) hne (by omega) (by omega) (by omega)
  refine ⟨fs, us, xs, st6, ?_, ⟨hxs, by omega, fun _ => hxne (by omega)⟩, hxne (by omega), ⟨hfs, by omega, by omega, hus, by omega, by omega, hb6.mono (by omega), ((((hk1.trans hk2).trans hk3).trans hk4).trans hk5).trans hk6⟩⟩
  simp [B__law_asked, e1, e2, e3, e4, e5, e6, z2]
def LAMixS (f : Fnl) : Prop := ∀ st n m fs us (xs : List Str), Box st n m → m + 10000 < big → PlOk fs us → (stepsOf 1 us).length < 1000000 → (∀ x ∈ xs, x ∈ fs) → xs.length ≤ 100 →
  ∃ (ns : List Int) (st' : List (List D)), f [.cell n, TP fs us, TS xs] st = .ok (.val (TI ns), st') ∧ ns.length = xs.length ∧ (∀ p ∈ xs.zip ns, p.2 ∈ col us p.1) ∧ Box st' n (m + 1000) ∧ Kp st st' n
theorem lamix_spec {J : Ix} {C : Cl} (hT : TakeS (C (J.fn "_law_take"))) (hO : OfS (C (J.fn "_law_of"))) (hR : LRowsS (C (J.fn "_law_rows"))) (hC : LColS (C (J.fn "_law_column"))) : LAMixS (runF 8 (B__law_a_mix J) C) := by
  intro st n m fs us xs hb hm hk hs hx hl
  rw [big_eq] at hm
  have z0 : (0 : Nat) ≤ szL := Nat.zero_le _
  refine ex_sat (fun ns => .val (TI ns)) (fun (ns : List Int) st' => ns.length = xs.length ∧ (∀ p ∈ xs.zip ns, p.2 ∈ col us p.1) ∧ Box st' n (m + 1000) ∧ Kp st st' n) ?_
  refine run_sat ?_
  unfold B__law_a_mix
  refine seq_eq (by simp [hR st fs us hk, z0] <;> rfl) ?_
  refine seq_gen (fun s => ∃ (ns : List Int) (st' : List (List D)) (h : Int), s = ⟨[some (.val (.cell n)), some (.val (TP fs us)), some (.val (TS xs)), some (.val (.lst ((rowsP fs (stepsOf 1 us)).map TI))), some (.val (.int h)), some (.own (ns.map .int)), none, none], st'⟩ ∧ ns.length = xs.length ∧ (∀ p ∈ xs.zip ns, p.2 ∈ col us p.1) ∧ Box st' n (m + 1000) ∧ Kp st st' n) ?_ ?_
  · refine forF_gen xs D.str (fun p s => ∃ (ns : List Int) (st' : List (List D)) (h : Nat), s = ⟨[some (.val (.cell n)), some (.val (TP fs us)), some (.val (TS xs)), some (.val (.lst ((rowsP fs (stepsOf 1 us)).map TI))), some (.val (.int h)), some (.own (ns.map .int)), none, none], st'⟩ ∧ ns.length = p.length ∧ (∀ q ∈ p.zip ns, q.2 ∈ col us q.1) ∧ h ≤ (stepsOf 1 us).length ∧ Box st' n (m + 3 * p.length) ∧ Kp st st' n) (by simp <;> rfl) ⟨[], st, 0, by simp, rfl, by simp, Nat.zero_le _, by simpa using hb, Kp.refl _ _⟩ ?_ ?_
    · rintro p x q s hpx ⟨ns, st1, h, rfl, hln, hcm, hh, hb1, hk1⟩
      have hpl : p.length < xs.length := by rw [hpx]; simp
      have hxm : x ∈ fs := hx x (by rw [hpx]; simp)
      have hcol := hC st1 fs us x hxm hk
      have hrl : (((rowsP fs (stepsOf 1 us)).length : Nat) : Int) = (stepsOf 1 us).length + 1 := by rw [rowsP_len]; omega
      obtain ⟨r, st2, e2, hr0, hr1, hb2, hk2⟩ := hT st1 n _ ((((rowsP fs (stepsOf 1 us)).length : Nat) : Int) - h) hb1 (by rw [big_eq]; omega) (by omega) (by omega)
      obtain ⟨r2, st3, e3, hr20, hr21, hb3, hk3⟩ := hT st2 n _ 4 hb2 (by rw [big_eq]; omega) (by omega) (by omega)
      obtain ⟨h', hh'⟩ : ∃ h' : Nat, (h' : Int) = h + r := ⟨(h + r).toNat, by omega⟩
      have hle : h' ≤ (stepsOf 1 us).length := by omega
      have hat : (col us x)[h']? = some (ver ((stepsOf 1 us).take h') x) := colT_get _ _ hle
      have hz : ns.length < szL := by rw [szL_val]; omega
      refine turn_sat (by simp <;> rfl) ?_
      refine seq_eq (by simp [hcol] <;> rfl) ?_
      refine seq_eq (by simp [e2, ← hh'] <;> rfl) ?_
      by_cases hp2 : 0 < r2
      · have hix : atI ((col us x).map D.int) (h' : Int) = some (.int (ver ((stepsOf 1 us).take h') x)) := by rw [atI_map, atI_nat, hat]; rfl
        refine seq_eq (by simp [e3, hp2, hix, hz] <;> rfl) ?_
        simp [Res.sat_ok]
        refine ⟨ns ++ [ver ((stepsOf 1 us).take h') x], st3, h', by simp, by simp [hln], ?_, hle, hb3.mono (by omega), (hk1.trans hk2).trans hk3⟩
        intro a b hab
        rw [List.zip_append hln.symm] at hab
        rcases List.mem_append.mp hab with hab | hab
        · exact hcm _ hab
        · simp at hab
          obtain ⟨rfl, rfl⟩ := hab
          exact List.mem_of_getElem? hat
      · have hcne : (col us x).map D.int ≠ [] := by
          intro e
          have := congrArg List.length e
          rw [List.length_map, colT_len] at this
          simp at this
        have hcl : ((col us x).map D.int).length = (stepsOf 1 us).length + 1 := by rw [List.length_map, colT_len]
        obtain ⟨y, st4, e4, hy, hb4, hk4⟩ := hO st3 n _ (.lst ((col us x).map .int)) ((col us x).map .int) hb3 (by rw [big_eq]; omega) (.inl rfl) hcne (by omega)
        obtain ⟨v, hv, rfl⟩ := List.mem_map.mp hy
        refine seq_eq (by simp [e3, hp2, e4, hz] <;> rfl) ?_
        simp [Res.sat_ok]
        refine ⟨ns ++ [v], st4, h', by simp, by simp [hln], ?_, hle, hb4.mono (by omega), ((hk1.trans hk2).trans hk3).trans hk4⟩
        intro a b hab
        rw [List.zip_append hln.symm] at hab
        rcases List.mem_append.mp hab with hab | hab
        · exact hcm _ hab
        · simp at hab
          obtain ⟨rfl, rfl⟩ := hab
          exact hv
    · rintro s ⟨ns, st1, h, rfl, hln, hcm, hh, hb1, hk1⟩
      exact ⟨rfl, ns, st1, h, rfl, hln, hcm, hb1.mono (by omega), hk1⟩
  · rintro s ⟨ns, st1, h, rfl, hln, hcm, hb1, hk1⟩
    simp [Res.sat_ok, EndP]
    exact ⟨ns, rfl, hln, fun a b h => hcm (a, b) h, hb1, hk1⟩

mutual
def toL : D → D
  | .lst ds => .lst (toLs ds)
  | .tup _ ds => .lst (toLs ds)
  | d => d
def toLs : List D → List D
  | [] => []
  | d :: ds => toL d :: toLs ds
end
theorem toLs_map : ∀ ds : List D, toLs ds = ds.map toL
  | [] => rfl
  | d :: ds => by
    unfold toLs
    rw [toLs_map ds]
    rfl
def toLm : D → M
  | .lst ds => .own (ds.map toL)
  | .tup _ ds => .own (ds.map toL)
  | d => .val d
@[simp] theorem toL_str (s : Str) : toL (.str s) = .str s := rfl
@[simp] theorem toL_int (s : Int) : toL (.int s) = .int s := rfl
theorem toL_lst (ds : List D) : toL (.lst ds) = .lst (ds.map toL) := by unfold toL; rw [toLs_map]
theorem toL_tup (k : Bool) (ds : List D) : toL (.tup k ds) = .lst (ds.map toL) := by unfold toL; rw [toLs_map]
mutual
theorem nrm_toL : ∀ d : D, nrm (toL d) = nrm d
  | .lst ds => by rw [toL_lst, nrm_lst, nrm_lst, ← toLs_map, List.map_congr_left (fun _ _ => rfl), ← nrms_map, ← nrms_map, nrms_toLs ds]
  | .tup k ds => by rw [toL_tup, nrm_lst, nrm_tup, ← toLs_map, ← nrms_map, ← nrms_map, nrms_toLs ds]
  | .non => rfl
  | .bl _ => rfl
  | .int _ => rfl
  | .str _ => rfl
  | .dic _ => rfl
  | .ins _ _ => rfl
  | .cell _ => rfl
  | .scr _ => rfl
theorem nrms_toLs : ∀ ds : List D, nrms (toLs ds) = nrms ds
  | [] => rfl
  | d :: ds => by
    show nrm (toL d) :: nrms (toLs ds) = nrm d :: nrms ds
    rw [nrm_toL d, nrms_toLs ds]
end
theorem dOk_toL : ∀ (n : Nat) (d : D), dOk n d = true → dOk n (toL d) = true
  | n, .non, h => h
  | n, .bl _, h => h
  | n, .int _, h => h
  | n, .str _, h => h
  | 0, .lst _, h => by cases h
  | 0, .tup _ _, h => by cases h
  | n + 1, .lst ds, h => by
    rw [toL_lst]
    unfold dOk at h ⊢
    rw [Bool.and_eq_true] at h ⊢
    refine ⟨by simpa using h.1, List.all_eq_true.mpr fun x hx => ?_⟩
    obtain ⟨y, hy, rfl⟩ := List.mem_map.mp hx
    exact dOk_toL n y (List.all_eq_true.mp h.2 y hy)
  | n + 1, .tup _ ds, h => by
    rw [toL_tup]
    unfold dOk at h ⊢
    rw [Bool.and_eq_true] at h ⊢
    refine ⟨by simpa using h.1, List.all_eq_true.mpr fun x hx => ?_⟩
    obtain ⟨y, hy, rfl⟩ := List.mem_map.mp hx
    exact dOk_toL n y (List.all_eq_true.mp h.2 y hy)
  | n, .dic _, h => by cases n <;> cases h
  | n, .ins _ _, h => by cases n <;> cases h
  | n, .cell _, h => by cases n <;> cases h
  | n, .scr _, h => by cases n <;> cases h
def ListsS (f : Fnl) (n : Nat) : Prop := ∀ st d, dOk n d = true → f [d] st = .ok (toLm d, st)
theorem IsPl.toL {d : D} {fs : List Str} {us : List (List (List Str))} (h : IsPl d fs us) : IsPl (toL d) fs us := ⟨dOk_toL 5 d h.ok, by rw [nrm_toL, h.eq]⟩
theorem lists_step {J : Ix} {C : Cl} {n : Nat} (hC : ∀ m, m < n → ListsS (C (J.fn "_law_lists")) m) : ListsS (runF 2 (B__law_lists J) C) n := by
  intro st d hd
  have flat : ∀ d : D, plainD d = true → isT d "list" = false → isT d "tuple" = false → toLm d = .val d → runF 2 (B__law_lists J) C [d] st = .ok (toLm d, st) := fun d h1 h2 h3 h4 => by
    simp [B__law_lists, g_isi h1, h2, h3, h4]
  have frzL : ∀ (x : D) (s : S), (∃ r, rOf (toLm x) = .ok r ∧ frz r s = .ok (toL x, s)) := by
    intro x s
    cases x <;> first | exact ⟨_, rfl, rfl⟩ | exact ⟨_, rfl, by rw [toL_lst]; rfl⟩ | exact ⟨_, rfl, by rw [toL_tup]; rfl⟩
  have seq : ∀ (d : D) (ds : List D), itemsOf st d = .ok ds → plainD d = true → (isT d "list" || isT d "tuple") = true → (∀ x ∈ ds, ∃ m, m < n ∧ dOk m x = true) → ds.length ≤ 100000 → toLm d = .own (ds.map toL) → runF 2 (B__law_lists J) C [d] st = .ok (toLm d, st) := by
    intro d ds hit h2 h3 h4 h5 h6
    simp at h3
    have hl := lc_map (vs := [1]) (tg := .nm 1) (it := itF (varF 0)) (el := callF (J.fn "_law_lists") [varF 1]) (C := C) (s := ⟨[some (.val d), none], st⟩) (s1 := ⟨[some (.val d), none], st⟩) ds id toL (by simp [hit]) (by rw [szL_val]; omega) (by simp) (fun x hx => by
      obtain ⟨m, hm, hk⟩ := h4 x hx
      obtain ⟨r, e1, e2⟩ := frzL x ⟨[some (.val d), some (.val x)], st⟩
      simp [hC m hm st x hk, e1, e2])
    simp [B__law_lists, g_isi h2, h3, hl, h6]
  cases d with
  | non => exact flat _ rfl rfl rfl rfl
  | bl b => exact flat _ rfl rfl rfl rfl
  | int i => exact flat _ rfl rfl rfl rfl
  | str s => exact flat _ rfl rfl rfl rfl
  | lst ds =>
    cases n with
    | zero => cases hd
    | succ n =>
      simp only [dOk, Bool.and_eq_true, List.all_eq_true, Nat.ble_eq] at hd
      exact seq _ ds rfl rfl rfl (fun x hx => ⟨n, Nat.lt_succ_self _, hd.2 x hx⟩) hd.1 rfl
  | tup k ds =>
    cases n with
    | zero => cases hd
    | succ n =>
      simp only [dOk, Bool.and_eq_true, List.all_eq_true, Nat.ble_eq] at hd
      exact seq _ ds rfl rfl rfl (fun x hx => ⟨n, Nat.lt_succ_self _, hd.2 x hx⟩) hd.1 rfl
  | dic _ => cases n <;> cases hd
  | ins _ _ => cases n <;> cases hd
  | cell _ => cases n <;> cases hd
  | scr _ => cases n <;> cases hd
theorem asc_uniqueN {a b : List Nat} (h1 : a.Pairwise (· < ·)) (h2 : b.Pairwise (· < ·)) (h : ∀ z, z ∈ a ↔ z ∈ b) : a = b := by
  have := asc_unique (a := a.map fun (k : Nat) => (k : Int)) (b := b.map fun (k : Nat) => (k : Int)) (by rw [List.pairwise_map]; exact h1.imp fun q => by omega) (by rw [List.pairwise_map]; exact h2.imp fun q => by omega) fun z => by
    simp only [List.mem_map]
    constructor
    · rintro ⟨k, hk, rfl⟩
      exact ⟨k, (h k).mp hk, rfl⟩
    · rintro ⟨k, hk, rfl⟩
      exact ⟨k, (h k).mpr hk, rfl⟩
  have inj : ∀ {a b : List Nat}, a.map (fun (k : Nat) => (k : Int)) = b.map (fun (k : Nat) => (k : Int)) → a = b := by
    intro a
    induction a with
    | nil => intro b h; cases b <;> first | rfl | cases h
    | cons x a ih =>
      intro b h
      cases b with
      | nil => cases h
      | cons y b =>
        rw [List.map_cons, List.map_cons, List.cons.injEq] at h
        rw [ih h.2, show x = y by omega]
  exact inj this
theorem idxs_range {c : List Int} {n : Int} : idxs c n = (List.range c.length).filter fun m => decide (c[m]? = some n) := by
  refine asc_uniqueN (idxs_pw c n) (List.pairwise_lt_range.sublist List.filter_sublist) fun z => ?_
  rw [mem_idxs, List.mem_filter, List.mem_range, decide_eq_true_eq]
  constructor
  · intro h
    exact ⟨(List.getElem?_eq_some_iff.mp h).1, h⟩
  · exact fun h => h.2
theorem idxs_head {c : List Int} {n : Int} (h : n ∈ c) : (idxs c n)[0]? = some (spn c n).1 ∧ (idxs c n)[(idxs c n).length - 1]? = some (spn c n).2 ∧ 0 < (idxs c n).length := by
  obtain ⟨m, hm⟩ := List.mem_iff_getElem?.mp h
  have hne : idxs c n ≠ [] := List.ne_nil_of_mem (mem_idxs.mpr hm)
  obtain ⟨x, r, e⟩ := List.exists_cons_of_ne_nil hne
  unfold spn
  refine ⟨by rw [e]; rfl, ?_, by rw [e]; simp⟩
  rw [← List.getLast?_eq_getElem?, List.getLast?_eq_some_getLast hne]
  rfl
theorem idxs_len {c : List Int} {n : Int} : (idxs c n).length ≤ c.length := by
  rw [idxs_range]
  have := List.length_filter_le (fun m => decide (c[m]? = some n)) (List.range c.length)
  simpa using this
def LSpansS (f : Fnl) : Prop := ∀ st fs us (xs : List Str) (ns : List Int), PlOk fs us → (∀ x ∈ xs, x ∈ fs) → xs.length ≤ 1000 → ns.length = xs.length → (∀ p ∈ xs.zip ns, p.2 ∈ col us p.1) → f [TP fs us, TS xs, TI ns] st = .ok (.own ((spansO us xs ns).map TN2), st)
theorem lspans_spec {J : Ix} {C : Cl} (hR : LRowsS (C (J.fn "_law_rows"))) (hC : LColS (C (J.fn "_law_column"))) : LSpansS (runF 9 (B__law_spans J) C) := by
  intro st fs us xs ns hk hx hl hln hm
  have hst := hk.steps
  have z0 : (0 : Nat) ≤ szL := Nat.zero_le _
  have z2 : (2 : Nat) ≤ szL := by decide
  have hr : okR (xs.length : Int) = true := okR_nat (by omega)
  have hr2 : okR ((rowsP fs (stepsOf 1 us)).length : Int) = true := okR_nat (by rw [rowsP_len]; omega)
  have hsl : (spansO us xs ns).length = xs.length := spansO_len hln
  refine run_eq ?_
  unfold B__law_spans
  refine seq_eq (by simp [hR st fs us hk, z0] <;> rfl) ?_
  refine seq_eq (forF_pre (List.range xs.length) (fun (k : Nat) => D.int (0 + k)) (fun p => [(4, .own (((spansO us xs ns).take p.length).map TN2))]) (by simp [hr, rngL_map] <;> rfl) (by simp) ?_) ?_
  · rintro p k q hpq
    obtain ⟨rfl, hlt⟩ := p_range_at hpq
    have hx1 : xs[p.length]? = some xs[p.length] := List.getElem?_eq_getElem hlt
    have hn1 : ns[p.length]? = some (ns[p.length]'(by omega)) := List.getElem?_eq_getElem (by omega)
    generalize xs[p.length] = x at hx1
    generalize ns[p.length]'(by omega) = v at hn1
    have hxm : x ∈ fs := hx x (List.mem_of_getElem? hx1)
    have hzp : (xs.zip ns)[p.length]? = some (x, v) := List.getElem?_zip_eq_some.mpr ⟨hx1, hn1⟩
    have hv : v ∈ col us x := hm (x, v) (List.mem_of_getElem? hzp)
    have hcol := hC st fs us x hxm hk
    have g1 := ix_TSn (st := st) hx1
    have g2 : gIx st [TI ns, .int (p.length : Int)] = .ok (.val (.int v)) := ix_TI' hn1
    have hso : (spansO us xs ns)[p.length]? = some (spn (col us x) v) := by
      unfold spansO
      rw [List.getElem?_map, hzp]
      rfl
    have htk : (spansO us xs ns).take (p.length + 1) = (spansO us xs ns).take p.length ++ [spn (col us x) v] := by rw [List.take_succ, hso]; rfl
    have hz : min p.length (spansO us xs ns).length < szL := by rw [szL_val]; omega
    obtain ⟨h1, h2, h3⟩ := idxs_head hv
    have hil : (idxs (col us x) v).length ≤ (stepsOf 1 us).length + 1 := by
      have := idxs_len (c := col us x) (n := v)
      rw [colT_len] at this
      exact this
    refine turn_eq (by simp <;> rfl) ?_
    refine seq_eq (by simp [g1, hcol] <;> rfl) ?_
    apply seq_eq
    · rw [Res.eq_sat]
      simp [Res.sat_bind]
      refine lc_filterT (List.range (rowsP fs (stepsOf 1 us)).length) (fun (k : Nat) => D.int (0 + k)) (fun m => decide ((col us x)[m]? = some v)) (fun m => D.int m) (by simp [hr2, rngL_map]) (by rw [szL_val, List.length_range, rowsP_len]; omega) (by simp) ?_ ?_
      · intro m hm
        have hm := List.mem_range.mp hm
        rw [rowsP_len] at hm
        have hg : (col us x)[m]? = some (ver ((stepsOf 1 us).take m) x) := colT_get _ _ (by omega)
        have hg2 : atI ((col us x).map D.int) (m : Int) = some (.int (ver ((stepsOf 1 us).take m) x)) := by rw [atI_map, atI_nat, hg]; rfl
        by_cases e : ver ((stepsOf 1 us).take m) x = v
        · simp [hg2, g2, hg, g_eq eqE_int, e]
        · simp [hg2, g2, hg, g_eq eqE_int, e]
      · have e : (((List.range (rowsP fs (stepsOf 1 us)).length).filter fun m => decide ((col us x)[m]? = some v)).map fun m => D.int (m : Nat)) = (idxs (col us x) v).map fun (m : Nat) => D.int m := by
          rw [idxs_range, colT_len, rowsP_len]
        rw [e]
        simp [Res.sat_ok]
        rfl
    have g3 : (idxs (col us x) v).length ≠ 0 := by omega
    have g4 : (((idxs (col us x) v).length : Nat) : Int) - 1 = (((idxs (col us x) v).length - 1 : Nat) : Int) := by omega
    have g5 : atI ((idxs (col us x) v).map fun (m : Nat) => D.int m) ((((idxs (col us x) v).length - 1 : Nat)) : Int) = some (.int ((spn (col us x) v).2 : Nat)) := by rw [atI_map, atI_nat, h2]; rfl
    refine seq_eq (by simp [h1, g4, g5, z2, hz] <;> rfl) ?_
    simp [Res.sat_ok, htk]
  · simp [Res.sat_ok, ← hsl]
end Ev
set_option Elab.async false
set_option maxRecDepth 100000
set_option maxHeartbeats 1000000
namespace Ev
open PySem
def nm3 (a b c : Str) : Nat → Str
  | 0 => a
  | 1 => b
  | _ => c
@[simp] theorem nm3_0 (a b c : Str) : nm3 a b c 0 = a := rfl
@[simp] theorem nm3_1 (a b c : Str) : nm3 a b c 1 = b := rfl
@[simp] theorem nm3_2 (a b c : Str) : nm3 a b c 2 = c := rfl
theorem inj2 {a b c : Str} (h : a ≠ b) : ∀ i, i < 2 → ∀ j, j < 2 → nm3 a b c i = nm3 a b c j → i = j := by
  intro i hi j hj e
  match i, j, hi, hj, e with
  | 0, 0, _, _, _ => rfl
  | 0, 1, _, _, e => exact absurd e h
  | 1, 0, _, _, e => exact absurd e.symm h
  | 1, 1, _, _, _ => rfl
theorem inj3 {a b c : Str} (h : a ≠ b) (h2 : a ≠ c) (h3 : b ≠ c) : ∀ i, i < 3 → ∀ j, j < 3 → nm3 a b c i = nm3 a b c j → i = j := by
  intro i hi j hj e
  match i, j, hi, hj, e with
  | 0, 0, _, _, _ => rfl
  | 0, 1, _, _, e => exact absurd e h
  | 0, 2, _, _, e => exact absurd e h2
  | 1, 0, _, _, e => exact absurd e.symm h
  | 1, 1, _, _, _ => rfl
  | 1, 2, _, _, e => exact absurd e h3
  | 2, 0, _, _, e => exact absurd e.symm h2
  | 2, 1, _, _, e => exact absurd e.symm h3
  | 2, 2, _, _, _ => rfl
theorem szs : (0 : Nat) ≤ szL ∧ (1 : Nat) ≤ szL ∧ (2 : Nat) ≤ szL ∧ (3 : Nat) ≤ szL ∧ (4 : Nat) ≤ szL ∧ (5 : Nat) ≤ szL ∧ (6 : Nat) ≤ szL ∧ (7 : Nat) ≤ szL ∧ (8 : Nat) ≤ szL ∧ (9 : Nat) ≤ szL ∧ (10 : Nat) ≤ szL ∧ (11 : Nat) ≤ szL ∧ (12 : Nat) ≤ szL ∧ (13 : Nat) ≤ szL ∧ (14 : Nat) ≤ szL := by decide
theorem nrm_lstS (xs : List Str) : nrm (.lst (xs.map .str)) = TS xs := by
  rw [nrm_lst, List.map_map, show nrm ∘ D.str = D.str from rfl, sHd_str]
  rfl
theorem nrm_lstI (xs : List Int) : nrm (.lst (xs.map .int)) = TI xs := by
  rw [nrm_lst, List.map_map, show nrm ∘ D.int = D.int from rfl, sHd_int]
  rfl
theorem isTS_lst {xs : List Str} (h : xs.length ≤ 100000) : IsTS (.lst (xs.map .str)) xs := by
  refine ⟨?_, nrm_lstS xs⟩
  unfold dOk
  rw [Bool.and_eq_true, Nat.ble_eq]
  refine ⟨by simpa using h, List.all_eq_true.mpr fun x hx => ?_⟩
  obtain ⟨y, _, rfl⟩ := List.mem_map.mp hx
  rfl
theorem isTI_lst {xs : List Int} (h : xs.length ≤ 100000) : IsTI (.lst (xs.map .int)) xs := by
  refine ⟨?_, nrm_lstI xs⟩
  unfold dOk
  rw [Bool.and_eq_true, Nat.ble_eq]
  refine ⟨by simpa using h, List.all_eq_true.mpr fun x hx => ?_⟩
  obtain ⟨y, _, rfl⟩ := List.mem_map.mp hx
  rfl
/-- what every call asks of a plan, an order, a mix -/
structure AskD (fs : List Str) (us : List (List (List Str))) (xs : List Str) (ns : List Int) : Prop where
  ok : PlOk fs us
  sh : (stepsOf 1 us).length < 63
  sub : ∀ x ∈ xs, x ∈ fs
  len : ns.length = xs.length
  ll : xs.length < 1000
  mem : ∀ p ∈ xs.zip ns, p.2 ∈ col us p.1
theorem AskD.asked {fs : List Str} {us : List (List (List Str))} {xs : List Str} {ns : List Int} (h : AskD fs us xs ns) {d o m : D} (h1 : IsPl d fs us) (h2 : IsTS o xs) (h3 : IsTI m ns) : Asked d o m fs us xs ns :=
  ⟨h1, h.ok, h.sh, h2, h3, h.sub, h.len, by have := h.ll; omega, h.mem⟩
theorem AskD.a0 {fs : List Str} {us : List (List (List Str))} {xs : List Str} {ns : List Int} (h : AskD fs us xs ns) : Asked (TP fs us) (TS xs) (TI ns) fs us xs ns :=
  h.asked (isPl_TP h.ok) (isTS_TS (by have := h.ll; omega)) (isTI_TI (by have := h.ll; have := h.len; omega))
theorem AskD.a1 {fs : List Str} {us : List (List (List Str))} {xs : List Str} {ns : List Int} (h : AskD fs us xs ns) : Asked (toL (TP fs us)) (.lst (xs.map .str)) (.lst (ns.map .int)) fs us xs ns :=
  h.asked (isPl_TP h.ok).toL (isTS_lst (by have := h.ll; omega)) (isTI_lst (by have := h.ll; have := h.len; omega))
theorem toLm_TP (fs : List Str) (us : List (List (List Str))) : ∃ ds, toLm (TP fs us) = .own ds ∧ toL (TP fs us) = .lst ds := ⟨_, rfl, by unfold TP; rw [toL_tup]⟩
def barsM (sp : List (Nat × Nat)) : List (Nat × Nat) := (List.range sp.length).flatMap fun i => ((List.range (sp.length - (i + 1))).filter (barQ sp i)).map fun k => (i, i + 1 + k)
theorem head_flat {α β : Type} (g : α → List β) : ∀ l : List α, (l.flatMap g).head? = (l.find? fun i => !(g i).isEmpty).bind fun i => (g i).head?
  | [] => rfl
  | x :: l => by
    rw [List.flatMap_cons]
    cases h : g x with
    | nil => simp [h, head_flat g l]
    | cons y r => simp [h]
theorem find_zipIdx {α : Type} (P : Nat → Bool) (l : List α) : (l.zipIdx.find? fun p => P p.2).map (·.2) = (List.range l.length).find? P := by
  have : l.zipIdx.map (·.2) = List.range l.length := by rw [List.zipIdx_map_snd, ← List.range_eq_range']
  rw [← this, List.find?_map]
  rfl
theorem filter_head {α : Type} (P : α → Bool) : ∀ (l : List α), (l.filter P).head? = l.find? P
  | [] => rfl
  | x :: l => by
    rw [List.filter_cons, List.find?_cons]
    split <;> rename_i h
    · rw [h]; rfl
    · rw [Bool.eq_false_iff.mpr h]; exact filter_head P l
theorem barP_head (sp : List (Nat × Nat)) : barP sp = (barsM sp).head? := by
  unfold barsM
  rw [head_flat]
  have e : (fun i => !(((List.range (sp.length - (i + 1))).filter (barQ sp i)).map fun k => (i, i + 1 + k)).isEmpty) = fun i => (barI sp i).isSome := by
    funext i
    unfold barI
    rw [← filter_head]
    cases (List.range (sp.length - (i + 1))).filter (barQ sp i) <;> rfl
  rw [e, ← find_zipIdx]
  unfold barP
  cases h : sp.zipIdx.find? (fun p => (barI sp p.2).isSome) with
  | none => rfl
  | some p =>
    show _ = (((List.range (sp.length - (p.2 + 1))).filter (barQ sp p.2)).map fun k => (p.2, p.2 + 1 + k)).head?
    have hp : (barI sp p.2).isSome = true := by simpa using List.find?_some (p := fun p : (Nat × Nat) × Nat => (barI sp p.2).isSome) h
    rw [List.head?_map, filter_head]
    have hp2 : ((List.range (sp.length - (p.2 + 1))).find? (barQ sp p.2)).isSome = true := hp
    obtain ⟨k, hk⟩ := Option.isSome_iff_exists.mp hp2
    have hk2 : barI sp p.2 = some k := hk
    rw [hk]
    show some (p.2, p.2 + 1 + (barI sp p.2).getD 0) = some (p.2, p.2 + 1 + k)
    rw [hk2]
    rfl
theorem barsM_nil {sp : List (Nat × Nat)} : barsM sp = [] ↔ sp.Pairwise fun a b => a.1 ≤ b.2 := by
  unfold barsM
  rw [List.flatMap_eq_nil_iff]
  constructor
  · intro h
    rw [List.pairwise_iff_getElem]
    intro i j hi hj hij
    have := h i (List.mem_range.mpr hi)
    rw [List.map_eq_nil_iff, List.filter_eq_nil_iff] at this
    have := this (j - (i + 1)) (List.mem_range.mpr (by omega))
    unfold barQ at this
    rw [List.getElem?_eq_getElem hi, show i + 1 + (j - (i + 1)) = j by omega, List.getElem?_eq_getElem hj] at this
    simpa using this
  · intro h i hi
    rw [List.map_eq_nil_iff, List.filter_eq_nil_iff]
    intro k hk
    have hi := List.mem_range.mp hi
    have hk := List.mem_range.mp hk
    have hj : i + 1 + k < sp.length := by omega
    unfold barQ
    rw [List.getElem?_eq_getElem hi, List.getElem?_eq_getElem hj]
    have := List.pairwise_iff_getElem.mp h i (i + 1 + k) hi hj (by omega)
    simpa using this
theorem gfirst_isSome : ∀ {t : Nat} {sp : List (Nat × Nat)}, (∀ s ∈ sp, s.1 ≤ s.2) → ((gfirst t sp).isSome = true ↔ (∀ s ∈ sp, t ≤ s.2) ∧ sp.Pairwise fun a b => a.1 ≤ b.2)
  | t, [], _ => by simp [gfirst]
  | t, s :: r, h0 => by
    have h00 := h0 s List.mem_cons_self
    have ih := gfirst_isSome (t := max t s.1) (sp := r) fun x hx => h0 x (List.mem_cons_of_mem _ hx)
    unfold gfirst
    split
    · rename_i h
      constructor
      · intro q; cases q
      · rintro ⟨h1, _⟩
        have := h1 s List.mem_cons_self
        omega
    · rename_i h
      rw [Option.isSome_map, ih, List.pairwise_cons]
      constructor
      · rintro ⟨h1, h2⟩
        refine ⟨fun x hx => ?_, fun x hx => ?_, h2⟩
        · rcases List.mem_cons.mp hx with q | q
          · rw [q]; omega
          · have := h1 x q; omega
        · have := h1 x hx; omega
      · rintro ⟨h1, h2, h3⟩
        refine ⟨fun x hx => ?_, h3⟩
        have := h1 x (List.mem_cons_of_mem _ hx)
        have := h2 x hx
        omega
theorem AskD.spans {fs : List Str} {us : List (List (List Str))} {xs : List Str} {ns : List Int} (h : AskD fs us xs ns) : ∀ s ∈ spansO us xs ns, s.1 ≤ s.2 := by
  intro s hs
  obtain ⟨p, hp, rfl⟩ := List.mem_map.mp hs
  exact (in_span (h.mem p hp)).1
theorem canBe_bars {fs : List Str} {us : List (List (List Str))} {xs : List Str} {ns : List Int} (h : AskD fs us xs ns) : (gfirst 0 (spansO us xs ns)).isSome = decide (barsM (spansO us xs ns) = []) := by
  rw [Bool.eq_iff_iff, gfirst_isSome h.spans, decide_eq_true_eq, barsM_nil]
  exact ⟨fun q => q.2, fun q => ⟨fun _ _ => Nat.zero_le _, q⟩⟩
theorem barQ_lt {sp : List (Nat × Nat)} {i k : Nat} (hi : i < sp.length) (hj : i + 1 + k < sp.length) : barQ sp i k = decide (sp[i + 1 + k].2 < sp[i].1) := by
  unfold barQ
  rw [List.getElem?_eq_getElem hi, List.getElem?_eq_getElem hj]
def LBarsS (f : Fnl) : Prop := ∀ st fs us (xs : List Str) (ns : List Int), PlOk fs us → (∀ x ∈ xs, x ∈ fs) → xs.length ≤ 1000 → ns.length = xs.length → (∀ p ∈ xs.zip ns, p.2 ∈ col us p.1) → f [TP fs us, TS xs, TI ns] st = .ok (.val (.lst ((barsM (spansO us xs ns)).map TN2)), st)
theorem bars_len (sp : List (Nat × Nat)) (k : Nat) : (((List.range k).flatMap fun i => ((List.range (sp.length - (i + 1))).filter (barQ sp i)).map fun k => (i, i + 1 + k))).length ≤ k * sp.length := by
  have := flat_len (g := fun i => ((List.range (sp.length - (i + 1))).filter (barQ sp i)).map fun k => (i, i + 1 + k)) (k := sp.length) (fun i => by
    rw [List.length_map]
    have := List.length_filter_le (barQ sp i) (List.range (sp.length - (i + 1)))
    rw [List.length_range] at this
    omega) (List.range k)
  simpa using this
theorem lbars_spec {J : Ix} {C : Cl} (hS : LSpansS (C (J.fn "_law_spans"))) : LBarsS (runF 7 (B__law_bars J) C) := by
  intro st fs us xs ns hk hx hl hln hm
  have z0 : (0 : Nat) ≤ szL := Nat.zero_le _
  have z2 : (2 : Nat) ≤ szL := by decide
  have hr : okR (xs.length : Int) = true := okR_nat (by omega)
  have hsl : (spansO us xs ns).length = xs.length := spansO_len hln
  have e1 := hS st fs us xs ns hk hx hl hln hm
  generalize spansO us xs ns = sp at hsl e1
  refine run_eq ?_
  unfold B__law_bars
  refine seq_eq (by simp [e1, z0] <;> rfl) ?_
  refine seq_eq (forF_pre (List.range xs.length) (fun (k : Nat) => D.int (0 + k)) (fun p => [(4, .val (.lst (((List.range p.length).flatMap fun i => ((List.range (sp.length - (i + 1))).filter (barQ sp i)).map fun k => (i, i + 1 + k)).map TN2)))]) (by simp [hr, rngL_map] <;> rfl) (by simp) ?_) ?_
  · rintro p i q hpq
    obtain ⟨rfl, hlt⟩ := p_range_at hpq
    have hi : p.length < sp.length := by omega
    have hr2 : okR ((p.length : Int) + 1) = true := okR_of (by omega) (by omega)
    have hb := bars_len sp p.length
    have hle : p.length * sp.length ≤ 1000 * 1000 := Nat.mul_le_mul (by omega) (by omega)
    generalize hL : ((List.range p.length).flatMap fun i => ((List.range (sp.length - (i + 1))).filter (barQ sp i)).map fun k => (i, i + 1 + k)) = L at hb
    have hL2 : ((List.range (p.length + 1)).flatMap fun i => ((List.range (sp.length - (i + 1))).filter (barQ sp i)).map fun k => (i, i + 1 + k)) = L ++ ((List.range (sp.length - (p.length + 1))).filter (barQ sp p.length)).map fun k => (p.length, p.length + 1 + k) := by
      rw [List.range_succ, List.flatMap_append, hL]
      simp
    have hn : ((xs.length : Int) - ((p.length : Int) + 1)).toNat = sp.length - (p.length + 1) := by omega
    refine turn_eq (by simp <;> rfl) ?_
    apply seq_eq
    · rw [Res.eq_sat]
      simp [Res.sat_bind, hL]
      refine lc_filterT (List.range (sp.length - (p.length + 1))) (fun (k : Nat) => D.int (((p.length : Int) + 1) + k)) (barQ sp p.length) (fun k => TN2 (p.length, p.length + 1 + k)) (by simp [hr, hr2, rngL_map, hn]) (by rw [szL_val, List.length_range]; omega) (by simp) ?_ ?_
      · intro k hk
        have hk := List.mem_range.mp hk
        have hj : p.length + 1 + k < sp.length := by omega
        have g1 : atI (sp.map TN2) (p.length : Int) = some (TN2 sp[p.length]) := by rw [atI_map, atI_nat, List.getElem?_eq_getElem hi]; rfl
        have g2 : atI (sp.map TN2) ((p.length : Int) + 1 + (k : Int)) = some (TN2 sp[p.length + 1 + k]) := by
          rw [show (p.length : Int) + 1 + (k : Int) = ((p.length + 1 + k : Nat) : Int) by omega, atI_map, atI_nat, List.getElem?_eq_getElem hj]
          rfl
        have g3 := barQ_lt hi hj
        by_cases h : sp[p.length + 1 + k].2 < sp[p.length].1
        · simp [g1, g2, g3, h, z2]
        · simp [g1, g2, g3, h]
      · have hfl := List.length_filter_le (barQ sp p.length) (List.range (sp.length - (p.length + 1)))
        rw [List.length_range] at hfl
        have hz : L.length + ((List.range (sp.length - (p.length + 1))).filter (barQ sp p.length)).length ≤ szL := by rw [szL_val]; omega
        simp [Res.sat_ok, Res.sat_bind, hz]
        rfl
    · simp only [List.length_append, List.length_singleton]
      rw [hL2]
      simp [Res.sat_ok, Function.comp_def]
  · simp [Res.sat_ok, barsM, hsl]
theorem g_eqcn {st : List (List D)} {n : Bool} {d : D} {ds : List D} (h : (d :: ds).all (shp 19) = true) : gEq n st [.lst (d :: ds), .lst []] = .ok (.val (.bl n)) := by
  have h1 : shp 20 (.lst (d :: ds)) = true := h
  have h2 : shp 20 (.lst []) = true := rfl
  have h3 : eqD (.lst (d :: ds)) (.lst []) = false := rfl
  simp [gEq, h1, h2, h3, vB]
theorem shp_TN2 (l : List (Nat × Nat)) : (l.map TN2).all (shp 19) = true := List.all_eq_true.mpr fun x hx => by
  obtain ⟨y, _, rfl⟩ := List.mem_map.mp hx
  rfl
end Ev
set_option Elab.async false
set_option maxRecDepth 100000
set_option maxHeartbeats 1000000
namespace Ev
open PySem
def ltI : List Int → List Int → Bool
  | [], [] => false
  | [], _ :: _ => true
  | _ :: _, [] => false
  | x :: xs, y :: ys => if x = y then ltI xs ys else decide (x < y)
theorem alk_ints : ∀ xs ys : List Int, PySem.W.alikeAll (toPys (xs.map .int)) (toPys (ys.map .int)) = true
  | [], _ => by simp [toPys, PySem.W.alikeAll]
  | _ :: _, [] => by simp [toPys, PySem.W.alikeAll]
  | x :: xs, y :: ys => by
    show (PySem.W.alike (.int x) (.int y) && PySem.W.alikeAll (toPys (xs.map .int)) (toPys (ys.map .int))) = true
    rw [alk_ints xs ys]
    rfl
theorem lex_ints : ∀ xs ys : List Int, PyProof.Rows.lexLt PyProof.Rows.itemOrd (PySem.W.keyToksAll (toPys (xs.map .int))) (PySem.W.keyToksAll (toPys (ys.map .int))) = ltI xs ys
  | [], [] => PyProof.Rows.lex_irrefl _
  | [], y :: ys => by
    show PyProof.Rows.lexLt PyProof.Rows.itemOrd (PySem.W.keyToksAll []) (PySem.W.keyToksAll (PyData.int y :: toPys (ys.map .int))) = true
    rw [PySem.W.toks_all_cons, PySem.W.keyToksAll]
    rfl
  | x :: xs, [] => by
    show PyProof.Rows.lexLt PyProof.Rows.itemOrd (PySem.W.keyToksAll (PyData.int x :: toPys (xs.map .int))) (PySem.W.keyToksAll []) = false
    rw [PySem.W.toks_all_cons, PySem.W.keyToksAll]
    rfl
  | x :: xs, y :: ys => by
    show PyProof.Rows.lexLt PyProof.Rows.itemOrd (PySem.W.keyToksAll (PyData.int x :: toPys (xs.map .int))) (PySem.W.keyToksAll (PyData.int y :: toPys (ys.map .int))) = _
    unfold ltI
    split
    · rename_i e
      rw [PySem.W.dataLt_all_yes rfl (by subst e; simp [PyData.eqv]), lex_ints xs ys]
    · rename_i e
      rw [PySem.W.dataLt_all_no rfl (by simp [PyData.eqv, e]), PySem.W.dataLt_int]
theorem ltD_ints {k l : Bool} {xs ys : List Int} : ltD (.tup k (xs.map .int)) (.tup l (ys.map .int)) = ltI xs ys := by
  show PySem.W.dataLt (.tuple _) (.tuple _) = _
  rw [PySem.W.dataLt_tuple]
  exact lex_ints xs ys
theorem minDD_of {α : Type} (e : α → D) (g : α) : ∀ (r : List α) (x : α), (∀ y ∈ x :: r, ltD (e y) (e g) = false) → (∀ y ∈ x :: r, e y ≠ e g → ltD (e g) (e y) = true) → g ∈ x :: r → (r.map e).foldl (fun a y => if ltD y a then y else a) (e x) = e g
  | [], x, _, _, hg => by
    rw [List.mem_singleton.mp hg]
    rfl
  | y :: r, x, h1, h2, hg => by
    rw [List.map_cons, List.foldl_cons]
    by_cases hx : e x = e g
    · rw [hx, h1 y (by simp)]
      have : ∀ (r : List α), (∀ y ∈ r, ltD (e y) (e g) = false) → (r.map e).foldl (fun a y => if ltD y a then y else a) (e g) = e g := by
        intro r
        induction r with
        | nil => intro _; rfl
        | cons z r ih =>
          intro h
          rw [List.map_cons, List.foldl_cons, h z List.mem_cons_self]
          exact ih fun w hw => h w (List.mem_cons_of_mem _ hw)
      exact this r fun z hz => h1 z (by simp [hz])
    · have hg' : g ∈ y :: r := by
        rcases List.mem_cons.mp hg with q | q
        · exact absurd (by rw [q]) hx
        · exact q
      by_cases hl : ltD (e y) (e x) = true
      · rw [if_pos hl]
        exact minDD_of e g r y (fun z hz => h1 z (List.mem_cons_of_mem _ hz)) (fun z hz => h2 z (List.mem_cons_of_mem _ hz)) hg'
      · rw [if_neg hl]
        refine minDD_of e g r x (fun z hz => h1 z ?_) (fun z hz => h2 z ?_) ?_
        · rcases List.mem_cons.mp hz with q | q <;> simp [q]
        · rcases List.mem_cons.mp hz with q | q <;> simp [q]
        · rcases List.mem_cons.mp hg' with q | q
          · subst q
            exact absurd (h2 x (by simp) hx) hl
          · simp [q]
/-- the least tuple of ints -/
theorem minDD_ints {L : List (List Int)} {g : List Int} (hg : g ∈ L) (h1 : ∀ y ∈ L, ltI y g = false) (h2 : ∀ y ∈ L, y ≠ g → ltI g y = true) : minDD (L.map TI) = TI g := by
  cases L with
  | nil => cases hg
  | cons x r =>
    refine minDD_of TI g r x (fun y hy => by rw [TI, TI, ltD_ints]; exact h1 y hy) (fun y hy hne => ?_) hg
    rw [TI, TI, ltD_ints]
    exact h2 y hy fun e => hne (by rw [e])
theorem ltI_le : ∀ {xs ys : List Int}, xs.length = ys.length → (∀ (k : Nat) (x y : Int), xs[k]? = some x → ys[k]? = some y → x ≤ y) → ltI ys xs = false ∧ (ys ≠ xs → ltI xs ys = true)
  | [], [], _, _ => ⟨rfl, fun h => absurd rfl h⟩
  | [], _ :: _, h, _ => by cases h
  | _ :: _, [], h, _ => by cases h
  | x :: xs, y :: ys, h, hk => by
    have h0 := hk 0 x y rfl rfl
    obtain ⟨i1, i2⟩ := ltI_le (xs := xs) (ys := ys) (by simpa using h) fun k a b ha hb => hk (k + 1) a b (by simpa using ha) (by simpa using hb)
    unfold ltI
    by_cases e : x = y
    · subst e
      simp only [if_true, i1, true_and]
      intro hne
      exact i2 fun q => hne (by rw [q])
    · rw [if_neg (Ne.symm e), if_neg e]
      exact ⟨decide_eq_false (by omega), fun _ => decide_eq_true (by omega)⟩
theorem alkD_ints {L : List (List Int)} : alkD (L.map TI) = true := by
  unfold alkD
  refine List.all_eq_true.mpr fun a ha => ?_
  obtain ⟨x, _, rfl⟩ := List.mem_map.mp ha
  rw [Bool.and_eq_true]
  refine ⟨?_, List.all_eq_true.mpr fun b hb => ?_⟩
  · show ((x.map D.int).all (shp 9)) = true
    exact List.all_eq_true.mpr fun y hy => by
      obtain ⟨z, _, rfl⟩ := List.mem_map.mp hy
      rfl
  · obtain ⟨y, _, rfl⟩ := List.mem_map.mp hb
    exact alk_ints x y
theorem tupsD_ints {L : List (List Int)} (h : L ≠ []) (h2 : ∀ x ∈ L, x ≠ []) : tupsD (L.map TI) = true := by
  unfold tupsD
  rw [Bool.and_eq_true]
  refine ⟨by cases L <;> first | exact absurd rfl h | rfl, List.all_eq_true.mpr fun a ha => ?_⟩
  obtain ⟨x, hx, rfl⟩ := List.mem_map.mp ha
  cases x with
  | nil => exact absurd rfl (h2 _ hx)
  | cons y r => rfl
theorem compL {vs : List Nat} {tg : Tg} {it : SI} {el : SE} {C : Cl} {s : S} (L : List (D × D)) (hit : it C s = .ok (L.map (·.1), s)) (hl : L.length ≤ 1000) (hv : ∀ v ∈ vs, s.ρ[v]? = some none) (h : ∀ p ∈ L, lcTurn tg [] el vs C p.1 s = .ok (some p.2, s)) : lcF vs tg it [] el C s = .ok (.own (L.map (·.2)), s) :=
  lc_map L (·.1) (·.2) hit (by rw [szL_val]; omega) hv h
end Ev
set_option Elab.async false
set_option maxRecDepth 100000
set_option maxHeartbeats 1000000
namespace Ev
open PySem
theorem eqE_encN : EqE 1 encN := ⟨fun x => rfl, fun x y => by
  show (eqD (.str x.1) (.str y.1) && (eqD (.str x.2) (.str y.2) && true)) = decide (x = y)
  rw [eqE_str.eq, eqE_str.eq, Bool.and_true, ← Bool.decide_and]
  congr 1
  rw [Prod.ext_iff]⟩
@[simp] theorem items_TN {st : List (List D)} {ps : List (Str × Str)} : itemsOf st (TN ps) = .ok (ps.map encN) := rfl
@[simp] theorem len_TN {st : List (List D)} {ps : List (Str × Str)} : gLen st [TN ps] = .ok (.val (.int ps.length)) := by simp [TN]
def LNeedS (f : Fnl) : Prop := ∀ st fs us (x : Str) (n : Nat), x ∈ fs → PlOk fs us → n ≤ us.length → f [TP fs us, .str x, .int n] st = .ok (.val (.int (ver ((stepsOf 1 us).take (endM us n)) x)), st)
theorem lneed_spec {J : Ix} {C : Cl} (hR : LRowsS (C (J.fn "_law_rows"))) (hC : LColS (C (J.fn "_law_column"))) : LNeedS (runF 5 (B__law_need J) C) := by
  intro st fs us x n hx hk hn
  have hul := hk.ul
  have hcol := hC st fs us x hx hk
  refine run_eq ?_
  unfold B__law_need
  apply seq_eq
  · rw [Res.eq_sat]
    simp [Res.sat_bind]
    refine lc_mapT (us.take n) TU (fun u => .int (u.length : Nat)) (by simp [cut_take, ← List.map_take]) (by rw [szL_val, List.length_take]; omega) (by simp) ?_ ?_
    · intro u hu
      simp
    · have e : (us.take n).map (fun u => D.int (u.length : Nat)) = ((us.take n).map fun u => ((u.length : Nat) : Int)).map D.int := by rw [List.map_map]; rfl
      rw [e]
      have e2 : ((us.take n).map fun u => ((u.length : Nat) : Int)).sum = (endM us n : Nat) := by
        unfold endM lens
        generalize us.take n = l
        induction l with
        | nil => rfl
        | cons u l ih => rw [List.map_cons, List.map_cons, List.sum_cons, List.sum_cons, ih]; omega
      have gs : gSum st [.lst (((us.take n).map fun u => ((u.length : Nat) : Int)).map D.int)] = .ok (.val (.int (endM us n : Nat))) := by rw [g_sum, e2]
      generalize ((us.take n).map fun u => ((u.length : Nat) : Int)).map D.int = L at gs ⊢
      simp [Res.sat_ok, gs]
      rfl
  have hg : (col us x)[endM us n]? = some (ver ((stepsOf 1 us).take (endM us n)) x) := colT_get _ _ (endM_le us n)
  have hg2 : atI ((col us x).map D.int) (endM us n : Int) = some (.int (ver ((stepsOf 1 us).take (endM us n)) x)) := by rw [atI_map, atI_nat, hg]; rfl
  simp [hR st fs us hk, hcol, hg2, Res.sat_ok]
theorem sel_range (xs : List Str) (ns : List Int) (x : Str) (h : ns.length = xs.length) : ((List.range xs.length).filter fun k => decide (xs[k]? = some x)).map (fun k => ns[k]?.getD 0) = selM xs ns x := by
  unfold selM
  have e : xs.zip ns = (List.range xs.length).map fun k => (xs[k]?.getD Str.empty, ns[k]?.getD 0) := by
    apply List.ext_getElem?
    intro i
    rw [List.getElem?_map]
    by_cases hi : i < xs.length
    · have hz : (xs.zip ns)[i]? = some (xs[i], ns[i]'(by omega)) := List.getElem?_zip_eq_some.mpr ⟨List.getElem?_eq_getElem hi, List.getElem?_eq_getElem (show i < ns.length by omega)⟩
      rw [List.getElem?_range hi, hz]
      simp [List.getElem?_eq_getElem hi, List.getElem?_eq_getElem (show i < ns.length by omega)]
    · rw [List.getElem?_eq_none (by simp; omega), List.getElem?_eq_none (by simp; omega)]
      rfl
  rw [e, List.filter_map, List.map_map]
  have e2 : (List.range xs.length).filter (fun k => decide (xs[k]? = some x)) = (List.range xs.length).filter ((fun p : Str × Int => p.1 == x) ∘ fun k => (xs[k]?.getD Str.empty, ns[k]?.getD 0)) := by
    refine List.filter_congr fun k hk => ?_
    have hk := List.mem_range.mp hk
    simp [List.getElem?_eq_getElem hk]
    exact beq_eq_decide.symm
  rw [e2]
  rfl
where
  beq_eq_decide {a b : Str} : (a == b) = decide (a = b) := by
    rw [Bool.eq_iff_iff, beq_iff_eq, decide_eq_true_eq]
theorem minI_lt {l : List Int} {w : Int} : (l.any fun i => decide (i < w)) = (!l.isEmpty && decide (minI l < w)) := by
  cases l with
  | nil => rfl
  | cons x r =>
    obtain ⟨h1, h2⟩ := minI_mem (l := x :: r) (by simp)
    rw [Bool.eq_iff_iff, List.any_eq_true]
    show _ ↔ decide (minI (x :: r) < w) = true
    rw [decide_eq_true_eq]
    constructor
    · rintro ⟨i, hi, h⟩
      have := h2 i hi
      have := of_decide_eq_true h
      omega
    · intro h
      exact ⟨_, h1, decide_eq_true h⟩
def LBreaksS (f : Fnl) : Prop := ∀ st fs us (xs : List Str) (ns : List Int) (ps : List (Str × Str)), PlOk fs us → xs.length ≤ 1000 → ns.length = xs.length → (∀ p ∈ xs.zip ns, 0 ≤ p.2 ∧ p.2 ≤ us.length) → (∀ p ∈ ps, p.2 ∈ fs) → ps.length ≤ 100000 →
  f [TP fs us, TS xs, TI ns, TN ps] st = .ok (.own ((ps.filter (isBrkM us xs ns)).map encN), st)
theorem lbreaks_spec {J : Ix} {C : Cl} (hN : LNeedS (C (J.fn "_law_need"))) : LBreaksS (runF 11 (B__law_breaks J) C) := by
  intro st fs us xs ns ps hk hl hln hm hp hpl
  have z0 : (0 : Nat) ≤ szL := Nat.zero_le _
  have z2 : (2 : Nat) ≤ szL := by decide
  have hr : okR (xs.length : Int) = true := okR_nat (by omega)
  have sel : ∀ (x : Str) (s : Ev.S), (List.range xs.length).filter (fun k => decide (xs[k]? = some x)) = (List.range xs.length).filter (fun k => decide (xs[k]? = some x)) := fun _ _ => rfl
  refine run_eq ?_
  unfold B__law_breaks
  refine seq_eq (by simp [z0] <;> rfl) ?_
  refine seq_eq (forF_pre ps encN (fun p => [(4, .own ((p.filter (isBrkM us xs ns)).map encN))]) (by simp <;> rfl) (by simp) ?_) ?_
  · rintro p ⟨a, b⟩ q hpq
    have hb : b ∈ fs := hp (a, b) (by rw [hpq]; simp)
    have hz : (p.filter (isBrkM us xs ns)).length < szL := by
      have h1 := List.length_filter_le (isBrkM us xs ns) p
      have h2 : p.length ≤ ps.length := by rw [hpq]; simp
      rw [szL_val]
      omega
    have hnn : ∀ (x : Str), ∀ v ∈ selM xs ns x, 0 ≤ v ∧ v ≤ us.length := fun x v hv => by
      unfold selM at hv
      obtain ⟨w, hw, rfl⟩ := List.mem_map.mp hv
      exact hm w (List.mem_filter.mp hw).1
    have hsl := fun x => sel_len xs ns x
    refine turn_eq (by simp <;> rfl) ?_
    have one : ∀ (x : Str) (k : Nat), k < xs.length → gEq false st [.str (xs[k]?.getD Str.empty), .str x] = .ok (.val (.bl (decide (xs[k]? = some x)))) := fun x k hk => by
      rw [List.getElem?_eq_getElem hk]
      have := g_eq eqE_str (by omega) (st := st) (neg := false) (x := xs[k]) (y := x)
      simpa using this
    apply seq_eq
    · rw [Res.eq_sat]
      simp [Res.sat_bind]
      refine lc_filterT (List.range xs.length) (fun (k : Nat) => D.int (0 + k)) (fun k => decide (xs[k]? = some a)) (fun k => .int (ns[k]?.getD 0)) (by simp [hr, rngL_map]) (by rw [szL_val, List.length_range]; omega) (by simp) ?_ ?_
      · intro k hk
        have hk := List.mem_range.mp hk
        have g1 := ix_TSn (st := st) (List.getElem?_eq_getElem hk)
        have g2 : gIx st [TI ns, .int (k : Int)] = .ok (.val (.int (ns[k]'(by omega)))) := ix_TI' (List.getElem?_eq_getElem _)
        have g3 := one a k hk
        rw [List.getElem?_eq_getElem hk] at g3 ⊢
        rw [List.getElem?_eq_getElem (show k < ns.length by omega)]
        by_cases e : xs[k] = a
        · simp [g1, g2, g_eq eqE_str, e]
        · simp [g1, g2, g_eq eqE_str, e]
      · have e := sel_range xs ns a hln
        have e2 : ((List.range xs.length).filter fun k => decide (xs[k]? = some a)).map (fun k => D.int (ns[k]?.getD 0)) = (selM xs ns a).map D.int := by rw [← e, List.map_map]; rfl
        rw [e2]
        simp [Res.sat_ok]
        rfl
    apply seq_eq
    · rw [Res.eq_sat]
      simp [Res.sat_bind]
      refine lc_filterT (List.range xs.length) (fun (k : Nat) => D.int (0 + k)) (fun k => decide (xs[k]? = some b)) (fun k => .int (ns[k]?.getD 0)) (by simp [hr, rngL_map]) (by rw [szL_val, List.length_range]; omega) (by simp) ?_ ?_
      · intro k hk
        have hk := List.mem_range.mp hk
        have g1 := ix_TSn (st := st) (List.getElem?_eq_getElem hk)
        have g2 : gIx st [TI ns, .int (k : Int)] = .ok (.val (.int (ns[k]'(by omega)))) := ix_TI' (List.getElem?_eq_getElem _)
        rw [List.getElem?_eq_getElem hk, List.getElem?_eq_getElem (show k < ns.length by omega)]
        by_cases e : xs[k] = b
        · simp [g1, g2, g_eq eqE_str, e]
        · simp [g1, g2, g_eq eqE_str, e]
      · have e := sel_range xs ns b hln
        have e2 : ((List.range xs.length).filter fun k => decide (xs[k]? = some b)).map (fun k => D.int (ns[k]?.getD 0)) = (selM xs ns b).map D.int := by rw [← e, List.map_map]; rfl
        rw [e2]
        simp [Res.sat_ok]
        rfl
    have hb1 := hnn b
    have ha1 := hnn a
    have hla := hsl a
    have hbr : isBrkM us xs ns (a, b) = (selM xs ns a).any fun n => !(selM xs ns b).isEmpty && decide (minI (selM xs ns b) < wantM us b n) := by
      unfold isBrkM
      congr 1
      funext n
      exact minI_lt
    generalize selM xs ns a = A at ha1 hla hbr
    generalize selM xs ns b = B at hb1 hbr
    generalize hF : (p.filter (isBrkM us xs ns)).map encN = F
    have hFl : F.length < szL := by rw [← hF, List.length_map]; exact hz
    have hF2 : ((p ++ [(a, b)]).filter (isBrkM us xs ns)).map encN = F ++ if isBrkM us xs ns (a, b) = true then [encN (a, b)] else [] := by
      rw [List.filter_append, List.map_append, hF, List.filter_cons]
      split <;> rfl
    rw [hF2]
    have lc : ∀ s : Ev.S, s = ⟨[some (.val (TP fs us)), some (.val (TS xs)), some (.val (TI ns)), some (.val (TN ps)), some (.own F), some (.val (.str a)), some (.val (.str b)), some (.val (.lst (A.map .int))), none, some (.val (.lst (B.map .int))), none], st⟩ →
        lcF [10] (.nm 10) (itF (varF 7)) [andF (opE (gEq true) [varF 9, lstF []]) (opE gLt [opE gMinX [varF 9], callF (J.fn "_law_need") [varF 0, varF 6, varF 10]])] (varF 10) C s = .ok (.own ((A.filter fun n => !B.isEmpty && decide (minI B < wantM us b n)).map .int), s) := by
      rintro s rfl
      refine lc_filter A D.int (fun n => !B.isEmpty && decide (minI B < wantM us b n)) D.int (by simp) (by rw [szL_val]; omega) (by simp) fun v hv => ?_
      obtain ⟨v0, v1⟩ := ha1 v hv
      have hN' := hN st fs us b v.toNat hb hk (by omega)
      rw [show ((v.toNat : Nat) : Int) = v by omega] at hN'
      rw [want_end v0]
      cases B with
      | nil => simp
      | cons y B =>
        have g1 : ∀ neg, gEq neg st [.lst (D.int y :: B.map D.int), .lst []] = .ok (.val (.bl neg)) := fun neg => g_eqcn (by
          refine List.all_eq_true.mpr fun x hx => ?_
          rcases List.mem_cons.mp hx with rfl | hx
          · rfl
          · obtain ⟨z, _, rfl⟩ := List.mem_map.mp hx
            rfl)
        have g2 : gMin2 st [.lst (D.int y :: B.map D.int)] = .ok (.val (.int (minI (y :: B)))) := by
          have : (D.int y :: B.map D.int).mapM i1 = some (y :: B) := mapM_i1 (y :: B)
          simp [gMin2, this, vI]
        simp [g1, g2, hN']
        split <;> simp_all
    by_cases hbk : isBrkM us xs ns (a, b) = true
    · rw [if_pos hbk]
      rw [hbr] at hbk
      obtain ⟨n0, hn0, hn1⟩ := List.any_eq_true.mp hbk
      obtain ⟨y, L, hL⟩ := List.exists_cons_of_ne_nil (l := A.filter fun n => !B.isEmpty && decide (minI B < wantM us b n)) (List.ne_nil_of_mem (List.mem_filter.mpr ⟨hn0, hn1⟩))
      have g1 : ∀ neg, gEq neg st [.lst (D.int y :: L.map D.int), .lst []] = .ok (.val (.bl neg)) := fun neg => g_eqcn (by
          refine List.all_eq_true.mpr fun x hx => ?_
          rcases List.mem_cons.mp hx with rfl | hx
          · rfl
          · obtain ⟨z, _, rfl⟩ := List.mem_map.mp hx
            rfl)
      refine seq_eq (by simp [lc _ rfl, hL, g1, hFl, z0, z2] <;> rfl) ?_
      simp [Res.sat_ok]
    · rw [if_neg hbk]
      have hnil : A.filter (fun n => !B.isEmpty && decide (minI B < wantM us b n)) = [] := by
        rw [List.filter_eq_nil_iff]
        intro n hn q
        rw [hbr] at hbk
        exact hbk (List.any_eq_true.mpr ⟨n, hn, q⟩)
      refine seq_eq (by simp [lc _ rfl, hnil, z0] <;> rfl) ?_
      simp [Res.sat_ok]
  · simp [Res.sat_ok]

def leP (p q : Str × Str) : Bool := leD (encN p) (encN q)
def sortP (ps : List (Str × Str)) : List (Str × Str) := ps.mergeSort leP
theorem sortP_perm (ps : List (Str × Str)) : (sortP ps).Perm ps := List.mergeSort_perm _ _
theorem sortP_enc (ps : List (Str × Str)) : (ps.map encN).mergeSort leD = (sortP ps).map encN := by
  unfold sortP
  rw [List.map_mergeSort (s := leD)]
  intro a _ b _
  rfl
theorem alk_encN (p q : Str × Str) : PySem.W.alike (toPy (encN p)) (toPy (encN q)) = true := rfl
theorem alkD_encN (ps : List (Str × Str)) : alkD (ps.map encN) = true := by
  unfold alkD
  refine List.all_eq_true.mpr fun a ha => ?_
  obtain ⟨x, _, rfl⟩ := List.mem_map.mp ha
  rw [Bool.and_eq_true]
  refine ⟨rfl, List.all_eq_true.mpr fun b hb => ?_⟩
  obtain ⟨y, _, rfl⟩ := List.mem_map.mp hb
  exact alk_encN x y
theorem g_sortP {st : List (List D)} {ps : List (Str × Str)} (h : ps.length ≤ szL) : gSortX st [.lst (ps.map encN)] = .ok (.own ((sortP ps).map encN)) := by
  cases ps with
  | nil =>
    have : sortP [] = [] := List.perm_nil.mp (sortP_perm [])
    rw [this]
    rfl
  | cons p ps =>
    have t1 : tupsD ((p :: ps).map encN) = true := by
      unfold tupsD
      rw [Bool.and_eq_true]
      refine ⟨rfl, List.all_eq_true.mpr fun a ha => ?_⟩
      obtain ⟨x, _, rfl⟩ := List.mem_map.mp ha
      rfl
    unfold gSortX
    simp only [t1, if_true, alkD_encN, true_and, List.length_map]
    rw [if_pos h, sortP_enc]
theorem g_sortPt {st : List (List D)} {k : Bool} {ps : List (Str × Str)} (h : ps.length ≤ szL) : gSortX st [.tup k (ps.map encN)] = .ok (.own ((sortP ps).map encN)) := by
  have t1 : srtD (ps.map encN) = true := by
    cases ps with
    | nil => rfl
    | cons p ps =>
      refine srt_tups ?_
      unfold tupsD
      rw [Bool.and_eq_true]
      refine ⟨rfl, List.all_eq_true.mpr fun a ha => ?_⟩
      obtain ⟨x, _, rfl⟩ := List.mem_map.mp ha
      rfl
  unfold gSortX
  simp only [t1, if_true, alkD_encN, true_and, List.length_map]
  rw [if_pos h, sortP_enc]
structure NdOk (fs : List Str) (ps : List (Str × Str)) (k : Nat) : Prop where
  sub : ∀ p ∈ ps, p.1 ∈ fs ∧ p.2 ∈ fs
  ne : ∀ p ∈ ps, p.1 ≠ p.2
  nd : ps.Nodup
  len : ps.length ≤ k
def LNeedsS (f : Fnl) : Prop := ∀ st n m (fs : List Str) (k : Nat), Box st n m → m + 10000 < big → fs.Nodup → fs.length < 100 → k ≤ 100 →
  ∃ (ps : List (Str × Str)) (st' : List (List D)), f [.cell n, TS fs, .int k] st = .ok (.val (TN ps), st') ∧ NdOk fs ps k ∧ Box st' n (m + 1000) ∧ Kp st st' n
theorem lneeds_spec {J : Ix} {C : Cl} (hT : TakeS (C (J.fn "_law_take"))) (hP : PickS (C (J.fn "_law_pick"))) : LNeedsS (runF 6 (B__law_needs J) C) := by
  intro st n m fs k hb hm hnd hl hk
  rw [big_eq] at hm
  have z0 : (0 : Nat) ≤ szL := Nat.zero_le _
  obtain ⟨r, st1, e1, hr0, hr1, hb1, hk1⟩ := hT st n m ((k : Int) + 1) hb (by rw [big_eq]; omega) (by omega) (by omega)
  have hrr : okR r = true := okR_of (by omega) (by omega)
  refine ex_sat (fun ps => .val (TN ps)) (fun (ps : List (Str × Str)) st' => NdOk fs ps k ∧ Box st' n (m + 1000) ∧ Kp st st' n) ?_
  refine run_sat ?_
  unfold B__law_needs
  refine seq_eq (by simp [z0] <;> rfl) ?_
  refine seq_gen (fun s => ∃ (ps : List (Str × Str)) (st' : List (List D)), s = ⟨[some (.val (.cell n)), some (.val (TS fs)), some (.val (.int k)), some (.own (ps.map encN)), none, none], st'⟩ ∧ NdOk fs ps k ∧ Box st' n (m + 1000) ∧ Kp st st' n) ?_ ?_
  · refine forF_gen (List.range r.toNat) (fun (k : Nat) => D.int (0 + k)) (fun p s => ∃ (ps : List (Str × Str)) (st' : List (List D)), s = ⟨[some (.val (.cell n)), some (.val (TS fs)), some (.val (.int k)), some (.own (ps.map encN)), none, none], st'⟩ ∧ NdOk fs ps p.length ∧ Box st' n (m + 1 + 2 * p.length) ∧ Kp st st' n) (by simp [e1, hrr, rngL_map] <;> rfl) ⟨[], st1, by simp, ⟨by simp, by simp, List.Pairwise.nil, Nat.le_refl _⟩, by simpa using hb1, hk1⟩ ?_ ?_
    · rintro p x q s hpx ⟨ps, st2, rfl, hps, hb2, hk2⟩
      have hpl : p.length < r.toNat := by
        have := congrArg List.length hpx
        simp at this
        omega
      obtain ⟨l, st3, e3, hll, ⟨rest, hperm⟩, hb3, hk3⟩ := hP st2 n _ (TS fs) (fs.map .str) 2 hb2 (by rw [big_eq]; simp; omega) (.inr ⟨_, rfl⟩) (by simp; omega) (by omega) (by omega)
      obtain ⟨l, rs, rfl, rfl, hq⟩ := perm_str hperm
      clear hperm
      rw [List.length_map, List.length_map] at hll
      rw [List.length_map] at hb3
      have hb3' : Box st3 n (m + 1 + 2 * ((p.length + 1 : Nat) : Int)) := hb3.mono (by omega)
      have hsub : ∀ x ∈ l, x ∈ fs := fun x hx => hq.subset (List.mem_append_left _ hx)
      have hlnd : l.Nodup := (List.nodup_append.mp (hq.nodup_iff.mpr hnd)).1
      have hzl : ps.length < szL := by
        have := hps.len
        rw [szL_val]
        omega
      refine turn_sat (by simp <;> rfl) ?_
      refine seq_eq (by simp [e3] <;> rfl) ?_
      match l, hll with
      | [a, b], _ =>
        have hab : a ≠ b := by
          intro e
          rw [e] at hlnd
          simp at hlnd
        have gin := g_inL eqE_encN (by omega) (st := st3) (neg := true) (x := (a, b)) (ys := ps)
        by_cases hmem : (a, b) ∈ ps
        · refine seq_eq (by simp [g_eq eqE_int, gin, hmem] <;> rfl) ?_
          simp [Res.sat_ok]
          exact ⟨ps, st3, ⟨rfl, rfl⟩, ⟨hps.sub, hps.ne, hps.nd, by have := hps.len; omega⟩, by simpa using hb3', hk2.trans hk3⟩
        · refine seq_eq (by simp [g_eq eqE_int, gin, hmem, hzl] <;> rfl) ?_
          simp [Res.sat_ok]
          refine ⟨ps ++ [(a, b)], st3, by simp, ⟨fun p hp => ?_, fun p hp => ?_, ?_, by have := hps.len; simp; omega⟩, by simpa using hb3', hk2.trans hk3⟩
          · rcases List.mem_append.mp hp with hp | hp
            · exact hps.sub p hp
            · rw [List.mem_singleton.mp hp]
              exact ⟨hsub a (by simp), hsub b (by simp)⟩
          · rcases List.mem_append.mp hp with hp | hp
            · exact hps.ne p hp
            · rw [List.mem_singleton.mp hp]
              exact hab
          · refine List.nodup_append.mpr ⟨hps.nd, by simp, fun x hx y hy => ?_⟩
            rw [List.mem_singleton.mp hy]
            exact fun e => hmem (e ▸ hx)
      | [], _ =>
        refine seq_eq (by simp [g_eq eqE_int] <;> rfl) ?_
        simp [Res.sat_ok]
        exact ⟨ps, st3, ⟨rfl, rfl⟩, ⟨hps.sub, hps.ne, hps.nd, by have := hps.len; omega⟩, by simpa using hb3', hk2.trans hk3⟩
      | [a], _ =>
        refine seq_eq (by simp [g_eq eqE_int] <;> rfl) ?_
        simp [Res.sat_ok]
        exact ⟨ps, st3, ⟨rfl, rfl⟩, ⟨hps.sub, hps.ne, hps.nd, by have := hps.len; omega⟩, by simpa using hb3', hk2.trans hk3⟩
      | a :: b :: c :: l, h =>
        simp at h
        omega
    · rintro s ⟨ps, st2, rfl, hps, hb2, hk2⟩
      refine ⟨rfl, ps, st2, rfl, ⟨hps.sub, hps.ne, hps.nd, ?_⟩, hb2.mono (by simp; omega), hk2⟩
      have := hps.len
      simp at this
      omega
  · rintro s ⟨ps, st2, rfl, hps, hb2, hk2⟩
    have hz : ps.length ≤ szL := by
      have := hps.len
      rw [szL_val]
      omega
    have g := g_sortP (st := st2) hz
    have hsh : sHd ((sortP ps).map encN) = false := by
      cases sortP ps <;> rfl
    simp [g, Res.sat_ok, EndP, hsh]
    refine ⟨sortP ps, rfl, ⟨fun p hp => hps.sub p ((sortP_perm ps).mem_iff.mp hp), fun p hp => hps.ne p ((sortP_perm ps).mem_iff.mp hp), (sortP_perm ps).nodup_iff.mpr hps.nd, by rw [(sortP_perm ps).length_eq]; exact hps.len⟩, hb2, hk2⟩
def everM (us : List (List (List Str))) (xs : List Str) : List (List Int) := xs.foldl (fun R x => R.flatMap fun r => (setI (col us x)).map fun v => r ++ [v]) [[]]
theorem everM_snoc (us : List (List (List Str))) (xs : List Str) (x : Str) : everM us (xs ++ [x]) = (everM us xs).flatMap fun r => (setI (col us x)).map fun v => r ++ [v] := by
  unfold everM
  rw [List.foldl_append]
  rfl
theorem mem_ever {us : List (List (List Str))} : ∀ (n : Nat) (xs : List Str), xs.length = n → ∀ ns, ns ∈ everM us xs ↔ ns.length = n ∧ ∀ p ∈ xs.zip ns, p.2 ∈ col us p.1
  | 0, xs, h, ns => by
    rw [List.length_eq_zero_iff.mp h]
    show ns ∈ [[]] ↔ _
    rw [List.mem_singleton, List.length_eq_zero_iff]
    constructor
    · rintro rfl
      exact ⟨rfl, fun p hp => by simp at hp⟩
    · exact fun h => h.1
  | n + 1, xs, h, ns => by
    have hne : xs ≠ [] := fun q => by rw [q] at h; cases h
    obtain ⟨ys, y, rfl⟩ : ∃ ys y, xs = ys ++ [y] := ⟨xs.dropLast, xs.getLast hne, (List.dropLast_concat_getLast hne).symm⟩
    rw [List.length_append, List.length_singleton] at h
    have hyl : ys.length = n := by omega
    rw [everM_snoc, List.mem_flatMap]
    constructor
    · rintro ⟨r, hr, hn⟩
      obtain ⟨h1, h2⟩ := (mem_ever n ys hyl r).mp hr
      obtain ⟨v, hv, rfl⟩ := List.mem_map.mp hn
      refine ⟨by simp [h1], fun p hp => ?_⟩
      rw [List.zip_append (by omega)] at hp
      rcases List.mem_append.mp hp with hp | hp
      · exact h2 p hp
      · simp at hp
        subst hp
        exact (setI_mem _ _).mp hv
    · rintro ⟨h1, h2⟩
      have hne2 : ns ≠ [] := fun q => by rw [q] at h1; cases h1
      obtain ⟨r, v, rfl⟩ : ∃ r v, ns = r ++ [v] := ⟨ns.dropLast, ns.getLast hne2, (List.dropLast_concat_getLast hne2).symm⟩
      rw [List.length_append, List.length_singleton] at h1
      rw [List.zip_append (by omega)] at h2
      exact ⟨r, (mem_ever n ys hyl r).mpr ⟨by omega, fun p hp => h2 p (List.mem_append_left _ hp)⟩, List.mem_map.mpr ⟨v, (setI_mem _ _).mpr (h2 (y, v) (by simp)), rfl⟩⟩
theorem everM_len (us : List (List (List Str))) : ∀ (n : Nat) (xs : List Str), xs.length = n → (everM us xs).length ≤ (us.length + 1) ^ n
  | 0, xs, h => by
    rw [List.length_eq_zero_iff.mp h]
    exact Nat.le_refl _
  | n + 1, xs, h => by
    have hne : xs ≠ [] := fun q => by rw [q] at h; cases h
    obtain ⟨ys, y, rfl⟩ : ∃ ys y, xs = ys ++ [y] := ⟨xs.dropLast, xs.getLast hne, (List.dropLast_concat_getLast hne).symm⟩
    rw [List.length_append, List.length_singleton] at h
    rw [everM_snoc]
    have h1 := everM_len us n ys (by omega)
    have h2 := flat_len (g := fun r => (setI (col us y)).map fun v => r ++ [v]) (k := us.length + 1) (fun r => by
      rw [List.length_map]
      exact vers_len us y) (everM us ys)
    rw [Nat.pow_succ]
    exact Nat.le_trans h2 (Nat.mul_le_mul_right _ h1)
theorem g_addTI {st : List (List D)} {r : List Int} {v : Int} (h : r.length + 1 ≤ szL) : gAdd st [TI r, .tup false [.int v]] = .ok (.val (TI (r ++ [v]))) := by
  unfold TI
  rw [List.map_append]
  simp only [g_add4]
  rw [if_pos (by simpa using h)]
  have h2 : sHd (r.map D.int ++ [D.int v]) = false := by
    rw [← List.map_singleton (f := D.int), ← List.map_append]
    exact sHd_int _
  rw [List.map_singleton, h2]
  simp
def LEverS (f : Fnl) : Prop := ∀ st fs us (xs : List Str), PlOk fs us → (stepsOf 1 us).length < 63 → (∀ x ∈ xs, x ∈ fs) → xs.length ≤ 1000 → (us.length + 1) ^ xs.length ≤ 1000000 → f [TP fs us, TS xs] st = .ok (.val (.lst ((everM us xs).map TI)), st)
theorem lever_spec {J : Ix} {C : Cl} (hR : LRowsS (C (J.fn "_law_rows"))) (hC : LColS (C (J.fn "_law_column"))) : LEverS (runF 8 (B__law_every J) C) := by
  intro st fs us xs hk hsh hx hl hpow
  obtain ⟨z0, z1, z2, z3, z4, z5, z6, z7, z8, z9, z10, z11, z12, z13, z14⟩ := szs
  refine run_eq ?_
  unfold B__law_every
  refine seq_eq (by simp [hR st fs us hk, z0, z1] <;> rfl) ?_
  refine seq_eq (forF_pre xs D.str (fun p => [(3, .val (.lst ((everM us p).map TI)))]) (by simp <;> rfl) (by simp [everM, TI]) ?_) ?_
  · rintro p x q hpq
    have hxm : x ∈ fs := hx x (by rw [hpq]; simp)
    have hcol := hC st fs us x hxm hk
    have hpl : p.length < xs.length := by rw [hpq]; simp
    have hlen := everM_len us _ (p ++ [x]) rfl
    have hle : (us.length + 1) ^ (p ++ [x]).length ≤ 1000000 := Nat.le_trans (Nat.pow_le_pow_right (by omega) (by rw [hpq]; simp)) hpow
    have hml := fun r hr => ((mem_ever (us := us) _ p rfl r).mp hr).1
    rw [everM_snoc] at hlen
    have gs : gSS st [.lst ((col us x).map .int)] = .ok (.own ((setI (col us x)).map .int)) := g_ss (by rw [colT_len]; omega)
    have hvl := vers_len us x
    have hul : us.length + 1 ≤ 1001 := by have := hk.ul; omega
    generalize hE : everM us p = E at hlen hml
    have hE2 : everM us (p ++ [x]) = E.flatMap fun r => (setI (col us x)).map fun v => r ++ [v] := by rw [everM_snoc, hE]
    refine turn_eq (by simp [hE] <;> rfl) ?_
    refine seq_eq (by simp [z0] <;> rfl) ?_
    refine seq_eq (forF_pre E TI (fun r => [(5, .val (.lst ((r.flatMap fun o => (setI (col us x)).map fun v => o ++ [v]).map TI)))]) (by simp <;> rfl) (by simp) ?_) ?_
    · rintro r o q2 hr2
      have hol : o.length = p.length := hml o (by rw [hr2]; simp)
      have hfl : (r.flatMap fun o => (setI (col us x)).map fun v => o ++ [v]).length + (setI (col us x)).length ≤ szL := by
        have : (E.flatMap fun r => (setI (col us x)).map fun v => r ++ [v]).length = (r.flatMap fun o => (setI (col us x)).map fun v => o ++ [v]).length + ((setI (col us x)).length + (q2.flatMap fun o => (setI (col us x)).map fun v => o ++ [v]).length) := by
          rw [hr2, List.flatMap_append, List.flatMap_cons, List.length_append, List.length_append, List.length_map]
        rw [szL_val]
        omega
      generalize hR' : (r.flatMap fun o => (setI (col us x)).map fun v => o ++ [v]) = R at hfl
      have hR2 : ((r ++ [o]).flatMap fun o => (setI (col us x)).map fun v => o ++ [v]) = R ++ (setI (col us x)).map fun v => o ++ [v] := by rw [List.flatMap_append, hR']; simp
      refine turn_eq (by simp [hR'] <;> rfl) ?_
      apply seq_eq
      · rw [Res.eq_sat]
        simp [Res.sat_bind, hR']
        refine lc_mapT (setI (col us x)) D.int (fun v => TI (o ++ [v])) (by simp [hcol, gs]) (by rw [szL_val]; omega) (by simp) ?_ ?_
        · intro v hv
          simp [g_addTI (show o.length + 1 ≤ szL by rw [szL_val]; omega), z1]
        · have e : (setI (col us x)).map (fun v => TI (o ++ [v])) = ((setI (col us x)).map fun v => o ++ [v]).map TI := by rw [List.map_map]; rfl
          rw [e]
          simp [Res.sat_ok, Res.sat_bind, hfl]
          rfl
      · rw [hR2]
        simp [Res.sat_ok, Function.comp_def]
    · rw [hE2]
      refine seq_eq (by simp <;> rfl) ?_
      simp [Res.sat_ok]
  · simp [Res.sat_ok]
end Ev
set_option Elab.async false
set_option maxRecDepth 100000
set_option maxHeartbeats 4000000
namespace Ev
open PySem
theorem take_app {us : List (List (List Str))} {u : List (List Str)} {m : Nat} (h : m ≤ (stepsOf 1 us).length) : (stepsOf 1 (us ++ [u])).take m = (stepsOf 1 us).take m := by
  rw [stepsOf_append, List.take_append_of_le_length h]
theorem vz_app {us : List (List (List Str))} {u : List (List Str)} {z : Str × Nat} (h : z.2 ≤ (stepsOf 1 us).length) : vz (us ++ [u]) z = vz us z := by
  unfold vz
  rw [take_app h]
theorem len_app (us : List (List (List Str))) (u : List (List Str)) : (stepsOf 1 (us ++ [u])).length = (stepsOf 1 us).length + u.length := by
  rw [steps_lens, steps_lens, lens_append, lens_one]
theorem endM_app {us : List (List (List Str))} {u : List (List Str)} {n : Nat} (h : n ≤ us.length) : endM (us ++ [u]) n = endM us n := by
  unfold endM
  rw [List.take_append_of_le_length h]
theorem want_app {us : List (List (List Str))} {u : List (List Str)} {f : Str} {n : Int} (h0 : 0 ≤ n) (h : n ≤ us.length) : wantM (us ++ [u]) f n = wantM us f n := by
  rw [want_end h0, want_end h0, endM_app (by omega), take_app (endM_le us _)]
theorem sel_mem {xs : List Str} {ns : List Int} {x : Str} {v : Int} (h : v ∈ selM xs ns x) : (x, v) ∈ xs.zip ns := by
  unfold selM at h
  obtain ⟨p, hp, rfl⟩ := List.mem_map.mp h
  obtain ⟨h1, h2⟩ := List.mem_filter.mp hp
  have : p.1 = x := by simpa using h2
  rw [← this]
  exact h1
theorem brk_app {us : List (List (List Str))} {u : List (List Str)} {xs : List Str} {ns : List Int} {nd : Str × Str} (h : ∀ p ∈ xs.zip ns, 0 ≤ p.2 ∧ p.2 ≤ us.length) : isBrkM (us ++ [u]) xs ns nd = isBrkM us xs ns nd := by
  unfold isBrkM
  rw [Bool.eq_iff_iff]
  simp only [List.any_eq_true]
  constructor
  · rintro ⟨n, hn, i, hi, h1⟩
    have := h _ (sel_mem hn)
    exact ⟨n, hn, i, hi, by rwa [want_app this.1 this.2] at h1⟩
  · rintro ⟨n, hn, i, hi, h1⟩
    have := h _ (sel_mem hn)
    exact ⟨n, hn, i, hi, by rwa [want_app this.1 this.2]⟩
theorem mix_app {us : List (List (List Str))} {u : List (List Str)} {xs : List Str} {ns : List Int} (h : ns ∈ (mixM us xs).map (·.1)) : ns ∈ (mixM (us ++ [u]) xs).map (·.1) := by
  obtain ⟨zs, h1, h2, h3⟩ := mem_mix.mp h
  refine mem_mix.mpr ⟨zs, h1, ?_, h3.pw, fun z hz => ?_⟩
  · rw [← h2]
    exact List.map_congr_left fun z hz => vz_app (h3.le z hz)
  · rw [len_app]
    have := h3.le z hz
    omega
theorem vz_late {us : List (List (List Str))} {u : List (List Str)} {z : Str × Nat} (h : vz (us ++ [u]) z ≠ us.length + 1) : vz (us ++ [u]) z = vz us (z.1, min z.2 (stepsOf 1 us).length) := by
  by_cases hz : z.2 ≤ (stepsOf 1 us).length
  · rw [Nat.min_eq_left hz, vz_app hz]
  · have hz' : (stepsOf 1 us).length ≤ z.2 := by omega
    rw [Nat.min_eq_right hz', ← vz_app (u := u) (z := (z.1, (stepsOf 1 us).length)) (Nat.le_refl _)]
    have hr := ver_range (us := us ++ [u]) (f := z.1) (m := z.2)
    have hlt : vz (us ++ [u]) z ≤ us.length := by
      unfold vz at h ⊢
      have := hr.2
      rw [List.length_append, List.length_singleton] at this
      omega
    refine int_ext (by unfold vz; exact ver_nn) (by unfold vz; exact ver_nn) fun k hk => ⟨fun hkv => ?_, fun hkv => ?_⟩
    · have hkv' := Int.le_trans hkv (Int.le_refl _)
      obtain ⟨v, hv⟩ : ∃ v, v = vz (us ++ [u]) z := ⟨_, rfl⟩
      rw [← hv] at hkv hlt
      have hv1 : (1 : Int) ≤ v := by omega
      have hvz : v ≤ ver ((stepsOf 1 (us ++ [u])).take z.2) z.1 := by
        rw [hv]
        exact Int.le_refl _
      obtain ⟨p, w, q, j, s, e1, e2, e3, e4, e5⟩ := (ver_ge' hv1).mp hvz
      refine Int.le_trans hkv ((ver_ge' hv1).mpr ⟨p, w, q, j, s, e1, ?_, e3, e4, e5⟩)
      show lens p + j < _
      rcases q.eq_nil_or_concat with rfl | ⟨q', y, rfl⟩
      · have := List.append_inj_left' e1 rfl
        rw [this] at hlt
        have hbig : (us.length : Int) + 1 ≤ ver ((stepsOf 1 (us ++ [u])).take z.2) z.1 := (ver_ge' (by omega)).mpr ⟨p, w, [], j, s, e1, e2, e3, e4, by rw [this]; omega⟩
        rw [← show v = ver ((stepsOf 1 (us ++ [u])).take z.2) z.1 from hv, this] at hbig
        omega
      · have e : us ++ [u] = (p ++ w :: q') ++ [y] := by rw [e1]; simp
        have := List.append_inj_left' e rfl
        rw [steps_lens, this, lens_split]
        obtain ⟨hj, _⟩ := List.getElem?_eq_some_iff.mp e3
        omega
    · exact Int.le_trans hkv (ver_mono hz')
theorem mix_late {us : List (List (List Str))} {u : List (List Str)} {xs : List Str} {ns : List Int} (h : ns ∈ (mixM (us ++ [u]) xs).map (·.1)) (hn : (us.length : Int) + 1 ∉ ns) : ns ∈ (mixM us xs).map (·.1) := by
  obtain ⟨zs, h1, h2, h3⟩ := mem_mix.mp h
  refine mem_mix.mpr ⟨zs.map fun z => (z.1, min z.2 (stepsOf 1 us).length), by rw [List.map_map, ← h1]; rfl, ?_, ?_, ?_⟩
  · rw [← h2, List.map_map]
    refine List.map_congr_left fun z hz => (vz_late fun e => hn ?_).symm
    rw [← h2, ← e]
    exact List.mem_map_of_mem hz
  · rw [List.pairwise_map]
    exact h3.pw.imp fun h => by
      show min _ _ ≤ min _ _
      omega
  · intro z hz
    obtain ⟨y, _, rfl⟩ := List.mem_map.mp hz
    exact Nat.min_le_right _ _
theorem mix_range {us : List (List (List Str))} {xs : List Str} {ns : List Int} (h : ns ∈ (mixM us xs).map (·.1)) : ∀ p ∈ xs.zip ns, 0 ≤ p.2 ∧ p.2 ≤ us.length := by
  obtain ⟨q, hq, rfl⟩ := List.mem_map.mp h
  intro p hp
  exact col_ge (mixM_ge us _ xs rfl q hq p hp)
theorem col_app {us : List (List (List Str))} {u : List (List Str)} {f : Str} {v : Int} (h : v ∈ col us f) : v ∈ col (us ++ [u]) f := by
  obtain ⟨m, hm⟩ := List.mem_iff_getElem?.mp h
  obtain ⟨h1, rfl⟩ := col_at hm
  have h2 := vz_at (us := us ++ [u]) (z := (f, m)) (by rw [len_app]; show m ≤ _; omega)
  refine List.mem_iff_getElem?.mpr ⟨m, ?_⟩
  rw [h2, vz_app (z := (f, m)) h1]
  rfl
theorem g_inTp {α : Type} [DecidableEq α] {st : List (List D)} {n : Nat} {e : α → D} (h : EqE n e) (hf : ∀ x, flatD (e x) = true) {neg k : Bool} {x : α} {ys : List α} : gIn neg st [e x, .tup k (ys.map e)] = .ok (.val (.bl (if neg then !decide (x ∈ ys) else decide (x ∈ ys)))) := by
  have h1 : flatD (e x) = true := hf x
  have h2 : (ys.map e).all flatD = true := List.all_eq_true.mpr fun y hy => by
    obtain ⟨z, _, rfl⟩ := List.mem_map.mp hy
    exact hf z
  have h3 : ((ys.map e).any fun z => eqD z (e x)) = decide (x ∈ ys) := by
    rw [List.any_map]
    rw [Bool.eq_iff_iff]
    simp only [List.any_eq_true, Function.comp_apply, h.eq, decide_eq_true_eq]
    exact ⟨fun ⟨z, hz, q⟩ => q ▸ hz, fun hx => ⟨x, hx, rfl⟩⟩
  have gi : gIn neg st [e x, .tup k (ys.map e)] = if flatD (e x) && (ys.map e).all flatD then vB (let b := (ys.map e).any fun z => eqD z (e x); if neg then !b else b) else .stuck := by
    simp only [gIn]
  rw [gi, h1, h2, h3]
  rfl
theorem g_inTI {st : List (List D)} {neg : Bool} {x : Int} {ys : List Int} : gIn neg st [.int x, TI ys] = .ok (.val (.bl (if neg then !decide (x ∈ ys) else decide (x ∈ ys)))) := g_inTp eqE_int (fun _ => rfl)
theorem hff {α : Type} (l : List α) : l.filter (fun _ => false) = [] := by
  induction l with
  | nil => rfl
  | cons x l ih => simpa using ih
theorem g_nn {st : List (List D)} {n : Bool} : gEq n st [.lst [], .lst []] = .ok (.val (.bl (!n))) := by cases n <;> rfl
end Ev
set_option Elab.async false
set_option maxRecDepth 100000
set_option maxHeartbeats 4000000
namespace Ev
open PySem
def OrderN (f : Fnl) : Prop := ∀ st n m (fs : List Str) (many : Int), Box st n m → m + 2000 < big → fs ≠ [] → fs.length < 60 → 0 ≤ many → many ≤ 100 → fs.Nodup →
  ∃ (xs : List Str) (st' : List (List D)), f [.cell n, TS fs, .int many, .bl false] st = .ok (.val (TS xs), st') ∧ (∀ x ∈ xs, x ∈ fs) ∧ xs.length = min many.toNat fs.length ∧ xs.Nodup ∧ Box st' n (m + 1000) ∧ Kp st st' n
theorem orderN_spec {J : Ix} {C : Cl} (hP : PickS (C (J.fn "_law_pick"))) : OrderN (runF 5 (B__law_order J) C) := by
  intro st n m fs many hb hm hne hfl h0 h1 hnd
  rw [big_eq] at hm
  obtain ⟨l, st', e1, hl, ⟨rest, hp⟩, hb', hk⟩ := hP st n m (TS fs) (fs.map .str) many hb (by rw [big_eq]; simp; omega) (.inr ⟨_, rfl⟩) (by simp; omega) (by omega) (by omega)
  obtain ⟨l, rs, rfl, rfl, hq⟩ := perm_str hp
  clear hp
  simp only [List.length_map] at hl hb'
  refine ⟨l, st', ?_, fun x hx => hq.subset (List.mem_append_left _ hx), hl, ?_, hb'.mono (by omega), hk⟩
  · simp [B__law_order, e1]
    rfl
  · exact (List.nodup_append.mp (hq.nodup_iff.mpr hnd)).1
def allN (fs : List Str) : List (Str × Str) := fs.flatMap fun a => (fs.filter fun b => decide (a ≠ b)).map fun b => (a, b)
theorem mem_allN {fs : List Str} {p : Str × Str} : p ∈ allN fs ↔ p.1 ∈ fs ∧ p.2 ∈ fs ∧ p.1 ≠ p.2 := by
  unfold allN
  simp only [List.mem_flatMap, List.mem_map, List.mem_filter, decide_eq_true_eq]
  constructor
  · rintro ⟨a, ha, b, ⟨hb, hn⟩, rfl⟩
    exact ⟨ha, hb, hn⟩
  · rintro ⟨h1, h2, h3⟩
    exact ⟨p.1, h1, p.2, ⟨h2, h3⟩, rfl⟩
theorem allP_len (fs p : List Str) : (p.flatMap fun a => (fs.filter fun b => decide (a ≠ b)).map fun b => (a, b)).length ≤ p.length * fs.length :=
  flat_len (fun a => by
    rw [List.length_map]
    exact List.length_filter_le _ _) p
def LAllNS (f : Fnl) : Prop := ∀ st (fs : List Str), fs.length ≤ 100 → f [TS fs] st = .ok (.val (TN (allN fs)), st)
theorem lallN_spec {J : Ix} {C : Cl} : LAllNS (runF 4 (B__law_all_needs J) C) := by
  intro st fs hfl
  have z0 : (0 : Nat) ≤ szL := Nat.zero_le _
  have z2 : (2 : Nat) ≤ szL := by decide
  have hall := allP_len fs fs
  have hm : fs.length * fs.length ≤ 100 * 100 := Nat.mul_le_mul hfl hfl
  refine run_eq ?_
  unfold B__law_all_needs
  refine seq_eq (by simp [z0] <;> rfl) ?_
  refine seq_eq (forF_pre fs .str (fun p => [(1, .val (.lst ((p.flatMap fun a => (fs.filter fun b => decide (a ≠ b)).map fun b => (a, b)).map encN)))]) (by simp <;> rfl) (by simp) ?_) ?_
  · rintro p a q hpq
    have hpl : p.length ≤ 100 := by
      have := congrArg List.length hpq
      simp at this
      omega
    have hL := allP_len fs p
    have hm2 : p.length * fs.length ≤ 100 * 100 := Nat.mul_le_mul hpl hfl
    have hf := List.length_filter_le (fun b => decide (a ≠ b)) fs
    rw [List.flatMap_append]
    generalize (p.flatMap fun a => (fs.filter fun b => decide (a ≠ b)).map fun b => (a, b)) = L at hL
    have hz : L.length + (fs.filter fun b => decide (a ≠ b)).length ≤ szL := by rw [szL_val]; omega
    refine turn_eq (by simp <;> rfl) ?_
    apply seq_eq
    · rw [Res.eq_sat]
      simp [Res.sat_bind]
      refine lc_filterT fs D.str (fun b => decide (a ≠ b)) (fun b => encN (a, b)) (by simp) (by rw [szL_val]; omega) (by simp) ?_ ?_
      · intro b _
        by_cases h : a = b
        · simp [g_eq eqE_str, h]
        · simp [g_eq eqE_str, h, z2]
      · simp [Res.sat_ok, Res.sat_bind] at hz ⊢
        simp [hz]
        rfl
    · simp [Res.sat_ok, Function.comp_def]
  · have hz : (allN fs).length ≤ szL := by rw [szL_val]; unfold allN; omega
    have hh : sHd ((allN fs).map encN) = false := by
      cases allN fs <;> rfl
    unfold allN at hz hh
    simp [Res.sat_ok]
    simp at hz hh
    simp [hz, hh, TN, allN]
end Ev
set_option Elab.async false
set_option maxRecDepth 100000
set_option maxHeartbeats 4000000
namespace Ev
open PySem
theorem sel_zs {us : List (List (List Str))} {zs : List (Str × Nat)} {x : Str} {v : Int} : v ∈ selM (zs.map (·.1)) (zs.map (vz us)) x ↔ ∃ z ∈ zs, z.1 = x ∧ vz us z = v := by
  unfold selM
  rw [List.zip_map', List.filter_map, List.map_map]
  simp only [List.mem_map, List.mem_filter, Function.comp_apply, beq_iff_eq]
  constructor
  · rintro ⟨z, ⟨h1, h2⟩, h3⟩
    exact ⟨z, h1, h2, h3⟩
  · rintro ⟨z, h1, h2, h3⟩
    exact ⟨z, ⟨h1, h2⟩, h3⟩
/-- b is older at m2 than what the version of a at m1 needs -/
def OldAt (us : List (List (List Str))) (a b : Str) (m1 m2 : Nat) : Prop := vz us (b, m2) < ver ((stepsOf 1 us).take (endM us (vz us (a, m1)).toNat)) b
theorem brk_zs {us : List (List (List Str))} {zs : List (Str × Nat)} {a b : Str} : isBrkM us (zs.map (·.1)) (zs.map (vz us)) (a, b) = true ↔ ∃ m1 m2, (a, m1) ∈ zs ∧ (b, m2) ∈ zs ∧ OldAt us a b m1 m2 := by
  unfold isBrkM
  simp only [List.any_eq_true, decide_eq_true_eq]
  constructor
  · rintro ⟨n, hn, i, hi, h⟩
    obtain ⟨z, hz, rfl, rfl⟩ := sel_zs.mp hn
    obtain ⟨y, hy, rfl, rfl⟩ := sel_zs.mp hi
    refine ⟨z.2, y.2, hz, hy, ?_⟩
    unfold OldAt
    rw [← want_end (show 0 ≤ vz us (z.1, z.2) by unfold vz; exact ver_nn)]
    exact h
  · rintro ⟨m1, m2, h1, h2, h⟩
    refine ⟨_, sel_zs.mpr ⟨_, h1, rfl, rfl⟩, _, sel_zs.mpr ⟨_, h2, rfl, rfl⟩, ?_⟩
    unfold OldAt at h
    rw [← want_end (show 0 ≤ vz us (a, m1) by unfold vz; exact ver_nn)] at h
    exact h
theorem any_mix {us : List (List (List Str))} {xs : List Str} {Q : List Int → Bool} : ((mixM us xs).any fun p => Q p.1) = true ↔ ∃ zs, zs.map (·.1) = xs ∧ RdOk us zs ∧ Q (zs.map (vz us)) = true := by
  rw [List.any_eq_true]
  constructor
  · rintro ⟨p, hp, h⟩
    obtain ⟨zs, h1, h2, h3⟩ := mem_mix.mp (List.mem_map_of_mem (f := (·.1)) hp)
    exact ⟨zs, h1, h3, by rw [h2]; exact h⟩
  · rintro ⟨zs, h1, h3, h⟩
    obtain ⟨p, hp, e⟩ := List.mem_map.mp (mem_mix.mpr ⟨zs, h1, rfl, h3⟩)
    exact ⟨p, hp, by rw [e]; exact h⟩
theorem rd_two {us : List (List (List Str))} {p q r : List Str} {x y : Str} {m m' : Nat} (h1 : m ≤ m') (h2 : m' ≤ (stepsOf 1 us).length) : ∃ zs, zs.map (·.1) = p ++ x :: q ++ y :: r ∧ RdOk us zs ∧ (x, m) ∈ zs ∧ (y, m') ∈ zs := by
  refine ⟨(p ++ [x]).map (fun w => (w, m)) ++ (q ++ y :: r).map (fun w => (w, m')), ?_, ⟨?_, ?_⟩, ?_, ?_⟩
  · rw [List.map_append, List.map_map, List.map_map]
    simp [Function.comp_def]
  · refine List.pairwise_append.mpr ⟨?_, ?_, ?_⟩
    · rw [List.pairwise_map]
      exact List.pairwise_of_forall fun _ _ => Nat.le_refl _
    · rw [List.pairwise_map]
      exact List.pairwise_of_forall fun _ _ => Nat.le_refl _
    · intro a ha b hb
      obtain ⟨_, _, rfl⟩ := List.mem_map.mp ha
      obtain ⟨_, _, rfl⟩ := List.mem_map.mp hb
      exact h1
  · intro z hz
    rcases List.mem_append.mp hz with h | h <;> obtain ⟨_, _, rfl⟩ := List.mem_map.mp h
    · exact Nat.le_trans h1 h2
    · exact h2
  · exact List.mem_append_left _ (List.mem_map.mpr ⟨x, by simp, rfl⟩)
  · exact List.mem_append_right _ (List.mem_map.mpr ⟨y, by simp, rfl⟩)
theorem rd_order {us : List (List (List Str))} {p q r : List Str} {x y : Str} {m m' : Nat} {zs : List (Str × Nat)} (hn : (p ++ x :: q ++ y :: r).Nodup) (h1 : zs.map (·.1) = p ++ x :: q ++ y :: r) (h2 : RdOk us zs) (h3 : (x, m) ∈ zs) (h4 : (y, m') ∈ zs) : m ≤ m' ∧ m' ≤ (stepsOf 1 us).length := by
  refine ⟨?_, h2.le _ h4⟩
  obtain ⟨i, hi⟩ := List.mem_iff_getElem?.mp h3
  obtain ⟨j, hj⟩ := List.mem_iff_getElem?.mp h4
  have ei : (p ++ x :: q ++ y :: r)[i]? = some x := by rw [← h1, List.getElem?_map, hi]; rfl
  have ej : (p ++ x :: q ++ y :: r)[j]? = some y := by rw [← h1, List.getElem?_map, hj]; rfl
  have fi : (p ++ x :: q ++ y :: r)[p.length]? = some x := by simp
  have fj : (p ++ x :: q ++ y :: r)[(p ++ x :: q).length]? = some y := by
    rw [List.getElem?_append_right (Nat.le_refl _)]
    simp
  have li := (List.getElem?_eq_some_iff.mp ei).1
  have lj := (List.getElem?_eq_some_iff.mp ej).1
  have e1 : i = p.length := (List.getElem?_inj li hn).mp (ei.trans fi.symm)
  have e2 : j = (p ++ x :: q).length := (List.getElem?_inj lj hn).mp (ej.trans fj.symm)
  have hlt : i < j := by rw [e1, e2]; simp
  obtain ⟨a1, a2⟩ := List.getElem?_eq_some_iff.mp hi
  obtain ⟨b1, b2⟩ := List.getElem?_eq_some_iff.mp hj
  have := List.pairwise_iff_getElem.mp h2.pw i j a1 b1 hlt
  rw [a2, b2] at this
  exact this
/-- two files of an order without doubles: which is ahead -/
theorem split_two {xs : List Str} {a b : Str} (ha : a ∈ xs) (hb : b ∈ xs) (h : xs.idxOf a < xs.idxOf b) : ∃ p q r, xs = p ++ a :: q ++ b :: r := by
  have h1 : xs.idxOf a < xs.length := List.idxOf_lt_length_of_mem ha
  have h2 : xs.idxOf b < xs.length := List.idxOf_lt_length_of_mem hb
  have e1 : xs[xs.idxOf a] = a := List.getElem_idxOf h1
  have e2 : xs[xs.idxOf b] = b := List.getElem_idxOf h2
  refine ⟨xs.take (xs.idxOf a), (xs.take (xs.idxOf b)).drop (xs.idxOf a + 1), xs.drop (xs.idxOf b + 1), ?_⟩
  have s1 : xs = xs.take (xs.idxOf b) ++ b :: xs.drop (xs.idxOf b + 1) := by
    conv => lhs; rw [← List.take_append_drop (xs.idxOf b) xs, List.drop_eq_getElem_cons h2, e2]
  have s2 : xs.take (xs.idxOf b) = xs.take (xs.idxOf a) ++ a :: (xs.take (xs.idxOf b)).drop (xs.idxOf a + 1) := by
    have hl : xs.idxOf a < (xs.take (xs.idxOf b)).length := by rw [List.length_take]; omega
    conv => lhs; rw [← List.take_append_drop (xs.idxOf a) (xs.take (xs.idxOf b)), List.drop_eq_getElem_cons hl]
    rw [List.take_take, Nat.min_eq_left (Nat.le_of_lt h), List.getElem_take, e1]
  rw [← s2, ← s1]
theorem flat_one {u : List (List Str)} (h : u.flatten.Nodup) {i j : Nat} {s t : List Str} {x : Str} (hi : u[i]? = some s) (hj : u[j]? = some t) (hs : x ∈ s) (ht : x ∈ t) : i = j := by
  have key : ∀ {i j : Nat} {s t : List Str}, u[i]? = some s → u[j]? = some t → x ∈ s → x ∈ t → ¬ i < j := fun {i j s t} hi hj hs ht hlt => by
    obtain ⟨a1, a2⟩ := List.getElem?_eq_some_iff.mp hi
    obtain ⟨b1, b2⟩ := List.getElem?_eq_some_iff.mp hj
    have := List.pairwise_iff_getElem.mp (List.pairwise_flatten.mp h).2 i j a1 b1 hlt
    rw [a2, b2] at this
    exact this x hs x ht rfl
  have h1 := key hi hj hs ht
  have h2 := key hj hi ht hs
  omega
end Ev
set_option Elab.async false
set_option maxRecDepth 100000
set_option maxHeartbeats 4000000
namespace Ev
open PySem
instance {us : List (List (List Str))} {a b : Str} {m1 m2 : Nat} : Decidable (OldAt us a b m1 m2) := by unfold OldAt; infer_instance
theorem brk_at {us : List (List (List Str))} {xs : List Str} {nd : Str × Str} {m : Nat} : isBrkM us xs (xs.map fun x => vz us (x, m)) nd = decide (nd.1 ∈ xs ∧ nd.2 ∈ xs ∧ OldAt us nd.1 nd.2 m m) := by
  obtain ⟨a, b⟩ := nd
  have e := brk_zs (us := us) (zs := xs.map fun x => (x, m)) (a := a) (b := b)
  rw [List.map_map, List.map_map] at e
  rw [Bool.eq_iff_iff]
  have e1 : xs.map ((fun z : Str × Nat => z.1) ∘ fun x => (x, m)) = xs := by simp [Function.comp_def]
  rw [e1] at e
  refine e.trans ?_
  rw [decide_eq_true_eq]
  constructor
  · rintro ⟨m1, m2, h1, h2, h3⟩
    obtain ⟨x, hx, ex⟩ := List.mem_map.mp h1
    obtain ⟨y, hy, ey⟩ := List.mem_map.mp h2
    cases ex
    cases ey
    exact ⟨hx, hy, h3⟩
  · rintro ⟨h1, h2, h3⟩
    exact ⟨m, m, List.mem_map_of_mem h1, List.mem_map_of_mem h2, h3⟩
def badAt (us : List (List (List Str))) (ps : List (Str × Str)) (m : Nat) : Bool := ps.any fun nd => decide (OldAt us nd.1 nd.2 m m)
def stopsM (us : List (List (List Str))) (ps : List (Str × Str)) : List Nat := (List.range ((stepsOf 1 us).length + 1)).filter (badAt us ps)
theorem brk_all {us : List (List (List Str))} {xs : List Str} {ps : List (Str × Str)} {m : Nat} (h : ∀ p ∈ ps, p.1 ∈ xs ∧ p.2 ∈ xs) : ps.filter (isBrkM us xs (xs.map fun x => vz us (x, m))) = ps.filter fun nd => decide (OldAt us nd.1 nd.2 m m) :=
  List.filter_congr fun p hp => by
    rw [brk_at]
    have := h p hp
    simp [this.1, this.2]
theorem badAt_pos {us : List (List (List Str))} {ps : List (Str × Str)} {m : Nat} : decide (0 < ((ps.filter fun nd => decide (OldAt us nd.1 nd.2 m m)).length : Int)) = badAt us ps m := by
  unfold badAt
  rw [Bool.eq_iff_iff, decide_eq_true_eq, Int.natCast_pos, List.length_pos_iff_exists_mem, List.any_eq_true]
  simp only [List.mem_filter]
theorem enum_range (g : Nat → D) (n : Nat) : enumL 0 ((List.range n).map g) = (List.range n).map fun (m : Nat) => D.tup false [.int m, g m] := by
  rw [enumL_map]
  refine List.ext_getElem (by simp) fun i h1 h2 => ?_
  simp
def BadStopsS (f : Fnl) : Prop := ∀ st d w fs us ps, IsPl d fs us → PlOk fs us → (stepsOf 1 us).length < 63 → IsNd w ps → (∀ p ∈ ps, p.1 ∈ fs ∧ p.2 ∈ fs) → ps.length < 100000 → fs.length < 1000 → f [d, w] st = .ok (.own ((stopsM us ps).map fun (m : Nat) => D.int m), st)
theorem badStops_spec {J : Ix} {C : Cl} (hP : PlanInitS J (C (J.fn "Plan"))) (m1 : (J.mt "rows").lookup (J.cl "Plan") = some (J.fn "Plan.rows")) (hR : PRowsS J (C (J.fn "Plan.rows")))
    (m2 : (J.mt "files").lookup (J.cl "Plan") = some (J.fn "Plan.files")) (hF : PFilesS J (C (J.fn "Plan.files"))) (hB : BreaksS (C (J.fn "breaks"))) : BadStopsS (runF 6 (B_bad_stops J) C) := by
  intro st d w fs us ps hd hk hsh hw hsub hpl hfl
  have hro : (rowsP fs (stepsOf 1 us)).map TI = (List.range ((stepsOf 1 us).length + 1)).map fun m => TI (fs.map fun x => vz us (x, m)) := by
    unfold rowsP
    rw [List.map_map]
    rfl
  have hr := hR st fs us
  rw [hro] at hr
  refine run_eq ?_
  unfold B_bad_stops
  refine seq_eq (by simp [hP st d fs us hd hk] <;> rfl) ?_
  refine seq_eq (by simp [m1, hr, enum_range] <;> rfl) ?_
  simp [Res.sat_bind]
  refine lc_filterT (List.range ((stepsOf 1 us).length + 1)) (fun (m : Nat) => D.tup false [.int m, TI (fs.map fun x => vz us (x, m))]) (badAt us ps) (fun m => D.int m) (by simp) (by rw [szL_val, List.length_range]; omega) (by simp) ?_ ?_
  · intro m hm
    have hm := List.mem_range.mp hm
    have hz : fs.zip (fs.map fun x => vz us (x, m)) = fs.map fun x => (x, vz us (x, m)) := by
      have := List.zip_map' (f := fun x : Str => x) (g := fun x => vz us (x, m)) (l := fs)
      rw [List.map_id'] at this
      exact this
    have ha : Asked d (TS fs) (TI (fs.map fun x => vz us (x, m))) fs us fs (fs.map fun x => vz us (x, m)) := ⟨hd, hk, hsh, isTS_TS (by omega), isTI_TI (by simp; omega), fun _ h => h, by simp, by omega, fun p hp => by
      rw [hz] at hp
      obtain ⟨x, _, rfl⟩ := List.mem_map.mp hp
      exact List.mem_of_getElem? (vz_at (us := us) (z := (x, m)) (by show m ≤ _; omega))⟩
    have hb := hB st d (TS fs) _ w fs us fs _ ps ha ⟨hd, hk, hsh, isTS_TS (by omega), fun _ h => h, hfl, hw, hsub, hpl⟩
    rw [brk_all hsub] at hb
    have hp := badAt_pos (us := us) (ps := ps) (m := m)
    cases h : badAt us ps m
    · rw [h] at hp
      simp [m2, hF st fs us, hb, hp]
    · rw [h] at hp
      simp [m2, hF st fs us, hb, hp]
  · simp [Res.sat_ok, stopsM]
theorem endM_mono {us : List (List (List Str))} {j k : Nat} (h : j ≤ k) : endM us j ≤ endM us k := by
  have e : us.take j = (us.take k).take j := by rw [List.take_take, Nat.min_eq_left h]
  unfold endM
  rw [e]
  exact lens_take_le _ _
theorem ver_at_end {us : List (List (List Str))} {f : Str} {k : Nat} : ver ((stepsOf 1 us).take (endM us k)) f ≤ k := by
  refine Classical.byContradiction fun h => ?_
  have hn := ver_nn (us := us) (f := f) (m := endM us k)
  obtain ⟨p, u, q, s, e1, e2, e3, e4, e5⟩ := (ver_end (us := us) (f := f) (n := k) (k := ver ((stepsOf 1 us).take (endM us k)) f) (by omega)).mp (Int.le_refl _)
  omega
theorem old_end {us : List (List (List Str))} {a b : Str} {k : Nat} : ¬ OldAt us a b (endM us k) (endM us k) := by
  intro h
  unfold OldAt at h
  have h1 : vz us (a, endM us k) ≤ k := ver_at_end
  have h2 : endM us (vz us (a, endM us k)).toNat ≤ endM us k := endM_mono (by omega)
  have h3 : ver ((stepsOf 1 us).take (endM us (vz us (a, endM us k)).toNat)) b ≤ vz us (b, endM us k) := ver_mono h2
  omega
theorem bad_end {us : List (List (List Str))} {ps : List (Str × Str)} {k : Nat} : badAt us ps (endM us k) = false := by
  unfold badAt
  rw [List.any_eq_false]
  intro p _ h
  exact old_end (of_decide_eq_true h)
/-- updates of one step each (or none): no moment is bad -/
theorem ones_end : ∀ {us : List (List (List Str))}, (∀ u ∈ us, u.length ≤ 1) → ∀ m, m ≤ lens us → ∃ k, m = endM us k
  | [], _, m, h => ⟨0, by simp [lens] at h; simp [endM, lens, h]⟩
  | u :: us, hu, m, h => by
    rw [show u :: us = [u] ++ us from rfl, lens_append, lens_one] at h
    have h1 := hu u List.mem_cons_self
    by_cases h0 : m ≤ 0
    · exact ⟨0, by simp [endM, lens]; omega⟩
    · obtain ⟨k, hk⟩ := ones_end (us := us) (fun v hv => hu v (List.mem_cons_of_mem _ hv)) (m - u.length) (by omega)
      refine ⟨k + 1, ?_⟩
      have : endM (u :: us) (k + 1) = u.length + endM us k := by
        unfold endM
        rw [List.take_succ_cons, show u :: us.take k = [u] ++ us.take k from rfl, lens_append, lens_one]
      omega
theorem stops_ones {us : List (List (List Str))} {ps : List (Str × Str)} (h : ∀ u ∈ us, u.length ≤ 1) : stopsM us ps = [] := by
  unfold stopsM
  rw [List.filter_eq_nil_iff]
  intro m hm
  have hm := List.mem_range.mp hm
  rw [steps_lens] at hm
  obtain ⟨k, rfl⟩ := ones_end h m (by omega)
  rw [bad_end]
  exact Bool.false_ne_true
def sortT (ss : List Str) : List Str := ss.mergeSort fun a b => leD (.str a) (.str b)
theorem sortT_perm (ss : List Str) : (sortT ss).Perm ss := List.mergeSort_perm _ _
theorem sortT_enc (ss : List Str) : (ss.map D.str).mergeSort leD = (sortT ss).map .str := by
  unfold sortT
  rw [List.map_mergeSort (s := leD)]
  intro a _ b _
  rfl
theorem alkD_str (ss : List Str) : alkD (ss.map D.str) = true := by
  unfold alkD
  refine List.all_eq_true.mpr fun a ha => ?_
  obtain ⟨x, _, rfl⟩ := List.mem_map.mp ha
  rw [Bool.and_eq_true]
  refine ⟨rfl, List.all_eq_true.mpr fun b hb => ?_⟩
  obtain ⟨y, _, rfl⟩ := List.mem_map.mp hb
  rfl
theorem g_sortTS {st : List (List D)} {ss : List Str} (h : ss.length ≤ szL) : gSortX st [TS ss] = .ok (.own ((sortT ss).map .str)) := by
  unfold TS
  have h1 : srtD (ss.map D.str) = true := by
    unfold srtD
    rw [Bool.or_eq_true]
    right
    refine List.all_eq_true.mpr fun a ha => ?_
    obtain ⟨x, _, rfl⟩ := List.mem_map.mp ha
    rfl
  have h2 : (ss.map D.str).length ≤ szL := by simpa using h
  show (if srtD (ss.map D.str) = true then _ else _) = _
  rw [if_pos h1, if_pos ⟨alkD_str ss, h2⟩, sortT_enc]
theorem g_addTS {st : List (List D)} {a b : List Str} (h : a.length + b.length ≤ szL) : gAdd st [TS a, TS b] = .ok (.val (TS (a ++ b))) := by
  unfold TS
  rw [g_add4]
  have e : ((!a.isEmpty || !sHd (a.map D.str)) && (!b.isEmpty || !sHd (b.map D.str)) && sHd (a.map D.str ++ b.map D.str)) = !(a ++ b).isEmpty := by
    cases a <;> cases b <;> rfl
  rw [e]
  simp [h]
theorem lc_filterU {α : Type} {vs : List Nat} {tg : Tg} {it : SI} {c el : SE} {C : Cl} {s s1 : S} {P : R × S → Prop} (xs : List α) (e : α → D) (Q : α → Bool) (f : α → D) (hit : it C s = .ok (xs.map e, s1)) (hz : xs.length ≤ szL) (hv : ∀ v ∈ vs, s1.ρ[v]? = some none)
    (ht : ∀ x ∈ xs, lcTurn tg [c] el vs C (e x) s1 = .ok (if Q x then some (f x) else none, s1)) (hd : P (.own ((xs.filter Q).map f), s1)) : (lcF vs tg it [c] el C s).Sat P := by
  rw [lc_filter xs e Q f hit hz hv ht]
  exact hd
end Ev
set_option Elab.async false
set_option maxRecDepth 100000
set_option maxHeartbeats 4000000
namespace Lw
open PySem PySem.Spec PyProof.Rows L2 Ev
def top (i : Nat) : Stmt := PySem.Challenge.pw_mixreads_k63_whole_ends_of_updates_do_no.main.body.getD i (.Pass ⟨0, 0, 0, 0⟩)
abbrev b0_tupled_st : Stmt := top 6
abbrev b0_tupled_N : List Str := ["thing", "part"]
abbrev b0_tupled_P : List Str := ["thing"]
abbrev b1_Plan___init___st : Stmt := inClass (top 8) 1
abbrev b1_Plan___init___N : List Str := ["self", "plan", "files", "updates", "number", "update", "step", "row", "at", "file"]
abbrev b1_Plan___init___P : List Str := ["self", "plan"]
abbrev b2_Plan_files_st : Stmt := inClass (top 8) 2
abbrev b2_Plan_files_N : List Str := ["self"]
abbrev b2_Plan_files_P : List Str := ["self"]
abbrev b3_Plan_steps_st : Stmt := inClass (top 8) 3
abbrev b3_Plan_steps_N : List Str := ["self", "number", "step"]
abbrev b3_Plan_steps_P : List Str := ["self"]
abbrev b4_Plan_moments_st : Stmt := inClass (top 8) 5
abbrev b4_Plan_moments_N : List Str := ["self"]
abbrev b4_Plan_moments_P : List Str := ["self"]
abbrev b5_Plan_rows_st : Stmt := inClass (top 8) 6
abbrev b5_Plan_rows_N : List Str := ["self"]
abbrev b5_Plan_rows_P : List Str := ["self"]
abbrev b6_Plan_check_file_st : Stmt := inClass (top 8) 7
abbrev b6_Plan_check_file_N : List Str := ["self", "file"]
abbrev b6_Plan_check_file_P : List Str := ["self", "file"]
abbrev b7_Plan_column_st : Stmt := inClass (top 8) 8
abbrev b7_Plan_column_N : List Str := ["self", "file", "spot", "row"]
abbrev b7_Plan_column_P : List Str := ["self", "file"]
abbrev b8_Plan_version_st : Stmt := inClass (top 8) 9
abbrev b8_Plan_version_N : List Str := ["self", "file", "moment", "some"]
abbrev b8_Plan_version_P : List Str := ["self", "file", "moment"]
abbrev b9_Plan_versions_st : Stmt := inClass (top 8) 10
abbrev b9_Plan_versions_N : List Str := ["self", "file"]
abbrev b9_Plan_versions_P : List Str := ["self", "file"]
abbrev b10_Plan_check_order_st : Stmt := inClass (top 8) 13
abbrev b10_Plan_check_order_N : List Str := ["self", "order", "found", "file"]
abbrev b10_Plan_check_order_P : List Str := ["self", "order"]
abbrev b11_Plan_check_mix_st : Stmt := inClass (top 8) 14
abbrev b11_Plan_check_mix_N : List Str := ["self", "order", "mix", "found", "file", "own"]
abbrev b11_Plan_check_mix_P : List Str := ["self", "order", "mix"]
abbrev b12_version_st : Stmt := top 9
abbrev b12_version_N : List Str := ["plan", "file", "moment"]
abbrev b12_version_P : List Str := ["plan", "file", "moment"]
abbrev b13_checked_needs_st : Stmt := top 11
abbrev b13_checked_needs_N : List Str := ["own", "needs", "some", "need"]
abbrev b13_checked_needs_P : List Str := ["own", "needs"]
abbrev b14_wanted_st : Stmt := top 12
abbrev b14_wanted_N : List Str := ["own", "other", "number", "version"]
abbrev b14_wanted_P : List Str := ["own", "other", "number"]
abbrev b15_is_broken_st : Stmt := top 13
abbrev b15_is_broken_N : List Str := ["own", "order", "mix", "need", "one", "other", "ones", "file", "number", "others", "it"]
abbrev b15_is_broken_P : List Str := ["own", "order", "mix", "need"]
abbrev b16_broken_by_st : Stmt := top 14
abbrev b16_broken_by_N : List Str := ["own", "order", "mix", "needs", "need"]
abbrev b16_broken_by_P : List Str := ["own", "order", "mix", "needs"]
abbrev b17_breaks_st : Stmt := top 15
abbrev b17_breaks_N : List Str := ["plan", "order", "mix", "needs", "own", "places", "some"]
abbrev b17_breaks_P : List Str := ["plan", "order", "mix", "needs"]
abbrev b18_bad_stops_st : Stmt := top 17
abbrev b18_bad_stops_N : List Str := ["plan", "needs", "own", "rows", "moment", "mix"]
abbrev b18_bad_stops_P : List Str := ["plan", "needs"]
abbrev b19__law_box_st : Stmt := top 19
abbrev b19__law_box_N : List Str := ["_law_script", "_law_k", "_law_cell"]
abbrev b19__law_box_P : List Str := ["_law_script", "_law_k"]
abbrev b20__law_take_st : Stmt := top 20
abbrev b20__law_take_N : List Str := ["_law_box_here", "_law_below", "_law_drawn", "_law_once", "_law_far", "_law_twice"]
abbrev b20__law_take_P : List Str := ["_law_box_here", "_law_below"]
abbrev b21__law_cells_st : Stmt := top 21
abbrev b21__law_cells_N : List Str := ["_law_script", "_law_most", "_law_cells_here", "_law_k", "_law_cell", "_law_at_so"]
abbrev b21__law_cells_P : List Str := ["_law_script", "_law_most"]
abbrev b22__law_of_st : Stmt := top 22
abbrev b22__law_of_N : List Str := ["_law_box_here", "_law_some"]
abbrev b22__law_of_P : List Str := ["_law_box_here", "_law_some"]
abbrev b23__law_same_st : Stmt := top 23
abbrev b23__law_same_N : List Str := ["_law_got", "_law_due", "_law_mine", "_law_its", "_law_own"]
abbrev b23__law_same_P : List Str := ["_law_got", "_law_due"]
abbrev b24__law_pick_st : Stmt := top 24
abbrev b24__law_pick_N : List Str := ["_law_box_here", "_law_names", "_law_many", "_law_rest", "_law_some", "_law_turn"]
abbrev b24__law_pick_P : List Str := ["_law_box_here", "_law_names", "_law_many"]
abbrev b25__law_files_st : Stmt := top 25
abbrev b25__law_files_N : List Str := ["_law_box_here", "_law_many"]
abbrev b25__law_files_P : List Str := ["_law_box_here", "_law_many"]
abbrev b26__law_update_st : Stmt := top 26
abbrev b26__law_update_N : List Str := ["_law_box_here", "_law_files_so", "_law_whole", "_law_rest", "_law_steps_so", "_law_many"]
abbrev b26__law_update_P : List Str := ["_law_box_here", "_law_files_so", "_law_whole"]
abbrev b27__law_plan_st : Stmt := top 27
abbrev b27__law_plan_N : List Str := ["_law_box_here", "_law_files_so", "_law_many", "_law_turn"]
abbrev b27__law_plan_P : List Str := ["_law_box_here", "_law_files_so", "_law_many"]
abbrev b28__law_order_st : Stmt := top 28
abbrev b28__law_order_N : List Str := ["_law_box_here", "_law_files_so", "_law_many", "_law_again", "_law_turn"]
abbrev b28__law_order_P : List Str := ["_law_box_here", "_law_files_so", "_law_many", "_law_again"]
abbrev b29__law_all_needs_st : Stmt := top 29
abbrev b29__law_all_needs_N : List Str := ["_law_files_so", "_law_some", "_law_one_so", "_law_other_so"]
abbrev b29__law_all_needs_P : List Str := ["_law_files_so"]
abbrev b30__law_right_st : Stmt := top 30
abbrev b30__law_right_N : List Str := ["_law_box_here", "_law_files_so", "_law_plan_so", "_law_order_so", "_law_needs_so", "_law_done_so", "_law_ends", "_law_many", "_law_own", "_law_due", "_law_moment_so", "_law_mix_so", "_law_file_so", "_law_once", "_law_part", "_law_step"]
abbrev b30__law_right_P : List Str := ["_law_box_here"]
abbrev b31_law_st : Stmt := top 31
abbrev b31_law_N : List Str := ["_law_script", "_law_cells_here", "_law_k", "_law_box_here", "_law_turn"]
abbrev b31_law_P : List Str := ["_law_script"]
def Γ : Gm where
  fns := [("tupled", 0, 1), ("version", 12, 3), ("checked_needs", 13, 2), ("wanted", 14, 3), ("is_broken", 15, 4), ("broken_by", 16, 4), ("breaks", 17, 4), ("bad_stops", 18, 2), ("_law_box", 19, 2), ("_law_take", 20, 2), ("_law_cells", 21, 2), ("_law_of", 22, 2), ("_law_same", 23, 2), ("_law_pick", 24, 3), ("_law_files", 25, 2), ("_law_update", 26, 3), ("_law_plan", 27, 3), ("_law_order", 28, 4), ("_law_all_needs", 29, 1), ("_law_right", 30, 1)]
  cls := [("Plan", 1, 1, 0)]
  mts := [("files", [(0, 2)], 1), ("steps", [(0, 3)], 1), ("moments", [(0, 4)], 1), ("rows", [(0, 5)], 1), ("check_file", [(0, 6)], 2), ("column", [(0, 7)], 2), ("version", [(0, 8)], 3), ("versions", [(0, 9)], 2), ("check_order", [(0, 10)], 2), ("check_mix", [(0, 11)], 3)]
  fds := [("own_files", [(0, 0)]), ("own_rows", [(0, 1)]), ("own_steps", [(0, 2)])]
  cel := ["_law_box"]
  bls := ["abs", "all", "any", "bool", "dict", "enumerate", "int", "isinstance", "len", "list", "max", "min", "range", "set", "sorted", "str", "sum", "tuple", "zip"]
  kws := []
  cst := []
def J : Ix := ixOf [("tupled", 0), ("Plan.__init__", 1), ("Plan.files", 2), ("Plan.steps", 3), ("Plan.moments", 4), ("Plan.rows", 5), ("Plan.check_file", 6), ("Plan.column", 7), ("Plan.version", 8), ("Plan.versions", 9), ("Plan.check_order", 10), ("Plan.check_mix", 11), ("version", 12), ("checked_needs", 13), ("wanted", 14), ("is_broken", 15), ("broken_by", 16), ("breaks", 17), ("bad_stops", 18), ("_law_box", 19), ("_law_take", 20), ("_law_cells", 21), ("_law_of", 22), ("_law_same", 23), ("_law_pick", 24), ("_law_files", 25), ("_law_update", 26), ("_law_plan", 27), ("_law_order", 28), ("_law_all_needs", 29), ("_law_right", 30), ("law", 31), ("Plan", 1)] [("files", [(0, 2)]), ("steps", [(0, 3)]), ("moments", [(0, 4)]), ("rows", [(0, 5)]), ("check_file", [(0, 6)]), ("column", [(0, 7)]), ("version", [(0, 8)]), ("versions", [(0, 9)]), ("check_order", [(0, 10)]), ("check_mix", [(0, 11)])] [("own_files", [(0, 0)]), ("own_rows", [(0, 1)]), ("own_steps", [(0, 2)])] [("Plan", 0)]
abbrev b0_tupled : SS := B_tupled J
abbrev b1_Plan___init__ : SS := B_Plan___init__ J
abbrev b2_Plan_files : SS := B_Plan_files J
abbrev b3_Plan_steps : SS := B_Plan_steps J
abbrev b4_Plan_moments : SS := B_Plan_moments J
abbrev b5_Plan_rows : SS := B_Plan_rows J
abbrev b6_Plan_check_file : SS := B_Plan_check_file J
abbrev b7_Plan_column : SS := B_Plan_column J
abbrev b8_Plan_version : SS := B_Plan_version J
abbrev b9_Plan_versions : SS := B_Plan_versions J
abbrev b10_Plan_check_order : SS := B_Plan_check_order J
abbrev b11_Plan_check_mix : SS := B_Plan_check_mix J
abbrev b12_version : SS := B_version J
abbrev b13_checked_needs : SS := B_checked_needs J
abbrev b14_wanted : SS := B_wanted J
abbrev b15_is_broken : SS := B_is_broken J
abbrev b16_broken_by : SS := B_broken_by J
abbrev b17_breaks : SS := B_breaks J
abbrev b18_bad_stops : SS := B_bad_stops J
abbrev b19__law_box : SS := B__law_box J
abbrev b20__law_take : SS := B__law_take J
abbrev b21__law_cells : SS := B__law_cells J
abbrev b22__law_of : SS := B__law_of J
abbrev b23__law_same : SS := B__law_same J
abbrev b24__law_pick : SS := B__law_pick J
abbrev b25__law_files : SS := B__law_files J
abbrev b26__law_update : SS := B__law_update J
abbrev b27__law_plan : SS := B__law_plan J
abbrev b28__law_order : SS := B__law_order J
abbrev b29__law_all_needs : SS := B__law_all_needs J
def L__law_right (J : Ix) : SS :=
 (seqF (asgF (.nm 1) (callF (J.fn "_law_files") [varF 0, opE gAdd [cstF (.int 2), callF (J.fn "_law_take") [varF 0, cstF (.int 3)]]]))
 (seqF (asgF (.nm 2) (callF (J.fn "_law_plan") [varF 0, varF 1, opE gAdd [cstF (.int 1), callF (J.fn "_law_take") [varF 0, cstF (.int 4)]]]))
 (seqF (asgF (.nm 3) (callF (J.fn "_law_order") [varF 0, varF 1, opE gLen [varF 1], cstF (.bl false)]))
 (seqF (asgF (.nm 4) (slF (slF (callF (J.fn "_law_all_needs") [varF 1]) (some (callF (J.fn "_law_take") [varF 0, cstF (.int 2)])) none) none (some (cstF (.int 8)))))
 (seqF (seqF (parF [5, 6, 7] [cstF (.int 0), lstF [cstF (.int 0)], opE gSum [lcF [8] (.nm 8) (itF (opE gIx [varF 2, cstF (.int 1)])) [] (opE gLen [varF 8])]]) (fzF [5, 7]))
 (seqF (forF (.nm 8) (itF (opE gIx [varF 2, cstF (.int 1)]))
 (seqF (asgF (.nm 5) (opE gAdd [varF 5, opE gLen [varF 8]]))
 (seqF (appF 6 (varF 5))
 (nxF))))
 (seqF (setF 9 (lstF []))
 (seqF (forF (.nm 10) (rng1F (opE gAdd [varF 7, cstF (.int 1)]))
 (seqF (asgF (.nm 11) (opE gTuple [lcF [12] (.nm 12) (itF (varF 3)) [] (callF (J.fn "version") [varF 2, varF 12, varF 10])]))
 (seqF (ifF (opE (gEq true) [callF (J.fn "breaks") [varF 2, varF 3, varF 11, varF 4], lstF []])
 (seqF (appF 9 (varF 10))
 (nxF))
 (nxF))
 (nxF))))
 (seqF (ifF (orF (opE (gEq true) [lcF [10] (.nm 10) (itF (varF 6)) [opE (gIn false) [varF 10, varF 9]] (varF 10), lstF []]) (notF (callF (J.fn "_law_same") [callF (J.fn "bad_stops") [varF 2, varF 4], varF 9])))
 (seqF (retF (cstF (.bl false)))
 (nxF))
 (nxF))
 (seqF (setF 13 (lstF []))
 (seqF (forF (.nm 8) (itF (opE gIx [varF 2, cstF (.int 1)]))
 (seqF (asgF (.nm 14) (tupF []))
 (seqF (forF (.nm 15) (itF (varF 8))
 (seqF (asgF (.nm 14) (opE gAdd [varF 14, varF 15]))
 (nxF)))
 (seqF (appF 13 (tupF [opE gTuple [opE gSortX [varF 14]]]))
 (nxF)))))
 (seqF (setF 13 (tupF [varF 1, opE gTuple [varF 13]]))
 (seqF (retF (opE (gEq false) [callF (J.fn "bad_stops") [varF 13, varF 4], lstF []]))
 (nxF))))))))))))))
abbrev b30__law_right : SS := L__law_right J
abbrev b31_law : SS := B_law_h32c8 J
def T : Tb := [runF 2 b0_tupled, runI 0 3 10 b1_Plan___init__, runF 1 b2_Plan_files, runF 3 b3_Plan_steps, runF 1 b4_Plan_moments, runF 1 b5_Plan_rows, runF 2 b6_Plan_check_file, runF 4 b7_Plan_column, runF 4 b8_Plan_version, runF 2 b9_Plan_versions, runF 4 b10_Plan_check_order, runF 6 b11_Plan_check_mix, runF 3 b12_version, runF 4 b13_checked_needs, runF 4 b14_wanted, runF 11 b15_is_broken, runF 5 b16_broken_by, runF 7 b17_breaks, runF 6 b18_bad_stops, runF 3 b19__law_box, runF 6 b20__law_take, runF 6 b21__law_cells, runF 2 b22__law_of, runF 5 b23__law_same, runF 6 b24__law_pick, runF 2 b25__law_files, runF 6 b26__law_update, runF 4 b27__law_plan, runF 5 b28__law_order, runF 4 b29__law_all_needs, runF 16 b30__law_right, runF 5 b31_law]
theorem b0_tupled_eq : (bodyC Γ ⟨b0_tupled_N, defScope b0_tupled_st, fun _ => true, none, []⟩ (defBody b0_tupled_st)).F = b0_tupled := by kernel_rfl
theorem b0_tupled_sc : FnScope b0_tupled_N b0_tupled_P (defScope b0_tupled_st) := ⟨rfl, rfl, rfl, by decide +kernel, rfl, by decide +kernel, by decide +kernel⟩
theorem b1_Plan___init___eq : (bodyC Γ ⟨b1_Plan___init___N, defScope b1_Plan___init___st, fun _ => true, some 0, []⟩ (defBody b1_Plan___init___st)).F = b1_Plan___init__ := by kernel_rfl
theorem b1_Plan___init___sc : FnScope b1_Plan___init___N b1_Plan___init___P (defScope b1_Plan___init___st) := ⟨rfl, rfl, rfl, by decide +kernel, rfl, by decide +kernel, by decide +kernel⟩
theorem b2_Plan_files_eq : (bodyC Γ ⟨b2_Plan_files_N, defScope b2_Plan_files_st, fun _ => true, none, []⟩ (defBody b2_Plan_files_st)).F = b2_Plan_files := by kernel_rfl
theorem b2_Plan_files_sc : FnScope b2_Plan_files_N b2_Plan_files_P (defScope b2_Plan_files_st) := ⟨rfl, rfl, rfl, by decide +kernel, rfl, by decide +kernel, by decide +kernel⟩
theorem b3_Plan_steps_eq : (bodyC Γ ⟨b3_Plan_steps_N, defScope b3_Plan_steps_st, fun _ => true, none, []⟩ (defBody b3_Plan_steps_st)).F = b3_Plan_steps := by kernel_rfl
theorem b3_Plan_steps_sc : FnScope b3_Plan_steps_N b3_Plan_steps_P (defScope b3_Plan_steps_st) := ⟨rfl, rfl, rfl, by decide +kernel, rfl, by decide +kernel, by decide +kernel⟩
theorem b4_Plan_moments_eq : (bodyC Γ ⟨b4_Plan_moments_N, defScope b4_Plan_moments_st, fun _ => true, none, []⟩ (defBody b4_Plan_moments_st)).F = b4_Plan_moments := by kernel_rfl
theorem b4_Plan_moments_sc : FnScope b4_Plan_moments_N b4_Plan_moments_P (defScope b4_Plan_moments_st) := ⟨rfl, rfl, rfl, by decide +kernel, rfl, by decide +kernel, by decide +kernel⟩
theorem b5_Plan_rows_eq : (bodyC Γ ⟨b5_Plan_rows_N, defScope b5_Plan_rows_st, fun _ => true, none, []⟩ (defBody b5_Plan_rows_st)).F = b5_Plan_rows := by kernel_rfl
theorem b5_Plan_rows_sc : FnScope b5_Plan_rows_N b5_Plan_rows_P (defScope b5_Plan_rows_st) := ⟨rfl, rfl, rfl, by decide +kernel, rfl, by decide +kernel, by decide +kernel⟩
theorem b6_Plan_check_file_eq : (bodyC Γ ⟨b6_Plan_check_file_N, defScope b6_Plan_check_file_st, fun _ => true, none, []⟩ (defBody b6_Plan_check_file_st)).F = b6_Plan_check_file := by kernel_rfl
theorem b6_Plan_check_file_sc : FnScope b6_Plan_check_file_N b6_Plan_check_file_P (defScope b6_Plan_check_file_st) := ⟨rfl, rfl, rfl, by decide +kernel, rfl, by decide +kernel, by decide +kernel⟩
theorem b7_Plan_column_eq : (bodyC Γ ⟨b7_Plan_column_N, defScope b7_Plan_column_st, fun _ => true, none, []⟩ (defBody b7_Plan_column_st)).F = b7_Plan_column := by kernel_rfl
theorem b7_Plan_column_sc : FnScope b7_Plan_column_N b7_Plan_column_P (defScope b7_Plan_column_st) := ⟨rfl, rfl, rfl, by decide +kernel, rfl, by decide +kernel, by decide +kernel⟩
theorem b8_Plan_version_eq : (bodyC Γ ⟨b8_Plan_version_N, defScope b8_Plan_version_st, fun _ => true, none, []⟩ (defBody b8_Plan_version_st)).F = b8_Plan_version := by kernel_rfl
theorem b8_Plan_version_sc : FnScope b8_Plan_version_N b8_Plan_version_P (defScope b8_Plan_version_st) := ⟨rfl, rfl, rfl, by decide +kernel, rfl, by decide +kernel, by decide +kernel⟩
theorem b9_Plan_versions_eq : (bodyC Γ ⟨b9_Plan_versions_N, defScope b9_Plan_versions_st, fun _ => true, none, []⟩ (defBody b9_Plan_versions_st)).F = b9_Plan_versions := by kernel_rfl
theorem b9_Plan_versions_sc : FnScope b9_Plan_versions_N b9_Plan_versions_P (defScope b9_Plan_versions_st) := ⟨rfl, rfl, rfl, by decide +kernel, rfl, by decide +kernel, by decide +kernel⟩
theorem b10_Plan_check_order_eq : (bodyC Γ ⟨b10_Plan_check_order_N, defScope b10_Plan_check_order_st, fun _ => true, none, []⟩ (defBody b10_Plan_check_order_st)).F = b10_Plan_check_order := by kernel_rfl
theorem b10_Plan_check_order_sc : FnScope b10_Plan_check_order_N b10_Plan_check_order_P (defScope b10_Plan_check_order_st) := ⟨rfl, rfl, rfl, by decide +kernel, rfl, by decide +kernel, by decide +kernel⟩
theorem b11_Plan_check_mix_eq : (bodyC Γ ⟨b11_Plan_check_mix_N, defScope b11_Plan_check_mix_st, fun _ => true, none, []⟩ (defBody b11_Plan_check_mix_st)).F = b11_Plan_check_mix := by kernel_rfl
theorem b11_Plan_check_mix_sc : FnScope b11_Plan_check_mix_N b11_Plan_check_mix_P (defScope b11_Plan_check_mix_st) := ⟨rfl, rfl, rfl, by decide +kernel, rfl, by decide +kernel, by decide +kernel⟩
theorem b12_version_eq : (bodyC Γ ⟨b12_version_N, defScope b12_version_st, fun _ => true, none, []⟩ (defBody b12_version_st)).F = b12_version := by kernel_rfl
theorem b12_version_sc : FnScope b12_version_N b12_version_P (defScope b12_version_st) := ⟨rfl, rfl, rfl, by decide +kernel, rfl, by decide +kernel, by decide +kernel⟩
theorem b13_checked_needs_eq : (bodyC Γ ⟨b13_checked_needs_N, defScope b13_checked_needs_st, fun _ => true, none, []⟩ (defBody b13_checked_needs_st)).F = b13_checked_needs := by kernel_rfl
theorem b13_checked_needs_sc : FnScope b13_checked_needs_N b13_checked_needs_P (defScope b13_checked_needs_st) := ⟨rfl, rfl, rfl, by decide +kernel, rfl, by decide +kernel, by decide +kernel⟩
theorem b14_wanted_eq : (bodyC Γ ⟨b14_wanted_N, defScope b14_wanted_st, fun _ => true, none, []⟩ (defBody b14_wanted_st)).F = b14_wanted := by kernel_rfl
theorem b14_wanted_sc : FnScope b14_wanted_N b14_wanted_P (defScope b14_wanted_st) := ⟨rfl, rfl, rfl, by decide +kernel, rfl, by decide +kernel, by decide +kernel⟩
theorem b15_is_broken_eq : (bodyC Γ ⟨b15_is_broken_N, defScope b15_is_broken_st, fun _ => true, none, []⟩ (defBody b15_is_broken_st)).F = b15_is_broken := by kernel_rfl
theorem b15_is_broken_sc : FnScope b15_is_broken_N b15_is_broken_P (defScope b15_is_broken_st) := ⟨rfl, rfl, rfl, by decide +kernel, rfl, by decide +kernel, by decide +kernel⟩
theorem b16_broken_by_eq : (bodyC Γ ⟨b16_broken_by_N, defScope b16_broken_by_st, fun _ => true, none, []⟩ (defBody b16_broken_by_st)).F = b16_broken_by := by kernel_rfl
theorem b16_broken_by_sc : FnScope b16_broken_by_N b16_broken_by_P (defScope b16_broken_by_st) := ⟨rfl, rfl, rfl, by decide +kernel, rfl, by decide +kernel, by decide +kernel⟩
theorem b17_breaks_eq : (bodyC Γ ⟨b17_breaks_N, defScope b17_breaks_st, fun _ => true, none, []⟩ (defBody b17_breaks_st)).F = b17_breaks := by kernel_rfl
theorem b17_breaks_sc : FnScope b17_breaks_N b17_breaks_P (defScope b17_breaks_st) := ⟨rfl, rfl, rfl, by decide +kernel, rfl, by decide +kernel, by decide +kernel⟩
theorem b18_bad_stops_eq : (bodyC Γ ⟨b18_bad_stops_N, defScope b18_bad_stops_st, fun _ => true, none, []⟩ (defBody b18_bad_stops_st)).F = b18_bad_stops := by kernel_rfl
theorem b18_bad_stops_sc : FnScope b18_bad_stops_N b18_bad_stops_P (defScope b18_bad_stops_st) := ⟨rfl, rfl, rfl, by decide +kernel, rfl, by decide +kernel, by decide +kernel⟩
theorem b19__law_box_eq : (bodyC Γ ⟨b19__law_box_N, defScope b19__law_box_st, fun _ => true, none, []⟩ (defBody b19__law_box_st)).F = b19__law_box := by kernel_rfl
theorem b19__law_box_sc : FnScope b19__law_box_N b19__law_box_P (defScope b19__law_box_st) := ⟨rfl, rfl, rfl, by decide +kernel, rfl, by decide +kernel, by decide +kernel⟩
theorem b20__law_take_eq : (bodyC Γ ⟨b20__law_take_N, defScope b20__law_take_st, fun _ => true, none, []⟩ (defBody b20__law_take_st)).F = b20__law_take := by kernel_rfl
theorem b20__law_take_sc : FnScope b20__law_take_N b20__law_take_P (defScope b20__law_take_st) := ⟨rfl, rfl, rfl, by decide +kernel, rfl, by decide +kernel, by decide +kernel⟩
theorem b21__law_cells_eq : (bodyC Γ ⟨b21__law_cells_N, defScope b21__law_cells_st, fun _ => true, none, []⟩ (defBody b21__law_cells_st)).F = b21__law_cells := by kernel_rfl
theorem b21__law_cells_sc : FnScope b21__law_cells_N b21__law_cells_P (defScope b21__law_cells_st) := ⟨rfl, rfl, rfl, by decide +kernel, rfl, by decide +kernel, by decide +kernel⟩
theorem b22__law_of_eq : (bodyC Γ ⟨b22__law_of_N, defScope b22__law_of_st, fun _ => true, none, []⟩ (defBody b22__law_of_st)).F = b22__law_of := by kernel_rfl
theorem b22__law_of_sc : FnScope b22__law_of_N b22__law_of_P (defScope b22__law_of_st) := ⟨rfl, rfl, rfl, by decide +kernel, rfl, by decide +kernel, by decide +kernel⟩
theorem b23__law_same_eq : (bodyC Γ ⟨b23__law_same_N, defScope b23__law_same_st, fun _ => true, none, []⟩ (defBody b23__law_same_st)).F = b23__law_same := by kernel_rfl
theorem b23__law_same_sc : FnScope b23__law_same_N b23__law_same_P (defScope b23__law_same_st) := ⟨rfl, rfl, rfl, by decide +kernel, rfl, by decide +kernel, by decide +kernel⟩
theorem b24__law_pick_eq : (bodyC Γ ⟨b24__law_pick_N, defScope b24__law_pick_st, fun _ => true, none, []⟩ (defBody b24__law_pick_st)).F = b24__law_pick := by kernel_rfl
theorem b24__law_pick_sc : FnScope b24__law_pick_N b24__law_pick_P (defScope b24__law_pick_st) := ⟨rfl, rfl, rfl, by decide +kernel, rfl, by decide +kernel, by decide +kernel⟩
theorem b25__law_files_eq : (bodyC Γ ⟨b25__law_files_N, defScope b25__law_files_st, fun _ => true, none, []⟩ (defBody b25__law_files_st)).F = b25__law_files := by kernel_rfl
theorem b25__law_files_sc : FnScope b25__law_files_N b25__law_files_P (defScope b25__law_files_st) := ⟨rfl, rfl, rfl, by decide +kernel, rfl, by decide +kernel, by decide +kernel⟩
theorem b26__law_update_eq : (bodyC Γ ⟨b26__law_update_N, defScope b26__law_update_st, fun _ => true, none, []⟩ (defBody b26__law_update_st)).F = b26__law_update := by kernel_rfl
theorem b26__law_update_sc : FnScope b26__law_update_N b26__law_update_P (defScope b26__law_update_st) := ⟨rfl, rfl, rfl, by decide +kernel, rfl, by decide +kernel, by decide +kernel⟩
theorem b27__law_plan_eq : (bodyC Γ ⟨b27__law_plan_N, defScope b27__law_plan_st, fun _ => true, none, []⟩ (defBody b27__law_plan_st)).F = b27__law_plan := by kernel_rfl
theorem b27__law_plan_sc : FnScope b27__law_plan_N b27__law_plan_P (defScope b27__law_plan_st) := ⟨rfl, rfl, rfl, by decide +kernel, rfl, by decide +kernel, by decide +kernel⟩
theorem b28__law_order_eq : (bodyC Γ ⟨b28__law_order_N, defScope b28__law_order_st, fun _ => true, none, []⟩ (defBody b28__law_order_st)).F = b28__law_order := by kernel_rfl
theorem b28__law_order_sc : FnScope b28__law_order_N b28__law_order_P (defScope b28__law_order_st) := ⟨rfl, rfl, rfl, by decide +kernel, rfl, by decide +kernel, by decide +kernel⟩
theorem b29__law_all_needs_eq : (bodyC Γ ⟨b29__law_all_needs_N, defScope b29__law_all_needs_st, fun _ => true, none, []⟩ (defBody b29__law_all_needs_st)).F = b29__law_all_needs := by kernel_rfl
theorem b29__law_all_needs_sc : FnScope b29__law_all_needs_N b29__law_all_needs_P (defScope b29__law_all_needs_st) := ⟨rfl, rfl, rfl, by decide +kernel, rfl, by decide +kernel, by decide +kernel⟩
theorem b30__law_right_eq : (bodyC Γ ⟨b30__law_right_N, defScope b30__law_right_st, fun _ => true, none, []⟩ (defBody b30__law_right_st)).F = b30__law_right := by kernel_rfl
theorem b30__law_right_sc : FnScope b30__law_right_N b30__law_right_P (defScope b30__law_right_st) := ⟨rfl, rfl, rfl, by decide +kernel, rfl, by decide +kernel, by decide +kernel⟩
theorem b31_law_eq : (bodyC Γ ⟨b31_law_N, defScope b31_law_st, fun _ => true, none, []⟩ (defBody b31_law_st)).F = b31_law := by kernel_rfl
theorem b31_law_sc : FnScope b31_law_N b31_law_P (defScope b31_law_st) := ⟨rfl, rfl, rfl, by decide +kernel, rfl, by decide +kernel, by decide +kernel⟩
theorem b0_tupled_b (kV doc pm : Value) (an : Option Addr) (cdv ct : Value) (us : List Value) (hl : us.length = b0_tupled_P.length) : bindArgs (PySem.W.fnOf "tupled" "tupled" (defArgs b0_tupled_st) (defBody b0_tupled_st) (defScope b0_tupled_st) .none kV doc pm an cdv ct) ⟨us, []⟩ = pure (b0_tupled_P.zip us) :=
  match us, hl with | [_], _ => rfl
theorem b1_Plan___init___b (kV doc pm : Value) (an : Option Addr) (cdv ct : Value) (us : List Value) (hl : us.length = b1_Plan___init___P.length) : bindArgs (PySem.W.fnOf "__init__" "Plan.__init__" (defArgs b1_Plan___init___st) (defBody b1_Plan___init___st) (defScope b1_Plan___init___st) .none kV doc pm an cdv ct) ⟨us, []⟩ = pure (b1_Plan___init___P.zip us) :=
  match us, hl with | [_, _], _ => rfl
theorem b2_Plan_files_b (kV doc pm : Value) (an : Option Addr) (cdv ct : Value) (us : List Value) (hl : us.length = b2_Plan_files_P.length) : bindArgs (PySem.W.fnOf "files" "Plan.files" (defArgs b2_Plan_files_st) (defBody b2_Plan_files_st) (defScope b2_Plan_files_st) .none kV doc pm an cdv ct) ⟨us, []⟩ = pure (b2_Plan_files_P.zip us) :=
  match us, hl with | [_], _ => rfl
theorem b3_Plan_steps_b (kV doc pm : Value) (an : Option Addr) (cdv ct : Value) (us : List Value) (hl : us.length = b3_Plan_steps_P.length) : bindArgs (PySem.W.fnOf "steps" "Plan.steps" (defArgs b3_Plan_steps_st) (defBody b3_Plan_steps_st) (defScope b3_Plan_steps_st) .none kV doc pm an cdv ct) ⟨us, []⟩ = pure (b3_Plan_steps_P.zip us) :=
  match us, hl with | [_], _ => rfl
theorem b4_Plan_moments_b (kV doc pm : Value) (an : Option Addr) (cdv ct : Value) (us : List Value) (hl : us.length = b4_Plan_moments_P.length) : bindArgs (PySem.W.fnOf "moments" "Plan.moments" (defArgs b4_Plan_moments_st) (defBody b4_Plan_moments_st) (defScope b4_Plan_moments_st) .none kV doc pm an cdv ct) ⟨us, []⟩ = pure (b4_Plan_moments_P.zip us) :=
  match us, hl with | [_], _ => rfl
theorem b5_Plan_rows_b (kV doc pm : Value) (an : Option Addr) (cdv ct : Value) (us : List Value) (hl : us.length = b5_Plan_rows_P.length) : bindArgs (PySem.W.fnOf "rows" "Plan.rows" (defArgs b5_Plan_rows_st) (defBody b5_Plan_rows_st) (defScope b5_Plan_rows_st) .none kV doc pm an cdv ct) ⟨us, []⟩ = pure (b5_Plan_rows_P.zip us) :=
  match us, hl with | [_], _ => rfl
theorem b6_Plan_check_file_b (kV doc pm : Value) (an : Option Addr) (cdv ct : Value) (us : List Value) (hl : us.length = b6_Plan_check_file_P.length) : bindArgs (PySem.W.fnOf "check_file" "Plan.check_file" (defArgs b6_Plan_check_file_st) (defBody b6_Plan_check_file_st) (defScope b6_Plan_check_file_st) .none kV doc pm an cdv ct) ⟨us, []⟩ = pure (b6_Plan_check_file_P.zip us) :=
  match us, hl with | [_, _], _ => rfl
theorem b7_Plan_column_b (kV doc pm : Value) (an : Option Addr) (cdv ct : Value) (us : List Value) (hl : us.length = b7_Plan_column_P.length) : bindArgs (PySem.W.fnOf "column" "Plan.column" (defArgs b7_Plan_column_st) (defBody b7_Plan_column_st) (defScope b7_Plan_column_st) .none kV doc pm an cdv ct) ⟨us, []⟩ = pure (b7_Plan_column_P.zip us) :=
  match us, hl with | [_, _], _ => rfl
theorem b8_Plan_version_b (kV doc pm : Value) (an : Option Addr) (cdv ct : Value) (us : List Value) (hl : us.length = b8_Plan_version_P.length) : bindArgs (PySem.W.fnOf "version" "Plan.version" (defArgs b8_Plan_version_st) (defBody b8_Plan_version_st) (defScope b8_Plan_version_st) .none kV doc pm an cdv ct) ⟨us, []⟩ = pure (b8_Plan_version_P.zip us) :=
  match us, hl with | [_, _, _], _ => rfl
theorem b9_Plan_versions_b (kV doc pm : Value) (an : Option Addr) (cdv ct : Value) (us : List Value) (hl : us.length = b9_Plan_versions_P.length) : bindArgs (PySem.W.fnOf "versions" "Plan.versions" (defArgs b9_Plan_versions_st) (defBody b9_Plan_versions_st) (defScope b9_Plan_versions_st) .none kV doc pm an cdv ct) ⟨us, []⟩ = pure (b9_Plan_versions_P.zip us) :=
  match us, hl with | [_, _], _ => rfl
theorem b10_Plan_check_order_b (kV doc pm : Value) (an : Option Addr) (cdv ct : Value) (us : List Value) (hl : us.length = b10_Plan_check_order_P.length) : bindArgs (PySem.W.fnOf "check_order" "Plan.check_order" (defArgs b10_Plan_check_order_st) (defBody b10_Plan_check_order_st) (defScope b10_Plan_check_order_st) .none kV doc pm an cdv ct) ⟨us, []⟩ = pure (b10_Plan_check_order_P.zip us) :=
  match us, hl with | [_, _], _ => rfl
theorem b11_Plan_check_mix_b (kV doc pm : Value) (an : Option Addr) (cdv ct : Value) (us : List Value) (hl : us.length = b11_Plan_check_mix_P.length) : bindArgs (PySem.W.fnOf "check_mix" "Plan.check_mix" (defArgs b11_Plan_check_mix_st) (defBody b11_Plan_check_mix_st) (defScope b11_Plan_check_mix_st) .none kV doc pm an cdv ct) ⟨us, []⟩ = pure (b11_Plan_check_mix_P.zip us) :=
  match us, hl with | [_, _, _], _ => rfl
theorem b12_version_b (kV doc pm : Value) (an : Option Addr) (cdv ct : Value) (us : List Value) (hl : us.length = b12_version_P.length) : bindArgs (PySem.W.fnOf "version" "version" (defArgs b12_version_st) (defBody b12_version_st) (defScope b12_version_st) .none kV doc pm an cdv ct) ⟨us, []⟩ = pure (b12_version_P.zip us) :=
  match us, hl with | [_, _, _], _ => rfl
theorem b13_checked_needs_b (kV doc pm : Value) (an : Option Addr) (cdv ct : Value) (us : List Value) (hl : us.length = b13_checked_needs_P.length) : bindArgs (PySem.W.fnOf "checked_needs" "checked_needs" (defArgs b13_checked_needs_st) (defBody b13_checked_needs_st) (defScope b13_checked_needs_st) .none kV doc pm an cdv ct) ⟨us, []⟩ = pure (b13_checked_needs_P.zip us) :=
  match us, hl with | [_, _], _ => rfl
theorem b14_wanted_b (kV doc pm : Value) (an : Option Addr) (cdv ct : Value) (us : List Value) (hl : us.length = b14_wanted_P.length) : bindArgs (PySem.W.fnOf "wanted" "wanted" (defArgs b14_wanted_st) (defBody b14_wanted_st) (defScope b14_wanted_st) .none kV doc pm an cdv ct) ⟨us, []⟩ = pure (b14_wanted_P.zip us) :=
  match us, hl with | [_, _, _], _ => rfl
theorem b15_is_broken_b (kV doc pm : Value) (an : Option Addr) (cdv ct : Value) (us : List Value) (hl : us.length = b15_is_broken_P.length) : bindArgs (PySem.W.fnOf "is_broken" "is_broken" (defArgs b15_is_broken_st) (defBody b15_is_broken_st) (defScope b15_is_broken_st) .none kV doc pm an cdv ct) ⟨us, []⟩ = pure (b15_is_broken_P.zip us) :=
  match us, hl with | [_, _, _, _], _ => rfl
theorem b16_broken_by_b (kV doc pm : Value) (an : Option Addr) (cdv ct : Value) (us : List Value) (hl : us.length = b16_broken_by_P.length) : bindArgs (PySem.W.fnOf "broken_by" "broken_by" (defArgs b16_broken_by_st) (defBody b16_broken_by_st) (defScope b16_broken_by_st) .none kV doc pm an cdv ct) ⟨us, []⟩ = pure (b16_broken_by_P.zip us) :=
  match us, hl with | [_, _, _, _], _ => rfl
theorem b17_breaks_b (kV doc pm : Value) (an : Option Addr) (cdv ct : Value) (us : List Value) (hl : us.length = b17_breaks_P.length) : bindArgs (PySem.W.fnOf "breaks" "breaks" (defArgs b17_breaks_st) (defBody b17_breaks_st) (defScope b17_breaks_st) .none kV doc pm an cdv ct) ⟨us, []⟩ = pure (b17_breaks_P.zip us) :=
  match us, hl with | [_, _, _, _], _ => rfl
theorem b18_bad_stops_b (kV doc pm : Value) (an : Option Addr) (cdv ct : Value) (us : List Value) (hl : us.length = b18_bad_stops_P.length) : bindArgs (PySem.W.fnOf "bad_stops" "bad_stops" (defArgs b18_bad_stops_st) (defBody b18_bad_stops_st) (defScope b18_bad_stops_st) .none kV doc pm an cdv ct) ⟨us, []⟩ = pure (b18_bad_stops_P.zip us) :=
  match us, hl with | [_, _], _ => rfl
theorem b19__law_box_b (kV doc pm : Value) (an : Option Addr) (cdv ct : Value) (us : List Value) (hl : us.length = b19__law_box_P.length) : bindArgs (PySem.W.fnOf "_law_box" "_law_box" (defArgs b19__law_box_st) (defBody b19__law_box_st) (defScope b19__law_box_st) .none kV doc pm an cdv ct) ⟨us, []⟩ = pure (b19__law_box_P.zip us) :=
  match us, hl with | [_, _], _ => rfl
theorem b20__law_take_b (kV doc pm : Value) (an : Option Addr) (cdv ct : Value) (us : List Value) (hl : us.length = b20__law_take_P.length) : bindArgs (PySem.W.fnOf "_law_take" "_law_take" (defArgs b20__law_take_st) (defBody b20__law_take_st) (defScope b20__law_take_st) .none kV doc pm an cdv ct) ⟨us, []⟩ = pure (b20__law_take_P.zip us) :=
  match us, hl with | [_, _], _ => rfl
theorem b21__law_cells_b (kV doc pm : Value) (an : Option Addr) (cdv ct : Value) (us : List Value) (hl : us.length = b21__law_cells_P.length) : bindArgs (PySem.W.fnOf "_law_cells" "_law_cells" (defArgs b21__law_cells_st) (defBody b21__law_cells_st) (defScope b21__law_cells_st) .none kV doc pm an cdv ct) ⟨us, []⟩ = pure (b21__law_cells_P.zip us) :=
  match us, hl with | [_, _], _ => rfl
theorem b22__law_of_b (kV doc pm : Value) (an : Option Addr) (cdv ct : Value) (us : List Value) (hl : us.length = b22__law_of_P.length) : bindArgs (PySem.W.fnOf "_law_of" "_law_of" (defArgs b22__law_of_st) (defBody b22__law_of_st) (defScope b22__law_of_st) .none kV doc pm an cdv ct) ⟨us, []⟩ = pure (b22__law_of_P.zip us) :=
  match us, hl with | [_, _], _ => rfl
theorem b23__law_same_b (kV doc pm : Value) (an : Option Addr) (cdv ct : Value) (us : List Value) (hl : us.length = b23__law_same_P.length) : bindArgs (PySem.W.fnOf "_law_same" "_law_same" (defArgs b23__law_same_st) (defBody b23__law_same_st) (defScope b23__law_same_st) .none kV doc pm an cdv ct) ⟨us, []⟩ = pure (b23__law_same_P.zip us) :=
  match us, hl with | [_, _], _ => rfl
theorem b24__law_pick_b (kV doc pm : Value) (an : Option Addr) (cdv ct : Value) (us : List Value) (hl : us.length = b24__law_pick_P.length) : bindArgs (PySem.W.fnOf "_law_pick" "_law_pick" (defArgs b24__law_pick_st) (defBody b24__law_pick_st) (defScope b24__law_pick_st) .none kV doc pm an cdv ct) ⟨us, []⟩ = pure (b24__law_pick_P.zip us) :=
  match us, hl with | [_, _, _], _ => rfl
theorem b25__law_files_b (kV doc pm : Value) (an : Option Addr) (cdv ct : Value) (us : List Value) (hl : us.length = b25__law_files_P.length) : bindArgs (PySem.W.fnOf "_law_files" "_law_files" (defArgs b25__law_files_st) (defBody b25__law_files_st) (defScope b25__law_files_st) .none kV doc pm an cdv ct) ⟨us, []⟩ = pure (b25__law_files_P.zip us) :=
  match us, hl with | [_, _], _ => rfl
theorem b26__law_update_b (kV doc pm : Value) (an : Option Addr) (cdv ct : Value) (us : List Value) (hl : us.length = b26__law_update_P.length) : bindArgs (PySem.W.fnOf "_law_update" "_law_update" (defArgs b26__law_update_st) (defBody b26__law_update_st) (defScope b26__law_update_st) .none kV doc pm an cdv ct) ⟨us, []⟩ = pure (b26__law_update_P.zip us) :=
  match us, hl with | [_, _, _], _ => rfl
theorem b27__law_plan_b (kV doc pm : Value) (an : Option Addr) (cdv ct : Value) (us : List Value) (hl : us.length = b27__law_plan_P.length) : bindArgs (PySem.W.fnOf "_law_plan" "_law_plan" (defArgs b27__law_plan_st) (defBody b27__law_plan_st) (defScope b27__law_plan_st) .none kV doc pm an cdv ct) ⟨us, []⟩ = pure (b27__law_plan_P.zip us) :=
  match us, hl with | [_, _, _], _ => rfl
theorem b28__law_order_b (kV doc pm : Value) (an : Option Addr) (cdv ct : Value) (us : List Value) (hl : us.length = b28__law_order_P.length) : bindArgs (PySem.W.fnOf "_law_order" "_law_order" (defArgs b28__law_order_st) (defBody b28__law_order_st) (defScope b28__law_order_st) .none kV doc pm an cdv ct) ⟨us, []⟩ = pure (b28__law_order_P.zip us) :=
  match us, hl with | [_, _, _, _], _ => rfl
theorem b29__law_all_needs_b (kV doc pm : Value) (an : Option Addr) (cdv ct : Value) (us : List Value) (hl : us.length = b29__law_all_needs_P.length) : bindArgs (PySem.W.fnOf "_law_all_needs" "_law_all_needs" (defArgs b29__law_all_needs_st) (defBody b29__law_all_needs_st) (defScope b29__law_all_needs_st) .none kV doc pm an cdv ct) ⟨us, []⟩ = pure (b29__law_all_needs_P.zip us) :=
  match us, hl with | [_], _ => rfl
theorem b30__law_right_b (kV doc pm : Value) (an : Option Addr) (cdv ct : Value) (us : List Value) (hl : us.length = b30__law_right_P.length) : bindArgs (PySem.W.fnOf "_law_right" "_law_right" (defArgs b30__law_right_st) (defBody b30__law_right_st) (defScope b30__law_right_st) .none kV doc pm an cdv ct) ⟨us, []⟩ = pure (b30__law_right_P.zip us) :=
  match us, hl with | [_], _ => rfl
theorem fin {l : PySem.W.OpenLaw} {w : World} {K : PySem.W.Frag} {h : Heap} {mg : Str → Option Value} {fa : Addr} (KX : K.In h) (G : h.Ns mainGlobals mg) (hmg : mg "law" = some (.ref fa))
  (d0 : ∃ f, mg "tupled" = some (.ref f) ∧ PySem.W.keepIn K (.ref f) = true ∧ FnD K Γ T 0 1 f)
  (d12 : ∃ f, mg "version" = some (.ref f) ∧ PySem.W.keepIn K (.ref f) = true ∧ FnD K Γ T 12 3 f)
  (d13 : ∃ f, mg "checked_needs" = some (.ref f) ∧ PySem.W.keepIn K (.ref f) = true ∧ FnD K Γ T 13 2 f)
  (d14 : ∃ f, mg "wanted" = some (.ref f) ∧ PySem.W.keepIn K (.ref f) = true ∧ FnD K Γ T 14 3 f)
  (d15 : ∃ f, mg "is_broken" = some (.ref f) ∧ PySem.W.keepIn K (.ref f) = true ∧ FnD K Γ T 15 4 f)
  (d16 : ∃ f, mg "broken_by" = some (.ref f) ∧ PySem.W.keepIn K (.ref f) = true ∧ FnD K Γ T 16 4 f)
  (d17 : ∃ f, mg "breaks" = some (.ref f) ∧ PySem.W.keepIn K (.ref f) = true ∧ FnD K Γ T 17 4 f)
  (d18 : ∃ f, mg "bad_stops" = some (.ref f) ∧ PySem.W.keepIn K (.ref f) = true ∧ FnD K Γ T 18 2 f)
  (d19 : ∃ f, mg "_law_box" = some (.ref f) ∧ PySem.W.keepIn K (.ref f) = true ∧ FnD K Γ T 19 2 f)
  (d20 : ∃ f, mg "_law_take" = some (.ref f) ∧ PySem.W.keepIn K (.ref f) = true ∧ FnD K Γ T 20 2 f)
  (d21 : ∃ f, mg "_law_cells" = some (.ref f) ∧ PySem.W.keepIn K (.ref f) = true ∧ FnD K Γ T 21 2 f)
  (d22 : ∃ f, mg "_law_of" = some (.ref f) ∧ PySem.W.keepIn K (.ref f) = true ∧ FnD K Γ T 22 2 f)
  (d23 : ∃ f, mg "_law_same" = some (.ref f) ∧ PySem.W.keepIn K (.ref f) = true ∧ FnD K Γ T 23 2 f)
  (d24 : ∃ f, mg "_law_pick" = some (.ref f) ∧ PySem.W.keepIn K (.ref f) = true ∧ FnD K Γ T 24 3 f)
  (d25 : ∃ f, mg "_law_files" = some (.ref f) ∧ PySem.W.keepIn K (.ref f) = true ∧ FnD K Γ T 25 2 f)
  (d26 : ∃ f, mg "_law_update" = some (.ref f) ∧ PySem.W.keepIn K (.ref f) = true ∧ FnD K Γ T 26 3 f)
  (d27 : ∃ f, mg "_law_plan" = some (.ref f) ∧ PySem.W.keepIn K (.ref f) = true ∧ FnD K Γ T 27 3 f)
  (d28 : ∃ f, mg "_law_order" = some (.ref f) ∧ PySem.W.keepIn K (.ref f) = true ∧ FnD K Γ T 28 4 f)
  (d29 : ∃ f, mg "_law_all_needs" = some (.ref f) ∧ PySem.W.keepIn K (.ref f) = true ∧ FnD K Γ T 29 1 f)
  (d30 : ∃ f, mg "_law_right" = some (.ref f) ∧ PySem.W.keepIn K (.ref f) = true ∧ FnD K Γ T 30 1 f)
  (c0 : ∃ C, mg "Plan" = some (.ref C) ∧ SlX.SCls K C ∧ (∃ f, L2.Mk K C f ∧ InD K Γ T 1 1 0 f) ∧ (∃ gf, L2.Meth K C "files" gf ∧ FnD K Γ T 2 1 gf) ∧ (∃ gf, L2.Meth K C "steps" gf ∧ FnD K Γ T 3 1 gf) ∧ (∃ gf, L2.Meth K C "moments" gf ∧ FnD K Γ T 4 1 gf) ∧ (∃ gf, L2.Meth K C "rows" gf ∧ FnD K Γ T 5 1 gf) ∧ (∃ gf, L2.Meth K C "check_file" gf ∧ FnD K Γ T 6 2 gf) ∧ (∃ gf, L2.Meth K C "column" gf ∧ FnD K Γ T 7 2 gf) ∧ (∃ gf, L2.Meth K C "version" gf ∧ FnD K Γ T 8 3 gf) ∧ (∃ gf, L2.Meth K C "versions" gf ∧ FnD K Γ T 9 2 gf) ∧ (∃ gf, L2.Meth K C "check_order" gf ∧ FnD K Γ T 10 2 gf) ∧ (∃ gf, L2.Meth K C "check_mix" gf ∧ FnD K Γ T 11 3 gf) ∧ (∃ p, SlX.Slot1 K C "own_files" p 0) ∧ (∃ p, SlX.Slot1 K C "own_rows" p 1) ∧ (∃ p, SlX.Slot1 K C "own_steps" p 2))
  (nb : ∀ x ∈ Γ.bls, PySem.W.nsIn K mainGlobals x = some none)
  (dl : ∃ (f : Addr) (oc : Value) (od : Option Addr) (kV doc pm : Value) (an : Option Addr) (cd ct : Value) (sl : Array (Option Value)), PySem.W.nsIn K mainGlobals "law" = some (some (.ref f)) ∧ K.lookup f = some ⟨oc, od, .func (PySem.W.fnOf "law" "law" (defArgs b31_law_st) (defBody b31_law_st) (defScope b31_law_st) .none kV doc pm an cd ct), sl⟩ ∧ PySem.W.codeIn K cd "law" = true ∧ PySem.W.keepIn K (.ref f) = true)
  (hm : ∀ ns : List Int, ns.length ≤ 63 → ∃ st', callN T 41 31 [.scr ns] [] = .ok (.val (.bl true), st')) :
  ∃ fd : FuncData, (∀ (s : Shared) (v : Value), BindsTo s fd ⟨[v], []⟩ [("_law_script", v)]) ∧ ∀ base : Heap, K.In base → base.Ns mainGlobals mg → FnOk l.prog w K mg base CX0 (2 * 40 + 2) fa fd ["_law_script"] (spL K) := by
  obtain ⟨C0, m0, s0, i1, n2, n3, n4, n5, n6, n7, n8, n9, n10, n11, f0_0, f0_1, f0_2⟩ := c0
  have tab : Tab K mg ⟨K, fun c => [C0].getD c 0⟩ Γ T := ⟨rfl, (acs d0 (acs d12 (acs d13 (acs d14 (acs d15 (acs d16 (acs d17 (acs d18 (acs d19 (acs d20 (acs d21 (acs d22 (acs d23 (acs d24 (acs d25 (acs d26 (acs d27 (acs d28 (acs d29 (acs d30 anil)))))))))))))))))))), (acs (let ⟨f, M, I⟩ := i1; ⟨f, M, m0, I⟩) anil), (acs (acs ⟨s0, n2⟩ anil) (acs (acs ⟨s0, n3⟩ anil) (acs (acs ⟨s0, n4⟩ anil) (acs (acs ⟨s0, n5⟩ anil) (acs (acs ⟨s0, n6⟩ anil) (acs (acs ⟨s0, n7⟩ anil) (acs (acs ⟨s0, n8⟩ anil) (acs (acs ⟨s0, n9⟩ anil) (acs (acs ⟨s0, n10⟩ anil) (acs (acs ⟨s0, n11⟩ anil) anil)))))))))), (acs (acs ⟨s0, f0_0⟩ anil) (acs (acs ⟨s0, f0_1⟩ anil) (acs (acs ⟨s0, f0_2⟩ anil) anil))), fun x hx => PySem.W.mg_none_of KX G (nb x hx), anil, anil⟩
  obtain ⟨f, oc, od, kV, doc, pm, an, cd, ct, sl, e1, e2, e3, e4⟩ := dl
  exact law_mk (n := 40) (st := b31_law_st) (N := b31_law_N) (i := 31) (F := b31_law) KX G hmg e1 e2 e3 e4 tab b31_law_sc (fun _ _ => .of_eq rfl) b31_law_eq rfl hm
end Lw
set_option Elab.async false
set_option maxRecDepth 100000
set_option maxHeartbeats 4000000
namespace Lw
open PySem Ev
theorem sub_all : ∀ (xs fs : List Str), xs.Nodup → (∀ x ∈ xs, x ∈ fs) → fs.length ≤ xs.length → ∀ y ∈ fs, y ∈ xs
  | [], fs, _, _, h, y, hy => by
    have : fs = [] := List.length_eq_zero_iff.mp (by simpa using h)
    rw [this] at hy
    cases hy
  | x :: l, fs, hn, hs, h, y, hy => by
    rw [List.nodup_cons] at hn
    by_cases e : y = x
    · rw [e]; simp
    · have hx : x ∈ fs := hs x (by simp)
      have hl := List.length_erase_of_mem hx
      have := sub_all l (fs.erase x) hn.2 (fun z hz => (List.mem_erase_of_ne (fun (e : z = x) => hn.1 (by rw [← e]; exact hz))).mpr (hs z (List.mem_cons_of_mem _ hz))) (by rw [hl]; simp at h; omega) y ((List.mem_erase_of_ne e).mpr hy)
      exact List.mem_cons_of_mem _ this
theorem sOk_ints (is : List Nat) (h : is.length ≤ 100000) : sOk 5 (.lst (is.map fun (m : Nat) => D.int m)) = true := by
  show (Nat.ble (is.map _).length 100000 && (is.map fun (m : Nat) => D.int m).all (sOk 4)) = true
  rw [Bool.and_eq_true, Nat.ble_eq]
  refine ⟨by simpa using h, List.all_eq_true.mpr fun x hx => ?_⟩
  obtain ⟨y, _, rfl⟩ := List.mem_map.mp hx
  rfl
theorem lens_int : ∀ us : List (List (List Str)), (us.map fun u => (u.length : Int)).sum = (lens us : Nat)
  | [] => rfl
  | u :: us => by
    rw [List.map_cons, List.sum_cons, lens_int us, show u :: us = [u] ++ us from rfl, lens_append, lens_one]
    omega
def onceM (us : List (List (List Str))) : List (List (List Str)) := us.map fun u => [sortT u.flatten]
theorem encI_eq (is : List Nat) : (is.map fun (m : Nat) => D.int m) = (is.map fun (m : Nat) => (m : Int)).map D.int := by rw [List.map_map]; rfl
theorem ones_len : ∀ us : List (List (List Str)), lens (onceM us) = us.length
  | [] => rfl
  | u :: us => by
    rw [show onceM (u :: us) = [[sortT u.flatten]] ++ onceM us from rfl, lens_append, lens_one, ones_len us]
    simp
    omega
theorem right_spec {J : Ix} {C : Cl} (hT : TakeS (C (J.fn "_law_take"))) (hF : FilesS (C (J.fn "_law_files"))) (hP : PlanDS (C (J.fn "_law_plan"))) (hO : OrderN (C (J.fn "_law_order"))) (hN : LAllNS (C (J.fn "_law_all_needs"))) (hV : VersionS (C (J.fn "version"))) (hB : BreaksS (C (J.fn "breaks"))) (hSt : BadStopsS (C (J.fn "bad_stops"))) (hS : SameS (C (J.fn "_law_same")) 5) : RightS (runF 16 (L__law_right J) C) 100000 := by
  intro st0 n m hb hm
  rw [big_eq] at hm
  have z0 : (0 : Nat) ≤ szL := by decide
  have z1 : (1 : Nat) ≤ szL := by decide
  have z2 : (2 : Nat) ≤ szL := by decide
  obtain ⟨r, st1, e1, hr0, hr1, hb1, hk1⟩ := hT st0 n m 3 hb (by rw [big_eq]; omega) (by omega) (by omega)
  obtain ⟨fs, st2, e2, hl, hfs, hb2, hk2⟩ := hF st1 n _ (2 + r) hb1 (by rw [big_eq]; omega) (by omega) (by omega)
  have hne : fs ≠ [] := fun e => by rw [e] at hl; simp at hl; omega
  obtain ⟨r2, st3, e3, hr20, hr21, hb3, hk3⟩ := hT st2 n _ 4 hb2 (by rw [big_eq]; omega) (by omega) (by omega)
  obtain ⟨us, st4, e4, hul, hus, hb4, hk4⟩ := hP st3 n _ fs (1 + r2) hb3 (by rw [big_eq]; omega) hne (by omega) (by omega) (by omega)
  obtain ⟨xs, st5, e5, hxs, hxl, hxnd, hb5, hk5⟩ := hO st4 n _ fs fs.length hb4 (by rw [big_eq]; omega) hne (by omega) (by omega) (by omega) hfs.nd
  obtain ⟨r3, st6, e6, hr30, hr31, hb6, hk6⟩ := hT st5 n _ 2 hb5 (by rw [big_eq]; omega) (by omega) (by omega)
  have hk' := ((((hk1.trans hk2).trans hk3).trans hk4).trans hk5).trans hk6
  have ha : AskP st6 n m fs us 2 4 1 4 30000 st0 := ⟨hfs, by omega, by omega, hus, by omega, by omega, hb6.mono (by omega), hk'⟩
  have hok := ha.ok (by omega) (by omega)
  have hsh := ha.sh (by omega)
  have hu4 : us.length ≤ 4 := by omega
  have hf4 : fs.length ≤ 4 := by omega
  have hall := sub_all xs fs hxnd hxs (by omega)
  have c1 := hN st5 fs (by omega)
  obtain ⟨k, rfl⟩ : ∃ k : Nat, r3 = k := ⟨r3.toNat, by omega⟩
  obtain ⟨ps, hps⟩ : ∃ ps, ps = ((allN fs).drop k).take 8 := ⟨_, rfl⟩
  have hsub : ∀ p ∈ ps, p.1 ∈ fs ∧ p.2 ∈ fs := fun p hp => by
    rw [hps] at hp
    have := mem_allN.mp (List.mem_of_mem_drop (List.mem_of_mem_take hp))
    exact ⟨this.1, this.2.1⟩
  have hsub2 : ∀ p ∈ ps, p.1 ∈ xs ∧ p.2 ∈ xs := fun p hp => ⟨hall _ (hsub p hp).1, hall _ (hsub p hp).2⟩
  have hpl : ps.length ≤ 8 := by rw [hps, List.length_take]; omega
  have hsl1 : cutD ((allN fs).map encN) (some (k : Int)) none = ((allN fs).map encN).drop k := by rw [cut_drop]
  have hsl2 : cutD (((allN fs).map encN).drop k) none (some 8) = ps.map encN := by
    rw [hps, ← List.map_drop, show ∀ xs : List D, cutD xs none (some 8) = xs.take 8 from fun xs => cut_take xs 8, List.map_take]
  have hsh0 : ∀ l : List (Str × Str), sHd (l.map encN) = false := fun l => by cases l <;> rfl
  have hsh3 : sHd (((allN fs).map encN).drop k) = false := by rw [← List.map_drop]; exact hsh0 _
  have gs : gSum st6 [D.lst (us.map fun u => D.int (u.length : Nat))] = .ok (.val (.int (lens us))) := by rw [show (us.map fun u => D.int (u.length : Nat)) = (us.map fun u => (u.length : Int)).map D.int by rw [List.map_map]; rfl, g_sum, lens_int]
  have hst := hSt st6 (TP fs us) (TN ps) fs us ps (isPl_TP hok) hok hsh (isNd_TN (by omega)) hsub (by omega) (by omega)
  have hsl : (stopsM us ps).length ≤ 63 := by
    unfold stopsM
    have := List.length_filter_le (badAt us ps) (List.range ((stepsOf 1 us).length + 1))
    rw [List.length_range] at this
    omega
  have s1 := hS st6 (.lst ((stopsM us ps).map fun (m : Nat) => D.int m)) (sOk_ints _ (by omega))
  have hends : ∀ j, badAt us ps (endM us j) = false := fun j => bad_end
  have hflat : ∀ u ∈ us, u.flatten.length ≤ 4 := fun u hu => by
    have := nd_len ((hus u hu).nd hfs.nd) (t := fs) fun x hx => by
      obtain ⟨s, hs, hx⟩ := List.mem_flatten.mp hx
      exact (hus u hu).sub s hs x hx
    omega
  have hokO : PlOk fs (onceM us) := ⟨hok.fl, by simp [onceM]; omega, fun u hu => by
    obtain ⟨v, _, rfl⟩ := List.mem_map.mp hu
    simp, fun u hu s hs => by
    obtain ⟨v, hv, rfl⟩ := List.mem_map.mp hu
    rw [List.mem_singleton.mp hs, (sortT_perm _).length_eq]
    have := hflat v hv
    omega⟩
  have hshO : (stepsOf 1 (onceM us)).length < 63 := by
    rw [steps_lens]
    have : lens (onceM us) = us.length := by
      exact ones_len us
    omega
  have hstO := hSt st6 (TP fs (onceM us)) (TN ps) fs (onceM us) ps (isPl_TP hokO) hokO hshO (isNd_TN (by omega)) hsub (by omega) (by omega)
  rw [stops_ones (fun u hu => by
    obtain ⟨v, _, rfl⟩ := List.mem_map.mp hu
    simp)] at hstO
  refine ⟨st6, run_eq ?_, ha.bx.mono (by omega), ha.kp⟩
  have hrL : okR ((lens us : Int) + 1) = true := by
    rw [show (lens us : Int) + 1 = ((lens us + 1 : Nat) : Int) by omega]
    refine okR_nat ?_
    have := steps_lens us
    omega
  have hask : ∀ m, m ≤ (stepsOf 1 us).length → Asked (TP fs us) (TS xs) (TI (xs.map fun x => vz us (x, m))) fs us xs (xs.map fun x => vz us (x, m)) := fun m hm => ⟨isPl_TP hok, hok, hsh, isTS_TS (by omega), isTI_TI (by simp; omega), hxs, by simp, by omega, fun p hp => by
    have hz : xs.zip (xs.map fun x => vz us (x, m)) = xs.map fun x => (x, vz us (x, m)) := by
      have := List.zip_map' (f := fun x : Str => x) (g := fun x => vz us (x, m)) (l := xs)
      rw [List.map_id'] at this
      exact this
    rw [hz] at hp
    obtain ⟨x, _, rfl⟩ := List.mem_map.mp hp
    exact List.mem_of_getElem? (vz_at (us := us) (z := (x, m)) (by show m ≤ _; omega))⟩
  have hnd : Needed (TP fs us) (TS xs) (TN ps) fs us xs ps := ⟨isPl_TP hok, hok, hsh, isTS_TS (by omega), hxs, by omega, isNd_TN (by omega), hsub, by omega⟩
  unfold L__law_right
  refine seq_eq (by simp [e1, e2] <;> rfl) ?_
  refine seq_eq (by simp [e3, e4] <;> rfl) ?_
  refine seq_eq (by simp [e5] <;> rfl) ?_
  refine seq_eq (by simp [c1, e6, TN, hsl1, hsl2, hsh0, hsh3] <;> rfl) ?_
  apply seq_eq
  · rw [Res.eq_sat]
    simp [Res.sat_bind, z1]
    refine lc_mapT us TU (fun u => .int u.length) (by simp) (by rw [szL_val]; omega) (by simp) ?_ ?_
    · intro u hu
      simp
    · simp [Res.sat_ok, Res.sat_bind, gs]
      rfl
  refine seq_eq (forF_pre us TU (fun p => [(5, .val (.int (lens p))), (6, .own ((List.range (p.length + 1)).map fun j => D.int (endM us j)))]) (by simp <;> rfl) (by simp [lens, endM]) ?_) ?_
  · rintro p u q hpq
    have h1 : lens (p ++ [u]) = endM us (p.length + 1) := by
      unfold endM
      rw [hpq, show p ++ u :: q = (p ++ [u]) ++ q by simp, List.take_left' (by simp)]
    have hz : p.length + 1 < szL := by
      have := congrArg List.length hpq
      simp at this
      rw [szL_val]
      omega
    have h2 : (lens p : Int) + (u.length : Int) = (endM us (p.length + 1) : Nat) := by
      rw [← h1, lens_append, lens_one]
      omega
    refine turn_eq (by simp <;> rfl) ?_
    refine seq_eq (by simp [h2] <;> rfl) ?_
    simp [Res.sat_ok, hz, h1, List.range_succ (n := p.length + 1)]
  refine seq_eq (by simp [z0] <;> rfl) ?_
  refine seq_eq (forF_pre (List.range (lens us + 1)) (fun (k : Nat) => D.int (0 + k)) (fun p => [(9, .own ((((List.range p.length).filter (badAt us ps)).map fun (m : Nat) => D.int m)))]) (by simp [rngL_map, hrL] <;> rfl) (by simp) ?_) ?_
  · rintro p k q hpq
    obtain ⟨rfl, hlt⟩ := p_range_at hpq
    have hmL : p.length ≤ (stepsOf 1 us).length := by rw [steps_lens]; omega
    have hz : ((List.range p.length).filter (badAt us ps)).length < szL := by
      have := List.length_filter_le (badAt us ps) (List.range p.length)
      rw [List.length_range] at this
      rw [szL_val]
      omega
    have hb1 := hB st6 _ _ _ _ fs us xs (xs.map fun x => vz us (x, p.length)) ps (hask p.length hmL) (hnd)
    rw [brk_all hsub2] at hb1
    have hbp := badAt_pos (us := us) (ps := ps) (m := p.length)
    have hfs : (List.range (p.length + 1)).filter (badAt us ps) = (List.range p.length).filter (badAt us ps) ++ if badAt us ps p.length then [p.length] else [] := by
      rw [List.range_succ, List.filter_append]
      cases h : badAt us ps p.length <;> simp [h]
    refine turn_eq (by simp <;> rfl) ?_
    apply seq_eq
    · rw [Res.eq_sat]
      simp [Res.sat_bind]
      refine lc_mapT xs D.str (fun x => .int (vz us (x, p.length))) (by simp) (by rw [szL_val]; omega) (by simp) ?_ ?_
      · intro x hx
        have := hV st6 (TP fs us) fs us x p.length (isPl_TP hok) hok (hxs x hx) hmL
        simp [this]
        rfl
      · have gt : gTuple st6 [.lst (xs.map fun x => D.int (vz us (x, p.length)))] = .ok (.val (TI (xs.map fun x => vz us (x, p.length)))) := by
          have e : (xs.map fun x => D.int (vz us (x, p.length))) = (xs.map fun x => vz us (x, p.length)).map D.int := by rw [List.map_map]; rfl
          have hzx : (xs.map fun x => vz us (x, p.length)).length ≤ szL := by rw [szL_val, List.length_map]; omega
          rw [e]
          generalize (xs.map fun x => vz us (x, p.length)) = vs at hzx
          simp [hzx, fold_TI]
        simp [Res.sat_ok, Res.sat_bind, gt]
        rfl
    simp only [List.length_append, List.length_singleton]
    rw [hfs]
    cases h : badAt us ps p.length with
    | false =>
      rw [h] at hbp
      have hnil : ps.filter (fun nd => decide (OldAt us nd.1 nd.2 p.length p.length)) = [] := by
        have := of_decide_eq_false hbp
        exact List.length_eq_zero_iff.mp (by omega)
      rw [hnil] at hb1
      simp at hb1
      simp [TN] at hb1
      refine seq_eq (by simp [hb1, g_nn] <;> rfl) ?_
      simp [Res.sat_ok]
    | true =>
      rw [h] at hbp
      have hpos := of_decide_eq_true hbp
      obtain ⟨l0, L, hL⟩ : ∃ l0 L, ps.filter (fun nd => decide (OldAt us nd.1 nd.2 p.length p.length)) = l0 :: L := by
        cases e : ps.filter (fun nd => decide (OldAt us nd.1 nd.2 p.length p.length)) with
        | nil => rw [e] at hpos; simp at hpos
        | cons a l => exact ⟨a, l, rfl⟩
      rw [hL] at hb1
      have q1 : gEq true st6 [.lst ((l0 :: L).map encN), .lst []] = .ok (.val (.bl true)) := g_eqcn (List.all_eq_true.mpr fun x hx => by
        obtain ⟨y, _, rfl⟩ := List.mem_map.mp (show x ∈ (l0 :: L).map encN from hx)
        rfl)
      simp at hb1 q1
      simp [TN] at hb1
      refine seq_eq (by simp [hb1, q1, hz] <;> rfl) ?_
      simp [Res.sat_ok]
  have hrng : (List.range (lens us + 1)).filter (badAt us ps) = stopsM us ps := by
    unfold stopsM
    rw [steps_lens]
  rw [List.length_range, hrng]
  have hin : ∀ j, gIn false st6 [.int (endM us j : Nat), .lst ((stopsM us ps).map fun (m : Nat) => D.int m)] = .ok (.val (.bl false)) := fun j => by
    rw [encI_eq, g_inL eqE_int (by omega)]
    have : ((endM us j : Nat) : Int) ∉ (stopsM us ps).map fun (m : Nat) => (m : Int) := fun h => by
      obtain ⟨m, hm, e⟩ := List.mem_map.mp h
      have e : m = endM us j := by omega
      rw [e] at hm
      have := (List.mem_filter.mp hm).2
      rw [hends] at this
      cases this
    simp [this]
  have hst' := hst
  simp [TN] at hst'
  apply seq_eq
  · rw [Res.eq_sat]
    simp [Res.sat_bind]
    refine lc_filterU (List.range (us.length + 1)) (fun (j : Nat) => D.int (endM us j)) (fun _ => false) (fun (j : Nat) => D.int (endM us j)) (by simp <;> rfl) (by rw [szL_val, List.length_range]; omega) (by simp) ?_ ?_
    · intro j hj
      simp [hin]
    · simp [Res.sat_ok, Res.sat_bind, hff, g_nn, hst', s1]
      rfl
  refine seq_eq (by simp [z0] <;> rfl) ?_
  refine seq_eq (forF_pre us TU (fun p => [(13, .own ((onceM p).map TU))]) (by simp <;> rfl) (by simp [onceM]) ?_) ?_
  · rintro p u q hpq
    have huf := hflat u (by rw [hpq]; simp)
    have hpz : (onceM p).length < szL := by
      have := congrArg List.length hpq
      simp [onceM] at this ⊢
      rw [szL_val]
      omega
    refine turn_eq (by simp <;> rfl) ?_
    refine seq_eq (by simp [z0] <;> rfl) ?_
    refine seq_eq (forF_pre u TS (fun r => [(14, .val (TS r.flatten))]) (by simp <;> rfl) rfl ?_) ?_
    · rintro r s r2 hr
      have hl2 : r.flatten.length + s.length ≤ szL := by
        rw [hr] at huf
        simp only [List.flatten_append, List.flatten_cons, List.length_append] at huf
        rw [szL_val]
        omega
      refine turn_eq (by simp <;> rfl) ?_
      refine seq_eq (by simp [g_addTS hl2] <;> rfl) ?_
      simp [Res.sat_ok]
    have g1 := g_sortTS (st := st6) (ss := u.flatten) (by rw [szL_val]; omega)
    have g2 : gTuple st6 [.lst ((sortT u.flatten).map .str)] = .ok (.val (TS (sortT u.flatten))) := by
      have : (sortT u.flatten).length ≤ szL := by rw [(sortT_perm _).length_eq, szL_val]; omega
      unfold TS
      simp [this]
    have g3 : ∀ l : List Str, D.tup false [TS l] = TU [l] := fun _ => rfl
    have g4 : ∀ l : List Str, sHd [TS l] = false := fun _ => rfl
    have g5 : onceM (p ++ [u]) = onceM p ++ [[sortT u.flatten]] := by simp [onceM]
    refine seq_eq (by simp [g1, g2, g3, g4, z1, hpz] <;> rfl) ?_
    rw [g5]
    simp [Res.sat_ok]
  have tpl : D.tup false [TS fs, .tup false ((onceM us).map TU)] = TP fs (onceM us) := rfl
  have hd1 : sHd ((onceM us).map TU) = false := by cases us <;> rfl
  have hd2 : ∀ d, sHd [TS fs, d] = false := fun _ => rfl
  have hz1 : (onceM us).length ≤ szL := by rw [szL_val]; simp [onceM]; omega
  refine seq_eq (by simp [hz1, hd1, hd2, tpl, z2] <;> rfl) ?_
  simp [TN] at hstO
  simp [hstO, g_nn, Res.sat_ok, Res.sat_bind]
theorem jPlan : PlanJ J := ⟨by decide +kernel, by decide +kernel, by decide +kernel⟩
theorem h__law_cells (n : Nat) : CellsS (callN T (n + 1) (J.fn "_law_cells")) := by
  rw [show J.fn "_law_cells" = 21 by decide +kernel, callN_s (f := runF 6 (B__law_cells J)) rfl]
  exact cells_spec J _
theorem h__law_box (n : Nat) : BoxS (callN T (n + 1) (J.fn "_law_box")) := by
  rw [show J.fn "_law_box" = 19 by decide +kernel, callN_s (f := runF 3 (B__law_box J)) rfl]
  exact box_spec J _
theorem h__law_take (n : Nat) : TakeS (callN T (n + 1) (J.fn "_law_take")) := by
  rw [show J.fn "_law_take" = 20 by decide +kernel, callN_s (f := runF 6 (B__law_take J)) rfl]
  exact take_spec J _
theorem h__law_pick (n : Nat) : PickS (callN T (n + 2) (J.fn "_law_pick")) := by
  rw [show J.fn "_law_pick" = 24 by decide +kernel, callN_s (f := runF 6 (B__law_pick J)) rfl]
  exact pick_spec (h__law_take (n + 0))
theorem h__law_files (n : Nat) : FilesS (callN T (n + 3) (J.fn "_law_files")) := by
  rw [show J.fn "_law_files" = 25 by decide +kernel, callN_s (f := runF 2 (B__law_files J)) rfl]
  exact files_spec (h__law_pick (n + 0))
theorem h__law_of (n : Nat) : OfS (callN T (n + 2) (J.fn "_law_of")) := by
  rw [show J.fn "_law_of" = 22 by decide +kernel, callN_s (f := runF 2 (B__law_of J)) rfl]
  exact of_spec (h__law_take (n + 0))
theorem h__law_update (n : Nat) : UpdS (callN T (n + 3) (J.fn "_law_update")) := by
  rw [show J.fn "_law_update" = 26 by decide +kernel, callN_s (f := runF 6 (B__law_update J)) rfl]
  exact upd_spec (h__law_take (n + 1)) (h__law_pick (n + 0)) (h__law_of (n + 0))
theorem h__law_plan (n : Nat) : PlanDS (callN T (n + 4) (J.fn "_law_plan")) := by
  rw [show J.fn "_law_plan" = 27 by decide +kernel, callN_s (f := runF 4 (B__law_plan J)) rfl]
  exact plan_spec (h__law_take (n + 2)) (h__law_update (n + 0))
theorem h__law_order (n : Nat) : OrderN (callN T (n + 3) (J.fn "_law_order")) := by
  rw [show J.fn "_law_order" = 28 by decide +kernel, callN_s (f := runF 5 (B__law_order J)) rfl]
  exact orderN_spec (h__law_pick (n + 0))
theorem h__law_all_needs (n : Nat) : LAllNS (callN T (n + 1) (J.fn "_law_all_needs")) := by
  rw [show J.fn "_law_all_needs" = 29 by decide +kernel, callN_s (f := runF 4 (B__law_all_needs J)) rfl]
  exact lallN_spec 
theorem h_tupled0 : ∀ n m, m < n → TupledS (callN T n (J.fn "tupled")) m := by
  intro n
  induction n with
  | zero => intro m h; omega
  | succ n ih =>
    intro m h
    rw [show J.fn "tupled" = 0 by decide +kernel, callN_s (f := runF 2 (B_tupled J)) rfl]
    exact tupled_step fun k hk => ih k (by omega)
theorem h_tupled (n : Nat) : TupledS (callN T (n + 6) (J.fn "tupled")) 5 := h_tupled0 _ _ (by omega)
theorem h_Plan (n : Nat) : PlanInitS J (callN T (n + 7) (J.fn "Plan")) := by
  rw [show J.fn "Plan" = 1 by decide +kernel, callN_s (f := runI 0 3 10 (B_Plan___init__ J)) rfl]
  exact planInit_spec (h_tupled (n + 0))
theorem h_Plan_check_file (n : Nat) : PCheckFileS J (callN T (n + 1) (J.fn "Plan.check_file")) := by
  rw [show J.fn "Plan.check_file" = 6 by decide +kernel, callN_s (f := runF 2 (B_Plan_check_file J)) rfl]
  exact pCheckFile_spec jPlan
theorem h_Plan_column (n : Nat) : PColumnS J (callN T (n + 2) (J.fn "Plan.column")) := by
  rw [show J.fn "Plan.column" = 7 by decide +kernel, callN_s (f := runF 4 (B_Plan_column J)) rfl]
  exact pColumn_spec jPlan (by decide +kernel) (h_Plan_check_file (n + 0))
theorem h_Plan_version (n : Nat) : PVersionS J (callN T (n + 3) (J.fn "Plan.version")) := by
  rw [show J.fn "Plan.version" = 8 by decide +kernel, callN_s (f := runF 4 (B_Plan_version J)) rfl]
  exact pVersion_spec (by decide +kernel) (h_Plan_column (n + 0))
theorem h_version (n : Nat) : VersionS (callN T (n + 8) (J.fn "version")) := by
  rw [show J.fn "version" = 12 by decide +kernel, callN_s (f := runF 3 (B_version J)) rfl]
  exact version_spec (by decide +kernel) (h_Plan (n + 0)) (h_Plan_version (n + 4))
theorem h_Plan_check_order (n : Nat) : PCheckOrderS J (callN T (n + 7) (J.fn "Plan.check_order")) := by
  rw [show J.fn "Plan.check_order" = 10 by decide +kernel, callN_s (f := runF 4 (B_Plan_check_order J)) rfl]
  exact pCheckOrder_spec (h_tupled (n + 0)) (by decide +kernel) (h_Plan_check_file (n + 5))
theorem h_checked_needs (n : Nat) : ChkNeedsS J (callN T (n + 8) (J.fn "checked_needs")) := by
  rw [show J.fn "checked_needs" = 13 by decide +kernel, callN_s (f := runF 4 (B_checked_needs J)) rfl]
  exact chkNeeds_spec (h_tupled (n + 1)) (by decide +kernel) (h_Plan_check_order (n + 0))
theorem h_Plan_versions (n : Nat) : PVersionsS J (callN T (n + 3) (J.fn "Plan.versions")) := by
  rw [show J.fn "Plan.versions" = 9 by decide +kernel, callN_s (f := runF 2 (B_Plan_versions J)) rfl]
  exact pVersions_spec (by decide +kernel) (h_Plan_column (n + 0))
theorem h_Plan_check_mix (n : Nat) : PCheckMixS J (callN T (n + 7) (J.fn "Plan.check_mix")) := by
  rw [show J.fn "Plan.check_mix" = 11 by decide +kernel, callN_s (f := runF 6 (B_Plan_check_mix J)) rfl]
  exact pCheckMix_spec (h_tupled (n + 0)) (by decide +kernel) (h_Plan_versions (n + 3))
theorem h_wanted (n : Nat) : WantedS J (callN T (n + 4) (J.fn "wanted")) := by
  rw [show J.fn "wanted" = 14 by decide +kernel, callN_s (f := runF 4 (B_wanted J)) rfl]
  exact wanted_spec (by decide +kernel) (h_Plan_versions (n + 0))
theorem h_is_broken (n : Nat) : IsBrkS J (callN T (n + 5) (J.fn "is_broken")) := by
  rw [show J.fn "is_broken" = 15 by decide +kernel, callN_s (f := runF 11 (B_is_broken J)) rfl]
  exact isBrk_spec (h_wanted (n + 0))
theorem h_broken_by (n : Nat) : BrkByS J (callN T (n + 6) (J.fn "broken_by")) := by
  rw [show J.fn "broken_by" = 16 by decide +kernel, callN_s (f := runF 5 (B_broken_by J)) rfl]
  exact brkBy_spec (h_is_broken (n + 0))
theorem h_breaks (n : Nat) : BreaksS (callN T (n + 9) (J.fn "breaks")) := by
  rw [show J.fn "breaks" = 17 by decide +kernel, callN_s (f := runF 7 (B_breaks J)) rfl]
  exact breaks_spec (h_Plan (n + 1)) (by decide +kernel) (h_Plan_check_order (n + 1)) (h_checked_needs (n + 0)) (by decide +kernel) (h_Plan_check_mix (n + 1)) (h_broken_by (n + 2))
theorem h_Plan_rows (n : Nat) : PRowsS J (callN T (n + 1) (J.fn "Plan.rows")) := by
  rw [show J.fn "Plan.rows" = 5 by decide +kernel, callN_s (f := runF 1 (B_Plan_rows J)) rfl]
  exact pRows_spec jPlan
theorem h_Plan_files (n : Nat) : PFilesS J (callN T (n + 1) (J.fn "Plan.files")) := by
  rw [show J.fn "Plan.files" = 2 by decide +kernel, callN_s (f := runF 1 (B_Plan_files J)) rfl]
  exact pFiles_spec jPlan
theorem h_bad_stops (n : Nat) : BadStopsS (callN T (n + 10) (J.fn "bad_stops")) := by
  rw [show J.fn "bad_stops" = 18 by decide +kernel, callN_s (f := runF 6 (B_bad_stops J)) rfl]
  exact badStops_spec (h_Plan (n + 2)) (by decide +kernel) (h_Plan_rows (n + 8)) (by decide +kernel) (h_Plan_files (n + 8)) (h_breaks (n + 0))
theorem h__law_same0 : ∀ n m, m < n → SameS (callN T n (J.fn "_law_same")) m := by
  intro n
  induction n with
  | zero => intro m h; omega
  | succ n ih =>
    intro m h
    rw [show J.fn "_law_same" = 23 by decide +kernel, callN_s (f := runF 5 (B__law_same J)) rfl]
    exact same_step fun k hk => ih k (by omega)
theorem h__law_same (n : Nat) : SameS (callN T (n + 6) (J.fn "_law_same")) 5 := h__law_same0 _ _ (by omega)
theorem h__law_right (n : Nat) : RightS (callN T (n + 11) (J.fn "_law_right")) 100000 := by
  rw [show J.fn "_law_right" = 30 by decide +kernel, callN_s (f := runF 16 (L__law_right J)) rfl]
  exact right_spec (h__law_take (n + 9)) (h__law_files (n + 7)) (h__law_plan (n + 6)) (h__law_order (n + 7)) (h__law_all_needs (n + 9)) (h_version (n + 2)) (h_breaks (n + 1)) (h_bad_stops (n + 0)) (h__law_same (n + 4))
theorem math : ∀ ns : List Int, ns.length ≤ 63 → ∃ st', callN T 41 31 [.scr ns] [] = .ok (.val (.bl true), st') := by
  intro ns hn
  rw [callN_s (f := runF 5 (B_law_h32c8 J)) rfl]
  exact lawC_ok (K := 2) (m := 12) (h__law_cells 39) (h__law_box 39) (h__law_right 29) (by decide) (by decide) (by decide) (by decide) (by decide) (by decide) ns hn
end Lw
set_option maxRecDepth 100000
open PySem PySem.W PyProof.Rows in
set_option maxRecDepth 100000 in
set_option maxHeartbeats 0 in
theorem PySem.Challenge.cw_mixreads_k63_whole_ends_of_updates_do_no_holds : PySem.Challenge.rw_mixreads_k63_whole_ends_of_updates_do_no.Holds := by
  w_on; o_law; k_head; (case hw => w_witness2)
  k_fill
  refine Ev.walk_mk (l := PySem.Challenge.rw_mixreads_k63_whole_ends_of_updates_do_no) (n := 40) (y := "_law_script") rfl rfl ⟨rfl, by decide, by decide⟩ (fun w h Y => PySem.W.kIn_of Y) ?F
  case F =>
    intro w mg fa h KX G hmg
    refine' Lw.fin KX G hmg ?d0 ?d12 ?d13 ?d14 ?d15 ?d16 ?d17 ?d18 ?d19 ?d20 ?d21 ?d22 ?d23 ?d24 ?d25 ?d26 ?d27 ?d28 ?d29 ?d30 ?c0 ?nb ?dl Lw.math
    case d0 =>
      refine' Ev.fnD_mk (st := Lw.b0_tupled_st) (N := Lw.b0_tupled_N) (ps := Lw.b0_tupled_P) KX G ?a ?l ?c ?k Lw.b0_tupled_sc Lw.b0_tupled_b Lw.b0_tupled_eq rfl rfl
      (case a => k_is)
      (case l => k_is)
      (case c => k_is)
      (case k => k_is)
    case d12 =>
      refine' Ev.fnD_mk (st := Lw.b12_version_st) (N := Lw.b12_version_N) (ps := Lw.b12_version_P) KX G ?a ?l ?c ?k Lw.b12_version_sc Lw.b12_version_b Lw.b12_version_eq rfl rfl
      (case a => k_is)
      (case l => k_is)
      (case c => k_is)
      (case k => k_is)
    case d13 =>
      refine' Ev.fnD_mk (st := Lw.b13_checked_needs_st) (N := Lw.b13_checked_needs_N) (ps := Lw.b13_checked_needs_P) KX G ?a ?l ?c ?k Lw.b13_checked_needs_sc Lw.b13_checked_needs_b Lw.b13_checked_needs_eq rfl rfl
      (case a => k_is)
      (case l => k_is)
      (case c => k_is)
      (case k => k_is)
    case d14 =>
      refine' Ev.fnD_mk (st := Lw.b14_wanted_st) (N := Lw.b14_wanted_N) (ps := Lw.b14_wanted_P) KX G ?a ?l ?c ?k Lw.b14_wanted_sc Lw.b14_wanted_b Lw.b14_wanted_eq rfl rfl
      (case a => k_is)
      (case l => k_is)
      (case c => k_is)
      (case k => k_is)
    case d15 =>
      refine' Ev.fnD_mk (st := Lw.b15_is_broken_st) (N := Lw.b15_is_broken_N) (ps := Lw.b15_is_broken_P) KX G ?a ?l ?c ?k Lw.b15_is_broken_sc Lw.b15_is_broken_b Lw.b15_is_broken_eq rfl rfl
      (case a => k_is)
      (case l => k_is)
      (case c => k_is)
      (case k => k_is)
    case d16 =>
      refine' Ev.fnD_mk (st := Lw.b16_broken_by_st) (N := Lw.b16_broken_by_N) (ps := Lw.b16_broken_by_P) KX G ?a ?l ?c ?k Lw.b16_broken_by_sc Lw.b16_broken_by_b Lw.b16_broken_by_eq rfl rfl
      (case a => k_is)
      (case l => k_is)
      (case c => k_is)
      (case k => k_is)
    case d17 =>
      refine' Ev.fnD_mk (st := Lw.b17_breaks_st) (N := Lw.b17_breaks_N) (ps := Lw.b17_breaks_P) KX G ?a ?l ?c ?k Lw.b17_breaks_sc Lw.b17_breaks_b Lw.b17_breaks_eq rfl rfl
      (case a => k_is)
      (case l => k_is)
      (case c => k_is)
      (case k => k_is)
    case d18 =>
      refine' Ev.fnD_mk (st := Lw.b18_bad_stops_st) (N := Lw.b18_bad_stops_N) (ps := Lw.b18_bad_stops_P) KX G ?a ?l ?c ?k Lw.b18_bad_stops_sc Lw.b18_bad_stops_b Lw.b18_bad_stops_eq rfl rfl
      (case a => k_is)
      (case l => k_is)
      (case c => k_is)
      (case k => k_is)
    case d19 =>
      refine' Ev.fnD_mk (st := Lw.b19__law_box_st) (N := Lw.b19__law_box_N) (ps := Lw.b19__law_box_P) KX G ?a ?l ?c ?k Lw.b19__law_box_sc Lw.b19__law_box_b Lw.b19__law_box_eq rfl rfl
      (case a => k_is)
      (case l => k_is)
      (case c => k_is)
      (case k => k_is)
    case d20 =>
      refine' Ev.fnD_mk (st := Lw.b20__law_take_st) (N := Lw.b20__law_take_N) (ps := Lw.b20__law_take_P) KX G ?a ?l ?c ?k Lw.b20__law_take_sc Lw.b20__law_take_b Lw.b20__law_take_eq rfl rfl
      (case a => k_is)
      (case l => k_is)
      (case c => k_is)
      (case k => k_is)
    case d21 =>
      refine' Ev.fnD_mk (st := Lw.b21__law_cells_st) (N := Lw.b21__law_cells_N) (ps := Lw.b21__law_cells_P) KX G ?a ?l ?c ?k Lw.b21__law_cells_sc Lw.b21__law_cells_b Lw.b21__law_cells_eq rfl rfl
      (case a => k_is)
      (case l => k_is)
      (case c => k_is)
      (case k => k_is)
    case d22 =>
      refine' Ev.fnD_mk (st := Lw.b22__law_of_st) (N := Lw.b22__law_of_N) (ps := Lw.b22__law_of_P) KX G ?a ?l ?c ?k Lw.b22__law_of_sc Lw.b22__law_of_b Lw.b22__law_of_eq rfl rfl
      (case a => k_is)
      (case l => k_is)
      (case c => k_is)
      (case k => k_is)
    case d23 =>
      refine' Ev.fnD_mk (st := Lw.b23__law_same_st) (N := Lw.b23__law_same_N) (ps := Lw.b23__law_same_P) KX G ?a ?l ?c ?k Lw.b23__law_same_sc Lw.b23__law_same_b Lw.b23__law_same_eq rfl rfl
      (case a => k_is)
      (case l => k_is)
      (case c => k_is)
      (case k => k_is)
    case d24 =>
      refine' Ev.fnD_mk (st := Lw.b24__law_pick_st) (N := Lw.b24__law_pick_N) (ps := Lw.b24__law_pick_P) KX G ?a ?l ?c ?k Lw.b24__law_pick_sc Lw.b24__law_pick_b Lw.b24__law_pick_eq rfl rfl
      (case a => k_is)
      (case l => k_is)
      (case c => k_is)
      (case k => k_is)
    case d25 =>
      refine' Ev.fnD_mk (st := Lw.b25__law_files_st) (N := Lw.b25__law_files_N) (ps := Lw.b25__law_files_P) KX G ?a ?l ?c ?k Lw.b25__law_files_sc Lw.b25__law_files_b Lw.b25__law_files_eq rfl rfl
      (case a => k_is)
      (case l => k_is)
      (case c => k_is)
      (case k => k_is)
    case d26 =>
      refine' Ev.fnD_mk (st := Lw.b26__law_update_st) (N := Lw.b26__law_update_N) (ps := Lw.b26__law_update_P) KX G ?a ?l ?c ?k Lw.b26__law_update_sc Lw.b26__law_update_b Lw.b26__law_update_eq rfl rfl
      (case a => k_is)
      (case l => k_is)
      (case c => k_is)
      (case k => k_is)
    case d27 =>
      refine' Ev.fnD_mk (st := Lw.b27__law_plan_st) (N := Lw.b27__law_plan_N) (ps := Lw.b27__law_plan_P) KX G ?a ?l ?c ?k Lw.b27__law_plan_sc Lw.b27__law_plan_b Lw.b27__law_plan_eq rfl rfl
      (case a => k_is)
      (case l => k_is)
      (case c => k_is)
      (case k => k_is)
    case d28 =>
      refine' Ev.fnD_mk (st := Lw.b28__law_order_st) (N := Lw.b28__law_order_N) (ps := Lw.b28__law_order_P) KX G ?a ?l ?c ?k Lw.b28__law_order_sc Lw.b28__law_order_b Lw.b28__law_order_eq rfl rfl
      (case a => k_is)
      (case l => k_is)
      (case c => k_is)
      (case k => k_is)
    case d29 =>
      refine' Ev.fnD_mk (st := Lw.b29__law_all_needs_st) (N := Lw.b29__law_all_needs_N) (ps := Lw.b29__law_all_needs_P) KX G ?a ?l ?c ?k Lw.b29__law_all_needs_sc Lw.b29__law_all_needs_b Lw.b29__law_all_needs_eq rfl rfl
      (case a => k_is)
      (case l => k_is)
      (case c => k_is)
      (case k => k_is)
    case d30 =>
      refine' Ev.fnD_mk (st := Lw.b30__law_right_st) (N := Lw.b30__law_right_N) (ps := Lw.b30__law_right_P) KX G ?a ?l ?c ?k Lw.b30__law_right_sc Lw.b30__law_right_b Lw.b30__law_right_eq rfl rfl
      (case a => k_is)
      (case l => k_is)
      (case c => k_is)
      (case k => k_is)
    case c0 =>
      refine' Ev.ex_mk ⟨PySem.W.mg_of KX G ?A, Ev.sc_mk ?pg ?ic ?po ?sa, Ev.inD_mk (st := Lw.b1_Plan___init___st) (N := Lw.b1_Plan___init___N) (ps := Lw.b1_Plan___init___P) (nf := 3) ?ia ?ii ?im ?ik ?il ?ic2 ?ik2 Lw.b1_Plan___init___sc Lw.b1_Plan___init___b Lw.b1_Plan___init___eq rfl rfl, Ev.mtD_mk (st := Lw.b2_Plan_files_st) (N := Lw.b2_Plan_files_N) (ps := Lw.b2_Plan_files_P) ?ma2 ?mi2 ?ml2 ?mc2 ?mk2 Lw.b2_Plan_files_sc Lw.b2_Plan_files_b Lw.b2_Plan_files_eq rfl rfl, Ev.mtD_mk (st := Lw.b3_Plan_steps_st) (N := Lw.b3_Plan_steps_N) (ps := Lw.b3_Plan_steps_P) ?ma3 ?mi3 ?ml3 ?mc3 ?mk3 Lw.b3_Plan_steps_sc Lw.b3_Plan_steps_b Lw.b3_Plan_steps_eq rfl rfl, Ev.mtD_mk (st := Lw.b4_Plan_moments_st) (N := Lw.b4_Plan_moments_N) (ps := Lw.b4_Plan_moments_P) ?ma4 ?mi4 ?ml4 ?mc4 ?mk4 Lw.b4_Plan_moments_sc Lw.b4_Plan_moments_b Lw.b4_Plan_moments_eq rfl rfl, Ev.mtD_mk (st := Lw.b5_Plan_rows_st) (N := Lw.b5_Plan_rows_N) (ps := Lw.b5_Plan_rows_P) ?ma5 ?mi5 ?ml5 ?mc5 ?mk5 Lw.b5_Plan_rows_sc Lw.b5_Plan_rows_b Lw.b5_Plan_rows_eq rfl rfl, Ev.mtD_mk (st := Lw.b6_Plan_check_file_st) (N := Lw.b6_Plan_check_file_N) (ps := Lw.b6_Plan_check_file_P) ?ma6 ?mi6 ?ml6 ?mc6 ?mk6 Lw.b6_Plan_check_file_sc Lw.b6_Plan_check_file_b Lw.b6_Plan_check_file_eq rfl rfl, Ev.mtD_mk (st := Lw.b7_Plan_column_st) (N := Lw.b7_Plan_column_N) (ps := Lw.b7_Plan_column_P) ?ma7 ?mi7 ?ml7 ?mc7 ?mk7 Lw.b7_Plan_column_sc Lw.b7_Plan_column_b Lw.b7_Plan_column_eq rfl rfl, Ev.mtD_mk (st := Lw.b8_Plan_version_st) (N := Lw.b8_Plan_version_N) (ps := Lw.b8_Plan_version_P) ?ma8 ?mi8 ?ml8 ?mc8 ?mk8 Lw.b8_Plan_version_sc Lw.b8_Plan_version_b Lw.b8_Plan_version_eq rfl rfl, Ev.mtD_mk (st := Lw.b9_Plan_versions_st) (N := Lw.b9_Plan_versions_N) (ps := Lw.b9_Plan_versions_P) ?ma9 ?mi9 ?ml9 ?mc9 ?mk9 Lw.b9_Plan_versions_sc Lw.b9_Plan_versions_b Lw.b9_Plan_versions_eq rfl rfl, Ev.mtD_mk (st := Lw.b10_Plan_check_order_st) (N := Lw.b10_Plan_check_order_N) (ps := Lw.b10_Plan_check_order_P) ?ma10 ?mi10 ?ml10 ?mc10 ?mk10 Lw.b10_Plan_check_order_sc Lw.b10_Plan_check_order_b Lw.b10_Plan_check_order_eq rfl rfl, Ev.mtD_mk (st := Lw.b11_Plan_check_mix_st) (N := Lw.b11_Plan_check_mix_N) (ps := Lw.b11_Plan_check_mix_P) ?ma11 ?mi11 ?ml11 ?mc11 ?mk11 Lw.b11_Plan_check_mix_sc Lw.b11_Plan_check_mix_b Lw.b11_Plan_check_mix_eq rfl rfl, Ev.sl_mk ?sa0 ?sg0 ?st0 ?sy0 ?sx0 (by decide), Ev.sl_mk ?sa1 ?sg1 ?st1 ?sy1 ?sx1 (by decide), Ev.sl_mk ?sa2 ?sg2 ?st2 ?sy2 ?sx2 (by decide)⟩
      (case A => k_is)
      (case pg => k_is)
      (case ic => k_is)
      (case po => k_is)
      (case sa => k_is)
      (case ia => k_is)
      (case ii => k_is)
      (case im => k_is)
      (case ik => k_is)
      (case il => k_is)
      (case ic2 => k_is)
      (case ik2 => k_is)
      (case ma2 => k_is)
      (case mi2 => k_is)
      (case ml2 => k_is)
      (case mc2 => k_is)
      (case mk2 => k_is)
      (case ma3 => k_is)
      (case mi3 => k_is)
      (case ml3 => k_is)
      (case mc3 => k_is)
      (case mk3 => k_is)
      (case ma4 => k_is)
      (case mi4 => k_is)
      (case ml4 => k_is)
      (case mc4 => k_is)
      (case mk4 => k_is)
      (case ma5 => k_is)
      (case mi5 => k_is)
      (case ml5 => k_is)
      (case mc5 => k_is)
      (case mk5 => k_is)
      (case ma6 => k_is)
      (case mi6 => k_is)
      (case ml6 => k_is)
      (case mc6 => k_is)
      (case mk6 => k_is)
      (case ma7 => k_is)
      (case mi7 => k_is)
      (case ml7 => k_is)
      (case mc7 => k_is)
      (case mk7 => k_is)
      (case ma8 => k_is)
      (case mi8 => k_is)
      (case ml8 => k_is)
      (case mc8 => k_is)
      (case mk8 => k_is)
      (case ma9 => k_is)
      (case mi9 => k_is)
      (case ml9 => k_is)
      (case mc9 => k_is)
      (case mk9 => k_is)
      (case ma10 => k_is)
      (case mi10 => k_is)
      (case ml10 => k_is)
      (case mc10 => k_is)
      (case mk10 => k_is)
      (case ma11 => k_is)
      (case mi11 => k_is)
      (case ml11 => k_is)
      (case mc11 => k_is)
      (case mk11 => k_is)
      (case sa0 => k_is)
      (case sg0 => k_is)
      (case st0 => k_is)
      (case sy0 => k_is)
      (case sx0 => k_is)
      (case sa1 => k_is)
      (case sg1 => k_is)
      (case st1 => k_is)
      (case sy1 => k_is)
      (case sx1 => k_is)
      (case sa2 => k_is)
      (case sg2 => k_is)
      (case st2 => k_is)
      (case sy2 => k_is)
      (case sx2 => k_is)
    case nb =>
      refine' (Ev.acs ?z0 (Ev.acs ?z1 (Ev.acs ?z2 (Ev.acs ?z3 (Ev.acs ?z4 (Ev.acs ?z5 (Ev.acs ?z6 (Ev.acs ?z7 (Ev.acs ?z8 (Ev.acs ?z9 (Ev.acs ?z10 (Ev.acs ?z11 (Ev.acs ?z12 (Ev.acs ?z13 (Ev.acs ?z14 (Ev.acs ?z15 (Ev.acs ?z16 (Ev.acs ?z17 (Ev.acs ?z18 Ev.anil)))))))))))))))))))
      (case z0 => k_is)
      (case z1 => k_is)
      (case z2 => k_is)
      (case z3 => k_is)
      (case z4 => k_is)
      (case z5 => k_is)
      (case z6 => k_is)
      (case z7 => k_is)
      (case z8 => k_is)
      (case z9 => k_is)
      (case z10 => k_is)
      (case z11 => k_is)
      (case z12 => k_is)
      (case z13 => k_is)
      (case z14 => k_is)
      (case z15 => k_is)
      (case z16 => k_is)
      (case z17 => k_is)
      (case z18 => k_is)
    case dl =>
      refine' Ev.dl_mk ?a ?l ?c ?k
      (case a => k_is)
      (case l => k_is)
      (case c => k_is)
      (case k => k_is)
