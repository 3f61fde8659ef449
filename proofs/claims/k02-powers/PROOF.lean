import PyProof.Rows.All
import Wide.All
import OpenK.AllK
import Wide.FinOn
import HandS.ForMost
import HandS.Exc
import HandS.CallSlots
import HandS.TupAny
import HandS.Flow
import HandS.Style
import HandS.Zip
import HandS.IsInst
import HandS.Walk
import KE.DataEq
import KE.DataCmp
import HandS.Defaults
import HandS.WordsExc
import HandS.HeadHook2
import HandS.Head2
import HandS.HeadEnd
import PySem.Challenge.RW_lotgrowth_k02_powers_and_frames_that_com
set_option Elab.async false
set_option linter.all false
set_option maxRecDepth 100000
section
set_option maxHeartbeats 4000000
namespace MP
open PySem

/-! ### data, values, objects -/
/-- data without objects that change -/
inductive D where
  | non
  | bl (b : Bool)
  | int (i : Int)
  | str (s : Str)
  | tup (xs : List D)
  | lst (xs : List D)
  deriving Inhabited
/-- a value: data, an object that changes, the script -/
inductive W where
  | d (x : D)
  | ref (n : Nat)
  | scr (xs : List D)
  deriving Inhabited
inductive O where
  | lst (ws : List W)
  | dead
  deriving Inhabited
abbrev Store := List O
inductive R (α : Type) where
  | ok (a : α) (S : Store)
  | ex (c : Nat) (x : D) (S : Store)
  | no
abbrev St := List (Option W)
inductive F where
  | nx (σ : St) (S : Store)
  | rt (w : W) (S : Store)
  | ex (c : Nat) (x : D) (σ : St) (S : Store)
  | no

namespace D
mutual
def toPy : D → PyData
  | .non => .none
  | .bl b => .bool b
  | .int i => .int i
  | .str s => .str s
  | .tup xs => .tuple (toPys xs)
  | .lst xs => .list (toPys xs)
def toPys : List D → List PyData
  | [] => []
  | x :: xs => toPy x :: toPys xs
end
mutual
def eqv : D → D → Bool
  | .non, .non => true
  | .bl a, .bl b => a == b
  | .bl a, .int j => (if a then 1 else 0) == j
  | .int i, .bl b => i == (if b then 1 else 0)
  | .int i, .int j => i == j
  | .str x, .str y => x == y
  | .tup xs, .tup ys => eqvs xs ys
  | .lst xs, .lst ys => eqvs xs ys
  | _, _ => false
def eqvs : List D → List D → Bool
  | [], [] => true
  | x :: xs, y :: ys => eqv x y && eqvs xs ys
  | _, _ => false
end
mutual
def depth : D → Nat
  | .tup xs => depths xs + 1
  | .lst xs => depths xs + 1
  | _ => 0
def depths : List D → Nat
  | [] => 0
  | x :: xs => max (depth x) (depths xs)
end
def small : D → Bool
  | .tup [] => true
  | .lst [] => true
  | .tup _ => false
  | .lst _ => false
  | _ => true
/-- the two may be compared: one of them is not deep -/
def ok2 (x y : D) : Bool := x.small || y.small || decide (min x.depth y.depth ≤ 100)
mutual
def alike : D → D → Bool
  | .non, .non => true
  | .bl _, .bl _ => true
  | .int _, .int _ => true
  | .str _, .str _ => true
  | .lst xs, .lst ys => alikes xs ys
  | .tup xs, .tup ys => alikes xs ys
  | _, _ => false
def alikes : List D → List D → Bool
  | x :: xs, y :: ys => alike x y && alikes xs ys
  | [], _ => true
  | _ :: _, [] => true
end
/-- x < y for alike data -/
def lt (x y : D) : Bool := PySem.W.dataLt x.toPy y.toPy
def isNon : D → Bool
  | .non => true
  | _ => false
end D

/-! ### results -/
def R.bind {α β : Type} (r : R α) (f : α → Store → R β) : R β := match r with
  | .ok a S => f a S
  | .ex c x S => .ex c x S
  | .no => .no
/-- no exception -/
def R.plain {α : Type} (r : R α) : R α := match r with
  | .ok a S => .ok a S
  | _ => .no

/-! ### what stands where -/
abbrev line : Nat := 16777216
def seqOf (S : Store) : W → Option (List W)
  | .d (.tup xs) => some (xs.map .d)
  | .d (.lst xs) => some (xs.map .d)
  | .scr xs => some (xs.map .d)
  | .ref n => match S[n]? with
    | some (.lst ws) => some ws
    | _ => none
  | _ => none
/-- a list, the script too -/
def lseqOf (S : Store) : W → Option (List W)
  | .d (.lst xs) => some (xs.map .d)
  | .scr xs => some (xs.map .d)
  | .ref n => match S[n]? with
    | some (.lst ws) => some ws
    | _ => none
  | _ => none
def lstOf (S : Store) : W → Option (List W)
  | .d (.lst xs) => some (xs.map .d)
  | .ref n => match S[n]? with
    | some (.lst ws) => some ws
    | _ => none
  | _ => none
def pures : List W → Option (List D)
  | [] => some []
  | .d x :: r => match pures r with
    | some xs => some (x :: xs)
    | none => none
  | _ :: _ => none
def datOf (S : Store) : W → Option D
  | .d x => some x
  | .ref n => match S[n]? with
    | some (.lst ws) => match pures ws with
      | some xs => some (.lst xs)
      | none => none
    | _ => none
  | _ => none
/-- a new list -/
def mkL (new : Bool) (ws : List W) (S : Store) : R W :=
  if new then .ok (.ref S.length) (S ++ [.lst ws]) else match pures ws with
    | some xs => .ok (.d (.lst xs)) S
    | none => .no
def okW (o : Option W) (S : Store) : R W := match o with
  | some w => .ok w S
  | none => .no
def okB (o : Option Bool) (S : Store) : R W := match o with
  | some b => .ok (.d (.bl b)) S
  | none => .no

/-! ### operators -/
inductive Op2 where | add | sub | mul | fdiv | mod | pow
  deriving DecidableEq
inductive Cm where | eq | ne | lt | le | gt | ge | in_ | nin | is_ | isn
  deriving DecidableEq
def addW (new : Bool) (a b : W) (S : Store) : R W := match a, b with
  | .d (.int i), .d (.int j) => .ok (.d (.int (i + j))) S
  | .d (.str x), .d (.str y) => if x.length + y.length ≤ line then .ok (.d (.str (x ++ y))) S else .no
  | .d (.tup xs), .d (.tup ys) => if xs.length + ys.length ≤ line then .ok (.d (.tup (xs ++ ys))) S else .no
  | _, _ => match lstOf S a, lstOf S b with
    | some xs, some ys => if xs.length + ys.length ≤ line then mkL new (xs ++ ys) S else .no
    | _, _ => .no
def smallI (i : Int) : Bool := decide (-18446744073709551616 < i) && decide (i < 18446744073709551616)
def mulW (new : Bool) (a b : W) (S : Store) : R W := match a, b with
  | .d (.int i), .d (.int j) => if smallI i || smallI j then .ok (.d (.int (i * j))) S else .no
  | _, .d (.int k) => match lstOf S a with
    | some xs => if decide (-9223372036854775808 ≤ k) && decide (k < 9223372036854775808) && decide (xs.length * k.toNat ≤ line) then mkL new (List.replicate k.toNat xs).flatten S else .no
    | none => .no
  | _, _ => .no
def binW (o : Op2) (new : Bool) (a b : W) (S : Store) : R W := match o with
  | .add => addW new a b S
  | .mul => mulW new a b S
  | .sub => match a, b with
    | .d (.int i), .d (.int j) => .ok (.d (.int (i - j))) S
    | _, _ => .no
  | .fdiv => match a, b with
    | .d (.int i), .d (.int j) => if decide (0 < j) && decide (j < 1073741824) then .ok (.d (.int (i / j))) S else .no
    | _, _ => .no
  | .mod => match a, b with
    | .d (.int i), .d (.int j) => if 0 < j then .ok (.d (.int (i % j))) S else .no
    | _, _ => .no
  | .pow => match a, b with
    | .d (.int i), .d (.int j) => if decide (0 ≤ j) && decide (j ≤ 1000) && decide (i.natAbs < 1000) then .ok (.d (.int (i ^ j.toNat))) S else .no
    | _, _ => .no
def eqW (S : Store) (a b : W) : Option Bool := match datOf S a, datOf S b with
  | some x, some y => if x.ok2 y then some (x.eqv y) else none
  | _, _ => none
def ltW (a b : W) : Option Bool := match a, b with
  | .d (.int i), .d (.int j) => some (decide (i < j))
  | .d x, .d y => if x.alike y && !x.isNon && x.ok2 y then some (x.lt y) else none
  | _, _ => none
def leW (a b : W) : Option Bool := match a, b with
  | .d (.int i), .d (.int j) => some (decide (i ≤ j))
  | _, _ => none
def isNonW : W → Bool
  | .d .non => true
  | _ => false
def inW (S : Store) (a b : W) : Option Bool := match a, b with
  | .d (.str x), .d (.str y) => some (!(Builtin.Str.occurrences y x 0 y.length 1).isEmpty)
  | .d x, _ => match seqOf S b with
    | some ws => match pures ws with
      | some ys => if x.small || decide (min (D.depths ys) x.depth ≤ 100) then some (ys.any fun y => y.eqv x) else none
      | none => none
    | none => none
  | _, _ => none
def cmpO (o : Cm) (S : Store) (a b : W) : Option Bool := match o with
  | .eq => eqW S a b
  | .ne => (eqW S a b).map (!·)
  | .lt => ltW a b
  | .le => leW a b
  | .gt => ltW b a
  | .ge => leW b a
  | .in_ => inW S a b
  | .nin => (inW S a b).map (!·)
  | .is_ => if isNonW b then some (isNonW a) else none
  | .isn => if isNonW b then some (!isNonW a) else none
def notW (a : W) (S : Store) : R W := match a with
  | .d (.bl b) => .ok (.d (.bl (!b))) S
  | _ => .no
def negW (a : W) (S : Store) : R W := match a with
  | .d (.int i) => .ok (.d (.int (-i))) S
  | _ => .no
/-- xs[lo:hi] -/
def cutG {α : Type} (xs : List α) (lo hi : Option Int) : List α :=
  (xs.drop (HT.sIx xs.length 0 lo)).take (HT.sIx xs.length xs.length hi - HT.sIx xs.length 0 lo)
def idxW (S : Store) (a b : W) : Option W := match b with
  | .d (.int i) => match a with
    | .d (.str z) => if z.length ≤ line then (L2.atI z.cps.toList i).map fun c => .d (.str ⟨#[c]⟩) else none
    | a => match seqOf S a with
      | some ws => L2.atI ws i
      | none => none
  | _ => none
def slW (new : Bool) (a : W) (lo hi : Option Int) (S : Store) : R W := match a with
  | .d (.tup xs) => .ok (.d (.tup (cutG xs lo hi))) S
  | a => match lseqOf S a with
    | some ws => mkL new (cutG ws lo hi) S
    | none => .no
def intO : W → Option Int
  | .d (.int i) => some i
  | _ => none
def intsW : List W → Option (List Int)
  | [] => some []
  | w :: r => match intO w, intsW r with
    | some i, some is => some (i :: is)
    | _, _ => none
def blO : W → Option Bool
  | .d (.bl b) => some b
  | _ => none
def blsW : List W → Option (List Bool)
  | [] => some []
  | w :: r => match blO w, blsW r with
    | some i, some is => some (i :: is)
    | _, _ => none
inductive Ty where | int | bool | str | list | tuple
  deriving DecidableEq
def isTy (S : Store) (t : Ty) (w : W) : Option Bool := match w with
  | .d .non => some false
  | .d (.bl _) => some (match t with | .int => true | .bool => true | _ => false)
  | .d (.int _) => some (match t with | .int => true | _ => false)
  | .d (.str _) => some (match t with | .str => true | _ => false)
  | .d (.tup _) => some (match t with | .tuple => true | _ => false)
  | .d (.lst _) => some (match t with | .list => true | _ => false)
  | .ref n => match S[n]? with
    | some (.lst _) => some (match t with | .list => true | _ => false)
    | _ => none
  | _ => none
def isTys (S : Store) (w : W) : List Ty → Option Bool
  | [] => some false
  | t :: ts => match isTy S t w, isTys S w ts with
    | some a, some b => some (a || b)
    | _, _ => none
inductive Prim where
  | len | tuple | list | abs | int | sum | all | any | min2 | max2
  deriving DecidableEq
def primW (p : Prim) (new : Bool) (ws : List W) (S : Store) : R W := match p, ws with
  | .len, [.d (.str z)] => if z.length ≤ line then .ok (.d (.int z.length)) S else .no
  | .len, [a] => match seqOf S a with
    | some xs => .ok (.d (.int xs.length)) S
    | none => .no
  | .tuple, [.d (.tup xs)] => .ok (.d (.tup xs)) S
  | .tuple, [a] => match lseqOf S a with
    | some xs => match pures xs with
      | some ds => .ok (.d (.tup ds)) S
      | none => .no
    | none => .no
  | .list, [a] => match seqOf S a with
    | some xs => mkL new xs S
    | none => .no
  | .abs, [.d (.int i)] => .ok (.d (.int (if i < 0 then -i else i))) S
  | .int, [.d (.int i)] => .ok (.d (.int i)) S
  | .int, [.d (.bl b)] => .ok (.d (.int (if b then 1 else 0))) S
  | .sum, [a] => match lstOf S a with
    | some xs => match intsW xs with
      | some is => .ok (.d (.int is.sum)) S
      | none => .no
    | none => .no
  | .all, [a] => match lstOf S a with
    | some xs => match blsW xs with
      | some is => .ok (.d (.bl (is.all id))) S
      | none => .no
    | none => .no
  | .any, [a] => match lstOf S a with
    | some xs => match blsW xs with
      | some is => .ok (.d (.bl (is.any id))) S
      | none => .no
    | none => .no
  | .min2, [.d (.int i), .d (.int j)] => .ok (.d (.int (if j < i then j else i))) S
  | .max2, [.d (.int i), .d (.int j)] => .ok (.d (.int (if j > i then j else i))) S
  | _, _ => .no
/-! ### objects that change -/
def setIW (o i v : W) (S : Store) : Option Store := match o, i, v with
  | .ref n, .d (.int k), .d x => match S[n]? with
    | some (.lst ws) => match L2.ixN ws.length k with
      | some j => some (S.set n (.lst (ws.set j (.d x))))
      | none => none
    | _ => none
  | _, _, _ => none
def okI (i : Int) : Bool := decide (-4611686018427387904 ≤ i) && decide (i < 4611686018427387904)
inductive Meth where | append | extend | pop
  deriving DecidableEq
def methW (m : Meth) (o : W) (as : List W) (S : Store) : R W := match m, o, as with
  | .append, .ref n, [.d x] => match S[n]? with
    | some (.lst ws) => if ws.length < line then .ok (.d .non) (S.set n (.lst (ws ++ [.d x]))) else .no
    | _ => .no
  | .extend, .ref n, [.d (.lst xs)] => match S[n]? with
    | some (.lst ws) => if ws.length + xs.length ≤ line then .ok (.d .non) (S.set n (.lst (ws ++ xs.map .d))) else .no
    | _ => .no
  | .pop, .ref n, [.d (.int i)] => match S[n]? with
    | some (.lst ws) => if okI i then match seqIndex? i ws.length with
      | some k => match ws[k]? with
        | some w => .ok w (S.set n (.lst (ws.eraseIdx k)))
        | none => .no
      | none => .no
      else .no
    | _ => .no
  | _, _, _ => .no
/-- an object that will change no more, as data; its place is dead -/
def freeze (w : W) (S : Store) : Option (W × Store) := match w with
  | .d x => some (.d x, S)
  | .ref n => match S[n]? with
    | some (.lst ws) => match pures ws with
      | some xs => some (.d (.lst xs), S.set n .dead)
      | none => none
    | _ => none
  | _ => none
def O.isDead : O → Bool
  | .dead => true
  | _ => false
/-- at a call's end -/
def trim (n : Nat) (w : W) (S : Store) : Store := match w with
  | .d _ => if (S.drop n).all O.isDead then S.take n else S
  | _ => S
/-! ### what is walked -/
inductive ItK where | val | rng | enu | zip
  deriving DecidableEq
def rgI (a b : Int) : List W := (List.range (b - a).toNat).map fun i => .d (.int (a + (i : Nat)))
def enuG (xs : List D) : List W := (xs.zipIdx).map fun p => .d (.tup [.int (p.2 : Nat), p.1])
def zipG (xs ys : List D) : List W := (xs.zip ys).map fun p => .d (.tup [p.1, p.2])
def itVal : List W → Option (List W)
  | [.d (.lst xs)] => some (xs.map .d)
  | [.d (.tup xs)] => some (xs.map .d)
  | [.d (.str x)] => some (x.cps.toList.map fun c => .d (.str ⟨#[c]⟩))
  | _ => none
def itRng : List W → Option (List W)
  | [.d (.int n)] => if okI n then some (rgI 0 n) else none
  | [.d (.int a), .d (.int b)] => if okI a && okI b then some (rgI a b) else none
  | _ => none
def itEnu : List W → Option (List W)
  | [.d (.lst xs)] => some (enuG xs)
  | _ => none
def itZip : List W → Option (List W)
  | [.d (.lst xs), .d (.lst ys)] => some (zipG xs ys)
  | [.d (.tup xs), .d (.tup ys)] => some (zipG xs ys)
  | _ => none
def itemsW (k : ItK) (ws : List W) : Option (List W) := match k with
  | .val => itVal ws
  | .rng => itRng ws
  | .enu => itEnu ws
  | .zip => itZip ws
/-- a target: one name, or names for a tuple's items -/
inductive Tg where
  | v (i : Nat)
  | t (is : List Nat)
  deriving DecidableEq
def setAll : List Nat → List D → St → Option St
  | [], [], σ => some σ
  | i :: is, x :: xs, σ => setAll is xs (σ.set i (some (.d x)))
  | _, _, _ => none
def tgSet (t : Tg) (w : W) (σ : St) : Option St := match t, w with
  | .v i, w => some (σ.set i (some w))
  | .t is, .d (.tup xs) => setAll is xs σ
  | _, _ => none
def wipeG (σ : St) : List Nat → St
  | [] => σ
  | v :: vs => (wipeG σ vs).set v none
/-- the loop of a comprehension -/
def compL (f : W → Store → R (Option W)) : List W → Store → R (List W)
  | [], S => .ok [] S
  | w :: ws, S => (f w S).bind fun o S1 => (compL f ws S1).bind fun r S2 => .ok (match o with | some x => x :: r | none => r) S2
/-- a for loop -/
def forL (f : W → St → Store → F) : List W → St → Store → F
  | [], σ, S => .nx σ S
  | w :: ws, σ, S => match f w σ S with
    | .nx σ1 S1 => forL f ws σ1 S1
    | r => r
/-- a while loop, so many turns at most -/
def whileN (c : St → Store → R W) (b : St → Store → F) : Nat → St → Store → F
  | 0, _, _ => .no
  | n + 1, σ, S => match c σ S with
    | .ok (.d (.bl true)) S1 => match b σ S1 with
      | .nx σ2 S2 => whileN c b n σ2 S2
      | r => r
    | .ok (.d (.bl false)) S1 => .nx σ S1
    | .ex k x S1 => .ex k x σ S1
    | _ => .no
def F.isNo : F → Bool
  | .no => true
  | _ => false
open Classical in
/-- a while loop: what it comes to, if it comes to an end -/
noncomputable def whileF (c : St → Store → R W) (b : St → Store → F) (σ : St) (S : Store) : F :=
  if h : ∃ n, (whileN c b n σ S).isNo = false then whileN c b (choose h) σ S else .no
theorem whileN_more {c : St → Store → R W} {b : St → Store → F} : ∀ {n m : Nat} {σ : St} {S : Store}, n ≤ m → (whileN c b n σ S).isNo = false → whileN c b m σ S = whileN c b n σ S
  | 0, _, _, _, _, h => by simp [whileN, F.isNo] at h
  | n + 1, 0, _, _, h, _ => absurd h (by omega)
  | n + 1, m + 1, σ, S, hl, h => by
    unfold whileN at h ⊢
    split
    · rename_i e
      rw [e] at h
      simp only at h
      split
      · rename_i e2
        rw [e2] at h
        exact whileN_more (by omega) h
      · rfl
    all_goals rfl
theorem whileF_eq {c : St → Store → R W} {b : St → Store → F} {σ : St} {S : Store} (n : Nat) (h : (whileN c b n σ S).isNo = false) : whileF c b σ S = whileN c b n σ S := by
  unfold whileF
  have hx : ∃ n, (whileN c b n σ S).isNo = false := ⟨n, h⟩
  rw [dif_pos hx]
  have h2 := Classical.choose_spec hx
  rcases Nat.le_total (Classical.choose hx) n with q | q
  · exact (whileN_more q h2).symm
  · exact whileN_more q h
end MP
end

section
set_option maxHeartbeats 4000000
namespace MP
open PySem PySem.Spec PyProof.Rows L2

/-! ### data and values in the abstract heap -/
/-- where the objects of the store stand, the store, the heap -/
structure Z where
  μ : List Addr
  S : Store
  H : Hp
  P : Addr → Prop
/-- an object of the store that may change stands there -/
def Z.Lv (z : Z) (a : Addr) : Prop := ∃ (n : Nat) (o : O), z.S[n]? = some o ∧ o.isDead = false ∧ z.μ[n]? = some a
/-- .. or a list that is being made -/
def Z.Mu (z : Z) (a : Addr) : Prop := z.Lv a ∨ z.P a
def KTup (K : PySem.W.Frag) (a : Addr) (vs : List V) : Prop :=
  ∃ (o : Obj) (its : Array Value) (n : Nat), K.lookup a = some o ∧ o.cls = .type "tuple" ∧ o.data = .seq its n ∧ its.size ≤ sizeLine ∧ Vals vs its.toList
def KLst (K : PySem.W.Frag) (a : Addr) (vs : List V) : Prop :=
  ∃ (o : Obj) (its : Array Value) (n : Nat), K.lookup a = some o ∧ o.cls = .type "list" ∧ o.dict = none ∧ o.data = .seq its n ∧ its.size ≤ sizeLine ∧ Vals vs its.toList
def TupAt (K : PySem.W.Frag) (z : Z) (a : Addr) (vs : List V) : Prop := (Rd z.H a (.tup vs) ∧ ¬ z.Mu a) ∨ KTup K a vs
def ScrAt (K : PySem.W.Frag) (z : Z) (a : Addr) (vs : List V) : Prop := (Rd z.H a (.lst vs) ∧ ¬ z.Mu a) ∨ KLst K a vs
mutual
def RD (K : PySem.W.Frag) (z : Z) : D → V → Prop
  | .non, v => v = .non
  | .bl b, v => v = .bl b
  | .int i, v => v = .int i
  | .str s, v => v = .str s
  | .tup xs, v => ∃ a vs, v = .ref a ∧ TupAt K z a vs ∧ RDs K z xs vs
  | .lst xs, v => ∃ a vs, v = .ref a ∧ (z.H a = some (.lst vs) ∧ ¬ z.Mu a) ∧ RDs K z xs vs
def RDs (K : PySem.W.Frag) (z : Z) : List D → List V → Prop
  | [], vs => vs = []
  | x :: xs, vs => ∃ v r, vs = v :: r ∧ RD K z x v ∧ RDs K z xs r
end
def RW (K : PySem.W.Frag) (z : Z) : W → V → Prop
  | .d x, v => RD K z x v
  | .ref n, v => ∃ a, v = .ref a ∧ z.μ[n]? = some a
  | .scr xs, v => ∃ a vs, v = .ref a ∧ ScrAt K z a vs ∧ RDs K z xs vs
def RWs (K : PySem.W.Frag) (z : Z) : List W → List V → Prop
  | [], vs => vs = []
  | w :: ws, vs => ∃ v r, vs = v :: r ∧ RW K z w v ∧ RWs K z ws r
structure RS (K : PySem.W.Frag) (z : Z) (σd : St) (σ : L2.St) : Prop where
  len : σd.length = σ.length
  get : ∀ (i : Nat) (w : W), σd[i]? = some (some w) → ∃ v, σ[i]? = some (some v) ∧ RW K z w v
def RO (K : PySem.W.Frag) (z : Z) (n : Nat) : O → Prop
  | .lst ws => ∃ a vs, z.μ[n]? = some a ∧ z.H a = some (.lst vs) ∧ RWs K z ws vs
  | .dead => True
structure Z.Ok (K : PySem.W.Frag) (z : Z) : Prop where
  len : z.μ.length = z.S.length
  obj : ∀ (n : Nat) (o : O), z.S[n]? = some o → RO K z n o
  inj : ∀ (n m : Nat) (o u : O) (a : Addr), z.S[n]? = some o → o.isDead = false → z.S[m]? = some u → u.isDead = false → z.μ[n]? = some a → z.μ[m]? = some a → n = m
  ref : ∀ (n : Nat) (ws : List W) (m : Nat), z.S[n]? = some (.lst ws) → W.ref m ∈ ws → m < n
  priv : ∀ a, z.P a → (∃ o, z.H a = some o) ∧ ¬ z.Lv a
def Z.keeps (z z' : Z) : Prop := ∀ (a : Addr) (o : HO), z.H a = some o → ¬ z.Mu a → z'.H a = some o ∧ ¬ z'.Mu a
/-- what stands for values stays -/
structure Z.lew (z z' : Z) : Prop where
  mu : ∀ (n : Nat) (a : Addr), z.μ[n]? = some a → z'.μ[n]? = some a
  keep : z.keeps z'
structure Z.le (z z' : Z) : Prop extends Z.lew z z' where
  pe : z'.P = z.P
  pk : ∀ a, z.P a → z'.H a = z.H a

section
variable {K : PySem.W.Frag} {z z' z'' : Z}
theorem Z.le.refl (z : Z) : z.le z := ⟨⟨fun _ _ h => h, fun _ _ h m => ⟨h, m⟩⟩, rfl, fun _ _ => rfl⟩
theorem Z.lew.trans (a : z.lew z') (b : z'.lew z'') : z.lew z'' :=
  ⟨fun n x h => b.mu n x (a.mu n x h), fun x o h m => let ⟨h1, m1⟩ := a.keep x o h m; b.keep x o h1 m1⟩
theorem Z.le.trans (a : z.le z') (b : z'.le z'') : z.le z'' :=
  ⟨a.tolew.trans b.tolew, b.pe.trans a.pe, fun x h => (b.pk x (by rw [a.pe]; exact h)).trans (a.pk x h)⟩
theorem TupAt.mono {a : Addr} {vs : List V} (l : z.keeps z') (h : TupAt K z a vs) : TupAt K z' a vs := by
  rcases h with ⟨h | ⟨o, h⟩, m⟩ | h
  · have q := l _ _ h m; exact .inl ⟨.inl q.1, q.2⟩
  · have q := l _ _ h m; exact .inl ⟨.inr ⟨o, q.1⟩, q.2⟩
  · exact .inr h
theorem ScrAt.mono {a : Addr} {vs : List V} (l : z.keeps z') (h : ScrAt K z a vs) : ScrAt K z' a vs := by
  rcases h with ⟨h | ⟨o, h⟩, m⟩ | h
  · have q := l _ _ h m; exact .inl ⟨.inl q.1, q.2⟩
  · have q := l _ _ h m; exact .inl ⟨.inr ⟨o, q.1⟩, q.2⟩
  · exact .inr h
mutual
theorem RD.mono (l : z.keeps z') : ∀ (x : D) (v : V), RD K z x v → RD K z' x v
  | .non, v, h => h
  | .bl b, v, h => h
  | .int i, v, h => h
  | .str s, v, h => h
  | .tup xs, v, h => by
    obtain ⟨a, vs, e, t, r⟩ := h
    exact ⟨a, vs, e, t.mono l, RDs.mono l xs vs r⟩
  | .lst xs, v, h => by
    obtain ⟨a, vs, e, ⟨t, m⟩, r⟩ := h
    exact ⟨a, vs, e, l _ _ t m, RDs.mono l xs vs r⟩
theorem RDs.mono (l : z.keeps z') : ∀ (xs : List D) (vs : List V), RDs K z xs vs → RDs K z' xs vs
  | [], vs, h => h
  | x :: xs, vs, h => by
    obtain ⟨v, r, e, h1, h2⟩ := h
    exact ⟨v, r, e, RD.mono l x v h1, RDs.mono l xs r h2⟩
end
theorem RW.monoW (l : z.lew z') {w : W} {v : V} (h : RW K z w v) : RW K z' w v := by
  cases w with
  | d x => exact RD.mono l.keep x v h
  | ref n => obtain ⟨a, e, q⟩ := h; exact ⟨a, e, l.mu _ _ q⟩
  | scr xs => obtain ⟨a, vs, e, q, r⟩ := h; exact ⟨a, vs, e, q.mono l.keep, RDs.mono l.keep xs vs r⟩
theorem RW.mono (l : z.le z') {w : W} {v : V} (h : RW K z w v) : RW K z' w v := h.monoW l.tolew
theorem RWs.monoW (l : z.lew z') : ∀ {ws : List W} {vs : List V}, RWs K z ws vs → RWs K z' ws vs
  | [], _, h => h
  | _ :: _, _, ⟨v, r, e, h1, h2⟩ => ⟨v, r, e, h1.monoW l, RWs.monoW l h2⟩
theorem RWs.mono (l : z.le z') {ws : List W} {vs : List V} (h : RWs K z ws vs) : RWs K z' ws vs := RWs.monoW l.tolew h
theorem RS.monoW (l : z.lew z') {σd : St} {σ : L2.St} (h : RS K z σd σ) : RS K z' σd σ :=
  ⟨h.len, fun i w e => let ⟨v, e1, r⟩ := h.get i w e; ⟨v, e1, r.monoW l⟩⟩
theorem RS.mono (l : z.le z') {σd : St} {σ : L2.St} (h : RS K z σd σ) : RS K z' σd σ := h.monoW l.tolew

/-! ### lists of values -/
theorem RDs.length : ∀ {xs : List D} {vs : List V}, RDs K z xs vs → xs.length = vs.length
  | [], _, h => by cases h; rfl
  | _ :: _, _, ⟨v, r, e, _, h2⟩ => by subst e; simp [RDs.length h2]
theorem RWs.length : ∀ {ws : List W} {vs : List V}, RWs K z ws vs → ws.length = vs.length
  | [], _, h => by cases h; rfl
  | _ :: _, _, ⟨v, r, e, _, h2⟩ => by subst e; simp [RWs.length h2]
theorem RWs.map_d : ∀ {xs : List D} {vs : List V}, RDs K z xs vs → RWs K z (xs.map .d) vs
  | [], _, h => h
  | _ :: _, _, ⟨v, r, e, h1, h2⟩ => ⟨v, r, e, h1, RWs.map_d h2⟩
theorem RDs.of_map : ∀ {xs : List D} {vs : List V}, RWs K z (xs.map .d) vs → RDs K z xs vs
  | [], _, h => h
  | _ :: _, _, ⟨v, r, e, h1, h2⟩ => ⟨v, r, e, h1, RDs.of_map h2⟩
theorem pures_eq : ∀ {ws : List W} {xs : List D}, pures ws = some xs → ws = xs.map .d
  | [], _, h => by simp only [pures, Option.some.injEq] at h; subst h; rfl
  | .d x :: r, _, h => by
    simp only [pures] at h
    split at h
    · rename_i ys e
      simp only [Option.some.injEq] at h
      subst h
      rw [pures_eq e]
      rfl
    · cases h
  | .ref _ :: _, _, h => by simp [pures] at h
  | .scr _ :: _, _, h => by simp [pures] at h
theorem pures_map : ∀ (xs : List D), pures (xs.map .d) = some xs
  | [] => rfl
  | x :: xs => by simp [pures, pures_map xs]
theorem RWs.pures {ws : List W} {xs : List D} {vs : List V} (h : pures ws = some xs) (r : RWs K z ws vs) : RDs K z xs vs := by
  rw [pures_eq h] at r
  exact RDs.of_map r
theorem RWs.get : ∀ {ws : List W} {vs : List V} {i : Nat} {w : W}, RWs K z ws vs → ws[i]? = some w → ∃ v, vs[i]? = some v ∧ RW K z w v
  | [], _, _, _, _, h => by simp at h
  | _ :: _, _, 0, _, ⟨v, r, e, h1, _⟩, h => by subst e; simp at h; subst h; exact ⟨v, rfl, h1⟩
  | _ :: _, _, i + 1, _, ⟨v, r, e, _, h2⟩, h => by subst e; simpa using RWs.get (i := i) h2 (by simpa using h)
theorem RDs.get : ∀ {ws : List D} {vs : List V} {i : Nat} {w : D}, RDs K z ws vs → ws[i]? = some w → ∃ v, vs[i]? = some v ∧ RD K z w v
  | [], _, _, _, _, h => by simp at h
  | _ :: _, _, 0, _, ⟨v, r, e, h1, _⟩, h => by subst e; simp at h; subst h; exact ⟨v, rfl, h1⟩
  | _ :: _, _, i + 1, _, ⟨v, r, e, _, h2⟩, h => by subst e; simpa using RDs.get (i := i) h2 (by simpa using h)
/-- the other way: what the i-th value stands for -/
theorem RWs.got : ∀ {ws : List W} {vs : List V} {i : Nat} {v : V}, RWs K z ws vs → vs[i]? = some v → ∃ w, ws[i]? = some w ∧ RW K z w v
  | [], _, _, _, h, e => by cases h; simp at e
  | w :: _, _, 0, _, ⟨v, r, e, h1, _⟩, h => by subst e; simp at h; subst h; exact ⟨w, rfl, h1⟩
  | _ :: _, _, i + 1, _, ⟨v, r, e, _, h2⟩, h => by subst e; simpa using RWs.got (i := i) h2 (by simpa using h)
theorem RWs.append : ∀ {ws ws' : List W} {vs vs' : List V}, RWs K z ws vs → RWs K z ws' vs' → RWs K z (ws ++ ws') (vs ++ vs')
  | [], _, _, _, h, h' => by cases h; exact h'
  | _ :: _, _, _, _, ⟨v, r, e, h1, h2⟩, h' => by subst e; exact ⟨v, _, rfl, h1, RWs.append h2 h'⟩
theorem RDs.append : ∀ {ws ws' : List D} {vs vs' : List V}, RDs K z ws vs → RDs K z ws' vs' → RDs K z (ws ++ ws') (vs ++ vs')
  | [], _, _, _, h, h' => by cases h; exact h'
  | _ :: _, _, _, _, ⟨v, r, e, h1, h2⟩, h' => by subst e; exact ⟨v, _, rfl, h1, RDs.append h2 h'⟩
theorem RWs.take : ∀ (n : Nat) {ws : List W} {vs : List V}, RWs K z ws vs → RWs K z (ws.take n) (vs.take n)
  | 0, _, _, _ => rfl
  | _ + 1, [], _, h => by cases h; rfl
  | n + 1, _ :: _, _, ⟨v, r, e, h1, h2⟩ => by subst e; exact ⟨v, _, rfl, h1, RWs.take n h2⟩
theorem RWs.drop : ∀ (n : Nat) {ws : List W} {vs : List V}, RWs K z ws vs → RWs K z (ws.drop n) (vs.drop n)
  | 0, _, _, h => h
  | _ + 1, [], _, h => by cases h; rfl
  | n + 1, _ :: _, _, ⟨v, r, e, _, h2⟩ => by subst e; exact RWs.drop n h2
theorem RDs.take : ∀ (n : Nat) {ws : List D} {vs : List V}, RDs K z ws vs → RDs K z (ws.take n) (vs.take n)
  | 0, _, _, _ => rfl
  | _ + 1, [], _, h => by cases h; rfl
  | n + 1, _ :: _, _, ⟨v, r, e, h1, h2⟩ => by subst e; exact ⟨v, _, rfl, h1, RDs.take n h2⟩
theorem RDs.drop : ∀ (n : Nat) {ws : List D} {vs : List V}, RDs K z ws vs → RDs K z (ws.drop n) (vs.drop n)
  | 0, _, _, h => h
  | _ + 1, [], _, h => by cases h; rfl
  | n + 1, _ :: _, _, ⟨v, r, e, _, h2⟩ => by subst e; exact RDs.drop n h2
theorem RWs.set {w : W} {v : V} (hw : RW K z w v) : ∀ (i : Nat) {ws : List W} {vs : List V}, RWs K z ws vs → RWs K z (ws.set i w) (vs.set i v)
  | _, [], _, h => by cases h; rfl
  | 0, _ :: _, _, ⟨v, r, e, _, h2⟩ => by subst e; exact ⟨_, _, rfl, hw, h2⟩
  | i + 1, _ :: _, _, ⟨v, r, e, h1, h2⟩ => by subst e; exact ⟨v, _, rfl, h1, RWs.set hw i h2⟩
theorem RWs.eraseIdx : ∀ (i : Nat) {ws : List W} {vs : List V}, RWs K z ws vs → RWs K z (ws.eraseIdx i) (vs.eraseIdx i)
  | _, [], _, h => by cases h; rfl
  | 0, _ :: _, _, ⟨v, r, e, _, h2⟩ => by subst e; exact h2
  | i + 1, _ :: _, _, ⟨v, r, e, h1, h2⟩ => by subst e; exact ⟨v, _, rfl, h1, RWs.eraseIdx i h2⟩
theorem RWs.rep {ws : List W} {vs : List V} (h : RWs K z ws vs) : ∀ (n : Nat), RWs K z (List.replicate n ws).flatten (List.replicate n vs).flatten
  | 0 => rfl
  | n + 1 => by
    rw [List.replicate_succ, List.replicate_succ, List.flatten_cons, List.flatten_cons]
    exact h.append (RWs.rep h n)
theorem RWs.reverse : ∀ {ws : List W} {vs : List V}, RWs K z ws vs → RWs K z ws.reverse vs.reverse
  | [], _, h => by cases h; rfl
  | w :: ws, _, ⟨v, r, e, h1, h2⟩ => by
    subst e
    rw [List.reverse_cons, List.reverse_cons]
    exact (RWs.reverse h2).append ⟨v, [], rfl, h1, rfl⟩
theorem RWs.cut {ws : List W} {vs : List V} (h : RWs K z ws vs) (lo hi : Option Int) : RWs K z (cutG ws lo hi) (cutV vs lo hi) := by
  unfold cutG cutV
  rw [h.length]
  exact (h.drop _).take _
theorem RDs.cut {ws : List D} {vs : List V} (h : RDs K z ws vs) (lo hi : Option Int) : RDs K z (cutG ws lo hi) (cutV vs lo hi) := by
  unfold cutG cutV
  rw [h.length]
  exact (h.drop _).take _

/-! ### scalars -/
theorem RD.int_inv {i : Int} {v : V} (h : RD K z (.int i) v) : v = .int i := h
theorem RD.flat {x : D} {v : V} (h : RD K z x v) : ∀ z', (match x with | .tup _ => False | .lst _ => False | _ => True) → RD K z' x v := fun z' hx => by
  cases x <;> first | exact h | exact hx.elim

/-! ### the store changes -/
theorem Z.Ok.lv_some (ok : z.Ok K) {a : Addr} (h : z.Lv a) : ∃ vs, z.H a = some (.lst vs) := by
  obtain ⟨n, o, e, d, m⟩ := h
  have q := ok.obj n o e
  cases o with
  | lst ws =>
    obtain ⟨a', vs, m', h', _⟩ := q
    rw [m] at m'; cases m'
    exact ⟨_, h'⟩
  | dead => simp [O.isDead] at d
theorem Z.Ok.mu_some (ok : z.Ok K) {a : Addr} (h : z.Mu a) : ∃ o, z.H a = some o := by
  rcases h with h | h
  · obtain ⟨vs, e⟩ := ok.lv_some h; exact ⟨_, e⟩
  · exact (ok.priv a h).1
theorem Z.Ok.not_mu (ok : z.Ok K) {p : Addr} (hp : z.H p = none) : ¬ z.Mu p := fun m => by
  obtain ⟨o, e⟩ := ok.mu_some m
  rw [hp] at e
  cases e
theorem Z.Ok.ref_lt (ok : z.Ok K) {n : Nat} {a : Addr} (h : z.μ[n]? = some a) : n < z.S.length := by
  rw [← ok.len]
  exact (List.getElem?_eq_some_iff.mp h).1
theorem RW.ref_lt (ok : z.Ok K) {n : Nat} {v : V} (h : RW K z (.ref n) v) : n < z.S.length := by
  obtain ⟨a, _, e⟩ := h
  exact ok.ref_lt e
theorem RWs.ref_lt (ok : z.Ok K) {m : Nat} : ∀ {ws : List W} {vs : List V}, RWs K z ws vs → W.ref m ∈ ws → m < z.S.length
  | [], _, _, h => by simp at h
  | w :: ws, _, ⟨v, r, e, h1, h2⟩, h => by
    rcases List.mem_cons.mp h with q | q
    · subst q; exact RW.ref_lt ok h1
    · exact RWs.ref_lt ok h2 q
/-- with another heap, and other private places -/
abbrev Z.withH (z : Z) (H : Hp) : Z := { z with H := H }
abbrev Z.withP (z : Z) (P : Addr → Prop) : Z := { z with P := P }
/-- a new thing that will not change -/
theorem Z.le_new (ok : z.Ok K) {p : Addr} {o : HO} (hp : z.H p = none) : z.le (z.withH (upd z.H p o)) :=
  ⟨⟨fun _ _ h => h, fun a u h m => ⟨by show upd z.H p o a = _; rw [upd_ne (ne_of_none h hp)]; exact h, m⟩⟩, rfl, fun a h => by
    obtain ⟨⟨u, e⟩, _⟩ := ok.priv a h
    show upd z.H p o a = _
    rw [upd_ne (ne_of_none e hp)]⟩
theorem Z.Ok.new (ok : z.Ok K) {p : Addr} {o : HO} (hp : z.H p = none) : (z.withH (upd z.H p o)).Ok K := by
  have l := Z.le_new ok (o := o) hp
  have hu : ∀ a u, z.H a = some u → upd z.H p o a = some u := fun a u h => by rw [upd_ne (ne_of_none h hp)]; exact h
  refine ⟨ok.len, fun n u e => ?_, ok.inj, ok.ref, fun a h => ?_⟩
  · have q := ok.obj n u e
    cases u with
    | lst ws =>
      obtain ⟨a, vs, m, h, r⟩ := q
      exact ⟨a, vs, m, hu _ _ h, r.mono l⟩
    | dead => trivial
  · obtain ⟨⟨u, e⟩, h2⟩ := ok.priv a h
    exact ⟨⟨u, hu _ _ e⟩, h2⟩
/-- a list that is being made, from its beginning -/
theorem Z.Ok.begin (ok : z.Ok K) {p : Addr} {o : HO} (hp : z.H p = none) : (Z.mk z.μ z.S (upd z.H p o) (fun a => z.P a ∨ a = p)).Ok K ∧ z.lew (Z.mk z.μ z.S (upd z.H p o) (fun a => z.P a ∨ a = p)) := by
  have hu : ∀ a u, z.H a = some u → upd z.H p o a = some u := fun a u h => by rw [upd_ne (ne_of_none h hp)]; exact h
  have l : z.lew (Z.mk z.μ z.S (upd z.H p o) (fun a => z.P a ∨ a = p)) := ⟨fun _ _ h => h, fun a u h m => ⟨hu _ _ h, fun m' => by
    rcases m' with m' | m' | m'
    · exact m (.inl m')
    · exact m (.inr m')
    · exact ne_of_none h hp m'⟩⟩
  refine ⟨⟨ok.len, fun n u e => ?_, ok.inj, ok.ref, fun a h => ?_⟩, l⟩
  · have q := ok.obj n u e
    cases u with
    | lst ws =>
      obtain ⟨a, vs, m, h, r⟩ := q
      exact ⟨a, vs, m, hu _ _ h, r.monoW l⟩
    | dead => trivial
  · rcases h with h | h
    · obtain ⟨⟨u, e⟩, h2⟩ := ok.priv a h
      exact ⟨⟨u, hu _ _ e⟩, h2⟩
    · subst h
      exact ⟨⟨o, upd_same⟩, fun h => ok.not_mu hp (.inl h)⟩
/-- .. it grows -/
theorem Z.Ok.grow (ok : z.Ok K) {p : Addr} {o : HO} (hp : z.P p) : (z.withH (upd z.H p o)).Ok K ∧ z.lew (z.withH (upd z.H p o)) := by
  have l : z.lew (z.withH (upd z.H p o)) := ⟨fun _ _ h => h, fun a u h m => ⟨by
    show upd z.H p o a = _
    rw [upd_ne (fun e => m (.inr (by rw [e]; exact hp)))]
    exact h, m⟩⟩
  refine ⟨⟨ok.len, fun n u e => ?_, ok.inj, ok.ref, fun a h => ?_⟩, l⟩
  · have q := ok.obj n u e
    cases u with
    | lst ws =>
      obtain ⟨a, vs, m, h, r⟩ := q
      refine ⟨a, vs, m, ?_, r.monoW l⟩
      show upd z.H p o a = _
      rw [upd_ne (fun e2 => (ok.priv p hp).2 (by rw [← e2]; exact ⟨n, _, e, rfl, m⟩))]
      exact h
    | dead => trivial
  · obtain ⟨⟨u, e⟩, h2⟩ := ok.priv a h
    refine ⟨?_, h2⟩
    by_cases e2 : a = p
    · subst e2; exact ⟨o, upd_same⟩
    · exact ⟨u, by show upd z.H p o a = _; rw [upd_ne e2]; exact e⟩
/-- .. it is made: private no more -/
theorem Z.Ok.made (ok : z.Ok K) {P : Addr → Prop} (hP : ∀ a, P a → z.P a) : (z.withP P).Ok K ∧ z.lew (z.withP P) := by
  have l : z.lew (z.withP P) := ⟨fun _ _ h => h, fun a u h m => ⟨h, fun m' => by
    rcases m' with m' | m'
    · exact m (.inl m')
    · exact m (.inr (hP a m'))⟩⟩
  refine ⟨⟨ok.len, fun n u e => ?_, ok.inj, ok.ref, fun a h => ok.priv a (hP a h)⟩, l⟩
  have q := ok.obj n u e
  cases u with
  | lst ws =>
    obtain ⟨a, vs, m, h, r⟩ := q
    exact ⟨a, vs, m, h, r.monoW l⟩
  | dead => trivial
/-- a list that was made is an object of the store from here on -/
theorem Z.Ok.publish (ok : z.Ok K) {p : Addr} {ws : List W} {vs : List V} {P : Addr → Prop} (hp : z.P p) (hH : z.H p = some (.lst vs)) (r : RWs K z ws vs) (hP : ∀ a, P a → z.P a ∧ a ≠ p) :
    (Z.mk (z.μ ++ [p]) (z.S ++ [.lst ws]) z.H P).Ok K ∧ z.lew (Z.mk (z.μ ++ [p]) (z.S ++ [.lst ws]) z.H P) := by
  have cut : ∀ {n : Nat} {o : O}, (z.S ++ [O.lst ws])[n]? = some o → (n < z.S.length ∧ z.S[n]? = some o) ∨ (n = z.S.length ∧ o = .lst ws) := fun {n o} e => by
    by_cases hn : n < z.S.length
    · rw [List.getElem?_append_left hn] at e
      exact .inl ⟨hn, e⟩
    · rw [List.getElem?_append_right (by omega)] at e
      have hn' : n - z.S.length = 0 := by
        have := (List.getElem?_eq_some_iff.mp e).1
        simp at this
        omega
      rw [hn'] at e
      simp at e
      exact .inr ⟨by omega, e.symm⟩
  have mcut : ∀ {n : Nat} {a : Addr}, n < z.S.length → (z.μ ++ [p])[n]? = some a → z.μ[n]? = some a := fun {n a} hn e => by
    rwa [List.getElem?_append_left (by rw [ok.len]; exact hn)] at e
  have mlast : ∀ {a : Addr}, (z.μ ++ [p])[z.S.length]? = some a → a = p := fun {a} e => by
    rw [← ok.len, List.getElem?_append_right (Nat.le_refl _)] at e
    simp at e
    exact e.symm
  have mold : ∀ {n : Nat} {o : O} {a : Addr}, z.S[n]? = some o → o.isDead = false → z.μ[n]? = some a → a ≠ p := fun {n o a} e d q hq => by
    subst hq
    exact (ok.priv a hp).2 ⟨n, o, e, d, q⟩
  have lv : ∀ a, (Z.mk (z.μ ++ [p]) (z.S ++ [.lst ws]) z.H P).Lv a → z.Lv a ∨ a = p := fun a h => by
    obtain ⟨n, u, e, d, q⟩ := h
    rcases cut e with ⟨hn, e'⟩ | ⟨hn, e'⟩
    · exact .inl ⟨n, u, e', d, mcut hn q⟩
    · subst hn; exact .inr (mlast q)
  have l : z.lew (Z.mk (z.μ ++ [p]) (z.S ++ [.lst ws]) z.H P) := ⟨fun n a h => by
      show (z.μ ++ [p])[n]? = some a
      rw [List.getElem?_append_left (List.getElem?_eq_some_iff.mp h).1]
      exact h, fun a o h m => ⟨h, fun m' => by
      rcases m' with m' | m'
      · rcases lv a m' with q | q
        · exact m (.inl q)
        · exact m (.inr (by rw [q]; exact hp))
      · exact m (.inr (hP a m').1)⟩⟩
  refine ⟨⟨?_, fun n o e => ?_, fun n m o u a e1 d1 e2 d2 q1 q2 => ?_, fun n us m e hm => ?_, fun a h => ⟨(ok.priv a (hP a h).1).1, fun h2 => ?_⟩⟩, l⟩
  · show (z.μ ++ [p]).length = (z.S ++ [O.lst ws]).length
    rw [List.length_append, List.length_append, ok.len]
    rfl
  · rcases cut e with ⟨hn, e'⟩ | ⟨hn, e'⟩
    · have q := ok.obj n o e'
      cases o with
      | lst us =>
        obtain ⟨a, xs, m, h, r'⟩ := q
        exact ⟨a, xs, l.mu _ _ m, h, r'.monoW l⟩
      | dead => trivial
    · clear e
      subst hn e'
      refine ⟨p, vs, ?_, hH, r.monoW l⟩
      show (z.μ ++ [p])[z.S.length]? = some p
      rw [← ok.len, List.getElem?_append_right (Nat.le_refl _)]
      simp
  · rcases cut e1 with ⟨h1, e1⟩ | ⟨h1, e1⟩ <;> rcases cut e2 with ⟨h2, e2⟩ | ⟨h2, e2⟩
    · exact ok.inj n m o u a e1 d1 e2 d2 (mcut h1 q1) (mcut h2 q2)
    · subst h2
      exact absurd (mlast q2) (mold e1 d1 (mcut h1 q1))
    · subst h1
      exact absurd (mlast q1) (mold e2 d2 (mcut h2 q2))
    · omega
  · rcases cut e with ⟨hn, e'⟩ | ⟨hn, e'⟩
    · exact ok.ref n us m e' hm
    · subst hn
      cases O.lst.inj e'
      exact r.ref_lt ok hm
  · rcases lv a h2 with q | q
    · exact (ok.priv a (hP a h).1).2 q
    · exact (hP a h).2 q
/-- a new list that may change -/
theorem Z.Ok.alloc (ok : z.Ok K) {p : Addr} {ws : List W} {vs : List V} (hp : z.H p = none) (r : RWs K z ws vs) :
    (Z.mk (z.μ ++ [p]) (z.S ++ [.lst ws]) (upd z.H p (.lst vs)) z.P).Ok K ∧ z.le (Z.mk (z.μ ++ [p]) (z.S ++ [.lst ws]) (upd z.H p (.lst vs)) z.P) := by
  obtain ⟨ok1, l1⟩ := ok.begin (o := .lst vs) hp
  have np : ∀ a, z.P a → a ≠ p := fun a h e => by
    obtain ⟨⟨u, q⟩, _⟩ := ok.priv a h
    rw [e, hp] at q
    cases q
  obtain ⟨ok2, l2⟩ := ok1.publish (P := z.P) (.inr rfl) upd_same (r.monoW l1) fun a h => ⟨.inl h, np a h⟩
  exact ⟨ok2, l1.trans l2, rfl, fun a h => upd_ne (np a h)⟩
/-- a list is written -/
theorem Z.Ok.write (ok : z.Ok K) {n : Nat} {a : Addr} {ws ws' : List W} {vs' : List V} (hS : z.S[n]? = some (.lst ws)) (hm : z.μ[n]? = some a) (r : RWs K z ws' vs') (sub : ∀ m, W.ref m ∈ ws' → W.ref m ∈ ws) :
    (Z.mk z.μ (z.S.set n (.lst ws')) (upd z.H a (.lst vs')) z.P).Ok K ∧ z.le (Z.mk z.μ (z.S.set n (.lst ws')) (upd z.H a (.lst vs')) z.P) := by
  have ma : z.Lv a := ⟨n, _, hS, rfl, hm⟩
  have hn : n < z.S.length := (List.getElem?_eq_some_iff.mp hS).1
  have cut : ∀ {k : Nat} {o : O}, (z.S.set n (.lst ws'))[k]? = some o → (k = n ∧ o = .lst ws') ∨ (k ≠ n ∧ z.S[k]? = some o) := fun {k o} e => by
    by_cases hk : k = n
    · subst hk
      rw [List.getElem?_set_self hn] at e
      cases e
      exact .inl ⟨rfl, rfl⟩
    · rw [List.getElem?_set_ne (Ne.symm hk)] at e
      exact .inr ⟨hk, e⟩
  have old : ∀ {k : Nat} {o : O}, (z.S.set n (.lst ws'))[k]? = some o → o.isDead = false → ∃ u, z.S[k]? = some u ∧ u.isDead = false := fun {k o} e d => by
    rcases cut e with ⟨rfl, rfl⟩ | ⟨_, e⟩
    · exact ⟨_, hS, rfl⟩
    · exact ⟨o, e, d⟩
  have lv : ∀ b, (Z.mk z.μ (z.S.set n (.lst ws')) (upd z.H a (.lst vs')) z.P).Lv b → z.Lv b := fun b h => by
    obtain ⟨k, u, e, d, q⟩ := h
    obtain ⟨u', e', d'⟩ := old e d
    exact ⟨k, u', e', d', q⟩
  have l : z.le (Z.mk z.μ (z.S.set n (.lst ws')) (upd z.H a (.lst vs')) z.P) := by
    refine ⟨⟨fun _ _ h => h, fun b o h m => ⟨?_, fun m' => ?_⟩⟩, rfl, fun b h => ?_⟩
    · have hb : b ≠ a := fun e => m (.inl (e ▸ ma))
      show upd z.H a (.lst vs') b = _
      rw [upd_ne hb]
      exact h
    · rcases m' with m' | m'
      · exact m (.inl (lv b m'))
      · exact m (.inr m')
    · have hb : b ≠ a := fun e => (ok.priv b h).2 (by rw [e]; exact ma)
      exact upd_ne hb
  refine ⟨⟨?_, fun k o e => ?_, fun k m o u b e1 d1 e2 d2 q1 q2 => ?_, fun k us m e hm' => ?_, fun b h => ?_⟩, l⟩
  · show z.μ.length = (z.S.set n (.lst ws')).length
    rw [List.length_set]
    exact ok.len
  · rcases cut e with ⟨rfl, rfl⟩ | ⟨hk, e'⟩
    · exact ⟨a, vs', hm, upd_same, r.mono l⟩
    · have q := ok.obj k o e'
      cases o with
      | lst us =>
        obtain ⟨b, xs, m, h, r'⟩ := q
        have hb : b ≠ a := fun q => by
          subst q
          exact hk (ok.inj k n _ _ b e' rfl hS rfl m hm)
        refine ⟨b, xs, m, ?_, r'.mono l⟩
        show upd z.H a (.lst vs') b = _
        rw [upd_ne hb]
        exact h
      | dead => trivial
  · obtain ⟨o', e1, d1⟩ := old e1 d1
    obtain ⟨u', e2, d2⟩ := old e2 d2
    exact ok.inj k m o' u' b e1 d1 e2 d2 q1 q2
  · rcases cut e with ⟨rfl, q⟩ | ⟨hk, e⟩
    · cases q
      exact ok.ref k ws m hS (sub m hm')
    · exact ok.ref k us m e hm'
  · obtain ⟨⟨u, e⟩, h2⟩ := ok.priv b h
    have hb : b ≠ a := fun e => h2 (by rw [e]; exact ma)
    exact ⟨⟨u, by show upd z.H a (.lst vs') b = _; rw [upd_ne hb]; exact e⟩, fun h => h2 (lv b h)⟩
/-- a list that will change no more -/
theorem dead_cut {S : Store} {n k : Nat} {o : O} (e : (S.set n O.dead)[k]? = some o) (d : o.isDead = false) : k ≠ n ∧ S[k]? = some o := by
  by_cases hk : k = n
  · subst hk
    by_cases hl : k < S.length
    · rw [List.getElem?_set_self hl] at e
      cases e
      simp [O.isDead] at d
    · rw [List.getElem?_eq_none (by simp; omega)] at e
      cases e
  · rw [List.getElem?_set_ne (Ne.symm hk)] at e
    exact ⟨hk, e⟩
theorem dead_lv {n : Nat} {a : Addr} (h : (Z.mk z.μ (z.S.set n .dead) z.H z.P).Lv a) : z.Lv a := by
  obtain ⟨k, u, e, d, q⟩ := h
  exact ⟨k, u, (dead_cut e d).2, d, q⟩
theorem Z.le_dead {n : Nat} : z.le (Z.mk z.μ (z.S.set n .dead) z.H z.P) :=
  ⟨⟨fun _ _ h => h, fun b o h m => ⟨h, fun m' => m (m'.imp dead_lv id)⟩⟩, rfl, fun _ _ => rfl⟩
theorem Z.Ok.dead (ok : z.Ok K) {n : Nat} : (Z.mk z.μ (z.S.set n .dead) z.H z.P).Ok K := by
  refine ⟨?_, fun k o e => ?_, fun k m o u b e1 d1 e2 d2 q1 q2 => ?_, fun k us m e hm' => ?_, fun a h => ⟨(ok.priv a h).1, fun h2 => (ok.priv a h).2 (dead_lv h2)⟩⟩
  · show z.μ.length = (z.S.set n .dead).length
    rw [List.length_set]
    exact ok.len
  · cases o with
    | lst us =>
      obtain ⟨hk, e⟩ := dead_cut e rfl
      obtain ⟨b, xs, m, h, r'⟩ := ok.obj k _ e
      exact ⟨b, xs, m, h, r'.mono Z.le_dead⟩
    | dead => trivial
  · exact ok.inj k m o u b (dead_cut e1 d1).2 d1 (dead_cut e2 d2).2 d2 q1 q2
  · exact ok.ref k us m (dead_cut e rfl).2 hm'
theorem RD.frozen (ok : z.Ok K) {n : Nat} {ws : List W} {xs : List D} {v : V} (hS : z.S[n]? = some (.lst ws)) (hp : pures ws = some xs) (hv : RW K z (.ref n) v) : RD K (Z.mk z.μ (z.S.set n .dead) z.H z.P) (.lst xs) v := by
  obtain ⟨a, rfl, hm⟩ := hv
  obtain ⟨a', vs, m, h, r⟩ := ok.obj n _ hS
  rw [hm] at m
  cases m
  refine ⟨a, vs, rfl, ⟨h, fun m' => ?_⟩, RDs.mono (Z.le_dead (n := n)).keep _ _ (r.pures hp)⟩
  rcases m' with m' | m'
  · obtain ⟨k, u, e, d, q⟩ := m'
    obtain ⟨hk, e⟩ := dead_cut e d
    exact hk (ok.inj k n _ _ a e d hS rfl q hm)
  · exact (ok.priv a m').2 ⟨n, _, hS, rfl, hm⟩
/-- the store's dead end is cut off -/
theorem Z.Ok.cut (ok : z.Ok K) {n : Nat} (hd : (z.S.drop n).all O.isDead = true) : (Z.mk (z.μ.take n) (z.S.take n) z.H z.P).Ok K ∧ z.keeps (Z.mk (z.μ.take n) (z.S.take n) z.H z.P) := by
  have low : ∀ {k : Nat} {o : O}, z.S[k]? = some o → o.isDead = false → k < n := fun {k o} e d => by
    by_cases hk : k < n
    · exact hk
    · have : (z.S.drop n)[k - n]? = some o := by
        rw [List.getElem?_drop]
        rw [show n + (k - n) = k by omega]
        exact e
      have q := List.all_eq_true.mp hd o (List.mem_of_getElem? this)
      rw [d] at q
      cases q
  have un : ∀ {α : Type} {l : List α} {k : Nat} {x : α}, (l.take n)[k]? = some x → l[k]? = some x ∧ k < n := fun {α l k x} e => by
    by_cases hk : k < n
    · rw [List.getElem?_take_of_lt hk] at e
      exact ⟨e, hk⟩
    · rw [List.getElem?_eq_none (by simp; omega)] at e
      cases e
  have lv : ∀ a, (Z.mk (z.μ.take n) (z.S.take n) z.H z.P).Lv a → z.Lv a := fun a => by
    rintro ⟨k, o, e, d, q⟩
    exact ⟨k, o, (un e).1, d, (un q).1⟩
  have kp : z.keeps (Z.mk (z.μ.take n) (z.S.take n) z.H z.P) := fun a o h m => ⟨h, fun q => m (q.imp (lv a) id)⟩
  have same : ∀ {k : Nat}, k ≤ n → ∀ {ws : List W} {vs : List V}, (∀ m, W.ref m ∈ ws → m < k) → RWs K z ws vs → RWs K (Z.mk (z.μ.take n) (z.S.take n) z.H z.P) ws vs := fun {k} hk => by
    intro ws
    induction ws with
    | nil => intro vs _ h; exact h
    | cons w ws ih =>
      intro vs hw h
      obtain ⟨v, r, e, h1, h2⟩ := h
      refine ⟨v, r, e, ?_, ih (fun m hm => hw m (List.mem_cons_of_mem _ hm)) h2⟩
      cases w with
      | d x => exact RD.mono kp x v h1
      | ref m =>
        obtain ⟨a, e, q⟩ := h1
        have hm : m < n := Nat.lt_of_lt_of_le (hw m List.mem_cons_self) hk
        exact ⟨a, e, by show (z.μ.take n)[m]? = _; rw [List.getElem?_take_of_lt hm]; exact q⟩
      | scr xs =>
        obtain ⟨a, vs, e, q, r⟩ := h1
        exact ⟨a, vs, e, q.mono kp, RDs.mono kp xs vs r⟩
  refine ⟨⟨?_, fun k o e => ?_, fun k m o u b e1 d1 e2 d2 q1 q2 => ok.inj k m o u b (un e1).1 d1 (un e2).1 d2 (un q1).1 (un q2).1, fun k us m e hm' => ok.ref k us m (un e).1 hm', fun a h => ⟨(ok.priv a h).1, fun h2 => (ok.priv a h).2 (lv a h2)⟩⟩, kp⟩
  · show (z.μ.take n).length = (z.S.take n).length
    rw [List.length_take, List.length_take, ok.len]
  · obtain ⟨e, hk⟩ := un e
    cases o with
    | lst us =>
      obtain ⟨b, xs, m, h, r'⟩ := ok.obj k _ e
      exact ⟨b, xs, by show (z.μ.take n)[k]? = _; rw [List.getElem?_take_of_lt hk]; exact m, h, same (Nat.le_of_lt hk) (fun m hm => ok.ref k us m e hm) r'⟩
    | dead => trivial
end
end MP
end

section
set_option maxHeartbeats 4000000
namespace MP
open PySem PySem.Spec PyProof.Rows L2

/-! ### data read by the library's rules -/
mutual
theorem toPy_depth : ∀ x : D, x.toPy.depth = x.depth
  | .non | .bl _ | .int _ | .str _ => by simp [D.toPy, D.depth, PyData.depth]
  | .tup xs => by simp [D.toPy, D.depth, PyData.depth, toPys_depth xs]
  | .lst xs => by simp [D.toPy, D.depth, PyData.depth, toPys_depth xs]
theorem toPys_depth : ∀ xs : List D, PyData.depthAll (D.toPys xs) = D.depths xs
  | [] => by simp [D.toPys, D.depths, PyData.depthAll]
  | x :: xs => by simp [D.toPys, D.depths, PyData.depthAll, toPy_depth x, toPys_depth xs]
end
mutual
theorem toPy_plain : ∀ x : D, x.toPy.plain = true
  | .non | .bl _ | .int _ | .str _ => by simp [D.toPy, PyData.plain]
  | .tup xs => by simp [D.toPy, PyData.plain, toPys_plain xs]
  | .lst xs => by simp [D.toPy, PyData.plain, toPys_plain xs]
theorem toPys_plain : ∀ xs : List D, PyData.plainAll (D.toPys xs) = true
  | [] => by simp [D.toPys, PyData.plainAll]
  | x :: xs => by simp [D.toPys, PyData.plainAll, toPy_plain x, toPys_plain xs]
end
mutual
theorem toPy_eqv : ∀ x y : D, PyData.eqv x.toPy y.toPy = x.eqv y
  | .non, y => by cases y <;> simp [D.toPy, D.eqv, PyData.eqv]
  | .bl _, y => by cases y <;> simp [D.toPy, D.eqv, PyData.eqv]
  | .int _, y => by cases y <;> simp [D.toPy, D.eqv, PyData.eqv]
  | .str _, y => by cases y <;> simp [D.toPy, D.eqv, PyData.eqv]
  | .tup xs, y => by
    cases y with
    | tup ys => simp [D.toPy, D.eqv, PyData.eqv, toPys_eqv xs ys]
    | _ => simp [D.toPy, D.eqv, PyData.eqv]
  | .lst xs, y => by
    cases y with
    | lst ys => simp [D.toPy, D.eqv, PyData.eqv, toPys_eqv xs ys]
    | _ => simp [D.toPy, D.eqv, PyData.eqv]
theorem toPys_eqv : ∀ xs ys : List D, PyData.eqvAll (D.toPys xs) (D.toPys ys) = D.eqvs xs ys
  | [], [] => by simp [D.toPys, D.eqvs, PyData.eqvAll]
  | [], _ :: _ => by simp [D.toPys, D.eqvs, PyData.eqvAll]
  | _ :: _, [] => by simp [D.toPys, D.eqvs, PyData.eqvAll]
  | x :: xs, y :: ys => by simp [D.toPys, D.eqvs, PyData.eqvAll, toPy_eqv x y, toPys_eqv xs ys]
end
mutual
theorem toPy_alike : ∀ x y : D, PySem.W.alike x.toPy y.toPy = x.alike y
  | .non, y => by cases y <;> simp [D.toPy, D.alike, PySem.W.alike]
  | .bl _, y => by cases y <;> simp [D.toPy, D.alike, PySem.W.alike]
  | .int _, y => by cases y <;> simp [D.toPy, D.alike, PySem.W.alike]
  | .str _, y => by cases y <;> simp [D.toPy, D.alike, PySem.W.alike]
  | .tup xs, y => by
    cases y with
    | tup ys => simp [D.toPy, D.alike, PySem.W.alike, toPys_alike xs ys]
    | _ => simp [D.toPy, D.alike, PySem.W.alike]
  | .lst xs, y => by
    cases y with
    | lst ys => simp [D.toPy, D.alike, PySem.W.alike, toPys_alike xs ys]
    | _ => simp [D.toPy, D.alike, PySem.W.alike]
theorem toPys_alike : ∀ xs ys : List D, PySem.W.alikeAll (D.toPys xs) (D.toPys ys) = D.alikes xs ys
  | [], _ => by simp [D.toPys, D.alikes, PySem.W.alikeAll]
  | _ :: _, [] => by simp [D.toPys, D.alikes, PySem.W.alikeAll]
  | x :: xs, y :: ys => by simp [D.toPys, D.alikes, PySem.W.alikeAll, toPy_alike x y, toPys_alike xs ys]
end
theorem small_depth : ∀ {x : D}, x.small = true → x.depth ≤ 1
  | .non, _ | .bl _, _ | .int _, _ | .str _, _ => by simp [D.depth]
  | .tup [], _ => by simp [D.depth, D.depths]
  | .lst [], _ => by simp [D.depth, D.depths]
  | .tup (_ :: _), h => by simp [D.small] at h
  | .lst (_ :: _), h => by simp [D.small] at h
theorem ok2_depth {x y : D} (h : x.ok2 y = true) : min x.toPy.depth y.toPy.depth ≤ 100 := by
  rw [toPy_depth, toPy_depth]
  simp only [D.ok2, Bool.or_eq_true, decide_eq_true_eq] at h
  rcases h with (h | h) | h
  · have := small_depth h; omega
  · have := small_depth h; omega
  · exact h

section
variable {K : PySem.W.Frag} {z z' : Z}
theorem TupAt.sq {a : Addr} {vs : List V} (h : TupAt K z a vs) : SqT K z.H a vs := by
  rcases h with ⟨h, _⟩ | h
  · exact .inl h
  · exact .inr h
theorem ScrAt.sq {a : Addr} {vs : List V} (h : ScrAt K z a vs) : SqL K z.H a vs := by
  rcases h with ⟨h, _⟩ | h
  · exact .inl h
  · exact .inr h
mutual
theorem RD.dp : ∀ (x : D) (v : V), RD K z x v → Dp K z.H v x.toPy
  | .non, v, h => by cases h; simp only [D.toPy]; exact .non
  | .bl b, v, h => by cases h; simp only [D.toPy]; exact .bl b
  | .int i, v, h => by cases h; simp only [D.toPy]; exact .int i
  | .str s, v, h => by cases h; simp only [D.toPy]; exact .str s
  | .tup xs, v, h => by
    obtain ⟨a, vs, e, t, r⟩ := h
    subst e
    simp only [D.toPy]
    exact .tup t.sq (RDs.dp xs vs r)
  | .lst xs, v, h => by
    obtain ⟨a, vs, e, ⟨t, m⟩, r⟩ := h
    subst e
    simp only [D.toPy]
    exact .lst (SqL.of t) (RDs.dp xs vs r)
theorem RDs.dp : ∀ (xs : List D) (vs : List V), RDs K z xs vs → DpAll K z.H vs (D.toPys xs)
  | [], vs, h => by cases h; simp only [D.toPys]; exact .nil
  | x :: xs, vs, h => by
    obtain ⟨v, r, e, h1, h2⟩ := h
    subst e
    simp only [D.toPys]
    exact .cons (RD.dp x v h1) (RDs.dp xs r h2)
end
theorem lstOf_at (ok : z.Ok K) {w : W} {v : V} {ws : List W} (r : RW K z w v) (h : lstOf z.S w = some ws) : ∃ a vs, v = .ref a ∧ z.H a = some (.lst vs) ∧ RWs K z ws vs := by
  unfold lstOf at h
  split at h
  · cases h
    obtain ⟨a, vs, e, ⟨t, _⟩, q⟩ := r
    exact ⟨a, vs, e, t, RWs.map_d q⟩
  · rename_i n
    split at h
    · rename_i us e
      cases h
      obtain ⟨a, rfl, m⟩ := r
      obtain ⟨a', vs, m', t, q⟩ := ok.obj n _ e
      rw [m] at m'
      cases m'
      exact ⟨a, vs, rfl, t, q⟩
    · cases h
  · cases h
theorem seqOf_at (ok : z.Ok K) {w : W} {v : V} {ws : List W} (r : RW K z w v) (h : seqOf z.S w = some ws) : ∃ a vs, v = .ref a ∧ (SqL K z.H a vs ∨ SqT K z.H a vs) ∧ RWs K z ws vs := by
  unfold seqOf at h
  split at h
  · cases h
    obtain ⟨a, vs, e, t, q⟩ := r
    exact ⟨a, vs, e, .inr t.sq, RWs.map_d q⟩
  · cases h
    obtain ⟨a, vs, e, ⟨t, _⟩, q⟩ := r
    exact ⟨a, vs, e, .inl (SqL.of t), RWs.map_d q⟩
  · cases h
    obtain ⟨a, vs, e, t, q⟩ := r
    exact ⟨a, vs, e, .inl t.sq, RWs.map_d q⟩
  · rename_i n
    split at h
    · rename_i us e
      cases h
      obtain ⟨a, rfl, m⟩ := r
      obtain ⟨a', vs, m', t, q⟩ := ok.obj n _ e
      rw [m] at m'
      cases m'
      exact ⟨a, vs, rfl, .inl (SqL.of t), q⟩
    · cases h
  · cases h
theorem lseqOf_at (ok : z.Ok K) {w : W} {v : V} {ws : List W} (r : RW K z w v) (h : lseqOf z.S w = some ws) : ∃ a vs, v = .ref a ∧ SqL K z.H a vs ∧ RWs K z ws vs := by
  unfold lseqOf at h
  split at h
  · cases h
    obtain ⟨a, vs, e, ⟨t, _⟩, q⟩ := r
    exact ⟨a, vs, e, SqL.of t, RWs.map_d q⟩
  · cases h
    obtain ⟨a, vs, e, t, q⟩ := r
    exact ⟨a, vs, e, t.sq, RWs.map_d q⟩
  · rename_i n
    split at h
    · rename_i us e
      cases h
      obtain ⟨a, rfl, m⟩ := r
      obtain ⟨a', vs, m', t, q⟩ := ok.obj n _ e
      rw [m] at m'
      cases m'
      exact ⟨a, vs, rfl, SqL.of t, q⟩
    · cases h
  · cases h
theorem datOf_dp (ok : z.Ok K) {w : W} {v : V} {x : D} (r : RW K z w v) (h : datOf z.S w = some x) : Dp K z.H v x.toPy := by
  unfold datOf at h
  split at h
  · cases h
    exact RD.dp _ _ r
  · rename_i n
    split at h
    · rename_i us e
      split at h
      · rename_i xs p
        cases h
        obtain ⟨a, rfl, m⟩ := r
        obtain ⟨a', vs, m', t, q⟩ := ok.obj n _ e
        rw [m] at m'
        cases m'
        simp only [D.toPy]
        exact .lst (SqL.of t) (RDs.dp _ _ (q.pures p))
      · cases h
    · cases h
  · cases h

/-! ### what a result asks -/
def OKQ (K : PySem.W.Frag) (z : Z) (r : R W) (Q : VK) : Prop := match r with
  | .ok w S' => ∀ z' v, z.le z' → z'.Ok K → z'.S = S' → RW K z' w v → Q v z'.H
  | _ => False
theorem OKQ.same {w : W} {v : V} {Q : VK} (ok : z.Ok K) (r : RW K z w v) (h : OKQ K z (.ok w z.S) Q) : Q v z.H := h z v (Z.le.refl z) ok rfl r
theorem OKQ.new {x : D} {o : HO} {p : Addr} {Q : VK} (ok : z.Ok K) (h : OKQ K z (.ok (.d x) z.S) Q) (hp : z.H p = none) (r : RD K (z.withH (upd z.H p o)) x (.ref p)) : Q (.ref p) (upd z.H p o) :=
  h (z.withH (upd z.H p o)) (.ref p) (Z.le_new ok hp) (ok.new hp) rfl r
theorem OKQ.tup {xs : List D} {vs : List V} {p : Addr} {Q : VK} (ok : z.Ok K) (h : OKQ K z (.ok (.d (.tup xs)) z.S) Q) (r : RDs K z xs vs) (hp : z.H p = none) : Q (.ref p) (upd z.H p (.tup vs)) :=
  h.new ok hp ⟨p, vs, rfl, .inl ⟨.inl upd_same, (ok.not_mu hp : ¬ z.Mu p)⟩, RDs.mono (Z.le_new ok hp).keep _ _ r⟩
theorem OKQ.lst {xs : List D} {vs : List V} {p : Addr} {Q : VK} (ok : z.Ok K) (h : OKQ K z (.ok (.d (.lst xs)) z.S) Q) (r : RDs K z xs vs) (hp : z.H p = none) : Q (.ref p) (upd z.H p (.lst vs)) :=
  h.new ok hp ⟨p, vs, rfl, ⟨upd_same, (ok.not_mu hp : ¬ z.Mu p)⟩, RDs.mono (Z.le_new ok hp).keep _ _ r⟩
theorem OKQ.mkL {new : Bool} {ws : List W} {vs : List V} {p : Addr} {Q : VK} (ok : z.Ok K) (h : OKQ K z (mkL new ws z.S) Q) (r : RWs K z ws vs) (hp : z.H p = none) : Q (.ref p) (upd z.H p (.lst vs)) := by
  unfold MP.mkL at h
  split at h
  · obtain ⟨ok1, l1⟩ := ok.alloc hp r
    refine h _ (.ref p) l1 ok1 rfl ⟨p, rfl, ?_⟩
    show (z.μ ++ [p])[z.S.length]? = some p
    rw [← ok.len, List.getElem?_append_right (Nat.le_refl _)]
    simp
  · split at h
    · rename_i xs e
      exact OKQ.lst ok h (r.pures e) hp
    · exact h.elim
theorem OKQ.no {Q : VK} (h : OKQ K z .no Q) : False := h
end

/-! ### operators -/
/-- f of two values by the rule r -/
def P2 (K : PySem.W.Frag) (f : W → W → Store → R W) (r : R2) : Prop := ∀ (z : Z) (w1 w2 : W) (v1 v2 : V) (Q : VK), z.Ok K → RW K z w1 v1 → RW K z w2 v2 → OKQ K z (f w1 w2 z.S) Q → r v1 v2 z.H Q
def P1 (K : PySem.W.Frag) (f : W → Store → R W) (r : V → Hp → VK → Prop) : Prop := ∀ (z : Z) (w1 : W) (v1 : V) (Q : VK), z.Ok K → RW K z w1 v1 → OKQ K z (f w1 z.S) Q → r v1 z.H Q
/-- f of a list of values -/
def PN (K : PySem.W.Frag) (f : List W → Store → R W) (r : List V → Hp → VK → Prop) : Prop := ∀ (z : Z) (ws : List W) (vs : List V) (Q : VK), z.Ok K → RWs K z ws vs → OKQ K z (f ws z.S) Q → r vs z.H Q

section
variable {X : Cx} {K : PySem.W.Frag} {z : Z}
theorem rw_int {i : Int} : RW K z (.d (.int i)) (.int i) := rfl
theorem rw_str {i : Str} : RW K z (.d (.str i)) (.str i) := rfl
theorem rw_bl {i : Bool} : RW K z (.d (.bl i)) (.bl i) := rfl
theorem rw_non : RW K z (.d .non) .non := rfl
theorem line_eq : line = sizeLine := by rw [sizeLine_eq]
theorem le_line {n : Nat} (h : n ≤ line) : n ≤ sizeLine := by rw [← line_eq]; exact h
theorem lt_line {n : Nat} (h : n < line) : n < sizeLine := by rw [← line_eq]; exact h
def rAddA (K : PySem.W.Frag) : R2 := fun x y H Q => (∃ i j, x = .int i ∧ y = .int j ∧ Q (.int (i + j)) H) ∨ ((∃ i j, x = .str i ∧ y = .str j ∧ i.length + j.length ≤ sizeLine ∧ Q (.str (i ++ j)) H) ∨ (rCatA K x y H Q ∨ rCat x y H Q))
theorem op_addA : OpR X (binaryOp .Add) (rAddA X.K) := op_add.or (op_add_str.or (op_catA.or op_cat))
theorem RDs.nil_of {xs : List D} {vs : List V} (h : RDs K z xs vs) (e : vs = []) : xs = [] := by
  have := h.length
  rw [e] at this
  exact List.eq_nil_of_length_eq_zero this
theorem p_add {new : Bool} : P2 K (addW new) (rAddA K) := by
  intro z w1 w2 v1 v2 Q ok r1 r2 h
  unfold addW at h
  split at h
  · cases r1; cases r2
    exact .inl ⟨_, _, rfl, rfl, h.same ok rw_int⟩
  · cases r1; cases r2
    split at h
    · rename_i hl
      exact .inr (.inl ⟨_, _, rfl, rfl, le_line hl, h.same ok rw_str⟩)
    · exact h.elim
  · split at h
    · rename_i hl
      obtain ⟨a, xs, rfl, ta, ra⟩ := r1
      obtain ⟨b, ys, rfl, tb, rb⟩ := r2
      refine .inr (.inr (.inl ⟨a, b, xs, ys, rfl, rfl, ta.sq, tb.sq, le_line (by rw [← ra.length, ← rb.length]; exact hl), fun e => ?_, fun _ e => ?_, fun _ _ p hp => h.tup ok (ra.append rb) hp⟩))
      · rw [ra.nil_of e, List.nil_append] at h
        exact h.same ok (show RW K z (.d (.tup _)) (.ref b) from ⟨b, ys, rfl, tb, rb⟩)
      · rw [rb.nil_of e, List.append_nil] at h
        exact h.same ok (show RW K z (.d (.tup _)) (.ref a) from ⟨a, xs, rfl, ta, ra⟩)
    · exact h.elim
  · split at h
    · rename_i xs ys e1 e2
      split at h
      · rename_i hl
        obtain ⟨a, vs, rfl, ta, ra⟩ := lstOf_at ok r1 e1
        obtain ⟨b, us, rfl, tb, rb⟩ := lstOf_at ok r2 e2
        exact .inr (.inr (.inr ⟨a, b, vs, us, rfl, rfl, ta, tb, le_line (by rw [← ra.length, ← rb.length]; exact hl), fun p hp => h.mkL ok (ra.append rb) hp⟩))
      · exact h.elim
    · exact h.elim
theorem smallI_iff {i : Int} (h : smallI i = true) : -(2 ^ 64) < i ∧ i < 2 ^ 64 := by
  simp only [smallI, Bool.and_eq_true, decide_eq_true_eq] at h
  omega
def rMulA : R2 := fun x y H Q => rI CMul (fun i j => .int (i * j)) x y H Q ∨ rRep x y H Q
theorem op_mulA : OpR X (binaryOp .Mult) rMulA := op_mul.or op_rep
theorem p_mul {new : Bool} : P2 K (mulW new) rMulA := by
  intro z w1 w2 v1 v2 Q ok r1 r2 h
  unfold mulW at h
  split at h
  · cases r1; cases r2
    split at h
    · rename_i hs
      rw [Bool.or_eq_true] at hs
      exact .inl ⟨_, _, rfl, rfl, hs.imp smallI_iff smallI_iff, h.same ok rw_int⟩
    · exact h.elim
  · cases r2
    split at h
    · rename_i xs e1
      split at h
      · rename_i hs
        simp only [Bool.and_eq_true, decide_eq_true_eq] at hs
        obtain ⟨a, vs, rfl, ta, ra⟩ := lstOf_at ok r1 e1
        exact .inr ⟨a, _, vs, rfl, rfl, ta, by omega, by omega, le_line (by rw [← ra.length]; exact hs.2), fun p hp => h.mkL ok (ra.rep _) hp⟩
      · exact h.elim
    · exact h.elim
  · exact h.elim
def opOf : Op2 → Operator
  | .add => .Add | .sub => .Sub | .mul => .Mult | .fdiv => .FloorDiv | .mod => .Mod | .pow => .Pow
def rBin (K : PySem.W.Frag) : Op2 → R2
  | .add => rAddA K | .sub => rI0 fun i j => .int (i - j) | .mul => rMulA | .fdiv => rI CDiv fun i j => .int (i / j) | .mod => rI (fun _ j => 0 < j) fun i j => .int (i % j) | .pow => rI CPow fun i j => .int (i ^ j.toNat)
theorem op_bin : ∀ o : Op2, OpR X (binaryOp (opOf o)) (rBin X.K o)
  | .add => op_addA | .sub => op_sub | .mul => op_mulA | .fdiv => op_fdiv | .mod => op_mod | .pow => op_pow
theorem p_bin {new : Bool} : ∀ o : Op2, P2 K (binW o new) (rBin K o)
  | .add => p_add
  | .mul => p_mul
  | .sub => by
    intro z w1 w2 v1 v2 Q ok r1 r2 h
    simp only [binW] at h
    split at h
    · cases r1; cases r2
      exact ⟨_, _, rfl, rfl, h.same ok rw_int⟩
    · exact h.elim
  | .fdiv => by
    intro z w1 w2 v1 v2 Q ok r1 r2 h
    simp only [binW] at h
    split at h
    · cases r1; cases r2
      split at h
      · rename_i hs
        simp only [Bool.and_eq_true, decide_eq_true_eq] at hs
        exact ⟨_, _, rfl, rfl, hs, h.same ok rw_int⟩
      · exact h.elim
    · exact h.elim
  | .mod => by
    intro z w1 w2 v1 v2 Q ok r1 r2 h
    simp only [binW] at h
    split at h
    · cases r1; cases r2
      split at h
      · rename_i hs
        exact ⟨_, _, rfl, rfl, hs, h.same ok rw_int⟩
      · exact h.elim
    · exact h.elim
  | .pow => by
    intro z w1 w2 v1 v2 Q ok r1 r2 h
    simp only [binW] at h
    split at h
    · cases r1; cases r2
      split at h
      · rename_i hs
        simp only [Bool.and_eq_true, decide_eq_true_eq] at hs
        exact ⟨_, _, rfl, rfl, ⟨hs.1.1, by omega, by omega⟩, h.same ok rw_int⟩
      · exact h.elim
    · exact h.elim
theorem un_negA : UnR X (unaryOp .USub) (rU fun i => .int (-i)) := un_neg
theorem p_neg : P1 K negW (rU fun i => .int (-i)) := by
  intro z w v Q ok r h
  unfold negW at h
  split at h
  · cases r
    exact ⟨_, rfl, h.same ok rw_int⟩
  · exact h.elim

/-! ### comparisons -/
theorem Inv.rd {pins : List (Addr × Obj)} {σ : L2.St} {H : Hp} {s : Shared} {d : PyData} {v : V} {u : Value} (I : Inv X pins σ H s) (h : Dp X.K H v d) (r : RelV v u) : ∃ as, Reads s.heap u d as := Dp.reads I d v u h r
def rEqP (K : PySem.W.Frag) (neg : Bool) : R2 := fun x y H Q => ∃ d e : D, Dp K H x d.toPy ∧ Dp K H y e.toPy ∧ d.ok2 e = true ∧ Q (.bl (if neg then !d.eqv e else d.eqv e)) H
theorem op_eqP (hu : X.A.units + 200 < cLine) : OpR X (compareOp .Eq) (rEqP X.K false) := by
  intro pins s σ H x y v u Q I rx ry h
  obtain ⟨d, e, hd, he, o, q⟩ := h
  obtain ⟨as, r1⟩ := Inv.rd I hd rx
  obtain ⟨bs, r2⟩ := Inv.rd I he ry
  have hm := ok2_depth o
  refine PySem.SeqAt.eq_plain r1 r2 (toPy_plain d) (toPy_plain e) (by omega) ⟨.bl _, H, I, rfl, ?_⟩
  rw [toPy_eqv]
  exact q
theorem op_neP (hu : X.A.units + 200 < cLine) : OpR X (compareOp .NotEq) (rEqP X.K true) := by
  intro pins s σ H x y v u Q I rx ry h
  obtain ⟨d, e, hd, he, o, q⟩ := h
  obtain ⟨as, r1⟩ := Inv.rd I hd rx
  obtain ⟨bs, r2⟩ := Inv.rd I he ry
  have hm := ok2_depth o
  refine PySem.SeqAt.ne_plain r1 r2 (toPy_plain d) (toPy_plain e) (by omega) ⟨.bl _, H, I, rfl, ?_⟩
  rw [toPy_eqv]
  exact q
theorem okB_some {o : Option Bool} {Q : VK} (h : OKQ K z (okB o z.S) Q) : ∃ b, o = some b ∧ OKQ K z (.ok (.d (.bl b)) z.S) Q := by
  cases o with
  | none => exact (show False from h).elim
  | some b => exact ⟨b, rfl, h⟩
theorem okB_neg {neg : Bool} {o : Option Bool} {Q : VK} (h : OKQ K z (okB (if neg then o.map (!·) else o) z.S) Q) : ∃ b, o = some b ∧ OKQ K z (.ok (.d (.bl (if neg then !b else b))) z.S) Q := by
  cases o with
  | none => cases neg <;> exact (show False from h).elim
  | some b => cases neg <;> exact ⟨b, rfl, h⟩
theorem eqW_some {S : Store} {a b : W} {c : Bool} (h : eqW S a b = some c) : ∃ x y, datOf S a = some x ∧ datOf S b = some y ∧ x.ok2 y = true ∧ c = x.eqv y := by
  unfold eqW at h
  split at h
  · rename_i x y e1 e2
    split at h
    · rename_i o
      exact ⟨x, y, e1, e2, o, (Option.some.inj h).symm⟩
    · cases h
  · cases h
theorem p_eq {neg : Bool} : P2 K (fun a b S => okB (if neg then (eqW S a b).map (!·) else eqW S a b) S) (rEqP K neg) := by
  intro z w1 w2 v1 v2 Q ok r1 r2 h
  obtain ⟨b, e, h⟩ := okB_neg h
  obtain ⟨x, y, e1, e2, o, rfl⟩ := eqW_some e
  exact ⟨x, y, datOf_dp ok r1 e1, datOf_dp ok r2 e2, o, h.same ok rw_bl⟩
def rLtP (K : PySem.W.Frag) (sw : Bool) : R2 := fun x y H Q => (∃ i j, x = .int i ∧ y = .int j ∧ Q (.bl (if sw then decide (j < i) else decide (i < j))) H) ∨
  ∃ d e : D, Dp K H x d.toPy ∧ Dp K H y e.toPy ∧ d.alike e = true ∧ d.isNon = false ∧ d.ok2 e = true ∧ Q (.bl (if sw then e.lt d else d.lt e)) H
theorem isNon_py {d : D} (h : d.isNon = false) : d.toPy ≠ .none := by
  cases d <;> simp [D.toPy, D.isNon] at h ⊢
theorem op_ltP (hu : X.A.units + 200 < cLine) : OpR X (compareOp .Lt) (rLtP X.K false) := by
  refine OpR.or op_lt ?_
  intro pins s σ H x y v u Q I rx ry h
  obtain ⟨d, e, hd, he, al, nn, o, q⟩ := h
  obtain ⟨as, r1⟩ := Inv.rd I hd rx
  obtain ⟨bs, r2⟩ := Inv.rd I he ry
  have hm := ok2_depth o
  exact PySem.W.lt_data r1 r2 (by rw [toPy_alike]; exact al) (isNon_py nn) (by omega) ⟨.bl _, H, I, rfl, q⟩
theorem op_gtP (hu : X.A.units + 200 < cLine) : OpR X (compareOp .Gt) (rLtP X.K true) := by
  refine OpR.or op_gt ?_
  intro pins s σ H x y v u Q I rx ry h
  obtain ⟨d, e, hd, he, al, nn, o, q⟩ := h
  obtain ⟨as, r1⟩ := Inv.rd I hd rx
  obtain ⟨bs, r2⟩ := Inv.rd I he ry
  have hm := ok2_depth o
  exact PySem.W.gt_data r1 r2 (by rw [toPy_alike]; exact al) (isNon_py nn) (by omega) ⟨.bl _, H, I, rfl, q⟩
mutual
theorem alike_comm : ∀ x y : D, x.alike y = y.alike x
  | .non, y => by cases y <;> simp [D.alike]
  | .bl _, y => by cases y <;> simp [D.alike]
  | .int _, y => by cases y <;> simp [D.alike]
  | .str _, y => by cases y <;> simp [D.alike]
  | .tup xs, y => by
    cases y with
    | tup ys => simp [D.alike, alikes_comm xs ys]
    | _ => simp [D.alike]
  | .lst xs, y => by
    cases y with
    | lst ys => simp [D.alike, alikes_comm xs ys]
    | _ => simp [D.alike]
theorem alikes_comm : ∀ xs ys : List D, D.alikes xs ys = D.alikes ys xs
  | [], [] => rfl
  | [], _ :: _ => by simp [D.alikes]
  | _ :: _, [] => by simp [D.alikes]
  | x :: xs, y :: ys => by simp [D.alikes, alike_comm x y, alikes_comm xs ys]
end
theorem ok2_comm (x y : D) : x.ok2 y = y.ok2 x := by
  unfold D.ok2
  rw [Nat.min_comm, Bool.or_comm x.small y.small]
theorem ltW_some {a b : W} {c : Bool} (h : ltW a b = some c) : (∃ i j, a = .d (.int i) ∧ b = .d (.int j) ∧ c = decide (i < j)) ∨ ∃ x y, a = .d x ∧ b = .d y ∧ x.alike y = true ∧ x.isNon = false ∧ x.ok2 y = true ∧ c = x.lt y := by
  unfold ltW at h
  split at h
  · exact .inl ⟨_, _, rfl, rfl, (Option.some.inj h).symm⟩
  · split at h
    · rename_i o
      simp only [Bool.and_eq_true, Bool.not_eq_true'] at o
      exact .inr ⟨_, _, rfl, rfl, o.1.1, o.1.2, o.2, (Option.some.inj h).symm⟩
    · cases h
  · cases h
theorem p_lt : P2 K (fun a b S => okB (ltW a b) S) (rLtP K false) := by
  intro z w1 w2 v1 v2 Q ok r1 r2 h
  obtain ⟨b, e, h⟩ := okB_some h
  rcases ltW_some e with ⟨i, j, rfl, rfl, rfl⟩ | ⟨x, y, rfl, rfl, al, nn, o, rfl⟩
  · cases r1; cases r2
    exact .inl ⟨_, _, rfl, rfl, h.same ok rw_bl⟩
  · exact .inr ⟨x, y, RD.dp _ _ r1, RD.dp _ _ r2, al, nn, o, h.same ok rw_bl⟩
theorem alike_non {x y : D} (h : x.alike y = true) (n : x.isNon = false) : y.isNon = false := by
  cases x <;> cases y <;> simp [D.alike, D.isNon] at h n ⊢
theorem p_gt : P2 K (fun a b S => okB (ltW b a) S) (rLtP K true) := by
  intro z w1 w2 v1 v2 Q ok r1 r2 h
  obtain ⟨b, e, h⟩ := okB_some h
  rcases ltW_some e with ⟨i, j, rfl, rfl, rfl⟩ | ⟨x, y, rfl, rfl, al, nn, o, rfl⟩
  · cases r1; cases r2
    exact .inl ⟨_, _, rfl, rfl, h.same ok rw_bl⟩
  · exact .inr ⟨y, x, RD.dp _ _ r1, RD.dp _ _ r2, by rw [alike_comm]; exact al, alike_non al nn, by rw [ok2_comm]; exact o, h.same ok rw_bl⟩
theorem leW_some {a b : W} {c : Bool} (h : leW a b = some c) : ∃ i j, a = .d (.int i) ∧ b = .d (.int j) ∧ c = decide (i ≤ j) := by
  unfold leW at h
  split at h
  · exact ⟨_, _, rfl, rfl, (Option.some.inj h).symm⟩
  · cases h
theorem p_le : P2 K (fun a b S => okB (leW a b) S) (rI0 fun i j => .bl (decide (i ≤ j))) := by
  intro z w1 w2 v1 v2 Q ok r1 r2 h
  obtain ⟨b, e, h⟩ := okB_some h
  obtain ⟨i, j, rfl, rfl, rfl⟩ := leW_some e
  cases r1; cases r2
  exact ⟨_, _, rfl, rfl, h.same ok rw_bl⟩
theorem p_ge : P2 K (fun a b S => okB (leW b a) S) (rI0 fun i j => .bl (decide (j ≤ i))) := by
  intro z w1 w2 v1 v2 Q ok r1 r2 h
  obtain ⟨b, e, h⟩ := okB_some h
  obtain ⟨i, j, rfl, rfl, rfl⟩ := leW_some e
  cases r1; cases r2
  exact ⟨_, _, rfl, rfl, h.same ok rw_bl⟩
def rIs (neg : Bool) : R2 := fun x y H Q => y = .non ∧ Q (.bl (if neg then !decide (x = .non) else decide (x = .non))) H
theorem isNon_iff {w : W} {v : V} (r : RW K z w v) : decide (v = .non) = isNonW w := by
  cases w with
  | d x =>
    cases x with
    | non => cases r; rfl
    | bl _ => cases r; rfl
    | int _ => cases r; rfl
    | str _ => cases r; rfl
    | tup _ => obtain ⟨a, _, rfl, _⟩ := r; rfl
    | lst _ => obtain ⟨a, _, rfl, _⟩ := r; rfl
  | ref _ => obtain ⟨a, rfl, _⟩ := r; rfl
  | scr _ => obtain ⟨a, _, rfl, _⟩ := r; rfl
theorem p_is {neg : Bool} : P2 K (fun a b S => okB (if neg then (if isNonW b then some (!isNonW a) else none) else (if isNonW b then some (isNonW a) else none)) S) (rIs neg) := by
  intro z w1 w2 v1 v2 Q ok r1 r2 h
  obtain ⟨b, e, h⟩ := okB_some h
  by_cases hb : isNonW w2 = true
  · have e2 := isNon_iff r2
    rw [hb] at e2
    refine ⟨of_decide_eq_true e2, ?_⟩
    rw [isNon_iff r1]
    cases neg with
    | true =>
      simp only [if_pos hb, if_true, Option.some.injEq] at e
      subst e
      exact h.same ok rw_bl
    | false =>
      simp only [if_pos hb, Bool.false_eq_true, if_false, Option.some.injEq] at e
      subst e
      exact h.same ok rw_bl
  · cases neg <;> simp [hb] at e
/-- x in y: a text in a text; data in a list or a tuple of data -/
def rInP (K : PySem.W.Frag) (neg : Bool) : R2 := fun x y H Q => (∃ i j, x = .str i ∧ y = .str j ∧ Q (.bl (if neg then !(!(Builtin.Str.occurrences j i 0 j.length 1).isEmpty) else !(Builtin.Str.occurrences j i 0 j.length 1).isEmpty)) H) ∨
  ∃ (d : D) (es : List D), Dp K H x d.toPy ∧ (Dp K H y (.list (D.toPys es)) ∨ Dp K H y (.tuple (D.toPys es))) ∧ min (D.depths es) d.depth ≤ 100 ∧ Q (.bl (if neg then !es.any fun y => y.eqv d else es.any fun y => y.eqv d)) H
theorem any_toPys (d : D) : ∀ es : List D, ((D.toPys es).any fun y => PyData.eqv y d.toPy) = es.any fun y => y.eqv d
  | [] => by simp [D.toPys]
  | x :: xs => by simp [D.toPys, toPy_eqv, any_toPys d xs]
theorem op_inP (hu : X.A.units + 200 < cLine) : OpR X (compareOp .In) (rInP X.K false) := by
  refine OpR.or op_in_str ?_
  intro pins s σ H x y v u Q I rx ry h
  obtain ⟨d, es, hd, he, o, q⟩ := h
  obtain ⟨as, r1⟩ := Inv.rd I hd rx
  rcases he with he | he
  · obtain ⟨bs, r2⟩ := Inv.rd I he ry
    refine PySem.SeqAt.in_list_data r2 r1 (toPys_plain es) (toPy_plain d) (by rw [toPys_depth, toPy_depth]; omega) ⟨.bl _, H, I, rfl, ?_⟩
    rw [any_toPys]
    exact q
  · obtain ⟨bs, r2⟩ := Inv.rd I he ry
    refine PySem.SeqAt.in_tuple_data r2 r1 (toPys_plain es) (toPy_plain d) (by rw [toPys_depth, toPy_depth]; omega) ⟨.bl _, H, I, rfl, ?_⟩
    rw [any_toPys]
    exact q
theorem op_ninP (hu : X.A.units + 200 < cLine) : OpR X (compareOp .NotIn) (rInP X.K true) := by
  refine OpR.or op_notin_str ?_
  intro pins s σ H x y v u Q I rx ry h
  obtain ⟨d, es, hd, he, o, q⟩ := h
  obtain ⟨as, r1⟩ := Inv.rd I hd rx
  rcases he with he | he
  · obtain ⟨bs, r2⟩ := Inv.rd I he ry
    refine PySem.SeqAt.notIn_list_data r2 r1 (toPys_plain es) (toPy_plain d) (by rw [toPys_depth, toPy_depth]; omega) ⟨.bl _, H, I, rfl, ?_⟩
    rw [any_toPys]
    exact q
  · obtain ⟨bs, r2⟩ := Inv.rd I he ry
    refine PySem.SeqAt.notIn_tuple_data r2 r1 (toPys_plain es) (toPy_plain d) (by rw [toPys_depth, toPy_depth]; omega) ⟨.bl _, H, I, rfl, ?_⟩
    rw [any_toPys]
    exact q
theorem seqOf_dp (ok : z.Ok K) {w : W} {v : V} {ws : List W} {es : List D} (r : RW K z w v) (h : seqOf z.S w = some ws) (p : pures ws = some es) : Dp K z.H v (.list (D.toPys es)) ∨ Dp K z.H v (.tuple (D.toPys es)) := by
  obtain ⟨a, vs, rfl, t, q⟩ := seqOf_at ok r h
  have q' := RDs.dp _ _ (q.pures p)
  rcases t with t | t
  · exact .inl (.lst t q')
  · exact .inr (.tup t q')
theorem inW_some {S : Store} {a b : W} {c : Bool} (h : inW S a b = some c) : (∃ x y, a = .d (.str x) ∧ b = .d (.str y) ∧ c = !(Builtin.Str.occurrences y x 0 y.length 1).isEmpty) ∨
    ∃ x ws ys, a = .d x ∧ seqOf S b = some ws ∧ pures ws = some ys ∧ (x.small || decide (min (D.depths ys) x.depth ≤ 100)) = true ∧ c = ys.any fun y => y.eqv x := by
  unfold inW at h
  split at h
  · exact .inl ⟨_, _, rfl, rfl, (Option.some.inj h).symm⟩
  · split at h
    · rename_i ws e
      split at h
      · rename_i ys p
        split at h
        · rename_i o
          exact .inr ⟨_, ws, ys, rfl, e, p, o, (Option.some.inj h).symm⟩
        · cases h
      · cases h
    · cases h
  · cases h
theorem p_in {neg : Bool} : P2 K (fun a b S => okB (if neg then (inW S a b).map (!·) else inW S a b) S) (rInP K neg) := by
  intro z w1 w2 v1 v2 Q ok r1 r2 h
  obtain ⟨b, e, h⟩ := okB_neg h
  rcases inW_some e with ⟨x, y, rfl, rfl, rfl⟩ | ⟨x, ws, ys, rfl, e9, p, o, rfl⟩
  · cases r1; cases r2
    exact .inl ⟨_, _, rfl, rfl, h.same ok rw_bl⟩
  · refine .inr ⟨x, ys, RD.dp _ _ r1, seqOf_dp ok r2 e9 p, ?_, h.same ok rw_bl⟩
    simp only [Bool.or_eq_true, decide_eq_true_eq] at o
    rcases o with o | o
    · have := small_depth o; omega
    · exact o
def cmOf : Cm → CmpOp
  | .eq => .Eq | .ne => .NotEq | .lt => .Lt | .le => .LtE | .gt => .Gt | .ge => .GtE | .in_ => .In | .nin => .NotIn | .is_ => .Is | .isn => .IsNot
def rCm (K : PySem.W.Frag) : Cm → R2
  | .eq => rEqP K false | .ne => rEqP K true | .lt => rLtP K false | .gt => rLtP K true | .le => rI0 fun i j => .bl (decide (i ≤ j)) | .ge => rI0 fun i j => .bl (decide (j ≤ i))
  | .in_ => rInP K false | .nin => rInP K true | .is_ => rIs false | .isn => rIs true
theorem op_cm (hu : X.A.units + 200 < cLine) : ∀ o : Cm, OpR X (compareOp (cmOf o)) (rCm X.K o)
  | .eq => op_eqP hu | .ne => op_neP hu | .lt => op_ltP hu | .gt => op_gtP hu | .le => op_le | .ge => op_ge | .in_ => op_inP hu | .nin => op_ninP hu | .is_ => op_isN | .isn => op_notN
theorem p_cm : ∀ o : Cm, P2 K (fun a b S => okB (cmpO o S a b) S) (rCm K o)
  | .eq => p_eq (neg := false) | .ne => p_eq (neg := true) | .lt => p_lt | .gt => p_gt | .le => p_le | .ge => p_ge | .in_ => p_in (neg := false) | .nin => p_in (neg := true) | .is_ => p_is (neg := false) | .isn => p_is (neg := true)
end
end MP
end

section
set_option maxHeartbeats 4000000
namespace MP
open PySem PySem.Spec PyProof.Rows L2

/-! ### what a piece of text does, as a function -/
abbrev FE := St → Store → R W
abbrev FA := St → Store → R (List W)
abbrev FS := St → Store → F
def eVar (i : Nat) : FE := fun σ S => match σ[i]? with
  | some (some w) => .ok w S
  | _ => .no
def eC (w : W) : FE := fun _ S => .ok w S
def e1 (f : W → Store → R W) (a : FE) : FE := fun σ S => (a σ S).bind f
def e2 (f : W → W → Store → R W) (a b : FE) : FE := fun σ S => (a σ S).bind fun x S1 => (b σ S1).bind fun y S2 => f x y S2
def eN (f : List W → Store → R W) (a : FA) : FE := fun σ S => (a σ S).bind f
def aNil : FA := fun _ S => .ok [] S
def aCons (a : FE) (r : FA) : FA := fun σ S => (a σ S).bind fun x S1 => (r σ S1).bind fun xs S2 => .ok (x :: xs) S2
def eIte (c a b : FE) : FE := fun σ S => (c σ S).bind fun x S1 => match x with
  | .d (.bl true) => a σ S1
  | .d (.bl false) => b σ S1
  | _ => .no
def eAnd (a b : FE) : FE := fun σ S => (a σ S).bind fun x S1 => match x with
  | .d (.bl true) => b σ S1
  | .d (.bl false) => .ok (.d (.bl false)) S1
  | _ => .no
def eOr (a b : FE) : FE := fun σ S => (a σ S).bind fun x S1 => match x with
  | .d (.bl true) => .ok (.d (.bl true)) S1
  | .d (.bl false) => b σ S1
  | _ => .no
def truW (S : Store) (w : W) : Option Bool := match seqOf S w with
  | some ws => some (!ws.isEmpty)
  | none => none
/-- nobody looks at it any more -/
def killW (w : W) (S : Store) : Store := match w with
  | .ref n => S.set n .dead
  | _ => S
def eOrT (a b : FE) : FE := fun σ S => (a σ S).bind fun x S1 => match truW S1 x with
  | some true => .ok x S1
  | some false => b σ (killW x S1)
  | none => .no
def eChain (o1 o2 : Cm) (a b c : FE) : FE := fun σ S => (a σ S).bind fun x S1 => (b σ S1).bind fun y S2 => match cmpO o1 S2 x y with
  | some true => (c σ S2).bind fun w S3 => okB (cmpO o2 S3 y w) S3
  | some false => .ok (.d (.bl false)) S2
  | none => .no
def tupW (ws : List W) (S : Store) : R W := match pures ws with
  | some xs => if xs.length ≤ line then .ok (.d (.tup xs)) S else .no
  | none => .no
def lstW (new : Bool) (ws : List W) (S : Store) : R W := if ws.length ≤ line then mkL new ws S else .no
/-! ### exceptions of the text: class and field -/
abbrev XTab := Nat → Value × Option Str
def XR (T : XTab) (K : PySem.W.Frag) (z : Z) (c : Nat) (x : D) (cls : Value) (d : Option Addr) : Prop :=
  cls = (T c).1 ∧ match (T c).2 with
    | none => x = .non
    | some f => ∃ dx v, d = some dx ∧ z.H dx = some (.xd [(f, v)]) ∧ ¬ z.Mu dx ∧ RD K z x v
section
variable (T : XTab) (K : PySem.W.Frag) (Wx : WX)
/-- what is wanted of an exception at the slots σ -/
def RunX (z : Z) (σ : L2.St) (c : Nat) (x : D) (S' : Store) : Prop := ∀ z' cls d, z.le z' → z'.Ok K → z'.S = S' → XR T K z' c x cls d → Wx cls d σ z'.H
def RunE (z : Z) (σ : L2.St) (r : R W) (Q : VK) : Prop := match r with
  | .ok w S' => ∀ z' v, z.le z' → z'.Ok K → z'.S = S' → RW K z' w v → Q v z'.H
  | .ex c x S' => RunX T K Wx z σ c x S'
  | .no => False
def RunA (z : Z) (σ : L2.St) (r : R (List W)) (Q : List V → Hp → Prop) : Prop := match r with
  | .ok ws S' => ∀ z' vs, z.le z' → z'.Ok K → z'.S = S' → RWs K z' ws vs → Q vs z'.H
  | .ex c x S' => RunX T K Wx z σ c x S'
  | .no => False
def RunT (z : Z) (σ : L2.St) (r : R W) (Q : Bool → Hp → Prop) : Prop := match r with
  | .ok w S' => ∃ b, w = .d (.bl b) ∧ ∀ z', z.le z' → z'.Ok K → z'.S = S' → Q b z'.H
  | .ex c x S' => RunX T K Wx z σ c x S'
  | .no => False
def tE (r : FE) : TE := fun σ H Q => ∃ z σd, z.H = H ∧ z.Ok K ∧ RS K z σd σ ∧ RunE T K Wx z σ (r σd z.S) Q
def tA (r : FA) : TA := fun σ H Q => ∃ z σd, z.H = H ∧ z.Ok K ∧ RS K z σd σ ∧ RunA T K Wx z σ (r σd z.S) Q
def tT (r : FE) : TT := fun σ H Q => ∃ z σd, z.H = H ∧ z.Ok K ∧ RS K z σd σ ∧ RunT T K Wx z σ (r σd z.S) Q
end
/-- no exception comes of f -/
def Calm1 (f : W → Store → R W) : Prop := ∀ w S c x S', f w S ≠ .ex c x S'
def Calm2 (f : W → W → Store → R W) : Prop := ∀ w u S c x S', f w u S ≠ .ex c x S'
def CalmN (f : List W → Store → R W) : Prop := ∀ ws S c x S', f ws S ≠ .ex c x S'

section
variable {T : XTab} {K : PySem.W.Frag} {Wx : WX} {z z1 : Z} {σ : L2.St}
theorem RunX.mono {c : Nat} {x : D} {S' : Store} (h : RunX T K Wx z σ c x S') (l : z.le z1) : RunX T K Wx z1 σ c x S' := fun z' cls d l' ok e r => h z' cls d (l.trans l') ok e r
theorem RunE.mono {r : R W} {Q : VK} (h : RunE T K Wx z σ r Q) (l : z.le z1) : RunE T K Wx z1 σ r Q := by
  cases r with
  | ok w S' => exact fun z' v l' ok e r => h z' v (l.trans l') ok e r
  | ex c x S' => exact RunX.mono h l
  | no => exact h
theorem RunA.mono {r : R (List W)} {Q : List V → Hp → Prop} (h : RunA T K Wx z σ r Q) (l : z.le z1) : RunA T K Wx z1 σ r Q := by
  cases r with
  | ok w S' => exact fun z' v l' ok e r => h z' v (l.trans l') ok e r
  | ex c x S' => exact RunX.mono h l
  | no => exact h
theorem RunT.mono {r : R W} {Q : Bool → Hp → Prop} (h : RunT T K Wx z σ r Q) (l : z.le z1) : RunT T K Wx z1 σ r Q := by
  cases r with
  | ok w S' => obtain ⟨b, e, h⟩ := h; exact ⟨b, e, fun z' l' ok e => h z' (l.trans l') ok e⟩
  | ex c x S' => exact RunX.mono h l
  | no => exact h
/-- behind a first value: E E -/
theorem RunE.step {r : R W} {f : W → Store → R W} {Q Q' : VK} (h : RunE T K Wx z σ (r.bind f) Q) (k : ∀ z1 w v, z.le z1 → z1.Ok K → RW K z1 w v → RunE T K Wx z1 σ (f w z1.S) Q → Q' v z1.H) : RunE T K Wx z σ r Q' := by
  cases r with
  | ok w S1 =>
    intro z1 v l1 ok1 e1 r1
    subst e1
    exact k z1 w v l1 ok1 r1 (RunE.mono h l1)
  | ex c x S' => exact h
  | no => exact h
theorem RunA.stepE {r : R W} {f : W → Store → R (List W)} {Q : List V → Hp → Prop} {Q' : VK} (h : RunA T K Wx z σ (r.bind f) Q) (k : ∀ z1 w v, z.le z1 → z1.Ok K → RW K z1 w v → RunA T K Wx z1 σ (f w z1.S) Q → Q' v z1.H) : RunE T K Wx z σ r Q' := by
  cases r with
  | ok w S1 =>
    intro z1 v l1 ok1 e1 r1
    subst e1
    exact k z1 w v l1 ok1 r1 (RunA.mono h l1)
  | ex c x S' => exact h
  | no => exact h
theorem RunA.stepA {r : R (List W)} {f : List W → Store → R (List W)} {Q Q' : List V → Hp → Prop} (h : RunA T K Wx z σ (r.bind f) Q) (k : ∀ z1 w v, z.le z1 → z1.Ok K → RWs K z1 w v → RunA T K Wx z1 σ (f w z1.S) Q → Q' v z1.H) : RunA T K Wx z σ r Q' := by
  cases r with
  | ok w S1 =>
    intro z1 v l1 ok1 e1 r1
    subst e1
    exact k z1 w v l1 ok1 r1 (RunA.mono h l1)
  | ex c x S' => exact h
  | no => exact h
theorem RunE.stepA {r : R (List W)} {f : List W → Store → R W} {Q : VK} {Q' : List V → Hp → Prop} (h : RunE T K Wx z σ (r.bind f) Q) (k : ∀ z1 w v, z.le z1 → z1.Ok K → RWs K z1 w v → RunE T K Wx z1 σ (f w z1.S) Q → Q' v z1.H) : RunA T K Wx z σ r Q' := by
  cases r with
  | ok w S1 =>
    intro z1 v l1 ok1 e1 r1
    subst e1
    exact k z1 w v l1 ok1 r1 (RunE.mono h l1)
  | ex c x S' => exact h
  | no => exact h
theorem RunT.step {r : R W} {f : W → Store → R W} {Q : Bool → Hp → Prop} {Q' : VK} (h : RunT T K Wx z σ (r.bind f) Q) (k : ∀ z1 w v, z.le z1 → z1.Ok K → RW K z1 w v → RunT T K Wx z1 σ (f w z1.S) Q → Q' v z1.H) : RunE T K Wx z σ r Q' := by
  cases r with
  | ok w S1 =>
    intro z1 v l1 ok1 e1 r1
    subst e1
    exact k z1 w v l1 ok1 r1 (RunT.mono h l1)
  | ex c x S' => exact h
  | no => exact h
theorem RunE.okq {r : R W} {Q : VK} (h : RunE T K Wx z σ r Q) (c : ∀ c x S', r ≠ .ex c x S') : OKQ K z r Q := by
  cases r with
  | ok w S' => exact h
  | ex k x S' => exact absurd rfl (c _ _ _)
  | no => exact h
theorem RunE.same {w : W} {v : V} {Q : VK} (ok : z.Ok K) (r : RW K z w v) (h : RunE T K Wx z σ (.ok w z.S) Q) : Q v z.H := h z v (Z.le.refl z) ok rfl r
end

section
variable {X : Cx} {T : XTab} {Wx : WX} {a b c : Expr} {pos : Pos} {ra rb rc : FE} {es : List Expr} {rs : FA}
theorem PE.weak {e : Expr} {t t' : TE} (h : PE X e t) (k : ∀ σ H Q, t' σ H Q → t σ H Q) : PE X e t' := ⟨fun pins s σ H Q I q => h.run pins s σ H Q I (k σ H Q q)⟩
theorem PA.weak {e : List Expr} {t t' : TA} (h : PA X e t) (k : ∀ σ H Q, t' σ H Q → t σ H Q) : PA X e t' := ⟨fun pos pins s σ H Q I q => h.run pos pins s σ H Q I (k σ H Q q)⟩
theorem PT.weak {e : Expr} {t t' : TT} (h : PT X e t) (k : ∀ σ H Q, t' σ H Q → t σ H Q) : PT X e t' := ⟨fun pins s σ H Q I q => h.run pins s σ H Q I (k σ H Q q)⟩
theorem PW.weak {e : Expr} {t t' : TT} (h : PW X e t) (k : ∀ σ H Q, t' σ H Q → t σ H Q) : PW X e t' := ⟨fun wh pins s σ H Q I q => h.run wh pins s σ H Q I (k σ H Q q)⟩

/-! ### names, constants -/
theorem de_var {i : Nat} {x : Str} (hN : X.N[i]? = some x) (hv : Vis X.env.scope x) (hd : (x == ("__debug__" : Str)) = false) (hcd : (x == ("__classdict__" : Str)) = false) : PE X (.Name x pos) (tE T X.K Wx (eVar i)) := by
  refine PE.weak (pe_var hN hv hd hcd) fun σ H Q h => ?_
  obtain ⟨z, σd, rfl, ok, rs, h⟩ := h
  unfold eVar at h
  split at h
  · rename_i w e
    obtain ⟨v, ev, r⟩ := rs.get i _ e
    exact ⟨v, ev, h.same ok r⟩
  · exact h.elim
theorem de_c {e : Expr} {w : W} {v : V} (h : PE X e (tC v)) (r : ∀ z, z.Ok X.K → RW X.K z w v) : PE X e (tE T X.K Wx (eC w)) := by
  refine PE.weak h fun σ H Q h => ?_
  obtain ⟨z, σd, rfl, ok, rs, h⟩ := h
  exact RunE.same ok (r z ok) h

/-! ### operators -/
theorem de_1 {e : Expr} {f : W → Store → R W} {r : V → Hp → VK → Prop} (p : P1 X.K f r) (cm : Calm1 f) (h : ∀ t, PE X a t → PE X e (tUn r t)) (ha : PE X a (tE T X.K Wx ra)) : PE X e (tE T X.K Wx (e1 f ra)) := by
  refine PE.weak (h _ ha) fun σ H Q h => ?_
  obtain ⟨z, σd, rfl, ok, rs, h⟩ := h
  exact ⟨z, σd, rfl, ok, rs, RunE.step h fun z1 w v l1 ok1 r1 h1 => p z1 w v Q ok1 r1 (h1.okq fun _ _ _ => cm _ _ _ _ _)⟩
theorem de_2 {e : Expr} {f : W → W → Store → R W} {r : R2} (p : P2 X.K f r) (cm : Calm2 f) (h : ∀ t u, PE X a t → PE X b u → PE X e (tOp r t u)) (ha : PE X a (tE T X.K Wx ra)) (hb : PE X b (tE T X.K Wx rb)) : PE X e (tE T X.K Wx (e2 f ra rb)) := by
  refine PE.weak (h _ _ ha hb) fun σ H Q h => ?_
  obtain ⟨z, σd, rfl, ok, rs, h⟩ := h
  exact ⟨z, σd, rfl, ok, rs, RunE.step h fun z1 w v l1 ok1 r1 h1 => ⟨z1, σd, rfl, ok1, rs.mono l1, RunE.step h1 fun z2 u y l2 ok2 r2 h2 => p z2 w u v y Q ok2 (r1.mono l2) r2 (h2.okq fun _ _ _ => cm _ _ _ _ _ _)⟩⟩
theorem de_nil : PA X [] (tA T X.K Wx aNil) := by
  refine PA.weak pa_nil fun σ H Q h => ?_
  obtain ⟨z, σd, rfl, ok, rs, h⟩ := h
  exact h z [] (Z.le.refl z) ok rfl rfl
theorem de_cons (ha : PE X a (tE T X.K Wx ra)) (hr : PA X es (tA T X.K Wx rs)) (hs : starEach (a :: es) X.env = (false, eval a X.env) :: starEach es X.env) : PA X (a :: es) (tA T X.K Wx (aCons ra rs)) := by
  refine PA.weak (pa_cons ha hr hs) fun σ H Q h => ?_
  obtain ⟨z, σd, rfl, ok, rs, h⟩ := h
  exact ⟨z, σd, rfl, ok, rs, RunA.stepE h fun z1 w v l1 ok1 r1 h1 => ⟨z1, σd, rfl, ok1, rs.mono l1, RunA.stepA h1 fun z2 ws vs l2 ok2 r2 h2 => h2 z2 (v :: vs) (Z.le.refl z2) ok2 rfl ⟨v, vs, rfl, r1.mono l2, r2⟩⟩⟩
theorem de_N {e : Expr} {f : List W → Store → R W} {r : List V → Hp → VK → Prop} (p : PN X.K f r) (cm : CalmN f) (h : ∀ t, PA X es t → PE X e (tCB r t)) (ha : PA X es (tA T X.K Wx rs)) : PE X e (tE T X.K Wx (eN f rs)) := by
  refine PE.weak (h _ ha) fun σ H Q h => ?_
  obtain ⟨z, σd, rfl, ok, rs, h⟩ := h
  exact ⟨z, σd, rfl, ok, rs, RunE.stepA h fun z1 w v l1 ok1 r1 h1 => p z1 w v Q ok1 r1 (h1.okq fun _ _ _ => cm _ _ _ _ _)⟩
theorem de_tup {k : Nat} (ha : PA X es (tA T X.K Wx rs)) : PE X (.Tuple es k pos) (tE T X.K Wx (eN tupW rs)) := by
  refine PE.weak (pe_tup ha) fun σ H Q h => ?_
  obtain ⟨z, σd, rfl, ok, rs, h⟩ := h
  refine ⟨z, σd, rfl, ok, rs, RunE.stepA h fun z1 w v l1 ok1 r1 h1 => ?_⟩
  unfold tupW at h1
  split at h1
  · rename_i xs e
    split at h1
    · rename_i hl
      have q := r1.pures e
      exact ⟨le_line (by rw [← q.length]; exact hl), fun p hp => OKQ.tup ok1 h1 q hp⟩
    · exact h1.elim
  · exact h1.elim
theorem de_lst {new : Bool} (ha : PA X es (tA T X.K Wx rs)) : PE X (.List es pos) (tE T X.K Wx (eN (lstW new) rs)) := by
  refine PE.weak (pe_lst ha) fun σ H Q h => ?_
  obtain ⟨z, σd, rfl, ok, rs, h⟩ := h
  refine ⟨z, σd, rfl, ok, rs, RunE.stepA h fun z1 w v l1 ok1 r1 h1 => ?_⟩
  unfold lstW at h1
  split at h1
  · rename_i hl
    refine ⟨le_line (by rw [← r1.length]; exact hl), fun p hp => OKQ.mkL ok1 (h1.okq fun c x S' q => ?_) r1 hp⟩
    unfold mkL at q
    split at q
    · cases q
    · split at q <;> cases q
  · exact h1.elim

/-! ### and, or, not, if; comparisons -/
theorem okB_calm {o : Option Bool} {S : Store} : ∀ c x S', okB o S ≠ .ex c x S' := fun c x S' q => by
  unfold okB at q
  split at q <;> cases q
theorem bl_of {K : PySem.W.Frag} {z : Z} {w : W} {v : V} {k : Bool} (r : RW K z w v) (e : v = .bl k) : w = .d (.bl k) := by
  subst e
  cases w with
  | d x =>
    cases x with
    | bl b => cases r; rfl
    | non => cases r
    | int _ => cases r
    | str _ => cases r
    | tup _ => obtain ⟨_, _, e, _⟩ := r; cases e
    | lst _ => obtain ⟨_, _, e, _⟩ := r; cases e
  | ref _ => obtain ⟨_, e, _⟩ := r; cases e
  | scr _ => obtain ⟨_, _, e, _⟩ := r; cases e
theorem RunE.ofT {K : PySem.W.Frag} {z : Z} {σ : L2.St} {r : R W} {Q : Bool → Hp → Prop} (h : RunT T K Wx z σ r Q) : RunE T K Wx z σ r (fun v H => ∃ k, v = .bl k ∧ Q k H) := by
  cases r with
  | ok w S' =>
    obtain ⟨b, e, h⟩ := h
    subst e
    exact fun z' v l ok e r => ⟨b, r, h z' l ok e⟩
  | ex c x S' => exact h
  | no => exact h
/-- an expression whose value is a bool, as a test -/
theorem dt_val {e : Expr} {r : FE} (h : PE X e (tE T X.K Wx r)) (he : ∀ whole, isTrue e X.env whole = (do let v ← whole; standAt e.pos; holding [v] (truthy v))) : PT X e (tT T X.K Wx r) := by
  refine PT.weak (pt_val h he) fun σ H Q h => ?_
  obtain ⟨z, σd, rfl, ok, rs, h⟩ := h
  exact ⟨z, σd, rfl, ok, rs, RunE.ofT h⟩
theorem dt_cmp {op : Cm} (hu : X.A.units + 200 < cLine) (ha : PE X a (tE T X.K Wx ra)) (hb : PE X b (tE T X.K Wx rb)) (hm : behindInMarks (cmOf op) b = false) : PT X (.Compare a [cmOf op] [b] pos) (tT T X.K Wx (e2 (fun x y S => okB (cmpO op S x y) S) ra rb)) := by
  refine PT.weak (pt_cmpR (op_cm hu op) ha hb hm) fun σ H Q h => ?_
  obtain ⟨z, σd, rfl, ok, rs, h⟩ := h
  refine ⟨z, σd, rfl, ok, rs, RunT.step h fun z1 w v l1 ok1 r1 h1 => ⟨z1, σd, rfl, ok1, rs.mono l1, RunT.step h1 fun z2 u y l2 ok2 r2 h2 => p_cm op z2 w u v y _ ok2 (r1.mono l2) r2 ?_⟩⟩
  exact RunE.okq (RunE.ofT h2) okB_calm
theorem de_cmp {op : Cm} (hu : X.A.units + 200 < cLine) (ha : PE X a (tE T X.K Wx ra)) (hb : PE X b (tE T X.K Wx rb)) (hm : behindInMarks (cmOf op) b = false) : PE X (.Compare a [cmOf op] [b] pos) (tE T X.K Wx (e2 (fun x y S => okB (cmpO op S x y) S) ra rb)) :=
  de_2 (p_cm op) (fun _ _ _ => okB_calm) (fun t u h1 h2 => pe_cmpR (op_cm hu op) h1 h2 hm) ha hb
theorem chain_w {K : PySem.W.Frag} {o1 o2 : Cm} : ∀ σ H Q, tE T K Wx (eChain o1 o2 ra rb rc) σ H Q → tChain (rCm K o1) (rCm K o2) (tE T K Wx ra) (tE T K Wx rb) (tE T K Wx rc) σ H Q := by
  intro σ H Q h
  obtain ⟨z, σd, rfl, ok, rs, h⟩ := h
  refine ⟨z, σd, rfl, ok, rs, RunE.step h fun z1 w v l1 ok1 r1 h1 => ⟨z1, σd, rfl, ok1, rs.mono l1, RunE.step h1 fun z2 u y l2 ok2 r2 h2 => ?_⟩⟩
  refine p_cm o1 z2 w u v y _ ok2 (r1.mono l2) r2 ?_
  cases e : cmpO o1 z2.S w u with
  | none => rw [e] at h2; exact h2.elim
  | some k =>
    rw [e] at h2
    show OKQ K z2 (okB (cmpO o1 z2.S w u) z2.S) _
    rw [e]
    intro z3 v3 l3 ok3 e3 r3
    have e3' : v3 = .bl k := r3
    refine ⟨k, e3', ?_⟩
    cases k with
    | true =>
      rw [if_pos rfl]
      have h3 := RunE.mono h2 l3
      rw [← e3] at h3
      refine ⟨z3, σd, rfl, ok3, (rs.mono l1).mono (l2.trans l3), RunE.step h3 fun z4 t q l4 ok4 r4 h4 => ?_⟩
      exact p_cm o2 z4 u t y q Q ok4 (r2.mono (l3.trans l4)) r4 (h4.okq okB_calm)
    | false =>
      rw [if_neg Bool.false_ne_true]
      exact h2 z3 _ l3 ok3 e3 (rw_bl)
theorem de_chain {o1 o2 : Cm} (hu : X.A.units + 200 < cLine) (ha : PE X a (tE T X.K Wx ra)) (hb : PE X b (tE T X.K Wx rb)) (hc : PE X c (tE T X.K Wx rc)) (hm : lastMarks [cmOf o1, cmOf o2] [b, c] = false) :
    PE X (.Compare a [cmOf o1, cmOf o2] [b, c] pos) (tE T X.K Wx (eChain o1 o2 ra rb rc)) := PE.weak (pe_chain (op_cm hu o1) (op_cm hu o2) ha hb hc hm) chain_w
theorem dt_chain {o1 o2 : Cm} (hu : X.A.units + 200 < cLine) (ha : PE X a (tE T X.K Wx ra)) (hb : PE X b (tE T X.K Wx rb)) (hc : PE X c (tE T X.K Wx rc)) (hm : lastMarks [cmOf o1, cmOf o2] [b, c] = false) :
    PT X (.Compare a [cmOf o1, cmOf o2] [b, c] pos) (tT T X.K Wx (eChain o1 o2 ra rb rc)) := by
  refine PT.weak (pt_chain (op_cm hu o1) (op_cm hu o2) ha hb hc hm) fun σ H Q h => ?_
  obtain ⟨z, σd, rfl, ok, rs, h⟩ := h
  exact chain_w σ _ _ ⟨z, σd, rfl, ok, rs, RunE.ofT h⟩
theorem and_eq {r : FE} {σ : St} {S : Store} : eAnd ra rb σ S = (ra σ S).bind fun x S1 => match x with
  | .d (.bl true) => rb σ S1
  | .d (.bl false) => .ok (.d (.bl false)) S1
  | _ => .no := rfl
/-- what a test's value says -/
theorem RunE.testT {K : PySem.W.Frag} {z : Z} {σ : L2.St} {r : R W} {f g : Store → R W} {Q : Bool → Hp → Prop} {Q' : Bool → Hp → Prop}
    (h : RunT T K Wx z σ (r.bind fun x S1 => match x with | .d (.bl true) => f S1 | .d (.bl false) => g S1 | _ => .no) Q)
    (k : ∀ z1 b, z.le z1 → z1.Ok K → RunT T K Wx z1 σ (if b = true then f z1.S else g z1.S) Q → Q' b z1.H) : RunT T K Wx z σ r Q' := by
  cases r with
  | ok w S1 =>
    dsimp only [R.bind] at h
    split at h
    · refine ⟨true, rfl, fun z1 l1 ok1 e1 => ?_⟩
      subst e1
      exact k z1 true l1 ok1 (by rw [if_pos rfl]; exact RunT.mono h l1)
    · refine ⟨false, rfl, fun z1 l1 ok1 e1 => ?_⟩
      subst e1
      exact k z1 false l1 ok1 (by rw [if_neg Bool.false_ne_true]; exact RunT.mono h l1)
    · exact h.elim
  | ex c x S' => exact h
  | no => exact h
theorem RunE.testE {K : PySem.W.Frag} {z : Z} {σ : L2.St} {r : R W} {f g : Store → R W} {Q : VK} {Q' : Bool → Hp → Prop}
    (h : RunE T K Wx z σ (r.bind fun x S1 => match x with | .d (.bl true) => f S1 | .d (.bl false) => g S1 | _ => .no) Q)
    (k : ∀ z1 b, z.le z1 → z1.Ok K → RunE T K Wx z1 σ (if b = true then f z1.S else g z1.S) Q → Q' b z1.H) : RunT T K Wx z σ r Q' := by
  cases r with
  | ok w S1 =>
    dsimp only [R.bind] at h
    split at h
    · refine ⟨true, rfl, fun z1 l1 ok1 e1 => ?_⟩
      subst e1
      exact k z1 true l1 ok1 (by rw [if_pos rfl]; exact RunE.mono h l1)
    · refine ⟨false, rfl, fun z1 l1 ok1 e1 => ?_⟩
      subst e1
      exact k z1 false l1 ok1 (by rw [if_neg Bool.false_ne_true]; exact RunE.mono h l1)
    · exact h.elim
  | ex c x S' => exact h
  | no => exact h
theorem dw_one {op : BoolOp} (ha : PT X a (tT T X.K Wx ra)) : PW X (.BoolOp op [a] pos) (tT T X.K Wx ra) := by
  cases op with
  | And => exact pw_and1 ha
  | Or => exact pw_or1 ha
theorem de_one {op : BoolOp} (ha : PE X a (tE T X.K Wx ra)) : PE X (.BoolOp op [a] pos) (tE T X.K Wx ra) := pe_one ha
theorem dw_and {es : List Expr} (ha : PT X a (tT T X.K Wx ra)) (hb : PW X (.BoolOp .And (b :: es) pos) (tT T X.K Wx rb)) : PW X (.BoolOp .And (a :: b :: es) pos) (tT T X.K Wx (eAnd ra rb)) := by
  refine PW.weak (pw_and ha hb) fun σ H Q h => ?_
  obtain ⟨z, σd, rfl, ok, rs, h⟩ := h
  refine ⟨z, σd, rfl, ok, rs, RunE.testT h fun z1 k l1 ok1 h1 => ?_⟩
  cases k with
  | true => rw [if_pos rfl] at h1 ⊢; exact ⟨z1, σd, rfl, ok1, rs.mono l1, h1⟩
  | false =>
    rw [if_neg Bool.false_ne_true] at h1 ⊢
    obtain ⟨b, e, h1⟩ := h1
    cases e
    exact h1 z1 (Z.le.refl z1) ok1 rfl
theorem dw_or {es : List Expr} (ha : PT X a (tT T X.K Wx ra)) (hb : PW X (.BoolOp .Or (b :: es) pos) (tT T X.K Wx rb)) : PW X (.BoolOp .Or (a :: b :: es) pos) (tT T X.K Wx (eOr ra rb)) := by
  refine PW.weak (pw_or ha hb) fun σ H Q h => ?_
  obtain ⟨z, σd, rfl, ok, rs, h⟩ := h
  refine ⟨z, σd, rfl, ok, rs, RunE.testT h fun z1 k l1 ok1 h1 => ?_⟩
  cases k with
  | false => rw [if_neg Bool.false_ne_true] at h1 ⊢; exact ⟨z1, σd, rfl, ok1, rs.mono l1, h1⟩
  | true =>
    rw [if_pos rfl] at h1 ⊢
    obtain ⟨b, e, h1⟩ := h1
    cases e
    exact h1 z1 (Z.le.refl z1) ok1 rfl
theorem RunE.bool {K : PySem.W.Frag} {z : Z} {σ : L2.St} {r : R W} {Q : Bool → Hp → Prop} (h : RunT T K Wx z σ r Q) : RunE T K Wx z σ r (fun x H1 => ∃ c, x = .bl c ∧ Q c H1) := RunE.ofT h
theorem de_and {es : List Expr} (ha : PE X a (tE T X.K Wx ra)) (hb : PE X (.BoolOp .And (b :: es) pos) (tE T X.K Wx rb)) : PE X (.BoolOp .And (a :: b :: es) pos) (tE T X.K Wx (eAnd ra rb)) := by
  refine PE.weak (pe_and ha hb) fun σ H Q h => ?_
  obtain ⟨z, σd, rfl, ok, rs, h⟩ := h
  refine ⟨z, σd, rfl, ok, rs, RunE.ofT (RunE.testE h fun z1 k l1 ok1 h1 => ?_)⟩
  cases k with
  | true => rw [if_pos rfl] at h1 ⊢; exact ⟨z1, σd, rfl, ok1, rs.mono l1, h1⟩
  | false => rw [if_neg Bool.false_ne_true] at h1 ⊢; exact RunE.same ok1 rw_bl h1
theorem de_or {es : List Expr} (ha : PE X a (tE T X.K Wx ra)) (hb : PE X (.BoolOp .Or (b :: es) pos) (tE T X.K Wx rb)) : PE X (.BoolOp .Or (a :: b :: es) pos) (tE T X.K Wx (eOr ra rb)) := by
  refine PE.weak (pe_or ha hb) fun σ H Q h => ?_
  obtain ⟨z, σd, rfl, ok, rs, h⟩ := h
  refine ⟨z, σd, rfl, ok, rs, RunE.ofT (RunE.testE h fun z1 k l1 ok1 h1 => ?_)⟩
  cases k with
  | false => rw [if_neg Bool.false_ne_true] at h1 ⊢; exact ⟨z1, σd, rfl, ok1, rs.mono l1, h1⟩
  | true => rw [if_pos rfl] at h1 ⊢; exact RunE.same ok1 rw_bl h1
theorem truW_ok {K : PySem.W.Frag} {z : Z} {w : W} {v : V} {k : Bool} (ok : z.Ok K) (r : RW K z w v) (h : truW z.S w = some k) : TruV K v z.H k := by
  unfold truW at h
  split at h
  · rename_i ws e
    cases h
    obtain ⟨a, vs, rfl, t, q⟩ := seqOf_at ok r e
    have hl : ws.isEmpty = vs.isEmpty := by
      have := q.length
      cases ws <;> cases vs <;> simp at this ⊢
    rcases t with t | t
    · exact .inl ⟨vs, t, by rw [hl]⟩
    · exact .inr (.inl ⟨vs, t, by rw [hl]⟩)
  · cases h
theorem de_orT {es : List Expr} (ha : PE X a (tE T X.K Wx ra)) (hb : PE X (.BoolOp .Or (b :: es) pos) (tE T X.K Wx rb)) : PE X (.BoolOp .Or (a :: b :: es) pos) (tE T X.K Wx (eOrT ra rb)) := by
  refine PE.weak (pe_orT ha hb) fun σ H Q h => ?_
  obtain ⟨z, σd, rfl, ok, rs, h⟩ := h
  refine ⟨z, σd, rfl, ok, rs, RunE.step h fun z1 w v l1 ok1 r1 h1 => ?_⟩
  cases e : truW z1.S w with
  | none => rw [e] at h1; exact h1.elim
  | some k =>
    rw [e] at h1
    refine ⟨k, truW_ok ok1 r1 e, ?_⟩
    cases k with
    | true => rw [if_pos rfl]; exact RunE.same ok1 r1 h1
    | false =>
      rw [if_neg Bool.false_ne_true]
      cases w with
      | ref n => exact ⟨Z.mk z1.μ (z1.S.set n .dead) z1.H z1.P, σd, rfl, ok1.dead, (rs.mono l1).mono Z.le_dead, RunE.mono h1 Z.le_dead⟩
      | d x => exact ⟨z1, σd, rfl, ok1, rs.mono l1, h1⟩
      | scr xs => exact ⟨z1, σd, rfl, ok1, rs.mono l1, h1⟩
theorem dt_not (ha : PT X a (tT T X.K Wx ra)) : PT X (.UnaryOp .Not a pos) (tT T X.K Wx (e1 notW ra)) := by
  refine PT.weak (pt_not ha) fun σ H Q h => ?_
  obtain ⟨z, σd, rfl, ok, rs, h⟩ := h
  refine ⟨z, σd, rfl, ok, rs, ?_⟩
  have h : RunT T X.K Wx z σ ((ra σd z.S).bind notW) Q := h
  cases e : ra σd z.S with
  | ok w S1 =>
    rw [e] at h
    dsimp only [R.bind, notW] at h
    split at h
    · rename_i b
      obtain ⟨b', e', h⟩ := h
      cases e'
      exact ⟨b, rfl, h⟩
    · exact h.elim
  | ex c x S' => rw [e] at h; exact h
  | no => rw [e] at h; exact h
theorem de_not (ha : PE X a (tE T X.K Wx ra)) : PE X (.UnaryOp .Not a pos) (tE T X.K Wx (e1 notW ra)) := by
  refine PE.weak (pe_not ha) fun σ H Q h => ?_
  obtain ⟨z, σd, rfl, ok, rs, h⟩ := h
  refine ⟨z, σd, rfl, ok, rs, RunE.step h fun z1 w v l1 ok1 r1 h1 => ?_⟩
  unfold notW at h1
  split at h1
  · cases r1
    exact ⟨_, rfl, RunE.same ok1 rw_bl h1⟩
  · exact h1.elim
theorem de_neg (ha : PE X a (tE T X.K Wx ra)) : PE X (.UnaryOp .USub a pos) (tE T X.K Wx (e1 negW ra)) :=
  de_1 p_neg (fun w S c x S' q => by unfold negW at q; split at q <;> cases q) (fun t h => pe_un un_neg h) ha
theorem de_ite (hc : PT X c (tT T X.K Wx rc)) (ha : PE X a (tE T X.K Wx ra)) (hb : PE X b (tE T X.K Wx rb)) : PE X (.IfExp c a b pos) (tE T X.K Wx (eIte rc ra rb)) := by
  refine PE.weak (pe_ifExp hc ha hb) fun σ H Q h => ?_
  obtain ⟨z, σd, rfl, ok, rs, h⟩ := h
  refine ⟨z, σd, rfl, ok, rs, RunE.testE h fun z1 k l1 ok1 h1 => ?_⟩
  cases k with
  | true => rw [if_pos rfl] at h1 ⊢; exact ⟨z1, σd, rfl, ok1, rs.mono l1, h1⟩
  | false => rw [if_neg Bool.false_ne_true] at h1 ⊢; exact ⟨z1, σd, rfl, ok1, rs.mono l1, h1⟩
theorem mkL_calm {new : Bool} {ws : List W} {S : Store} : ∀ c x S', mkL new ws S ≠ .ex c x S' := fun c x S' q => by
  unfold mkL at q
  split at q
  · cases q
  · split at q <;> cases q
theorem bin_calm {new : Bool} (o : Op2) : Calm2 (binW o new) := fun w u S c x S' q => by
  cases o with
  | add =>
    simp only [binW, addW] at q
    split at q
    · cases q
    · split at q <;> cases q
    · split at q <;> cases q
    · split at q
      · split at q
        · exact mkL_calm _ _ _ q
        · cases q
      · cases q
  | mul =>
    simp only [binW, mulW] at q
    split at q
    · split at q <;> cases q
    · split at q
      · split at q
        · exact mkL_calm _ _ _ q
        · cases q
      · cases q
    · cases q
  | sub => simp only [binW] at q; split at q <;> cases q
  | fdiv =>
    simp only [binW] at q
    split at q
    · split at q <;> cases q
    · cases q
  | mod =>
    simp only [binW] at q
    split at q
    · split at q <;> cases q
    · cases q
  | pow =>
    simp only [binW] at q
    split at q
    · split at q <;> cases q
    · cases q
theorem de_bin {o : Op2} {new : Bool} (ha : PE X a (tE T X.K Wx ra)) (hb : PE X b (tE T X.K Wx rb)) : PE X (.BinOp a (opOf o) b pos) (tE T X.K Wx (e2 (binW o new) ra rb)) :=
  de_2 (p_bin o) (bin_calm o) (fun t u h1 h2 => pe_op (op_bin o) h1 h2) ha hb
end
end MP
end

section
set_option maxHeartbeats 4000000
namespace MP
open PySem PySem.Spec PyProof.Rows L2

/-! ### subscripts, slices -/
abbrev FO := St → Store → R (Option Int)
def oNone : FO := fun _ S => .ok none S
def oSome (a : FE) : FO := fun σ S => (a σ S).bind fun x S1 => match x with
  | .d (.int i) => .ok (some i) S1
  | _ => .no
def eSl (new : Bool) (a : FE) (lo hi : FO) : FE := fun σ S => (a σ S).bind fun x S1 => (lo σ S1).bind fun l S2 => (hi σ S2).bind fun h S3 => slW new x l h S3
def revW (new : Bool) (a : W) (S : Store) : R W := match lstOf S a with
  | some ws => mkL new ws.reverse S
  | none => .no
section
variable (T : XTab) (K : PySem.W.Frag) (Wx : WX)
def RunO (z : Z) (σ : L2.St) (r : R (Option Int)) (Q : Option Int → Hp → Prop) : Prop := match r with
  | .ok o S' => ∀ z', z.le z' → z'.Ok K → z'.S = S' → Q o z'.H
  | .ex c x S' => RunX T K Wx z σ c x S'
  | .no => False
def tO (r : FO) : TO := fun σ H Q => ∃ z σd, z.H = H ∧ z.Ok K ∧ RS K z σd σ ∧ RunO T K Wx z σ (r σd z.S) Q
end
section
variable {T : XTab} {K : PySem.W.Frag} {Wx : WX} {z z1 : Z} {σ : L2.St}
theorem RunE.stepO {r : R (Option Int)} {f : Option Int → Store → R W} {Q : VK} {Q' : Option Int → Hp → Prop} (h : RunE T K Wx z σ (r.bind f) Q) (k : ∀ z1 o, z.le z1 → z1.Ok K → RunE T K Wx z1 σ (f o z1.S) Q → Q' o z1.H) : RunO T K Wx z σ r Q' := by
  cases r with
  | ok w S1 =>
    intro z1 l1 ok1 e1
    subst e1
    exact k z1 w l1 ok1 (RunE.mono h l1)
  | ex c x S' => exact h
  | no => exact h
theorem RunO.stepE {r : R W} {f : W → Store → R (Option Int)} {Q : Option Int → Hp → Prop} {Q' : VK} (h : RunO T K Wx z σ (r.bind f) Q) (k : ∀ z1 w v, z.le z1 → z1.Ok K → RW K z1 w v → RunO T K Wx z1 σ (f w z1.S) Q → Q' v z1.H) : RunE T K Wx z σ r Q' := by
  cases r with
  | ok w S1 =>
    intro z1 v l1 ok1 e1 r1
    subst e1
    refine k z1 w v l1 ok1 r1 ?_
    have h : RunO T K Wx z σ (f w z1.S) Q := h
    cases e : f w z1.S with
    | ok o S' => rw [e] at h; exact fun z' l' ok' e' => h z' (l1.trans l') ok' e'
    | ex c x S' => rw [e] at h; exact RunX.mono h l1
    | no => rw [e] at h; exact h
  | ex c x S' => exact h
  | no => exact h
end
section
variable {X : Cx} {T : XTab} {Wx : WX} {a b c : Expr} {pos : Pos} {ra rb rc : FE} {es : List Expr} {rs : FA}
def isSl : Expr → Bool
  | .Slice .. => true
  | _ => false
theorem plain_ix {b : Expr} (h : isSl b = false) : PlainIx b := fun o i => by
  cases b <;> first | rfl | cases h
theorem mapW_of {α : Type} {o : Option α} {f : α → W} {w : W} (h : o.map f = some w) : ∃ x, o = some x ∧ w = f x := by
  cases o with
  | none => cases h
  | some x => exact ⟨x, rfl, (Option.some.inj h).symm⟩
theorem ixN_some {n : Nat} {i : Int} {j : Nat} (h : ixN n i = some j) : j < n := by
  exact (ixN_seq h).2.1
theorem RWs.atI {K : PySem.W.Frag} {z : Z} {ws : List W} {vs : List V} {i : Int} {w : W} (r : RWs K z ws vs) (h : L2.atI ws i = some w) : ∃ v, L2.atI vs i = some v ∧ RW K z w v := by
  unfold L2.atI at h ⊢
  rw [r.length] at h
  cases e : ixN vs.length i with
  | none => rw [e] at h; cases h
  | some j => rw [e] at h; exact r.get h
theorem p_idx : P2 X.K (fun a b S => okW (idxW S a b) S) (rIx X.K) := by
  intro z w1 w2 v1 v2 Q ok r1 r2 h
  have hh : ∃ w, idxW z.S w1 w2 = some w ∧ OKQ X.K z (.ok w z.S) Q := by
    change OKQ X.K z (okW (idxW z.S w1 w2) z.S) Q at h
    cases e : idxW z.S w1 w2 with
    | none => rw [e] at h; exact (show False from h).elim
    | some w => rw [e] at h; exact ⟨w, rfl, h⟩
  clear h
  obtain ⟨w, e, h⟩ := hh
  unfold idxW at e
  split at e
  · cases r2
    split at e
    · cases r1
      split at e
      · rename_i hl
        obtain ⟨c, e1, rfl⟩ := mapW_of e
        exact .inr (.inr ⟨_, _, c, rfl, rfl, le_line hl, e1, h.same ok rw_str⟩)
      · cases e
    · split at e
      · rename_i ws e1
        obtain ⟨p, vs, rfl, t, q⟩ := seqOf_at ok r1 e1
        obtain ⟨v, ev, r⟩ := q.atI e
        rcases t with t | t
        · exact .inl ⟨p, vs, _, v, rfl, rfl, t, ev, h.same ok r⟩
        · exact .inr (.inl ⟨p, vs, _, v, rfl, rfl, t, ev, h.same ok r⟩)
      · cases e
  · cases e
theorem de_idx (ha : PE X a (tE T X.K Wx ra)) (hb : PE X b (tE T X.K Wx rb)) (hs : isSl b = false) : PE X (.Subscript a b pos) (tE T X.K Wx (e2 (fun x y S => okW (idxW S x y) S) ra rb)) :=
  de_2 p_idx (fun _ _ _ c x S' q => by
    unfold okW at q
    split at q <;> cases q) (fun t u h1 h2 => pe_ix ix_seq h1 h2 (plain_ix hs)) ha hb
theorem do_none : PO X none (tO T X.K Wx oNone) := by
  refine ⟨fun pins s σ H Q I h => po_none.run pins s σ H Q I ?_⟩
  obtain ⟨z, σd, rfl, ok, rs, h⟩ := h
  exact h z (Z.le.refl z) ok rfl
theorem do_some (ha : PE X a (tE T X.K Wx ra)) : PO X (some a) (tO T X.K Wx (oSome ra)) := by
  refine ⟨fun pins s σ H Q I h => (po_some ha).run pins s σ H Q I ?_⟩
  obtain ⟨z, σd, rfl, ok, rs, h⟩ := h
  refine ⟨z, σd, rfl, ok, rs, RunO.stepE h fun z1 w v l1 ok1 r1 h1 => ?_⟩
  split at h1
  · cases r1
    exact ⟨_, rfl, h1 z1 (Z.le.refl z1) ok1 rfl⟩
  · exact h1.elim
def rSlP (K : PySem.W.Frag) : V → Option Int → Option Int → Hp → VK → Prop := fun x lo hi H Q => rSlA K x lo hi H Q ∨ rSlL K x lo hi H Q
theorem cut_whole {α : Type} {xs : List α} {lo hi : Option Int} (h : HT.sIx xs.length 0 lo = 0 ∧ HT.sIx xs.length xs.length hi = xs.length) : cutG xs lo hi = xs := by
  unfold cutG
  rw [h.1, h.2]
  simp
theorem p_sl {K : PySem.W.Frag} {new : Bool} {lo hi : Option Int} : P1 K (fun a S => slW new a lo hi S) (fun x H Q => rSlP K x lo hi H Q) := by
  intro z w1 v1 Q ok r1 h
  change OKQ K z (slW new w1 lo hi z.S) Q at h
  unfold slW at h
  split at h
  · rename_i xs
    obtain ⟨p, vs, rfl, t, q⟩ := r1
    refine .inl ⟨p, vs, rfl, t.sq, fun hw => ?_, fun hw p' hp => ?_⟩
    · have hl := q.length
      rw [← hl] at hw
      rw [cut_whole hw] at h
      exact h.same ok (show RW K z (.d (.tup xs)) (.ref p) from ⟨p, vs, rfl, t, q⟩)
    · exact h.tup ok (q.cut lo hi) hp
  · split at h
    · rename_i ws e
      obtain ⟨p, vs, rfl, t, q⟩ := lseqOf_at ok r1 e
      exact .inr ⟨p, vs, rfl, t, fun p' hp => h.mkL ok (q.cut lo hi) hp⟩
    · exact h.elim
theorem sl_calm {new : Bool} {lo hi : Option Int} : Calm1 (fun a S => slW new a lo hi S) := fun w S c x S' q => by
  change slW new w lo hi S = _ at q
  unfold slW at q
  split at q
  · cases q
  · split at q
    · exact mkL_calm _ _ _ q
    · cases q
theorem de_sl {new : Bool} {lo hi : Option Expr} {rl rh : FO} {p2 : Pos} (ha : PE X a (tE T X.K Wx ra)) (hl : PO X lo (tO T X.K Wx rl)) (hh : PO X hi (tO T X.K Wx rh)) : PE X (.Subscript a (.Slice lo hi none p2) pos) (tE T X.K Wx (eSl new ra rl rh)) := by
  refine PE.weak (pe_slice (r := rSlP X.K) (SlR.or sl_tupA sl_list) ha hl hh) fun σ H Q h => ?_
  obtain ⟨z, σd, rfl, ok, rs, h⟩ := h
  refine ⟨z, σd, rfl, ok, rs, RunE.step h fun z1 w v l1 ok1 r1 h1 => ⟨z1, σd, rfl, ok1, rs.mono l1, RunE.stepO h1 fun z2 l l2 ok2 h2 => ⟨z2, σd, rfl, ok2, (rs.mono l1).mono l2, RunE.stepO h2 fun z3 u l3 ok3 h3 => ?_⟩⟩⟩
  exact p_sl z3 w v Q ok3 (r1.mono (l2.trans l3)) (h3.okq fun _ _ _ => sl_calm _ _ _ _ _)
theorem de_rev {new : Bool} {k : Nat} {p1 p2 p3 : Pos} (ha : PE X a (tE T X.K Wx ra)) : PE X (.Subscript a (.Slice none none (some (.UnaryOp .USub (.Constant (.int 1) k p1) p2)) p3) pos) (tE T X.K Wx (e1 (revW new) ra)) := by
  refine PE.weak (pe_revL ha) fun σ H Q h => ?_
  obtain ⟨z, σd, rfl, ok, rs, h⟩ := h
  refine ⟨z, σd, rfl, ok, rs, RunE.step h fun z1 w v l1 ok1 r1 h1 => ?_⟩
  unfold revW at h1
  split at h1
  · rename_i ws e
    obtain ⟨p, vs, rfl, t, q⟩ := lstOf_at ok1 r1 e
    have rv : RWs X.K z1 ws.reverse vs.reverse := RWs.reverse q
    exact ⟨p, vs, rfl, SqL.of t, fun p' hp => OKQ.mkL ok1 (h1.okq mkL_calm) rv hp⟩
  · exact h1.elim

/-! ### isinstance -/
def tyS : Ty → String
  | .int => "int" | .bool => "bool" | .str => "str" | .list => "list" | .tuple => "tuple"
def tyN : W → String
  | .d .non => "NoneType"
  | .d (.bl _) => "bool"
  | .d (.int _) => "int"
  | .d (.str _) => "str"
  | .d (.tup _) => "tuple"
  | .d (.lst _) => "list"
  | _ => "list"
theorem kt_non : ∀ t : Ty, kitB "NoneType" (tyS t) = some false := by intro t; cases t <;> decide +kernel
theorem kt_bl : ∀ t : Ty, kitB "bool" (tyS t) = some (match t with | .int => true | .bool => true | _ => false) := by intro t; cases t <;> decide +kernel
theorem kt_int : ∀ t : Ty, kitB "int" (tyS t) = some (match t with | .int => true | _ => false) := by intro t; cases t <;> decide +kernel
theorem kt_str : ∀ t : Ty, kitB "str" (tyS t) = some (match t with | .str => true | _ => false) := by intro t; cases t <;> decide +kernel
theorem kt_tup : ∀ t : Ty, kitB "tuple" (tyS t) = some (match t with | .tuple => true | _ => false) := by intro t; cases t <;> decide +kernel
theorem kt_lst : ∀ t : Ty, kitB "list" (tyS t) = some (match t with | .list => true | _ => false) := by intro t; cases t <;> decide +kernel
theorem isTy_ok {K : PySem.W.Frag} {z : Z} {t : Ty} {w : W} {v : V} {b : Bool} (ok : z.Ok K) (r : RW K z w v) (h : isTy z.S t w = some b) : TyX K z.H v (.type (tyN w)) ∧ kitB (tyN w) (tyS t) = some b := by
  unfold isTy at h
  split at h
  · cases h; cases r
    exact ⟨.base .non, kt_non t⟩
  · cases h; cases r
    exact ⟨.base (.bl _), kt_bl t⟩
  · cases h; cases r
    exact ⟨.base (.int _), kt_int t⟩
  · cases h; cases r
    exact ⟨.base (.str _), kt_str t⟩
  · cases h
    obtain ⟨a, vs, rfl, t', q⟩ := r
    refine ⟨?_, kt_tup t⟩
    rcases t' with ⟨t' | ⟨o, t'⟩, _⟩ | ⟨o, its, n, e, c, _⟩
    · exact .base (.tup t')
    · exact .fTuple t'
    · exact .kTuple e c
  · cases h
    obtain ⟨a, vs, rfl, ⟨t', _⟩, q⟩ := r
    exact ⟨.base (.lst t'), kt_lst t⟩
  · rename_i n
    split at h
    · rename_i us e
      cases h
      obtain ⟨a, rfl, m⟩ := r
      obtain ⟨a', vs, m', t', q⟩ := ok.obj n _ e
      rw [m] at m'
      cases m'
      exact ⟨.base (.lst t'), kt_lst t⟩
    · cases h
  · cases h
def isiW (ts : List Ty) (w : W) (S : Store) : R W := okB (isTys S w ts) S
theorem isTys_one {S : Store} {w : W} {t : Ty} {b : Bool} (h : isTys S w [t] = some b) : isTy S t w = some b := by
  simp only [isTys] at h
  split at h
  · rename_i a b' e1 e2
    cases e2
    cases h
    simpa using e1
  · cases h
theorem bootTy : ∀ t : Ty, bootBuiltins (Str.ofString (tyS t)) = some (.type (tyS t)) := by
  intro t
  cases t <;> decide +kernel
theorem tyS_dbg : ∀ t : Ty, (Str.ofString (tyS t) == ("__debug__" : Str)) = false ∧ Str.ofString (tyS t) ≠ ("__name__" : Str) := by
  intro t
  cases t <;> decide +kernel
theorem pe_ty {t : Ty} (hg : Gl X (Str.ofString (tyS t))) (hm : X.mg (Str.ofString (tyS t)) = none) : PE X (.Name (Str.ofString (tyS t)) pos) (tC (.ty (tyS t))) :=
  pe_bltn hg hm (bootTy t) rfl (tyS_dbg t).2 (tyS_dbg t).1
theorem de_isi {t : Ty} {p p2 : Pos} (hg : Gl X "isinstance") (hm : X.mg "isinstance" = none) (hg2 : Gl X (Str.ofString (tyS t))) (hm2 : X.mg (Str.ofString (tyS t)) = none) (ha : PE X a (tE T X.K Wx ra))
    (hs : starEach (a :: [.Name (Str.ofString (tyS t)) p2]) X.env = (false, eval a X.env) :: starEach [.Name (Str.ofString (tyS t)) p2] X.env) : PE X (.Call (.Name "isinstance" p) [a, .Name (Str.ofString (tyS t)) p2] [] pos) (tE T X.K Wx (e1 (isiW [t]) ra)) := by
  refine PE.weak (pe_callB (r := rIsi X.K) call_isi hg hm PyProof.Rows.boot_isinstance (pa_cons ha (pa_cons (pe_ty hg2 hm2) pa_nil) hs) (he := hs)) fun σ H Q h => ?_
  obtain ⟨z, σd, rfl, ok, rs, h⟩ := h
  refine ⟨z, σd, rfl, ok, rs, RunE.step h fun z1 w v l1 ok1 r1 h1 => ?_⟩
  obtain ⟨b, e, h1⟩ := okB_some (h1.okq fun _ _ _ => okB_calm _ _ _)
  obtain ⟨ty, kb⟩ := isTy_ok ok1 r1 (isTys_one e)
  exact ⟨v, .ty (tyS t), _, .type (tyS t), b, rfl, .ty _, ty, kit_ty kb, h1.same ok1 rw_bl⟩
theorem de_isi2 {t u : Ty} {p p2 p3 p4 : Pos} {kk : Nat} (hg : Gl X "isinstance") (hm : X.mg "isinstance" = none) (hg2 : Gl X (Str.ofString (tyS t))) (hm2 : X.mg (Str.ofString (tyS t)) = none) (hg3 : Gl X (Str.ofString (tyS u))) (hm3 : X.mg (Str.ofString (tyS u)) = none) (ha : PE X a (tE T X.K Wx ra))
    (hs : starEach (a :: [.Tuple [.Name (Str.ofString (tyS t)) p2, .Name (Str.ofString (tyS u)) p3] kk p4]) X.env = (false, eval a X.env) :: starEach [.Tuple [.Name (Str.ofString (tyS t)) p2, .Name (Str.ofString (tyS u)) p3] kk p4] X.env) :
    PE X (.Call (.Name "isinstance" p) [a, .Tuple [.Name (Str.ofString (tyS t)) p2, .Name (Str.ofString (tyS u)) p3] kk p4] [] pos) (tE T X.K Wx (e1 (isiW [t, u]) ra)) := by
  refine PE.weak (pe_callB (r := rIsiT X.K) call_isiT hg hm PyProof.Rows.boot_isinstance (pa_cons ha (pa_cons (pe_tup (pa_cons (pe_ty hg2 hm2) (pa_cons (pe_ty hg3 hm3) pa_nil))) pa_nil) hs) (he := hs)) fun σ H Q h => ?_
  obtain ⟨z, σd, rfl, ok, rs, h⟩ := h
  refine ⟨z, σd, rfl, ok, rs, RunE.step h fun z1 w v l1 ok1 r1 h1 => ?_⟩
  obtain ⟨b, e, h1⟩ := okB_some (h1.okq fun _ _ _ => okB_calm _ _ _)
  refine ⟨by rw [sizeLine_eq]; show 2 ≤ 16777216; decide, fun q hq => ?_⟩
  have e' := e
  simp only [isTys] at e
  cases e2 : isTy z1.S t w with
  | none => rw [e2] at e; cases e
  | some b1 =>
    cases e3 : isTy z1.S u w with
    | none => rw [e2, e3] at e; cases e
    | some b2 =>
      rw [e2, e3] at e
      have eb : b = (b1 || b2) := by simpa using e.symm
      have ln := Z.le_new ok1 (p := q) (o := .tup [.ty (tyS t), .ty (tyS u)]) hq
      have okn : (z1.withH (upd z1.H q (.tup [.ty (tyS t), .ty (tyS u)]))).Ok X.K := ok1.new hq
      obtain ⟨ty, kb1⟩ := isTy_ok okn (r1.mono ln) e2
      obtain ⟨_, kb2⟩ := isTy_ok okn (r1.mono ln) e3
      refine ⟨v, q, [.ty (tyS t), .ty (tyS u)], _, [.type (tyS t), .type (tyS u)], b, rfl, upd_same, .cons (.ty _) (.cons (.ty _) .nil), ty, ?_, ?_⟩
      · refine kitAny_cons (kit_ty kb1) (fun f1 => kitAny_cons (kit_ty kb2) (fun f2 => ?_) fun f2 => ?_) fun f1 => ?_
        · rw [kitAny_nil, eb, f1, f2]; rfl
        · rw [eb, f1, f2]; rfl
        · rw [eb, f1]; rfl
      · exact h1 _ _ ln okn rfl rw_bl
end
end MP
end

section
set_option maxHeartbeats 4000000
namespace MP
open PySem PySem.Spec PyProof.Rows L2

/-! ### built-in functions -/
section
variable {K : PySem.W.Frag} {z : Z}
theorem RWs.one {w : W} {vs : List V} (h : RWs K z [w] vs) : ∃ v, vs = [v] ∧ RW K z w v := by
  obtain ⟨v, r, rfl, h1, h2⟩ := h
  cases h2
  exact ⟨v, rfl, h1⟩
theorem RWs.two {w u : W} {vs : List V} (h : RWs K z [w, u] vs) : ∃ v v', vs = [v, v'] ∧ RW K z w v ∧ RW K z u v' := by
  obtain ⟨v, r, rfl, h1, h2⟩ := h
  obtain ⟨v', rfl, h3⟩ := RWs.one h2
  exact ⟨v, v', rfl, h1, h3⟩
theorem RWs.intsW : ∀ {ws : List W} {is : List Int} {vs : List V}, RWs K z ws vs → intsW ws = some is → vs = is.map V.int
  | [], _, _, h, e => by cases h; cases e; rfl
  | w :: ws, _, _, ⟨v, r, e, h1, h2⟩, q => by
    subst e
    simp only [MP.intsW] at q
    split at q
    · rename_i i is e1 e2
      cases q
      rw [RWs.intsW h2 e2]
      unfold intO at e1
      split at e1
      · cases e1; cases h1; rfl
      · cases e1
    · cases q
theorem RWs.blsW : ∀ {ws : List W} {is : List Bool} {vs : List V}, RWs K z ws vs → blsW ws = some is → vs = is.map V.bl
  | [], _, _, h, e => by cases h; cases e; rfl
  | w :: ws, _, _, ⟨v, r, e, h1, h2⟩, q => by
    subst e
    simp only [MP.blsW] at q
    split at q
    · rename_i i is e1 e2
      cases q
      rw [RWs.blsW h2 e2]
      unfold blO at e1
      split at e1
      · cases e1; cases h1; rfl
      · cases e1
    · cases q
end
def rLen (K : PySem.W.Frag) : List V → Hp → VK → Prop := fun xs H Q => (∃ p ys, xs = [.ref p] ∧ (SqL K H p ys ∨ SqT K H p ys) ∧ Q (.int ys.length) H) ∨ (∃ z, xs = [.str z] ∧ z.length ≤ sizeLine ∧ Q (.int z.length) H)
def rTuple (K : PySem.W.Frag) : List V → Hp → VK → Prop := fun xs H Q => ∃ p ys, xs = [.ref p] ∧ ((SqL K H p ys ∧ ∀ l, H l = none → Q (.ref l) (upd H l (.tup ys))) ∨ (SqT K H p ys ∧ Q (.ref p) H))
def rList (K : PySem.W.Frag) : List V → Hp → VK → Prop := fun xs H Q => ∃ p ys, xs = [.ref p] ∧ (SqL K H p ys ∨ SqT K H p ys) ∧ ∀ l, H l = none → Q (.ref l) (upd H l (.lst ys))
def rInt1 : List V → Hp → VK → Prop := fun xs H Q => (∃ i, xs = [.int i] ∧ Q (.int i) H) ∨ ∃ k, xs = [.bl k] ∧ Q (.int (if k then 1 else 0)) H
def rPrim (K : PySem.W.Frag) : Prim → List V → Hp → VK → Prop
  | .len => rLen K
  | .tuple => rTuple K
  | .list => rList K
  | .abs => fun xs H Q => ∃ i, xs = [.int i] ∧ Q (.int (if i < 0 then -i else i)) H
  | .int => rInt1
  | .sum => rSum K
  | .all => rAll K
  | .any => rAny K
  | .min2 => fun xs H Q => ∃ i j, xs = [.int i, .int j] ∧ Q (.int (if j < i then j else i)) H
  | .max2 => fun xs H Q => ∃ i j, xs = [.int i, .int j] ∧ Q (.int (if j > i then j else i)) H
def primV : Prim → String × Bool
  | .len => ("len", false) | .tuple => ("tuple", true) | .list => ("list", true) | .abs => ("abs", false) | .int => ("int", true) | .sum => ("sum", false) | .all => ("all", false) | .any => ("any", false) | .min2 => ("min", false) | .max2 => ("max", false)
def primF (p : Prim) : Value := if (primV p).2 then .type (primV p).1 else .builtin (primV p).1
theorem boot_prim : ∀ p : Prim, bootBuiltins (Str.ofString (primV p).1) = some (primF p) := by
  intro p
  cases p <;> decide +kernel
theorem prim_dbg : ∀ p : Prim, (Str.ofString (primV p).1 == ("__debug__" : Str)) = false ∧ Str.ofString (primV p).1 ≠ ("__name__" : Str) := by
  intro p
  cases p <;> decide +kernel
section
variable {X : Cx} {T : XTab} {Wx : WX} {a b c : Expr} {pos : Pos} {ra rb rc : FE} {es : List Expr} {rs : FA}
theorem call_prim (hc : X.calm = true) : ∀ p : Prim, CallR X (primF p) (rPrim X.K p)
  | .len => call_len_seq.or call_len_str
  | .tuple => call_tuple_of
  | .list => call_list_of
  | .abs => call_abs
  | .int => call_int1
  | .sum => cr_sum hc
  | .all => cr_all hc
  | .any => cr_any hc
  | .min2 => call_min2 hc
  | .max2 => call_max2 hc
theorem p_prim {K : PySem.W.Frag} {new : Bool} : ∀ p : Prim, PN K (primW p new) (rPrim K p) := by
  intro p z ws vs Q ok r0 h
  unfold primW at h
  split at h
  · -- len, a text
    obtain ⟨v, rfl, r⟩ := r0.one
    cases r
    split at h
    · rename_i hl
      exact .inr ⟨_, rfl, le_line hl, h.same ok rw_int⟩
    · exact h.elim
  · obtain ⟨v, rfl, r⟩ := r0.one
    split at h
    · rename_i xs e
      obtain ⟨a, vs, rfl, t, q⟩ := seqOf_at ok r e
      rw [q.length] at h
      exact .inl ⟨a, vs, rfl, t, h.same ok rw_int⟩
    · exact h.elim
  · obtain ⟨v, rfl, r⟩ := r0.one
    obtain ⟨a, vs, rfl, t, q⟩ := r
    exact ⟨a, vs, rfl, .inr ⟨t.sq, h.same ok (show RW K z (.d (.tup _)) (.ref a) from ⟨a, vs, rfl, t, q⟩)⟩⟩
  · rename_i hnt
    obtain ⟨v, rfl, r⟩ := r0.one
    split at h
    · rename_i xs e
      split at h
      · rename_i ds p
        obtain ⟨a, vs, rfl, t, q⟩ := lseqOf_at ok r e
        exact ⟨a, vs, rfl, .inl ⟨t, fun l hl => h.tup ok (q.pures p) hl⟩⟩
      · exact h.elim
    · exact h.elim
  · obtain ⟨v, rfl, r⟩ := r0.one
    split at h
    · rename_i xs e
      obtain ⟨a, vs, rfl, t, q⟩ := seqOf_at ok r e
      exact ⟨a, vs, rfl, t, fun l hl => h.mkL ok q hl⟩
    · exact h.elim
  · obtain ⟨v, rfl, r⟩ := r0.one
    cases r
    exact ⟨_, rfl, h.same ok rw_int⟩
  · obtain ⟨v, rfl, r⟩ := r0.one
    cases r
    exact .inl ⟨_, rfl, h.same ok rw_int⟩
  · obtain ⟨v, rfl, r⟩ := r0.one
    cases r
    exact .inr ⟨_, rfl, h.same ok rw_int⟩
  · obtain ⟨v, rfl, r⟩ := r0.one
    split at h
    · rename_i xs e
      split at h
      · rename_i is p
        obtain ⟨a, vs, rfl, t, q⟩ := lstOf_at ok r e
        rw [q.intsW p] at t
        exact ⟨a, is, rfl, SqL.of t, h.same ok rw_int⟩
      · exact h.elim
    · exact h.elim
  · obtain ⟨v, rfl, r⟩ := r0.one
    split at h
    · rename_i xs e
      split at h
      · rename_i is p
        obtain ⟨a, vs, rfl, t, q⟩ := lstOf_at ok r e
        rw [q.blsW p] at t
        exact ⟨a, is, rfl, SqL.of t, h.same ok rw_bl⟩
      · exact h.elim
    · exact h.elim
  · obtain ⟨v, rfl, r⟩ := r0.one
    split at h
    · rename_i xs e
      split at h
      · rename_i is p
        obtain ⟨a, vs, rfl, t, q⟩ := lstOf_at ok r e
        rw [q.blsW p] at t
        exact ⟨a, is, rfl, SqL.of t, h.same ok rw_bl⟩
      · exact h.elim
    · exact h.elim
  · obtain ⟨v, v', rfl, r1, r2⟩ := r0.two
    cases r1; cases r2
    exact ⟨_, _, rfl, h.same ok rw_int⟩
  · obtain ⟨v, v', rfl, r1, r2⟩ := r0.two
    cases r1; cases r2
    exact ⟨_, _, rfl, h.same ok rw_int⟩
  · exact h.elim
theorem prim_calm {new : Bool} (p : Prim) : CalmN (primW p new) := fun ws S c x S' q => by
  unfold primW at q
  repeat' split at q
  all_goals first
    | cases q; done
    | exact mkL_calm _ _ _ q
theorem pe_prim {p : Prim} {t : TA} {p1 : Pos} {e : Expr} (hc : X.calm = true) (hg : Gl X (Str.ofString (primV p).1)) (hm : X.mg (Str.ofString (primV p).1) = none) (ha : PA X (e :: es) t)
    (hs : starEach (e :: es) X.env = (false, eval e X.env) :: starEach es X.env) (hpl : (backTo pos (starEach es X.env)).any (·.1) = false) : PE X (.Call (.Name (Str.ofString (primV p).1) p1) (e :: es) [] pos) (tCB (rPrim X.K p) t) := by
  have hb := boot_prim p
  have hcl := call_prim hc p
  unfold primF at hb hcl
  by_cases k : (primV p).2 = true
  · rw [if_pos k] at hb hcl
    exact pe_callTy hcl hg hm hb ha (prim_dbg p).2 (prim_dbg p).1 hs hpl
  · rw [if_neg k] at hb hcl
    exact pe_callB hcl hg hm hb ha (prim_dbg p).2 (prim_dbg p).1 hs hpl
theorem de_prim {p : Prim} {new : Bool} {p1 : Pos} {e : Expr} (hc : X.calm = true) (hg : Gl X (Str.ofString (primV p).1)) (hm : X.mg (Str.ofString (primV p).1) = none) (ha : PA X (e :: es) (tA T X.K Wx rs))
    (hs : starEach (e :: es) X.env = (false, eval e X.env) :: starEach es X.env) (hpl : (backTo pos (starEach es X.env)).any (·.1) = false) : PE X (.Call (.Name (Str.ofString (primV p).1) p1) (e :: es) [] pos) (tE T X.K Wx (eN (primW p new) rs)) :=
  de_N (p_prim p) (prim_calm p) (fun t h => pe_prim hc hg hm h hs hpl) ha
end
end MP
end

section
set_option maxHeartbeats 4000000
namespace MP
open PySem PySem.Spec PyProof.Rows L2

/-! ### calls of the text's defs -/
/-- the promise of a def that does what f says of n arguments -/
def spF (T : XTab) (K : PySem.W.Frag) (n : Nat) (f : List W → Store → R W) : Sp := fun vs H Q E => vs.length = n ∧ ∃ z ws, z.H = H ∧ z.Ok K ∧ RWs K z ws vs ∧ match f ws z.S with
  | .ok w S' => ∀ z' v, z.le z' → z'.Ok K → z'.S = S' → RW K z' w v → Q v z'.H
  | .ex c x S' => ∀ z' cls d, z.le z' → z'.Ok K → z'.S = S' → XR T K z' c x cls d → E cls d z'.H
  | .no => False
section
variable {X : Cx} {T : XTab} {Wx : WX} {a b c : Expr} {pos : Pos} {ra rb rc : FE} {es : List Expr} {rs : FA}
theorem de_call {k n : Nat} {f : Addr} {fd : FuncData} {ps : List Str} {g : List W → Store → R W} {x : Str} {p : Pos} {e : Expr} (F : FnOk X.prog X.w X.K X.mg X.base (L2.CX X.prog X.w) k f fd ps (spF T X.K n g)) (hr : Room k X.A) (hg : Gl X x) (hm : X.mg x = some (.ref f))
    (hk : PySem.W.keepIn X.K (.ref f) = true) (hb : Binds X.K fd ps []) (tk : Takes X Wx) (ha : PA X (e :: es) (tA T X.K Wx rs)) (hdb : (x == ("__debug__" : Str)) = false)
    (hs : starEach (e :: es) X.env = (false, eval e X.env) :: starEach es X.env) (hpl : (backTo pos (starEach es X.env)).any (·.1) = false) (hn : ∀ ws S, ws.length ≠ n → g ws S = .no) : PE X (.Call (.Name x p) (e :: es) [] pos) (tE T X.K Wx (eN g rs)) := by
  refine PE.weak (pe_callSD (E := fun σ cls d H => Wx cls d σ H) F hr hg hm hk hb .nil (fun σ => passAt tk σ) ha hdb hs hpl) fun σ H Q h => ?_
  obtain ⟨z, σd, rfl, ok, rs, h⟩ := h
  refine ⟨z, σd, rfl, ok, rs, RunE.stepA h fun z1 ws vs l1 ok1 r1 h1 => ?_⟩
  rw [List.append_nil]
  have hl : vs.length = n := by
    by_cases q : ws.length = n
    · rw [← r1.length]; exact q
    · rw [hn ws _ q] at h1; exact h1.elim
  refine ⟨hl, z1, ws, rfl, ok1, r1, ?_⟩
  cases e1 : g ws z1.S with
  | ok w S' => rw [e1] at h1; exact h1
  | ex c x S' => rw [e1] at h1; exact h1
  | no => rw [e1] at h1; exact h1

/-! ### what is walked -/
/-- a walk J of the items its, from z on -/
def WalkZ (K : PySem.W.Frag) (z : Z) (J : It) (its : List W) : Prop := ∀ z1 : Z, z.lew z1 → z1.Ok K →
  J.stop its.length z1.H ∧ ∀ (i : Nat) (w : W), its[i]? = some w → J.go i z1.H ∧ ∀ x H', J.yld i z1.H x H' → ∃ z2, z1.le z2 ∧ z2.Ok K ∧ z2.S = z1.S ∧ z2.H = H' ∧ RW K z2 w x
section
variable (T : XTab) (K : PySem.W.Frag) (Wx : WX)
def RunI (k : ItK) (z : Z) (σ : L2.St) (r : R (List W)) (Q : It → Hp → Prop) : Prop := match r with
  | .ok ws S' => ∃ its, itemsW k ws = some its ∧ ∀ z' J, z.le z' → z'.Ok K → z'.S = S' → WalkZ K z' J its → Q J z'.H
  | .ex c x S' => RunX T K Wx z σ c x S'
  | .no => False
def tI (k : ItK) (r : FA) : TI := fun σ H Q => ∃ z σd, z.H = H ∧ z.Ok K ∧ RS K z σd σ ∧ RunI T K Wx k z σ (r σd z.S) Q
end
theorem PI.weak {tg e : Expr} {t t' : TI} (h : PI X tg e t) (k : ∀ σ H Q, t' σ H Q → t σ H Q) : PI X tg e t' := ⟨fun pins s σ H Q I q => h.run pins s σ H Q I (k σ H Q q)⟩
/-- a list, a tuple, a text -/
def iSeq (K : PySem.W.Frag) (tl : TE) : TI := fun σ H R => tl σ H fun x H1 => (∃ a, x = .ref a ∧ (∃ xs, SqL K H1 a xs) ∧ R (Itl K a) H1) ∨ (∃ a, x = .ref a ∧ (∃ xs, SqT K H1 a xs) ∧ R (Itt K a) H1) ∨ ∃ y, x = .str y ∧ R (Its y) H1
theorem pi_seq {tg l : Expr} {tl : TE} (hl : PE X l tl) : PI X tg l (iSeq X.K tl) := by
  refine ⟨fun pins s σ H R I h => ?_⟩
  refine thn (hl.run pins s σ H _ I h) fun v s1 ⟨x, H1, I1, r1, q1⟩ => ?_
  rcases q1 with ⟨a, e, ⟨xs, hq⟩, q⟩ | ⟨a, e, ⟨xs, hq⟩, q⟩ | ⟨y, e, q⟩
  · subst e
    cases r1
    obtain ⟨its, rv, p, hz⟩ := I1.list hq
    refine wpAny_pyIter_list p.isList ?_
    refine ⟨s1.heap.objs.size, [s1.heap.objs.size], _, _, H1, rfl, I1.kept (t' := s1.toks) fun b o e => Heap.get?_push_of_some _ e, turn_list a _, ⟨_, Heap.get?_push_size _ rfl, rfl, rfl⟩, fun b hb => ?_, q⟩
    have e : b = s1.heap.objs.size := by simpa using hb
    subst e
    exact I1.fpOk (Nat.le_refl _) (I1.hok.fresh (Nat.le_refl _))
  · subst e
    cases r1
    obtain ⟨its, rv, p, hz⟩ := I1.tuple hq
    refine wpAny_pyIter_tuple (show s1.heap.IsTuple a its.toArray from p) ?_
    refine ⟨s1.heap.objs.size, [s1.heap.objs.size], _, _, H1, rfl, I1.kept (t' := s1.toks) fun b o e => Heap.get?_push_of_some _ e, turn_tuple a _, ⟨_, Heap.get?_push_size _ rfl, rfl, rfl⟩, fun b hb => ?_, q⟩
    have e : b = s1.heap.objs.size := by simpa using hb
    subst e
    exact I1.fpOk (Nat.le_refl _) (I1.hok.fresh (Nat.le_refl _))
  · subst e
    obtain ⟨t, rfl⟩ := r1
    cases ha : y.cps.all (· < 128)
    · exact wpAny_pyIter_wide ha (pi_one (tk := s1.toks) I1 _ (turn_str _ y t "str_iterator" (.inr rfl)) ⟨_, Heap.get?_push_size _ rfl, rfl, rfl⟩ q)
    · exact wpAny_pyIter_ascii ha (pi_one (tk := s1.toks) I1 _ (turn_str _ y t "str_ascii_iterator" (.inl rfl)) ⟨_, Heap.get?_push_size _ rfl, rfl, rfl⟩ q)
theorem walk_lst {K : PySem.W.Frag} {z : Z} {a : Addr} {vs : List V} {xs : List D} (h : z.H a = some (.lst vs)) (m : ¬ z.Mu a) (r : RDs K z xs vs) : WalkZ K z (Itl K a) (xs.map .d) := fun z1 l ok => by
  obtain ⟨h1, m1⟩ := l.keep a _ h m
  have r1 := RDs.mono l.keep _ _ r
  refine ⟨⟨vs, SqL.of h1, by rw [List.length_map, r1.length]; exact Nat.le_refl _⟩, fun i w e => ?_⟩
  obtain ⟨v, ev, rv⟩ := (RWs.map_d r1).get e
  exact ⟨⟨vs, v, SqL.of h1, ev⟩, fun x H' y => ⟨z1, Z.le.refl _, ok, rfl, y.1.symm, by
    have := y.2 vs (SqL.of h1)
    rw [ev] at this
    cases this
    exact rv⟩⟩
theorem walk_tp {K : PySem.W.Frag} {z : Z} {a : Addr} {vs : List V} {xs : List D} (h : TupAt K z a vs) (r : RDs K z xs vs) : WalkZ K z (Itt K a) (xs.map .d) := fun z1 l ok => by
  have h1 := (h.mono l.keep).sq
  have r1 := RDs.mono l.keep _ _ r
  refine ⟨⟨vs, h1, by rw [List.length_map, r1.length]; exact Nat.le_refl _⟩, fun i w e => ?_⟩
  obtain ⟨v, ev, rv⟩ := (RWs.map_d r1).get e
  exact ⟨⟨vs, v, h1, ev⟩, fun x H' y => ⟨z1, Z.le.refl _, ok, rfl, y.1.symm, by
    have := y.2 vs h1
    rw [ev] at this
    cases this
    exact rv⟩⟩
theorem walk_sx {K : PySem.W.Frag} {z : Z} {y : Str} : WalkZ K z (Its y) (y.cps.toList.map fun c => .d (.str ⟨#[c]⟩)) := fun z1 l ok => by
  refine ⟨by show y.cps.size ≤ _; simp, fun i w e => ?_⟩
  have hi : i < y.cps.size := by
    have := (List.getElem?_eq_some_iff.mp e).1
    simpa using this
  refine ⟨hi, fun x H' q => ⟨z1, Z.le.refl _, ok, rfl, q.1.symm, ?_⟩⟩
  obtain ⟨c, ec, rfl⟩ := q.2
  rw [List.getElem?_map] at e
  have : y.cps.toList[i]? = some c := by simpa using ec
  rw [this] at e
  cases e
  rfl
theorem walk_rg {K : PySem.W.Frag} {z : Z} {lo hi : Int} : WalkZ K z (Itr lo (hi - lo).toNat) (rgI lo hi) := fun z1 l ok => by
  refine ⟨by show (hi - lo).toNat ≤ _; simp [rgI], fun i w e => ?_⟩
  have hi' : i < (hi - lo).toNat := by
    have := (List.getElem?_eq_some_iff.mp e).1
    simpa [rgI] using this
  refine ⟨hi', fun x H' q => ⟨z1, Z.le.refl _, ok, rfl, q.1.symm, ?_⟩⟩
  unfold rgI at e
  rw [List.getElem?_map, List.getElem?_range hi'] at e
  cases e
  rw [q.2]
  rfl
theorem pair_new {K : PySem.W.Frag} {z : Z} {p : Addr} {x y : D} {v u : V} (ok : z.Ok K) (hp : z.H p = none) (r1 : RD K z x v) (r2 : RD K z y u) : ∃ z2, z.le z2 ∧ z2.Ok K ∧ z2.S = z.S ∧ z2.H = upd z.H p (.tup [v, u]) ∧ RW K z2 (.d (.tup [x, y])) (.ref p) := by
  have l := Z.le_new ok (p := p) (o := .tup [v, u]) hp
  exact ⟨z.withH (upd z.H p (.tup [v, u])), l, ok.new hp, rfl, rfl, p, [v, u], rfl, .inl ⟨.inl upd_same, (ok.not_mu hp : ¬ z.Mu p)⟩, v, [u], rfl, RD.mono l.keep _ _ r1, u, [], rfl, RD.mono l.keep _ _ r2, rfl⟩
theorem walk_en {K : PySem.W.Frag} {z : Z} {a : Addr} {vs : List V} {xs : List D} (h : z.H a = some (.lst vs)) (m : ¬ z.Mu a) (r : RDs K z xs vs) : WalkZ K z (Ite K a) (enuG xs) := fun z1 l ok => by
  obtain ⟨h1, m1⟩ := l.keep a _ h m
  have r1 := RDs.mono l.keep _ _ r
  refine ⟨⟨vs, SqL.of h1, by simp only [enuG, List.length_map, List.length_zipIdx, r1.length]; exact Nat.le_refl _⟩, fun i w e => ?_⟩
  unfold enuG at e
  rw [List.getElem?_map] at e
  cases e2 : xs.zipIdx[i]? with
  | none => rw [e2] at e; cases e
  | some p =>
    rw [e2] at e
    cases e
    rw [List.getElem?_zipIdx] at e2
    cases e3 : xs[i]? with
    | none => rw [e3] at e2; cases e2
    | some x =>
      rw [e3] at e2
      cases e2
      obtain ⟨v, ev, rv⟩ := r1.get e3
      refine ⟨⟨vs, v, SqL.of h1, ev⟩, fun u H' y => ?_⟩
      obtain ⟨t, v', rfl, ht, rfl, hv⟩ := y
      have := hv vs (SqL.of h1)
      rw [ev] at this
      cases this
      have q := pair_new (x := .int ((0 + i : Nat) : Int)) (v := .int ((i : Nat) : Int)) ok ht (by simp [RD]) rv
      exact q
theorem walk_zp {K : PySem.W.Frag} {z : Z} {a b : Addr} {vs us : List V} {xs ys : List D} (h : z.H a = some (.lst vs)) (m : ¬ z.Mu a) (h' : z.H b = some (.lst us)) (m' : ¬ z.Mu b) (r : RDs K z xs vs) (r' : RDs K z ys us) : WalkZ K z (Itz K a b) (zipG xs ys) := fun z1 l ok => by
  obtain ⟨h1, m1⟩ := l.keep a _ h m
  obtain ⟨h2, m2⟩ := l.keep b _ h' m'
  have r1 := RDs.mono l.keep _ _ r
  have r2 := RDs.mono l.keep _ _ r'
  refine ⟨⟨vs, us, SqL.of h1, SqL.of h2, by simp only [zipG, List.length_map, List.length_zip, r1.length, r2.length]; omega⟩, fun i w e => ?_⟩
  unfold zipG at e
  rw [List.getElem?_map] at e
  cases e2 : (xs.zip ys)[i]? with
  | none => rw [e2] at e; cases e
  | some p =>
    rw [e2] at e
    cases e
    obtain ⟨e3, e4⟩ := List.getElem?_zip_eq_some.mp e2
    obtain ⟨v, ev, rv⟩ := r1.get e3
    obtain ⟨u, eu, ru⟩ := r2.get e4
    refine ⟨⟨vs, us, v, u, SqL.of h1, SqL.of h2, ev, eu⟩, fun q H' y => ?_⟩
    obtain ⟨t, v', u', rfl, ht, rfl, hv, hu⟩ := y
    have := hv vs (SqL.of h1)
    rw [ev] at this
    cases this
    have := hu us (SqL.of h2)
    rw [eu] at this
    cases this
    exact pair_new ok ht rv ru
theorem walk_zt {K : PySem.W.Frag} {z : Z} {a b : Addr} {vs us : List V} {xs ys : List D} (h : TupAt K z a vs) (h' : TupAt K z b us) (r : RDs K z xs vs) (r' : RDs K z ys us) : WalkZ K z (RZ.ItzT K a b) (zipG xs ys) := fun z1 l ok => by
  have h1 := (h.mono l.keep).sq
  have h2 := (h'.mono l.keep).sq
  have r1 := RDs.mono l.keep _ _ r
  have r2 := RDs.mono l.keep _ _ r'
  refine ⟨⟨vs, us, h1, h2, by simp only [zipG, List.length_map, List.length_zip, r1.length, r2.length]; omega⟩, fun i w e => ?_⟩
  unfold zipG at e
  rw [List.getElem?_map] at e
  cases e2 : (xs.zip ys)[i]? with
  | none => rw [e2] at e; cases e
  | some p =>
    rw [e2] at e
    cases e
    obtain ⟨e3, e4⟩ := List.getElem?_zip_eq_some.mp e2
    obtain ⟨v, ev, rv⟩ := r1.get e3
    obtain ⟨u, eu, ru⟩ := r2.get e4
    refine ⟨⟨vs, us, v, u, h1, h2, ev, eu⟩, fun q H' y => ?_⟩
    obtain ⟨t, v', u', rfl, ht, rfl, hv, hu⟩ := y
    have := hv vs h1
    rw [ev] at this
    cases this
    have := hu us h2
    rw [eu] at this
    cases this
    exact pair_new ok ht rv ru
theorem RunI.stepA {K : PySem.W.Frag} {k : ItK} {z : Z} {σ : L2.St} {r : R (List W)} {Q : It → Hp → Prop} {Q' : List V → Hp → Prop} (h : RunI T K Wx k z σ r Q)
    (g : ∀ z1 ws vs its, z.le z1 → z1.Ok K → RWs K z1 ws vs → (∃ S1, r = .ok ws S1) → itemsW k ws = some its → (∀ J, WalkZ K z1 J its → Q J z1.H) → Q' vs z1.H) : RunA T K Wx z σ r Q' := by
  cases r with
  | ok ws S1 =>
    obtain ⟨its, e, h⟩ := h
    exact fun z1 vs l1 ok1 e1 r1 => g z1 ws vs its l1 ok1 r1 ⟨_, rfl⟩ e fun J w => h z1 J l1 ok1 e1 w
  | ex c x S' => exact h
  | no => exact h
theorem di_val {tg : Expr} (ha : PE X a (tE T X.K Wx ra)) : PI X tg a (tI T X.K Wx .val (aCons ra aNil)) := by
  refine PI.weak (pi_seq ha) fun σ H Q h => ?_
  obtain ⟨z, σd, rfl, ok, rs, h⟩ := h
  refine ⟨z, σd, rfl, ok, rs, ?_⟩
  have h : RunI T X.K Wx .val z σ ((ra σd z.S).bind fun x S1 => .ok [x] S1) Q := h
  cases e : ra σd z.S with
  | ex c x S' => rw [e] at h; exact h
  | no => rw [e] at h; exact h
  | ok w S1 =>
    rw [e] at h
    obtain ⟨its, e1, h⟩ := h
    intro z1 v l1 ok1 eS r1
    have e1 : itVal [w] = some its := e1
    unfold itVal at e1
    split at e1
    · rename_i e2; cases e2; cases e1
      obtain ⟨a, vs, rfl, ⟨t, m⟩, q⟩ := r1
      exact .inl ⟨a, rfl, ⟨vs, SqL.of t⟩, h z1 _ l1 ok1 eS (walk_lst t m q)⟩
    · rename_i e2; cases e2; cases e1
      obtain ⟨a, vs, rfl, t, q⟩ := r1
      exact .inr (.inl ⟨a, rfl, ⟨vs, t.sq⟩, h z1 _ l1 ok1 eS (walk_tp t q)⟩)
    · rename_i e2; cases e2; cases e1
      cases r1
      exact .inr (.inr ⟨_, rfl, h z1 _ l1 ok1 eS walk_sx⟩)
    · cases e1
theorem okI_iff {i : Int} (h : okI i = true) : -(2 ^ 62) ≤ i ∧ i < 2 ^ 62 := by
  simp only [okI, Bool.and_eq_true, decide_eq_true_eq] at h
  omega
theorem aCons_one {σ : St} {S S1 : Store} {ws : List W} (h : aCons ra aNil σ S = .ok ws S1) : ∃ w, ws = [w] := by
  unfold aCons at h
  cases e : ra σ S with
  | ok w S2 => rw [e] at h; cases h; exact ⟨w, rfl⟩
  | ex c x S2 => rw [e] at h; cases h
  | no => rw [e] at h; cases h
theorem aCons_two {σ : St} {S S1 : Store} {ws : List W} (h : aCons ra (aCons rb aNil) σ S = .ok ws S1) : ∃ w u, ws = [w, u] := by
  unfold aCons at h
  cases e : ra σ S with
  | ok w S2 =>
    rw [e] at h
    dsimp only [R.bind] at h
    cases e2 : rb σ S2 with
    | ok u S3 => rw [e2] at h; cases h; exact ⟨w, u, rfl⟩
    | ex c x S2 => rw [e2] at h; cases h
    | no => rw [e2] at h; cases h
  | ex c x S2 => rw [e] at h; cases h
  | no => rw [e] at h; cases h
theorem di_rng1 {tg : Expr} {p : Pos} (hg : Gl X "range") (hm : X.mg "range" = none) (ha : PE X a (tE T X.K Wx ra)) (hs : starEach [a] X.env = [(false, eval a X.env)]) : PI X tg (.Call (.Name "range" p) [a] [] pos) (tI T X.K Wx .rng (aCons ra aNil)) := by
  refine PI.weak (pi_range1 hg hm (de_cons ha de_nil hs) hs) fun σ H Q h => ?_
  obtain ⟨z, σd, rfl, ok, rs, h⟩ := h
  refine ⟨z, σd, rfl, ok, rs, RunI.stepA h fun z1 ws vs its l1 ok1 r1 hw e g => ?_⟩
  obtain ⟨S1, hw⟩ := hw
  obtain ⟨w, rfl⟩ := aCons_one hw
  replace e : itRng [w] = some its := e
  unfold itRng at e
  split at e
  · rename_i n e0
    cases e0
    split at e
    · rename_i hk
      cases e
      obtain ⟨v, rfl, r⟩ := r1.one
      cases r
      exact ⟨n, rfl, (okI_iff hk).1, (okI_iff hk).2, by
        have := g (Itr 0 (n - 0).toNat) walk_rg
        simpa using this⟩
    · cases e
  · rename_i e0
    cases e0
  · cases e
theorem di_rng2 {tg : Expr} {p : Pos} (hg : Gl X "range") (hm : X.mg "range" = none) (ha : PE X a (tE T X.K Wx ra)) (hb : PE X b (tE T X.K Wx rb)) (hs : starEach [a, b] X.env = [(false, eval a X.env), (false, eval b X.env)]) (hs2 : starEach [b] X.env = [(false, eval b X.env)]) :
    PI X tg (.Call (.Name "range" p) [a, b] [] pos) (tI T X.K Wx .rng (aCons ra (aCons rb aNil))) := by
  refine PI.weak (pi_range2 hg hm (de_cons ha (de_cons hb de_nil hs2) (by rw [hs, hs2])) hs hs2) fun σ H Q h => ?_
  obtain ⟨z, σd, rfl, ok, rs, h⟩ := h
  refine ⟨z, σd, rfl, ok, rs, RunI.stepA h fun z1 ws vs its l1 ok1 r1 hw e g => ?_⟩
  obtain ⟨S1, hw⟩ := hw
  obtain ⟨w, u, rfl⟩ := aCons_two hw
  replace e : itRng [w, u] = some its := e
  unfold itRng at e
  split at e
  · rename_i e0; cases e0
  · rename_i n m e0
    cases e0
    split at e
    · rename_i hk
      rw [Bool.and_eq_true] at hk
      cases e
      obtain ⟨v, v', rfl, r, r'⟩ := r1.two
      cases r; cases r'
      exact ⟨n, m, rfl, ⟨(okI_iff hk.1).1, (okI_iff hk.1).2, (okI_iff hk.2).1, (okI_iff hk.2).2⟩, g _ walk_rg⟩
    · cases e
  · cases e
theorem di_enu {elts : List Expr} {kk : Nat} {p tpos : Pos} (hg : Gl X "enumerate") (hm : X.mg "enumerate" = none) (ha : PE X a (tE T X.K Wx ra)) (hs : starEach [a] X.env = [(false, eval a X.env)]) : PI X (.Tuple elts kk tpos) (.Call (.Name "enumerate" p) [a] [] pos) (tI T X.K Wx .enu (aCons ra aNil)) := by
  refine PI.weak (pi_enum hg hm (de_cons ha de_nil hs) hs) fun σ H Q h => ?_
  obtain ⟨z, σd, rfl, ok, rs, h⟩ := h
  refine ⟨z, σd, rfl, ok, rs, RunI.stepA h fun z1 ws vs its l1 ok1 r1 hw e g => ?_⟩
  replace e : itEnu ws = some its := e
  unfold itEnu at e
  split at e
  · cases e
    obtain ⟨v, rfl, a, us, rfl, ⟨t, m⟩, q⟩ := r1.one
    exact ⟨a, us, rfl, SqL.of t, g _ (walk_en t m q)⟩
  · cases e
theorem di_zip {elts : List Expr} {kk : Nat} {p tpos : Pos} (hg : Gl X "zip") (hm : X.mg "zip" = none) (ha : PE X a (tE T X.K Wx ra)) (hb : PE X b (tE T X.K Wx rb)) (hs : starEach [a, b] X.env = (false, eval a X.env) :: starEach [b] X.env) (hs2 : starEach [b] X.env = (false, eval b X.env) :: starEach [] X.env) (hpl : (backTo pos (starEach [b] X.env)).any (·.1) = false) :
    PI X (.Tuple elts kk tpos) (.Call (.Name "zip" p) [a, b] [] pos) (tI T X.K Wx .zip (aCons ra (aCons rb aNil))) := by
  refine PI.weak (RZ.pi_zipA hg hm (de_cons ha (de_cons hb de_nil hs2) hs) hs hpl) fun σ H Q h => ?_
  obtain ⟨z, σd, rfl, ok, rs, h⟩ := h
  refine ⟨z, σd, rfl, ok, rs, RunI.stepA h fun z1 ws vs its l1 ok1 r1 hw e g => ?_⟩
  replace e : itZip ws = some its := e
  unfold itZip at e
  split at e
  · cases e
    obtain ⟨v, v', rfl, ⟨a, us, rfl, ⟨t, m⟩, q⟩, ⟨b, us', rfl, ⟨t', m'⟩, q'⟩⟩ := r1.two
    exact ⟨a, b, us, us', rfl, .inl ⟨SqL.of t, SqL.of t', g _ (walk_zp t m t' m' q q')⟩⟩
  · cases e
    obtain ⟨v, v', rfl, ⟨a, us, rfl, t, q⟩, ⟨b, us', rfl, t', q'⟩⟩ := r1.two
    exact ⟨a, b, us, us', rfl, .inr ⟨t.sq, t'.sq, g _ (walk_zt t t' q q')⟩⟩
  · cases e
end
end MP
end

section
set_option maxHeartbeats 4000000
namespace MP
open PySem PySem.Spec PyProof.Rows L2

/-! ### targets -/
def tgSlots : Tg → List Nat
  | .v i => [i]
  | .t is => is
theorem wipe_get (σ : L2.St) (j : Nat) : ∀ vs : List Nat, (wipe σ vs)[j]? = if j ∈ vs then (σ[j]?).map (fun _ => none) else σ[j]?
  | [] => by simp [wipe]
  | v :: vs => by
    unfold wipe
    rw [List.getElem?_set]
    by_cases e : v = j
    · subst e
      rw [wipe_length]
      by_cases h : v < σ.length
      · simp [h]
      · simp [h]
    · rw [if_neg e, wipe_get σ j vs]
      have : j ∈ v :: vs ↔ j ∈ vs := by
        simp only [List.mem_cons]
        exact ⟨fun h => h.resolve_left (fun q => e q.symm), .inr⟩
      simp only [this]
theorem wipe_set {σ : L2.St} {i : Nat} {x : Option V} {vs : List Nat} (h : i ∈ vs) : wipe (σ.set i x) vs = wipe σ vs := by
  apply List.ext_getElem?
  intro j
  rw [wipe_get, wipe_get, List.getElem?_set]
  by_cases e : i = j
  · subst e
    rw [if_pos h, if_pos h]
    by_cases hl : i < σ.length
    · simp [hl]
    · simp [hl]
  · rw [if_neg e]
theorem wipeG_get (σ : St) (j : Nat) : ∀ vs : List Nat, (wipeG σ vs)[j]? = if j ∈ vs then (σ[j]?).map (fun _ => none) else σ[j]?
  | [] => by simp [wipeG]
  | v :: vs => by
    unfold wipeG
    have hl : ∀ vs : List Nat, (wipeG σ vs).length = σ.length := by
      intro vs
      induction vs with
      | nil => rfl
      | cons v vs ih => unfold wipeG; rw [List.length_set, ih]
    rw [List.getElem?_set]
    by_cases e : v = j
    · subst e
      rw [hl]
      by_cases h : v < σ.length
      · simp [h]
      · simp [h]
    · rw [if_neg e, wipeG_get σ j vs]
      have : j ∈ v :: vs ↔ j ∈ vs := by
        simp only [List.mem_cons]
        exact ⟨fun h => h.resolve_left (fun q => e q.symm), .inr⟩
      simp only [this]
theorem wipeG_length (σ : St) : ∀ vs : List Nat, (wipeG σ vs).length = σ.length
  | [] => rfl
  | v :: vs => by unfold wipeG; rw [List.length_set, wipeG_length σ vs]
section
variable {K : PySem.W.Frag} {z : Z}
theorem RS.wipe {σd : St} {σ : L2.St} (h : RS K z σd σ) (vs : List Nat) : RS K z (wipeG σd vs) (wipe σ vs) := by
  refine ⟨by rw [wipeG_length, wipe_length]; exact h.len, fun i w e => ?_⟩
  rw [wipeG_get] at e
  split at e
  · cases q : σd[i]? with
    | none => rw [q] at e; cases e
    | some x => rw [q] at e; cases e
  · rename_i hn
    obtain ⟨v, ev, r⟩ := h.get i w e
    exact ⟨v, by rw [wipe_get, if_neg hn]; exact ev, r⟩
theorem RS.set {σd : St} {σ : L2.St} {w : W} {v : V} (h : RS K z σd σ) (i : Nat) (r : RW K z w v) : RS K z (σd.set i (some w)) (σ.set i (some v)) := by
  refine ⟨by rw [List.length_set, List.length_set]; exact h.len, fun j u e => ?_⟩
  rw [List.getElem?_set] at e ⊢
  by_cases q : i = j
  · subst q
    rw [if_pos rfl] at e ⊢
    rw [← h.len]
    split at e
    · rename_i hl
      cases e
      exact ⟨v, by rw [if_pos hl], r⟩
    · cases e
  · rw [if_neg q] at e ⊢
    exact h.get j u e
end
def tG (K : PySem.W.Frag) (tg : Tg) : TG := fun v σ H Q => ∃ z w σd σd', z.H = H ∧ z.Ok K ∧ RS K z σd σ ∧ RW K z w v ∧ tgSet tg w σd = some σd' ∧ ∀ σ', RS K z σd' σ' → (∀ vs : List Nat, (∀ i ∈ tgSlots tg, i ∈ vs) → wipe σ' vs = wipe σ vs) → Q σ' H
def gsN : List Nat → TGs
  | [] => gNil
  | i :: is => gCons (gName i) (gsN is)
section
variable {X : Cx} {T : XTab} {Wx : WX} {a b c : Expr} {pos : Pos} {ra rb rc : FE} {es : List Expr} {rs : FA}
theorem PG.weak {e : Expr} {t t' : TG} (h : PG X e t) (k : ∀ v σ H Q, t' v σ H Q → t v σ H Q) : PG X e t' := ⟨fun pins s σ H v u Q I r q => h.run pins s σ H v u Q I r (k v σ H Q q)⟩
theorem PS.weak {e : Stmt} {t t' : TS} (h : PS X e t) (k : ∀ D σ H, t' D σ H → t D σ H) : PS X e t' := ⟨fun pins s σ H D I q => h.run pins s σ H D I (k D σ H q)⟩
theorem PSs.weak {e : List Stmt} {t t' : TS} (h : PSs X e t) (k : ∀ D σ H, t' D σ H → t D σ H) : PSs X e t' := ⟨fun pins s σ H D I q => h.run pins s σ H D I (k D σ H q)⟩
theorem dg_name {i : Nat} {x : Str} (hN : X.N.Nodup) (hi : X.N[i]? = some x) (hx : Loc X.env.scope x) (hf : X.fn x = true ∨ X.env.scope.names.lookup x = some .local) : PG X (.Name x pos) (tG X.K (.v i)) := by
  refine PG.weak (pg_name hN hi hx hf) fun v σ H Q h => ?_
  obtain ⟨z, w, σd, σd', rfl, ok, rs, r, e, h⟩ := h
  cases e
  exact h _ (rs.set i r) fun vs hv => wipe_set (hv i List.mem_cons_self)
theorem gsN_ok {K : PySem.W.Frag} {z : Z} (ok : z.Ok K) : ∀ {is : List Nat} {ds : List D} {xs : List V} {σd σd' : St} {σ : L2.St} {Q : L2.St → Hp → Prop}, RDs K z ds xs → RS K z σd σ → setAll is ds σd = some σd' →
    (∀ σ', RS K z σd' σ' → (∀ vs : List Nat, (∀ i ∈ is, i ∈ vs) → wipe σ' vs = wipe σ vs) → Q σ' z.H) → gsN is xs σ z.H Q
  | [], [], _, σd, σd', σ, Q, r, rs, e, h => by
    cases r
    cases e
    exact ⟨rfl, h σ rs fun _ _ => rfl⟩
  | i :: is, d :: ds, _, σd, σd', σ, Q, r, rs, e, h => by
    obtain ⟨v, xs, rfl, r1, r2⟩ := r
    refine ⟨v, xs, rfl, gsN_ok ok r2 (rs.set i (show RW K z (.d d) v from r1)) e fun σ' rs' hw => h σ' rs' fun vs hv => ?_⟩
    rw [hw vs fun j hj => hv j (List.mem_cons_of_mem _ hj)]
    exact wipe_set (hv i List.mem_cons_self)
  | [], _ :: _, _, _, _, _, _, _, _, e, _ => by cases e
  | _ :: _, [], _, _, _, _, _, _, _, e, _ => by cases e
theorem setAll_length : ∀ {is : List Nat} {ds : List D} {σd σd' : St}, setAll is ds σd = some σd' → is.length = ds.length
  | [], [], _, _, _ => rfl
  | i :: is, d :: ds, _, _, e => by
    simp only [setAll] at e
    simp [setAll_length e]
  | [], _ :: _, _, _, e => by cases e
  | _ :: _, [], _, _, e => by cases e
theorem dg_tup {is : List Nat} {k : Nat} (hc : X.calm = true) (h : PGs X es (gsN is)) (hn : (assignEach es X.env).length = is.length) (hst : (assignEach es X.env).findIdx? (·.1) = none) : PG X (.Tuple es k pos) (tG X.K (.t is)) := by
  refine PG.weak (pg_tup hc h hn hst) fun v σ H Q h => ?_
  obtain ⟨z, w, σd, σd', rfl, ok, rs, r, e, h⟩ := h
  unfold tgSet at e
  split at e
  · rename_i h1; cases h1
  · rename_i is' xs h1
    cases h1
    obtain ⟨a, vs, rfl, t, q⟩ := r
    exact ⟨a, vs, rfl, t.sq, by rw [← q.length, setAll_length e], gsN_ok ok q rs e h⟩
  · cases e

/-! ### list comprehensions -/
def compF (tg : Tg) (own : List Nat) (cond : Option FE) (elt : FE) (σ : St) (w : W) (S : Store) : R (Option W) := match tgSet tg w (wipeG σ own) with
  | none => .no
  | some σ1 => match cond with
    | none => (elt σ1 S).bind fun x S' => .ok (some x) S'
    | some c => (c σ1 S).bind fun b S1 => match b with
      | .d (.bl true) => (elt σ1 S1).bind fun x S' => .ok (some x) S'
      | .d (.bl false) => .ok none S1
      | _ => .no
def eComp (new : Bool) (k : ItK) (src : FA) (tg : Tg) (own : List Nat) (cond : Option FE) (elt : FE) : FE := fun σ S => (src σ S).bind fun ws S1 => match itemsW k ws with
  | none => .no
  | some its => if its.length < line then ((compL (compF tg own cond elt σ) its S1).plain).bind fun xs S2 => mkL new xs S2 else .no
def W0 : WX := fun _ _ _ _ => False
def tCond (T : XTab) (K : PySem.W.Frag) : Option FE → TT
  | none => tYes
  | some r => tT T K W0 r
theorem compL_len {f : W → Store → R (Option W)} : ∀ {its : List W} {S S' : Store} {xs : List W}, compL f its S = .ok xs S' → xs.length ≤ its.length
  | [], _, _, _, h => by cases h; simp
  | w :: ws, S, S', xs, h => by
    simp only [compL] at h
    cases e : f w S with
    | ok o S1 =>
      rw [e] at h
      simp only [R.bind] at h
      cases e2 : compL f ws S1 with
      | ok r S2 =>
        rw [e2] at h
        simp only at h
        have := compL_len e2
        cases o with
        | none => cases h; simp; omega
        | some x => cases h; simp; omega
      | ex c x S2 => rw [e2] at h; cases h
      | no => rw [e2] at h; cases h
    | ex c x S2 => rw [e] at h; cases h
    | no => rw [e] at h; cases h
/-- what the turn gives -/
theorem compL_cons {f : W → Store → R (Option W)} {w : W} {ws : List W} {S S' : Store} {xs : List W} (h : compL f (w :: ws) S = .ok xs S') : ∃ o S1 r, f w S = .ok o S1 ∧ compL f ws S1 = .ok r S' ∧ xs = (match o with | some x => x :: r | none => r) := by
  simp only [compL] at h
  cases e : f w S with
  | ok o S1 =>
    rw [e] at h
    simp only [R.bind] at h
    cases e2 : compL f ws S1 with
    | ok r S2 =>
      rw [e2] at h
      cases h
      exact ⟨o, S1, r, rfl, e2, rfl⟩
    | ex c x S2 => rw [e2] at h; cases h
    | no => rw [e2] at h; cases h
  | ex c x S2 => rw [e] at h; cases h
  | no => rw [e] at h; cases h
/-- an element's value on its own -/
theorem elt_run {K : PySem.W.Frag} {z : Z} {σ : L2.St} {σd : St} {elt : FE} {o : Option W} {S' : Store} {Q : VK} (ok : z.Ok K) (rs : RS K z σd σ) (h : (elt σd z.S).bind (fun x S' => .ok (some x) S') = .ok o S')
    (k : ∀ z' v w, o = some w → z.le z' → z'.Ok K → z'.S = S' → RW K z' w v → Q v z'.H) : tE T K W0 elt σ z.H Q := by
  refine ⟨z, σd, rfl, ok, rs, ?_⟩
  cases e : elt σd z.S with
  | ok w S1 =>
    rw [e] at h
    cases h
    exact fun z' v l ok' e' r => k z' v w rfl l ok' e' r
  | ex c x S2 => rw [e] at h; cases h
  | no => rw [e] at h; cases h
theorem de_comp {tgE iter elt : Expr} {ifs : List Expr} {scope : Scope} {own : List (Str × Nat)} {new : Bool} {k : ItK} {src : FA} {tg : Tg} {cond : Option FE} {relt : FE} (hc : X.calm = true) (hN : X.N.Nodup) (hi : PI X tgE iter (tI T X.K Wx k src)) (okB : BlkOk X.N X.env.scope scope own)
    (hg : ∀ (s : Shared) (H : Hp) (C : Addr) (cl : List (Str × Addr)) (fp : List Addr), PG (X.blk s H scope (compEnvC scope cl C X.env) fp) tgE (tG X.K tg)) (ht : ∀ (s : Shared) (H : Hp) (C : Addr) (cl : List (Str × Addr)) (fp : List Addr), PTs (X.blk s H scope (compEnvC scope cl C X.env) fp) ifs (tCond T X.K cond))
    (he : ∀ (s : Shared) (H : Hp) (C : Addr) (cl : List (Str × Addr)) (fp : List Addr), PE (X.blk s H scope (compEnvC scope cl C X.env) fp) elt (tE T X.K W0 relt)) (sub : ∀ i ∈ tgSlots tg, i ∈ own.map (·.2)) (hs : ∀ x, foldedSetIterable iter X.env x = pure x) :
    ∀ σ H Q, tE T X.K Wx (eComp new k src tg (own.map (·.2)) cond relt) σ H Q → tLc (tI T X.K Wx k src) (tG X.K tg) (tCond T X.K cond) (tE T X.K W0 relt) (own.map (·.2)) σ H Q := by
  intro σ H Q h
  obtain ⟨z0, σd, rfl, ok0, rs0, h⟩ := h
  refine ⟨z0, σd, rfl, ok0, rs0, ?_⟩
  have h : RunE T X.K Wx z0 σ ((src σd z0.S).bind fun ws S1 => match itemsW k ws with
    | none => .no
    | some its => if its.length < line then ((compL (compF tg (own.map (·.2)) cond relt σd) its S1).plain).bind fun xs S2 => mkL new xs S2 else .no) Q := h
  cases e : src σd z0.S with
  | ex c x S' => rw [e] at h; exact h
  | no => rw [e] at h; exact h
  | ok ws S1 =>
    rw [e] at h
    simp only [R.bind] at h
    cases e2 : itemsW k ws with
    | none => rw [e2] at h; exact h.elim
    | some its =>
      rw [e2] at h
      simp only at h
      refine ⟨its, e2, fun z1 J l1 ok1 eS wk D hD => ?_⟩
      by_cases hl : its.length < line
      · rw [if_pos hl] at h
        cases e3 : compL (compF tg (own.map (·.2)) cond relt σd) its S1 with
        | ex c x S' => rw [e3] at h; exact h.elim
        | no => rw [e3] at h; exact h.elim
        | ok xs Sf =>
          rw [e3] at h
          simp only [R.plain] at h
          obtain ⟨okD, lD⟩ := ok1.begin (o := .lst []) hD
          have pD : ∀ a, z1.P a → a ≠ D := fun a h e => by
            obtain ⟨⟨u, q⟩, _⟩ := ok1.priv a h
            rw [e, hD] at q
            cases q
          -- the invariant
          refine ⟨fun i m H => ∃ z accW accV rest, m = its.length - i ∧ i ≤ its.length ∧ z1.lew z ∧ z.Ok X.K ∧ z.H = H ∧ z.P = (fun a => z1.P a ∨ a = D) ∧ (∀ a, z1.P a → z.H a = z1.H a) ∧ H D = some (.lst accV) ∧ RWs X.K z accW accV ∧ accW.length ≤ i ∧
            compL (compF tg (own.map (·.2)) cond relt σd) (its.drop i) z.S = .ok rest Sf ∧ xs = accW ++ rest,
            ⟨its.length, _, [], [], xs, rfl, Nat.zero_le _, lD, okD, rfl, rfl, fun a h => upd_ne (pD a h), upd_same, rfl, Nat.le_refl _, by rw [List.drop_zero]; show compL _ its z1.S = _; rw [eS]; exact e3, rfl⟩, ?_⟩
          rintro i m H' ⟨z, accW, accV, rest, rfl, hi', lz, okz, rfl, hP, hpk, hDv, racc, hacc, hrest, hxs⟩
          obtain ⟨stop, go⟩ := wk z lz okz
          by_cases hlt : i < its.length
          · have hd : its.drop i = its[i] :: its.drop (i + 1) := List.drop_eq_getElem_cons hlt
            rw [hd] at hrest
            obtain ⟨o, Sn, r, hf, hrest', hr⟩ := compL_cons hrest
            obtain ⟨go1, yl⟩ := go i its[i] (List.getElem?_eq_getElem hlt)
            refine .inr ⟨go1, fun H2 => ∃ z accW accV rest, z1.lew z ∧ z.Ok X.K ∧ z.H = H2 ∧ z.P = (fun a => z1.P a ∨ a = D) ∧ (∀ a, z1.P a → z.H a = z1.H a) ∧ H2 D = some (.lst accV) ∧ RWs X.K z accW accV ∧ accW.length ≤ i + 1 ∧
              compL (compF tg (own.map (·.2)) cond relt σd) (its.drop (i + 1)) z.S = .ok rest Sf ∧ xs = accW ++ rest, fun H2 hN2 => ?_, fun x H2 hy => ?_⟩
            · obtain ⟨z, accW, accV, rest, q⟩ := hN2
              exact ⟨its.length - (i + 1), by omega, z, accW, accV, rest, rfl, by omega, q⟩
            · obtain ⟨z2, l2, ok2, eS2, rfl, rx⟩ := yl x H2 hy
              -- the next turn's invariant, from a later state
              have next : ∀ (z3 : Z) (accW' : List W) (accV' : List V), z.le z3 → z3.Ok X.K → z3.S = Sn → RWs X.K z3 accW' accV' → accW'.length ≤ i + 1 → xs = accW' ++ r →
                  ∃ z accW accV rest, z1.lew z ∧ z.Ok X.K ∧ z.H = upd z3.H D (.lst accV') ∧ z.P = (fun a => z1.P a ∨ a = D) ∧ (∀ a, z1.P a → z.H a = z1.H a) ∧ (upd z3.H D (.lst accV')) D = some (.lst accV) ∧ RWs X.K z accW accV ∧ accW.length ≤ i + 1 ∧
                    compL (compF tg (own.map (·.2)) cond relt σd) (its.drop (i + 1)) z.S = .ok rest Sf ∧ xs = accW ++ rest := fun z3 accW' accV' l3 ok3 eS3 r3 hle hx => by
                have p3 : z3.P D := by rw [l3.pe, hP]; exact .inr rfl
                obtain ⟨okg, lg⟩ := ok3.grow (o := .lst accV') p3
                refine ⟨_, accW', accV', r, (lz.trans l3.tolew).trans lg, okg, rfl, by show z3.P = _; rw [l3.pe, hP], fun a h => ?_, upd_same, r3.monoW lg, hle, by show compL _ _ z3.S = _; rw [eS3]; exact hrest', hx⟩
                show upd z3.H D (.lst accV') a = _
                rw [upd_ne (pD a h), l3.pk a (by rw [hP]; exact .inl h), hpk a h]
              have same3 : ∀ z3 : Z, z.le z3 → z3.H D = some (.lst accV) := fun z3 l3 => by
                rw [l3.pk D (by rw [hP]; exact .inr rfl)]
                exact hDv
              unfold compF at hf
              split at hf
              · cases hf
              · rename_i σ1 hσ
                have rs2 : RS X.K z2 (wipeG σd (own.map (·.2))) (wipe σ (own.map (·.2))) := ((rs0.mono l1).monoW (lz.trans l2.tolew)).wipe _
                refine ⟨z2, its[i], _, σ1, rfl, ok2, rs2, rx, hσ, fun σ2 rs3 hw => ⟨?_, ?_⟩⟩
                · rw [hw _ sub]
                  apply List.ext_getElem?
                  intro j
                  rw [wipe_get, wipe_get]
                  split
                  · cases (σ[j]?) <;> rfl
                  · rfl
                · have took : ∀ z3 : Z, z2.le z3 → z3.Ok X.K → (relt σ1 z3.S).bind (fun x S' => .ok (some x) S') = .ok o Sn → tE T X.K W0 relt σ2 z3.H (fun y H4 => ∃ acc, H4 D = some (.lst acc) ∧ acc.length < sizeLine ∧
                      ∃ z accW accV rest, z1.lew z ∧ z.Ok X.K ∧ z.H = (upd H4 D (.lst (acc ++ [y]))) ∧ z.P = (fun a => z1.P a ∨ a = D) ∧ (∀ a, z1.P a → z.H a = z1.H a) ∧ (upd H4 D (.lst (acc ++ [y]))) D = some (.lst accV) ∧ RWs X.K z accW accV ∧ accW.length ≤ i + 1 ∧
                        compL (compF tg (own.map (·.2)) cond relt σd) (its.drop (i + 1)) z.S = .ok rest Sf ∧ xs = accW ++ rest) := fun z3 l3 ok3 hb => by
                    refine elt_run ok3 (rs3.mono l3) hb fun z4 v w ho l4 ok4 eS4 r4 => ?_
                    have l24 : z.le z4 := (l2.trans l3).trans l4
                    subst ho
                    refine ⟨accV, same3 z4 l24, lt_line (by rw [← racc.length]; omega), next z4 (accW ++ [w]) (accV ++ [v]) l24 ok4 eS4 ((racc.mono l24).append ⟨v, [], rfl, r4, rfl⟩) (by simp; omega) ?_⟩
                    rw [hxs, hr, List.append_assoc]
                    rfl
                  have left : ∀ z3 : Z, z2.le z3 → z3.Ok X.K → z3.S = Sn → o = none → ∃ z accW accV rest, z1.lew z ∧ z.Ok X.K ∧ z.H = z3.H ∧ z.P = (fun a => z1.P a ∨ a = D) ∧ (∀ a, z1.P a → z.H a = z1.H a) ∧ z3.H D = some (.lst accV) ∧ RWs X.K z accW accV ∧ accW.length ≤ i + 1 ∧
                        compL (compF tg (own.map (·.2)) cond relt σd) (its.drop (i + 1)) z.S = .ok rest Sf ∧ xs = accW ++ rest := fun z3 l3 ok3 eS3 ho => by
                    have l23 : z.le z3 := l2.trans l3
                    subst ho
                    exact ⟨z3, accW, accV, r, lz.trans l23.tolew, ok3, rfl, by rw [l23.pe, hP], fun a h => by rw [l23.pk a (by rw [hP]; exact .inl h), hpk a h], same3 z3 l23, racc.mono l23, by omega, by rw [eS3]; exact hrest', by rw [hxs, hr]⟩
                  rw [← eS2] at hf
                  cases cond with
                  | none =>
                    exact took z2 (Z.le.refl z2) ok2 hf
                  | some rc =>
                    refine ⟨z2, σ1, rfl, ok2, rs3, ?_⟩
                    dsimp only at hf
                    cases ec : rc σ1 z2.S with
                    | ex c x S' => rw [ec] at hf; cases hf
                    | no => rw [ec] at hf; cases hf
                    | ok b Sb =>
                      rw [ec] at hf
                      simp only [R.bind] at hf
                      split at hf
                      · refine ⟨true, rfl, fun z3 l3 ok3 eS3 => ?_⟩
                        exact took z3 l3 ok3 (by rw [eS3]; exact hf)
                      · refine ⟨false, rfl, fun z3 l3 ok3 eS3 => ?_⟩
                        cases hf
                        exact left z3 l3 ok3 eS3 rfl
                      · cases hf
          · have hi2 : i = its.length := by omega
            subst hi2
            rw [List.drop_length] at hrest
            cases hrest
            refine .inl ⟨stop, ?_⟩
            rw [List.append_nil] at hxs
            subst hxs
            have lst1 : ∀ z' : Z, z1.lew z' → z'.P = z1.P → (∀ a, z1.P a → z'.H a = z1.H a) → z1.le z' := fun z' a b c => ⟨a, b, c⟩
            unfold mkL at h
            split at h
            · -- an object of the store
              obtain ⟨okp, lp⟩ := okz.publish (P := z1.P) (by rw [hP]; exact .inr rfl) hDv racc fun a h => ⟨by rw [hP]; exact .inl h, pD a h⟩
              refine h (Z.mk (z.μ ++ [D]) (z.S ++ [.lst xs]) z.H z1.P) (.ref D) (l1.trans ⟨lz.trans lp, rfl, hpk⟩) okp rfl ⟨D, rfl, ?_⟩
              show (z.μ ++ [D])[z.S.length]? = some D
              rw [← okz.len, List.getElem?_append_right (Nat.le_refl _)]
              simp
            · split at h
              · rename_i ds hp
                obtain ⟨okm, lm⟩ := okz.made (P := z1.P) fun a h => by rw [hP]; exact .inl h
                refine h (z.withP z1.P) (.ref D) (l1.trans ⟨lz.trans lm, rfl, hpk⟩) okm rfl ⟨D, accV, rfl, ⟨hDv, fun m => ?_⟩, (racc.monoW lm).pures hp⟩
                rcases m with m | m
                · exact (okz.priv D (by rw [hP]; exact .inr rfl)).2 m
                · exact pD D m rfl
              · exact h.elim
      · rw [if_neg hl] at h
        exact h.elim
end
end MP
end

section
set_option maxHeartbeats 4000000
namespace MP
open PySem PySem.Spec PyProof.Rows L2

/-! ### statements -/
def R.toF {α : Type} (r : R α) (σ : St) (f : α → Store → F) : F := match r with
  | .ok a S => f a S
  | .ex c x S => .ex c x σ S
  | .no => .no
def sSkip : FS := fun σ S => .nx σ S
def sSeq (a b : FS) : FS := fun σ S => match a σ S with
  | .nx σ1 S1 => b σ1 S1
  | r => r
def tgF (tg : Tg) (w : W) (σ : St) (S : Store) : F := match tgSet tg w σ with
  | some σ1 => .nx σ1 S
  | none => .no
def sAsg (tg : Tg) (e : FE) : FS := fun σ S => (e σ S).toF σ fun w S1 => tgF tg w σ S1
def setsW : List Nat → List W → St → Option St
  | [], [], σ => some σ
  | i :: is, w :: ws, σ => setsW is ws (σ.set i (some w))
  | _, _, _ => none
def sPar (is : List Nat) (es : FA) : FS := fun σ S => (es σ S).toF σ fun ws S1 => match setsW is ws σ with
  | some σ1 => .nx σ1 S1
  | none => .no
def sRet (e : FE) : FS := fun σ S => (e σ S).toF σ fun w S1 => .rt w S1
def sExpr (e : FE) : FS := fun σ S => (e σ S).toF σ fun _ S1 => .nx σ S1
def sIf (c : FE) (a b : FS) : FS := fun σ S => (c σ S).toF σ fun x S1 => match x with
  | .d (.bl true) => a σ S1
  | .d (.bl false) => b σ S1
  | _ => .no
def sFor (k : ItK) (src : FA) (tg : Tg) (b : FS) : FS := fun σ S => (src σ S).toF σ fun ws S1 => match itemsW k ws with
  | none => .no
  | some its => forL (fun w σ S => match tgSet tg w σ with
    | none => .no
    | some σ1 => b σ1 S) its σ S1
noncomputable def sWhile (c : FE) (b : FS) : FS := whileF c b
def sAug (o : Op2) (i : Nat) (e : FE) : FS := fun σ S => match σ[i]? with
  | some (some w) => (e σ S).toF σ fun u S1 => match binW o false w u S1 with
    | .ok r S2 => .nx (σ.set i (some r)) S2
    | _ => .no
  | _ => .no
/-- o[i] = e: e, then o, then i -/
def sSetI (o i e : FE) : FS := fun σ S => (e σ S).toF σ fun v S1 => (o σ S1).toF σ fun ov S2 => (i σ S2).toF σ fun iv S3 => match setIW ov iv v S3 with
  | some S4 => .nx σ S4
  | none => .no
/-- no statement: the object in slot i will change no more -/
def sFrz (i : Nat) : FS := fun σ S => match σ[i]? with
  | some (some w) => match freeze w S with
    | some (w', S') => .nx (σ.set i (some w')) S'
    | none => .no
  | _ => .no
section
variable (T : XTab) (K : PySem.W.Frag) (Wx : WX)
def RunS (z : Z) (r : F) (D : Ends) : Prop := match r with
  | .nx σd S' => ∀ z' σ', z.le z' → z'.Ok K → z'.S = S' → RS K z' σd σ' → D.nx σ' z'.H
  | .rt w S' => ∀ z' v, z.le z' → z'.Ok K → z'.S = S' → RW K z' w v → D.rt v z'.H
  | .ex c x σd S' => ∀ z' σ' cls d, z.le z' → z'.Ok K → z'.S = S' → RS K z' σd σ' → XR T K z' c x cls d → Wx cls d σ' z'.H
  | .no => False
def tS (r : FS) : TS := fun D σ H => ∃ z σd, z.H = H ∧ z.Ok K ∧ RS K z σd σ ∧ RunS T K Wx z (r σd z.S) D
end
section
variable {T : XTab} {K : PySem.W.Frag} {Wx : WX} {z z1 : Z} {σ : L2.St} {σd : St} {D : Ends}
theorem RunS.mono {r : F} (h : RunS T K Wx z r D) (l : z.le z1) : RunS T K Wx z1 r D := by
  cases r with
  | nx σd S' => exact fun z' σ' l' => h z' σ' (l.trans l')
  | rt w S' => exact fun z' v l' => h z' v (l.trans l')
  | ex c x σd S' => exact fun z' σ' cls d l' => h z' σ' cls d (l.trans l')
  | no => exact h
theorem RunS.exX {c : Nat} {x : MP.D} {S' : Store} (h : RunS T K Wx z (.ex c x σd S') D) (rs : RS K z σd σ) : RunX T K Wx z σ c x S' := fun z' cls d l ok e xr => h z' σ cls d l ok e (rs.mono l) xr
theorem RunS.step {r : R W} {f : W → Store → F} {Q' : VK} (rs : RS K z σd σ) (h : RunS T K Wx z (r.toF σd f) D) (k : ∀ z1 w v, z.le z1 → z1.Ok K → RW K z1 w v → RunS T K Wx z1 (f w z1.S) D → Q' v z1.H) : RunE T K Wx z σ r Q' := by
  cases r with
  | ok w S1 =>
    intro z1 v l1 ok1 e1 r1
    subst e1
    exact k z1 w v l1 ok1 r1 (RunS.mono h l1)
  | ex c x S' => exact RunS.exX h rs
  | no => exact h
theorem RunS.stepA {r : R (List W)} {f : List W → Store → F} {Q' : List V → Hp → Prop} (rs : RS K z σd σ) (h : RunS T K Wx z (r.toF σd f) D) (k : ∀ z1 w v, z.le z1 → z1.Ok K → RWs K z1 w v → RunS T K Wx z1 (f w z1.S) D → Q' v z1.H) : RunA T K Wx z σ r Q' := by
  cases r with
  | ok w S1 =>
    intro z1 v l1 ok1 e1 r1
    subst e1
    exact k z1 w v l1 ok1 r1 (RunS.mono h l1)
  | ex c x S' => exact RunS.exX h rs
  | no => exact h
theorem RunS.test {r : R W} {f g : Store → F} {Q' : Bool → Hp → Prop} (rs : RS K z σd σ) (h : RunS T K Wx z (r.toF σd fun x S1 => match x with | .d (.bl true) => f S1 | .d (.bl false) => g S1 | _ => .no) D)
    (k : ∀ z1 b, z.le z1 → z1.Ok K → RunS T K Wx z1 (if b = true then f z1.S else g z1.S) D → Q' b z1.H) : RunT T K Wx z σ r Q' := by
  cases r with
  | ok w S1 =>
    dsimp only [R.toF] at h
    split at h
    · refine ⟨true, rfl, fun z1 l1 ok1 e1 => ?_⟩
      subst e1
      exact k z1 true l1 ok1 (by rw [if_pos rfl]; exact RunS.mono h l1)
    · refine ⟨false, rfl, fun z1 l1 ok1 e1 => ?_⟩
      subst e1
      exact k z1 false l1 ok1 (by rw [if_neg Bool.false_ne_true]; exact RunS.mono h l1)
    · exact h.elim
  | ex c x S' => exact RunS.exX h rs
  | no => exact h
end
section
variable {X : Cx} {T : XTab} {Wx : WX} {a b c e : Expr} {pos : Pos} {ra rb rc re : FE} {es : List Expr} {rs : FA} {st : Stmt} {rest ss : List Stmt} {s1 s2 : FS}
theorem ds_nil : PSs X [] (tS T X.K Wx sSkip) := by
  refine PSs.weak pss_nil fun D σ H h => ?_
  obtain ⟨z, σd, rfl, ok, rs, h⟩ := h
  exact h z σ (Z.le.refl z) ok rfl rs
theorem ds_cons (h1 : PS X st (tS T X.K Wx s1)) (h2 : PSs X rest (tS T X.K Wx s2)) : PSs X (st :: rest) (tS T X.K Wx (sSeq s1 s2)) := by
  refine PSs.weak (pss_cons h1 h2) fun D σ H h => ?_
  obtain ⟨z, σd, rfl, ok, rs, h⟩ := h
  refine ⟨z, σd, rfl, ok, rs, ?_⟩
  unfold sSeq at h
  cases q : s1 σd z.S with
  | nx σ1 S1 =>
    rw [q] at h
    intro z' σ' l' ok' e' rs'
    refine ⟨z', σ1, rfl, ok', rs', ?_⟩
    rw [e']
    exact RunS.mono h l'
  | rt w S' => rw [q] at h; exact h
  | ex c x σd S' => rw [q] at h; exact h
  | no => rw [q] at h; exact h
/-- a ghost in front -/
theorem ds_frz {i : Nat} (h2 : PSs X rest (tS T X.K Wx s2)) : PSs X rest (tS T X.K Wx (sSeq (sFrz i) s2)) := by
  refine PSs.weak h2 fun D σ H h => ?_
  obtain ⟨z, σd, rfl, ok, rs, h⟩ := h
  unfold sSeq sFrz at h
  cases q : σd[i]? with
  | none => rw [q] at h; exact h.elim
  | some o =>
    cases o with
    | none => rw [q] at h; exact h.elim
    | some w =>
      rw [q] at h
      dsimp only at h
      cases q2 : freeze w z.S with
      | none => rw [q2] at h; exact h.elim
      | some p =>
        obtain ⟨w', S'⟩ := p
        rw [q2] at h
        dsimp only at h
        obtain ⟨v, ev, r⟩ := rs.get i w q
        unfold freeze at q2
        split at q2
        · rename_i x0
          cases q2
          refine ⟨z, _, rfl, ok, ?_, h⟩
          have : σd.set i (some (.d x0)) = σd := by
            apply List.ext_getElem?
            intro j
            rw [List.getElem?_set]
            by_cases e : i = j
            · subst e
              rw [if_pos rfl, if_pos (List.getElem?_eq_some_iff.mp q).1, q]
            · rw [if_neg e]
          rw [this]
          exact rs
        · rename_i n
          split at q2
          · rename_i ws e1
            split at q2
            · rename_i xs e2
              cases q2
              refine ⟨Z.mk z.μ (z.S.set n .dead) z.H z.P, _, rfl, ok.dead, ?_, RunS.mono h Z.le_dead⟩
              have rs' := rs.mono (Z.le_dead (n := n))
              have rv := RD.frozen ok e1 e2 r
              refine ⟨by rw [List.length_set]; exact rs'.len, fun j u ej => ?_⟩
              rw [List.getElem?_set] at ej
              by_cases e : i = j
              · subst e
                rw [if_pos rfl] at ej
                split at ej
                · cases ej; exact ⟨v, ev, rv⟩
                · cases ej
              · rw [if_neg e] at ej
                exact rs'.get j u ej
            · cases q2
          · cases q2
        · cases q2
theorem ds_asgG {tg : Tg} {tgE : Expr} (he : PE X e (tE T X.K Wx re)) (hg : PG X tgE (tG X.K tg)) {g : TG} (h : ∀ te, PE X e te → PS X st (tAsg te (tG X.K tg))) : PS X st (tS T X.K Wx (sAsg tg re)) := by
  refine PS.weak (h _ he) fun D σ H h => ?_
  obtain ⟨z, σd, rfl, ok, rs, h⟩ := h
  refine ⟨z, σd, rfl, ok, rs, RunS.step rs h fun z1 w v l1 ok1 r1 h1 => ?_⟩
  unfold tgF at h1
  split at h1
  · rename_i σ1 e1
    exact ⟨z1, w, σd, σ1, rfl, ok1, rs.mono l1, r1, e1, fun σ' rs' _ => h1 z1 σ' (Z.le.refl z1) ok1 rfl rs'⟩
  · exact h1.elim
theorem asg_name {i : Nat} {D : Ends} {σ : L2.St} {K : PySem.W.Frag} {z : Z} {σd : St} {re : FE} (ok : z.Ok K) (rs : RS K z σd σ) (h : RunS T K Wx z (sAsg (.v i) re σd z.S) D) : RunE T K Wx z σ (re σd z.S) (fun x H1 => gName i x σ H1 D.nx) :=
  RunS.step rs h fun z1 w v l1 ok1 r1 h1 => h1 z1 _ (Z.le.refl z1) ok1 rfl ((rs.mono l1).set i r1)
theorem ds_set {i : Nat} {x : Str} {pos' : Pos} (hN : X.N.Nodup) (hi : X.N[i]? = some x) (hx : Loc X.env.scope x) (he : PE X e (tE T X.K Wx re)) (hs : swapsWith e (some (.Name x pos')) pos.line X.env = pure false) (hf : X.fn x = true ∨ X.env.scope.names.lookup x = some .local) :
    PS X (.Assign [.Name x pos'] e pos) (tS T X.K Wx (sAsg (.v i) re)) := by
  refine PS.weak (ps_set hN hi hx he hs hf) fun D σ H h => ?_
  obtain ⟨z, σd, rfl, ok, rs, h⟩ := h
  exact ⟨z, σd, rfl, ok, rs, asg_name ok rs h⟩
theorem ds_unp {tg : Tg} {tgE : Expr} (he : PE X e (tE T X.K Wx re)) (hg : PG X tgE (tG X.K tg)) (hs : swapsWithSole [tgE] e pos.line X.env = pure false) (hw : swappedStores [tgE] e X.env = pure none)
    (h1 : (assignEach [tgE] X.env).map (·.2) = [assign tgE X.env]) : PS X (.Assign [tgE] e pos) (tS T X.K Wx (sAsg tg re)) :=
  ds_asgG (g := tG X.K tg) he hg fun te h => ps_asg h hg hs hw h1
theorem ds_setC {i : Nat} {y : Str} {py : Pos} {tgE iter elt : Expr} {ifs : List Expr} {scope : Scope} {own : List (Str × Nat)} {spos : Pos} {new : Bool} {k : ItK} {src : FA} {tg : Tg} {cond : Option FE} {relt : FE} (hc : X.calm = true) (hN : X.N.Nodup) (hy : X.N[i]? = some y) (hyl : X.env.scope.names.lookup y = some .local)
    (hsw : swapsWith (.ListComp elt [⟨tgE, iter, ifs, 0⟩] scope pos) (some (.Name y py)) spos.line X.env = pure true) (hi : PI X tgE iter (tI T X.K Wx k src)) (okB : BlkOk X.N X.env.scope scope own)
    (hg : ∀ (s : Shared) (H : Hp) (C : Addr) (cl : List (Str × Addr)) (fp : List Addr), PG (X.blk s H scope (compEnvC scope cl C X.env) fp) tgE (tG X.K tg)) (ht : ∀ (s : Shared) (H : Hp) (C : Addr) (cl : List (Str × Addr)) (fp : List Addr), PTs (X.blk s H scope (compEnvC scope cl C X.env) fp) ifs (tCond T X.K cond))
    (he : ∀ (s : Shared) (H : Hp) (C : Addr) (cl : List (Str × Addr)) (fp : List Addr), PE (X.blk s H scope (compEnvC scope cl C X.env) fp) elt (tE T X.K W0 relt)) (sub : ∀ i ∈ tgSlots tg, i ∈ own.map (·.2)) (hs : ∀ x, foldedSetIterable iter X.env x = pure x) :
    PS X (.Assign [.Name y py] (.ListComp elt [⟨tgE, iter, ifs, 0⟩] scope pos) spos) (tS T X.K Wx (sAsg (.v i) (eComp new k src tg (own.map (·.2)) cond relt))) := by
  refine PS.weak (ps_setLc hc hN hy hyl hsw hi okB hg ht he hs) fun D σ H h => ?_
  obtain ⟨z, σd, rfl, ok, rs, h⟩ := h
  exact de_comp hc hN hi okB hg ht he sub hs σ z.H _ ⟨z, σd, rfl, ok, rs, asg_name ok rs h⟩
theorem de_lc {tgE iter elt : Expr} {ifs : List Expr} {scope : Scope} {own : List (Str × Nat)} {new : Bool} {k : ItK} {src : FA} {tg : Tg} {cond : Option FE} {relt : FE} (hc : X.calm = true) (hN : X.N.Nodup) (hi : PI X tgE iter (tI T X.K Wx k src)) (okB : BlkOk X.N X.env.scope scope own)
    (hg : ∀ (s : Shared) (H : Hp) (C : Addr) (cl : List (Str × Addr)) (fp : List Addr), PG (X.blk s H scope (compEnvC scope cl C X.env) fp) tgE (tG X.K tg)) (ht : ∀ (s : Shared) (H : Hp) (C : Addr) (cl : List (Str × Addr)) (fp : List Addr), PTs (X.blk s H scope (compEnvC scope cl C X.env) fp) ifs (tCond T X.K cond))
    (he : ∀ (s : Shared) (H : Hp) (C : Addr) (cl : List (Str × Addr)) (fp : List Addr), PE (X.blk s H scope (compEnvC scope cl C X.env) fp) elt (tE T X.K W0 relt)) (sub : ∀ i ∈ tgSlots tg, i ∈ own.map (·.2)) (hs : ∀ x, foldedSetIterable iter X.env x = pure x) :
    PE X (.ListComp elt [⟨tgE, iter, ifs, 0⟩] scope pos) (tE T X.K Wx (eComp new k src tg (own.map (·.2)) cond relt)) :=
  PE.weak (pe_lc hc hN hi okB hg ht he hs) (de_comp hc hN hi okB hg ht he sub hs)
theorem ds_par2 {i j : Nat} {x y : Str} {px py pt : Pos} {kt k2 pt2} (hc : X.calm = true) (hN : X.N.Nodup) (hi : X.N[i]? = some x) (hj : X.N[j]? = some y) (hij : i ≠ j)
    (hx : X.env.scope.names.lookup x = some .local) (hy : X.env.scope.names.lookup y = some .local) (ha : PA X [a, b] (tA T X.K Wx rs))
    (hw : swappedStores [.Tuple [.Name x px, .Name y py] kt pt] (.Tuple [a, b] k2 pt2) X.env = pure (some [x, y]))
    (hs : swapsWithSole [.Tuple [.Name x px, .Name y py] kt pt] (.Tuple [a, b] k2 pt2) pos.line X.env = pure false) :
    PS X (.Assign [.Tuple [.Name x px, .Name y py] kt pt] (.Tuple [a, b] k2 pt2) pos) (tS T X.K Wx (sPar [i, j] rs)) := by
  refine PS.weak (ps_par hc hN hi hj hij hx hy ha hw hs) fun D σ H h => ?_
  obtain ⟨z, σd, rfl, ok, rs, h⟩ := h
  refine ⟨z, σd, rfl, ok, rs, RunS.stepA rs h fun z1 ws vs l1 ok1 r1 h1 => ?_⟩
  match ws, r1, h1 with
  | [w, u], r1, h1 =>
    obtain ⟨v, v', rfl, ra, rb⟩ := r1.two
    exact ⟨v, v', rfl, h1 z1 _ (Z.le.refl z1) ok1 rfl (((rs.mono l1).set i ra).set j rb)⟩
  | [], _, h1 => exact h1.elim
  | [_], _, h1 => exact h1.elim
  | _ :: _ :: _ :: _, _, h1 => exact h1.elim
theorem ds_par3 {i j l : Nat} {x y z : Str} {px py pz pt : Pos} {kt k2 pt2} (hc : X.calm = true) (hN : X.N.Nodup) (hi : X.N[i]? = some x) (hj : X.N[j]? = some y) (hl : X.N[l]? = some z) (hij : i ≠ j) (hil : i ≠ l) (hjl : j ≠ l)
    (hx : X.env.scope.names.lookup x = some .local) (hy : X.env.scope.names.lookup y = some .local) (hz : X.env.scope.names.lookup z = some .local) (ha : PA X [a, b, c] (tA T X.K Wx rs))
    (hw : swappedStores [.Tuple [.Name x px, .Name y py, .Name z pz] kt pt] (.Tuple [a, b, c] k2 pt2) X.env = pure (some [x, y, z]))
    (hs : swapsWithSole [.Tuple [.Name x px, .Name y py, .Name z pz] kt pt] (.Tuple [a, b, c] k2 pt2) pos.line X.env = pure false) :
    PS X (.Assign [.Tuple [.Name x px, .Name y py, .Name z pz] kt pt] (.Tuple [a, b, c] k2 pt2) pos) (tS T X.K Wx (sPar [i, j, l] rs)) := by
  refine PS.weak (ps_par3 hc hN hi hj hl hij hil hjl hx hy hz ha hw hs) fun D σ H h => ?_
  obtain ⟨z, σd, rfl, ok, rs, h⟩ := h
  refine ⟨z, σd, rfl, ok, rs, RunS.stepA rs h fun z1 ws vs l1 ok1 r1 h1 => ?_⟩
  match ws, r1, h1 with
  | [w, u, t], r1, h1 =>
    obtain ⟨v, r, rfl, ra, r2⟩ := r1
    obtain ⟨v', v'', rfl, rb, rc⟩ := r2.two
    exact ⟨v, v', v'', rfl, h1 z1 _ (Z.le.refl z1) ok1 rfl ((((rs.mono l1).set i ra).set j rb).set l rc)⟩
  | [], _, h1 => exact h1.elim
  | [_], _, h1 => exact h1.elim
  | [_, _], _, h1 => exact h1.elim
  | _ :: _ :: _ :: _ :: _, _, h1 => exact h1.elim
theorem ds_ret (he : PE X e (tE T X.K Wx re)) : PS X (.Return (some e) pos) (tS T X.K Wx (sRet re)) := by
  refine PS.weak (ps_ret he) fun D σ H h => ?_
  obtain ⟨z, σd, rfl, ok, rs, h⟩ := h
  exact ⟨z, σd, rfl, ok, rs, RunS.step rs h fun z1 w v l1 ok1 r1 h1 => h1 z1 v (Z.le.refl z1) ok1 rfl r1⟩
theorem ds_expr (he : PE X e (tE T X.K Wx re)) (hs : swapsWith e none pos.line X.env = pure false) : PS X (.Expr e pos) (tS T X.K Wx (sExpr re)) := by
  refine PS.weak (ps_expr he hs) fun D σ H h => ?_
  obtain ⟨z, σd, rfl, ok, rs, h⟩ := h
  exact ⟨z, σd, rfl, ok, rs, RunS.step rs h fun z1 w v l1 ok1 r1 h1 => h1 z1 σ (Z.le.refl z1) ok1 rfl (rs.mono l1)⟩
theorem ds_if {p q : List Stmt} (hc : PT X c (tT T X.K Wx rc)) (ha : PSs X p (tS T X.K Wx s1)) (hb : PSs X q (tS T X.K Wx s2)) : PS X (.If c p q pos) (tS T X.K Wx (sIf rc s1 s2)) := by
  refine PS.weak (ps_if hc ha hb) fun D σ H h => ?_
  obtain ⟨z, σd, rfl, ok, rs, h⟩ := h
  refine ⟨z, σd, rfl, ok, rs, RunS.test rs h fun z1 k l1 ok1 h1 => ?_⟩
  cases k with
  | true => rw [if_pos rfl] at h1 ⊢; exact ⟨z1, σd, rfl, ok1, rs.mono l1, h1⟩
  | false => rw [if_neg Bool.false_ne_true] at h1 ⊢; exact ⟨z1, σd, rfl, ok1, rs.mono l1, h1⟩
theorem ds_for {tgE iter : Expr} {body : List Stmt} {k : ItK} {src : FA} {tg : Tg} (hp : PassesOwn (model X.prog X.w) X.A X.env X.xe) (hc : X.calm = true) (hi : PI X tgE iter (tI T X.K Wx k src)) (hg : PG X tgE (tG X.K tg)) (hb : PSs X body (tS T X.K Wx s1)) (hs : ∀ x, foldedSetIterable iter X.env x = pure x) :
    PS X (.For tgE iter body [] pos) (tS T X.K Wx (sFor k src tg s1)) := by
  refine PS.weak (ps_for hp hc hi hg hb hs) fun D σ H h => ?_
  obtain ⟨z0, σ0, rfl, ok0, rs0, h⟩ := h
  refine ⟨z0, σ0, rfl, ok0, rs0, ?_⟩
  unfold sFor at h
  cases e : src σ0 z0.S with
  | ex c x S' => rw [e] at h; exact RunS.exX h rs0
  | no => rw [e] at h; exact h
  | ok ws S1 =>
    rw [e] at h
    dsimp only [R.toF] at h
    cases e2 : itemsW k ws with
    | none => rw [e2] at h; exact h.elim
    | some its =>
      rw [e2] at h
      dsimp only at h
      refine ⟨its, e2, fun z1 J l1 ok1 eS wk => ?_⟩
      subst eS
      generalize hf : (fun w σ S => match tgSet tg w σ with
        | none => F.no
        | some σ1 => s1 σ1 S) = f at h
      generalize hr : forL f its σ0 z1.S = r at h
      have h1 := RunS.mono h l1
      refine ⟨fun i m σ H => ∃ z σd, z1.le z ∧ z.Ok X.K ∧ z.H = H ∧ RS X.K z σd σ ∧ m = its.length - i ∧ i ≤ its.length ∧ forL f (its.drop i) σd z.S = r,
        ⟨its.length, z1, σ0, Z.le.refl z1, ok1, rfl, rs0.mono l1, rfl, Nat.zero_le _, hr⟩, ?_⟩
      rintro i m σ' H' ⟨z, σd, lz, okz, rfl, rsz, rfl, hi', hrest⟩
      obtain ⟨stop, go⟩ := wk z lz.tolew okz
      by_cases hlt : i < its.length
      · have hd : its.drop i = its[i] :: its.drop (i + 1) := List.drop_eq_getElem_cons hlt
        rw [hd] at hrest
        obtain ⟨go1, yl⟩ := go i its[i] (List.getElem?_eq_getElem hlt)
        refine .inr ⟨go1, fun σ2 H2 => ∃ z σd, z1.le z ∧ z.Ok X.K ∧ z.H = H2 ∧ RS X.K z σd σ2 ∧ forL f (its.drop (i + 1)) σd z.S = r, fun σ2 H2 hN2 => ?_, fun x H2 hy => ?_⟩
        · obtain ⟨z, σd, a1, a2, a3, a4, a5⟩ := hN2
          exact ⟨its.length - (i + 1), by omega, z, σd, a1, a2, a3, a4, rfl, by omega, a5⟩
        · obtain ⟨z2, l2, ok2, eS2, rfl, rx⟩ := yl x H2 hy
          have l12 : z1.le z2 := lz.trans l2
          simp only [forL] at hrest
          have hfi : f its[i] σd z.S = (match tgSet tg its[i] σd with
            | none => F.no
            | some σ1 => s1 σ1 z.S) := by rw [← hf]
          cases e3 : tgSet tg its[i] σd with
          | none =>
            rw [hfi, e3] at hrest
            rw [← hrest] at h1
            exact h1.elim
          | some σ1 =>
            rw [hfi, e3] at hrest
            dsimp only at hrest
            refine ⟨z2, its[i], σd, σ1, rfl, ok2, rsz.mono l2, rx, e3, fun σ2 rs2 _ => ⟨z2, σ1, rfl, ok2, rs2, ?_⟩⟩
            rw [eS2]
            have h2 := RunS.mono h1 l12
            cases e4 : s1 σ1 z.S with
            | nx σ3 S3 =>
              rw [e4] at hrest
              intro z3 σ' l3 ok3 eS3 rs3
              exact ⟨z3, σ3, l12.trans l3, ok3, rfl, rs3, by rw [eS3]; exact hrest⟩
            | rt w S' => rw [e4] at hrest; rw [← hrest] at h2; exact h2
            | ex c x σd S' => rw [e4] at hrest; rw [← hrest] at h2; exact h2
            | no => rw [e4] at hrest; rw [← hrest] at h2; exact h2.elim
      · have hi2 : i = its.length := by omega
        subst hi2
        rw [List.drop_length] at hrest
        rw [← hrest] at h1
        exact .inl ⟨stop, h1 z σ' lz okz rfl rsz⟩
theorem ds_while {body : List Stmt} (hp : PassesOwn (model X.prog X.w) X.A X.env X.xe) (hc : PT X c (tT T X.K Wx rc)) (hb : PSs X body (tS T X.K Wx s1)) : PS X (.While c body [] pos) (tS T X.K Wx (sWhile rc s1)) := by
  refine PS.weak (ps_while hp hc hb) fun D σ H h => ?_
  obtain ⟨z0, σ0, rfl, ok0, rs0, h⟩ := h
  unfold sWhile whileF at h
  split at h
  · rename_i hx
    have hno := Classical.choose_spec hx
    generalize Classical.choose hx = n at h hno
    generalize hr : whileN rc s1 n σ0 z0.S = r at h hno
    refine ⟨fun m σ H => ∃ z σd, z0.le z ∧ z.Ok X.K ∧ z.H = H ∧ RS X.K z σd σ ∧ whileN rc s1 m σd z.S = r, ⟨n, z0, σ0, Z.le.refl z0, ok0, rfl, rs0, hr⟩, ?_⟩
    rintro m σ' H' ⟨z, σd, lz, okz, rfl, rsz, hm⟩
    cases m with
    | zero => rw [← hm] at hno; simp [whileN, F.isNo] at hno
    | succ m =>
      have h1 := RunS.mono h lz
      refine ⟨z, σd, rfl, okz, rsz, ?_⟩
      unfold whileN at hm
      cases e : rc σd z.S with
      | ex k x S1 =>
        rw [e] at hm
        dsimp only at hm
        rw [← hm] at h1
        exact RunS.exX h1 rsz
      | no => rw [e] at hm; rw [← hm] at h1; exact h1.elim
      | ok w S1 =>
        rw [e] at hm
        split at hm
        · rename_i S1' e1
          cases e1
          refine ⟨true, rfl, fun z1 l1 ok1 e1 => ?_⟩
          have h2 := RunS.mono h1 l1
          refine ⟨fun σ2 H2 => ∃ z σd, z0.le z ∧ z.Ok X.K ∧ z.H = H2 ∧ RS X.K z σd σ2 ∧ whileN rc s1 m σd z.S = r, fun σ2 H2 q => ⟨m, Nat.lt_succ_self m, q⟩, z1, σd, rfl, ok1, rsz.mono l1, ?_⟩
          rw [e1]
          cases e4 : s1 σd S1 with
          | nx σ3 S3 =>
            rw [e4] at hm
            intro z3 σ' l3 ok3 eS3 rs3
            exact ⟨z3, σ3, (lz.trans l1).trans l3, ok3, rfl, rs3, by rw [eS3]; exact hm⟩
          | rt w S' => rw [e4] at hm; dsimp only at hm; rw [← hm] at h2; exact h2
          | ex c x σd S' => rw [e4] at hm; dsimp only at hm; rw [← hm] at h2; exact h2
          | no => rw [e4] at hm; dsimp only at hm; rw [← hm] at h2; exact h2.elim
        · rename_i S1' e1
          cases e1
          refine ⟨false, rfl, fun z1 l1 ok1 e1 => ?_⟩
          rw [← hm] at h1
          exact h1 z1 σ' l1 ok1 e1 (rsz.mono l1)
        · rename_i e1; cases e1
        · rw [← hm] at h1; exact h1.elim
  · exact h.elim
end
end MP
end

section
set_option maxHeartbeats 4000000
namespace MP
open PySem PySem.Spec PyProof.Rows L2

/-! ### o[i] = e; methods of lists -/
def eMeth (m : Meth) (o : FE) (as : FA) : FE := fun σ S => (o σ S).bind fun x S1 => match lstOf S1 x with
  | some _ => (as σ S1).bind fun ws S2 => methW m x ws S2
  | none => .no
theorem meth_calm (m : Meth) (o : W) : CalmN (methW m o) := fun ws S c x S' q => by
  unfold methW at q
  repeat' (first | (cases q; done) | split at q)
section
variable {K : PySem.W.Frag} {z : Z}
theorem Z.Ok.at (ok : z.Ok K) {n : Nat} {v : V} {ws : List W} (r : RW K z (.ref n) v) (h : z.S[n]? = some (.lst ws)) : ∃ a vs, v = .ref a ∧ z.μ[n]? = some a ∧ z.H a = some (.lst vs) ∧ RWs K z ws vs := by
  obtain ⟨a, rfl, m⟩ := r
  obtain ⟨a', vs, m', h1, h2⟩ := ok.obj n _ h
  rw [m] at m'
  cases m'
  exact ⟨a, vs, rfl, m, h1, h2⟩
theorem RWs.app {ws us : List W} {vs xs : List V} (h : RWs K z ws vs) (r : RWs K z us xs) : RWs K z (ws ++ us) (vs ++ xs) := by
  induction ws generalizing vs with
  | nil => cases h; exact r
  | cons u ws ih =>
    obtain ⟨y, ys, rfl, h1, h2⟩ := h
    exact ⟨y, ys ++ xs, rfl, h1, ih h2⟩
theorem RWs.era {ws : List W} {vs : List V} (h : RWs K z ws vs) : ∀ j : Nat, RWs K z (ws.eraseIdx j) (vs.eraseIdx j) := by
  induction ws generalizing vs with
  | nil => intro j; cases h; exact rfl
  | cons u ws ih =>
    obtain ⟨y, ys, rfl, h1, h2⟩ := h
    intro j
    cases j with
    | zero => exact h2
    | succ j => exact ⟨y, ys.eraseIdx j, rfl, h1, ih h2 j⟩
theorem mem_set_ref {ws : List W} {x : MP.D} {j m : Nat} (h : W.ref m ∈ ws.set j (.d x)) : W.ref m ∈ ws := by
  rcases List.mem_or_eq_of_mem_set h with q | q
  · exact q
  · cases q
end
def idOf : Meth → String
  | .append => "list.append"
  | .extend => "list.extend"
  | .pop => "list.pop"
def nameOf : Meth → Str
  | .append => "append"
  | .extend => "extend"
  | .pop => "pop"
def rMeth : Meth → V → List V → Hp → VK → Prop
  | .append => rAppend
  | .extend => rExtend
  | .pop => rPopAt
section
variable {X : Cx} {T : XTab} {Wx : WX} {a b c e : Expr} {pos : Pos} {ra rb rc re : FE} {es : List Expr} {rs : FA}
theorem mt_meth : ∀ m : Meth, MtR X (idOf m) (rMeth m)
  | .append => mt_append
  | .extend => mt_extend
  | .pop => mt_popAt
theorem slot_meth : ∀ m : Meth, Slot "list" (nameOf m) (idOf m)
  | .append => F.slot_list_append
  | .extend => F.slot_list_extend
  | .pop => F.slot_list_pop
theorem type_meth : ∀ m : Meth, typeOf (.builtin (idOf m)) = pure (.type "method_descriptor")
  | .append => F.type_list_append
  | .extend => F.type_list_extend
  | .pop => F.type_list_pop
theorem p_meth {K : PySem.W.Frag} {z : Z} {m : Meth} {o : W} {ws : List W} {v : V} {vs : List V} {Q : VK} (ok : z.Ok K) (ro : RW K z o v) (rw : RWs K z ws vs) (h : OKQ K z (methW m o ws z.S) Q) : rMeth m v vs z.H Q := by
  unfold methW at h
  split at h
  · rename_i n x
    split at h
    · rename_i us e1
      split at h
      · rename_i hl
        obtain ⟨a, ys, rfl, m, hH, hr⟩ := ok.at ro e1
        obtain ⟨y, rfl, ry⟩ := rw.one
        obtain ⟨ok', l⟩ := ok.write (ws' := us ++ [.d x]) (vs' := ys ++ [y]) e1 m (hr.app ⟨y, [], rfl, ry, rfl⟩) (fun k hk => by simpa using hk)
        exact ⟨a, ys, y, rfl, rfl, hH, lt_line (by rw [← hr.length]; exact hl), h _ _ l ok' rfl rfl⟩
      · exact h.elim
    · exact h.elim
  · rename_i n xs
    split at h
    · rename_i us e1
      split at h
      · rename_i hl
        obtain ⟨a, ys, rfl, m, hH, hr⟩ := ok.at ro e1
        obtain ⟨y, rfl, b, zs, rfl, ⟨hb, mb⟩, rz⟩ := rw.one
        obtain ⟨ok', l⟩ := ok.write (ws' := us ++ xs.map .d) (vs' := ys ++ zs) e1 m (hr.app (RWs.map_d rz)) (fun k hk => by simpa using hk)
        exact ⟨a, b, ys, zs, rfl, rfl, hH, hb, le_line (by rw [← hr.length, ← rz.length]; exact hl), h _ _ l ok' rfl rfl⟩
      · exact h.elim
    · exact h.elim
  · rename_i n i
    split at h
    · rename_i us e1
      split at h
      case isFalse => exact h.elim
      rename_i hi
      split at h
      · rename_i k e2
        split at h
        · rename_i w e3
          obtain ⟨a, ys, rfl, m, hH, hr⟩ := ok.at ro e1
          obtain ⟨y, rfl, ry⟩ := rw.one
          cases ry
          obtain ⟨u, eu, ru⟩ := hr.get e3
          obtain ⟨ok', l⟩ := ok.write (ws' := us.eraseIdx k) (vs' := ys.eraseIdx k) e1 m (hr.era k) (fun j hj => (List.eraseIdx_sublist us k).mem hj)
          rw [hr.length] at e2
          obtain ⟨h1, h2⟩ : -(2 ^ 63) ≤ i ∧ i < 2 ^ 63 := by
            have := okI_iff hi
            omega
          exact ⟨a, ys, i, k, u, rfl, rfl, hH, h1, h2, e2, eu, h _ _ l ok' rfl (ru.mono l)⟩
        · exact h.elim
      · exact h.elim
    · exact h.elim
  · exact h.elim
theorem lstOf_ty {K : PySem.W.Frag} {z : Z} {w : W} {v : V} {ws : List W} (ok : z.Ok K) (r : RW K z w v) (h : lstOf z.S w = some ws) : tyV K "list" v z.H := by
  obtain ⟨a, vs, rfl, h1, _⟩ := lstOf_at ok r h
  exact .inl ⟨rfl, vs, SqL.of h1⟩
theorem de_meth {o : Expr} {ro : FE} {m : Meth} {apos cpos : Pos} (ho : PE X o (tE T X.K Wx ro)) (ha : PA X (e :: es) (tA T X.K Wx rs))
    (hbase : attributeBase o (nameOf m) X.env (eval o X.env) = eval o X.env)
    (hfew : ((backTo cpos (starEach (e :: es) X.env)).all (fun x => !x.1) && (backToKw cpos (keywordEach [] X.env)).all (fun x => x.1.isSome)
      && decide ((e :: es).length + ([] : List Keyword).length + (if ([] : List Keyword).isEmpty then 0 else 1) < 30)) = true)
    (hline : (apos.endLine == cpos.line) = true) (hs : starEach (e :: es) X.env = (false, eval e X.env) :: starEach es X.env) (hplain : (backTo cpos (starEach es X.env)).any (·.1) = false) :
    PE X (.Call (.Attribute o (nameOf m) apos) (e :: es) [] cpos) (tE T X.K Wx (eMeth m ro rs)) := by
  refine PE.weak (pe_bm PySem.F.plainAttrs_list (slot_meth m) (type_meth m) (mt_meth m) ho ha hbase hfew hline hs hplain) fun σ H Q h => ?_
  obtain ⟨z, σd, rfl, ok, rs, h⟩ := h
  refine ⟨z, σd, rfl, ok, rs, RunE.step h fun z1 w v l1 ok1 r1 h1 => ?_⟩
  split at h1
  · rename_i us e1
    exact ⟨lstOf_ty ok1 r1 e1, z1, σd, rfl, ok1, rs.mono l1, RunE.stepA h1 fun z2 ws vs l2 ok2 r2 h2 => p_meth ok2 (r1.mono l2) r2 (h2.okq fun _ _ _ => meth_calm _ _ _ _ _ _ _)⟩
  · exact h1.elim
theorem p_setI {K : PySem.W.Frag} {z : Z} {o i x : W} {vo vi vx : V} {S' : Store} (ok : z.Ok K) (ro : RW K z o vo) (ri : RW K z i vi) (rx : RW K z x vx) (h : setIW o i x z.S = some S') : ∃ p xs k j, vo = .ref p ∧ vi = .int k ∧ z.H p = some (.lst xs) ∧ ixN xs.length k = some j ∧ ∃ z', z.le z' ∧ z'.Ok K ∧ z'.S = S' ∧ z'.H = upd z.H p (.lst (xs.set j vx)) := by
  unfold setIW at h
  split at h
  · rename_i n k x
    split at h
    · rename_i ws e1
      split at h
      · rename_i j e2
        cases h
        obtain ⟨a, ys, rfl, m, hH, hr⟩ := ok.at ro e1
        cases ri
        obtain ⟨ok', l⟩ := ok.write (ws' := ws.set j (.d x)) (vs' := ys.set j vx) e1 m (hr.set rx j) (fun k hk => mem_set_ref hk)
        rw [hr.length] at e2
        exact ⟨a, ys, k, j, rfl, rfl, hH, e2, _, l, ok', rfl, rfl⟩
      · cases h
    · cases h
  · cases h
theorem ds_setI {o i : Expr} {ro ri : FE} {tpos : Pos} (he : PE X e (tE T X.K Wx re)) (ho : PE X o (tE T X.K Wx ro)) (hi : PE X i (tE T X.K Wx ri))
    (hw : swapsWithSole [.Subscript o i tpos] e pos.line X.env = pure false) (hs : swappedStores [.Subscript o i tpos] e X.env = pure none)
    (h1 : (assignEach [.Subscript o i tpos] X.env).map (·.2) = [assign (.Subscript o i tpos) X.env])
    (ha : ∀ v, assign (.Subscript o i tpos) X.env v = (do
      let ov ← holding [v] (eval o X.env)
      let iv ← holding [v, ov] (eval i X.env)
      standAt tpos
      holding [v, ov, iv] (setItem ov iv v)
      release [v, ov, iv] [])) : PS X (.Assign [.Subscript o i tpos] e pos) (tS T X.K Wx (sSetI ro ri re)) := by
  refine PS.weak (ps_asg he (pg_sub ho hi set_list ha) hw hs h1) fun D σ H h => ?_
  obtain ⟨z, σd, rfl, ok, rs, h⟩ := h
  refine ⟨z, σd, rfl, ok, rs, RunS.step rs h fun z1 w v l1 ok1 r1 h1 => ?_⟩
  refine ⟨z1, σd, rfl, ok1, rs.mono l1, RunS.step (rs.mono l1) h1 fun z2 wo vo l2 ok2 r2 h2 => ?_⟩
  refine ⟨z2, σd, rfl, ok2, (rs.mono l1).mono l2, RunS.step ((rs.mono l1).mono l2) h2 fun z3 wi vi l3 ok3 r3 h3 => ?_⟩
  split at h3
  · rename_i S4 e4
    obtain ⟨p, xs, k, j, e1, e2, hH, hj, z', l', ok', eS, eH⟩ := p_setI ok3 (r2.mono l3) r3 (r1.mono (l2.trans l3)) e4
    exact ⟨p, xs, k, j, e1, e2, hH, hj, by rw [← eH]; exact h3 z' σ l' ok' eS ((((rs.mono l1).mono l2).mono l3).mono l')⟩
  · exact h3.elim
/-- no right run comes here -/
theorem ds_no {st : Stmt} {r : FS} (h : ∀ σ S, r σ S = .no) : PS X st (tS T X.K Wx r) := by
  refine ⟨fun pins s σ H D I q => ?_⟩
  obtain ⟨z, σd, _, _, _, h1⟩ := q
  rw [h] at h1
  exact h1.elim
theorem de_no {r : FE} (h : ∀ σ S, r σ S = .no) : PE X e (tE T X.K Wx r) := by
  refine ⟨fun pins s σ H D I q => ?_⟩
  obtain ⟨z, σd, _, _, _, h1⟩ := q
  rw [h] at h1
  exact h1.elim
end
end MP
end

section
set_option maxHeartbeats 4000000
namespace MP
open PySem PySem.Spec PyProof.Rows L2

/-! ### the text as data -/
inductive E where
  | v (i : Nat)
  | c (x : MP.D)
  | g (x : Str) (d : MP.D)
  | nt (a : E)
  | ng (a : E)
  | bin (o : Op2) (new : Bool) (a b : E)
  | cmp (o : Cm) (a b : E)
  | chain (o1 o2 : Cm) (a b c : E)
  | and (a b : E)
  | or (a b : E)
  | orT (a b : E)
  | ite (c a b : E)
  | tup (a : E)
  | lst (new : Bool) (a : E)
  | idx (a b : E)
  | sl (new : Bool) (a lo hi : E)
  | rev (new : Bool) (a : E)
  | call (f : Str) (a : E)
  | prim (p : Prim) (new : Bool) (a : E)
  | isi (ts : List Ty) (a : E)
  | meth (m : Meth) (o a : E)
  | comp (new : Bool) (k : ItK) (src : E) (tg : Tg) (own : List Nat) (cond elt : E)
  | nil
  | cons (a r : E)
  | none
  | some (a : E)
  deriving Inhabited
inductive S where
  | skip
  | seq (a b : S)
  | frz (i : Nat)
  | asg (tg : Tg) (e : E)
  | par (is : List Nat) (a : E)
  | ret (e : E)
  | exp (e : E)
  | ite (c : E) (a b : S)
  | for_ (k : ItK) (src : E) (tg : Tg) (b : S)
  | while_ (c : E) (b : S)
  | setI (o i e : E)
  | no
  deriving Inhabited
abbrev Calls := Str → List W → Store → R W
mutual
def ev (cl : Calls) : E → FE
  | .v i => eVar i
  | .c x => eC (.d x)
  | .g _ d => eC (.d d)
  | .nt a => e1 notW (ev cl a)
  | .ng a => e1 negW (ev cl a)
  | .bin o new a b => e2 (binW o new) (ev cl a) (ev cl b)
  | .cmp o a b => e2 (fun x y S => okB (cmpO o S x y) S) (ev cl a) (ev cl b)
  | .chain o1 o2 a b c => eChain o1 o2 (ev cl a) (ev cl b) (ev cl c)
  | .and a b => eAnd (ev cl a) (ev cl b)
  | .or a b => eOr (ev cl a) (ev cl b)
  | .orT a b => eOrT (ev cl a) (ev cl b)
  | .ite c a b => eIte (ev cl c) (ev cl a) (ev cl b)
  | .tup a => eN tupW (evs cl a)
  | .lst new a => eN (lstW new) (evs cl a)
  | .idx a b => e2 (fun x y S => okW (idxW S x y) S) (ev cl a) (ev cl b)
  | .sl new a lo hi => eSl new (ev cl a) (evo cl lo) (evo cl hi)
  | .rev new a => e1 (revW new) (ev cl a)
  | .call f a => eN (cl f) (evs cl a)
  | .prim p new a => eN (primW p new) (evs cl a)
  | .isi ts a => e1 (isiW ts) (ev cl a)
  | .meth m o a => eMeth m (ev cl o) (evs cl a)
  | .comp new k src tg own cond elt => eComp new k (evs cl src) tg own (evc cl cond) (ev cl elt)
  | .nil => fun _ _ => .no
  | .cons _ _ => fun _ _ => .no
  | .none => fun _ _ => .no
  | .some _ => fun _ _ => .no
def evs (cl : Calls) : E → FA
  | .cons a r => aCons (ev cl a) (evs cl r)
  | _ => aNil
def evo (cl : Calls) : E → FO
  | .some a => oSome (ev cl a)
  | _ => oNone
def evc (cl : Calls) : E → Option FE
  | .some a => Option.some (ev cl a)
  | _ => Option.none
end
noncomputable def exec (cl : Calls) : S → FS
  | .skip => sSkip
  | .seq a b => sSeq (exec cl a) (exec cl b)
  | .frz i => sFrz i
  | .asg tg e => sAsg tg (ev cl e)
  | .par is a => sPar is (evs cl a)
  | .ret e => sRet (ev cl e)
  | .exp e => sExpr (ev cl e)
  | .ite c a b => sIf (ev cl c) (exec cl a) (exec cl b)
  | .for_ k src tg b => sFor k (evs cl src) tg (exec cl b)
  | .while_ c b => sWhile (ev cl c) (exec cl b)
  | .setI o i e => sSetI (ev cl o) (ev cl i) (ev cl e)
  | .no => fun _ _ => .no

/-! ### the checks -/
mutual
def _root_.MP.D.same : MP.D → MP.D → Bool
  | .non, .non => true
  | .bl a, .bl b => a == b
  | .int i, .int j => i == j
  | .str x, .str y => x == y
  | .tup xs, .tup ys => D.sames xs ys
  | .lst xs, .lst ys => D.sames xs ys
  | _, _ => false
def _root_.MP.D.sames : List MP.D → List MP.D → Bool
  | [], [] => true
  | x :: xs, y :: ys => D.same x y && D.sames xs ys
  | _, _ => false
end
mutual
theorem D.same_eq : ∀ {x y : MP.D}, D.same x y = true → x = y
  | .non, y, h => by cases y <;> simp_all [D.same]
  | .bl a, y, h => by cases y <;> simp_all [D.same]
  | .int i, y, h => by cases y <;> simp_all [D.same]
  | .str s, y, h => by cases y <;> simp_all [D.same]
  | .tup xs, y, h => by
    cases y <;> simp only [D.same, Bool.false_eq_true] at h
    rw [D.sames_eq h]
  | .lst xs, y, h => by
    cases y <;> simp only [D.same, Bool.false_eq_true] at h
    rw [D.sames_eq h]
theorem D.sames_eq : ∀ {xs ys : List MP.D}, D.sames xs ys = true → xs = ys
  | [], ys, h => by cases ys <;> simp_all [D.sames]
  | x :: xs, ys, h => by
    cases ys with
    | nil => simp [D.sames] at h
    | cons y ys =>
      simp only [D.sames, Bool.and_eq_true] at h
      rw [D.same_eq h.1, D.sames_eq h.2]
end
/-- what is known of the module's names -/
structure Gd where
  funs : List (Str × Nat)
  cons : List (Str × MP.D)
/-- a block: the slots' names, its scope, names that may be stored -/
structure Cc where
  N : List Str
  sc : Scope
  fb : Str → Bool
def visB (sc : Scope) (x : Str) : Bool := match sc.names.lookup x with
  | .some .local => true
  | .some .cell => true
  | .some .free => true
  | _ => false
def locB (sc : Scope) (x : Str) : Bool := match sc.names.lookup x with
  | .some .local => true
  | .some .cell => true
  | _ => false
def glB (sc : Scope) (x : Str) : Bool := match sc.names.lookup x with
  | .some .globalImplicit => true
  | _ => false
def dbg (x : Str) : Bool := x == ("__debug__" : Str) || x == ("__classdict__" : Str)
def noStar : Expr → Bool
  | .Starred .. => false
  | _ => true
def noSet : Expr → Bool
  | .Set .. => false
  | _ => true
def noCall : Expr → Bool
  | .Call .. => false
  | _ => true
def noComp : Expr → Bool
  | .ListComp .. => false
  | .SetComp .. => false
  | .DictComp .. => false
  | _ => true
def constB (d : MP.D) (k : Const) : Bool := match d, k with
  | .non, .none => true
  | .bl b, .bool c => b == c
  | .int i, .int j => i == j
  | .str x, .str y => x == y
  | _, _ => false
/-- the names of built-in things that the text uses -/
def blts : List Str := ["len", "tuple", "list", "abs", "int", "sum", "all", "any", "min", "max", "range", "enumerate", "zip", "isinstance", "str", "bool", "set", "sorted", "dict"]
def tgtB (cc : Cc) (i : Nat) (x : Str) : Bool := cc.N[i]? == .some x && (cc.sc.names.lookup x == .some .local || (cc.sc.names.lookup x == .some .cell && cc.fb x))
def tgtsB (cc : Cc) : List Nat → List Expr → Bool
  | [], [] => true
  | i :: is, .Name x _ :: es => tgtB cc i x && tgtsB cc is es
  | _, _ => false
def chkG (cc : Cc) (tg : Tg) (e : Expr) : Bool := match tg, e with
  | .v i, .Name x _ => tgtB cc i x
  | .t is, .Tuple es _ _ => tgtsB cc is es
  | _, _ => false
def ownOf (N : List Str) (own : List Nat) : List (Str × Nat) := own.map fun i => (N.getD i "", i)
def blkB (N : List Str) (sc scope : Scope) (own : List Nat) : Bool :=
  scope.kind == .function && scope.names.all (fun y => scope.names.lookup y.1 == .some y.2) && own.all (fun i => decide (i < N.length)) &&
  scope.names.all (fun y => !(y.2 == .free) || (sc.names.lookup y.1 == .some .cell || sc.names.lookup y.1 == .some .free)) &&
  scope.names.all (fun y => !(y.2 == .local || y.2 == .cell) || (((ownOf N own).map (·.1)).contains y.1 || !N.contains y.1))
def blkC (cc : Cc) (scope : Scope) : Cc := ⟨cc.N, relS scope cc.sc, fun x => scope.names.lookup x == .some .cell⟩
mutual
def chk (G : Gd) (cc : Cc) (t : Bool) (ir : E) (e : Expr) : Bool := match ir with
  | .v i => (match e with
    | .Name x _ => cc.N[i]? == .some x && visB cc.sc x && !dbg x
    | _ => false)
  | .c d => (match e with
    | .Constant k _ _ => constB d k
    | _ => false)
  | .g x d => (match e with
    | .Name y _ => x == y && glB cc.sc x && !dbg x && (match G.cons.lookup x with
      | .some d' => D.same d d'
      | .none => false)
    | _ => false)
  | .nt a => (match e with
    | .UnaryOp .Not x _ => chk G cc t a x
    | _ => false)
  | .ng a => (match e with
    | .UnaryOp .USub x _ => chk G cc false a x
    | _ => false)
  | .bin o new a b => (match e with
    | .BinOp l op r _ => op == opOf o && chk G cc false a l && chk G cc false b r
    | _ => false)
  | .cmp o a b => (match e with
    | .Compare l [op] [r] _ => op == cmOf o && noSet r && chk G cc false a l && chk G cc false b r
    | _ => false)
  | .chain o1 o2 a b c => (match e with
    | .Compare l [p1, p2] [m, r] _ => p1 == cmOf o1 && p2 == cmOf o2 && noSet r && chk G cc false a l && chk G cc false b m && chk G cc false c r
    | _ => false)
  | .and a b => (match e with
    | .BoolOp .And (x :: y :: zs) p => chk G cc t a x && (match zs with
      | [] => chk G cc t b y
      | z :: zs => chk G cc t b (.BoolOp .And (y :: z :: zs) p))
    | _ => false)
  | .or a b => (match e with
    | .BoolOp .Or (x :: y :: zs) p => chk G cc t a x && (match zs with
      | [] => chk G cc t b y
      | z :: zs => chk G cc t b (.BoolOp .Or (y :: z :: zs) p))
    | _ => false)
  | .orT a b => !t && (match e with
    | .BoolOp .Or [x, y] p => chk G cc false a x && chk G cc false b y
    | _ => false)
  | .ite c a b => !t && (match e with
    | .IfExp x y z _ => chk G cc true c x && chk G cc false a y && chk G cc false b z
    | _ => false)
  | .tup a => (match e with
    | .Tuple es _ _ => chkA G cc a es
    | _ => false)
  | .lst new a => (match e with
    | .List es _ => chkA G cc a es
    | _ => false)
  | .idx a b => (match e with
    | .Subscript x y _ => !isSl y && chk G cc false a x && chk G cc false b y
    | _ => false)
  | .sl new a lo hi => (match e with
    | .Subscript x (.Slice l h .none _) _ => chk G cc false a x && chkO G cc lo l && chkO G cc hi h
    | _ => false)
  | .rev new a => (match e with
    | .Subscript x (.Slice .none .none (.some (.UnaryOp .USub (.Constant (.int i) _ _) _)) _) _ => i == 1 && chk G cc false a x
    | _ => false)
  | .call f a => (match e with
    | .Call (.Name x _) (y :: ys) [] _ => (match G.funs.lookup f with
      | .some _ => x == f && glB cc.sc x && !dbg x && (y :: ys).all noStar && chkA G cc a (y :: ys)
      | .none => false)
    | _ => false)
  | .prim p new a => (match e with
    | .Call (.Name x _) (y :: ys) [] _ => x == Str.ofString (primV p).1 && glB cc.sc x && (y :: ys).all noStar && chkA G cc a (y :: ys)
    | _ => false)
  | .isi ts a => (match e with
    | .Call (.Name x _) [y, .Name z _] [] _ => x == "isinstance" && glB cc.sc x && noStar y && glB cc.sc z && (match ts with
      | [t1] => z == Str.ofString (tyS t1)
      | _ => false) && chk G cc false a y
    | .Call (.Name x _) [y, .Tuple [.Name z1 _, .Name z2 _] _ _] [] _ => x == "isinstance" && glB cc.sc x && noStar y && glB cc.sc z1 && glB cc.sc z2 && (match ts with
      | [t1, t2] => z1 == Str.ofString (tyS t1) && z2 == Str.ofString (tyS t2)
      | _ => false) && chk G cc false a y
    | _ => false)
  | .meth m o a => (match e with
    | .Call (.Attribute x nm apos) (y :: ys) [] cpos => nm == nameOf m && apos.endLine == cpos.line && noCall x && decide (ys.length < 28) && (y :: ys).all noStar && chk G cc false o x && chkA G cc a (y :: ys)
    | _ => false)
  | .comp new k src tg own cond elt => (match e with
    | .ListComp el [⟨tgE, iter, ifs, 0⟩] scope _ => noSet iter && chkI G cc k src tgE iter && blkB cc.N cc.sc scope own && (tgSlots tg).all own.contains &&
      chkG (blkC cc scope) tg tgE && chkC G (blkC cc scope) cond ifs && chk G (blkC cc scope) false elt el
    | _ => false)
  | .nil => false
  | .cons _ _ => false
  | .none => false
  | .some _ => false
def chkA (G : Gd) (cc : Cc) (ir : E) (es : List Expr) : Bool := match ir with
  | .nil => (match es with
    | [] => true
    | _ => false)
  | .cons a r => (match es with
    | y :: ys => noStar y && chk G cc false a y && chkA G cc r ys
    | _ => false)
  | _ => false
def chkO (G : Gd) (cc : Cc) (ir : E) (o : Option Expr) : Bool := match ir with
  | .none => (match o with
    | .none => true
    | _ => false)
  | .some a => (match o with
    | .some e => chk G cc false a e
    | _ => false)
  | _ => false
def chkC (G : Gd) (cc : Cc) (ir : E) (es : List Expr) : Bool := match ir with
  | .none => (match es with
    | [] => true
    | _ => false)
  | .some a => (match es with
    | [e] => chk G cc true a e
    | _ => false)
  | _ => false
def chkI (G : Gd) (cc : Cc) (k : ItK) (ir : E) (tgE iter : Expr) : Bool := match ir with
  | .cons a .nil => (match k with
    | .val => chk G cc false a iter
    | .rng => (match iter with
      | .Call (.Name x _) [y] [] _ => x == "range" && glB cc.sc x && noStar y && chk G cc false a y
      | _ => false)
    | .enu => (match iter with
      | .Call (.Name x _) [y] [] _ => x == "enumerate" && glB cc.sc x && noStar y && chk G cc false a y && (match tgE with
        | .Tuple .. => true
        | _ => false)
      | _ => false)
    | .zip => false)
  | .cons a (.cons b .nil) => (match iter with
    | .Call (.Name x _) [y, z] [] _ => glB cc.sc x && noStar y && noStar z && chk G cc false a y && chk G cc false b z && (match k with
      | .rng => x == "range"
      | .zip => x == "zip" && (match tgE with
        | .Tuple .. => true
        | _ => false)
      | _ => false)
    | _ => false)
  | _ => false
end
end MP
end

section
set_option maxHeartbeats 4000000
namespace MP
open PySem PySem.Spec PyProof.Rows L2

/-! ### the checks are right -/
/-- what holds at a place of the text -/
structure At (G : Gd) (T : XTab) (cl : Calls) (X : Cx) (Wx : WX) (cc : Cc) : Prop where
  calm : X.calm = true
  units : X.A.units + 200 < cLine
  nd : X.N.Nodup
  n : X.N = cc.N
  s : X.env.scope = cc.sc
  f : ∀ x, cc.fb x = true → X.fn x = true
  tk : Takes X Wx
  fns : ∀ (x : Str) (n : Nat), G.funs.lookup x = some n → ∃ (k : Nat) (f : Addr) (fd : FuncData) (ps : List Str), FnOk X.prog X.w X.K X.mg X.base (L2.CX X.prog X.w) k f fd ps (spF T X.K n (cl x)) ∧ Room k X.A ∧
    X.mg x = some (.ref f) ∧ PySem.W.keepIn X.K (.ref f) = true ∧ Binds X.K fd ps [] ∧ ∀ ws S, ws.length ≠ n → cl x ws S = .no
  cons : ∀ (x : Str) (d : MP.D), G.cons.lookup x = some d → ∃ u v, X.mg x = some u ∧ RelV v u ∧ ∀ z, z.Ok X.K → RD X.K z d v
  free : ∀ x ∈ blts, X.mg x = none
structure OkT (T : XTab) (X : Cx) (Wx : WX) (e : Expr) (r : FE) : Prop where
  pe : PE X e (tE T X.K Wx r)
  pl : ∀ whole, isTrue e X.env whole = (do let v ← whole; standAt e.pos; holding [v] (truthy v))
structure OkE (G : Gd) (T : XTab) (cl : Calls) (ir : E) : Prop where
  pe : ∀ (X : Cx) (Wx : WX) (cc : Cc), At G T cl X Wx cc → ∀ e, chk G cc false ir e = true → PE X e (tE T X.K Wx (ev cl ir))
  pt : ∀ (X : Cx) (Wx : WX) (cc : Cc), At G T cl X Wx cc → ∀ e, chk G cc true ir e = true → PT X e (tT T X.K Wx (ev cl ir))
  pw : ∀ (X : Cx) (Wx : WX) (cc : Cc), At G T cl X Wx cc → ∀ op es pos, chk G cc true ir (.BoolOp op es pos) = true → PW X (.BoolOp op es pos) (tT T X.K Wx (ev cl ir))
structure OkA (G : Gd) (T : XTab) (cl : Calls) (ir : E) : Prop where
  pa : ∀ (X : Cx) (Wx : WX) (cc : Cc), At G T cl X Wx cc → ∀ es, chkA G cc ir es = true → PA X es (tA T X.K Wx (evs cl ir))
  po : ∀ (X : Cx) (Wx : WX) (cc : Cc), At G T cl X Wx cc → ∀ o, chkO G cc ir o = true → PO X o (tO T X.K Wx (evo cl ir))
  pc : ∀ (X : Cx) (cc : Cc), At G T cl X W0 cc → ∀ es, chkC G cc ir es = true → PTs X es (tCond T X.K (evc cl ir))
  pi : ∀ (X : Cx) (Wx : WX) (cc : Cc), At G T cl X Wx cc → ∀ k tg it, chkI G cc k ir tg it = true → PI X tg it (tI T X.K Wx k (evs cl ir))
structure Ok (G : Gd) (T : XTab) (cl : Calls) (ir : E) : Prop where
  e : OkE G T cl ir
  a : OkA G T cl ir
  c : ∀ a r, ir = .cons a r → OkE G T cl a
section
variable {G : Gd} {T : XTab} {cl : Calls} {X : Cx} {Wx : WX} {cc : Cc}
theorem okA_no {ir : E} (h1 : ∀ G cc es, chkA G cc ir es = false) (h2 : ∀ G cc o, chkO G cc ir o = false) (h3 : ∀ G cc es, chkC G cc ir es = false) (h4 : ∀ G cc k tg it, chkI G cc k ir tg it = false) : OkA G T cl ir :=
  ⟨fun X Wx cc h es q => (by rw [h1] at q; cases q), fun X Wx cc h es q => (by rw [h2] at q; cases q), fun X cc h es q => (by rw [h3] at q; cases q), fun X Wx cc h k tg it q => (by rw [h4] at q; cases q)⟩
theorem ok_leaf {ir : E} (h : ∀ (X : Cx) (Wx : WX) (cc : Cc), At G T cl X Wx cc → ∀ e, chk G cc false ir e = true → OkT T X Wx e (ev cl ir)) (ht : ∀ G cc e, chk G cc true ir e = chk G cc false ir e) (hb : ∀ G cc op es pos, chk G cc true ir (.BoolOp op es pos) = false)
    (h1 : ∀ G cc es, chkA G cc ir es = false) (h2 : ∀ G cc o, chkO G cc ir o = false) (h3 : ∀ G cc es, chkC G cc ir es = false) (h4 : ∀ G cc k tg it, chkI G cc k ir tg it = false) (h5 : ∀ a r, ir ≠ .cons a r) : Ok G T cl ir :=
  ⟨⟨fun X Wx cc a e q => (h X Wx cc a e q).pe, fun X Wx cc a e q => by
      have z := h X Wx cc a e (by rw [← ht]; exact q)
      exact dt_val z.pe z.pl, fun X Wx cc a op es pos q => (by rw [hb] at q; cases q)⟩, okA_no h1 h2 h3 h4, fun a r q => absurd q (h5 a r)⟩
theorem ok_val {ir : E} (h : ∀ (X : Cx) (Wx : WX) (cc : Cc), At G T cl X Wx cc → ∀ e, chk G cc false ir e = true → PE X e (tE T X.K Wx (ev cl ir))) (ht : ∀ G cc e, chk G cc true ir e = false)
    (h1 : ∀ G cc es, chkA G cc ir es = false) (h2 : ∀ G cc o, chkO G cc ir o = false) (h3 : ∀ G cc es, chkC G cc ir es = false) (h4 : ∀ G cc k tg it, chkI G cc k ir tg it = false) (h5 : ∀ a r, ir ≠ .cons a r) : Ok G T cl ir :=
  ⟨⟨h, fun X Wx cc a e q => (by rw [ht] at q; cases q), fun X Wx cc a op es pos q => (by rw [ht] at q; cases q)⟩, okA_no h1 h2 h3 h4, fun a r q => absurd q (h5 a r)⟩
theorem vis_of {x : Str} (h : visB cc.sc x = true) (s : X.env.scope = cc.sc) : Vis X.env.scope x := by
  rw [s]
  unfold visB at h
  unfold Vis
  split at h
  · rename_i e; exact .inl e
  · rename_i e; exact .inr (.inl e)
  · rename_i e; exact .inr (.inr e)
  · cases h
theorem gl_of {x : Str} (h : glB cc.sc x = true) (s : X.env.scope = cc.sc) : Gl X x := by
  unfold Gl Env.kindOf
  rw [s]
  unfold glB at h
  split at h
  · rename_i e; exact e
  · cases h
theorem dbg_of {x : Str} (h : dbg x = false) : (x == ("__debug__" : Str)) = false ∧ (x == ("__classdict__" : Str)) = false := by
  unfold dbg at h
  exact Bool.or_eq_false_iff.mp h
theorem star_cons {env : Env} {e : Expr} {es : List Expr} (h : noStar e = true) : starEach (e :: es) env = (false, eval e env) :: starEach es env := by
  cases e <;> first | rfl | cases h
theorem star_plain {env : Env} {pos : Pos} : ∀ {es : List Expr}, es.all noStar = true → (backTo pos (starEach es env)).any (·.1) = false
  | [], _ => rfl
  | e :: es, h => by
    obtain ⟨h1, h2⟩ := Bool.and_eq_true_iff.mp (by simpa only [List.all_cons] using h)
    rw [star_cons h1]
    show (false || (backTo pos (starEach es env)).any (·.1)) = false
    rw [star_plain h2]
    rfl
theorem star_all {env : Env} {pos : Pos} : ∀ {es : List Expr}, es.all noStar = true → (backTo pos (starEach es env)).all (fun x => !x.1) = true
  | [], _ => rfl
  | e :: es, h => by
    obtain ⟨h1, h2⟩ := Bool.and_eq_true_iff.mp (by simpa only [List.all_cons] using h)
    rw [star_cons h1]
    show (!false && (backTo pos (starEach es env)).all (fun x => !x.1)) = true
    rw [star_all h2]
    rfl
theorem folded_of {e : Expr} (h : noSet e = true) (env : Env) : ∀ x, foldedSetIterable e env x = pure x := by
  intro x
  cases e <;> first | rfl | cases h
theorem behind_of {e : Expr} {o : CmpOp} (h : noSet e = true) : behindInMarks o e = false := by
  cases e <;> first | rfl | cases h
theorem base_of {e : Expr} {nm : Str} {env : Env} (h : noCall e = true) : attributeBase e nm env (eval e env) = eval e env := by
  cases e <;> first | rfl | cases h
theorem const_of {d : MP.D} {k : Const} {i : Nat} {pos : Pos} (h : constB d k = true) : PE X (.Constant k i pos) (tE T X.K Wx (eC (.d d))) := by
  unfold constB at h
  split at h
  · exact de_c pe_non fun _ _ => rfl
  · rw [beq_iff_eq.mp h]; exact de_c pe_bl fun _ _ => rfl
  · rw [beq_iff_eq.mp h]; exact de_c pe_int fun _ _ => rfl
  · rw [beq_iff_eq.mp h]; exact de_c pe_str fun _ _ => rfl
  · cases h
theorem lookup_rel {scope sc : Scope} (x : Str) : scope.names.lookup x = none → (relS scope sc).names.lookup x = none := by
  unfold relS
  simp only
  induction scope.names with
  | nil => intro _; rfl
  | cons p r ih =>
    obtain ⟨n, k⟩ := p
    intro h
    simp only [List.lookup] at h
    simp only [List.map_cons]
    cases q : (x == n) with
    | true => rw [q] at h; cases h
    | false =>
      rw [q] at h
      split <;> simp only [List.lookup, q] <;> exact ih h
/-- the block's place -/
theorem At.blk (a : At G T cl X Wx cc) (s : Shared) (H : Hp) (C : Addr) (cls : List (Str × Addr)) (fp : List Addr) (scope : Scope) : At G T cl (X.blk s H scope (compEnvC scope cls C X.env) fp) W0 (blkC cc scope) where
  calm := a.calm
  units := a.units
  nd := a.nd
  n := a.n
  s := by
    show relabel scope X.env = relS scope cc.sc
    rw [← a.s]
    rfl
  f := fun x h => h
  tk := fun u s' x => by
    obtain ⟨_, _, _, _, _, _, _, _, _, _, _, _, _, _, _, _, z⟩ := x
    exact z.elim
  fns := a.fns
  cons := a.cons
  free := a.free
theorem nth_of {i : Nat} {x : Str} (a : At G T cl X Wx cc) (h : (cc.N[i]? == some x) = true) : X.N[i]? = some x := by
  rw [a.n]
  exact beq_iff_eq.mp h
theorem tgt_of {i : Nat} {x : Str} (a : At G T cl X Wx cc) (h : tgtB cc i x = true) : X.N[i]? = some x ∧ Loc X.env.scope x ∧ (X.fn x = true ∨ X.env.scope.names.lookup x = some .local) := by
  unfold tgtB at h
  obtain ⟨h1, h2⟩ := Bool.and_eq_true_iff.mp h
  refine ⟨nth_of a h1, ?_⟩
  rw [a.s]
  rcases Bool.or_eq_true_iff.mp h2 with q | q
  · exact ⟨.inl (beq_iff_eq.mp q), .inr (beq_iff_eq.mp q)⟩
  · obtain ⟨q1, q2⟩ := Bool.and_eq_true_iff.mp q
    exact ⟨.inr (beq_iff_eq.mp q1), .inl (a.f _ q2)⟩
theorem pgs_of (a : At G T cl X Wx cc) : ∀ {is : List Nat} {es : List Expr}, tgtsB cc is es = true → PGs X es (gsN is) ∧ (assignEach es X.env).length = is.length ∧ (assignEach es X.env).findIdx? (·.1) = none
  | [], [], _ => ⟨pgs_nil, rfl, rfl⟩
  | i :: is, .Name x p :: es, h => by
    obtain ⟨h1, h2⟩ := Bool.and_eq_true_iff.mp (show (tgtB cc i x && tgtsB cc is es) = true from h)
    obtain ⟨q1, q2, q3⟩ := tgt_of a h1
    obtain ⟨r1, r2, r3⟩ := pgs_of a h2
    refine ⟨pgs_cons (pg_name a.nd q1 q2 q3) r1, ?_, ?_⟩
    · show (assignEach es X.env).length + 1 = _
      rw [r2]; rfl
    · show List.findIdx? _ ((false, assign (.Name x p) X.env) :: assignEach es X.env) = none
      rw [List.findIdx?_cons, r3]
      rfl
theorem chkG_of {tg : Tg} {e : Expr} (a : At G T cl X Wx cc) (h : chkG cc tg e = true) : PG X e (tG X.K tg) := by
  unfold chkG at h
  split at h
  · obtain ⟨q1, q2, q3⟩ := tgt_of a h
    exact dg_name a.nd q1 q2 q3
  · obtain ⟨r1, r2, r3⟩ := pgs_of a h
    exact dg_tup a.calm r1 r2 r3
  · cases h
theorem blk_of {scope : Scope} {own : List Nat} (a : At G T cl X Wx cc) (h : blkB cc.N cc.sc scope own = true) : BlkOk X.N X.env.scope scope (ownOf cc.N own) := by
  unfold blkB at h
  simp only [Bool.and_eq_true] at h
  obtain ⟨⟨⟨⟨h1, h2⟩, h3⟩, h4⟩, h5⟩ := h
  rw [a.n, a.s]
  refine ⟨beq_iff_eq.mp h1, fun y hy => beq_iff_eq.mp (List.all_eq_true.mp h2 y hy), fun p hp => ?_, fun y hy e => ?_, fun y hy e => ?_⟩
  · obtain ⟨i, hi, rfl⟩ := List.mem_map.mp hp
    have q := of_decide_eq_true (List.all_eq_true.mp h3 i hi)
    show cc.N[i]? = some (cc.N.getD i "")
    rw [List.getD_eq_getElem?_getD, List.getElem?_eq_getElem q]
    rfl
  · have q := List.all_eq_true.mp h4 y hy
    rw [e] at q
    simp only [beq_self_eq_true, Bool.not_true, Bool.false_or, Bool.or_eq_true, beq_iff_eq] at q
    exact q
  · have q := List.all_eq_true.mp h5 y hy
    have e' : (y.2 == NameKind.local || y.2 == NameKind.cell) = true := by
      rcases e with e | e <;> rw [e] <;> rfl
    rw [e'] at q
    simp only [Bool.not_true, Bool.false_or, Bool.or_eq_true, Bool.not_eq_true', List.contains_iff_mem] at q
    rcases q with q | q
    · exact .inl q
    · exact .inr fun m => by
        rw [List.contains_iff_mem.mpr m] at q
        cases q
theorem own_slots {own : List Nat} : (ownOf cc.N own).map (·.2) = own := by
  unfold ownOf
  rw [List.map_map]
  exact List.map_id own
theorem free_of (a : At G T cl X Wx cc) {x : Str} (h : blts.contains x = true) : X.mg x = none := a.free x (List.contains_iff_mem.mp h)
end
end MP
end

section
set_option maxHeartbeats 4000000
namespace MP
open PySem PySem.Spec PyProof.Rows L2
section
variable {G : Gd} {T : XTab} {cl : Calls} {X : Cx} {Wx : WX} {cc : Cc}

theorem op_eq {o : Operator} {p : Op2} (h : (o == opOf p) = true) : o = opOf p := beq_iff_eq.mp h
theorem ok_v (i : Nat) : Ok G T cl (.v i) := by
  refine ok_leaf (fun X Wx cc a e h => ?_) (by first | (intros; rfl) | (intro a r q; cases q)) (by first | (intros; rfl) | (intro a r q; cases q)) (by first | (intros; rfl) | (intro a r q; cases q)) (by first | (intros; rfl) | (intro a r q; cases q)) (by first | (intros; rfl) | (intro a r q; cases q)) (by first | (intros; rfl) | (intro a r q; cases q)) (by first | (intros; rfl) | (intro a r q; cases q))
  simp only [chk] at h
  split at h
  · simp only [Bool.and_eq_true, Bool.not_eq_true'] at h
    obtain ⟨d1, d2⟩ := dbg_of h.2
    exact ⟨de_var (nth_of a h.1.1) (vis_of h.1.2 a.s) d1 d2, fun _ => rfl⟩
  · cases h
theorem ok_c (d : MP.D) : Ok G T cl (.c d) := by
  refine ok_leaf (fun X Wx cc a e h => ?_) (by first | (intros; rfl) | (intro a r q; cases q)) (by first | (intros; rfl) | (intro a r q; cases q)) (by first | (intros; rfl) | (intro a r q; cases q)) (by first | (intros; rfl) | (intro a r q; cases q)) (by first | (intros; rfl) | (intro a r q; cases q)) (by first | (intros; rfl) | (intro a r q; cases q)) (by first | (intros; rfl) | (intro a r q; cases q))
  simp only [chk] at h
  split at h
  · exact ⟨const_of h, fun _ => rfl⟩
  · cases h
theorem ok_g (x : Str) (d : MP.D) : Ok G T cl (.g x d) := by
  refine ok_leaf (fun X Wx cc a e h => ?_) (by first | (intros; rfl) | (intro a r q; cases q)) (by first | (intros; rfl) | (intro a r q; cases q)) (by first | (intros; rfl) | (intro a r q; cases q)) (by first | (intros; rfl) | (intro a r q; cases q)) (by first | (intros; rfl) | (intro a r q; cases q)) (by first | (intros; rfl) | (intro a r q; cases q)) (by first | (intros; rfl) | (intro a r q; cases q))
  simp only [chk] at h
  split at h
  · rename_i y pos
    simp only [Bool.and_eq_true, Bool.not_eq_true'] at h
    obtain ⟨⟨⟨h1, h2⟩, h3⟩, h4⟩ := h
    obtain rfl := beq_iff_eq.mp h1
    split at h4
    · rename_i d' e1
      obtain rfl := D.same_eq h4
      obtain ⟨u, v, e2, r, rd⟩ := a.cons _ _ e1
      exact ⟨de_c (pe_glob (gl_of h2 a.s) e2 r (dbg_of h3).1) fun z ok => rd z ok, fun _ => rfl⟩
    · cases h4
  · cases h
theorem ok_nt {a : E} (ih : Ok G T cl a) : Ok G T cl (.nt a) := by
  refine ⟨⟨fun X Wx cc at_ e h => ?_, fun X Wx cc at_ e h => ?_, fun X Wx cc at_ op es pos h => ?_⟩, okA_no (by first | (intros; rfl) | (intro a r q; cases q)) (by first | (intros; rfl) | (intro a r q; cases q)) (by first | (intros; rfl) | (intro a r q; cases q)) (by first | (intros; rfl) | (intro a r q; cases q)), by first | (intros; rfl) | (intro a r q; cases q)⟩
  · simp only [chk] at h
    split at h
    · exact de_not (ih.e.pe X Wx cc at_ _ h)
    · cases h
  · simp only [chk] at h
    split at h
    · exact dt_not (ih.e.pt X Wx cc at_ _ h)
    · cases h
  · simp only [chk] at h
    cases h
theorem ok_ng {a : E} (ih : Ok G T cl a) : Ok G T cl (.ng a) := by
  refine ok_leaf (fun X Wx cc at_ e h => ?_) (by first | (intros; rfl) | (intro a r q; cases q)) (by first | (intros; rfl) | (intro a r q; cases q)) (by first | (intros; rfl) | (intro a r q; cases q)) (by first | (intros; rfl) | (intro a r q; cases q)) (by first | (intros; rfl) | (intro a r q; cases q)) (by first | (intros; rfl) | (intro a r q; cases q)) (by first | (intros; rfl) | (intro a r q; cases q))
  simp only [chk] at h
  split at h
  · exact ⟨de_neg (ih.e.pe X Wx cc at_ _ h), fun _ => rfl⟩
  · cases h
theorem ok_bin {o : Op2} {new : Bool} {a b : E} (ia : Ok G T cl a) (ib : Ok G T cl b) : Ok G T cl (.bin o new a b) := by
  refine ok_leaf (fun X Wx cc at_ e h => ?_) (by first | (intros; rfl) | (intro a r q; cases q)) (by first | (intros; rfl) | (intro a r q; cases q)) (by first | (intros; rfl) | (intro a r q; cases q)) (by first | (intros; rfl) | (intro a r q; cases q)) (by first | (intros; rfl) | (intro a r q; cases q)) (by first | (intros; rfl) | (intro a r q; cases q)) (by first | (intros; rfl) | (intro a r q; cases q))
  simp only [chk] at h
  split at h
  · simp only [Bool.and_eq_true] at h
    obtain rfl := op_eq h.1.1
    exact ⟨de_bin (ia.e.pe X Wx cc at_ _ h.1.2) (ib.e.pe X Wx cc at_ _ h.2), fun _ => rfl⟩
  · cases h
theorem ok_cmp {o : Cm} {a b : E} (ia : Ok G T cl a) (ib : Ok G T cl b) : Ok G T cl (.cmp o a b) := by
  refine ⟨⟨fun X Wx cc at_ e h => ?_, fun X Wx cc at_ e h => ?_, fun X Wx cc at_ op es pos h => ?_⟩, okA_no (by first | (intros; rfl) | (intro a r q; cases q)) (by first | (intros; rfl) | (intro a r q; cases q)) (by first | (intros; rfl) | (intro a r q; cases q)) (by first | (intros; rfl) | (intro a r q; cases q)), by first | (intros; rfl) | (intro a r q; cases q)⟩
  · simp only [chk] at h
    split at h
    · simp only [Bool.and_eq_true] at h
      obtain ⟨⟨⟨h1, h2⟩, h3⟩, h4⟩ := h
      obtain rfl := beq_iff_eq.mp h1
      exact de_cmp at_.units (ia.e.pe X Wx cc at_ _ h3) (ib.e.pe X Wx cc at_ _ h4) (behind_of h2)
    · cases h
  · simp only [chk] at h
    split at h
    · simp only [Bool.and_eq_true] at h
      obtain ⟨⟨⟨h1, h2⟩, h3⟩, h4⟩ := h
      obtain rfl := beq_iff_eq.mp h1
      exact dt_cmp at_.units (ia.e.pe X Wx cc at_ _ h3) (ib.e.pe X Wx cc at_ _ h4) (behind_of h2)
    · cases h
  · simp only [chk] at h
    cases h
theorem ok_chain {o1 o2 : Cm} {a b c : E} (ia : Ok G T cl a) (ib : Ok G T cl b) (ic : Ok G T cl c) : Ok G T cl (.chain o1 o2 a b c) := by
  refine ⟨⟨fun X Wx cc at_ e h => ?_, fun X Wx cc at_ e h => ?_, fun X Wx cc at_ op es pos h => ?_⟩, okA_no (by first | (intros; rfl) | (intro a r q; cases q)) (by first | (intros; rfl) | (intro a r q; cases q)) (by first | (intros; rfl) | (intro a r q; cases q)) (by first | (intros; rfl) | (intro a r q; cases q)), by first | (intros; rfl) | (intro a r q; cases q)⟩
  · simp only [chk] at h
    split at h
    · simp only [Bool.and_eq_true] at h
      obtain ⟨⟨⟨⟨⟨h1, h2⟩, h3⟩, h4⟩, h5⟩, h6⟩ := h
      obtain rfl := beq_iff_eq.mp h1
      obtain rfl := beq_iff_eq.mp h2
      exact de_chain at_.units (ia.e.pe X Wx cc at_ _ h4) (ib.e.pe X Wx cc at_ _ h5) (ic.e.pe X Wx cc at_ _ h6) (behind_of h3)
    · cases h
  · simp only [chk] at h
    split at h
    · simp only [Bool.and_eq_true] at h
      obtain ⟨⟨⟨⟨⟨h1, h2⟩, h3⟩, h4⟩, h5⟩, h6⟩ := h
      obtain rfl := beq_iff_eq.mp h1
      obtain rfl := beq_iff_eq.mp h2
      exact dt_chain at_.units (ia.e.pe X Wx cc at_ _ h4) (ib.e.pe X Wx cc at_ _ h5) (ic.e.pe X Wx cc at_ _ h6) (behind_of h3)
    · cases h
  · simp only [chk] at h
    cases h
theorem ok_and {a b : E} (ia : Ok G T cl a) (ib : Ok G T cl b) : Ok G T cl (.and a b) := by
  have w : ∀ (X : Cx) (Wx : WX) (cc : Cc), At G T cl X Wx cc → ∀ e, chk G cc true (.and a b) e = true → PW X e (tT T X.K Wx (ev cl (.and a b))) := fun X Wx cc at_ e h => by
    simp only [chk] at h
    split at h
    · simp only [Bool.and_eq_true] at h
      obtain ⟨h1, h2⟩ := h
      split at h2
      · exact dw_and (ia.e.pt X Wx cc at_ _ h1) (dw_one (ib.e.pt X Wx cc at_ _ h2))
      · exact dw_and (ia.e.pt X Wx cc at_ _ h1) (ib.e.pw X Wx cc at_ _ _ _ h2)
    · cases h
  refine ⟨⟨fun X Wx cc at_ e h => ?_, fun X Wx cc at_ e h => (w X Wx cc at_ e h).pt, fun X Wx cc at_ op es pos h => w X Wx cc at_ _ h⟩, okA_no (by first | (intros; rfl) | (intro a r q; cases q)) (by first | (intros; rfl) | (intro a r q; cases q)) (by first | (intros; rfl) | (intro a r q; cases q)) (by first | (intros; rfl) | (intro a r q; cases q)), by first | (intros; rfl) | (intro a r q; cases q)⟩
  simp only [chk] at h
  split at h
  · simp only [Bool.and_eq_true] at h
    obtain ⟨h1, h2⟩ := h
    split at h2
    · exact de_and (ia.e.pe X Wx cc at_ _ h1) (de_one (ib.e.pe X Wx cc at_ _ h2))
    · exact de_and (ia.e.pe X Wx cc at_ _ h1) (ib.e.pe X Wx cc at_ _ h2)
  · cases h
theorem ok_or {a b : E} (ia : Ok G T cl a) (ib : Ok G T cl b) : Ok G T cl (.or a b) := by
  have w : ∀ (X : Cx) (Wx : WX) (cc : Cc), At G T cl X Wx cc → ∀ e, chk G cc true (.or a b) e = true → PW X e (tT T X.K Wx (ev cl (.or a b))) := fun X Wx cc at_ e h => by
    simp only [chk] at h
    split at h
    · simp only [Bool.and_eq_true] at h
      obtain ⟨h1, h2⟩ := h
      split at h2
      · exact dw_or (ia.e.pt X Wx cc at_ _ h1) (dw_one (ib.e.pt X Wx cc at_ _ h2))
      · exact dw_or (ia.e.pt X Wx cc at_ _ h1) (ib.e.pw X Wx cc at_ _ _ _ h2)
    · cases h
  refine ⟨⟨fun X Wx cc at_ e h => ?_, fun X Wx cc at_ e h => (w X Wx cc at_ e h).pt, fun X Wx cc at_ op es pos h => w X Wx cc at_ _ h⟩, okA_no (by first | (intros; rfl) | (intro a r q; cases q)) (by first | (intros; rfl) | (intro a r q; cases q)) (by first | (intros; rfl) | (intro a r q; cases q)) (by first | (intros; rfl) | (intro a r q; cases q)), by first | (intros; rfl) | (intro a r q; cases q)⟩
  simp only [chk] at h
  split at h
  · simp only [Bool.and_eq_true] at h
    obtain ⟨h1, h2⟩ := h
    split at h2
    · exact de_or (ia.e.pe X Wx cc at_ _ h1) (de_one (ib.e.pe X Wx cc at_ _ h2))
    · exact de_or (ia.e.pe X Wx cc at_ _ h1) (ib.e.pe X Wx cc at_ _ h2)
  · cases h
theorem ok_orT {a b : E} (ia : Ok G T cl a) (ib : Ok G T cl b) : Ok G T cl (.orT a b) := by
  refine ok_val (fun X Wx cc at_ e h => ?_) (by first | (intros; rfl) | (intro a r q; cases q)) (by first | (intros; rfl) | (intro a r q; cases q)) (by first | (intros; rfl) | (intro a r q; cases q)) (by first | (intros; rfl) | (intro a r q; cases q)) (by first | (intros; rfl) | (intro a r q; cases q)) (by first | (intros; rfl) | (intro a r q; cases q))
  simp only [chk, Bool.not_false, Bool.true_and] at h
  split at h
  · simp only [Bool.and_eq_true] at h
    exact de_orT (ia.e.pe X Wx cc at_ _ h.1) (de_one (ib.e.pe X Wx cc at_ _ h.2))
  · cases h
theorem ok_ite {c a b : E} (ic : Ok G T cl c) (ia : Ok G T cl a) (ib : Ok G T cl b) : Ok G T cl (.ite c a b) := by
  refine ok_val (fun X Wx cc at_ e h => ?_) (by first | (intros; rfl) | (intro a r q; cases q)) (by first | (intros; rfl) | (intro a r q; cases q)) (by first | (intros; rfl) | (intro a r q; cases q)) (by first | (intros; rfl) | (intro a r q; cases q)) (by first | (intros; rfl) | (intro a r q; cases q)) (by first | (intros; rfl) | (intro a r q; cases q))
  simp only [chk, Bool.not_false, Bool.true_and] at h
  split at h
  · simp only [Bool.and_eq_true] at h
    exact de_ite (ic.e.pt X Wx cc at_ _ h.1.1) (ia.e.pe X Wx cc at_ _ h.1.2) (ib.e.pe X Wx cc at_ _ h.2)
  · cases h
theorem ok_tup {a : E} (ia : Ok G T cl a) : Ok G T cl (.tup a) := by
  refine ok_leaf (fun X Wx cc at_ e h => ?_) (by first | (intros; rfl) | (intro a r q; cases q)) (by first | (intros; rfl) | (intro a r q; cases q)) (by first | (intros; rfl) | (intro a r q; cases q)) (by first | (intros; rfl) | (intro a r q; cases q)) (by first | (intros; rfl) | (intro a r q; cases q)) (by first | (intros; rfl) | (intro a r q; cases q)) (by first | (intros; rfl) | (intro a r q; cases q))
  simp only [chk] at h
  split at h
  · exact ⟨de_tup (ia.a.pa X Wx cc at_ _ h), fun _ => rfl⟩
  · cases h
theorem ok_lst {new : Bool} {a : E} (ia : Ok G T cl a) : Ok G T cl (.lst new a) := by
  refine ok_leaf (fun X Wx cc at_ e h => ?_) (by first | (intros; rfl) | (intro a r q; cases q)) (by first | (intros; rfl) | (intro a r q; cases q)) (by first | (intros; rfl) | (intro a r q; cases q)) (by first | (intros; rfl) | (intro a r q; cases q)) (by first | (intros; rfl) | (intro a r q; cases q)) (by first | (intros; rfl) | (intro a r q; cases q)) (by first | (intros; rfl) | (intro a r q; cases q))
  simp only [chk] at h
  split at h
  · exact ⟨de_lst (ia.a.pa X Wx cc at_ _ h), fun _ => rfl⟩
  · cases h
theorem ok_idx {a b : E} (ia : Ok G T cl a) (ib : Ok G T cl b) : Ok G T cl (.idx a b) := by
  refine ok_leaf (fun X Wx cc at_ e h => ?_) (by first | (intros; rfl) | (intro a r q; cases q)) (by first | (intros; rfl) | (intro a r q; cases q)) (by first | (intros; rfl) | (intro a r q; cases q)) (by first | (intros; rfl) | (intro a r q; cases q)) (by first | (intros; rfl) | (intro a r q; cases q)) (by first | (intros; rfl) | (intro a r q; cases q)) (by first | (intros; rfl) | (intro a r q; cases q))
  simp only [chk] at h
  split at h
  · simp only [Bool.and_eq_true, Bool.not_eq_true'] at h
    exact ⟨de_idx (ia.e.pe X Wx cc at_ _ h.1.2) (ib.e.pe X Wx cc at_ _ h.2) h.1.1, fun _ => rfl⟩
  · cases h
theorem ok_sl {new : Bool} {a lo hi : E} (ia : Ok G T cl a) (il : Ok G T cl lo) (ih : Ok G T cl hi) : Ok G T cl (.sl new a lo hi) := by
  refine ok_leaf (fun X Wx cc at_ e h => ?_) (by first | (intros; rfl) | (intro a r q; cases q)) (by first | (intros; rfl) | (intro a r q; cases q)) (by first | (intros; rfl) | (intro a r q; cases q)) (by first | (intros; rfl) | (intro a r q; cases q)) (by first | (intros; rfl) | (intro a r q; cases q)) (by first | (intros; rfl) | (intro a r q; cases q)) (by first | (intros; rfl) | (intro a r q; cases q))
  simp only [chk] at h
  split at h
  · simp only [Bool.and_eq_true] at h
    exact ⟨de_sl (ia.e.pe X Wx cc at_ _ h.1.1) (il.a.po X Wx cc at_ _ h.1.2) (ih.a.po X Wx cc at_ _ h.2), fun _ => rfl⟩
  · cases h
theorem ok_rev {new : Bool} {a : E} (ia : Ok G T cl a) : Ok G T cl (.rev new a) := by
  refine ok_leaf (fun X Wx cc at_ e h => ?_) (by first | (intros; rfl) | (intro a r q; cases q)) (by first | (intros; rfl) | (intro a r q; cases q)) (by first | (intros; rfl) | (intro a r q; cases q)) (by first | (intros; rfl) | (intro a r q; cases q)) (by first | (intros; rfl) | (intro a r q; cases q)) (by first | (intros; rfl) | (intro a r q; cases q)) (by first | (intros; rfl) | (intro a r q; cases q))
  simp only [chk] at h
  split at h
  · simp only [Bool.and_eq_true] at h
    obtain ⟨h1, h2⟩ := h
    rw [beq_iff_eq.mp h1]
    exact ⟨de_rev (ia.e.pe X Wx cc at_ _ h2), fun _ => rfl⟩
  · cases h
theorem ok_call {f : Str} {a : E} (ia : Ok G T cl a) : Ok G T cl (.call f a) := by
  refine ok_leaf (fun X Wx cc at_ e h => ?_) (by first | (intros; rfl) | (intro a r q; cases q)) (by first | (intros; rfl) | (intro a r q; cases q)) (by first | (intros; rfl) | (intro a r q; cases q)) (by first | (intros; rfl) | (intro a r q; cases q)) (by first | (intros; rfl) | (intro a r q; cases q)) (by first | (intros; rfl) | (intro a r q; cases q)) (by first | (intros; rfl) | (intro a r q; cases q))
  simp only [chk] at h
  split at h
  · split at h
    · rename_i n e1
      simp only [Bool.and_eq_true, Bool.not_eq_true'] at h
      obtain ⟨⟨⟨⟨h1, h2⟩, h3⟩, h4⟩, h5⟩ := h
      obtain rfl := beq_iff_eq.mp h1
      obtain ⟨k, fa, fd, ps, F, hr, hm, hk, hb, hn⟩ := at_.fns _ _ e1
      obtain ⟨s1, s2⟩ := Bool.and_eq_true_iff.mp (by simpa only [List.all_cons] using h4)
      exact ⟨de_call F hr (gl_of h2 at_.s) hm hk hb at_.tk (ia.a.pa X Wx cc at_ _ h5) (dbg_of h3).1 (star_cons s1) (star_plain s2) hn, fun _ => rfl⟩
    · cases h
  · cases h
theorem prim_blt : ∀ p : Prim, blts.contains (Str.ofString (primV p).1) = true := by intro p; cases p <;> decide +kernel
theorem ty_blt : ∀ t : Ty, blts.contains (Str.ofString (tyS t)) = true := by intro t; cases t <;> decide +kernel
theorem isi_blt : blts.contains ("isinstance" : Str) = true := by decide +kernel
theorem rng_blt : blts.contains ("range" : Str) = true := by decide +kernel
theorem enu_blt : blts.contains ("enumerate" : Str) = true := by decide +kernel
theorem zip_blt : blts.contains ("zip" : Str) = true := by decide +kernel
theorem ok_prim {p : Prim} {new : Bool} {a : E} (ia : Ok G T cl a) : Ok G T cl (.prim p new a) := by
  refine ok_leaf (fun X Wx cc at_ e h => ?_) (by first | (intros; rfl) | (intro a r q; cases q)) (by first | (intros; rfl) | (intro a r q; cases q)) (by first | (intros; rfl) | (intro a r q; cases q)) (by first | (intros; rfl) | (intro a r q; cases q)) (by first | (intros; rfl) | (intro a r q; cases q)) (by first | (intros; rfl) | (intro a r q; cases q)) (by first | (intros; rfl) | (intro a r q; cases q))
  simp only [chk] at h
  split at h
  · simp only [Bool.and_eq_true] at h
    obtain ⟨⟨⟨h1, h2⟩, h4⟩, h5⟩ := h
    obtain rfl := beq_iff_eq.mp h1
    obtain ⟨s1, s2⟩ := Bool.and_eq_true_iff.mp (by simpa only [List.all_cons] using h4)
    exact ⟨de_prim at_.calm (gl_of h2 at_.s) (free_of at_ (prim_blt p)) (ia.a.pa X Wx cc at_ _ h5) (star_cons s1) (star_plain s2), fun _ => rfl⟩
  · cases h
theorem ok_isi {ts : List Ty} {a : E} (ia : Ok G T cl a) : Ok G T cl (.isi ts a) := by
  refine ok_leaf (fun X Wx cc at_ e h => ?_) (by first | (intros; rfl) | (intro a r q; cases q)) (by first | (intros; rfl) | (intro a r q; cases q)) (by first | (intros; rfl) | (intro a r q; cases q)) (by first | (intros; rfl) | (intro a r q; cases q)) (by first | (intros; rfl) | (intro a r q; cases q)) (by first | (intros; rfl) | (intro a r q; cases q)) (by first | (intros; rfl) | (intro a r q; cases q))
  simp only [chk] at h
  split at h
  · simp only [Bool.and_eq_true] at h
    obtain ⟨⟨⟨⟨⟨h1, h2⟩, h3⟩, h4⟩, h5⟩, h6⟩ := h
    obtain rfl := beq_iff_eq.mp h1
    split at h5
    · rename_i t1
      obtain rfl := beq_iff_eq.mp h5
      exact ⟨de_isi (gl_of h2 at_.s) (free_of at_ isi_blt) (gl_of h4 at_.s) (free_of at_ (ty_blt t1)) (ia.e.pe X Wx cc at_ _ h6) (star_cons h3), fun _ => rfl⟩
    · cases h5
  · simp only [Bool.and_eq_true] at h
    obtain ⟨⟨⟨⟨⟨⟨h1, h2⟩, h3⟩, h4⟩, h4'⟩, h5⟩, h6⟩ := h
    obtain rfl := beq_iff_eq.mp h1
    split at h5
    · rename_i t1 t2
      simp only [Bool.and_eq_true] at h5
      obtain rfl := beq_iff_eq.mp h5.1
      obtain rfl := beq_iff_eq.mp h5.2
      exact ⟨de_isi2 (gl_of h2 at_.s) (free_of at_ isi_blt) (gl_of h4 at_.s) (free_of at_ (ty_blt t1)) (gl_of h4' at_.s) (free_of at_ (ty_blt t2)) (ia.e.pe X Wx cc at_ _ h6) (star_cons h3), fun _ => rfl⟩
    · cases h5
  · cases h
theorem ok_meth {m : Meth} {o a : E} (io : Ok G T cl o) (ia : Ok G T cl a) : Ok G T cl (.meth m o a) := by
  refine ok_leaf (fun X Wx cc at_ e h => ?_) (by first | (intros; rfl) | (intro a r q; cases q)) (by first | (intros; rfl) | (intro a r q; cases q)) (by first | (intros; rfl) | (intro a r q; cases q)) (by first | (intros; rfl) | (intro a r q; cases q)) (by first | (intros; rfl) | (intro a r q; cases q)) (by first | (intros; rfl) | (intro a r q; cases q)) (by first | (intros; rfl) | (intro a r q; cases q))
  simp only [chk] at h
  split at h
  · rename_i x nm apos y ys cpos
    simp only [Bool.and_eq_true, decide_eq_true_eq] at h
    obtain ⟨⟨⟨⟨⟨⟨h1, h2⟩, h3⟩, h4⟩, h5⟩, h6⟩, h7⟩ := h
    obtain rfl := beq_iff_eq.mp h1
    obtain ⟨s1, s2⟩ := Bool.and_eq_true_iff.mp (by simpa only [List.all_cons] using h5)
    refine ⟨de_meth (io.e.pe X Wx cc at_ _ h6) (ia.a.pa X Wx cc at_ _ h7) (base_of h3) ?_ h2 (star_cons s1) (star_plain s2), fun _ => rfl⟩
    rw [star_all h5]
    show (true && true && decide _) = true
    rw [Bool.true_and, Bool.true_and, decide_eq_true_eq]
    show (y :: ys).length + 0 + 0 < 30
    simp only [List.length_cons]
    omega
  · cases h
/-- what is known of a comprehension -/
theorem comp_of {new : Bool} {k : ItK} {src : E} {tg : Tg} {own : List Nat} {cond elt : E} (is : Ok G T cl src) (ic : Ok G T cl cond) (ie : Ok G T cl elt) (at_ : At G T cl X Wx cc) {t : Bool} {e : Expr} (h : chk G cc t (.comp new k src tg own cond elt) e = true) :
    ∃ el tgE iter ifs scope pos, e = .ListComp el [⟨tgE, iter, ifs, 0⟩] scope pos ∧ PI X tgE iter (tI T X.K Wx k (evs cl src)) ∧ BlkOk X.N X.env.scope scope (ownOf cc.N own) ∧
      (∀ (s : Shared) (H : Hp) (C : Addr) (cls : List (Str × Addr)) (fp : List Addr), PG (X.blk s H scope (compEnvC scope cls C X.env) fp) tgE (tG X.K tg)) ∧
      (∀ (s : Shared) (H : Hp) (C : Addr) (cls : List (Str × Addr)) (fp : List Addr), PTs (X.blk s H scope (compEnvC scope cls C X.env) fp) ifs (tCond T X.K (evc cl cond))) ∧
      (∀ (s : Shared) (H : Hp) (C : Addr) (cls : List (Str × Addr)) (fp : List Addr), PE (X.blk s H scope (compEnvC scope cls C X.env) fp) el (tE T X.K W0 (ev cl elt))) ∧
      (∀ i ∈ tgSlots tg, i ∈ (ownOf cc.N own).map (·.2)) ∧ (∀ x, foldedSetIterable iter X.env x = pure x) := by
  simp only [chk] at h
  split at h
  · rename_i el tgE iter ifs scope pos
    simp only [Bool.and_eq_true] at h
    obtain ⟨⟨⟨⟨⟨⟨h1, h2⟩, h3⟩, h4⟩, h5⟩, h6⟩, h7⟩ := h
    refine ⟨el, tgE, iter, ifs, scope, pos, rfl, is.a.pi X Wx cc at_ _ _ _ h2, blk_of at_ h3, fun s H C cls fp => chkG_of (at_.blk s H C cls fp scope) h5, fun s H C cls fp => ic.a.pc _ _ (at_.blk s H C cls fp scope) _ h6, fun s H C cls fp => ie.e.pe _ _ _ (at_.blk s H C cls fp scope) _ h7, fun i hi => ?_, folded_of h1 _⟩
    rw [own_slots]
    exact List.contains_iff_mem.mp (List.all_eq_true.mp h4 i hi)
  · cases h
theorem ok_comp {new : Bool} {k : ItK} {src : E} {tg : Tg} {own : List Nat} {cond elt : E} (is : Ok G T cl src) (ic : Ok G T cl cond) (ie : Ok G T cl elt) : Ok G T cl (.comp new k src tg own cond elt) := by
  refine ok_leaf (fun X Wx cc at_ e h => ?_) (by first | (intros; rfl) | (intro a r q; cases q)) (by first | (intros; rfl) | (intro a r q; cases q)) (by first | (intros; rfl) | (intro a r q; cases q)) (by first | (intros; rfl) | (intro a r q; cases q)) (by first | (intros; rfl) | (intro a r q; cases q)) (by first | (intros; rfl) | (intro a r q; cases q)) (by first | (intros; rfl) | (intro a r q; cases q))
  obtain ⟨el, tgE, iter, ifs, scope, pos, rfl, hi, hb, hg, ht, he, hs, hf⟩ := comp_of is ic ie at_ h
  have q := de_lc (T := T) (Wx := Wx) (new := new) (pos := pos) at_.calm at_.nd hi hb hg ht he hs hf
  rw [own_slots] at q
  exact ⟨q, fun _ => rfl⟩
theorem okE_no {ir : E} (h : ∀ G cc t e, chk G cc t ir e = false) : OkE G T cl ir :=
  ⟨fun X Wx cc a e q => (by rw [h] at q; cases q), fun X Wx cc a e q => (by rw [h] at q; cases q), fun X Wx cc a op es pos q => (by rw [h] at q; cases q)⟩
theorem ok_nil : Ok G T cl .nil := by
  refine ⟨okE_no (by first | (intros; rfl) | (intro a r q; cases q)), ⟨fun X Wx cc at_ es h => ?_, fun X Wx cc at_ o h => (by simp only [chkO] at h; cases h), fun X cc at_ es h => (by simp only [chkC] at h; cases h), fun X Wx cc at_ k tg it h => (by simp only [chkI] at h; cases h)⟩, by first | (intros; rfl) | (intro a r q; cases q)⟩
  simp only [chkA] at h
  split at h
  · exact de_nil
  · cases h
theorem ok_none : Ok G T cl .none := by
  refine ⟨okE_no (by first | (intros; rfl) | (intro a r q; cases q)), ⟨fun X Wx cc at_ es h => (by simp only [chkA] at h; cases h), fun X Wx cc at_ o h => ?_, fun X cc at_ es h => ?_, fun X Wx cc at_ k tg it h => (by simp only [chkI] at h; cases h)⟩, by first | (intros; rfl) | (intro a r q; cases q)⟩
  · simp only [chkO] at h
    split at h
    · exact do_none
    · cases h
  · simp only [chkC] at h
    split at h
    · exact pts_nil
    · cases h
theorem ok_some {a : E} (ia : Ok G T cl a) : Ok G T cl (.some a) := by
  refine ⟨okE_no (by first | (intros; rfl) | (intro a r q; cases q)), ⟨fun X Wx cc at_ es h => (by simp only [chkA] at h; cases h), fun X Wx cc at_ o h => ?_, fun X cc at_ es h => ?_, fun X Wx cc at_ k tg it h => (by simp only [chkI] at h; cases h)⟩, by first | (intros; rfl) | (intro a r q; cases q)⟩
  · simp only [chkO] at h
    split at h
    · exact do_some (ia.e.pe X Wx cc at_ _ h)
    · cases h
  · simp only [chkC] at h
    split at h
    · exact pts_one (ia.e.pt X W0 cc at_ _ h)
    · cases h
theorem ok_cons {a r : E} (ia : Ok G T cl a) (ir : Ok G T cl r) : Ok G T cl (.cons a r) := by
  refine ⟨okE_no (by first | (intros; rfl) | (intro a r q; cases q)), ⟨fun X Wx cc at_ es h => ?_, fun X Wx cc at_ o h => (by simp only [chkO] at h; cases h), fun X cc at_ es h => (by simp only [chkC] at h; cases h), fun X Wx cc at_ k tg it h => ?_⟩, fun a' r' q => (by cases q; exact ia.e)⟩
  · simp only [chkA] at h
    split at h
    · simp only [Bool.and_eq_true] at h
      exact de_cons (ia.e.pe X Wx cc at_ _ h.1.2) (ir.a.pa X Wx cc at_ _ h.2) (star_cons h.1.1)
    · cases h
  · cases r with
    | nil =>
      simp only [chkI] at h
      split at h
      · exact di_val (ia.e.pe X Wx cc at_ _ h)
      · split at h
        · simp only [Bool.and_eq_true] at h
          obtain ⟨⟨⟨h1, h2⟩, h3⟩, h4⟩ := h
          obtain rfl := beq_iff_eq.mp h1
          exact di_rng1 (gl_of h2 at_.s) (free_of at_ rng_blt) (ia.e.pe X Wx cc at_ _ h4) (star_cons h3)
        · cases h
      · split at h
        · simp only [Bool.and_eq_true] at h
          obtain ⟨⟨⟨⟨h1, h2⟩, h3⟩, h4⟩, h5⟩ := h
          obtain rfl := beq_iff_eq.mp h1
          split at h5
          · exact di_enu (gl_of h2 at_.s) (free_of at_ enu_blt) (ia.e.pe X Wx cc at_ _ h4) (star_cons h3)
          · cases h5
        · cases h
      · cases h
    | cons b r2 =>
      have hb : OkE G T cl b := ir.c b r2 rfl
      cases r2 with
      | nil =>
        simp only [chkI] at h
        split at h
        · simp only [Bool.and_eq_true] at h
          obtain ⟨⟨⟨⟨⟨h1, h2⟩, h3⟩, h4⟩, h5⟩, h6⟩ := h
          split at h6
          · obtain rfl := beq_iff_eq.mp h6
            exact di_rng2 (gl_of h1 at_.s) (free_of at_ rng_blt) (ia.e.pe X Wx cc at_ _ h4) (hb.pe X Wx cc at_ _ h5) (by rw [star_cons h2, star_cons h3]; rfl) (star_cons h3)
          · simp only [Bool.and_eq_true] at h6
            obtain ⟨h6, h7⟩ := h6
            obtain rfl := beq_iff_eq.mp h6
            split at h7
            · exact di_zip (gl_of h1 at_.s) (free_of at_ zip_blt) (ia.e.pe X Wx cc at_ _ h4) (hb.pe X Wx cc at_ _ h5) (star_cons h2) (star_cons h3) (star_plain (by simp only [List.all_cons, List.all_nil, h3, Bool.and_true]))
            · cases h7
          · cases h6
        · cases h
      | _ => simp only [chkI] at h; cases h
    | _ => simp only [chkI] at h; cases h
theorem chk_ok : ∀ ir : E, Ok G T cl ir
  | .v i => ok_v i
  | .c d => ok_c d
  | .g x d => ok_g x d
  | .nt a => ok_nt (chk_ok a)
  | .ng a => ok_ng (chk_ok a)
  | .bin o new a b => ok_bin (chk_ok a) (chk_ok b)
  | .cmp o a b => ok_cmp (chk_ok a) (chk_ok b)
  | .chain o1 o2 a b c => ok_chain (chk_ok a) (chk_ok b) (chk_ok c)
  | .and a b => ok_and (chk_ok a) (chk_ok b)
  | .or a b => ok_or (chk_ok a) (chk_ok b)
  | .orT a b => ok_orT (chk_ok a) (chk_ok b)
  | .ite c a b => ok_ite (chk_ok c) (chk_ok a) (chk_ok b)
  | .tup a => ok_tup (chk_ok a)
  | .lst new a => ok_lst (chk_ok a)
  | .idx a b => ok_idx (chk_ok a) (chk_ok b)
  | .sl new a lo hi => ok_sl (chk_ok a) (chk_ok lo) (chk_ok hi)
  | .rev new a => ok_rev (chk_ok a)
  | .call f a => ok_call (chk_ok a)
  | .prim p new a => ok_prim (chk_ok a)
  | .isi ts a => ok_isi (chk_ok a)
  | .meth m o a => ok_meth (chk_ok o) (chk_ok a)
  | .comp new k src tg own cond elt => ok_comp (chk_ok src) (chk_ok cond) (chk_ok elt)
  | .nil => ok_nil
  | .cons a r => ok_cons (chk_ok a) (chk_ok r)
  | .none => ok_none
  | .some a => ok_some (chk_ok a)
end
end MP
end

section
set_option maxHeartbeats 4000000
namespace MP
open PySem PySem.Spec PyProof.Rows L2

/-! ### statements -/
def noTup : Expr → Bool
  | .Tuple .. => false
  | _ => true
def isLc : Expr → Bool
  | .ListComp .. => true
  | _ => false
def swB (sc scope : Scope) (y : Str) (py pos : Pos) : Bool := sc.names.lookup y == some .local && py.line == pos.line && !(scope.names.any fun (n, k) => n == y && (k == .local || k == .cell))
def parB (sc : Scope) (vs : List Expr) : Bool := vs.all noStar && !(vs.all (foldedForSure 8)) && !(vs.all (constantsAlone 8))
def chkS (G : Gd) (cc : Cc) (ir : S) (st : Stmt) : Bool := match ir, st with
  | .asg (.v i) e, .Assign [.Name y py] v pos => tgtB cc i y && (isLc v || noComp v) && chk G cc false e v
  | .asg (.t is) e, .Assign [.Tuple es k p] v pos => tgtsB cc is es && (noTup v || decide (3 < es.length)) && chk G cc false e v
  | .par [i, j] a, .Assign [.Tuple [.Name x px, .Name y py] _ _] (.Tuple [u, v] _ _) pos => cc.N[i]? == some x && cc.N[j]? == some y && !(i == j) && !(x == y) && cc.sc.names.lookup x == some .local && cc.sc.names.lookup y == some .local &&
      py.line == px.line && parB cc.sc [u, v] && chkA G cc a [u, v]
  | .par [i, j, l] a, .Assign [.Tuple [.Name x px, .Name y py, .Name z pz] _ _] (.Tuple [u, v, w] _ _) pos => cc.N[i]? == some x && cc.N[j]? == some y && cc.N[l]? == some z && !(i == j) && !(i == l) && !(j == l) && !(x == y) && !(x == z) && !(y == z) &&
      cc.sc.names.lookup x == some .local && cc.sc.names.lookup y == some .local && cc.sc.names.lookup z == some .local && py.line == px.line && pz.line == px.line && parB cc.sc [u, v, w] && chkA G cc a [u, v, w]
  | .ret e, .Return (some v) _ => chk G cc false e v
  | .exp e, .Expr v _ => noComp v && chk G cc false e v
  | .setI o i e, .Assign [.Subscript oe ie _] v _ => !isSl ie && chk G cc false o oe && chk G cc false i ie && chk G cc false e v
  | _, _ => false
mutual
def chkB (G : Gd) (cc : Cc) (ir : S) (ss : List Stmt) : Bool := match ir with
  | .skip => (match ss with
    | [] => true
    | _ => false)
  | .seq a b => (match a with
    | .frz _ => chkB G cc b ss
    | _ => (match ss with
      | [] => false
      | st :: rest => chk1 G cc a st && chkB G cc b rest))
  | _ => false
def chk1 (G : Gd) (cc : Cc) (ir : S) (st : Stmt) : Bool := match ir with
  | .ite c a b => (match st with
    | .If t p q _ => chk G cc true c t && chkB G cc a p && chkB G cc b q
    | _ => false)
  | .for_ k src tg b => (match st with
    | .For tgE iter body [] _ => noSet iter && chkI G cc k src tgE iter && chkG cc tg tgE && chkB G cc b body
    | _ => false)
  | .while_ c b => (match st with
    | .While t body [] _ => chk G cc true c t && chkB G cc b body
    | _ => false)
  | .no => true
  | .seq _ _ => false
  | .skip => false
  | .frz _ => false
  | ir => chkS G cc ir st
end
/-- what holds at a statement -/
structure AtS (G : Gd) (T : XTab) (cl : Calls) (X : Cx) (Wx : WX) (cc : Cc) : Prop extends At G T cl X Wx cc where
  kind : cc.sc.kind = .function
  own : PassesOwn (model X.prog X.w) X.A X.env X.xe
section
variable {G : Gd} {T : XTab} {cl : Calls} {X : Cx} {Wx : WX} {cc : Cc}
theorem swaps_no {e : Expr} {tg : Option Expr} {l : Nat} {env : Env} (h : noComp e = true) : swapsWith e tg l env = pure false := by
  cases e <;> first | rfl | cases h
theorem swaps_tup {e : Expr} {es : List Expr} {k : Nat} {p : Pos} {l : Nat} {env : Env} : swapsWithSole [.Tuple es k p] e l env = pure false := by
  cases e <;> rfl
theorem swaps_sub {e o i : Expr} {p : Pos} {l : Nat} {env : Env} : swapsWithSole [.Subscript o i p] e l env = pure false := by
  cases e <;> rfl
theorem stores_sub {e o i : Expr} {p : Pos} {env : Env} : swappedStores [.Subscript o i p] e env = pure none := by
  cases e <;> rfl
theorem stores_tup {e : Expr} {es : List Expr} {k : Nat} {p : Pos} {env : Env} (h : (noTup e || decide (3 < es.length)) = true) : swappedStores [.Tuple es k p] e env = pure none := by
  cases e with
  | Tuple vs k2 p2 =>
    have h1 : 3 < es.length := by simpa [noTup] using h
    unfold swappedStores
    have e2 : (es.length == 2) = false := by simp; omega
    have e3 : (es.length == 3) = false := by simp; omega
    simp [e2, e3]
  | _ => rfl
theorem swaps_lc {el : Expr} {gens : List Comprehension} {scope : Scope} {pos py : Pos} {y : Str} {l : Nat} (a : AtS G T cl X Wx cc) : swapsWith (.ListComp el gens scope pos) (some (.Name y py)) l X.env = pure (swB cc.sc scope y py pos) := by
  unfold swapsWith swB Env.blockKind Env.kindOf
  rw [a.s, a.kind]
  simp [ScopeKind.isAnnotationScope, Expr.pos]
theorem asg_sub {o i : Expr} {p : Pos} {env : Env} (h : isSl i = false) : ∀ v, assign (.Subscript o i p) env v = (do
      let ov ← holding [v] (eval o env)
      let iv ← holding [v, ov] (eval i env)
      standAt p
      holding [v, ov, iv] (setItem ov iv v)
      release [v, ov, iv] []) := by
  intro v
  cases i <;> first | rfl | cases h
theorem bk_of (a : AtS G T cl X Wx cc) : X.env.blockKind = .function := by
  unfold Env.blockKind
  rw [a.s, a.kind]
  rfl
theorem star_any : ∀ {vs : List Expr}, vs.all noStar = true → (vs.any fun | .Starred .. => true | _ => false) = false := fun {vs} h1 => by
  rw [List.any_eq_false]
  intro w hw
  have := List.all_eq_true.mp h1 w hw
  cases w <;> first | (intro q; cases q; done) | cases this
theorem par2_of (a : AtS G T cl X Wx cc) {x y : Str} {px py p p2 : Pos} {u v : Expr} {k k2 : Nat} (hx : X.env.scope.names.lookup x = some .local) (hy : X.env.scope.names.lookup y = some .local) (ne : (x == y) = false) (hl : (py.line == px.line) = true) (h : parB cc.sc [u, v] = true) :
    swappedStores [.Tuple [.Name x px, .Name y py] k p] (.Tuple [u, v] k2 p2) X.env = pure (some [x, y]) := by
  unfold parB at h
  simp only [Bool.and_eq_true, Bool.not_eq_true'] at h
  obtain ⟨⟨h1, h2⟩, h3⟩ := h
  have ne2 : (y == x) = false := by
    rw [beq_eq_false_iff_ne] at ne ⊢
    exact fun q => ne q.symm
  unfold swappedStores
  simp only []
  rw [if_neg (by rw [bk_of a]; exact Bool.false_ne_true), if_neg (by rw [Bool.not_eq_true]; exact star_any h1)]
  have e1 : ([Expr.Name x px, Expr.Name y py].filterMap fun
    | .Name id pos => if X.env.kindOf id == some .local && pos.line == (Option.map (fun x => x.pos.line) [Expr.Name x px, Expr.Name y py].head?).getD 0 then some id else none
    | _ => none) = [x, y] := by
    simp [Env.kindOf, hx, hy, Expr.pos, beq_iff_eq.mp hl]
  refine Eq.trans (b := if ([x, y].length != [Expr.Name x px, Expr.Name y py].length || [x, y].eraseDups.length != [x, y].length) = true then pure none else if [u, v].all (foldedForSure 8) = true then pure none else if [u, v].all (constantsAlone 8) = true then (do
      let _ ← (unsupported "assign.tuple-of-constant-expressions:order-of-the-stores" : Sem PUnit)
      pure (some [x, y])) else pure (some [x, y])) ?_ ?_
  · rw [← e1]; rfl
  · rw [if_neg (by simp [List.eraseDups_cons, ne2]), h2, h3, if_neg Bool.false_ne_true, if_neg Bool.false_ne_true]
theorem par3_of (a : AtS G T cl X Wx cc) {x y z : Str} {px py pz p p2 : Pos} {u v w : Expr} {k k2 : Nat} (hx : X.env.scope.names.lookup x = some .local) (hy : X.env.scope.names.lookup y = some .local) (hz : X.env.scope.names.lookup z = some .local) (ne : (x == y) = false) (ne' : (x == z) = false) (ne'' : (y == z) = false) (hl : (py.line == px.line) = true) (hl' : (pz.line == px.line) = true) (h : parB cc.sc [u, v, w] = true) :
    swappedStores [.Tuple [.Name x px, .Name y py, .Name z pz] k p] (.Tuple [u, v, w] k2 p2) X.env = pure (some [x, y, z]) := by
  unfold parB at h
  simp only [Bool.and_eq_true, Bool.not_eq_true'] at h
  obtain ⟨⟨h1, h2⟩, h3⟩ := h
  have sw : ∀ {x y : Str}, (x == y) = false → (y == x) = false := fun {x y} ne => by
    rw [beq_eq_false_iff_ne] at ne ⊢
    exact fun q => ne q.symm
  unfold swappedStores
  simp only []
  rw [if_neg (by rw [bk_of a]; exact Bool.false_ne_true), if_neg (by rw [Bool.not_eq_true]; exact star_any h1)]
  have e1 : ([Expr.Name x px, Expr.Name y py, Expr.Name z pz].filterMap fun
    | .Name id pos => if X.env.kindOf id == some .local && pos.line == (Option.map (fun x => x.pos.line) [Expr.Name x px, Expr.Name y py, Expr.Name z pz].head?).getD 0 then some id else none
    | _ => none) = [x, y, z] := by
    simp [Env.kindOf, hx, hy, hz, Expr.pos, beq_iff_eq.mp hl, beq_iff_eq.mp hl']
  refine Eq.trans (b := if ([x, y, z].length != [Expr.Name x px, Expr.Name y py, Expr.Name z pz].length || [x, y, z].eraseDups.length != [x, y, z].length) = true then pure none else if [u, v, w].all (foldedForSure 8) = true then pure none else if [u, v, w].all (constantsAlone 8) = true then (do
      let _ ← (unsupported "assign.tuple-of-constant-expressions:order-of-the-stores" : Sem PUnit)
      pure (some [x, y, z])) else pure (some [x, y, z])) ?_ ?_
  · rw [← e1]; rfl
  · rw [if_neg (by simp [List.eraseDups_cons, sw ne, sw ne', sw ne'']), h2, h3, if_neg Bool.false_ne_true, if_neg Bool.false_ne_true]
theorem chk_lc {t : Bool} {ir : E} {el : Expr} {gens : List Comprehension} {scope : Scope} {pos : Pos} (h : chk G cc t ir (.ListComp el gens scope pos) = true) : ∃ new k src tg own cond elt, ir = .comp new k src tg own cond elt := by
  cases ir with
  | comp new k src tg own cond elt => exact ⟨_, _, _, _, _, _, _, rfl⟩
  | orT _ _ => exact absurd (Bool.and_eq_true_iff.mp h).2 Bool.false_ne_true
  | ite _ _ _ => exact absurd (Bool.and_eq_true_iff.mp h).2 Bool.false_ne_true
  | _ => exact absurd h Bool.false_ne_true
theorem chkS_of {ir : S} {st : Stmt} (a : AtS G T cl X Wx cc) (h : chkS G cc ir st = true) : PS X st (tS T X.K Wx (exec cl ir)) := by
  have at_ := a.toAt
  unfold chkS at h
  split at h
  · rename_i i e y py v pos
    simp only [Bool.and_eq_true] at h
    obtain ⟨⟨h1, h2⟩, h3⟩ := h
    obtain ⟨q1, q2, q3⟩ := tgt_of at_ h1
    have he := (chk_ok (cl := cl) (T := T) e).e.pe X Wx cc at_ _ h3
    cases hv : isLc v with
    | false =>
      rw [hv, Bool.false_or] at h2
      exact ds_set at_.nd q1 q2 he (swaps_no h2) q3
    | true =>
      cases v with
      | ListComp el gens scope p =>
        have sw := swaps_lc (el := el) (gens := gens) (scope := scope) (pos := p) (py := py) (y := y) (l := pos.line) a
        cases hb : swB cc.sc scope y py p with
        | false =>
          rw [hb] at sw
          exact ds_set at_.nd q1 q2 he sw q3
        | true =>
          rw [hb] at sw
          obtain ⟨new, k, src, tg, own, cond, elt, rfl⟩ := chk_lc h3
          obtain ⟨el', tgE, iter, ifs, scope', pos', e1, hi, hbl, hg, ht, he2, hs, hf⟩ := comp_of (chk_ok src) (chk_ok cond) (chk_ok elt) at_ h3
          cases e1
          have hl : X.env.scope.names.lookup y = some .local := by
            rw [a.s]
            unfold swB at hb
            simp only [Bool.and_eq_true] at hb
            exact beq_iff_eq.mp hb.1.1
          have q := ds_setC (T := T) (Wx := Wx) (new := new) at_.calm at_.nd q1 hl sw hi hbl hg ht he2 hs hf
          rw [own_slots] at q
          exact q
      | _ => cases hv
  · rename_i is e es k p v pos
    simp only [Bool.and_eq_true] at h
    obtain ⟨⟨h1, h2⟩, h3⟩ := h
    have he := (chk_ok (cl := cl) (T := T) e).e.pe X Wx cc at_ _ h3
    exact ds_unp (tg := .t is) he (chkG_of at_ (tg := .t is) (e := .Tuple es k p) h1) swaps_tup (stores_tup h2) rfl
  · rename_i i j e x px y py k1 p1 u v k2 p2 pos
    simp only [Bool.and_eq_true, Bool.not_eq_true'] at h
    obtain ⟨⟨⟨⟨⟨⟨⟨⟨h1, h2⟩, h3⟩, h4⟩, h5⟩, h6⟩, h7⟩, h8⟩, h9⟩ := h
    have hx : X.env.scope.names.lookup x = some .local := by rw [a.s]; exact beq_iff_eq.mp h5
    have hy : X.env.scope.names.lookup y = some .local := by rw [a.s]; exact beq_iff_eq.mp h6
    exact ds_par2 at_.calm at_.nd (nth_of at_ h1) (nth_of at_ h2) (by simpa using h3) hx hy ((chk_ok (cl := cl) (T := T) e).a.pa X Wx cc at_ _ h9) (par2_of a hx hy h4 h7 h8) swaps_tup
  · rename_i i j l e x px y py z pz k1 p1 u v w k2 p2 pos
    simp only [Bool.and_eq_true, Bool.not_eq_true'] at h
    obtain ⟨⟨⟨⟨⟨⟨⟨⟨⟨⟨⟨⟨⟨⟨⟨h1, h2⟩, h3⟩, h4⟩, h5⟩, h6⟩, h7⟩, h8⟩, h9⟩, kx⟩, ky⟩, kz⟩, hl⟩, hl'⟩, hp⟩, ha⟩ := h
    have hx : X.env.scope.names.lookup x = some .local := by rw [a.s]; exact beq_iff_eq.mp kx
    have hy : X.env.scope.names.lookup y = some .local := by rw [a.s]; exact beq_iff_eq.mp ky
    have hz : X.env.scope.names.lookup z = some .local := by rw [a.s]; exact beq_iff_eq.mp kz
    exact ds_par3 at_.calm at_.nd (nth_of at_ h1) (nth_of at_ h2) (nth_of at_ h3) (by simpa using h4) (by simpa using h5) (by simpa using h6) hx hy hz ((chk_ok (cl := cl) (T := T) e).a.pa X Wx cc at_ _ ha) (par3_of a hx hy hz h7 h8 h9 hl hl' hp) swaps_tup
  · exact ds_ret ((chk_ok (cl := cl) (T := T) _).e.pe X Wx cc at_ _ h)
  · simp only [Bool.and_eq_true] at h
    exact ds_expr ((chk_ok (cl := cl) (T := T) _).e.pe X Wx cc at_ _ h.2) (swaps_no h.1)
  · simp only [Bool.and_eq_true, Bool.not_eq_true'] at h
    obtain ⟨⟨⟨h1, h2⟩, h3⟩, h4⟩ := h
    refine ds_setI ((chk_ok (cl := cl) (T := T) _).e.pe X Wx cc at_ _ h4) ((chk_ok (cl := cl) (T := T) _).e.pe X Wx cc at_ _ h2) ((chk_ok (cl := cl) (T := T) _).e.pe X Wx cc at_ _ h3) swaps_sub stores_sub rfl (asg_sub h1)
  · cases h
structure OkS (G : Gd) (T : XTab) (cl : Calls) (ir : S) : Prop where
  one : ∀ (X : Cx) (Wx : WX) (cc : Cc), AtS G T cl X Wx cc → ∀ st, chk1 G cc ir st = true → PS X st (tS T X.K Wx (exec cl ir))
  all : ∀ (X : Cx) (Wx : WX) (cc : Cc), AtS G T cl X Wx cc → ∀ ss, chkB G cc ir ss = true → PSs X ss (tS T X.K Wx (exec cl ir))
theorem okS_one {ir : S} (h : ∀ (X : Cx) (Wx : WX) (cc : Cc), AtS G T cl X Wx cc → ∀ st, chk1 G cc ir st = true → PS X st (tS T X.K Wx (exec cl ir))) (h2 : ∀ G cc ss, chkB G cc ir ss = false) : OkS G T cl ir :=
  ⟨h, fun X Wx cc a ss q => (by rw [h2] at q; cases q)⟩
theorem okS_leaf {ir : S} (h : ∀ G cc st, chk1 G cc ir st = chkS G cc ir st) (h2 : ∀ G cc ss, chkB G cc ir ss = false) : OkS G T cl ir :=
  okS_one (fun X Wx cc a st q => chkS_of a (by rw [← h]; exact q)) h2
theorem okS_seq {a b : S} (ia : OkS G T cl a) (ib : OkS G T cl b) : OkS G T cl (.seq a b) := by
  refine ⟨fun X Wx cc at_ st h => ?_, fun X Wx cc at_ ss h => ?_⟩
  · simp only [chk1] at h
    cases h
  · simp only [chkB] at h
    split at h
    · exact ds_frz (ib.all X Wx cc at_ _ h)
    · split at h
      · cases h
      · simp only [Bool.and_eq_true] at h
        exact ds_cons (ia.one X Wx cc at_ _ h.1) (ib.all X Wx cc at_ _ h.2)
theorem okS_skip : OkS G T cl .skip := by
  refine ⟨fun X Wx cc at_ st h => ?_, fun X Wx cc at_ ss h => ?_⟩
  · simp only [chk1] at h
    cases h
  · simp only [chkB] at h
    split at h
    · exact ds_nil
    · cases h
theorem okS_ite {c : E} {a b : S} (ia : OkS G T cl a) (ib : OkS G T cl b) : OkS G T cl (.ite c a b) := by
  refine okS_one (fun X Wx cc at_ st h => ?_) fun _ _ _ => rfl
  simp only [chk1] at h
  split at h
  · simp only [Bool.and_eq_true] at h
    exact ds_if ((chk_ok c).e.pt X Wx cc at_.toAt _ h.1.1) (ia.all X Wx cc at_ _ h.1.2) (ib.all X Wx cc at_ _ h.2)
  · cases h
theorem okS_for {k : ItK} {src : E} {tg : Tg} {b : S} (ib : OkS G T cl b) : OkS G T cl (.for_ k src tg b) := by
  refine okS_one (fun X Wx cc at_ st h => ?_) fun _ _ _ => rfl
  simp only [chk1] at h
  split at h
  · simp only [Bool.and_eq_true] at h
    obtain ⟨⟨⟨h1, h2⟩, h3⟩, h4⟩ := h
    exact ds_for at_.own at_.calm ((chk_ok src).a.pi X Wx cc at_.toAt _ _ _ h2) (chkG_of at_.toAt h3) (ib.all X Wx cc at_ _ h4) (folded_of h1 _)
  · cases h
theorem okS_while {c : E} {b : S} (ib : OkS G T cl b) : OkS G T cl (.while_ c b) := by
  refine okS_one (fun X Wx cc at_ st h => ?_) fun _ _ _ => rfl
  simp only [chk1] at h
  split at h
  · simp only [Bool.and_eq_true] at h
    exact ds_while at_.own ((chk_ok c).e.pt X Wx cc at_.toAt _ h.1) (ib.all X Wx cc at_ _ h.2)
  · cases h
theorem chkB_ok : ∀ ir : S, OkS G T cl ir
  | .skip => okS_skip
  | .seq a b => okS_seq (chkB_ok a) (chkB_ok b)
  | .frz i => okS_one (fun X Wx cc at_ st h => (by simp only [chk1] at h; cases h)) fun _ _ _ => rfl
  | .asg tg e => okS_leaf (fun _ _ _ => rfl) fun _ _ _ => rfl
  | .par is e => okS_leaf (fun _ _ _ => rfl) fun _ _ _ => rfl
  | .ret e => okS_leaf (fun _ _ _ => rfl) fun _ _ _ => rfl
  | .exp e => okS_leaf (fun _ _ _ => rfl) fun _ _ _ => rfl
  | .setI o i e => okS_leaf (fun _ _ _ => rfl) fun _ _ _ => rfl
  | .ite c a b => okS_ite (chkB_ok a) (chkB_ok b)
  | .for_ k src tg b => okS_for (chkB_ok b)
  | .while_ c b => okS_while (chkB_ok b)
  | .no => okS_one (fun X Wx cc at_ st h => ds_no fun _ _ => rfl) fun _ _ _ => rfl
end
end MP
end

section
set_option maxHeartbeats 4000000
namespace MP
open PySem PySem.Spec PyProof.Rows L2

/-! ### how arguments bind -/
def plainB (p : Arguments) (ps : List Str) : Bool := p.posonlyargs.isEmpty && p.args.map (·.arg) == ps && p.vararg.isNone && p.kwonlyargs.isEmpty && p.kwarg.isNone
theorem zip_look : ∀ {ps : List Str} {us : List Value}, us.length = ps.length → ∀ x ∈ ps, ((ps.zip us).lookup x).isSome = true
  | [], _, _, x, h => absurd h (by simp)
  | p :: ps, [], h, _, _ => by simp at h
  | p :: ps, u :: us, h, x, hx => by
    simp only [List.zip_cons_cons, List.lookup]
    cases q : (x == p) with
    | true => rfl
    | false =>
      simp only
      refine zip_look (by simpa using h) x ?_
      rcases List.mem_cons.mp hx with e | e
      · rw [e] at q; simp at q
      · exact e
theorem fm_congr {α β : Type} {f g : α → Option β} : ∀ {l : List α}, (∀ x ∈ l, f x = g x) → l.filterMap f = l.filterMap g
  | [], _ => rfl
  | a :: l, h => by
    rw [List.filterMap_cons, List.filterMap_cons, h a List.mem_cons_self, fm_congr fun x hx => h x (List.mem_cons_of_mem _ hx)]
theorem zip_bind : ∀ {ps : List Str} {us : List Value}, ps.Nodup → us.length = ps.length → (ps.filterMap fun n => ((ps.zip us).lookup n).map (n, ·)) = ps.zip us
  | [], _, _, _ => by simp
  | p :: ps, [], _, h => by simp at h
  | p :: ps, u :: us, nd, h => by
    obtain ⟨h1, h2⟩ := List.nodup_cons.mp nd
    rw [List.filterMap_cons]
    simp only [List.zip_cons_cons, List.lookup, beq_self_eq_true, Option.map_some]
    congr 1
    refine Eq.trans (fm_congr fun x hx => ?_) (zip_bind h2 (us := us) (by simpa using h))
    have q : (x == p) = false := by
      rw [beq_eq_false_iff_ne]
      exact fun e => h1 (e ▸ hx)
    rw [q]
theorem bind_of {x qual : Str} {params : Arguments} {body : List Stmt} {scope : Scope} {ps : List Str} (hp : plainB params ps = true) (nd : ps.Nodup) (kV doc pm : Value) (an : Option Addr) (cdv ct : Value) (us : List Value) (hl : us.length = ps.length) :
    bindArgs (PySem.W.fnOf x qual params body scope .none kV doc pm an cdv ct) ⟨us, []⟩ = pure (ps.zip us) := by
  obtain ⟨po, as, va, ko, kd, kw, df⟩ := params
  unfold plainB at hp
  simp only [Bool.and_eq_true, List.isEmpty_iff, Option.isNone_iff_eq_none, beq_iff_eq] at hp
  obtain ⟨⟨⟨⟨rfl, rfl⟩, rfl⟩, rfl⟩, rfl⟩ := hp
  have e1 : (List.filter (fun n => ((as.map (·.arg)).zip us |>.lookup n).isNone) (as.map (·.arg))) = [] := by
    rw [List.filter_eq_nil_iff]
    intro y hy
    have := zip_look hl y hy
    cases q : ((as.map (·.arg)).zip us).lookup y with
    | none => rw [q] at this; cases this
    | some v => simp
  unfold bindArgs PySem.W.fnOf
  have hl2 : us.length = as.length := by simpa using hl
  simp only [seqItems?, notAStandIn, pure_bind, List.map_nil, List.nil_append, List.forIn_nil, List.append_nil, List.length_map, hl2, List.drop_nil, List.zip_nil_right, Nat.sub_zero, List.length_nil]
  have t : List.take (as.length - (List.drop (((none : Option (Array Value)).getD #[]).toList.length - as.length) ((none : Option (Array Value)).getD #[]).toList).length) (as.map (·.arg)) = as.map (·.arg) := by
    apply List.take_of_length_le
    simp
  rw [if_neg (by simp), t, e1, if_neg (by simp)]
  have d0 : (List.drop (((none : Option (Array Value)).getD #[]).toList.length - as.length) ((none : Option (Array Value)).getD #[]).toList) = [] := by simp
  rw [d0]
  simp only [List.zip_nil_right, List.forIn_nil, pure_bind, List.isEmpty_nil]
  rw [if_neg (by simp)]
  simp only [zip_bind nd hl]
/-! ### the program as data, its run -/
structure Fd where
  name : Str
  ps : List Str
  N : List Str
  body : S
  st : Nat
def get (P : List Fd) (f : Str) : Option Fd := P.find? fun d => d.name == f
/-- a def's end -/
def fin (S : Store) : F → R W
  | .nx _ S' => .ok (.d .non) (trim S.length (.d .non) S')
  | .rt w S' => .ok w (trim S.length w S')
  | .ex c x _ S' => .ex c x S'
  | .no => .no
noncomputable def run (P : List Fd) : Nat → Calls
  | 0, _, _, _ => .no
  | k + 1, f, ws, S => match get P f with
    | some d => if ws.length = d.ps.length then fin S (exec (run P k) d.body (ws.map some ++ List.replicate (d.N.length - ws.length) none) S) else .no
    | none => .no
/-- the program has this def -/
def Has (P : List Fd) (f : Str) (ps N : List Str) (b : S) : Prop := ∃ st, get P f = some ⟨f, ps, N, b, st⟩
theorem run_eq {P : List Fd} {f : Str} {ps N : List Str} {b : S} (h : Has P f ps N b) (k : Nat) (ws : List W) (S : Store) (hl : ws.length = ps.length) :
    run P (k + 1) f ws S = fin S (exec (run P k) b (ws.map some ++ List.replicate (N.length - ws.length) none) S) := by
  obtain ⟨st, h⟩ := h
  show (match get P f with | some d => _ | none => _) = _
  rw [h]
  exact if_pos hl
theorem get_mem {P : List Fd} {f : Str} {d : Fd} (h : get P f = some d) : d ∈ P ∧ d.name = f := ⟨List.mem_of_find?_eq_some h, by have := List.find?_some h; simpa using this⟩
theorem get_of {f : Str} {n : Nat} : ∀ {P : List Fd}, (P.map fun d => (d.name, d.ps.length)).lookup f = some n → ∃ d, get P f = some d ∧ d.ps.length = n
  | [], h => by cases h
  | d :: P, h => by
    simp only [List.map_cons, List.lookup] at h
    unfold get
    rw [List.find?_cons]
    cases q : (f == d.name) with
    | true =>
      rw [q] at h
      have q2 : (d.name == f) = true := by rw [beq_iff_eq] at q ⊢; exact q.symm
      rw [q2]
      exact ⟨d, rfl, by simpa using h⟩
    | false =>
      rw [q] at h
      have q2 : (d.name == f) = false := by rw [beq_eq_false_iff_ne] at q ⊢; exact fun e => q e.symm
      rw [q2]
      exact get_of h
def gdOf (P : List Fd) (cons : List (Str × MP.D)) : Gd := ⟨P.map fun d => (d.name, d.ps.length), cons⟩
def scopeB (N ps : List Str) (sc : Scope) : Bool := sc.kind == .function && !sc.isCoroutine && !sc.isGenerator && decide N.Nodup && N.take ps.length == ps && ps.all (fun x => sc.names.lookup x == some .local || sc.names.lookup x == some .cell) && sc.names.all fun y => !(y.2 == .free)
def okFd (G : Gd) (d : Fd) (st : Stmt) : Bool := (plainB (defArgs st) d.ps && decide d.ps.Nodup) && scopeB d.N d.ps (defScope st) && chkB G ⟨d.N, defScope st, fun _ => true⟩ d.body (defBody st)
theorem scope_of {N ps : List Str} {sc : Scope} (h : scopeB N ps sc = true) : FnScope N ps sc := by
  unfold scopeB at h
  simp only [Bool.and_eq_true, Bool.not_eq_true', decide_eq_true_eq] at h
  obtain ⟨⟨⟨⟨⟨⟨h1, h2⟩, h3⟩, h4⟩, h5⟩, h6⟩, h7⟩ := h
  refine ⟨beq_iff_eq.mp h1, h2, h3, h4, beq_iff_eq.mp h5, fun x hx => ?_, fun y hy e => ?_⟩
  · have := List.all_eq_true.mp h6 x hx
    simp only [Bool.or_eq_true, beq_iff_eq] at this
    exact this
  · have := List.all_eq_true.mp h7 y hy
    rw [e] at this
    cases this
section
variable {K : PySem.W.Frag} {z z' : Z}
theorem Z.le_cut (l : z.le z') (ok : z'.Ok K) (okz : z.Ok K) (hd : (z'.S.drop z.S.length).all O.isDead = true) : z.le (Z.mk (z'.μ.take z.S.length) (z'.S.take z.S.length) z'.H z'.P) := by
  obtain ⟨ok2, kp⟩ := ok.cut hd
  refine ⟨⟨fun n a h => ?_, fun a o h m => ?_⟩, l.pe, l.pk⟩
  · have hn : n < z.S.length := by
      rw [← okz.len]
      exact (List.getElem?_eq_some_iff.mp h).1
    show (z'.μ.take z.S.length)[n]? = _
    rw [List.getElem?_take_of_lt hn]
    exact l.mu n a h
  · obtain ⟨h1, m1⟩ := l.keep a o h m
    exact kp a o h1 m1
theorem trim_of {w : W} {v : V} {Q : VK} (okz : z.Ok K) (l : z.le z') (ok : z'.Ok K) (r : RW K z' w v) (h : ∀ z'' v, z.le z'' → z''.Ok K → z''.S = trim z.S.length w z'.S → RW K z'' w v → Q v z''.H) : Q v z'.H := by
  cases w with
  | d x =>
    unfold trim at h
    simp only at h
    by_cases hd : (z'.S.drop z.S.length).all O.isDead = true
    · rw [if_pos hd] at h
      obtain ⟨ok2, kp⟩ := ok.cut hd
      exact h (Z.mk (z'.μ.take z.S.length) (z'.S.take z.S.length) z'.H z'.P) v (Z.le_cut l ok okz hd) ok2 rfl (RD.mono kp x v r)
    · rw [if_neg hd] at h
      exact h z' v l ok rfl r
  | ref n => exact h z' v l ok rfl r
  | scr xs => exact h z' v l ok rfl r
theorem RS.start {N : List Str} {ws : List W} {vs : List V} (r : RWs K z ws vs) : RS K z (ws.map some ++ List.replicate (N.length - ws.length) none) (L2.start N vs) := by
  unfold L2.start
  refine ⟨by simp [r.length], fun i w e => ?_⟩
  have hi : i < ws.length := by
    by_cases q : i < ws.length
    · exact q
    · rw [List.getElem?_append_right (by simpa using q)] at e
      have := List.mem_of_getElem? e
      simp at this
  rw [List.getElem?_append_left (by simpa using hi), List.getElem?_map] at e
  cases e2 : ws[i]? with
  | none => rw [e2] at e; cases e
  | some u =>
    rw [e2] at e
    cases e
    obtain ⟨v, ev, rv⟩ := r.get e2
    refine ⟨v, ?_, rv⟩
    rw [List.getElem?_append_left (by rw [List.length_map, ← r.length]; exact hi), List.getElem?_map, ev]
    rfl
end
section
variable {Pr : Program} {w : World} {K : PySem.W.Frag} {mg : Str → Option Value} {base : Heap} {T : XTab} {P : List Fd} {top : Nat → Stmt} {cons : List (Str × MP.D)}
/-- what the head says -/
structure Hd (K : PySem.W.Frag) (mg : Str → Option Value) (P : List Fd) (top : Nat → Stmt) (cons : List (Str × MP.D)) : Prop where
  fn : ∀ (d : Fd), d ∈ P → ∃ fd, FunD K d.name d.name (defArgs (top d.st)) (defBody (top d.st)) (defScope (top d.st)) [] [] (He.ga K d.name) fd ∧ Binds K fd d.ps [] ∧ mg d.name = some (.ref (He.ga K d.name))
  con : ∀ (x : Str) (d : MP.D), cons.lookup x = some d → ∃ u v, mg x = some u ∧ RelV v u ∧ ∀ z, z.Ok K → RD K z d v
  free : ∀ x ∈ blts, mg x = none
  ok : ∀ (d : Fd), d ∈ P → okFd (gdOf P cons) d (top d.st) = true
theorem level (hd : Hd K mg P top cons) : ∀ (k : Nat) (d : Fd) (fd : FuncData), get P d.name = some d → FunD K d.name d.name (defArgs (top d.st)) (defBody (top d.st)) (defScope (top d.st)) [] [] (He.ga K d.name) fd →
    FnOk Pr w K mg base (L2.CX Pr w) k (He.ga K d.name) fd d.ps (spF T K d.ps.length (run P k d.name))
  | 0, d, fd, hi, F => by
    have no : ∀ vs H Q E, ¬ spF T K d.ps.length (run P 0 d.name) vs H Q E := fun vs H Q E h => by
      obtain ⟨_, z, ws, _, _, _, h⟩ := h
      exact h
    exact ⟨fun vs H Q E h => absurd h (no vs H Q E), fun A outer s H args us vs Q E _ _ _ _ h => absurd h (no vs H Q E)⟩
  | k + 1, d, fd, hi, F => by
    have hok := hd.ok d (get_mem hi).1
    unfold okFd at hok
    obtain ⟨hs, hb⟩ := Bool.and_eq_true_iff.mp hok
    obtain ⟨_, hs⟩ := Bool.and_eq_true_iff.mp hs
    have sc := scope_of hs
    refine F.ok sc (fun vs H Q E h => h.1) fun cdv A outer s H vs Q E hr h => ?_
    obtain ⟨hl, z, ws, rfl, okz, rw, h⟩ := h
    have hrun : run P (k + 1) d.name ws z.S = fin z.S (exec (run P k) d.body (ws.map some ++ List.replicate (d.N.length - ws.length) none) z.S) := by
      show (match get P d.name with | some d => _ | none => _) = _
      rw [hi]
      exact if_pos (rw.length.trans hl)
    rw [hrun] at h
    refine ⟨tS T K (fun cls d _ H => E cls d H) (exec (run P k) d.body), ?_, z, _, rfl, okz, RS.start (N := d.N) rw, ?_⟩
    · refine (chkB_ok (G := gdOf P cons) (T := T) d.body).all (cxOf (L2.CX Pr w) Pr w K mg base d.N d.name (defScope (top d.st)) (He.ga K d.name) cdv A outer s z.H E) (fun cls d _ H => E cls d H) ⟨d.N, defScope (top d.st), fun _ => true⟩ ⟨⟨rfl, ?_, sc.nd, rfl, rfl, fun _ _ => rfl, takes_of rfl rfl rfl rfl, fun x n hj => ?_, hd.con, hd.free⟩, sc.kind, passes_of rfl⟩ _ hb
      · have := hr.un
        show (A.deeper _).units + 200 < cLine
        omega
      · obtain ⟨g, e, rfl⟩ := get_of hj
        obtain ⟨gm, gn⟩ := get_mem e
        subst gn
        obtain ⟨gd, G, B, M⟩ := hd.fn g gm
        refine ⟨k, _, gd, _, level hd k g gd e G, hr, M, G.kp, B, fun ws S q => ?_⟩
        cases k with
        | zero => rfl
        | succ k =>
          show (match get P g.name with | some d => _ | none => _) = _
          rw [e]
          exact if_neg q
    · cases e : exec (run P k) d.body (ws.map some ++ List.replicate (d.N.length - ws.length) none) z.S with
      | nx σ S' =>
        rw [e] at h
        intro z' σ' l ok' eS rs'
        subst eS
        exact trim_of okz l ok' (show RW K z' (.d .non) .non from rfl) h
      | rt w S' =>
        rw [e] at h
        intro z' v l ok' eS r
        subst eS
        exact trim_of okz l ok' r h
      | ex c x σ S' =>
        rw [e] at h
        exact fun z' σ' cls d l ok' eS rs xr => h z' cls d l ok' eS xr
      | no => rw [e] at h; exact h
end
/-! ### the head -/
def defD (top : Nat → Stmt) (d : Fd) : He.DefD := ⟨(d.name, none), d.name, d.name, defArgs (top d.st), defBody (top d.st), defScope (top d.st), [], []⟩
def factsOf (P : List Fd) : List He.Fa := (P.map fun d => .glo d.name) ++ blts.map .free
mutual
/-- the datum that stands for a value of the head -/
def dB (K : PySem.W.Frag) : MP.D → Value → Bool
  | .non, .none => true
  | .bl b, .bool c => b == c
  | .int i, .int j _ => i == j
  | .str x, .str y _ => x == y
  | .tup xs, .ref a => (match K.lookup a with
    | some ⟨.type c, _, .seq its _, _⟩ => decide (c = "tuple") && (decide (its.size ≤ line) && dBs K xs its.toList)
    | _ => false)
  | _, _ => false
def dBs (K : PySem.W.Frag) : List MP.D → List Value → Bool
  | [], [] => true
  | x :: xs, u :: us => dB K x u && dBs K xs us
  | _, _ => false
end
mutual
theorem dB_ok {K : PySem.W.Frag} : ∀ {d : MP.D} {u : Value}, dB K d u = true → ∃ v, RelV v u ∧ ∀ z : Z, RD K z d v
  | .non, u, h => by
    cases u <;> first | exact ⟨.non, rfl, fun _ => rfl⟩ | (simp only [dB] at h; cases h)
  | .bl b, u, h => by
    cases u <;> simp only [dB, Bool.false_eq_true] at h
    exact ⟨.bl b, by rw [beq_iff_eq.mp h]; rfl, fun _ => rfl⟩
  | .int b, u, h => by
    cases u <;> simp only [dB, Bool.false_eq_true] at h
    exact ⟨.int b, ⟨_, by rw [beq_iff_eq.mp h]⟩, fun _ => rfl⟩
  | .str b, u, h => by
    cases u <;> simp only [dB, Bool.false_eq_true] at h
    exact ⟨.str b, ⟨_, by rw [beq_iff_eq.mp h]⟩, fun _ => rfl⟩
  | .tup xs, u, h => by
    cases u with
    | ref a =>
      simp only [dB] at h
      split at h
      · rename_i c od its n sl e
        simp only [Bool.and_eq_true, decide_eq_true_eq] at h
        obtain ⟨h1, h2, h3⟩ := h
        obtain ⟨vs, r, q⟩ := dBs_ok h3
        exact ⟨.ref a, rfl, fun z => ⟨a, vs, rfl, .inr ⟨_, its, n, e, by rw [h1], rfl, le_line h2, r⟩, q z⟩⟩
      · cases h
    | _ => simp only [dB] at h; cases h
  | .lst xs, u, h => by cases u <;> simp only [dB] at h <;> cases h
theorem dBs_ok {K : PySem.W.Frag} : ∀ {ds : List MP.D} {us : List Value}, dBs K ds us = true → ∃ vs, Vals vs us ∧ ∀ z : Z, RDs K z ds vs
  | [], us, h => by
    cases us with
    | nil => exact ⟨[], .nil, fun _ => rfl⟩
    | cons _ _ => simp only [dBs] at h; cases h
  | d :: ds, us, h => by
    cases us with
    | nil => simp only [dBs] at h; cases h
    | cons u us =>
      simp only [dBs, Bool.and_eq_true] at h
      obtain ⟨v, r1, q1⟩ := dB_ok h.1
      obtain ⟨vs, r2, q2⟩ := dBs_ok h.2
      exact ⟨v :: vs, .cons r1 r2, fun z => ⟨v, vs, rfl, q1 z, q2 z⟩⟩
end
def conB (cons : List (Str × MP.D)) (K : PySem.W.Frag) : Bool := cons.all fun p => match PySem.W.nsIn K mainGlobals p.1 with
  | some (some u) => dB K p.2 u
  | _ => false
abbrev AlM : Type := He.AlD × Bool
def obsM (n : Nat) (fa : List He.Fa) (fn : List He.DefD) (ex : PySem.W.Frag → Bool) (g : Addr → Option Obj) : AlM := (He.obsD fa fn (He.frG g (He.asD g n)), ex (He.frG g (He.asD g n)))
def hookM (n : Nat) (fa : List He.Fa) (fn : List He.DefD) (ex : PySem.W.Frag → Bool) : PySem.W.Hook where
  α := AlM
  obs := fun s => obsM n fa fn ex s.heap.get?
  val := fun _ => (He.valD fn, true)
  says := fun _ h => ∃ K : PySem.W.Frag, K.In h ∧ He.SaysD fa fn K ∧ ex K = true
  of := fun _ _ e => ⟨_, He.frG_in, congrArg (fun z : AlM => z.1) e, congrArg (fun z : AlM => z.2) e⟩
  keeps := fun _ _ _ ⟨K, hK, c⟩ k => ⟨K, PySem.W.Frag.In.keeps hK k, c⟩
theorem obsM_eq {n : Nat} {fa : List He.Fa} {fn : List He.DefD} {ex : PySem.W.Frag → Bool} {g : Addr → Option Obj} {s : Shared} (h : ∀ a, g a = s.heap.get? a) : obsM n fa fn ex g = (hookM n fa fn ex).obs s := by
  have e : g = s.heap.get? := funext h
  rw [e] <;> rfl
theorem lookup_mem {α : Type} {x : Str} {d : α} : ∀ {l : List (Str × α)}, l.lookup x = some d → (x, d) ∈ l
  | [], h => by cases h
  | p :: r, h => by
    obtain ⟨n, k⟩ := p
    simp only [List.lookup] at h
    cases q : (x == n) with
    | true =>
      rw [q] at h
      cases h
      rw [beq_iff_eq.mp q]
      exact List.mem_cons_self
    | false =>
      rw [q] at h
      exact List.mem_cons_of_mem _ (lookup_mem h)
theorem facts_in {fa : List He.Fa} {fn : List He.DefD} {K : PySem.W.Frag} (c : He.SaysD fa fn K) {f : He.Fa} (h : f ∈ fa) : f.ok K = true := by
  obtain ⟨i, hi, e⟩ := List.mem_iff_getElem.mp h
  exact c.fact i (f := f) (by rw [List.getElem?_eq_getElem hi, e])
section
variable {K : PySem.W.Frag} {h : Heap} {mg : Str → Option Value} {P : List Fd} {top : Nat → Stmt} {cons : List (Str × MP.D)} {fa : List He.Fa}
theorem hd_of (X : K.In h) (Gg : h.Ns mainGlobals mg) (c : He.SaysD (factsOf P ++ fa) (P.map (defD top)) K) (cx : conB cons K = true) (ok : (P.all fun d => okFd (gdOf P cons) d (top d.st)) = true) : Hd K mg P top cons := by
  have okd : ∀ (d : Fd), d ∈ P → okFd (gdOf P cons) d (top d.st) = true := fun d hi => List.all_eq_true.mp ok d hi
  refine ⟨fun d hi => ?_, fun x d hx => ?_, fun x hx => ?_, okd⟩
  · obtain ⟨i, hi'⟩ := List.mem_iff_getElem?.mp hi
    obtain ⟨fd, F⟩ := c.def_ i (d := defD top d) (by rw [List.getElem?_map, hi']; rfl)
    have hok := okd d hi
    unfold okFd at hok
    simp only [Bool.and_eq_true, decide_eq_true_eq] at hok
    exact ⟨fd, F, FunD.bindsN F fun kV doc pm an cdv ct us hl => bind_of hok.1.1.1 hok.1.1.2 kV doc pm an cdv ct us hl, He.glo_ok X Gg (facts_in c (f := .glo d.name) (List.mem_append_left _ (List.mem_append_left _ (List.mem_map.mpr ⟨d, hi, rfl⟩))))⟩
  · have q := List.all_eq_true.mp cx (x, d) (lookup_mem hx)
    simp only at q
    split at q
    · rename_i u e
      obtain ⟨v, r, rd⟩ := dB_ok q
      exact ⟨u, v, PySem.W.mg_of X Gg e, r, fun z _ => rd z⟩
    · cases q
  · exact He.free_ok X Gg (facts_in c (f := .free x) (List.mem_append_left _ (List.mem_append_right _ (List.mem_map.mpr ⟨x, hx, rfl⟩))))
/-- a def that lets nothing out -/
theorem calm_of {Pr : Program} {w : World} {base : Heap} {k : Nat} {f : Addr} {fd : FuncData} {ps : List Str} {sp : Sp} (F : FnOk Pr w K mg base (L2.CX Pr w) k f fd ps sp) : FnOk Pr w K mg base CX0 k f fd ps (fun vs H Q _ => sp vs H Q fun _ _ _ => False) :=
  ⟨fun vs H Q E h => F.len _ _ _ _ h, fun A outer s H args us vs Q E hr he hb hv hs => codeAny_mono (F.run A outer s H args us vs Q _ hr he hb hv hs) fun r s' h => by
    cases r with
    | ok fl => cases fl <;> exact h
    | error e =>
      obtain ⟨_, _, _, _, _, _, _, _, _, _, _, _, z⟩ := h
      exact z.elim⟩
/-- the law's end -/
theorem law_of {Pr : Program} {w : World} {T : XTab} {k : Nat} {d : Fd} {x : Str} (X : K.In h) (Gg : h.Ns mainGlobals mg) (hd : Hd K mg P top cons) (hi : get P d.name = some d) (hx : d.ps = [x]) {f : Addr} (hf : mg d.name = some (.ref f))
    (law : ∀ ns : List Int, ns.length ≤ 63 → ∃ S', run P k d.name [.scr (ns.map .int)] [] = .ok (.d (.bl true)) S') :
    ∃ (fd : FuncData) (sp : Sp), (∀ (s : Shared) (v : Value), BindsTo s fd ⟨[v], []⟩ [(x, v)]) ∧ (∀ (H : Hp) (a : Addr) (ns : List Int), ns.length ≤ 63 → Only H → SqL K H a (ns.map V.int) → sp [.ref a] H (fun v _ => v = .bl true) fun _ _ _ => False) ∧
      ∀ base : Heap, K.In base → base.Ns mainGlobals mg → FnOk Pr w K mg base CX0 k f fd [x] sp := by
  obtain ⟨fd, F, B, M⟩ := hd.fn d (get_mem hi).1
  have e := hf.symm.trans M
  cases e
  have hok := hd.ok d (get_mem hi).1
  unfold okFd at hok
  simp only [Bool.and_eq_true, decide_eq_true_eq] at hok
  refine ⟨fd, fun vs H Q _ => spF T K 1 (run P k d.name) vs H Q fun _ _ _ => False, fun s v => ?_, fun H a ns hl _ hS => ?_, fun base _ _ => ?_⟩
  · have b := FunD.bindsA (ps := d.ps) F (fun kV doc pm an cdv ct us hl => bind_of hok.1.1.1 hok.1.1.2 kV doc pm an cdv ct us hl) s [v] (by rw [hx]; rfl)
    rw [hx] at b
    exact b
  · obtain ⟨S', hr⟩ := law ns hl
    have nm : ∀ a, ¬ (Z.mk [] [] H (fun _ => False)).Mu a := fun a m => by
      rcases m with ⟨n, o, e, _⟩ | m
      · cases e
      · exact m
    refine ⟨rfl, Z.mk [] [] H (fun _ => False), [.scr (ns.map .int)], rfl, ⟨rfl, fun n o e => (by cases e), fun n m o u b e => (by cases e), fun n ws m e => (by cases e), fun b hb => hb.elim⟩, ⟨.ref a, [], rfl, ⟨a, ns.map V.int, rfl, ?_, ?_⟩, rfl⟩, ?_⟩
    · rcases hS with q | q
      · exact .inl ⟨q, nm a⟩
      · exact .inr q
    · induction ns with
      | nil => exact rfl
      | cons n ns ih =>
        refine ⟨.int n, ns.map V.int, rfl, rfl, ?_⟩
        clear hr ih hS hl
        induction ns with
        | nil => exact rfl
        | cons m ns ih => exact ⟨.int m, ns.map V.int, rfl, rfl, ih⟩
    · show (match run P k d.name [.scr (ns.map .int)] [] with | _ => _)
      rw [hr]
      exact fun z' v _ _ _ r => r
  · have q := level (Pr := Pr) (w := w) (base := base) (T := T) hd k d fd hi F
    rw [hx] at q
    exact calm_of q
end
end MP
end

section
set_option maxHeartbeats 4000000
namespace MP.B
open PySem MP
def b__law_box : S := (.seq (.asg (.v 2) (.ite (.cmp .lt (.v 1) (.prim .len false (.cons (.v 0) .nil))) (.idx (.v 0) (.v 1)) (.c (.int 0))))
    (.seq (.ret (.lst true (.cons (.bin .mul false (.prim .abs false (.cons (.v 2) .nil)) (.prim .int false (.cons (.cmp .ge (.prim .abs false (.cons (.v 2) .nil)) (.bin .pow false (.c (.int 10)) (.c (.int 18)))) .nil))) (.cons (.bin .add false (.bin .add false (.bin .mod false (.prim .int false (.cons (.v 2) .nil)) (.c (.int 2305843009213693951))) (.bin .mul false (.c (.int 39373)) (.v 1))) (.c (.int 2631902))) (.cons (.c (.int 0)) .nil)))))
    .skip))
abbrev H__law_box (P : List Fd) : Prop := Has P "_law_box" ["script", "k"] ["script", "k", "cell"] b__law_box
def b__law_cells : S := (.seq (.asg (.v 2) (.orT (.prim .list true (.cons (.sl false (.v 0) .none (.some (.v 1))) .nil)) (.lst true (.cons (.c (.int 0)) .nil))))
    (.seq (.for_ .enu (.cons (.sl false (.v 0) (.some (.v 1)) (.some (.c (.int 63)))) .nil) (.t [3, 4])
    (.seq (.asg (.v 5) (.bin .mod false (.prim .int false (.cons (.v 3) .nil)) (.v 1)))
    (.seq (.setI (.v 2) (.v 5) (.bin .add false (.idx (.v 2) (.v 5)) (.bin .mul false (.v 4) (.bin .add false (.v 3) (.c (.int 2))))))
    .skip)))
    (.seq (.frz 2)
    (.seq (.ret (.v 2))
    .skip))))
abbrev H__law_cells (P : List Fd) : Prop := Has P "_law_cells" ["script", "top_so"] ["script", "top_so", "cells_so", "k", "cell", "at_so"] b__law_cells
def b__law_holes : S := (.seq (.ret (.ite (.cmp .eq (.v 0) (.tup .nil)) (.c (.int 1)) (.prim .sum false (.cons (.comp false .val (.cons (.sl false (.v 0) (.some (.c (.int 1))) .none) .nil) (.v 1) [1] .none (.call "_law_holes" (.cons (.v 1) .nil))) .nil))))
    .skip)
abbrev H__law_holes (P : List Fd) : Prop := Has P "_law_holes" ["own"] ["own", "part"] b__law_holes
def b__law_levels : S := (.seq (.asg (.v 1) (.lst false .nil))
    (.seq (.for_ .rng (.cons (.c (.int 60)) .nil) (.v 2)
    (.seq (.ite (.cmp .ne (.v 0) (.tup .nil))
    (.seq (.asg (.v 3) (.idx (.comp false .rng (.cons (.c (.int 1)) (.cons (.prim .len false (.cons (.v 0) .nil)) .nil)) (.v 4) [4] (.some (.cmp .gt (.call "_law_holes" (.cons (.idx (.v 0) (.v 4)) .nil)) (.c (.int 0)))) (.v 4)) (.c (.int 0))))
    (.seq (.asg (.v 1) (.bin .add false (.v 1) (.lst false (.cons (.bin .add false (.bin .add false (.sl false (.v 0) .none (.some (.v 3))) (.tup (.cons (.tup .nil) .nil))) (.sl false (.v 0) (.some (.bin .add false (.v 3) (.c (.int 1)))) .none)) .nil))))
    (.seq (.asg (.v 0) (.idx (.v 0) (.v 3)))
    .skip)))
    .skip)
    .skip))
    (.seq (.ret (.v 1))
    .skip)))
abbrev H__law_levels (P : List Fd) : Prop := Has P "_law_levels" ["frame"] ["frame", "found", "turn", "k", "j"] b__law_levels
def b_has_hole : S := (.seq (.ret (.or (.cmp .eq (.v 0) (.g "HOLE" (.tup []))) (.prim .any false (.cons (.comp false .val (.cons (.sl false (.v 0) (.some (.c (.int 1))) .none) .nil) (.v 1) [1] .none (.call "has_hole" (.cons (.v 1) .nil))) .nil))))
    .skip)
abbrev H_has_hole (P : List Fd) : Prop := Has P "has_hole" ["own"] ["own", "part"] b_has_hole
def b_hole_number : S := (.seq (.ret (.idx (.comp false .rng (.cons (.c (.int 1)) (.cons (.prim .len false (.cons (.v 0) .nil)) .nil)) (.v 1) [1] (.some (.call "has_hole" (.cons (.idx (.v 0) (.v 1)) .nil))) (.v 1)) (.c (.int 0))))
    .skip)
abbrev H_hole_number (P : List Fd) : Prop := Has P "hole_number" ["frame"] ["frame", "k"] b_hole_number
def b_levels_of : S := (.seq (.asg (.v 1) (.lst true .nil))
    (.seq (.while_ (.cmp .ne (.v 0) (.g "HOLE" (.tup [])))
    (.seq (.asg (.v 2) (.call "hole_number" (.cons (.v 0) .nil)))
    (.seq (.exp (.meth .append (.v 1) (.cons (.bin .add false (.bin .add false (.sl false (.v 0) .none (.some (.v 2))) (.tup (.cons (.g "HOLE" (.tup [])) .nil))) (.sl false (.v 0) (.some (.bin .add false (.v 2) (.c (.int 1)))) .none)) .nil)))
    (.seq (.asg (.v 0) (.idx (.v 0) (.v 2)))
    .skip))))
    (.seq (.frz 1)
    (.seq (.ret (.v 1))
    .skip))))
abbrev H_levels_of (P : List Fd) : Prop := Has P "levels_of" ["frame"] ["frame", "found", "k"] b_levels_of
def b_tuple_of : S := (.seq (.ite (.isi [.list, .tuple] (.v 0))
    (.seq (.ret (.prim .tuple false (.cons (.comp false .val (.cons (.v 0) .nil) (.v 1) [1] .none (.call "tuple_of" (.cons (.v 1) .nil))) .nil)))
    .skip)
    .skip)
    (.seq (.ret (.v 0))
    .skip))
abbrev H_tuple_of (P : List Fd) : Prop := Has P "tuple_of" ["thing"] ["thing", "part"] b_tuple_of
def b_sure : S := (.seq (.ite (.nt (.v 0))
    (.seq .no
    .skip)
    .skip)
    .skip)
abbrev H_sure (P : List Fd) : Prop := Has P "sure" ["flag"] ["flag"] b_sure
def b_is_name : S := (.seq (.ret (.and (.isi [.str] (.v 0)) (.and (.chain .le .le (.c (.int 1)) (.prim .len false (.cons (.v 0) .nil)) (.g "MOST_NAME" (.int 8))) (.prim .all false (.cons (.comp false .val (.cons (.v 0) .nil) (.v 1) [1] .none (.cmp .in_ (.v 1) (.g "SMALL" (.str "abcdefghijklmnopqrstuvwxyz")))) .nil)))))
    .skip)
abbrev H_is_name (P : List Fd) : Prop := Has P "is_name" ["thing"] ["thing", "sign"] b_is_name
def b_holes_in : S := (.seq (.ite (.and (.cmp .eq (.v 0) (.g "HOLE" (.tup []))) (.isi [.tuple] (.v 0)))
    (.seq (.ret (.c (.int 1)))
    .skip)
    .skip)
    (.seq (.ite (.or (.nt (.isi [.tuple] (.v 0))) (.or (.nt (.chain .le .le (.c (.int 1)) (.prim .len false (.cons (.v 0) .nil)) (.bin .add false (.g "MOST_PARTS" (.int 3)) (.c (.int 1))))) (.nt (.call "is_name" (.cons (.idx (.v 0) (.c (.int 0))) .nil)))))
    (.seq (.ret (.c .non))
    .skip)
    .skip)
    (.seq (.asg (.v 1) (.comp false .val (.cons (.sl false (.v 0) (.some (.c (.int 1))) .none) .nil) (.v 2) [2] .none (.call "holes_in" (.cons (.v 2) .nil))))
    (.seq (.ret (.ite (.cmp .in_ (.c .non) (.v 1)) (.c .non) (.prim .sum false (.cons (.v 1) .nil))))
    .skip))))
abbrev H_holes_in (P : List Fd) : Prop := Has P "holes_in" ["thing"] ["thing", "some", "part"] b_holes_in
def b_is_frame : S := (.seq (.ret (.cmp .eq (.call "holes_in" (.cons (.v 0) .nil)) (.c (.int 1))))
    .skip)
abbrev H_is_frame (P : List Fd) : Prop := Has P "is_frame" ["thing"] ["thing"] b_is_frame
def b_made_size : S := (.seq (.ret (.ite (.cmp .ne (.v 0) (.g "HOLE" (.tup []))) (.bin .add false (.c (.int 1)) (.prim .sum false (.cons (.comp false .val (.cons (.sl false (.v 0) (.some (.c (.int 1))) .none) .nil) (.v 1) [1] .none (.call "made_size" (.cons (.v 1) .nil))) .nil))) (.c (.int 0))))
    .skip)
abbrev H_made_size (P : List Fd) : Prop := Has P "made_size" ["own"] ["own", "part"] b_made_size
def b_sure_frame : S := (.seq (.asg (.v 1) (.call "tuple_of" (.cons (.v 0) .nil)))
    (.seq (.exp (.call "sure" (.cons (.and (.call "is_frame" (.cons (.v 1) .nil)) (.cmp .le (.call "made_size" (.cons (.v 1) .nil)) (.g "MOST_SIZE" (.int 60)))) .nil)))
    (.seq (.ret (.v 1))
    .skip)))
abbrev H_sure_frame (P : List Fd) : Prop := Has P "sure_frame" ["frame"] ["frame", "own"] b_sure_frame
def b_made_filled : S := (.seq (.ite (.cmp .eq (.v 0) (.g "HOLE" (.tup [])))
    (.seq (.ret (.v 1))
    .skip)
    .skip)
    (.seq (.asg (.v 2) (.call "hole_number" (.cons (.v 0) .nil)))
    (.seq (.ret (.bin .add false (.bin .add false (.sl false (.v 0) .none (.some (.v 2))) (.tup (.cons (.call "made_filled" (.cons (.idx (.v 0) (.v 2)) (.cons (.v 1) .nil))) .nil))) (.sl false (.v 0) (.some (.bin .add false (.v 2) (.c (.int 1)))) .none)))
    .skip)))
abbrev H_made_filled (P : List Fd) : Prop := Has P "made_filled" ["frame", "own"] ["frame", "own", "k"] b_made_filled
def b_put_together : S := (.seq (.asg (.v 1) (.g "HOLE" (.tup [])))
    (.seq (.for_ .val (.cons (.rev false (.v 0)) .nil) (.v 2)
    (.seq (.asg (.v 1) (.call "made_filled" (.cons (.v 2) (.cons (.v 1) .nil))))
    .skip))
    (.seq (.ret (.v 1))
    .skip)))
abbrev H_put_together (P : List Fd) : Prop := Has P "put_together" ["levels"] ["levels", "found", "level"] b_put_together
def b_root_of : S := (.seq (.asg (.v 1) (.call "levels_of" (.cons (.call "sure_frame" (.cons (.v 0) .nil)) .nil)))
    (.seq (.for_ .rng (.cons (.c (.int 1)) (.cons (.bin .add false (.prim .len false (.cons (.v 1) .nil)) (.c (.int 1))) .nil)) (.v 2)
    (.seq (.ite (.and (.cmp .eq (.bin .mod false (.prim .len false (.cons (.v 1) .nil)) (.v 2)) (.c (.int 0))) (.cmp .eq (.bin .mul false (.sl false (.v 1) .none (.some (.v 2))) (.bin .fdiv false (.prim .len false (.cons (.v 1) .nil)) (.v 2))) (.v 1)))
    (.seq (.ret (.tup (.cons (.call "put_together" (.cons (.sl false (.v 1) .none (.some (.v 2))) .nil)) (.cons (.bin .fdiv false (.prim .len false (.cons (.v 1) .nil)) (.v 2)) .nil))))
    .skip)
    .skip)
    .skip))
    (.seq (.ret (.tup (.cons (.g "HOLE" (.tup [])) (.cons (.c (.int 0)) .nil))))
    .skip)))
abbrev H_root_of (P : List Fd) : Prop := Has P "root_of" ["frame"] ["frame", "levels", "size"] b_root_of
def b_made_power : S := (.seq (.ret (.call "put_together" (.cons (.bin .mul false (.call "levels_of" (.cons (.v 0) .nil)) (.v 1)) .nil)))
    .skip)
abbrev H_made_power (P : List Fd) : Prop := Has P "made_power" ["frame", "many"] ["frame", "many"] b_made_power
def b_is_number : S := (.seq (.ret (.and (.isi [.int] (.v 0)) (.nt (.isi [.bool] (.v 0)))))
    .skip)
abbrev H_is_number (P : List Fd) : Prop := Has P "is_number" ["thing"] ["thing"] b_is_number
def b_is_between : S := (.seq (.ret (.and (.call "is_number" (.cons (.v 0) .nil)) (.chain .le .le (.v 1) (.v 0) (.v 2))))
    .skip)
abbrev H_is_between (P : List Fd) : Prop := Has P "is_between" ["thing", "least", "most"] ["thing", "least", "most"] b_is_between
def b_power_of : S := (.seq (.asg (.v 2) (.call "sure_frame" (.cons (.v 0) .nil)))
    (.seq (.exp (.call "sure" (.cons (.call "is_between" (.cons (.v 1) (.cons (.c (.int 0)) (.cons (.g "MOST_POWER" (.int 20)) .nil)))) .nil)))
    (.seq (.ret (.call "made_power" (.cons (.v 2) (.cons (.v 1) .nil))))
    .skip)))
abbrev H_power_of (P : List Fd) : Prop := Has P "power_of" ["frame", "many"] ["frame", "many", "own"] b_power_of
def b__law_same : S := (.seq (.ite (.isi [.list, .tuple] (.v 1))
    (.seq (.ite (.or (.cmp .ne (.isi [.list] (.v 0)) (.isi [.list] (.v 1))) (.cmp .ne (.isi [.tuple] (.v 0)) (.isi [.tuple] (.v 1))))
    (.seq (.ret (.c (.bl false)))
    .skip)
    .skip)
    (.seq (.ret (.and (.cmp .eq (.prim .len false (.cons (.v 0) .nil)) (.prim .len false (.cons (.v 1) .nil))) (.prim .all false (.cons (.comp false .zip (.cons (.v 0) (.cons (.v 1) .nil)) (.t [2, 3]) [2, 3] .none (.call "_law_same" (.cons (.v 2) (.cons (.v 3) .nil)))) .nil))))
    .skip))
    .skip)
    (.seq (.ite (.or (.cmp .is_ (.v 1) (.c .non)) (.isi [.bool, .str] (.v 1)))
    (.seq (.ret (.and (.cmp .eq (.v 0) (.v 1)) (.and (.cmp .eq (.isi [.bool] (.v 0)) (.isi [.bool] (.v 1))) (.cmp .eq (.cmp .is_ (.v 0) (.c .non)) (.cmp .is_ (.v 1) (.c .non))))))
    .skip)
    .skip)
    (.seq (.ret (.and (.isi [.int] (.v 0)) (.and (.nt (.isi [.bool] (.v 0))) (.cmp .eq (.v 0) (.v 1)))))
    .skip)))
abbrev H__law_same (P : List Fd) : Prop := Has P "_law_same" ["got", "due"] ["got", "due", "mine", "its"] b__law_same
def b__law_take : S := (.seq (.ite (.cmp .gt (.idx (.v 0) (.c (.int 0))) (.c (.int 0)))
    (.seq (.asg (.v 5) (.bin .mod false (.prim .int false (.cons (.idx (.v 0) (.c (.int 0))) .nil)) (.v 1)))
    (.seq (.setI (.v 0) (.c (.int 0)) (.bin .fdiv false (.idx (.v 0) (.c (.int 0))) (.v 1)))
    (.seq (.ret (.v 5))
    .skip)))
    .skip)
    (.seq (.setI (.v 0) (.c (.int 2)) (.bin .add false (.idx (.v 0) (.c (.int 2))) (.c (.int 1))))
    (.seq (.asg (.v 2) (.bin .mod false (.prim .int false (.cons (.bin .mul false (.bin .add false (.idx (.v 0) (.c (.int 1))) (.bin .mul false (.c (.int 48271)) (.idx (.v 0) (.c (.int 2))))) (.bin .add false (.c (.int 39373)) (.idx (.v 0) (.c (.int 2))))) .nil)) (.c (.int 2147483647))))
    (.seq (.asg (.v 3) (.bin .add false (.bin .mod false (.prim .int false (.cons (.v 2) .nil)) (.c (.int 40009))) (.c (.int 7))))
    (.seq (.asg (.v 4) (.bin .mod false (.prim .int false (.cons (.bin .mul false (.bin .add false (.bin .add false (.v 2) (.idx (.v 0) (.c (.int 2)))) (.bin .fdiv false (.idx (.v 0) (.c (.int 1))) (.c (.int 1000003)))) (.v 3)) .nil)) (.c (.int 2147483629))))
    (.seq (.ret (.bin .mod false (.prim .int false (.cons (.bin .fdiv false (.bin .mod false (.prim .int false (.cons (.bin .add false (.bin .mul false (.v 4) (.c (.int 48271))) (.v 2)) .nil)) (.c (.int 2147483587))) (.c (.int 64))) .nil)) (.v 1)))
    .skip))))))
abbrev H__law_take (P : List Fd) : Prop := Has P "_law_take" ["box", "size_so"] ["box", "size_so", "once", "far", "twice", "drawn"] b__law_take
def b__law_of : S := (.seq (.ret (.idx (.v 1) (.call "_law_take" (.cons (.v 0) (.cons (.prim .len false (.cons (.v 1) .nil)) .nil)))))
    .skip)
abbrev H__law_of (P : List Fd) : Prop := Has P "_law_of" ["box", "pool_so"] ["box", "pool_so"] b__law_of
def b__law_term : S := (.seq (.ite (.or (.cmp .lt (.v 1) (.c (.int 2))) (.cmp .eq (.call "_law_take" (.cons (.v 0) (.cons (.c (.int 4)) .nil))) (.c (.int 0))))
    (.seq (.ret (.tup (.cons (.call "_law_of" (.cons (.v 0) (.cons (.lst false (.cons (.c (.str "a")) (.cons (.c (.str "b")) .nil))) .nil))) .nil)))
    .skip)
    .skip)
    (.seq (.asg (.v 2) (.call "_law_take" (.cons (.v 0) (.cons (.c (.int 5)) .nil))))
    (.seq (.ite (.or (.cmp .lt (.v 1) (.c (.int 3))) (.cmp .lt (.v 2) (.c (.int 2))))
    (.seq (.ret (.tup (.cons (.call "_law_of" (.cons (.v 0) (.cons (.lst false (.cons (.c (.str "g")) (.cons (.c (.str "h")) .nil))) .nil))) (.cons (.call "_law_term" (.cons (.v 0) (.cons (.bin .sub false (.v 1) (.c (.int 1))) .nil))) .nil))))
    .skip)
    .skip)
    (.seq (.ite (.and (.cmp .gt (.v 1) (.c (.int 3))) (.cmp .eq (.v 2) (.c (.int 4))))
    (.seq (.asg (.v 3) (.call "_law_term" (.cons (.v 0) (.cons (.bin .fdiv false (.bin .sub false (.v 1) (.c (.int 1))) (.c (.int 3))) .nil))))
    (.seq (.ret (.tup (.cons (.c (.str "k")) (.cons (.v 3) (.cons (.call "_law_term" (.cons (.v 0) (.cons (.bin .fdiv false (.bin .sub false (.v 1) (.c (.int 1))) (.c (.int 3))) .nil))) (.cons (.call "_law_term" (.cons (.v 0) (.cons (.bin .fdiv false (.bin .sub false (.v 1) (.c (.int 1))) (.c (.int 3))) .nil))) .nil))))))
    .skip))
    .skip)
    (.seq (.asg (.v 3) (.call "_law_term" (.cons (.v 0) (.cons (.bin .fdiv false (.bin .sub false (.v 1) (.c (.int 1))) (.c (.int 2))) .nil))))
    (.seq (.ret (.tup (.cons (.c (.str "f")) (.cons (.v 3) (.cons (.call "_law_term" (.cons (.v 0) (.cons (.bin .fdiv false (.bin .sub false (.v 1) (.c (.int 1))) (.c (.int 2))) .nil))) .nil)))))
    .skip))))))
abbrev H__law_term (P : List Fd) : Prop := Has P "_law_term" ["box", "size"] ["box", "size", "kind", "first"] b__law_term
def b__law_frame : S := (.seq (.ite (.or (.cmp .lt (.v 1) (.c (.int 1))) (.cmp .eq (.call "_law_take" (.cons (.v 0) (.cons (.c (.int 5)) .nil))) (.c (.int 0))))
    (.seq (.ret (.tup .nil))
    .skip)
    .skip)
    (.seq (.asg (.v 2) (.call "_law_take" (.cons (.v 0) (.cons (.c (.int 4)) .nil))))
    (.seq (.ite (.or (.cmp .lt (.v 1) (.c (.int 2))) (.cmp .lt (.v 2) (.c (.int 2))))
    (.seq (.ret (.tup (.cons (.call "_law_of" (.cons (.v 0) (.cons (.lst false (.cons (.c (.str "g")) (.cons (.c (.str "h")) .nil))) .nil))) (.cons (.call "_law_frame" (.cons (.v 0) (.cons (.bin .sub false (.v 1) (.c (.int 1))) .nil))) .nil))))
    .skip)
    .skip)
    (.seq (.par [3, 4] (.cons (.call "_law_frame" (.cons (.v 0) (.cons (.bin .fdiv false (.bin .sub false (.v 1) (.c (.int 1))) (.c (.int 2))) .nil))) (.cons (.call "_law_term" (.cons (.v 0) (.cons (.ite (.cmp .gt (.v 1) (.c (.int 2))) (.bin .fdiv false (.bin .sub false (.v 1) (.c (.int 1))) (.c (.int 2))) (.c (.int 1))) .nil))) .nil)))
    (.seq (.ret (.ite (.cmp .eq (.v 2) (.c (.int 2))) (.tup (.cons (.c (.str "f")) (.cons (.v 3) (.cons (.v 4) .nil)))) (.tup (.cons (.c (.str "f")) (.cons (.v 4) (.cons (.v 3) .nil))))))
    .skip)))))
abbrev H__law_frame (P : List Fd) : Prop := Has P "_law_frame" ["box", "size"] ["box", "size", "kind", "inner", "side"] b__law_frame
def b__law_fill : S := (.seq (.ite (.cmp .eq (.v 0) (.tup .nil))
    (.seq (.ret (.v 1))
    .skip)
    .skip)
    (.seq (.ret (.bin .add false (.tup (.cons (.idx (.v 0) (.c (.int 0))) .nil)) (.prim .tuple false (.cons (.comp false .val (.cons (.sl false (.v 0) (.some (.c (.int 1))) .none) .nil) (.v 2) [2] .none (.ite (.cmp .gt (.call "_law_holes" (.cons (.v 2) .nil)) (.c (.int 0))) (.call "_law_fill" (.cons (.v 2) (.cons (.v 1) .nil))) (.v 2))) .nil))))
    .skip))
abbrev H__law_fill (P : List Fd) : Prop := Has P "_law_fill" ["frame", "own"] ["frame", "own", "part"] b__law_fill
def b_commute : S := (.seq (.par [2, 3] (.cons (.call "sure_frame" (.cons (.v 0) .nil)) (.cons (.call "sure_frame" (.cons (.v 1) .nil)) .nil)))
    (.seq (.ret (.cmp .eq (.call "made_filled" (.cons (.v 2) (.cons (.v 3) .nil))) (.call "made_filled" (.cons (.v 3) (.cons (.v 2) .nil)))))
    .skip))
abbrev H_commute (P : List Fd) : Prop := Has P "commute" ["one", "other"] ["one", "other", "near", "far"] b_commute
def b_put_in : S := (.seq (.asg (.v 2) (.call "sure_frame" (.cons (.v 0) .nil)))
    (.seq (.ret (.call "made_filled" (.cons (.v 2) (.cons (.call "sure_frame" (.cons (.v 1) .nil)) .nil))))
    .skip))
abbrev H_put_in (P : List Fd) : Prop := Has P "put_in" ["one", "other"] ["one", "other", "near"] b_put_in
def b_frame_size : S := (.seq (.ret (.call "made_size" (.cons (.call "sure_frame" (.cons (.v 0) .nil)) .nil)))
    .skip)
abbrev H_frame_size (P : List Fd) : Prop := Has P "frame_size" ["frame"] ["frame"] b_frame_size
def b__law_size : S := (.seq (.ret (.ite (.cmp .eq (.v 0) (.tup .nil)) (.c (.int 0)) (.bin .add false (.c (.int 1)) (.prim .sum false (.cons (.comp false .val (.cons (.sl false (.v 0) (.some (.c (.int 1))) .none) .nil) (.v 1) [1] .none (.call "_law_size" (.cons (.v 1) .nil))) .nil)))))
    .skip)
abbrev H__law_size (P : List Fd) : Prop := Has P "_law_size" ["own"] ["own", "part"] b__law_size
def b__law_right : S := (.seq (.par [9, 10] (.cons (.call "_law_frame" (.cons (.v 0) (.cons (.c (.int 4)) .nil))) (.cons (.call "_law_frame" (.cons (.v 0) (.cons (.c (.int 4)) .nil))) .nil)))
    (.seq (.par [11, 12] (.cons (.call "_law_take" (.cons (.v 0) (.cons (.c (.int 5)) .nil))) (.cons (.bin .add false (.c (.int 1)) (.call "_law_take" (.cons (.v 0) (.cons (.c (.int 4)) .nil)))) .nil)))
    (.seq (.asg (.v 1) (.tup .nil))
    (.seq (.for_ .rng (.cons (.v 11) .nil) (.v 2)
    (.seq (.asg (.v 1) (.call "_law_fill" (.cons (.v 9) (.cons (.v 1) .nil))))
    .skip))
    (.seq (.ite (.nt (.call "_law_same" (.cons (.lst false (.cons (.call "power_of" (.cons (.v 9) (.cons (.v 11) .nil))) (.cons (.call "frame_size" (.cons (.call "power_of" (.cons (.v 9) (.cons (.v 11) .nil))) .nil)) .nil))) (.cons (.lst false (.cons (.v 1) (.cons (.bin .mul false (.v 11) (.call "_law_size" (.cons (.v 9) .nil))) .nil))) .nil))))
    (.seq (.ret (.c (.bl false)))
    .skip)
    .skip)
    (.seq (.asg (.v 3) (.call "_law_levels" (.cons (.v 1) .nil)))
    (.seq (.asg (.v 4) (.comp false .rng (.cons (.c (.int 1)) (.cons (.bin .add false (.prim .len false (.cons (.v 3) .nil)) (.c (.int 1))) .nil)) (.v 17) [17] (.some (.and (.cmp .eq (.bin .mul false (.bin .fdiv false (.prim .len false (.cons (.v 3) .nil)) (.v 17)) (.v 17)) (.prim .len false (.cons (.v 3) .nil))) (.cmp .eq (.bin .mul false (.sl false (.v 3) .none (.some (.v 17))) (.bin .fdiv false (.prim .len false (.cons (.v 3) .nil)) (.v 17))) (.v 3)))) (.v 17)))
    (.seq (.asg (.t [13, 14]) (.call "root_of" (.cons (.v 1) .nil)))
    (.seq (.ite (.cmp .eq (.v 3) (.lst false .nil))
    (.seq (.ret (.call "_law_same" (.cons (.lst false (.cons (.v 13) (.cons (.v 14) (.cons (.call "commute" (.cons (.v 1) (.cons (.v 10) .nil))) .nil)))) (.cons (.lst false (.cons (.tup .nil) (.cons (.c (.int 0)) (.cons (.c (.bl true)) .nil)))) .nil))))
    .skip)
    .skip)
    (.seq (.ite (.nt (.call "_law_same" (.cons (.lst false (.cons (.call "_law_levels" (.cons (.v 13) .nil)) (.cons (.v 14) (.cons (.call "power_of" (.cons (.v 13) (.cons (.v 14) .nil))) .nil)))) (.cons (.lst false (.cons (.sl false (.v 3) .none (.some (.idx (.v 4) (.c (.int 0))))) (.cons (.bin .fdiv false (.prim .len false (.cons (.v 3) .nil)) (.idx (.v 4) (.c (.int 0)))) (.cons (.v 1) .nil)))) .nil))))
    (.seq (.ret (.c (.bl false)))
    .skip)
    .skip)
    (.seq (.ite (.nt (.call "_law_same" (.cons (.call "root_of" (.cons (.v 13) .nil)) (.cons (.tup (.cons (.v 13) (.cons (.c (.int 1)) .nil))) .nil))))
    (.seq (.ret (.c (.bl false)))
    .skip)
    .skip)
    (.seq (.asg (.v 5) (.call "power_of" (.cons (.v 13) (.cons (.v 12) .nil))))
    (.seq (.asg (.v 6) (.lst false (.cons (.call "commute" (.cons (.v 1) (.cons (.v 5) .nil))) (.cons (.call "commute" (.cons (.v 5) (.cons (.v 1) .nil))) (.cons (.cmp .eq (.call "put_in" (.cons (.v 1) (.cons (.v 5) .nil))) (.call "put_in" (.cons (.v 5) (.cons (.v 1) .nil)))) .nil)))))
    (.seq (.ite (.nt (.call "_law_same" (.cons (.v 6) (.cons (.lst false (.cons (.c (.bl true)) (.cons (.c (.bl true)) (.cons (.c (.bl true)) .nil)))) .nil))))
    (.seq (.ret (.c (.bl false)))
    .skip)
    .skip)
    (.seq (.par [15, 16] (.cons (.call "_law_levels" (.cons (.v 10) .nil)) (.cons (.v 3) .nil)))
    (.seq (.asg (.v 7) (.cmp .eq (.bin .add false (.v 15) (.v 16)) (.bin .add false (.v 16) (.v 15))))
    (.seq (.asg (.v 8) (.or (.cmp .eq (.v 10) (.tup .nil)) (.cmp .eq (.idx (.call "root_of" (.cons (.v 10) .nil)) (.c (.int 0))) (.v 13))))
    (.seq (.ret (.call "_law_same" (.cons (.lst false (.cons (.call "commute" (.cons (.v 10) (.cons (.v 1) .nil))) (.cons (.v 8) .nil))) (.cons (.lst false (.cons (.v 7) (.cons (.v 7) .nil))) .nil))))
    .skip))))))))))))))))))
abbrev H__law_right (P : List Fd) : Prop := Has P "_law_right" ["box"] ["box", "power", "turn", "levels", "periods", "near", "got", "alike", "roots", "frame", "other", "many", "far", "root", "often", "one", "two", "k"] b__law_right
def b_law : S := (.seq (.asg (.v 1) (.call "_law_box" (.cons (.call "_law_cells" (.cons (.v 0) (.cons (.c (.int 1)) .nil))) (.cons (.c (.int 0)) .nil))))
    (.seq (.ret (.and (.call "_law_right" (.cons (.v 1) .nil)) (.call "_law_right" (.cons (.v 1) .nil))))
    .skip))
abbrev H_law (P : List Fd) : Prop := Has P "law" ["script"] ["script", "box"] b_law
end MP.B
end

section
set_option maxHeartbeats 4000000
namespace MP
open PySem
/-! ### running the text in Lean: equations for simp -/
section
variable {α β : Type} {cl : Calls} {σ : St} {S S1 : Store} {w u : W} {ws us : List W} {a b c r e : E} {s t : MP.S}
@[simp] theorem bind_ok {x : α} {f : α → Store → R β} : (R.ok x S).bind f = f x S := (rfl)
@[simp] theorem bind_no {f : α → Store → R β} : (R.no : R α).bind f = .no := (rfl)
@[simp] theorem bind_ex {k : Nat} {x : MP.D} {f : α → Store → R β} : (R.ex k x S : R α).bind f = .ex k x S := (rfl)
@[simp] theorem toF_ok {x : α} {f : α → Store → F} : (R.ok x S).toF σ f = f x S := (rfl)
@[simp] theorem toF_no {f : α → Store → F} : (R.no : R α).toF σ f = .no := (rfl)
@[simp] theorem toF_ex {k : Nat} {x : MP.D} {f : α → Store → F} : (R.ex k x S : R α).toF σ f = .ex k x σ S := (rfl)
def F.seq (r : F) (f : FS) : F := match r with
  | .nx σ S => f σ S
  | r => r
@[simp] theorem seq_nx {f : FS} : (F.nx σ S).seq f = f σ S := (rfl)
@[simp] theorem seq_rt {f : FS} : (F.rt w S).seq f = .rt w S := (rfl)
@[simp] theorem seq_ex {f : FS} {k : Nat} {x : MP.D} : (F.ex k x σ S).seq f = .ex k x σ S := (rfl)
@[simp] theorem seq_no {f : FS} : F.no.seq f = .no := (rfl)
theorem seq_ite {p : Prop} [Decidable p] {x y : F} {f : FS} : (if p then x else y).seq f = if p then x.seq f else y.seq f := by split <;> rfl
@[simp] theorem fin_nx : fin S (.nx σ S1) = .ok (.d .non) (trim S.length (.d .non) S1) := (rfl)
@[simp] theorem fin_rt : fin S (.rt w S1) = .ok w (trim S.length w S1) := (rfl)
@[simp] theorem fin_no : fin S .no = .no := (rfl)
@[simp] theorem fin_ex {k : Nat} {x : MP.D} : fin S (.ex k x σ S1) = .ex k x S1 := (rfl)
theorem trim_same {x : MP.D} : trim S.length (.d x) S = S := by
  unfold trim
  simp
@[simp] theorem trim_same' {x : MP.D} {n : Nat} (h : S.length = n) : trim n (.d x) S = S := by subst h; exact trim_same
/-! statements -/
@[simp] theorem x_seq : exec cl (.seq s t) σ S = (exec cl s σ S).seq (exec cl t) := by
  show sSeq _ _ σ S = _
  unfold sSeq F.seq
  rfl
@[simp] theorem x_skip : exec cl .skip σ S = .nx σ S := (rfl)
def kAsg (tg : Tg) (σ : St) : W → Store → F := fun w S1 => tgF tg w σ S1
@[simp] theorem k_asg {tg : Tg} : kAsg tg σ w S = tgF tg w σ S := (rfl)
@[simp] theorem x_asg {tg : Tg} : exec cl (.asg tg e) σ S = (ev cl e σ S).toF σ (kAsg tg σ) := (rfl)
def kPar (is : List Nat) (σ : St) : List W → Store → F := fun ws S1 => match setsW is ws σ with
  | some σ1 => .nx σ1 S1
  | none => .no
@[simp] theorem k_par {is : List Nat} : kPar is σ ws S = match setsW is ws σ with
  | some σ1 => .nx σ1 S
  | none => .no := (rfl)
@[simp] theorem x_par {is : List Nat} : exec cl (.par is e) σ S = (evs cl e σ S).toF σ (kPar is σ) := (rfl)
@[simp] theorem x_ret : exec cl (.ret e) σ S = (ev cl e σ S).toF σ F.rt := (rfl)
def kExp (σ : St) : W → Store → F := fun _ S1 => .nx σ S1
@[simp] theorem k_exp : kExp σ w S = .nx σ S := (rfl)
@[simp] theorem x_exp : exec cl (.exp e) σ S = (ev cl e σ S).toF σ (kExp σ) := (rfl)
def F.cond (x : W) (p q : F) : F := match x with
  | .d (.bl true) => p
  | .d (.bl false) => q
  | _ => .no
@[simp] theorem cond_bl {k : Bool} {p q : F} : F.cond (.d (.bl k)) p q = if k = true then p else q := by cases k <;> rfl
noncomputable def kIf (cl : Calls) (s t : MP.S) (σ : St) : W → Store → F := fun x S1 => F.cond x (exec cl s σ S1) (exec cl t σ S1)
@[simp] theorem k_if : kIf cl s t σ w S = F.cond w (exec cl s σ S) (exec cl t σ S) := (rfl)
@[simp] theorem x_ite : exec cl (.ite e s t) σ S = (ev cl e σ S).toF σ (kIf cl s t σ) := by
  show R.toF _ _ _ = R.toF _ _ _
  cases ev cl e σ S with
  | ok x S1 =>
    cases x with
    | d y => cases y with
      | bl k => cases k <;> rfl
      | _ => rfl
    | _ => rfl
  | _ => rfl
def kSet3 (σ : St) (v ov : W) : W → Store → F := fun iv S3 => match setIW ov iv v S3 with
  | some S4 => .nx σ S4
  | none => .no
@[simp] theorem k_set3 {v ov iv : W} : kSet3 σ v ov iv S = match setIW ov iv v S with
  | some S4 => .nx σ S4
  | none => .no := (rfl)
def kSet2 (cl : Calls) (i : E) (σ : St) (v : W) : W → Store → F := fun ov S2 => (ev cl i σ S2).toF σ (kSet3 σ v ov)
@[simp] theorem k_set2 {i : E} {v ov : W} : kSet2 cl i σ v ov S = (ev cl i σ S).toF σ (kSet3 σ v ov) := (rfl)
def kSet1 (cl : Calls) (o i : E) (σ : St) : W → Store → F := fun v S1 => (ev cl o σ S1).toF σ (kSet2 cl i σ v)
@[simp] theorem k_set1 {o i : E} {v : W} : kSet1 cl o i σ v S = (ev cl o σ S).toF σ (kSet2 cl i σ v) := (rfl)
@[simp] theorem x_setI {o i : E} : exec cl (.setI o i e) σ S = (ev cl e σ S).toF σ (kSet1 cl o i σ) := (rfl)
@[simp] theorem x_no : exec cl .no σ S = .no := (rfl)
noncomputable def forS (cl : Calls) (tg : Tg) (s : MP.S) (its : List W) (σ : St) (S : Store) : F := forL (fun w σ S => match tgSet tg w σ with
    | none => .no
    | some σ1 => exec cl s σ1 S) its σ S
def F.walk (o : Option (List W)) (f : List W → F) : F := match o with
  | none => .no
  | some its => f its
@[simp] theorem walk_some {its : List W} {f : List W → F} : F.walk (some its) f = f its := (rfl)
def F.upon (o : Option St) (f : St → F) : F := match o with
  | none => .no
  | some σ => f σ
@[simp] theorem upon_some {f : St → F} : F.upon (some σ) f = f σ := (rfl)
noncomputable def kFor2 (cl : Calls) (tg : Tg) (s : MP.S) (σ : St) (S : Store) : List W → F := fun its => forS cl tg s its σ S
@[simp] theorem k_for2 {tg : Tg} : kFor2 cl tg s σ S ws = forS cl tg s ws σ S := (rfl)
noncomputable def kFor (cl : Calls) (k : ItK) (tg : Tg) (s : MP.S) (σ : St) : List W → Store → F := fun ws S1 => F.walk (itemsW k ws) (kFor2 cl tg s σ S1)
@[simp] theorem k_for {k : ItK} {tg : Tg} : kFor cl k tg s σ ws S = F.walk (itemsW k ws) (kFor2 cl tg s σ S) := (rfl)
@[simp] theorem x_for {k : ItK} {tg : Tg} : exec cl (.for_ k e tg s) σ S = (evs cl e σ S).toF σ (kFor cl k tg s σ) := (rfl)
@[simp] theorem for_nil {tg : Tg} : forS cl tg s [] σ S = .nx σ S := (rfl)
noncomputable def kUp (cl : Calls) (s : MP.S) (S : Store) : St → F := fun σ1 => exec cl s σ1 S
@[simp] theorem k_up : kUp cl s S σ = exec cl s σ S := (rfl)
theorem for_cons {tg : Tg} : forS cl tg s (w :: ws) σ S = (F.upon (tgSet tg w σ) (kUp cl s S)).seq (forS cl tg s ws) := by
  unfold forS F.seq F.upon kUp
  rw [forL]
  all_goals (cases tgSet tg w σ <;> rfl)
@[simp] theorem tg_v {i : Nat} : tgF (.v i) w σ S = .nx (σ.set i (some w)) S := (rfl)
@[simp] theorem tg_t {is : List Nat} {xs : List MP.D} : tgF (.t is) (.d (.tup xs)) σ S = match setAll is xs σ with
  | some σ1 => .nx σ1 S
  | none => .no := (rfl)
@[simp] theorem tgs_v {i : Nat} : tgSet (.v i) w σ = some (σ.set i (some w)) := (rfl)
@[simp] theorem tgs_t {is : List Nat} {xs : List MP.D} : tgSet (.t is) (.d (.tup xs)) σ = setAll is xs σ := (rfl)
@[simp] theorem setAll_nil : setAll [] [] σ = some σ := (rfl)
@[simp] theorem setAll_cons {i : Nat} {is : List Nat} {x : MP.D} {xs : List MP.D} : setAll (i :: is) (x :: xs) σ = setAll is xs (σ.set i (some (.d x))) := (rfl)
@[simp] theorem setsW_nil : setsW [] [] σ = some σ := (rfl)
@[simp] theorem setsW_cons {i : Nat} {is : List Nat} : setsW (i :: is) (w :: ws) σ = setsW is ws (σ.set i (some w)) := (rfl)
/-! expressions -/
def vr (o : Option (Option W)) (S : Store) : R W := match o with
  | some (some w) => .ok w S
  | _ => .no
@[simp] theorem vr_some : vr (some (some w)) S = .ok w S := (rfl)
@[simp] theorem e_v {i : Nat} : ev cl (.v i) σ S = vr σ[i]? S := (rfl)
@[simp] theorem e_c {x : MP.D} : ev cl (.c x) σ S = .ok (.d x) S := (rfl)
@[simp] theorem e_g {n : Str} {x : MP.D} : ev cl (.g n x) σ S = .ok (.d x) S := (rfl)
@[simp] theorem e_nt : ev cl (.nt a) σ S = (ev cl a σ S).bind notW := (rfl)
@[simp] theorem e_ng : ev cl (.ng a) σ S = (ev cl a σ S).bind negW := (rfl)
@[simp] theorem nt_bl {k : Bool} : notW (.d (.bl k)) S = .ok (.d (.bl (!k))) S := (rfl)
@[simp] theorem ng_int {i : Int} : negW (.d (.int i)) S = .ok (.d (.int (-i))) S := (rfl)
def kBin (cl : Calls) (o : Op2) (new : Bool) (b : E) (σ : St) : W → Store → R W := fun x S1 => (ev cl b σ S1).bind (binW o new x)
@[simp] theorem k_bin {o : Op2} {new : Bool} : kBin cl o new b σ w S = (ev cl b σ S).bind (binW o new w) := (rfl)
@[simp] theorem e_bin {o : Op2} {new : Bool} : ev cl (.bin o new a b) σ S = (ev cl a σ S).bind (kBin cl o new b σ) := (rfl)
def kCmp2 (o : Cm) (x : W) : W → Store → R W := fun y S2 => okB (cmpO o S2 x y) S2
@[simp] theorem k_cmp2 {o : Cm} : kCmp2 o w u S = okB (cmpO o S w u) S := (rfl)
def kCmp (cl : Calls) (o : Cm) (b : E) (σ : St) : W → Store → R W := fun x S1 => (ev cl b σ S1).bind (kCmp2 o x)
@[simp] theorem k_cmp {o : Cm} : kCmp cl o b σ w S = (ev cl b σ S).bind (kCmp2 o w) := (rfl)
@[simp] theorem e_cmp {o : Cm} : ev cl (.cmp o a b) σ S = (ev cl a σ S).bind (kCmp cl o b σ) := (rfl)
def kIdx2 (x : W) : W → Store → R W := fun y S2 => okW (idxW S2 x y) S2
@[simp] theorem k_idx2 : kIdx2 w u S = okW (idxW S w u) S := (rfl)
def kIdx (cl : Calls) (b : E) (σ : St) : W → Store → R W := fun x S1 => (ev cl b σ S1).bind (kIdx2 x)
@[simp] theorem k_idx : kIdx cl b σ w S = (ev cl b σ S).bind (kIdx2 w) := (rfl)
@[simp] theorem e_idx : ev cl (.idx a b) σ S = (ev cl a σ S).bind (kIdx cl b σ) := (rfl)
@[simp] theorem e_tup : ev cl (.tup a) σ S = (evs cl a σ S).bind tupW := (rfl)
@[simp] theorem e_lst {new : Bool} : ev cl (.lst new a) σ S = (evs cl a σ S).bind (lstW new) := (rfl)
@[simp] theorem e_call {f : Str} : ev cl (.call f a) σ S = (evs cl a σ S).bind (cl f) := (rfl)
@[simp] theorem e_prim {p : Prim} {new : Bool} : ev cl (.prim p new a) σ S = (evs cl a σ S).bind (primW p new) := (rfl)
@[simp] theorem e_isi {ts : List Ty} : ev cl (.isi ts a) σ S = (ev cl a σ S).bind (isiW ts) := (rfl)
@[simp] theorem es_nil : evs cl .nil σ S = .ok [] S := (rfl)
def kCons2 (x : W) : List W → Store → R (List W) := fun xs S2 => .ok (x :: xs) S2
@[simp] theorem k_cons2 : kCons2 w ws S = .ok (w :: ws) S := (rfl)
def kCons (cl : Calls) (r : E) (σ : St) : W → Store → R (List W) := fun x S1 => (evs cl r σ S1).bind (kCons2 x)
@[simp] theorem k_cons : kCons cl r σ w S = (evs cl r σ S).bind (kCons2 w) := (rfl)
@[simp] theorem es_cons : evs cl (.cons a r) σ S = (ev cl a σ S).bind (kCons cl r σ) := (rfl)
def R.cond (x : W) (p q : R W) : R W := match x with
  | .d (.bl true) => p
  | .d (.bl false) => q
  | _ => .no
@[simp] theorem rcond_bl {k : Bool} {p q : R W} : R.cond (.d (.bl k)) p q = if k = true then p else q := by cases k <;> rfl
theorem bl_cond {x : W} {p q : R W} : (match x with
  | .d (.bl true) => p
  | .d (.bl false) => q
  | _ => .no) = R.cond x p q := rfl
def kIte (cl : Calls) (a b : E) (σ : St) : W → Store → R W := fun x S1 => R.cond x (ev cl a σ S1) (ev cl b σ S1)
@[simp] theorem k_ite : kIte cl a b σ w S = R.cond w (ev cl a σ S) (ev cl b σ S) := (rfl)
@[simp] theorem e_ite : ev cl (.ite c a b) σ S = (ev cl c σ S).bind (kIte cl a b σ) := (rfl)
def kAnd (cl : Calls) (b : E) (σ : St) : W → Store → R W := fun x S1 => R.cond x (ev cl b σ S1) (.ok (.d (.bl false)) S1)
@[simp] theorem k_and : kAnd cl b σ w S = R.cond w (ev cl b σ S) (.ok (.d (.bl false)) S) := (rfl)
@[simp] theorem e_and : ev cl (.and a b) σ S = (ev cl a σ S).bind (kAnd cl b σ) := (rfl)
def kOr (cl : Calls) (b : E) (σ : St) : W → Store → R W := fun x S1 => R.cond x (.ok (.d (.bl true)) S1) (ev cl b σ S1)
@[simp] theorem k_or : kOr cl b σ w S = R.cond w (.ok (.d (.bl true)) S) (ev cl b σ S) := (rfl)
@[simp] theorem e_or : ev cl (.or a b) σ S = (ev cl a σ S).bind (kOr cl b σ) := (rfl)
def kOrT (cl : Calls) (b : E) (σ : St) : W → Store → R W := fun x S1 => match truW S1 x with
  | some true => .ok x S1
  | some false => ev cl b σ (killW x S1)
  | none => .no
@[simp] theorem k_orT : kOrT cl b σ w S = match truW S w with
  | some true => .ok w S
  | some false => ev cl b σ (killW w S)
  | none => .no := (rfl)
@[simp] theorem e_orT : ev cl (.orT a b) σ S = (ev cl a σ S).bind (kOrT cl b σ) := (rfl)
def oCond (x : Option Bool) (p q : R W) : R W := match x with
  | some true => p
  | some false => q
  | none => .no
@[simp] theorem ocond_some {k : Bool} {p q : R W} : oCond (some k) p q = if k = true then p else q := by cases k <;> rfl
def kCh2 (cl : Calls) (o1 o2 : Cm) (c : E) (σ : St) (x : W) : W → Store → R W := fun y S2 => oCond (cmpO o1 S2 x y) ((ev cl c σ S2).bind (kCmp2 o2 y)) (.ok (.d (.bl false)) S2)
@[simp] theorem k_ch2 {o1 o2 : Cm} : kCh2 cl o1 o2 c σ w u S = oCond (cmpO o1 S w u) ((ev cl c σ S).bind (kCmp2 o2 u)) (.ok (.d (.bl false)) S) := (rfl)
def kCh (cl : Calls) (o1 o2 : Cm) (b c : E) (σ : St) : W → Store → R W := fun x S1 => (ev cl b σ S1).bind (kCh2 cl o1 o2 c σ x)
@[simp] theorem k_ch {o1 o2 : Cm} : kCh cl o1 o2 b c σ w S = (ev cl b σ S).bind (kCh2 cl o1 o2 c σ w) := (rfl)
@[simp] theorem e_chain {o1 o2 : Cm} : ev cl (.chain o1 o2 a b c) σ S = (ev cl a σ S).bind (kCh cl o1 o2 b c σ) := (rfl)
def kMeth (cl : Calls) (m : Meth) (b : E) (σ : St) : W → Store → R W := fun x S1 => match lstOf S1 x with
  | some _ => (evs cl b σ S1).bind (methW m x)
  | none => .no
@[simp] theorem k_meth {m : Meth} : kMeth cl m b σ w S = match lstOf S w with
  | some _ => (evs cl b σ S).bind (methW m w)
  | none => .no := (rfl)
@[simp] theorem e_meth {m : Meth} : ev cl (.meth m a b) σ S = (ev cl a σ S).bind (kMeth cl m b σ) := (rfl)
@[simp] theorem eo_none : evo cl .none σ S = .ok none S := (rfl)
def intR (x : W) (S : Store) : R (Option Int) := match x with
  | .d (.int i) => .ok (some i) S
  | _ => .no
@[simp] theorem intR_int {i : Int} : intR (.d (.int i)) S = .ok (some i) S := (rfl)
@[simp] theorem eo_some : evo cl (.some a) σ S = (ev cl a σ S).bind intR := (rfl)
def kSl2 (cl : Calls) (new : Bool) (hi : E) (σ : St) (x : W) : Option Int → Store → R W := fun l S2 => (evo cl hi σ S2).bind (slW new x l)
@[simp] theorem k_sl2 {new : Bool} {hi : E} {l : Option Int} : kSl2 cl new hi σ w l S = (evo cl hi σ S).bind (slW new w l) := (rfl)
def kSl (cl : Calls) (new : Bool) (lo hi : E) (σ : St) : W → Store → R W := fun x S1 => (evo cl lo σ S1).bind (kSl2 cl new hi σ x)
@[simp] theorem k_sl {new : Bool} {lo hi : E} : kSl cl new lo hi σ w S = (evo cl lo σ S).bind (kSl2 cl new hi σ w) := (rfl)
@[simp] theorem e_sl {new : Bool} {lo hi : E} : ev cl (.sl new a lo hi) σ S = (ev cl a σ S).bind (kSl cl new lo hi σ) := (rfl)
@[simp] theorem e_rev {new : Bool} : ev cl (.rev new a) σ S = (ev cl a σ S).bind (revW new) := (rfl)
/-! operators on known things -/
@[simp] theorem okB_some' {k : Bool} : okB (some k) S = .ok (.d (.bl k)) S := (rfl)
@[simp] theorem okW_some : okW (some w) S = .ok w S := (rfl)
@[simp] theorem add_int {i j : Int} {new : Bool} : binW .add new (.d (.int i)) (.d (.int j)) S = .ok (.d (.int (i + j))) S := (rfl)
@[simp] theorem sub_int {i j : Int} {new : Bool} : binW .sub new (.d (.int i)) (.d (.int j)) S = .ok (.d (.int (i - j))) S := (rfl)
@[simp] theorem mul_int {i j : Int} {new : Bool} : binW .mul new (.d (.int i)) (.d (.int j)) S = if smallI i || smallI j then .ok (.d (.int (i * j))) S else .no := (rfl)
@[simp] theorem fdiv_int {i j : Int} {new : Bool} : binW .fdiv new (.d (.int i)) (.d (.int j)) S = if decide (0 < j) && decide (j < 1073741824) then .ok (.d (.int (i / j))) S else .no := (rfl)
@[simp] theorem mod_int {i j : Int} {new : Bool} : binW .mod new (.d (.int i)) (.d (.int j)) S = if 0 < j then .ok (.d (.int (i % j))) S else .no := (rfl)
@[simp] theorem pow_int {i j : Int} {new : Bool} : binW .pow new (.d (.int i)) (.d (.int j)) S = if decide (0 ≤ j) && decide (j ≤ 1000) && decide (i.natAbs < 1000) then .ok (.d (.int (i ^ j.toNat))) S else .no := (rfl)
@[simp] theorem add_tup {xs ys : List MP.D} {new : Bool} : binW .add new (.d (.tup xs)) (.d (.tup ys)) S = if xs.length + ys.length ≤ line then .ok (.d (.tup (xs ++ ys))) S else .no := (rfl)
@[simp] theorem cmp_lt {i j : Int} : cmpO .lt S (.d (.int i)) (.d (.int j)) = some (decide (i < j)) := (rfl)
@[simp] theorem cmp_le {i j : Int} : cmpO .le S (.d (.int i)) (.d (.int j)) = some (decide (i ≤ j)) := (rfl)
@[simp] theorem cmp_gt {i j : Int} : cmpO .gt S (.d (.int i)) (.d (.int j)) = some (decide (j < i)) := (rfl)
@[simp] theorem cmp_ge {i j : Int} : cmpO .ge S (.d (.int i)) (.d (.int j)) = some (decide (j ≤ i)) := (rfl)
theorem cmp_eq {x y : MP.D} : cmpO .eq S (.d x) (.d y) = if x.ok2 y then some (x.eqv y) else none := rfl
theorem cmp_ne {x y : MP.D} : cmpO .ne S (.d x) (.d y) = (if x.ok2 y then some (x.eqv y) else none).map (!·) := rfl
theorem ok2_small {x y : MP.D} (h : y.small = true) : x.ok2 y = true := by
  unfold D.ok2
  rw [h]
  simp
@[simp] theorem cmp_eqi {i j : Int} : cmpO .eq S (.d (.int i)) (.d (.int j)) = some (i == j) := by
  rw [cmp_eq, ok2_small rfl]
  rfl
@[simp] theorem cmp_nei {i j : Int} : cmpO .ne S (.d (.int i)) (.d (.int j)) = some (!(i == j)) := by
  rw [cmp_ne, ok2_small rfl]
  rfl
@[simp] theorem cmp_eq0 {x : MP.D} : cmpO .eq S (.d x) (.d (.tup [])) = some (x.eqv (.tup [])) := by
  rw [cmp_eq, ok2_small rfl]
  rfl
@[simp] theorem cmp_ne0 {x : MP.D} : cmpO .ne S (.d x) (.d (.tup [])) = some (!(x.eqv (.tup []))) := by
  rw [cmp_ne, ok2_small rfl]
  rfl
@[simp] theorem cmp_is : cmpO .is_ S w (.d .non) = some (isNonW w) := (rfl)
@[simp] theorem cmp_isn : cmpO .isn S w (.d .non) = some (!isNonW w) := (rfl)
def lsO (o : Option O) : Option (List W) := match o with
  | some (.lst ws) => some ws
  | _ => none
@[simp] theorem lsO_lst : lsO (some (.lst ws)) = some ws := (rfl)
@[simp] theorem seq_ref {n : Nat} : seqOf S (.ref n) = lsO S[n]? := (rfl)
@[simp] theorem lst_ref {n : Nat} : lstOf S (.ref n) = lsO S[n]? := (rfl)
@[simp] theorem idx_ref {n : Nat} {k : Int} : idxW S (.ref n) (.d (.int k)) = (lsO S[n]?).bind (L2.atI · k) := by
  unfold idxW
  simp only [seq_ref]
  cases lsO S[n]? <;> rfl
@[simp] theorem idx_tup {xs : List MP.D} {k : Int} : idxW S (.d (.tup xs)) (.d (.int k)) = L2.atI (xs.map .d) k := (rfl)
@[simp] theorem idx_lst {xs : List MP.D} {k : Int} : idxW S (.d (.lst xs)) (.d (.int k)) = L2.atI (xs.map .d) k := (rfl)
@[simp] theorem idx_scr {xs : List MP.D} {k : Int} : idxW S (.scr xs) (.d (.int k)) = L2.atI (xs.map .d) k := (rfl)
theorem atN {α : Type} {l : List α} {n : Nat} : L2.atI l (n : Int) = l[n]? := by
  unfold L2.atI L2.ixN
  rw [if_pos (by omega)]
  by_cases h : n < l.length
  · rw [if_pos (by omega)]; simp
  · rw [if_neg (by omega)]; simp; omega
@[simp] theorem at0 {α : Type} {x : α} {l : List α} : L2.atI (x :: l) 0 = some x := atN (n := 0)
@[simp] theorem at1 {α : Type} {x y : α} {l : List α} : L2.atI (x :: y :: l) 1 = some y := atN (n := 1)
@[simp] theorem at2 {α : Type} {x y z : α} {l : List α} : L2.atI (x :: y :: z :: l) 2 = some z := atN (n := 2)
@[simp] theorem p_int {i : Int} {new : Bool} : primW .int new [.d (.int i)] S = .ok (.d (.int i)) S := (rfl)
@[simp] theorem p_intb {k new : Bool} : primW .int new [.d (.bl k)] S = .ok (.d (.int (if k then 1 else 0))) S := (rfl)
@[simp] theorem p_abs {i : Int} {new : Bool} : primW .abs new [.d (.int i)] S = .ok (.d (.int (if i < 0 then -i else i))) S := (rfl)
@[simp] theorem p_lent {xs : List MP.D} {new : Bool} : primW .len new [.d (.tup xs)] S = .ok (.d (.int xs.length)) S := by
  unfold primW
  simp [seqOf]
@[simp] theorem p_lenl {xs : List MP.D} {new : Bool} : primW .len new [.d (.lst xs)] S = .ok (.d (.int xs.length)) S := by
  unfold primW
  simp [seqOf]
@[simp] theorem p_lens {xs : List MP.D} {new : Bool} : primW .len new [.scr xs] S = .ok (.d (.int xs.length)) S := by
  unfold primW
  simp [seqOf]
@[simp] theorem p_tupl {xs : List MP.D} {new : Bool} : primW .tuple new [.d (.lst xs)] S = .ok (.d (.tup xs)) S := by
  unfold primW
  simp [lseqOf, pures_map]
@[simp] theorem p_tupt {xs : List MP.D} {new : Bool} : primW .tuple new [.d (.tup xs)] S = .ok (.d (.tup xs)) S := (rfl)
@[simp] theorem set_ref {n : Nat} {k : Int} {x : MP.D} : setIW (.ref n) (.d (.int k)) (.d x) S = match lsO S[n]? with
  | some ws => (L2.ixN ws.length k).map fun j => S.set n (.lst (ws.set j (.d x)))
  | none => none := by
  show (match S[n]? with
    | some (.lst ws) => match L2.ixN ws.length k with
      | some j => some (S.set n (.lst (ws.set j (.d x))))
      | none => none
    | _ => none) = _
  generalize S[n]? = o
  cases o with
  | none => rfl
  | some o =>
    cases o with
    | lst ws =>
      show (match L2.ixN ws.length k with
      | some j => some (S.set n (.lst (ws.set j (.d x))))
      | none => none) = Option.map _ (L2.ixN ws.length k)
      cases L2.ixN ws.length k <;> rfl
    | dead => rfl
@[simp] theorem slice_tup {xs : List MP.D} {lo hi : Option Int} {new : Bool} : slW new (.d (.tup xs)) lo hi S = .ok (.d (.tup (cutG xs lo hi))) S := (rfl)
@[simp] theorem tupW_nil : tupW [] S = .ok (.d (.tup [])) S := (rfl)
theorem tupW_ds {xs : List MP.D} (h : xs.length ≤ line) : tupW (xs.map .d) S = .ok (.d (.tup xs)) S := by
  unfold tupW
  rw [pures_map]
  exact if_pos h
@[simp] theorem tupW1 {x : MP.D} : tupW [.d x] S = .ok (.d (.tup [x])) S := tupW_ds (xs := [x]) (by show 1 ≤ 16777216; decide)
@[simp] theorem tupW2 {x y : MP.D} : tupW [.d x, .d y] S = .ok (.d (.tup [x, y])) S := tupW_ds (xs := [x, y]) (by show 2 ≤ 16777216; decide)
@[simp] theorem tupW3 {x y z : MP.D} : tupW [.d x, .d y, .d z] S = .ok (.d (.tup [x, y, z])) S := tupW_ds (xs := [x, y, z]) (by show 3 ≤ 16777216; decide)
end
end MP
end

section
set_option maxHeartbeats 4000000
namespace MP
open PySem
/-! ### lists that are made by turns -/
def compR (new : Bool) (its : Option (List W)) (f : W → Store → R (Option W)) (S : Store) : R W := match its with
  | none => .no
  | some its => if its.length < line then ((compL f its S).plain).bind fun xs S2 => mkL new xs S2 else .no
section
variable {cl : Calls} {σ : St} {S : Store} {e elt c : E} {k : ItK} {tg : Tg} {own : List Nat} {new : Bool}
def kComp (cl : Calls) (new : Bool) (k : ItK) (tg : Tg) (own : List Nat) (c elt : E) (σ : St) : List W → Store → R W := fun ws S1 => compR new (itemsW k ws) (compF tg own (evc cl c) (ev cl elt) σ) S1
@[simp] theorem k_comp {ws : List W} : kComp cl new k tg own c elt σ ws S = compR new (itemsW k ws) (compF tg own (evc cl c) (ev cl elt) σ) S := (rfl)
@[simp] theorem ev_comp : ev cl (.comp new k e tg own c elt) σ S = (evs cl e σ S).bind (kComp cl new k tg own c elt σ) := (rfl)
@[simp] theorem evc_none : evc cl .none = none := (rfl)
@[simp] theorem evc_some : evc cl (.some e) = some (ev cl e) := (rfl)
theorem compL_pure {f : W → Store → R (Option W)} {its : List W} (g : W → Option W) (h : ∀ w ∈ its, f w S = .ok (g w) S) : compL f its S = .ok (its.filterMap g) S := by
  induction its with
  | nil => rfl
  | cons w ws ih =>
    simp only [compL, h w List.mem_cons_self, bind_ok, ih fun w hw => h w (List.mem_cons_of_mem _ hw), List.filterMap_cons]
    cases g w <;> rfl
theorem fm_map {α β γ : Type} {f : α → β} {g : β → Option γ} {l : List α} : (l.map f).filterMap g = l.filterMap fun x => g (f x) := by
  rw [List.filterMap_map]; rfl
theorem pures_fm {α : Type} (l : List α) (g : α → Option MP.D) : pures (l.filterMap fun x => (g x).map W.d) = some (l.filterMap g) := by
  induction l with
  | nil => rfl
  | cons a l ih =>
    simp only [List.filterMap_cons]
    cases g a with
    | none => simpa using ih
    | some d => simp [pures, ih]
/-- the general one: data of data -/
theorem comp_gen (g : W → Option MP.D) {its : List W} {cd : Option FE} (hl : its.length < line) (h : ∀ w ∈ its, compF tg own cd (ev cl elt) σ w S = .ok ((g w).map W.d) S) :
    compR false (some its) (compF tg own cd (ev cl elt) σ) S = .ok (.d (.lst (its.filterMap g))) S := by
  unfold compR
  simp only
  rw [if_pos hl, compL_pure (fun w => (g w).map W.d) h]
  simp only [R.plain, bind_ok, mkL]
  rw [if_neg Bool.false_ne_true, pures_fm]
/-- [e(x) for x in xs] -/
theorem comp_map {i : Nat} (xs : List MP.D) (g : MP.D → MP.D) (hl : xs.length < line) (h : ∀ x ∈ xs, ev cl elt ((wipeG σ own).set i (some (.d x))) S = .ok (.d (g x)) S) :
    compR false (some (xs.map W.d)) (compF (.v i) own none (ev cl elt) σ) S = .ok (.d (.lst (xs.map g))) S := by
  have q := comp_gen (cl := cl) (σ := σ) (S := S) (elt := elt) (cd := none) (tg := .v i) (own := own) (fun w => match w with | .d x => some (g x) | _ => none) (its := xs.map W.d) (by simpa using hl) (fun w hw => by
    obtain ⟨x, hx, rfl⟩ := List.mem_map.mp hw
    simp only [compF, tgs_v, h x hx, bind_ok]
    rfl)
  rw [q, fm_map]
  simp
/-- [e(x) for x in xs if c(x)] -/
theorem comp_if {i : Nat} {cd : E} (xs : List MP.D) (p : MP.D → Bool) (g : MP.D → MP.D) (hl : xs.length < line) (hc : ∀ x ∈ xs, ev cl cd ((wipeG σ own).set i (some (.d x))) S = .ok (.d (.bl (p x))) S)
    (h : ∀ x ∈ xs, p x = true → ev cl elt ((wipeG σ own).set i (some (.d x))) S = .ok (.d (g x)) S) :
    compR false (some (xs.map W.d)) (compF (.v i) own (some (ev cl cd)) (ev cl elt) σ) S = .ok (.d (.lst ((xs.filter p).map g))) S := by
  have q := comp_gen (cl := cl) (σ := σ) (S := S) (elt := elt) (cd := some (ev cl cd)) (tg := .v i) (own := own) (fun w => match w with | .d x => if p x then some (g x) else none | _ => none) (its := xs.map W.d) (by simpa using hl) (fun w hw => by
    obtain ⟨x, hx, rfl⟩ := List.mem_map.mp hw
    simp only [compF, tgs_v, hc x hx, bind_ok]
    cases hp : p x with
    | true => simp only [h x hx hp, bind_ok]; rfl
    | false => rfl)
  rw [q, fm_map]
  congr 3
  clear q h hc hl
  induction xs with
  | nil => rfl
  | cons x xs ih =>
    simp only [List.filterMap_cons, List.filter_cons]
    cases p x with
    | true => simpa using ih
    | false => simpa using ih
/-- .. over pairs -/
theorem comp_t {is : List Nat} (xs : List (List MP.D)) (g : List MP.D → MP.D) (hl : xs.length < line) (h : ∀ x ∈ xs, ∃ σ1, setAll is x (wipeG σ own) = some σ1 ∧ ev cl elt σ1 S = .ok (.d (g x)) S) :
    compR false (some (xs.map fun x => W.d (.tup x))) (compF (.t is) own none (ev cl elt) σ) S = .ok (.d (.lst (xs.map g))) S := by
  have q := comp_gen (cl := cl) (σ := σ) (S := S) (elt := elt) (cd := none) (tg := .t is) (own := own) (fun w => match w with | .d (.tup x) => some (g x) | _ => none) (its := xs.map fun x => W.d (.tup x)) (by simpa using hl) (fun w hw => by
    obtain ⟨x, hx, rfl⟩ := List.mem_map.mp hw
    obtain ⟨σ1, e1, e2⟩ := h x hx
    simp only [compF, tgs_t, e1, e2, bind_ok]
    rfl)
  rw [q, fm_map]
  simp
@[simp] theorem it_lst {xs : List MP.D} : itemsW .val [.d (.lst xs)] = some (xs.map .d) := (rfl)
@[simp] theorem it_tup {xs : List MP.D} : itemsW .val [.d (.tup xs)] = some (xs.map .d) := (rfl)
@[simp] theorem it_str {x : Str} : itemsW .val [.d (.str x)] = some (x.cps.toList.map fun c => .d (.str ⟨#[c]⟩)) := (rfl)
@[simp] theorem it_r1 {n : Int} : itemsW .rng [.d (.int n)] = if okI n then some (rgI 0 n) else none := (rfl)
@[simp] theorem it_r2 {m n : Int} : itemsW .rng [.d (.int m), .d (.int n)] = if okI m && okI n then some (rgI m n) else none := (rfl)
theorem sum_ints (is : List Int) : primW .sum new [.d (.lst (is.map .int))] S = .ok (.d (.int is.sum)) S := by
  have q : intsW ((is.map MP.D.int).map W.d) = some is := by
    induction is with
    | nil => rfl
    | cons i is ih => simp only [List.map_cons, intsW, intO, ih]
  unfold primW
  simp only [lstOf, q]
theorem bls_of (bs : List Bool) : blsW ((bs.map MP.D.bl).map W.d) = some bs := by
  induction bs with
  | nil => rfl
  | cons i is ih => simp only [List.map_cons, blsW, blO, ih]
theorem all_bls (bs : List Bool) : primW .all new [.d (.lst (bs.map .bl))] S = .ok (.d (.bl (bs.all id))) S := by
  unfold primW
  simp only [lstOf, bls_of]
theorem any_bls (bs : List Bool) : primW .any new [.d (.lst (bs.map .bl))] S = .ok (.d (.bl (bs.any id))) S := by
  unfold primW
  simp only [lstOf, bls_of]
theorem sum_map {α : Type} (l : List α) (f : α → Int) : primW .sum new [.d (.lst (l.map fun x => MP.D.int (f x)))] S = .ok (.d (.int (l.map f).sum)) S := by
  have e : (l.map fun x => MP.D.int (f x)) = (l.map f).map MP.D.int := by rw [List.map_map]; rfl
  rw [e, sum_ints]
theorem any_map {α : Type} (l : List α) (f : α → Bool) : primW .any new [.d (.lst (l.map fun x => MP.D.bl (f x)))] S = .ok (.d (.bl (l.any f))) S := by
  have e : (l.map fun x => MP.D.bl (f x)) = (l.map f).map MP.D.bl := by rw [List.map_map]; rfl
  rw [e, any_bls, List.any_map]
  rfl
theorem all_map {α : Type} (l : List α) (f : α → Bool) : primW .all new [.d (.lst (l.map fun x => MP.D.bl (f x)))] S = .ok (.d (.bl (l.all f))) S := by
  have e : (l.map fun x => MP.D.bl (f x)) = (l.map f).map MP.D.bl := by rw [List.map_map]; rfl
  rw [e, all_bls, List.all_map]
  rfl
/-! types -/
@[simp] def _root_.MP.D.isStr : MP.D → Bool | .str _ => true | _ => false
@[simp] def _root_.MP.D.isTup : MP.D → Bool | .tup _ => true | _ => false
@[simp] def _root_.MP.D.isLst : MP.D → Bool | .lst _ => true | _ => false
@[simp] def _root_.MP.D.isInt : MP.D → Bool | .int _ => true | .bl _ => true | _ => false
@[simp] def _root_.MP.D.isBl : MP.D → Bool | .bl _ => true | _ => false
@[simp] theorem isi_str {x : MP.D} : isiW [.str] (.d x) S = .ok (.d (.bl x.isStr)) S := by cases x <;> rfl
@[simp] theorem isi_tup {x : MP.D} : isiW [.tuple] (.d x) S = .ok (.d (.bl x.isTup)) S := by cases x <;> rfl
@[simp] theorem isi_lst {x : MP.D} : isiW [.list] (.d x) S = .ok (.d (.bl x.isLst)) S := by cases x <;> rfl
@[simp] theorem isi_int {x : MP.D} : isiW [.int] (.d x) S = .ok (.d (.bl x.isInt)) S := by cases x <;> rfl
@[simp] theorem isi_bl {x : MP.D} : isiW [.bool] (.d x) S = .ok (.d (.bl x.isBl)) S := by cases x <;> rfl
@[simp] theorem isi_lt {x : MP.D} : isiW [.list, .tuple] (.d x) S = .ok (.d (.bl (x.isLst || x.isTup))) S := by cases x <;> rfl
@[simp] theorem isi_bs {x : MP.D} : isiW [.bool, .str] (.d x) S = .ok (.d (.bl (x.isBl || x.isStr))) S := by cases x <;> rfl
end
/-! ### names -/
def small26 : Str := "abcdefghijklmnopqrstuvwxyz"
def goodC (c : Nat) : Bool := !(Builtin.Str.occurrences small26 ⟨#[c]⟩ 0 small26.length 1).isEmpty
def goodName (s : Str) : Bool := decide (1 ≤ s.length) && decide (s.length ≤ 8) && s.cps.toList.all goodC
def isNameD : MP.D → Bool
  | .str s => goodName s
  | _ => false
@[simp] theorem p_lenstr {z : Str} {new : Bool} {S : Store} : primW .len new [.d (.str z)] S = if z.length ≤ line then .ok (.d (.int z.length)) S else .no := (rfl)
@[simp] theorem cmp_instr {x y : Str} {S : Store} : cmpO .in_ S (.d (.str x)) (.d (.str y)) = some (!(Builtin.Str.occurrences y x 0 y.length 1).isEmpty) := (rfl)
def okStr : MP.D → Bool
  | .str s => decide (s.length ≤ line)
  | _ => true
variable {P : List Fd}
theorem r_is_name (h : B.H_is_name P) (k : Nat) (x : MP.D) (S : Store) (hx : okStr x = true) : run P (k + 1) "is_name" [.d x] S = .ok (.d (.bl (isNameD x))) S := by
  rw [run_eq h _ _ _ rfl]
  unfold B.b_is_name
  cases x with
  | str s =>
    have hs : s.length ≤ line := of_decide_eq_true hx
    have hm : s.cps.toList.map (fun c => W.d (.str ⟨#[c]⟩)) = (s.cps.toList.map fun c => MP.D.str ⟨#[c]⟩).map W.d := by rw [List.map_map]; rfl
    simp only [k_asg, k_par, k_exp, k_if, k_set3, k_set2, k_set1, k_for2, k_for, k_up, k_bin, k_cmp2, k_cmp, k_idx2, k_idx, k_cons2, k_cons, k_ite, k_and, k_or, k_orT, k_ch2, k_ch, k_meth, k_sl2, k_sl, k_comp, e_v, x_seq, x_ret, e_and, e_isi, e_chain, List.map_cons, List.map_nil, List.cons_append, List.getElem?_cons_zero, vr_some, bind_ok, isi_str, D.isStr, rcond_bl, if_true, e_c, e_prim, es_cons, es_nil, p_lenstr, hs, cmp_le, ocond_some, e_g, okB_some', ev_comp, it_str, evc_none]
    by_cases h1 : (1 : Int) ≤ s.length
    · by_cases h2 : (s.length : Int) ≤ 8
      · have hl : s.cps.toList.length < line := by
          have : s.length = s.cps.toList.length := by simp [Str.length]
          show _ < 16777216
          omega
        simp only [k_asg, k_par, k_exp, k_if, k_set3, k_set2, k_set1, k_for2, k_for, k_up, k_bin, k_cmp2, k_cmp, k_idx2, k_idx, k_cons2, k_cons, k_ite, k_and, k_or, k_orT, k_ch2, k_ch, k_meth, k_sl2, k_sl, k_comp, h1, h2, decide_true, if_true, bind_ok, rcond_bl, e_v, e_prim, es_cons, es_nil, ev_comp, List.map_cons, List.map_nil, List.cons_append, List.nil_append, List.getElem?_cons_zero, vr_some, it_str, evc_none, e_c, e_g, List.length_cons, List.length_nil, Nat.reduceAdd, Nat.reduceSub, List.replicate]
        rw [hm, comp_map (s.cps.toList.map fun c => MP.D.str ⟨#[c]⟩) (fun x => match x with | .str y => .bl (!(Builtin.Str.occurrences small26 y 0 small26.length 1).isEmpty) | _ => .non) (by simpa using hl) (fun x hx => by
          obtain ⟨c, _, rfl⟩ := List.mem_map.mp hx
          simp [wipeG]
          rfl)]
        have e2 : ((s.cps.toList.map fun c => MP.D.str ⟨#[c]⟩).map (fun x => match x with | .str y => MP.D.bl (!(Builtin.Str.occurrences small26 y 0 small26.length 1).isEmpty) | _ => .non)) = (s.cps.toList.map goodC).map .bl := by
          rw [List.map_map, List.map_map]
          rfl
        rw [e2]
        have h1' : 1 ≤ s.length := by omega
        have h2' : s.length ≤ 8 := by omega
        simp only [k_asg, k_par, k_exp, k_if, k_set3, k_set2, k_set1, k_for2, k_for, k_up, k_bin, k_cmp2, k_cmp, k_idx2, k_idx, k_cons2, k_cons, k_ite, k_and, k_or, k_orT, k_ch2, k_ch, k_meth, k_sl2, k_sl, k_comp, es_nil, bind_ok, all_bls, toF_ok, seq_rt, fin_rt, trim_same, List.all_map]
        have gn : isNameD (.str s) = (decide (1 ≤ s.length) && decide (s.length ≤ 8) && s.cps.toList.all goodC) := rfl
        rw [gn, decide_eq_true h1', decide_eq_true h2', Bool.true_and, Bool.true_and]
        rfl
      · have h2' : ¬ s.length ≤ 8 := by omega
        simp [h1, h2, isNameD, goodName, h2', trim_same]
    · have h1' : ¬ 1 ≤ s.length := by omega
      simp [h1, isNameD, goodName, h1', trim_same]
  | _ => simp [isNameD, trim_same]
end MP
end

section
set_option maxHeartbeats 4000000
namespace MP
open PySem
/-! ### slices, loops -/
section
variable {α : Type}
theorem sIx_nat {n : Nat} {d : Nat} {k : Nat} : HT.sIx n d (some (k : Int)) = min k n := by
  unfold HT.sIx
  simp
  omega
theorem cut_from (xs : List α) (k : Nat) : cutG xs (some (k : Int)) none = xs.drop k := by
  unfold cutG
  rw [sIx_nat]
  have : HT.sIx xs.length xs.length none = xs.length := rfl
  rw [this]
  by_cases h : k ≤ xs.length
  · rw [Nat.min_eq_left h]
    exact List.take_of_length_le (by simp)
  · rw [Nat.min_eq_right (by omega), List.drop_eq_nil_of_le (Nat.le_refl _), List.drop_eq_nil_of_le (by omega)]
    simp
theorem cut_to (xs : List α) (k : Nat) : cutG xs none (some (k : Int)) = xs.take k := by
  unfold cutG
  rw [sIx_nat]
  have : HT.sIx xs.length 0 none = 0 := rfl
  rw [this, List.drop_zero, Nat.sub_zero]
  by_cases h : k ≤ xs.length
  · rw [Nat.min_eq_left h]
  · rw [Nat.min_eq_right (by omega), List.take_of_length_le (Nat.le_refl _), List.take_of_length_le (by omega)]
theorem cut1 (x : α) (xs : List α) : cutG (x :: xs) (some 1) none = xs := cut_from (x :: xs) 1
end
section
variable {c : St → Store → R W} {b : St → Store → F} {σ σ2 : St} {S S1 S2 : Store}
theorem while_stop (h : c σ S = .ok (.d (.bl false)) S1) : whileF c b σ S = .nx σ S1 := by
  have q : whileN c b 1 σ S = .nx σ S1 := by simp [whileN, h]
  rw [whileF_eq 1 (by rw [q]; rfl), q]
theorem while_rt {w : W} (h : c σ S = .ok (.d (.bl true)) S1) (h2 : b σ S1 = .rt w S2) : whileF c b σ S = .rt w S2 := by
  have q : whileN c b 1 σ S = .rt w S2 := by simp [whileN, h, h2]
  rw [whileF_eq 1 (by rw [q]; rfl), q]
theorem while_step (h : c σ S = .ok (.d (.bl true)) S1) (h2 : b σ S1 = .nx σ2 S2) : whileF c b σ S = whileF c b σ2 S2 := by
  have q : ∀ n, whileN c b (n + 1) σ S = whileN c b n σ2 S2 := fun n => by simp [whileN, h, h2]
  by_cases e : ∃ n, (whileN c b n σ2 S2).isNo = false
  · obtain ⟨n, e⟩ := e
    rw [whileF_eq n e, whileF_eq (n + 1) (by rw [q]; exact e), q]
  · have e2 : ¬ ∃ n, (whileN c b n σ S).isNo = false := fun ⟨n, e2⟩ => by
      cases n with
      | zero => simp [whileN, F.isNo] at e2
      | succ n => rw [q] at e2; exact e ⟨n, e2⟩
    unfold whileF
    rw [dif_neg e, dif_neg e2]
@[simp] theorem x_while {cl : Calls} {e : E} {s : MP.S} : exec cl (.while_ e s) = whileF (ev cl e) (exec cl s) := (rfl)
end
/-! ### a program's data that are no texts of enormous length -/
mutual
def okD : MP.D → Bool
  | .str s => decide (s.length ≤ line)
  | .tup xs => decide (xs.length < line) && okDs xs
  | .lst xs => decide (xs.length < line) && okDs xs
  | _ => true
def okDs : List MP.D → Bool
  | [] => true
  | x :: xs => okD x && okDs xs
end
theorem okDs_mem : ∀ {xs : List MP.D}, okDs xs = true → ∀ x ∈ xs, okD x = true
  | [], _, x, h => absurd h (by simp)
  | y :: ys, h, x, hx => by
    simp only [okDs, Bool.and_eq_true] at h
    rcases List.mem_cons.mp hx with e | e
    · rw [e]; exact h.1
    · exact okDs_mem h.2 x e
theorem okStr_of {x : MP.D} (h : okD x = true) : okStr x = true := by
  cases x <;> first | rfl | exact h
theorem depth_mem : ∀ {xs : List MP.D}, ∀ x ∈ xs, x.depth ≤ D.depths xs
  | [], x, h => absurd h (by simp)
  | y :: ys, x, hx => by
    simp only [D.depths]
    rcases List.mem_cons.mp hx with e | e
    · rw [e]; omega
    · have := depth_mem x e
      omega
theorem eqv_nil : ∀ x : MP.D, x.eqv (.tup []) = match x with | .tup [] => true | _ => false
  | .tup [] => rfl
  | .tup (_ :: _) => rfl
  | .non => rfl
  | .bl _ => rfl
  | .int _ => rfl
  | .str _ => rfl
  | .lst _ => rfl
/-! ### tuple_of -/
mutual
def tupOf : MP.D → MP.D
  | .tup xs => .tup (tupOfs xs)
  | .lst xs => .tup (tupOfs xs)
  | x => x
def tupOfs : List MP.D → List MP.D
  | [] => []
  | x :: xs => tupOf x :: tupOfs xs
end
theorem tupOfs_map : ∀ xs : List MP.D, tupOfs xs = xs.map tupOf
  | [] => rfl
  | x :: xs => by simp [tupOfs, tupOfs_map xs]
variable {P : List Fd}
theorem r_tuple_of (h : B.H_tuple_of P) : ∀ (k : Nat) (x : MP.D) (S : Store), x.depth + 2 ≤ k → okD x = true → run P k "tuple_of" [.d x] S = .ok (.d (tupOf x)) S
  | 0, x, S, hk, _ => by omega
  | k + 1, x, S, hk, hx => by
    have seq : ∀ xs : List MP.D, D.depths xs + 2 ≤ k → okDs xs = true → xs.length < line → compR false (some (xs.map W.d)) (compF (.v 1) [1] none (ev (run P k) (.call "tuple_of" (.cons (.v 1) .nil))) [some (.d x), none]) S = .ok (.d (.lst (xs.map tupOf))) S := fun xs hd ho hl =>
      comp_map xs tupOf hl fun y hy => by
        have := depth_mem y hy
        simp [wipeG, r_tuple_of h k y S (by omega) (okDs_mem ho y hy)]
    rw [run_eq h _ _ _ rfl]
    unfold B.b_tuple_of
    cases x with
    | tup xs =>
      simp only [okD, Bool.and_eq_true, decide_eq_true_eq] at hx
      simp only [D.depth] at hk
      have q := seq xs (by omega) hx.2 hx.1
      simp only [tupOf, tupOfs_map]
      simp [q, trim_same]
    | lst xs =>
      simp only [okD, Bool.and_eq_true, decide_eq_true_eq] at hx
      simp only [D.depth] at hk
      have q := seq xs (by omega) hx.2 hx.1
      simp only [tupOf, tupOfs_map]
      simp [q, trim_same]
    | _ => simp [tupOf, trim_same]
/-! ### sure, numbers -/
theorem r_sure (h : B.H_sure P) (k : Nat) (S : Store) : run P (k + 1) "sure" [.d (.bl true)] S = .ok (.d .non) S := by
  rw [run_eq h _ _ _ rfl]
  unfold B.b_sure
  simp [trim_same]
theorem r_is_number (h : B.H_is_number P) (k : Nat) (x : MP.D) (S : Store) : run P (k + 1) "is_number" [.d x] S = .ok (.d (.bl (x.isInt && !x.isBl))) S := by
  rw [run_eq h _ _ _ rfl]
  unfold B.b_is_number
  cases x <;> simp [trim_same]
theorem r_is_between (h : B.H_is_between P) (h2 : B.H_is_number P) (k : Nat) (i a b : Int) (S : Store) : run P (k + 2) "is_between" [.d (.int i), .d (.int a), .d (.int b)] S = .ok (.d (.bl (decide (a ≤ i) && decide (i ≤ b)))) S := by
  rw [run_eq h _ _ _ rfl]
  unfold B.b_is_between
  by_cases q : a ≤ i <;> simp [r_is_number h2, trim_same, q]
end MP
end

section
set_option maxHeartbeats 4000000
namespace MP
open PySem
/-! ### terms and frames -/
def optD : Option Nat → MP.D
  | none => .non
  | some n => .int n
mutual
/-- how many holes; none: neither term nor frame -/
def hol : MP.D → Option Nat
  | .tup [] => some 1
  | .tup (n :: ps) => if (decide (ps.length ≤ 3) && isNameD n) = true then hols ps else none
  | _ => none
def hols : List MP.D → Option Nat
  | [] => some 0
  | p :: ps => match hol p, hols ps with
    | some a, some b => some (a + b)
    | _, _ => none
end
mutual
def sz : MP.D → Nat
  | .tup (_ :: ps) => szs ps + 1
  | _ => 0
def szs : List MP.D → Nat
  | [] => 0
  | p :: ps => sz p + szs ps
end
theorem hols_none : ∀ {ps : List MP.D}, hols ps = none ↔ ∃ p ∈ ps, hol p = none
  | [] => by simp [hols]
  | p :: ps => by
    have ih := hols_none (ps := ps)
    simp only [hols]
    cases h1 : hol p with
    | none => simp [h1]
    | some a =>
      cases h2 : hols ps with
      | none =>
        obtain ⟨q, hq, e⟩ := ih.mp h2
        exact ⟨fun _ => ⟨q, List.mem_cons_of_mem _ hq, e⟩, fun _ => rfl⟩
      | some b =>
        refine ⟨fun e => (by cases e), fun ⟨q, hq, e⟩ => ?_⟩
        rcases List.mem_cons.mp hq with rfl | hq
        · rw [h1] at e; cases e
        · rw [ih.mpr ⟨q, hq, e⟩] at h2; cases h2
theorem hols_mem {ps : List MP.D} {n : Nat} (h : hols ps = some n) : ∀ p ∈ ps, ∃ m, hol p = some m := fun p hp => by
  cases e : hol p with
  | some m => exact ⟨m, rfl⟩
  | none => rw [hols_none.mpr ⟨p, hp, e⟩] at h; cases h
theorem hols_sum : ∀ {ps : List MP.D} {n : Nat}, hols ps = some n → ps.map (fun p => optD (hol p)) = (ps.map fun p => (((hol p).getD 0 : Nat) : Int)).map MP.D.int ∧ (ps.map fun p => (((hol p).getD 0 : Nat) : Int)).sum = n
  | [], n, h => by
    cases h
    exact ⟨rfl, rfl⟩
  | p :: ps, n, h => by
    simp only [hols] at h
    cases h1 : hol p with
    | none => rw [h1] at h; cases h
    | some a =>
      cases h2 : hols ps with
      | none => rw [h1, h2] at h; cases h
      | some b =>
        rw [h1, h2] at h
        cases h
        obtain ⟨e1, e2⟩ := hols_sum h2
        refine ⟨?_, ?_⟩
        · simp only [List.map_cons, e1, h1]
          rfl
        · simp only [List.map_cons, List.sum_cons, e2, h1, Option.getD_some]
          omega
theorem optD_eqv {o : Option Nat} : (optD o).eqv .non = o.isNone := by cases o <;> rfl
theorem optD_eqv1 {o : Option Nat} : (optD o).eqv (.int 1) = (o == some 1) := by
  cases o with
  | none => rfl
  | some n =>
    show (((n : Nat) : Int) == 1) = _
    by_cases h : n = 1
    · subst h; rfl
    · have : ((n : Int) == 1) = false := by simp; omega
      rw [this]
      simp [h]
section
variable {P : List Fd} {S : Store}
theorem in_non {xs : List MP.D} : cmpO .in_ S (.d .non) (.d (.lst xs)) = some (xs.any fun y => y.eqv .non) := by
  show inW S (.d .non) (.d (.lst xs)) = _
  simp [inW, seqOf, pures_map, D.small]
theorem r_holes_in (h : B.H_holes_in P) (hn : B.H_is_name P) : ∀ (k : Nat) (x : MP.D) (S : Store), x.depth + 3 ≤ k → okD x = true → run P k "holes_in" [.d x] S = .ok (.d (optD (hol x))) S
  | 0, x, S, hk, _ => by omega
  | k + 1, x, S, hk, hx => by
    rw [run_eq h _ _ _ rfl]
    unfold B.b_holes_in
    cases x with
    | tup xs =>
      cases xs with
      | nil => simp [hol, optD, trim_same, D.eqv, D.eqvs]
      | cons n ps =>
        simp only [okD, okDs, Bool.and_eq_true, decide_eq_true_eq] at hx
        obtain ⟨hl, hn', ho⟩ := hx
        simp only [D.depth, D.depths] at hk
        obtain ⟨k, rfl⟩ : ∃ j, k = j + 1 := ⟨k - 1, by omega⟩
        have nm := r_is_name hn k n S (okStr_of hn')
        have e0 : (MP.D.tup (n :: ps)).eqv (.tup []) = false := rfl
        have h1 : (1 : Int) ≤ (ps.length : Int) + 1 := by omega
        by_cases h3 : ps.length ≤ 3
        · have h3' : (ps.length : Int) + 1 ≤ 4 := by omega
          cases hname : isNameD n with
          | false =>
            rw [hname] at nm
            simp [e0, nm, h1, hol, optD, trim_same, hname, h3']
          | true =>
            rw [hname] at nm
            have q := comp_map (cl := run P (k + 1)) (σ := [some (.d (.tup (n :: ps))), none, none]) (S := S) (own := [2]) (i := 2) (elt := .call "holes_in" (.cons (.v 2) .nil)) ps (fun p => optD (hol p)) (by simp at hl; omega) fun y hy => by
              have := depth_mem y hy
              simp [wipeG, r_holes_in h hn (k + 1) y S (by omega) (okDs_mem ho y hy)]
            have e3 : hol (.tup (n :: ps)) = hols ps := by
              show (if (decide (ps.length ≤ 3) && isNameD n) = true then hols ps else none) = _
              rw [hname, decide_eq_true h3]
              rfl
            rw [e3]
            simp only [List.map_cons, List.map_nil, List.length_cons, List.length_nil, List.replicate, Nat.reduceAdd, Nat.reduceSub, List.cons_append, List.nil_append]
            simp [e0, nm, h1, h3', cut1, q, in_non]
            cases e : hols ps with
            | none =>
              obtain ⟨p, hp, ep⟩ := hols_none.mp e
              rw [if_pos ⟨p, hp, by rw [ep]; rfl⟩]
              simp [trim_same, optD]
            | some m =>
              have c : ¬ ∃ x, x ∈ ps ∧ (optD (hol x)).eqv .non = true := fun ⟨p, hp, ep⟩ => by
                obtain ⟨j, ej⟩ := hols_mem e p hp
                rw [ej] at ep
                cases ep
              obtain ⟨s1, s2⟩ := hols_sum e
              rw [if_neg c, s1, sum_ints, s2]
              simp [trim_same, optD]
        · have h3' : ¬ (ps.length : Int) + 1 ≤ 4 := by omega
          have e3 : hol (.tup (n :: ps)) = none := by
            show (if (decide (ps.length ≤ 3) && isNameD n) = true then hols ps else none) = _
            rw [decide_eq_false h3]
            rfl
          rw [e3]
          simp [e0, h1, h3', optD, trim_same]
    | _ => simp [hol, optD, trim_same, D.eqv]
theorem r_is_frame (h : B.H_is_frame P) (h1 : B.H_holes_in P) (hn : B.H_is_name P) (k : Nat) (x : MP.D) (S : Store) (hk : x.depth + 4 ≤ k) (ho : okD x = true) : run P k "is_frame" [.d x] S = .ok (.d (.bl (hol x == some 1))) S := by
  obtain ⟨k, rfl⟩ : ∃ j, k = j + 1 := ⟨k - 1, by omega⟩
  rw [run_eq h _ _ _ rfl]
  unfold B.b_is_frame
  have e : cmpO .eq S (.d (optD (hol x))) (.d (.int 1)) = some (hol x == some 1) := by
    rw [cmp_eq, ok2_small rfl, optD_eqv1]
    rfl
  simp [r_holes_in h1 hn k x S (by omega) ho, e, trim_same]
theorem szs_sum : ∀ ps : List MP.D, (ps.map fun p => ((sz p : Nat) : Int)).sum = szs ps
  | [] => rfl
  | p :: ps => by
    simp only [List.map_cons, List.sum_cons, szs_sum ps, szs]
    omega
theorem hol_tup {x : MP.D} {n : Nat} (h : hol x = some n) : x = .tup [] ∨ ∃ s ps, x = .tup (.str s :: ps) ∧ goodName s = true ∧ ps.length ≤ 3 ∧ hols ps = some n := by
  cases x with
  | tup xs =>
    cases xs with
    | nil => exact .inl rfl
    | cons m ps =>
      have h' : (if (decide (ps.length ≤ 3) && isNameD m) = true then hols ps else none) = some n := h
      clear h
      split at h'
      · rename_i c
        simp only [Bool.and_eq_true, decide_eq_true_eq] at c
        cases m with
        | str s => exact .inr ⟨s, ps, rfl, c.2, c.1, h'⟩
        | _ => simp [isNameD] at c
      · cases h'
  | _ => simp [hol] at h
theorem r_made_size (h : B.H_made_size P) : ∀ (k : Nat) (x : MP.D) (n : Nat) (S : Store), x.depth + 1 ≤ k → hol x = some n → run P k "made_size" [.d x] S = .ok (.d (.int (sz x))) S
  | 0, x, n, S, hk, _ => by omega
  | k + 1, x, n, S, hk, hx => by
    rw [run_eq h _ _ _ rfl]
    unfold B.b_made_size
    rcases hol_tup hx with rfl | ⟨s, ps, rfl, _, hl, hh⟩
    · simp [eqv_nil, trim_same, sz]
    · simp only [D.depth, D.depths] at hk
      have q := comp_map (cl := run P k) (σ := [some (.d (.tup (.str s :: ps))), none]) (S := S) (own := [1]) (i := 1) (elt := .call "made_size" (.cons (.v 1) .nil)) ps (fun p => .int (sz p)) (by show _ < 16777216; omega) fun y hy => by
        have := depth_mem y hy
        obtain ⟨m, hm⟩ := hols_mem hh y hy
        simp [wipeG, r_made_size h k y m S (by omega) hm]
      simp [eqv_nil, cut1, q, sum_map, szs_sum, trim_same, sz]
      omega
/-! a term or frame that is told right: neither list nor number in it -/
mutual
theorem tupOf_hol : ∀ {x : MP.D} {n : Nat}, hol x = some n → tupOf x = x
  | .tup [], _, _ => rfl
  | .tup (m :: ps), n, h => by
    rcases hol_tup h with e | ⟨s, qs, e, _, _, hh⟩
    · cases e
    · cases e
      simp only [tupOf, tupOfs, tupOfs_hol hh]
  | .non, _, h => by simp [hol] at h
  | .bl _, _, h => by simp [hol] at h
  | .int _, _, h => by simp [hol] at h
  | .str _, _, h => by simp [hol] at h
  | .lst _, _, h => by simp [hol] at h
theorem tupOfs_hol : ∀ {xs : List MP.D} {n : Nat}, hols xs = some n → tupOfs xs = xs
  | [], _, _ => rfl
  | x :: xs, n, h => by
    obtain ⟨a, ha⟩ := hols_mem h x List.mem_cons_self
    cases hb : hols xs with
    | none =>
      simp only [hols, ha, hb] at h
      cases h
    | some b => simp only [tupOfs, tupOf_hol ha, tupOfs_hol hb]
end
mutual
theorem okD_hol : ∀ {x : MP.D} {n : Nat}, hol x = some n → okD x = true
  | .tup [], _, _ => rfl
  | .tup (m :: ps), n, h => by
    rcases hol_tup h with e | ⟨s, qs, e, hg, hl, hh⟩
    · cases e
    · cases e
      have h8 : s.length ≤ line := by
        unfold goodName at hg
        simp only [Bool.and_eq_true, decide_eq_true_eq] at hg
        show _ ≤ 16777216
        omega
      have hl2 : (MP.D.str s :: ps).length < line := by
        show _ + 1 < 16777216
        omega
      simp only [okD, okDs, okDs_hol hh, decide_eq_true h8, decide_eq_true hl2, Bool.and_self]
  | .non, _, h => by simp [hol] at h
  | .bl _, _, h => by simp [hol] at h
  | .int _, _, h => by simp [hol] at h
  | .str _, _, h => by simp [hol] at h
  | .lst _, _, h => by simp [hol] at h
theorem okDs_hol : ∀ {xs : List MP.D} {n : Nat}, hols xs = some n → okDs xs = true
  | [], _, _ => rfl
  | x :: xs, n, h => by
    obtain ⟨a, ha⟩ := hols_mem h x List.mem_cons_self
    cases hb : hols xs with
    | none =>
      simp only [hols, ha, hb] at h
      cases h
    | some b => simp only [okDs, okD_hol ha, okDs_hol hb, Bool.and_self]
end
mutual
theorem depth_sz : ∀ {x : MP.D} {n : Nat}, hol x = some n → x.depth ≤ sz x + 1
  | .tup [], _, _ => by simp [D.depth, D.depths]
  | .tup (m :: ps), n, h => by
    rcases hol_tup h with e | ⟨s, qs, e, hg, hl, hh⟩
    · cases e
    · cases e
      have := depths_szs hh
      simp only [D.depth, D.depths, sz]
      omega
  | .non, _, h => by simp [hol] at h
  | .bl _, _, h => by simp [hol] at h
  | .int _, _, h => by simp [hol] at h
  | .str _, _, h => by simp [hol] at h
  | .lst _, _, h => by simp [hol] at h
theorem depths_szs : ∀ {xs : List MP.D} {n : Nat}, hols xs = some n → D.depths xs ≤ szs xs + 1
  | [], _, _ => by simp [D.depths]
  | x :: xs, n, h => by
    obtain ⟨a, ha⟩ := hols_mem h x List.mem_cons_self
    cases hb : hols xs with
    | none =>
      simp only [hols, ha, hb] at h
      cases h
    | some b =>
      have h1 := depth_sz ha
      have h2 := depths_szs hb
      simp only [D.depths, szs]
      omega
end
structure HSure (P : List Fd) : Prop where
  tuple_of : B.H_tuple_of P
  sure : B.H_sure P
  is_frame : B.H_is_frame P
  holes_in : B.H_holes_in P
  is_name : B.H_is_name P
  made_size : B.H_made_size P
  sure_frame : B.H_sure_frame P
theorem r_sure_frame (h : HSure P) (k : Nat) (x : MP.D) (S : Store) (hk : 66 ≤ k) (hx : hol x = some 1) (hs : sz x ≤ 60) : run P k "sure_frame" [.d x] S = .ok (.d x) S := by
  obtain ⟨k, rfl⟩ : ∃ j, k = j + 2 := ⟨k - 2, by omega⟩
  rw [run_eq h.sure_frame _ _ _ rfl]
  unfold B.b_sure_frame
  have hd := depth_sz hx
  have e1 := r_tuple_of h.tuple_of (k + 1) x S (by omega) (okD_hol hx)
  rw [tupOf_hol hx] at e1
  have e2 := r_is_frame h.is_frame h.holes_in h.is_name (k + 1) x S (by omega) (okD_hol hx)
  rw [hx] at e2
  have e3 := r_made_size h.made_size (k + 1) x 1 S (by omega) hx
  have e4 : ((sz x : Nat) : Int) ≤ 60 := by omega
  simp [e1, e2, e3, e4, r_sure h.sure, trim_same]
theorem r_frame_size (h : HSure P) (h2 : B.H_frame_size P) (k : Nat) (x : MP.D) (S : Store) (hk : 67 ≤ k) (hx : hol x = some 1) (hs : sz x ≤ 60) : run P k "frame_size" [.d x] S = .ok (.d (.int (sz x))) S := by
  obtain ⟨k, rfl⟩ : ∃ j, k = j + 1 := ⟨k - 1, by omega⟩
  rw [run_eq h2 _ _ _ rfl]
  unfold B.b_frame_size
  have hd := depth_sz hx
  simp [r_sure_frame h k x S (by omega) hx hs, r_made_size h.made_size k x 1 S (by omega) hx, trim_same]
theorem hols_any : ∀ {ps : List MP.D} {n : Nat}, hols ps = some n → (ps.any fun p => hol p != some 0) = decide (0 < n)
  | [], n, h => by cases h; rfl
  | p :: ps, n, h => by
    simp only [hols] at h
    cases h1 : hol p with
    | none => rw [h1] at h; cases h
    | some a =>
      cases h2 : hols ps with
      | none => rw [h1, h2] at h; cases h
      | some b =>
        rw [h1, h2] at h
        cases h
        have ih := hols_any h2
        simp only [List.any_cons, h1, ih]
        cases a with
        | zero => simp
        | succ a =>
          have e : (some (a + 1) != some 0) = true := by rw [bne_iff_ne]; simp
          rw [e]
          simp
          omega
theorem r_has_hole (h : B.H_has_hole P) : ∀ (k : Nat) (x : MP.D) (n : Nat) (S : Store), x.depth + 1 ≤ k → hol x = some n → run P k "has_hole" [.d x] S = .ok (.d (.bl (hol x != some 0))) S
  | 0, x, n, S, hk, _ => by omega
  | k + 1, x, n, S, hk, hx => by
    rw [run_eq h _ _ _ rfl]
    unfold B.b_has_hole
    rcases hol_tup hx with rfl | ⟨s, ps, rfl, _, hl, hh⟩
    · simp [eqv_nil, trim_same, hol]
    · simp only [D.depth, D.depths] at hk
      have q := comp_map (cl := run P k) (σ := [some (.d (.tup (.str s :: ps))), none]) (S := S) (own := [1]) (i := 1) (elt := .call "has_hole" (.cons (.v 1) .nil)) ps (fun p => .bl (hol p != some 0)) (by show _ < 16777216; omega) fun y hy => by
        have := depth_mem y hy
        obtain ⟨m, hm⟩ := hols_mem hh y hy
        simp [wipeG, r_has_hole h k y m S (by omega) hm]
      rw [hx]
      simp [eqv_nil, cut1, q, any_map, hols_any hh, trim_same]
      cases n with
      | zero => simp
      | succ n =>
        have e : (some (n + 1) != some 0) = true := by rw [bne_iff_ne]; simp
        rw [e]
        simp
end
end MP
end

section
set_option maxHeartbeats 4000000
namespace MP.Wd
/-! ### words: powers, roots, words that commute -/
variable {α : Type}
def pw (w : List α) (m : Nat) : List α := (List.replicate m w).flatten
@[simp] theorem pw_zero {w : List α} : pw w 0 = [] := rfl
theorem pw_succ {w : List α} {m : Nat} : pw w (m + 1) = w ++ pw w m := by
  simp [pw, List.replicate_succ]
theorem pw_one {w : List α} : pw w 1 = w := by simp [pw]
theorem pw_len {w : List α} {m : Nat} : (pw w m).length = m * w.length := by
  simp [pw]
theorem pw_add {w : List α} {m n : Nat} : pw w (m + n) = pw w m ++ pw w n := by
  induction m with
  | zero => simp
  | succ m ih => rw [Nat.succ_add, pw_succ, pw_succ, ih, List.append_assoc]
theorem pw_mul {w : List α} {m n : Nat} : pw w (m * n) = pw (pw w m) n := by
  induction n with
  | zero => simp
  | succ n ih => rw [Nat.mul_succ, Nat.add_comm, pw_add, pw_succ, ih]
theorem pw_nil {m : Nat} : pw ([] : List α) m = [] := by
  induction m with
  | zero => rfl
  | succ m ih => rw [pw_succ, ih]; rfl
theorem pw_comm {w : List α} {m n : Nat} : pw w m ++ pw w n = pw w n ++ pw w m := by rw [← pw_add, ← pw_add, Nat.add_comm]
theorem pw_get {w : List α} {m i : Nat} (h : i < m * w.length) : (pw w m)[i]? = w[i % w.length]? := by
  induction m generalizing i with
  | zero => simp at h
  | succ m ih =>
    rw [pw_succ]
    have hw : 0 < w.length := by
      rcases Nat.eq_zero_or_pos w.length with q | q
      · rw [q] at h; simp at h
      · exact q
    by_cases c : i < w.length
    · rw [List.getElem?_append_left c, Nat.mod_eq_of_lt c]
    · rw [Nat.add_mul, Nat.one_mul] at h
      rw [List.getElem?_append_right (by omega), ih (by omega), ← Nat.mod_eq_sub_mod (by omega)]
/-- k is a period that divides the length -/
def Per (w : List α) (k : Nat) : Prop := 1 ≤ k ∧ w.length % k = 0 ∧ pw (w.take k) (w.length / k) = w
theorem per_len {w : List α} (h : w ≠ []) : Per w w.length := by
  have : 0 < w.length := List.length_pos_iff.mpr h
  refine ⟨this, Nat.mod_self _, ?_⟩
  rw [Nat.div_self this, List.take_length, pw_one]
theorem per_le {w : List α} {k : Nat} (h : w ≠ []) (p : Per w k) : k ≤ w.length := Nat.le_of_dvd (List.length_pos_iff.mpr h) (Nat.dvd_of_mod_eq_zero p.2.1)
theorem per_pw {w : List α} {m : Nat} (hw : w ≠ []) : Per (pw w m) w.length := by
  have hp : 0 < w.length := List.length_pos_iff.mpr hw
  refine ⟨hp, by rw [pw_len]; exact Nat.mul_mod_left _ _, ?_⟩
  rw [pw_len, Nat.mul_div_cancel _ hp]
  cases m with
  | zero => rfl
  | succ m =>
    have : (pw w (m + 1)).take w.length = w := by
      rw [pw_succ, List.take_append_of_le_length (Nat.le_refl _), List.take_length]
    rw [this]
open Classical in
/-- the least one -/
noncomputable def fp (w : List α) : Nat := if h : w ≠ [] then ((List.range (w.length + 1)).find? fun k => decide (Per w k)).getD 0 else 0
theorem fp_spec {w : List α} (h : w ≠ []) : Per w (fp w) ∧ ∀ k, Per w k → fp w ≤ k := by
  classical
  unfold fp
  rw [dif_pos h]
  cases e : (List.range (w.length + 1)).find? fun k => decide (Per w k) with
  | none =>
    rw [List.find?_eq_none] at e
    have := e w.length (by simp)
    simp [per_len h] at this
  | some k =>
    have h1 : Per w k := by have := List.find?_some e; simpa using this
    refine ⟨h1, fun j hj => ?_⟩
    show k ≤ j
    rw [List.find?_range_eq_some] at e
    by_cases c : k ≤ j
    · exact c
    · have := e.2.2 j (by omega)
      simp [hj] at this
noncomputable def rt (w : List α) : List α := w.take (fp w)
theorem rt_len {w : List α} (h : w ≠ []) : (rt w).length = fp w := by
  unfold rt
  rw [List.length_take, Nat.min_eq_left (per_le h (fp_spec h).1)]
theorem rt_ne {w : List α} (h : w ≠ []) : rt w ≠ [] := by
  intro e
  have := rt_len h
  rw [e] at this
  have := (fp_spec h).1.1
  simp at *
  omega
theorem rt_pw {w : List α} (h : w ≠ []) : pw (rt w) (w.length / fp w) = w := (fp_spec h).1.2.2
theorem ex_pos {w : List α} (h : w ≠ []) : 1 ≤ w.length / fp w := by
  rcases Nat.eq_zero_or_pos (w.length / fp w) with q | q
  · have := rt_pw h
    rw [q] at this
    exact absurd this.symm h
  · exact q
theorem fp_rt {w : List α} (h : w ≠ []) : fp (rt w) = (rt w).length := by
  have hr := rt_ne h
  obtain ⟨p1, p2, p3⟩ := (fp_spec hr).1
  have le := per_le hr ⟨p1, p2, p3⟩
  have e := rt_pw h
  have q : Per w (fp (rt w)) := by
    have ek : w = pw ((rt w).take (fp (rt w))) ((rt w).length / fp (rt w) * (w.length / fp w)) := by
      rw [pw_mul, p3]
      exact e.symm
    have hn : (rt w).take (fp (rt w)) ≠ [] := by
      intro q
      have := congrArg List.length q
      rw [List.length_take, Nat.min_eq_left le] at this
      simp at this
      omega
    have z := per_pw (w := (rt w).take (fp (rt w))) (m := (rt w).length / fp (rt w) * (w.length / fp w)) hn
    rw [← ek, List.length_take, Nat.min_eq_left le] at z
    exact z
  have := (fp_spec h).2 _ q
  rw [rt_len h] at le ⊢
  omega
/-- the root of a power is a piece of what it is a power of -/
theorem rt_pre {w : List α} {m : Nat} (hw : w ≠ []) (hm : 1 ≤ m) : rt (pw w m) = w.take (fp (pw w m)) ∧ fp (pw w m) ≤ w.length := by
  obtain ⟨m, rfl⟩ : ∃ j, m = j + 1 := ⟨m - 1, by omega⟩
  have hne : pw w (m + 1) ≠ [] := by
    rw [pw_succ]
    intro e
    exact hw (List.append_eq_nil_iff.mp e).1
  have le := (fp_spec hne).2 _ (per_pw hw)
  refine ⟨?_, le⟩
  unfold rt
  generalize fp (pw w (m + 1)) = f at le ⊢
  rw [pw_succ, List.take_append_of_le_length le]
/-! words that commute -/
theorem comm_pw {u w : List α} (h : u ++ w = w ++ u) : ∀ n : Nat, u ++ pw w n = pw w n ++ u
  | 0 => by simp
  | n + 1 => by rw [pw_succ, ← List.append_assoc, h, List.append_assoc, comm_pw h n, List.append_assoc]
theorem comm_eq {u w : List α} (h : u ++ w = w ++ u) : pw u w.length = pw w u.length := by
  have h1 := comm_pw h u.length
  have h2 := comm_pw h1.symm w.length
  have hl : (pw u w.length).length = (pw w u.length).length := by rw [pw_len, pw_len, Nat.mul_comm]
  exact (List.append_inj h2.symm hl).1
/-- i ↦ w(i mod its length) has the period d -/
def Wave (w : List α) (d : Nat) : Prop := ∀ i, w[(i + d) % w.length]? = w[i % w.length]?
theorem per_wave {w : List α} {k : Nat} (hw : w ≠ []) (p : Per w k) : Wave w k := by
  obtain ⟨p1, p2, p3⟩ := p
  have hn : 0 < w.length := List.length_pos_iff.mpr hw
  have hk : k ≤ w.length := per_le hw ⟨p1, p2, p3⟩
  have hd : k ∣ w.length := Nat.dvd_of_mod_eq_zero p2
  have hlen : (w.take k).length = k := by rw [List.length_take, Nat.min_eq_left hk]
  have key : ∀ j, j < w.length → w[j]? = (w.take k)[j % k]? := fun j hj => by
    have : (pw (w.take k) (w.length / k))[j]? = (w.take k)[j % (w.take k).length]? := pw_get (by rw [hlen, Nat.div_mul_cancel hd]; exact hj)
    rw [p3, hlen] at this
    exact this
  intro i
  rw [key _ (Nat.mod_lt _ hn), key _ (Nat.mod_lt _ hn), Nat.mod_mod_of_dvd _ hd, Nat.mod_mod_of_dvd _ hd, Nat.add_mod_right]
theorem wave_per {w : List α} {k : Nat} (hw : w ≠ []) (hk : 1 ≤ k) (hd : k ∣ w.length) (h : Wave w k) : Per w k := by
  have hn : 0 < w.length := List.length_pos_iff.mpr hw
  have le : k ≤ w.length := Nat.le_of_dvd hn hd
  have hlen : (w.take k).length = k := by rw [List.length_take, Nat.min_eq_left le]
  refine ⟨hk, Nat.mod_eq_zero_of_dvd hd, ?_⟩
  have step : ∀ c i, w[(i + k * c) % w.length]? = w[i % w.length]? := fun c => by
    induction c with
    | zero => intro i; rfl
    | succ c ih => intro i; rw [Nat.mul_succ, ← Nat.add_assoc, h, ih]
  apply List.ext_getElem?
  intro j
  by_cases hj : j < w.length
  · rw [pw_get (by rw [hlen, Nat.div_mul_cancel hd]; exact hj), hlen, List.getElem?_take_of_lt (Nat.mod_lt _ (by omega))]
    have := step (j / k) (j % k)
    rw [Nat.mod_add_div, Nat.mod_eq_of_lt hj] at this
    rw [this, Nat.mod_eq_of_lt (Nat.lt_of_lt_of_le (Nat.mod_lt _ (by omega)) le)]
  · rw [List.getElem?_eq_none (by rw [pw_len, hlen, Nat.div_mul_cancel hd]; omega), List.getElem?_eq_none (by omega)]
theorem wave_add {w : List α} {a b : Nat} (ha : Wave w a) (hb : Wave w b) : Wave w (a + b) := fun i => by rw [← Nat.add_assoc, hb, ha]
theorem wave_sub {w : List α} {a b : Nat} (ha : Wave w (a + b)) (hb : Wave w b) : Wave w a := fun i => by
  have := ha i
  rw [← Nat.add_assoc, hb] at this
  exact this
theorem wave_mod {w : List α} {a b : Nat} (ha : Wave w a) (hb : Wave w b) : Wave w (a % b) := by
  have : ∀ c r, Wave w (r + b * c) → Wave w r := fun c => by
    induction c with
    | zero => intro r h; exact h
    | succ c ih =>
      intro r h
      rw [Nat.mul_succ, ← Nat.add_assoc] at h
      exact ih r (wave_sub h hb)
  exact this (a / b) (a % b) (by rw [Nat.mod_add_div]; exact ha)
theorem wave_gcd {w : List α} : ∀ {a b : Nat}, Wave w a → Wave w b → Wave w (Nat.gcd a b) := fun {a b} => by
  induction a, b using Nat.gcd.induction with
  | H0 n => intro _ h; rw [Nat.gcd_zero_left]; exact h
  | H1 m n hm ih => intro ha hb; rw [Nat.gcd_rec]; exact ih (wave_mod hb ha) ha
/-- MAIN: two words commute exactly if they have the same root -/
theorem comm_rt {u w : List α} (hu : u ≠ []) (hw : w ≠ []) : u ++ w = w ++ u ↔ rt u = rt w := by
  constructor
  · intro h
    have e := comm_eq h
    have nu : 0 < u.length := List.length_pos_iff.mpr hu
    have nw : 0 < w.length := List.length_pos_iff.mpr hw
    have small : ∀ i, i < w.length * u.length → u[i % u.length]? = w[i % w.length]? := fun i hi => by
      rw [← pw_get hi, e, pw_get (by rw [Nat.mul_comm]; exact hi)]
    have all : ∀ i, u[i % u.length]? = w[i % w.length]? := fun i => by
      have := small (i % (w.length * u.length)) (Nat.mod_lt _ (Nat.mul_pos nw nu))
      rw [Nat.mod_mod_of_dvd _ (Nat.dvd_mul_left _ _), Nat.mod_mod_of_dvd _ (Nat.dvd_mul_right _ _)] at this
      exact this
    have pu := fp_spec hu
    have pw' := fp_spec hw
    have wu := per_wave hu pu.1
    have ww := per_wave hw pw'.1
    have ww' : Wave u (fp w) := fun i => by rw [all, all]; exact ww i
    have wu' : Wave w (fp u) := fun i => by rw [← all, ← all]; exact wu i
    have du : fp u ∣ u.length := Nat.dvd_of_mod_eq_zero pu.1.2.1
    have dw : fp w ∣ w.length := Nat.dvd_of_mod_eq_zero pw'.1.2.1
    have gp : 1 ≤ Nat.gcd (fp u) (fp w) := Nat.gcd_pos_of_pos_left _ pu.1.1
    have g1 := pu.2 _ (wave_per hu gp (Nat.dvd_trans (Nat.gcd_dvd_left _ _) du) (wave_gcd wu ww'))
    have g2 := pw'.2 _ (wave_per hw gp (Nat.dvd_trans (Nat.gcd_dvd_right _ _) dw) (wave_gcd wu' ww))
    have l1 := Nat.le_of_dvd pu.1.1 (Nat.gcd_dvd_left (fp u) (fp w))
    have l2 := Nat.le_of_dvd pw'.1.1 (Nat.gcd_dvd_right (fp u) (fp w))
    have ef : fp u = fp w := by omega
    unfold rt
    apply List.ext_getElem?
    intro j
    by_cases hj : j < fp u
    · rw [List.getElem?_take_of_lt hj, List.getElem?_take_of_lt (by omega)]
      have a := all j
      have b1 := per_le hu pu.1
      have b2 := per_le hw pw'.1
      rw [Nat.mod_eq_of_lt (by omega), Nat.mod_eq_of_lt (by omega)] at a
      exact a
    · rw [List.getElem?_eq_none (by rw [List.length_take]; omega), List.getElem?_eq_none (by rw [List.length_take]; omega)]
  · intro h
    rw [← rt_pw hu, ← rt_pw hw, h]
    exact pw_comm
end MP.Wd
end

section
set_option maxHeartbeats 4000000
namespace MP
open PySem
/-! ### frames as words of levels -/
structure Lv where
  s : Str
  a : List MP.D
  b : List MP.D
structure Lv.Ok (l : Lv) : Prop where
  nm : goodName l.s = true
  few : l.a.length + l.b.length ≤ 2
  ha : hols l.a = some 0
  hb : hols l.b = some 0
abbrev hole : MP.D := .tup []
def Lv.on (l : Lv) (x : MP.D) : MP.D := .tup (.str l.s :: (l.a ++ x :: l.b))
def plug : List Lv → MP.D → MP.D
  | [], x => x
  | l :: w, x => l.on (plug w x)
def Lv.sz (l : Lv) : Nat := szs l.a + szs l.b + 1
def wsz (w : List Lv) : Nat := (w.map Lv.sz).sum
def OkW (w : List Lv) : Prop := ∀ l ∈ w, l.Ok
theorem hols_app : ∀ {a b : List MP.D} {m n : Nat}, hols a = some m → hols b = some n → hols (a ++ b) = some (m + n)
  | [], b, m, n, h, h2 => by cases h; simpa using h2
  | x :: a, b, m, n, h, h2 => by
    obtain ⟨j, hj⟩ := hols_mem h x List.mem_cons_self
    cases ha : hols a with
    | none => simp only [hols, hj, ha] at h; cases h
    | some i =>
      simp only [hols, hj, ha, Option.some.injEq] at h
      simp only [List.cons_append, hols, hj, hols_app ha h2]
      rw [← h, Nat.add_assoc]
theorem szs_app : ∀ {a b : List MP.D}, szs (a ++ b) = szs a + szs b
  | [], b => by simp [szs]
  | x :: a, b => by
    simp only [List.cons_append, szs, szs_app (a := a)]
    omega
theorem hol_on {l : Lv} {x : MP.D} {n : Nat} (h : l.Ok) (hx : hol x = some n) : hol (l.on x) = some n := by
  have e1 : hols (x :: l.b) = some (n + 0) := by simp only [hols, hx, h.hb]
  have e2 := hols_app h.ha e1
  show (if (decide ((l.a ++ x :: l.b).length ≤ 3) && isNameD (.str l.s)) = true then hols (l.a ++ x :: l.b) else none) = some n
  have := h.few
  have e3 : (l.a ++ x :: l.b).length ≤ 3 := by simp; omega
  have e4 : isNameD (.str l.s) = true := h.nm
  rw [decide_eq_true e3, e4, e2]
  simp
theorem sz_on {l : Lv} {x : MP.D} : sz (l.on x) = l.sz + sz x := by
  show szs (l.a ++ x :: l.b) + 1 = _
  rw [szs_app]
  unfold Lv.sz
  simp only [szs]
  omega
theorem OkW.tail {l : Lv} {w : List Lv} (h : OkW (l :: w)) : OkW w := fun x hx => h x (List.mem_cons_of_mem _ hx)
theorem OkW.head {l : Lv} {w : List Lv} (h : OkW (l :: w)) : l.Ok := h l List.mem_cons_self
theorem OkW.app {u w : List Lv} (h : OkW u) (h2 : OkW w) : OkW (u ++ w) := fun x hx => (List.mem_append.mp hx).elim (h x) (h2 x)
theorem OkW.pw {w : List Lv} (h : OkW w) : ∀ m : Nat, OkW (Wd.pw w m)
  | 0 => fun x hx => by simp at hx
  | m + 1 => by rw [Wd.pw_succ]; exact h.app (OkW.pw h m)
theorem OkW.take {w : List Lv} (h : OkW w) (k : Nat) : OkW (w.take k) := fun x hx => h x (List.mem_of_mem_take hx)
theorem hol_plug {x : MP.D} {n : Nat} (hx : hol x = some n) : ∀ {w : List Lv}, OkW w → hol (plug w x) = some n
  | [], _ => hx
  | l :: w, h => hol_on h.head (hol_plug hx h.tail)
theorem sz_plug {x : MP.D} : ∀ w : List Lv, sz (plug w x) = wsz w + sz x
  | [] => by simp [plug, wsz]
  | l :: w => by
    have := sz_plug (x := x) w
    simp only [plug, sz_on, this, wsz, List.map_cons, List.sum_cons]
    omega
theorem plug_app {u w : List Lv} {x : MP.D} : plug (u ++ w) x = plug u (plug w x) := by
  induction u with
  | nil => rfl
  | cons l u ih => simp only [List.cons_append, plug, ih]
theorem wsz_app {u w : List Lv} : wsz (u ++ w) = wsz u + wsz w := by simp [wsz]
theorem wsz_pw {w : List Lv} : ∀ m : Nat, wsz (Wd.pw w m) = m * wsz w
  | 0 => by simp [wsz]
  | m + 1 => by rw [Wd.pw_succ, wsz_app, wsz_pw m, Nat.succ_mul]; omega
theorem len_wsz : ∀ w : List Lv, w.length ≤ wsz w
  | [] => by simp
  | l :: w => by
    have := len_wsz w
    have e : l.sz = szs l.a + szs l.b + 1 := rfl
    simp only [wsz, List.map_cons, List.sum_cons, List.length_cons] at *
    omega
theorem wsz_take {w : List Lv} (k : Nat) : wsz (w.take k) ≤ wsz w := by
  conv => rhs; rw [← List.take_append_drop k w, wsz_app]
  omega
theorem hol_hole : hol hole = some 1 := rfl
theorem sz_hole : sz hole = 0 := rfl
def lv1 (l : Lv) : MP.D := l.on hole
def fr (w : List Lv) : MP.D := plug w hole
theorem hol_fr {w : List Lv} (h : OkW w) : hol (fr w) = some 1 := hol_plug hol_hole h
theorem sz_fr (w : List Lv) : sz (fr w) = wsz w := by unfold fr; rw [sz_plug]; rfl
/-- the place of the part with the hole -/
theorem range_one {q : Nat → Bool} {m n : Nat} (h1 : ∀ i, i < m → q i = false) (h2 : q m = true) (h3 : ∀ i, i < n → q (m + 1 + i) = false) : (List.range (m + 1 + n)).filter q = [m] := by
  rw [List.range_add, List.range_add, List.filter_append, List.filter_append]
  have e1 : (List.range m).filter q = [] := by
    rw [List.filter_eq_nil_iff]
    intro i hi
    rw [h1 i (List.mem_range.mp hi)]
    simp
  have e3 : ((List.range n).map (m + 1 + ·)).filter q = [] := by
    rw [List.filter_eq_nil_iff]
    intro i hi
    obtain ⟨j, hj, rfl⟩ := List.mem_map.mp hi
    rw [h3 j (List.mem_range.mp hj)]
    simp
  rw [e1, e3]
  simp [h2]
section
variable {P : List Fd}
theorem hols_zero : ∀ {ps : List MP.D}, hols ps = some 0 → ∀ p ∈ ps, hol p = some 0
  | [], _, p, h => absurd h (by simp)
  | x :: ps, h, p, hp => by
    obtain ⟨j, hj⟩ := hols_mem h x List.mem_cons_self
    cases ha : hols ps with
    | none => simp only [hols, hj, ha] at h; cases h
    | some i =>
      simp only [hols, hj, ha, Option.some.injEq] at h
      rcases List.mem_cons.mp hp with rfl | hp
      · rw [hj]; congr 1; omega
      · exact hols_zero (by rw [ha]; congr 1; omega) p hp
theorem rgI_map {m : Nat} : rgI 1 ((m : Int) + 1) = ((List.range m).map fun (i : Nat) => MP.D.int (1 + (i : Int))).map W.d := by
  unfold rgI
  have : ((m : Int) + 1 - 1).toNat = m := by omega
  rw [this, List.map_map]
  rfl
theorem r_hole_number (h : B.H_hole_number P) (h2 : B.H_has_hole P) (k : Nat) (l : Lv) (x : MP.D) (S : Store) (hk : (l.on x).depth + 2 ≤ k) (hl : l.Ok) (hx : hol x = some 1) : run P k "hole_number" [.d (l.on x)] S = .ok (.d (.int (1 + l.a.length))) S := by
  obtain ⟨k, rfl⟩ : ∃ j, k = j + 1 := ⟨k - 1, by omega⟩
  rw [run_eq h _ _ _ rfl]
  unfold B.b_hole_number
  have few := hl.few
  have hlen : (l.a ++ x :: l.b).length = l.a.length + 1 + l.b.length := by simp; omega
  have hall : hols (l.a ++ x :: l.b) = some (0 + (1 + 0)) := hols_app hl.ha (by simp only [hols, hx, hl.hb])
  have at_ : ∀ i : Nat, i < l.a.length + 1 + l.b.length → ∃ y, (l.a ++ x :: l.b)[i]? = some y ∧ y ∈ l.a ++ x :: l.b := fun i hi => ⟨(l.a ++ x :: l.b)[i]'(by omega), List.getElem?_eq_getElem (by omega), List.getElem_mem _⟩
  have hdep : ∀ y ∈ l.a ++ x :: l.b, y.depth + 1 ≤ k := fun y hy => by
    have := depth_mem y hy
    have e : (l.on x).depth = D.depths (.str l.s :: (l.a ++ x :: l.b)) + 1 := rfl
    simp only [D.depths] at e
    omega
  have ix : ∀ i : Nat, idxW S (.d (l.on x)) (.d (.int (1 + (i : Int)))) = ((l.a ++ x :: l.b)[i]?).map W.d := fun i => by
    have e : (1 + (i : Int)) = ((i + 1 : Nat) : Int) := by omega
    show idxW S (.d (.tup (.str l.s :: (l.a ++ x :: l.b)))) _ = _
    rw [idx_tup, e, atN, List.getElem?_map, List.getElem?_cons_succ]
  let q : Nat → Bool := fun i => ((l.a ++ x :: l.b)[i]?.map fun y => hol y != some 0).getD false
  let p : MP.D → Bool := fun z => match z with
    | .int j => q (j - 1).toNat
    | _ => false
  have hp : ∀ i : Nat, p (.int (1 + (i : Int))) = q i := fun i => by
    show q (1 + (i : Int) - 1).toNat = q i
    congr 1
    omega
  have c := comp_if (cl := run P k) (σ := [some (.d (l.on x)), none]) (S := S) (own := [1]) (i := 1) (elt := .v 1) (cd := .call "has_hole" (.cons (.idx (.v 0) (.v 1)) .nil)) ((List.range (l.a.length + 1 + l.b.length)).map fun (i : Nat) => MP.D.int (1 + (i : Int))) p id (by rw [List.length_map, List.length_range]; exact Nat.lt_of_le_of_lt (show _ ≤ 3 by omega) (by decide)) (fun z hz => by
      obtain ⟨i, hi, rfl⟩ := List.mem_map.mp hz
      obtain ⟨y, ey, my⟩ := at_ i (List.mem_range.mp hi)
      obtain ⟨n, hn⟩ := hols_mem hall y my
      rw [hp]
      have e : q i = (hol y != some 0) := by
        show ((l.a ++ x :: l.b)[i]?.map fun y => hol y != some 0).getD false = _
        rw [ey]; rfl
      rw [e]
      simp [wipeG, ix, ey, r_has_hole h2 k y n S (hdep y my) hn]) (fun z hz _ => by simp [wipeG])
  have fl : ((List.range (l.a.length + 1 + l.b.length)).map fun (i : Nat) => MP.D.int (1 + (i : Int))).filter p = [.int (1 + l.a.length)] := by
    rw [List.filter_map]
    have e : (p ∘ fun (i : Nat) => MP.D.int (1 + (i : Int))) = q := funext hp
    have h1 : ∀ i, i < l.a.length → q i = false := fun i hi => by
      show ((l.a ++ x :: l.b)[i]?.map fun y => hol y != some 0).getD false = _
      rw [List.getElem?_append_left hi, List.getElem?_eq_getElem hi]
      have := hols_zero hl.ha (l.a[i]) (List.getElem_mem _)
      simp [this]
    have h2 : q l.a.length = true := by
      show ((l.a ++ x :: l.b)[l.a.length]?.map fun y => hol y != some 0).getD false = _
      rw [List.getElem?_append_right (Nat.le_refl _)]
      simp [hx]
    have h3 : ∀ i, i < l.b.length → q (l.a.length + 1 + i) = false := fun i hi => by
      show ((l.a ++ x :: l.b)[l.a.length + 1 + i]?.map fun y => hol y != some 0).getD false = _
      rw [List.getElem?_append_right (by omega), show l.a.length + 1 + i - l.a.length = i + 1 by omega, List.getElem?_cons_succ, List.getElem?_eq_getElem hi]
      have := hols_zero hl.hb (l.b[i]) (List.getElem_mem _)
      simp [this]
    rw [e, range_one h1 h2 h3]
    rfl
  rw [fl] at c
  have hlen2 : primW .len false [.d (l.on x)] S = .ok (.d (.int (((l.a.length + 1 + l.b.length : Nat) : Int) + 1))) S := by
    show primW .len false [.d (.tup (.str l.s :: (l.a ++ x :: l.b)))] S = _
    rw [p_lent, List.length_cons, hlen, Int.natCast_add]
    rfl
  have ok1 : okI (((l.a.length + 1 + l.b.length : Nat) : Int) + 1) = true := by
    unfold okI
    simp only [Bool.and_eq_true, decide_eq_true_eq]
    omega
  have rg : itemsW .rng [.d (.int 1), .d (.int (((l.a.length + 1 + l.b.length : Nat) : Int) + 1))] = some (((List.range (l.a.length + 1 + l.b.length)).map fun (i : Nat) => MP.D.int (1 + (i : Int))).map W.d) := by
    rw [it_r2, ok1, rgI_map]
    rfl
  have src : evs (run P k) (.cons (.c (.int 1)) (.cons (.prim .len false (.cons (.v 0) .nil)) .nil)) [some (.d (l.on x)), none] S = .ok [.d (.int 1), .d (.int (((l.a.length + 1 + l.b.length : Nat) : Int) + 1))] S := by
    simp only [k_asg, k_par, k_exp, k_if, k_set3, k_set2, k_set1, k_for2, k_for, k_up, k_bin, k_cmp2, k_cmp, k_idx2, k_idx, k_cons2, k_cons, k_ite, k_and, k_or, k_orT, k_ch2, k_ch, k_meth, k_sl2, k_sl, k_comp, es_cons, es_nil, e_c, e_prim, e_v, List.getElem?_cons_zero, vr_some, bind_ok, hlen2]
  have body : ev (run P k) (.comp false .rng (.cons (.c (.int 1)) (.cons (.prim .len false (.cons (.v 0) .nil)) .nil)) (.v 1) [1] (.some (.call "has_hole" (.cons (.idx (.v 0) (.v 1)) .nil))) (.v 1)) [some (.d (l.on x)), none] S = .ok (.d (.lst (([MP.D.int (1 + (l.a.length : Int))] : List MP.D).map id))) S := by
    rw [ev_comp, src, bind_ok, k_comp, rg, evc_some]
    exact c
  show fin S (exec (run P k) _ [some (.d (l.on x)), none] S) = _
  rw [x_seq, x_ret, e_idx, body]
  simp [trim_same]
end
end MP
end

section
set_option maxHeartbeats 4000000
namespace MP
open PySem
section
variable {P : List Fd}
/-! ### filled, taken apart, put together -/
structure HFr (P : List Fd) : Prop where
  hole_number : B.H_hole_number P
  has_hole : B.H_has_hole P
  made_filled : B.H_made_filled P
theorem on_eqv {l : Lv} {x : MP.D} : (l.on x).eqv (.tup []) = false := rfl
theorem cut_lo (l : Lv) (x : MP.D) : cutG (.str l.s :: (l.a ++ x :: l.b)) none (some (1 + (l.a.length : Int))) = .str l.s :: l.a := by
  have e : (1 + (l.a.length : Int)) = ((l.a.length + 1 : Nat) : Int) := by omega
  rw [e, cut_to, List.take_succ_cons, List.take_append_of_le_length (Nat.le_refl _), List.take_length]
theorem cut_hi (l : Lv) (x : MP.D) : cutG (.str l.s :: (l.a ++ x :: l.b)) (some (1 + (l.a.length : Int) + 1)) none = l.b := by
  have e : (1 + (l.a.length : Int) + 1) = ((l.a.length + 1 + 1 : Nat) : Int) := by omega
  rw [e, cut_from, List.drop_succ_cons, List.drop_append, List.drop_eq_nil_of_le (by omega)]
  rw [show l.a.length + 1 - l.a.length = 1 by omega]
  rfl
theorem at_on (l : Lv) (x : MP.D) (S : Store) : idxW S (.d (l.on x)) (.d (.int (1 + (l.a.length : Int)))) = some (.d x) := by
  have e : (1 + (l.a.length : Int)) = ((l.a.length + 1 : Nat) : Int) := by omega
  show idxW S (.d (.tup (.str l.s :: (l.a ++ x :: l.b)))) _ = _
  rw [idx_tup, e, atN, List.getElem?_map, List.getElem?_cons_succ, List.getElem?_append_right (Nat.le_refl _), Nat.sub_self]
  rfl
theorem slice_lo (l : Lv) (x : MP.D) (S : Store) : slW false (.d (l.on x)) none (some (1 + (l.a.length : Int))) S = .ok (.d (.tup (.str l.s :: l.a))) S := by
  show slW false (.d (.tup (.str l.s :: (l.a ++ x :: l.b)))) _ _ S = _
  rw [slice_tup, cut_lo]
theorem slice_hi (l : Lv) (x : MP.D) (S : Store) : slW false (.d (l.on x)) (some (1 + (l.a.length : Int) + 1)) none S = .ok (.d (.tup l.b)) S := by
  show slW false (.d (.tup (.str l.s :: (l.a ++ x :: l.b)))) _ _ S = _
  rw [slice_tup, cut_hi]
theorem line_of {n : Nat} (h : n ≤ 1000) : n ≤ line := Nat.le_trans h (by decide)
theorem line_lt {n : Nat} (h : n ≤ 1000) : n < line := Nat.lt_of_le_of_lt h (by decide)
theorem mid_on {l : Lv} (hl : l.Ok) (x : MP.D) (S : Store) : (binW .add false (.d (.tup (.str l.s :: l.a))) (.d (.tup [x])) S).bind (fun w S1 => binW .add false w (.d (.tup l.b)) S1) = .ok (.d (l.on x)) S := by
  have few := hl.few
  rw [add_tup, if_pos (line_of (by simp; omega)), bind_ok, add_tup, if_pos (line_of (by simp; omega))]
  unfold Lv.on
  simp
theorem depth_on (l : Lv) (x : MP.D) : x.depth + 1 ≤ (l.on x).depth := by
  have e : (l.on x).depth = D.depths (.str l.s :: (l.a ++ x :: l.b)) + 1 := rfl
  have := depth_mem (xs := .str l.s :: (l.a ++ x :: l.b)) x (by simp)
  omega
theorem r_made_filled (h : HFr P) : ∀ (w : List Lv) (k : Nat) (x : MP.D) (S : Store), wsz w + w.length + 5 ≤ k → OkW w → run P k "made_filled" [.d (fr w), .d x] S = .ok (.d (plug w x)) S
  | [], k, x, S, hk, _ => by
    obtain ⟨k, rfl⟩ : ∃ j, k = j + 1 := ⟨k - 1, by omega⟩
    rw [run_eq h.made_filled _ _ _ rfl]
    unfold B.b_made_filled
    simp [fr, plug, eqv_nil, trim_same]
  | l :: w, k, x, S, hk, ho => by
    obtain ⟨k, rfl⟩ : ∃ j, k = j + 1 := ⟨k - 1, by omega⟩
    rw [run_eq h.made_filled _ _ _ rfl]
    unfold B.b_made_filled
    have hsz : wsz (l :: w) = l.sz + wsz w := by simp [wsz]
    have h1 : 1 ≤ l.sz := by unfold Lv.sz; omega
    simp only [List.length_cons] at hk
    have hh := hol_fr ho.tail
    have hd := depth_sz (hol_fr ho)
    rw [sz_fr] at hd
    have e : fr (l :: w) = l.on (fr w) := rfl
    have hn := r_hole_number h.hole_number h.has_hole k l (fr w) S (by rw [← e]; omega) ho.head hh
    have ih := r_made_filled h w k x S (by omega) ho.tail
    rw [e]
    have mid := mid_on ho.head (plug w x) S
    rw [add_tup, if_pos (line_of (by have := ho.head.few; simp; omega)), bind_ok] at mid
    have l2 : l.a.length + 1 + 1 ≤ line := line_of (by have := ho.head.few; omega)
    simp only [List.cons_append] at mid
    simp [on_eqv, hn, at_on, slice_lo, slice_hi, ih, add_tup, l2, mid, trim_same, plug]
/-- a list that is appended to -/
@[simp] theorem app_ref {n : Nat} {x : MP.D} {S : Store} : methW .append (.ref n) [.d x] S = match lsO S[n]? with
  | some ws => if ws.length < line then .ok (.d .non) (S.set n (.lst (ws ++ [.d x]))) else .no
  | none => .no := by
  show (match S[n]? with
    | some (.lst ws) => if ws.length < line then (R.ok (W.d .non) (S.set n (.lst (ws ++ [W.d x]))) : R W) else .no
    | _ => .no) = _
  generalize S[n]? = o
  cases o with
  | none => rfl
  | some o => cases o <;> rfl
@[simp] theorem last_at {S : Store} {o : O} : (S ++ [o])[S.length]? = some o := by simp
@[simp] theorem last_set {S : Store} {o u : O} : (S ++ [o]).set S.length u = S ++ [u] := by
  rw [List.set_append_right _ _ (Nat.le_refl _), Nat.sub_self]
  rfl
@[simp] theorem new_lst {ws : List W} {S : Store} (h : ws.length ≤ line) : lstW true ws S = .ok (.ref S.length) (S ++ [.lst ws]) := by
  unfold lstW mkL
  rw [if_pos h, if_pos rfl]
@[simp] theorem x_frz {cl : Calls} {i : Nat} {σ : St} {S : Store} : exec cl (.frz i) σ S = match σ[i]? with
  | some (some w) => match freeze w S with
    | some (w', S') => .nx (σ.set i (some w')) S'
    | none => .no
  | _ => .no := (rfl)
theorem freeze_last {xs : List MP.D} {S : Store} : freeze (.ref S.length) (S ++ [.lst (xs.map .d)]) = some (.d (.lst xs), S ++ [.dead]) := by
  unfold freeze
  simp only [last_at, pures_map, last_set]
theorem trim_last {x : MP.D} {S : Store} : trim S.length (.d x) (S ++ [.dead]) = S := by
  unfold trim
  simp [O.isDead]
theorem lv1_mid {l : Lv} (hl : l.Ok) (S : Store) : (binW .add false (.d (.tup (.str l.s :: l.a))) (.d (.tup [hole])) S).bind (fun w S1 => binW .add false w (.d (.tup l.b)) S1) = .ok (.d (lv1 l)) S := mid_on hl hole S
theorem r_levels_of (h : HFr P) (h2 : B.H_levels_of P) (w : List Lv) (k : Nat) (S : Store) (hk : wsz w + 5 ≤ k) (ho : OkW w) (hl : w.length ≤ 1000) : run P k "levels_of" [.d (fr w)] S = .ok (.d (.lst (w.map lv1))) S := by
  obtain ⟨k, rfl⟩ : ∃ j, k = j + 1 := ⟨k - 1, by omega⟩
  rw [run_eq h2 _ _ _ rfl]
  unfold B.b_levels_of
  have loop : ∀ (w : List Lv) (acc : List MP.D) (o : Option W), wsz w + 4 ≤ k → OkW w → acc.length + w.length ≤ 1000 → ∃ o', whileF (ev (run P k) (.cmp .ne (.v 0) (.g "HOLE" (.tup []))))
      (exec (run P k) (.seq (.asg (.v 2) (.call "hole_number" (.cons (.v 0) .nil)))
        (.seq (.exp (.meth .append (.v 1) (.cons (.bin .add false (.bin .add false (.sl false (.v 0) .none (.some (.v 2))) (.tup (.cons (.g "HOLE" (.tup [])) .nil))) (.sl false (.v 0) (.some (.bin .add false (.v 2) (.c (.int 1)))) .none)) .nil)))
        (.seq (.asg (.v 0) (.idx (.v 0) (.v 2))) .skip))))
      [some (.d (fr w)), some (.ref S.length), o] (S ++ [.lst (acc.map .d)]) = .nx [some (.d hole), some (.ref S.length), o'] (S ++ [.lst ((acc ++ w.map lv1).map .d)]) := fun w => by
    induction w with
    | nil =>
      intro acc o hk ho hl
      refine ⟨o, ?_⟩
      rw [while_stop (S1 := S ++ [.lst (acc.map .d)]) (by simp [fr, plug, eqv_nil])]
      simp [fr, plug]
    | cons l w ih =>
      intro acc o hk ho hl
      have hsz : wsz (l :: w) = l.sz + wsz w := by simp [wsz]
      have h1 : 1 ≤ l.sz := by unfold Lv.sz; omega
      have hd := depth_sz (hol_fr ho)
      rw [sz_fr] at hd
      have e : fr (l :: w) = l.on (fr w) := rfl
      simp only [List.length_cons] at hl
      obtain ⟨o', q⟩ := ih (acc ++ [lv1 l]) (some (.d (.int (1 + (l.a.length : Int))))) (by omega) ho.tail (by simp; omega)
      refine ⟨o', ?_⟩
      have hn := r_hole_number h.hole_number h.has_hole k l (fr w) (S ++ [.lst (acc.map .d)]) (by rw [← e]; omega) ho.head (hol_fr ho.tail)
      rw [e]
      have l2 : l.a.length + 1 + 1 ≤ line := line_of (by have := ho.head.few; omega)
      have l3 : l.a.length + 1 + 1 + l.b.length ≤ line := line_of (by have := ho.head.few; omega)
      have hlv : MP.D.tup (.str l.s :: (l.a ++ .tup [] :: l.b)) = lv1 l := rfl
      have la : acc.length < line := line_lt (by omega)
      rw [while_step (S1 := S ++ [.lst (acc.map .d)]) (σ2 := [some (.d (fr w)), some (.ref S.length), some (.d (.int (1 + (l.a.length : Int))))]) (S2 := S ++ [.lst ((acc ++ [lv1 l]).map .d)]) (by simp [on_eqv]) (by
        simp [hn, slice_lo, slice_hi, add_tup, l2, l3, hlv, la, at_on]), q]
      simp
  obtain ⟨o', q⟩ := loop w [] none (by omega) ho (by simpa using hl)
  simp only [List.map_nil, List.nil_append] at q
  simp only [k_asg, k_par, k_exp, k_if, k_set3, k_set2, k_set1, k_for2, k_for, k_up, k_bin, k_cmp2, k_cmp, k_idx2, k_idx, k_cons2, k_cons, k_ite, k_and, k_or, k_orT, k_ch2, k_ch, k_meth, k_sl2, k_sl, k_comp, List.map_cons, List.map_nil, List.length_cons, List.length_nil, List.replicate, Nat.reduceAdd, Nat.reduceSub, List.cons_append, List.nil_append, x_seq, x_asg, e_lst, es_nil, bind_ok, new_lst (ws := []) (Nat.zero_le _), toF_ok, tg_v, List.set_cons_succ, List.set_cons_zero, seq_nx, x_while]
  rw [q]
  generalize w.map lv1 = L
  simp [freeze_last, trim_last]
theorem plug_lv1 {l : Lv} : lv1 l = fr [l] := rfl
@[simp] theorem rev_lst {xs : List MP.D} {S : Store} : revW false (.d (.lst xs)) S = .ok (.d (.lst xs.reverse)) S := by
  unfold revW
  simp only [lstOf]
  unfold mkL
  rw [if_neg Bool.false_ne_true, ← List.map_reverse, pures_map]
theorem wsz_one (l : Lv) : wsz [l] = l.sz := by simp [wsz]
theorem wsz_mem : ∀ {w : List Lv} {l : Lv}, l ∈ w → l.sz ≤ wsz w
  | [], _, h => absurd h (by simp)
  | x :: w, l, h => by
    have e : wsz (x :: w) = x.sz + wsz w := by simp [wsz]
    rcases List.mem_cons.mp h with rfl | h
    · omega
    · have := wsz_mem h
      omega
theorem r_put_together (h : HFr P) (h2 : B.H_put_together P) (w : List Lv) (k : Nat) (S : Store) (hk : wsz w + 7 ≤ k) (ho : OkW w) : run P k "put_together" [.d (.lst (w.map lv1))] S = .ok (.d (fr w)) S := by
  obtain ⟨k, rfl⟩ : ∃ j, k = j + 1 := ⟨k - 1, by omega⟩
  rw [run_eq h2 _ _ _ rfl]
  unfold B.b_put_together
  have loop : ∀ (v r : List Lv) (o : Option W), wsz (v.reverse ++ r) + 6 ≤ k → OkW (v.reverse ++ r) → ∃ o', forS (run P k) (.v 2) (.seq (.asg (.v 1) (.call "made_filled" (.cons (.v 2) (.cons (.v 1) .nil)))) .skip) ((v.map lv1).map W.d) [some (.d (.lst (w.map lv1))), some (.d (fr r)), o] S = .nx [some (.d (.lst (w.map lv1))), some (.d (fr (v.reverse ++ r))), o'] S := fun v => by
    induction v with
    | nil =>
      intro r o hk ho
      exact ⟨o, rfl⟩
    | cons l v ih =>
      intro r o hk ho
      have er : (l :: v).reverse ++ r = v.reverse ++ (l :: r) := by simp
      rw [er] at hk ho ⊢
      obtain ⟨o', q⟩ := ih (l :: r) (some (.d (lv1 l))) hk ho
      refine ⟨o', ?_⟩
      have hol1 : OkW [l] := fun x hx => by
        rw [List.mem_singleton] at hx
        subst hx
        exact ho x (by simp)
      have hs : l.sz ≤ wsz (v.reverse ++ (l :: r)) := wsz_mem (by simp)
      have f := r_made_filled h [l] k (fr r) S (by rw [wsz_one]; simp; omega) hol1
      have f' : run P k "made_filled" [.d (lv1 l), .d (fr r)] S = .ok (.d (fr (l :: r))) S := f
      simp only [k_asg, k_par, k_exp, k_if, k_set3, k_set2, k_set1, k_for2, k_for, k_up, k_bin, k_cmp2, k_cmp, k_idx2, k_idx, k_cons2, k_cons, k_ite, k_and, k_or, k_orT, k_ch2, k_ch, k_meth, k_sl2, k_sl, k_comp, List.map_cons, for_cons, tgs_v, upon_some, x_seq, x_asg, e_call, es_cons, es_nil, e_v, List.set_cons_succ, List.set_cons_zero, List.getElem?_cons_succ, List.getElem?_cons_zero, vr_some, bind_ok, f', toF_ok, tg_v, seq_nx, x_skip]
      exact q
  obtain ⟨o', q⟩ := loop w.reverse [] none (by simpa using hk) (by simpa using ho)
  simp only [List.reverse_reverse, List.append_nil] at q
  have er : (w.map lv1).reverse = w.reverse.map lv1 := List.map_reverse.symm
  simp only [k_asg, k_par, k_exp, k_if, k_set3, k_set2, k_set1, k_for2, k_for, k_up, k_bin, k_cmp2, k_cmp, k_idx2, k_idx, k_cons2, k_cons, k_ite, k_and, k_or, k_orT, k_ch2, k_ch, k_meth, k_sl2, k_sl, k_comp, List.map_cons, List.map_nil, List.length_cons, List.length_nil, List.replicate, Nat.reduceAdd, Nat.reduceSub, List.cons_append, List.nil_append, x_seq, x_asg, e_g, toF_ok, tg_v, List.set_cons_succ, List.set_cons_zero, seq_nx, x_for, es_cons, es_nil, e_rev, e_v, List.getElem?_cons_zero, vr_some, bind_ok, rev_lst, it_lst, er, walk_some]
  have e0 : (MP.D.tup []) = fr [] := rfl
  rw [e0, q]
  simp [trim_same]
end
end MP
end

section
set_option maxHeartbeats 4000000
namespace MP
open PySem
/-! ### equal data -/
mutual
theorem eqv_refl : ∀ x : MP.D, x.eqv x = true
  | .non => rfl
  | .bl b => by simp [D.eqv]
  | .int i => by simp [D.eqv]
  | .str s => by simp [D.eqv]
  | .tup xs => by simp only [D.eqv]; exact eqvs_refl xs
  | .lst xs => by simp only [D.eqv]; exact eqvs_refl xs
theorem eqvs_refl : ∀ xs : List MP.D, D.eqvs xs xs = true
  | [] => rfl
  | x :: xs => by simp only [D.eqvs, eqv_refl x, eqvs_refl xs, Bool.and_self]
end
mutual
theorem eqv_hol : ∀ {x y : MP.D} {n : Nat}, hol x = some n → x.eqv y = true → x = y
  | .tup [], y, n, _, h => by
    cases y with
    | tup ys => cases ys with
      | nil => rfl
      | cons _ _ => cases h
    | _ => cases h
  | .tup (m :: ps), y, n, hx, h => by
    rcases hol_tup hx with e | ⟨s, qs, e, _, _, hh⟩
    · cases e
    · cases e
      cases y with
      | tup ys => cases ys with
        | nil => cases h
        | cons z zs =>
          have h : ((MP.D.str s).eqv z && D.eqvs ps zs) = true := h
          obtain ⟨h1, h2⟩ := Bool.and_eq_true_iff.mp h
          rw [eqvs_hol hh h2]
          cases z with
          | str t =>
            have : (s == t) = true := h1
            rw [beq_iff_eq.mp this]
          | _ => cases h1
      | _ => cases h
  | .non, _, _, h, _ => by simp [hol] at h
  | .bl _, _, _, h, _ => by simp [hol] at h
  | .int _, _, _, h, _ => by simp [hol] at h
  | .str _, _, _, h, _ => by simp [hol] at h
  | .lst _, _, _, h, _ => by simp [hol] at h
theorem eqvs_hol : ∀ {xs ys : List MP.D} {n : Nat}, hols xs = some n → D.eqvs xs ys = true → xs = ys
  | [], ys, _, _, h => by
    cases ys with
    | nil => rfl
    | cons _ _ => cases h
  | x :: xs, ys, n, hx, h => by
    obtain ⟨a, ha⟩ := hols_mem hx x List.mem_cons_self
    cases ys with
    | nil => cases h
    | cons y ys =>
      have h : (x.eqv y && D.eqvs xs ys) = true := h
      obtain ⟨h1, h2⟩ := Bool.and_eq_true_iff.mp h
      cases hb : hols xs with
      | none => simp only [hols, ha, hb] at hx; cases hx
      | some b => rw [eqv_hol ha h1, eqvs_hol hb h2]
end
theorem split_one {α : Type} {q : α → Bool} : ∀ {a a' : List α} {h h' : α} {b b' : List α}, (∀ p ∈ a, q p = false) → (∀ p ∈ a', q p = false) → q h = true → q h' = true → a ++ h :: b = a' ++ h' :: b' → a = a' ∧ h = h' ∧ b = b'
  | [], [], h, h', b, b', _, _, _, _, e => by
    simp at e
    exact ⟨rfl, e.1, e.2⟩
  | [], x :: a', h, h', b, b', _, h2, h3, _, e => by
    simp at e
    have := h2 x List.mem_cons_self
    rw [← e.1, h3] at this
    cases this
  | x :: a, [], h, h', b, b', h1, _, _, h4, e => by
    simp at e
    have := h1 x List.mem_cons_self
    rw [e.1, h4] at this
    cases this
  | x :: a, y :: a', h, h', b, b', h1, h2, h3, h4, e => by
    simp at e
    obtain ⟨e1, e2⟩ := e
    obtain ⟨r1, r2, r3⟩ := split_one (fun p hp => h1 p (List.mem_cons_of_mem _ hp)) (fun p hp => h2 p (List.mem_cons_of_mem _ hp)) h3 h4 e2
    exact ⟨by rw [e1, r1], r2, r3⟩
theorem on_inj {l l' : Lv} {x x' : MP.D} (h : l.Ok) (h' : l'.Ok) (hx : hol x = some 1) (hx' : hol x' = some 1) (e : l.on x = l'.on x') : l = l' ∧ x = x' := by
  unfold Lv.on at e
  simp only [MP.D.tup.injEq, List.cons.injEq, MP.D.str.injEq] at e
  obtain ⟨e1, e2⟩ := e
  have q0 : ∀ {ps : List MP.D}, hols ps = some 0 → ∀ p ∈ ps, (hol p != some 0) = false := fun h p hp => by rw [hols_zero h p hp]; rfl
  obtain ⟨r1, r2, r3⟩ := split_one (q := fun p => hol p != some 0) (q0 h.ha) (q0 h'.ha) (by rw [hx]; rfl) (by rw [hx']; rfl) e2
  cases l
  cases l'
  simp_all
theorem fr_inj : ∀ {w u : List Lv}, OkW w → OkW u → fr w = fr u → w = u
  | [], [], _, _, _ => rfl
  | [], l :: u, _, _, e => by cases e
  | l :: w, [], _, _, e => by cases e
  | l :: w, l' :: u, h, h', e => by
    obtain ⟨r1, r2⟩ := on_inj h.head h'.head (hol_fr h.tail) (hol_fr h'.tail) e
    rw [r1, fr_inj h.tail h'.tail r2]
theorem lvs_inj : ∀ {w u : List Lv}, OkW w → OkW u → w.map lv1 = u.map lv1 → w = u
  | [], [], _, _, _ => rfl
  | [], l :: u, _, _, e => by cases e
  | l :: w, [], _, _, e => by cases e
  | l :: w, l' :: u, h, h', e => by
    simp only [List.map_cons, List.cons.injEq] at e
    obtain ⟨r1, _⟩ := on_inj h.head h'.head hol_hole hol_hole e.1
    rw [r1, lvs_inj h.tail h'.tail e.2]
theorem hols_lvs : ∀ {w : List Lv}, OkW w → hols (w.map lv1) = some w.length
  | [], _ => rfl
  | l :: w, h => by
    have e : hol (lv1 l) = some 1 := hol_on h.head hol_hole
    simp only [List.map_cons, hols, e, hols_lvs h.tail, List.length_cons]
    congr 1
    omega
theorem szs_lvs : ∀ w : List Lv, szs (w.map lv1) = wsz w
  | [] => rfl
  | l :: w => by
    have e : sz (lv1 l) = l.sz := by unfold lv1; rw [sz_on]; rfl
    have e2 : wsz (l :: w) = l.sz + wsz w := by simp [wsz]
    simp only [List.map_cons, szs, e, szs_lvs w, e2]
theorem depth_lvs {w : List Lv} (h : OkW w) : (MP.D.lst (w.map lv1)).depth ≤ wsz w + 2 := by
  have := depths_szs (hols_lvs h)
  rw [szs_lvs] at this
  show D.depths _ + 1 ≤ _
  omega
theorem ok2_of {x y : MP.D} (h : y.depth ≤ 100) : x.ok2 y = true := by
  unfold D.ok2
  have : min x.depth y.depth ≤ 100 := by omega
  simp [this]
open Classical in
theorem eq_lvs {w u : List Lv} (h : OkW w) (h' : OkW u) (hs : wsz u ≤ 90) (S : Store) : cmpO .eq S (.d (.lst (w.map lv1))) (.d (.lst (u.map lv1))) = some (decide (w = u)) := by
  have := depth_lvs h'
  rw [cmp_eq, ok2_of (by omega), if_pos rfl]
  congr 1
  rw [Bool.eq_iff_iff, decide_eq_true_iff]
  constructor
  · intro e
    exact lvs_inj h h' (eqvs_hol (hols_lvs h) e)
  · intro e
    rw [e]
    exact eqv_refl _
open Classical in
theorem eq_frs {w u : List Lv} (h : OkW w) (h' : OkW u) (hs : wsz u ≤ 90) (S : Store) : cmpO .eq S (.d (fr w)) (.d (fr u)) = some (decide (w = u)) := by
  have := depth_sz (hol_fr h')
  rw [sz_fr] at this
  rw [cmp_eq, ok2_of (by omega), if_pos rfl]
  congr 1
  rw [Bool.eq_iff_iff, decide_eq_true_iff]
  constructor
  · intro e
    exact fr_inj h h' (eqv_hol (hol_fr h) e)
  · intro e
    rw [e]
    exact eqv_refl _
theorem mul_lst {xs : List MP.D} {m : Nat} {S : Store} (hm : m ≤ 1000) (hl : xs.length ≤ 1000) : binW .mul false (.d (.lst xs)) (.d (.int (m : Int))) S = .ok (.d (.lst (List.replicate m xs).flatten)) S := by
  show mulW false (.d (.lst xs)) (.d (.int (m : Int))) S = _
  unfold mulW
  have h1 : decide (-9223372036854775808 ≤ (m : Int)) = true := by rw [decide_eq_true_iff]; omega
  have h2 : decide ((m : Int) < 9223372036854775808) = true := by rw [decide_eq_true_iff]; omega
  have h3 : decide ((xs.map W.d).length * m ≤ line) = true := by
    rw [decide_eq_true_iff, List.length_map]
    exact Nat.le_trans (Nat.mul_le_mul hl hm) (by decide)
  simp only [lstOf, h1, h2, h3, Bool.and_self, if_true, Int.toNat_natCast]
  unfold mkL
  rw [if_neg Bool.false_ne_true, ← List.map_replicate, ← List.map_flatten, pures_map]
theorem pw_lvs (w : List Lv) (m : Nat) : (List.replicate m (w.map lv1)).flatten = (Wd.pw w m).map lv1 := by
  unfold Wd.pw
  rw [List.map_flatten, List.map_replicate]
section
variable {P : List Fd}
structure HPow (P : List Fd) : Prop extends HSure P, HFr P where
  levels_of : B.H_levels_of P
  put_together : B.H_put_together P
  made_power : B.H_made_power P
  power_of : B.H_power_of P
  put_in : B.H_put_in P
  commute : B.H_commute P
  root_of : B.H_root_of P
  is_between : B.H_is_between P
  is_number : B.H_is_number P
theorem r_made_power (h : HPow P) (w : List Lv) (m : Nat) (k : Nat) (S : Store) (hk : m * wsz w + wsz w + 8 ≤ k) (ho : OkW w) (hm : m ≤ 1000) (hl : w.length ≤ 1000) : run P k "made_power" [.d (fr w), .d (.int (m : Int))] S = .ok (.d (fr (Wd.pw w m))) S := by
  obtain ⟨k, rfl⟩ : ∃ j, k = j + 1 := ⟨k - 1, by omega⟩
  rw [run_eq h.made_power _ _ _ rfl]
  unfold B.b_made_power
  have e1 := r_levels_of h.toHFr h.levels_of w k S (by omega) ho hl
  have e2 := mul_lst (S := S) (xs := w.map lv1) hm (by simpa using hl)
  rw [pw_lvs] at e2
  have e3 := r_put_together h.toHFr h.put_together (Wd.pw w m) k S (by rw [wsz_pw]; omega) (ho.pw m)
  simp [e1, e2, e3, trim_same]
theorem r_power_of (h : HPow P) (w : List Lv) (m : Nat) (k : Nat) (S : Store) (hk : m * wsz w + wsz w + 70 ≤ k) (ho : OkW w) (hm : m ≤ 20) (hs : wsz w ≤ 60) : run P k "power_of" [.d (fr w), .d (.int (m : Int))] S = .ok (.d (fr (Wd.pw w m))) S := by
  obtain ⟨k, rfl⟩ : ∃ j, k = j + 3 := ⟨k - 3, by omega⟩
  rw [run_eq h.power_of _ _ _ rfl]
  unfold B.b_power_of
  have hl := len_wsz w
  have e1 := r_sure_frame h.toHSure (k + 2) (fr w) S (by omega) (hol_fr ho) (by rw [sz_fr]; exact hs)
  have e2 := r_is_between h.is_between h.is_number k (m : Int) 0 20 S
  have e3 : (decide ((0 : Int) ≤ (m : Int)) && decide ((m : Int) ≤ 20)) = true := by simp; omega
  rw [e3] at e2
  have e4 := r_made_power h w m (k + 2) S (by omega) ho (by omega) (by omega)
  simp [e1, e2, r_sure h.sure, e4, trim_same]
theorem r_put_in (h : HPow P) (w u : List Lv) (k : Nat) (S : Store) (hk : 128 ≤ k) (ho : OkW w) (ho' : OkW u) (hs : wsz w ≤ 60) (hs' : wsz u ≤ 60) : run P k "put_in" [.d (fr w), .d (fr u)] S = .ok (.d (fr (w ++ u))) S := by
  obtain ⟨k, rfl⟩ : ∃ j, k = j + 1 := ⟨k - 1, by omega⟩
  rw [run_eq h.put_in _ _ _ rfl]
  unfold B.b_put_in
  have hl := len_wsz w
  have e1 := r_sure_frame h.toHSure k (fr w) S (by omega) (hol_fr ho) (by rw [sz_fr]; exact hs)
  have e2 := r_sure_frame h.toHSure k (fr u) S (by omega) (hol_fr ho') (by rw [sz_fr]; exact hs')
  have e3 := r_made_filled h.toHFr w k (fr u) S (by omega) ho
  have e4 : plug w (fr u) = fr (w ++ u) := plug_app.symm
  rw [e4] at e3
  simp [e1, e2, e3, trim_same]
open Classical in
theorem r_commute (h : HPow P) (w u : List Lv) (k : Nat) (S : Store) (hk : 128 ≤ k) (ho : OkW w) (ho' : OkW u) (hs : wsz w ≤ 60) (hs' : wsz u ≤ 60) (hss : wsz w + wsz u ≤ 90) : run P k "commute" [.d (fr w), .d (fr u)] S = .ok (.d (.bl (decide (w ++ u = u ++ w)))) S := by
  obtain ⟨k, rfl⟩ : ∃ j, k = j + 1 := ⟨k - 1, by omega⟩
  rw [run_eq h.commute _ _ _ rfl]
  unfold B.b_commute
  have hl := len_wsz w
  have hl' := len_wsz u
  have e1 := r_sure_frame h.toHSure k (fr w) S (by omega) (hol_fr ho) (by rw [sz_fr]; exact hs)
  have e2 := r_sure_frame h.toHSure k (fr u) S (by omega) (hol_fr ho') (by rw [sz_fr]; exact hs')
  have e3 := r_made_filled h.toHFr w k (fr u) S (by omega) ho
  have e4 : plug w (fr u) = fr (w ++ u) := plug_app.symm
  rw [e4] at e3
  have e5 := r_made_filled h.toHFr u k (fr w) S (by omega) ho'
  have e6 : plug u (fr w) = fr (u ++ w) := plug_app.symm
  rw [e6] at e5
  have e7 := eq_frs (ho.app ho') (ho'.app ho) (by rw [wsz_app]; omega) S
  simp [e1, e2, e3, e5, e7, trim_same]
end
end MP
end

section
set_option maxHeartbeats 4000000
namespace MP
open PySem
section
variable {P : List Fd}
theorem slice_lst_to {xs : List MP.D} {j : Nat} {S : Store} : slW false (.d (.lst xs)) none (some (j : Int)) S = .ok (.d (.lst (xs.take j))) S := by
  unfold slW
  simp only [lseqOf]
  unfold mkL
  rw [if_neg Bool.false_ne_true, cut_to, ← List.map_take, pures_map]
theorem rg_from (n : Nat) : rgI 1 ((n : Int) + 1) = (List.range' 1 n).map fun (i : Nat) => W.d (.int (i : Int)) := by
  rw [rgI_map, List.map_map, List.range'_eq_map_range, List.map_map]
  apply List.map_congr_left
  intro i _
  show W.d (MP.D.int (1 + (i : Int))) = W.d (MP.D.int ((1 + i : Nat) : Int))
  congr 2
theorem okI_small {i : Int} (h : -1000000 ≤ i) (h2 : i ≤ 1000000) : okI i = true := by
  unfold okI
  simp only [Bool.and_eq_true, decide_eq_true_eq]
  omega
/-! ### the root -/
def rootBody : MP.S := .seq (.ite (.and (.cmp .eq (.bin .mod false (.prim .len false (.cons (.v 1) .nil)) (.v 2)) (.c (.int 0))) (.cmp .eq (.bin .mul false (.sl false (.v 1) .none (.some (.v 2))) (.bin .fdiv false (.prim .len false (.cons (.v 1) .nil)) (.v 2))) (.v 1)))
    (.seq (.ret (.tup (.cons (.call "put_together" (.cons (.sl false (.v 1) .none (.some (.v 2))) .nil)) (.cons (.bin .fdiv false (.prim .len false (.cons (.v 1) .nil)) (.v 2)) .nil)))) .skip) .skip) .skip
theorem div_nat {n s : Nat} : ((n : Int) / (s : Int)) = ((n / s : Nat) : Int) := by omega
theorem f_mod {n s : Nat} {S : Store} (h : 1 ≤ s) : binW .mod false (.d (.int (n : Int))) (.d (.int (s : Int))) S = .ok (.d (.int ((n % s : Nat) : Int))) S := by
  rw [mod_int, if_pos (by omega)]
  congr 3
theorem f_div {n s : Nat} {S : Store} (h : 1 ≤ s) (h2 : s ≤ 1000000) : binW .fdiv false (.d (.int (n : Int))) (.d (.int (s : Int))) S = .ok (.d (.int ((n / s : Nat) : Int))) S := by
  have h1 : (decide ((0 : Int) < (s : Int)) && decide ((s : Int) < 1073741824)) = true := by simp; omega
  rw [fdiv_int, h1, if_pos rfl]
  congr 3
theorem f_nat {n m : Nat} {S : Store} : cmpO .eq S (.d (.int (n : Int))) (.d (.int (m : Int))) = some (decide (n = m)) := by
  rw [cmp_eqi]
  congr 1
  by_cases h : n = m
  · subst h; simp
  · have : (n : Int) ≠ (m : Int) := by omega
    simp [h, this]
theorem f_nat0 {n : Nat} {S : Store} : cmpO .eq S (.d (.int (n : Int))) (.d (.int 0)) = some (decide (n = 0)) := f_nat (m := 0)
open Classical in
theorem root_turn (h : HPow P) (w : List Lv) (s : Nat) (k : Nat) (x : W) (o : Option W) (S : Store) (hk : wsz w + 8 ≤ k) (ho : OkW w) (hw : wsz w ≤ 60) (h1 : 1 ≤ s) (h2 : s ≤ w.length) :
    exec (run P k) rootBody [some x, some (.d (.lst (w.map lv1))), some (.d (.int (s : Int)))] S = if Wd.Per w s then .rt (.d (.tup [fr (w.take s), .int ((w.length / s : Nat) : Int)])) S else .nx [some x, some (.d (.lst (w.map lv1))), some (.d (.int (s : Int)))] S := by
  have hl := len_wsz w
  have e1 := slice_lst_to (xs := w.map lv1) (j := s) (S := S)
  rw [← List.map_take] at e1
  have hdiv : w.length / s ≤ w.length := Nat.div_le_self _ _
  have e2 := mul_lst (S := S) (xs := (w.take s).map lv1) (m := w.length / s) (by omega) (by simp; omega)
  rw [pw_lvs] at e2
  have e3 := eq_lvs ((ho.take s).pw (w.length / s)) ho (by omega) S
  have e4 := r_put_together h.toHFr h.put_together (w.take s) k S (by have := wsz_take (w := w) s; omega) (ho.take s)
  have f1 := f_mod (n := w.length) (S := S) h1
  have f2 := f_div (n := w.length) (S := S) h1 (by omega)
  have f3 := f_nat0 (n := w.length % s) (S := S)
  unfold rootBody
  by_cases c : w.length % s = 0
  · rw [decide_eq_true c] at f3
    by_cases c2 : Wd.pw (w.take s) (w.length / s) = w
    · have p : Wd.Per w s := ⟨h1, c, c2⟩
      rw [decide_eq_true c2] at e3
      rw [if_pos p]
      simp only [List.map_cons, List.map_nil, List.length_cons, List.length_nil, List.replicate, Nat.reduceAdd, Nat.reduceSub, List.cons_append, List.nil_append, List.getElem?_cons_zero, List.getElem?_cons_succ, List.set_cons_zero, List.set_cons_succ, if_true, if_false, reduceIte, Bool.false_eq_true, decide_true, decide_false, Bool.not_true, Bool.not_false, trim_same, Bool.and_true, Bool.and_false, Bool.true_and, Bool.false_and, Bool.or_true, Bool.or_false, Bool.true_or, Bool.false_or, D.isStr, D.isTup, D.isLst, D.isInt, D.isBl, reduceCtorEq, bind_ok, bind_no, bind_ex, toF_ok, toF_no, toF_ex, seq_nx, seq_rt, seq_ex, seq_no, fin_nx, fin_rt, fin_no, fin_ex, trim_same', x_seq, x_skip, k_asg, x_asg, k_par, x_par, x_ret, k_exp, x_exp, cond_bl, k_if, x_ite, k_set3, k_set2, k_set1, x_setI, x_no, walk_some, upon_some, k_for2, k_for, x_for, for_nil, k_up, tg_v, tg_t, tgs_v, tgs_t, setAll_nil, setAll_cons, setsW_nil, setsW_cons, vr_some, e_v, e_c, e_g, e_nt, e_ng, nt_bl, ng_int, k_bin, e_bin, k_cmp2, k_cmp, e_cmp, k_idx2, k_idx, e_idx, e_tup, e_lst, e_call, e_prim, e_isi, es_nil, k_cons2, k_cons, es_cons, rcond_bl, k_ite, e_ite, k_and, e_and, k_or, e_or, k_orT, e_orT, ocond_some, k_ch2, k_ch, e_chain, k_meth, e_meth, eo_none, intR_int, eo_some, k_sl2, k_sl, e_sl, e_rev, okB_some', okW_some, add_int, sub_int, pow_int, add_tup, cmp_lt, cmp_le, cmp_gt, cmp_ge, cmp_nei, cmp_eq0, cmp_ne0, cmp_is, cmp_isn, lsO_lst, seq_ref, lst_ref, idx_ref, idx_tup, idx_lst, idx_scr, at0, at1, at2, p_int, p_intb, p_abs, p_lent, p_lenl, p_lens, p_tupl, p_tupt, set_ref, slice_tup, tupW_nil, tupW1, tupW2, tupW3, k_comp, ev_comp, evc_none, evc_some, it_lst, it_tup, it_str, it_r1, it_r2, isi_str, isi_tup, isi_lst, isi_int, isi_bl, isi_lt, isi_bs, p_lenstr, cmp_instr, x_while, app_ref, last_at, last_set, new_lst, x_frz, rev_lst, List.length_map, f1, f2, f3, e1, e2, e3, e4]
    · have p : ¬ Wd.Per w s := fun q => c2 q.2.2
      rw [decide_eq_false c2] at e3
      rw [if_neg p]
      simp only [List.map_cons, List.map_nil, List.length_cons, List.length_nil, List.replicate, Nat.reduceAdd, Nat.reduceSub, List.cons_append, List.nil_append, List.getElem?_cons_zero, List.getElem?_cons_succ, List.set_cons_zero, List.set_cons_succ, if_true, if_false, reduceIte, Bool.false_eq_true, decide_true, decide_false, Bool.not_true, Bool.not_false, trim_same, Bool.and_true, Bool.and_false, Bool.true_and, Bool.false_and, Bool.or_true, Bool.or_false, Bool.true_or, Bool.false_or, D.isStr, D.isTup, D.isLst, D.isInt, D.isBl, reduceCtorEq, bind_ok, bind_no, bind_ex, toF_ok, toF_no, toF_ex, seq_nx, seq_rt, seq_ex, seq_no, fin_nx, fin_rt, fin_no, fin_ex, trim_same', x_seq, x_skip, k_asg, x_asg, k_par, x_par, x_ret, k_exp, x_exp, cond_bl, k_if, x_ite, k_set3, k_set2, k_set1, x_setI, x_no, walk_some, upon_some, k_for2, k_for, x_for, for_nil, k_up, tg_v, tg_t, tgs_v, tgs_t, setAll_nil, setAll_cons, setsW_nil, setsW_cons, vr_some, e_v, e_c, e_g, e_nt, e_ng, nt_bl, ng_int, k_bin, e_bin, k_cmp2, k_cmp, e_cmp, k_idx2, k_idx, e_idx, e_tup, e_lst, e_call, e_prim, e_isi, es_nil, k_cons2, k_cons, es_cons, rcond_bl, k_ite, e_ite, k_and, e_and, k_or, e_or, k_orT, e_orT, ocond_some, k_ch2, k_ch, e_chain, k_meth, e_meth, eo_none, intR_int, eo_some, k_sl2, k_sl, e_sl, e_rev, okB_some', okW_some, add_int, sub_int, pow_int, add_tup, cmp_lt, cmp_le, cmp_gt, cmp_ge, cmp_nei, cmp_eq0, cmp_ne0, cmp_is, cmp_isn, lsO_lst, seq_ref, lst_ref, idx_ref, idx_tup, idx_lst, idx_scr, at0, at1, at2, p_int, p_intb, p_abs, p_lent, p_lenl, p_lens, p_tupl, p_tupt, set_ref, slice_tup, tupW_nil, tupW1, tupW2, tupW3, k_comp, ev_comp, evc_none, evc_some, it_lst, it_tup, it_str, it_r1, it_r2, isi_str, isi_tup, isi_lst, isi_int, isi_bl, isi_lt, isi_bs, p_lenstr, cmp_instr, x_while, app_ref, last_at, last_set, new_lst, x_frz, rev_lst, List.length_map, f1, f2, f3, e1, e2, e3]
  · have p : ¬ Wd.Per w s := fun q => c q.2.1
    rw [decide_eq_false c] at f3
    rw [if_neg p]
    simp only [List.map_cons, List.map_nil, List.length_cons, List.length_nil, List.replicate, Nat.reduceAdd, Nat.reduceSub, List.cons_append, List.nil_append, List.getElem?_cons_zero, List.getElem?_cons_succ, List.set_cons_zero, List.set_cons_succ, if_true, if_false, reduceIte, Bool.false_eq_true, decide_true, decide_false, Bool.not_true, Bool.not_false, trim_same, Bool.and_true, Bool.and_false, Bool.true_and, Bool.false_and, Bool.or_true, Bool.or_false, Bool.true_or, Bool.false_or, D.isStr, D.isTup, D.isLst, D.isInt, D.isBl, reduceCtorEq, bind_ok, bind_no, bind_ex, toF_ok, toF_no, toF_ex, seq_nx, seq_rt, seq_ex, seq_no, fin_nx, fin_rt, fin_no, fin_ex, trim_same', x_seq, x_skip, k_asg, x_asg, k_par, x_par, x_ret, k_exp, x_exp, cond_bl, k_if, x_ite, k_set3, k_set2, k_set1, x_setI, x_no, walk_some, upon_some, k_for2, k_for, x_for, for_nil, k_up, tg_v, tg_t, tgs_v, tgs_t, setAll_nil, setAll_cons, setsW_nil, setsW_cons, vr_some, e_v, e_c, e_g, e_nt, e_ng, nt_bl, ng_int, k_bin, e_bin, k_cmp2, k_cmp, e_cmp, k_idx2, k_idx, e_idx, e_tup, e_lst, e_call, e_prim, e_isi, es_nil, k_cons2, k_cons, es_cons, rcond_bl, k_ite, e_ite, k_and, e_and, k_or, e_or, k_orT, e_orT, ocond_some, k_ch2, k_ch, e_chain, k_meth, e_meth, eo_none, intR_int, eo_some, k_sl2, k_sl, e_sl, e_rev, okB_some', okW_some, add_int, sub_int, pow_int, add_tup, cmp_lt, cmp_le, cmp_gt, cmp_ge, cmp_nei, cmp_eq0, cmp_ne0, cmp_is, cmp_isn, lsO_lst, seq_ref, lst_ref, idx_ref, idx_tup, idx_lst, idx_scr, at0, at1, at2, p_int, p_intb, p_abs, p_lent, p_lenl, p_lens, p_tupl, p_tupt, set_ref, slice_tup, tupW_nil, tupW1, tupW2, tupW3, k_comp, ev_comp, evc_none, evc_some, it_lst, it_tup, it_str, it_r1, it_r2, isi_str, isi_tup, isi_lst, isi_int, isi_bl, isi_lt, isi_bs, p_lenstr, cmp_instr, x_while, app_ref, last_at, last_set, new_lst, x_frz, rev_lst, List.length_map, f1, f2, f3]
theorem root_loop (h : HPow P) (w : List Lv) (k : Nat) (x : W) (S : Store) (hk : wsz w + 8 ≤ k) (ho : OkW w) (hw : wsz w ≤ 60) (hne : w ≠ []) : ∀ (m s : Nat) (o : Option W), 1 ≤ s → s ≤ Wd.fp w → s + m = w.length + 1 →
    forS (run P k) (.v 2) rootBody ((List.range' s m).map fun (i : Nat) => W.d (.int (i : Int))) [some x, some (.d (.lst (w.map lv1))), o] S = .rt (.d (.tup [fr (Wd.rt w), .int ((w.length / Wd.fp w : Nat) : Int)])) S
  | 0, s, o, h1, h2, h3 => by
    have := Wd.per_le hne (Wd.fp_spec hne).1
    omega
  | m + 1, s, o, h1, h2, h3 => by
    classical
    rw [List.range'_succ, List.map_cons, for_cons, tgs_v, upon_some, k_up]
    simp only [List.set_cons_succ, List.set_cons_zero]
    rw [root_turn h w s k x o S hk ho hw h1 (by omega)]
    by_cases p : Wd.Per w s
    · have e : s = Wd.fp w := by
        have := (Wd.fp_spec hne).2 s p
        omega
      rw [if_pos p, seq_rt]
      subst e
      rfl
    · have e : s ≠ Wd.fp w := fun e => p (e ▸ (Wd.fp_spec hne).1)
      rw [if_neg p, seq_nx]
      exact root_loop h w k x S hk ho hw hne m (s + 1) _ (by omega) (by omega) (by omega)
theorem r_root_of (h : HPow P) (w : List Lv) (k : Nat) (S : Store) (hk : 128 ≤ k) (ho : OkW w) (hw : wsz w ≤ 60) (hne : w ≠ []) : run P k "root_of" [.d (fr w)] S = .ok (.d (.tup [fr (Wd.rt w), .int ((w.length / Wd.fp w : Nat) : Int)])) S := by
  obtain ⟨k, rfl⟩ : ∃ j, k = j + 1 := ⟨k - 1, by omega⟩
  rw [run_eq h.root_of _ _ _ rfl]
  have hl := len_wsz w
  have e1 := r_sure_frame h.toHSure k (fr w) S (by omega) (hol_fr ho) (by rw [sz_fr]; exact hw)
  have e2 := r_levels_of h.toHFr h.levels_of w k S (by omega) ho (by omega)
  have e3 := root_loop h w k (.d (fr w)) S (by omega) ho hw hne w.length 1 none (Nat.le_refl _) (Wd.fp_spec hne).1.1 (by omega)
  have e4 : itemsW .rng [.d (.int 1), .d (.int ((w.length : Int) + 1))] = some ((List.range' 1 w.length).map fun (i : Nat) => W.d (.int (i : Int))) := by
    rw [it_r2, okI_small (by omega) (by omega), okI_small (by omega) (by omega), ← rg_from]
    rfl
  have eb : B.b_root_of = .seq (.asg (.v 1) (.call "levels_of" (.cons (.call "sure_frame" (.cons (.v 0) .nil)) .nil))) (.seq (.for_ .rng (.cons (.c (.int 1)) (.cons (.bin .add false (.prim .len false (.cons (.v 1) .nil)) (.c (.int 1))) .nil)) (.v 2) rootBody) (.seq (.ret (.tup (.cons (.g "HOLE" (.tup [])) (.cons (.c (.int 0)) .nil)))) .skip)) := rfl
  rw [eb]
  simp [e1, e2, e4, e3, trim_same]
theorem r_root_nil (h : HPow P) (k : Nat) (S : Store) (hk : 128 ≤ k) : run P k "root_of" [.d (fr [])] S = .ok (.d (.tup [fr [], .int 0])) S := by
  obtain ⟨k, rfl⟩ : ∃ j, k = j + 1 := ⟨k - 1, by omega⟩
  rw [run_eq h.root_of _ _ _ rfl]
  unfold B.b_root_of
  have ho : OkW [] := fun l hl => absurd hl (by simp)
  have e1 := r_sure_frame h.toHSure k (fr []) S (by omega) (hol_fr ho) (by rw [sz_fr]; decide)
  have e2 := r_levels_of h.toHFr h.levels_of [] k S (by show 0 + 5 ≤ k; omega) ho (by decide)
  have e4 : itemsW .rng [.d (.int 1), .d (.int 1)] = some [] := by
    rw [it_r2, okI_small (by omega) (by omega)]
    rfl
  simp [e1, e2, e4, trim_same]
  rfl
end
end MP
end

section
set_option maxHeartbeats 4000000
namespace MP
open PySem
/-! ### the laws' own helpers: what is drawn -/
abbrev bx (a b c : Int) : O := .lst [.d (.int a), .d (.int b), .d (.int c)]
/-- the box at place 0, good for m more draws -/
def Bx (m : Nat) (S : Store) : Prop := ∃ a b c : Int, S = [bx a b c] ∧ 0 ≤ c ∧ c + m ≤ 1000000000
theorem Bx.mono {m n : Nat} {S : Store} (h : Bx m S) (l : n ≤ m) : Bx n S := by
  obtain ⟨a, b, c, e, h1, h2⟩ := h
  exact ⟨a, b, c, e, h1, by omega⟩
theorem small_of {i : Int} (h0 : 0 ≤ i) (h : i < 18446744073709551616) : smallI i = true := by
  unfold smallI
  simp
  omega
section
variable {P : List Fd}
theorem r_take (h : B.H__law_take P) (k m : Nat) (s : Int) (S : Store) (hs : 0 < s) (hs2 : s < 1073741824) (hb : Bx (m + 1) S) :
    ∃ r S', run P (k + 1) "_law_take" [.ref 0, .d (.int s)] S = .ok (.d (.int r)) S' ∧ 0 ≤ r ∧ r < s ∧ Bx m S' := by
  obtain ⟨a, b, c, rfl, hc, hc2⟩ := hb
  by_cases ha : 0 < a
  · refine ⟨a % s, [bx (a / s) b c], ?_, Int.emod_nonneg _ (by omega), Int.emod_lt_of_pos _ hs, a / s, b, c, rfl, hc, by omega⟩
    rw [run_eq h _ _ _ rfl]
    unfold B.b__law_take bx
    simp [ha, hs, hs2, L2.ixN]
  · have s1 : smallI (39373 + (c + 1)) = true := small_of (by omega) (by omega)
    have s3 : ∀ x : Int, smallI (x % 40009 + 7) = true := fun x => small_of (by omega) (by omega)
    have q : ∃ q : Int, run P (k + 1) "_law_take" [.ref 0, .d (.int s)] [bx a b c] = .ok (.d (.int (q % s))) [bx a b (c + 1)] := by
      rw [run_eq h _ _ _ rfl]
      unfold B.b__law_take bx
      simp [ha, hs, hs2, L2.ixN, s1, s3, (by decide : smallI 48271 = true)]
      apply Exists.intro
      rfl
    obtain ⟨q, e⟩ := q
    exact ⟨q % s, _, e, Int.emod_nonneg _ (by omega), Int.emod_lt_of_pos _ hs, a, b, c + 1, rfl, by omega, by omega⟩
theorem atR {α : Type} {l : List α} {r : Int} (h0 : 0 ≤ r) (h : r < (l.length : Int)) : ∃ x, x ∈ l ∧ L2.atI l r = some x := by
  obtain ⟨n, rfl⟩ : ∃ n : Nat, r = n := ⟨r.toNat, by omega⟩
  have hn : n < l.length := by omega
  exact ⟨l[n], List.getElem_mem _, by rw [atN, List.getElem?_eq_getElem hn]⟩
theorem r_of (h : B.H__law_of P) (h2 : B.H__law_take P) (k m : Nat) (xs : List MP.D) (S : Store) (h0 : xs ≠ []) (hl : xs.length ≤ 1000000) (hb : Bx (m + 1) S) :
    ∃ x S', run P (k + 2) "_law_of" [.ref 0, .d (.lst xs)] S = .ok (.d x) S' ∧ x ∈ xs ∧ Bx m S' := by
  have hp := List.length_pos_iff.mpr h0
  obtain ⟨r, S', e, r1, r2, b⟩ := r_take h2 k m (xs.length : Int) S (by omega) (by omega) hb
  obtain ⟨x, hx, ex⟩ := atR (l := xs.map W.d) r1 (by simpa using r2)
  obtain ⟨y, hy, rfl⟩ := List.mem_map.mp hx
  refine ⟨y, S', ?_, hy, b⟩
  rw [run_eq h _ _ _ rfl]
  unfold B.b__law_of
  obtain ⟨a1, b1, c1, rfl, _⟩ := hb
  obtain ⟨a2, b2, c2, rfl, _⟩ := b
  simp [e, ex]
/-! what is the same -/
@[simp] theorem cmp_eqb {a b : Bool} {S : Store} : cmpO .eq S (.d (.bl a)) (.d (.bl b)) = some (a == b) := by
  rw [cmp_eq, ok2_small rfl]
  rfl
@[simp] theorem cmp_neb {a b : Bool} {S : Store} : cmpO .ne S (.d (.bl a)) (.d (.bl b)) = some (!(a == b)) := by
  rw [cmp_ne, ok2_small rfl]
  rfl
@[simp] theorem it_zl {xs ys : List MP.D} : itemsW .zip [.d (.lst xs), .d (.lst ys)] = some (zipG xs ys) := (rfl)
@[simp] theorem it_zt {xs ys : List MP.D} : itemsW .zip [.d (.tup xs), .d (.tup ys)] = some (zipG xs ys) := (rfl)
@[simp] theorem bl_non {b : Bool} : isNonW (.d (.bl b)) = false := (rfl)
theorem same_list (h : B.H__law_same P) (k : Nat) (σ : St) (S : Store) (hσ : σ.length = 4) (xs : List MP.D) (hl : xs.length < line) (ih : ∀ x ∈ xs, run P k "_law_same" [.d x, .d x] S = .ok (.d (.bl true)) S) :
    compR false (some (zipG xs xs)) (compF (.t [2, 3]) [2, 3] none (ev (run P k) (.call "_law_same" (.cons (.v 2) (.cons (.v 3) .nil)))) σ) S = .ok (.d (.lst ((xs.zip xs).map fun _ => .bl true))) S := by
  have e : zipG xs xs = ((xs.zip xs).map fun p => [p.1, p.2]).map fun l => W.d (.tup l) := by rw [List.map_map]; rfl
  rw [e]
  match σ, hσ with
  | [o0, o1, o2, o3], _ =>
    rw [comp_t ((xs.zip xs).map fun p => [p.1, p.2]) (fun _ => .bl true) (by simpa using hl) fun l hl' => ?_, List.map_map]
    · rfl
    · obtain ⟨⟨a, b⟩, hp, rfl⟩ := List.mem_map.mp hl'
      obtain ⟨i, hi, ei⟩ := List.mem_iff_getElem.mp hp
      rw [List.getElem_zip] at ei
      cases ei
      refine ⟨[o0, o1, some (.d (xs[i]'(by simpa using hi))), some (.d (xs[i]'(by simpa using hi)))], rfl, ?_⟩
      simp [ih _ (List.getElem_mem _)]
theorem r_same (h : B.H__law_same P) : ∀ (k : Nat) (x : MP.D) (S : Store), x.depth + 1 ≤ k → okD x = true → run P k "_law_same" [.d x, .d x] S = .ok (.d (.bl true)) S
  | 0, x, S, hk, _ => by omega
  | k + 1, x, S, hk, hx => by
    rw [run_eq h _ _ _ rfl]
    unfold B.b__law_same
    have eqs : ∀ y : MP.D, y.small = true → cmpO .eq S (.d y) (.d y) = some true := fun y hy => by
      rw [cmp_eq, ok2_small hy, if_pos rfl, eqv_refl]
    cases x with
    | tup xs =>
      simp only [okD, Bool.and_eq_true, decide_eq_true_eq] at hx
      simp only [D.depth] at hk
      have q := same_list h k [some (.d (.tup xs)), some (.d (.tup xs)), none, none] S rfl xs hx.1 fun x hm => r_same h k x S (by have := depth_mem x hm; omega) (okDs_mem hx.2 x hm)
      simp [q, all_map, trim_same]
    | lst xs =>
      simp only [okD, Bool.and_eq_true, decide_eq_true_eq] at hx
      simp only [D.depth] at hk
      have q := same_list h k [some (.d (.lst xs)), some (.d (.lst xs)), none, none] S rfl xs hx.1 fun x hm => r_same h k x S (by have := depth_mem x hm; omega) (okDs_mem hx.2 x hm)
      simp [q, all_map, trim_same]
    | non => simp [eqs .non rfl, trim_same, isNonW]
    | bl b => simp [trim_same, isNonW]
    | str s => simp [eqs (.str s) rfl, trim_same, isNonW]
    | int i => simp [trim_same, isNonW]
end
end MP
end

section
set_option maxHeartbeats 4000000
namespace MP
open PySem
section
variable {P : List Fd}
/-! ### terms and frames that are drawn -/
structure HDraw (P : List Fd) : Prop where
  take : B.H__law_take P
  of : B.H__law_of P
  term : B.H__law_term P
  frame : B.H__law_frame P
theorem good_a : goodName "a" = true := by decide +kernel
theorem good_b : goodName "b" = true := by decide +kernel
theorem good_g : goodName "g" = true := by decide +kernel
theorem good_h : goodName "h" = true := by decide +kernel
theorem good_f : goodName "f" = true := by decide +kernel
theorem good_k : goodName "k" = true := by decide +kernel
theorem of_names (h : HDraw P) (k m : Nat) (s t : Str) (S : Store) (hs : goodName s = true) (ht : goodName t = true) (hb : Bx (m + 1) S) : ∃ x S', run P (k + 2) "_law_of" [.ref 0, .d (.lst [.str s, .str t])] S = .ok (.d (.str x)) S' ∧ goodName x = true ∧ Bx m S' := by
  obtain ⟨x, S', e, hx, b⟩ := r_of h.of h.take k m [.str s, .str t] S (by simp) (by simp) hb
  simp at hx
  rcases hx with rfl | rfl
  · exact ⟨s, S', e, hs, b⟩
  · exact ⟨t, S', e, ht, b⟩
theorem lst2 {x y : MP.D} {S : Store} : lstW false [.d x, .d y] S = .ok (.d (.lst [x, y])) S := by
  unfold lstW
  rw [if_pos (by show 2 ≤ 16777216; decide)]
  rfl
theorem hol_nd {s : Str} {ps : List MP.D} {n : Nat} (hs : goodName s = true) (hl : ps.length ≤ 3) (hp : hols ps = some n) : hol (.tup (.str s :: ps)) = some n := by
  show (if (decide (ps.length ≤ 3) && isNameD (.str s)) = true then hols ps else none) = some n
  have e4 : isNameD (.str s) = true := hs
  rw [decide_eq_true hl, e4, hp]
  rfl
theorem sub_div {s c : Nat} (h : 1 ≤ s) : (((s : Int) - 1) / (c : Int)) = (((s - 1) / c : Nat) : Int) := by
  have : ((s : Int) - 1) = ((s - 1 : Nat) : Int) := by omega
  rw [this]
  rfl
theorem r_term (h : HDraw P) : ∀ (s k m : Nat) (S : Store), 1 ≤ s → s ≤ 1000 → s + 3 ≤ k → Bx (3 * s + m) S → ∃ t S', run P k "_law_term" [.ref 0, .d (.int (s : Int))] S = .ok (.d t) S' ∧ hol t = some 0 ∧ sz t ≤ s ∧ Bx m S' := by
  intro s
  induction s using Nat.strongRecOn with
  | ind s ih =>
  intro k m S h1 h1000 hk hb
  obtain ⟨k, rfl⟩ : ∃ j, k = j + 3 := ⟨k - 3, by omega⟩
  have leaf : ∀ (S : Store) (j : Nat), Bx (j + 1) S → ∃ x S', run P (k + 2) "_law_of" [.ref 0, .d (.lst [.str "a", .str "b"])] S = .ok (.d (.str x)) S' ∧ goodName x = true ∧ Bx j S' := fun S j hb => of_names h k j "a" "b" S good_a good_b hb
  by_cases c1 : s < 2
  · have hs : s = 1 := by omega
    subst hs
    obtain ⟨x, S1, e1, g1, b1⟩ := leaf S (m + 2) (hb.mono (by omega))
    refine ⟨.tup [.str x], S1, ?_, hol_nd g1 (by simp) rfl, by simp [sz, szs], b1.mono (by omega)⟩
    rw [run_eq h.term _ _ _ rfl]
    unfold B.b__law_term
    obtain ⟨a0, b0, c0, rfl, _⟩ := hb
    obtain ⟨a1, b1, c1, rfl, _⟩ := b1
    simp [lst2, e1]
  · obtain ⟨r1, S1, e1, _, _, b1⟩ := r_take h.take (k + 1) (3 * s + m - 1) 4 S (by decide) (by decide) (hb.mono (by omega))
    have f1 : decide ((s : Int) < 2) = false := by rw [decide_eq_false_iff_not]; omega
    by_cases c2 : r1 = 0
    · subst c2
      obtain ⟨x, S2, e2, g2, b2⟩ := leaf S1 (3 * s + m - 2) (b1.mono (by omega))
      refine ⟨.tup [.str x], S2, ?_, hol_nd g2 (by simp) rfl, by simp [sz, szs]; omega, b2.mono (by omega)⟩
      rw [run_eq h.term _ _ _ rfl]
      unfold B.b__law_term
      obtain ⟨a0, b0, c0, rfl, _⟩ := hb
      obtain ⟨a2, b2, c2, rfl, _⟩ := b2
      simp only [List.map_cons, List.map_nil, List.length_cons, List.length_nil, List.replicate, Nat.reduceAdd, Nat.reduceSub, List.cons_append, List.nil_append, List.getElem?_cons_zero, List.getElem?_cons_succ, List.set_cons_zero, List.set_cons_succ, if_true, if_false, reduceIte, Bool.false_eq_true, decide_true, decide_false, Bool.not_true, Bool.not_false, trim_same, Bool.and_true, Bool.and_false, Bool.true_and, Bool.false_and, Bool.or_true, Bool.or_false, Bool.true_or, Bool.false_or, D.isStr, D.isTup, D.isLst, D.isInt, D.isBl, reduceCtorEq, bind_ok, bind_no, bind_ex, toF_ok, toF_no, toF_ex, seq_nx, seq_rt, seq_ex, seq_no, fin_nx, fin_rt, fin_no, fin_ex, trim_same', x_seq, x_skip, k_asg, x_asg, k_par, x_par, x_ret, k_exp, x_exp, cond_bl, k_if, x_ite, k_set3, k_set2, k_set1, x_setI, x_no, walk_some, upon_some, k_for2, k_for, x_for, for_nil, k_up, tg_v, tg_t, tgs_v, tgs_t, setAll_nil, setAll_cons, setsW_nil, setsW_cons, vr_some, e_v, e_c, e_g, e_nt, e_ng, nt_bl, ng_int, k_bin, e_bin, k_cmp2, k_cmp, e_cmp, k_idx2, k_idx, e_idx, e_tup, e_lst, e_call, e_prim, e_isi, es_nil, k_cons2, k_cons, es_cons, rcond_bl, k_ite, e_ite, k_and, e_and, k_or, e_or, k_orT, e_orT, ocond_some, k_ch2, k_ch, e_chain, k_meth, e_meth, eo_none, intR_int, eo_some, k_sl2, k_sl, e_sl, e_rev, okB_some', okW_some, add_int, sub_int, mul_int, fdiv_int, mod_int, pow_int, add_tup, cmp_lt, cmp_le, cmp_gt, cmp_ge, cmp_eqi, cmp_nei, cmp_eq0, cmp_ne0, cmp_is, cmp_isn, lsO_lst, seq_ref, lst_ref, idx_ref, idx_tup, idx_lst, idx_scr, at0, at1, at2, p_int, p_intb, p_abs, p_lent, p_lenl, p_lens, p_tupl, p_tupt, set_ref, slice_tup, tupW_nil, tupW1, tupW2, tupW3, k_comp, ev_comp, evc_none, evc_some, it_lst, it_tup, it_str, it_r1, it_r2, isi_str, isi_tup, isi_lst, isi_int, isi_bl, isi_lt, isi_bs, p_lenstr, cmp_instr, x_while, app_ref, last_at, last_set, new_lst, x_frz, rev_lst, e1, f1, lst2, e2, beq_self_eq_true]
    · obtain ⟨r2, S2, e2, _, _, b2⟩ := r_take h.take (k + 1) (3 * s + m - 2) 5 S1 (by decide) (by decide) (b1.mono (by omega))
      have f2 : (r1 == 0) = false := by simpa using c2
      by_cases c3 : s < 3 ∨ r2 < 2
      · obtain ⟨x, S3, e3, g3, b3⟩ := of_names h k (3 * s + m - 3) "g" "h" S2 good_g good_h (b2.mono (by omega))
        obtain ⟨t, S4, e4, t1, t2, b4⟩ := ih (s - 1) (by omega) (k + 2) m S3 (by omega) (by omega) (by omega) (b3.mono (by omega))
        have e4' : run P (k + 2) "_law_term" [.ref 0, .d (.int ((s : Int) - 1))] S3 = .ok (.d t) S4 := by
          have : ((s : Int) - 1) = ((s - 1 : Nat) : Int) := by omega
          rw [this]
          exact e4
        refine ⟨.tup [.str x, t], S4, ?_, hol_nd g3 (by simp) (by simp [hols, t1]), by simp [sz, szs]; omega, b4⟩
        rw [run_eq h.term _ _ _ rfl]
        unfold B.b__law_term
        obtain ⟨a0, b0, c0, rfl, _⟩ := hb
        obtain ⟨a2, b2, c2, rfl, _⟩ := b4
        have f3 : (if decide ((s : Int) < 3) = true then true else decide (r2 < 2)) = true := by
          rcases c3 with c3 | c3
          · rw [decide_eq_true (by omega), if_pos rfl]
          · rw [decide_eq_true c3]; split <;> rfl
        by_cases c4 : (s : Int) < 3
        · simp only [List.map_cons, List.map_nil, List.length_cons, List.length_nil, List.replicate, Nat.reduceAdd, Nat.reduceSub, List.cons_append, List.nil_append, List.getElem?_cons_zero, List.getElem?_cons_succ, List.set_cons_zero, List.set_cons_succ, if_true, if_false, reduceIte, Bool.false_eq_true, decide_true, decide_false, Bool.not_true, Bool.not_false, trim_same, Bool.and_true, Bool.and_false, Bool.true_and, Bool.false_and, Bool.or_true, Bool.or_false, Bool.true_or, Bool.false_or, D.isStr, D.isTup, D.isLst, D.isInt, D.isBl, reduceCtorEq, bind_ok, bind_no, bind_ex, toF_ok, toF_no, toF_ex, seq_nx, seq_rt, seq_ex, seq_no, fin_nx, fin_rt, fin_no, fin_ex, trim_same', x_seq, x_skip, k_asg, x_asg, k_par, x_par, x_ret, k_exp, x_exp, cond_bl, k_if, x_ite, k_set3, k_set2, k_set1, x_setI, x_no, walk_some, upon_some, k_for2, k_for, x_for, for_nil, k_up, tg_v, tg_t, tgs_v, tgs_t, setAll_nil, setAll_cons, setsW_nil, setsW_cons, vr_some, e_v, e_c, e_g, e_nt, e_ng, nt_bl, ng_int, k_bin, e_bin, k_cmp2, k_cmp, e_cmp, k_idx2, k_idx, e_idx, e_tup, e_lst, e_call, e_prim, e_isi, es_nil, k_cons2, k_cons, es_cons, rcond_bl, k_ite, e_ite, k_and, e_and, k_or, e_or, k_orT, e_orT, ocond_some, k_ch2, k_ch, e_chain, k_meth, e_meth, eo_none, intR_int, eo_some, k_sl2, k_sl, e_sl, e_rev, okB_some', okW_some, add_int, sub_int, mul_int, fdiv_int, mod_int, pow_int, add_tup, cmp_lt, cmp_le, cmp_gt, cmp_ge, cmp_eqi, cmp_nei, cmp_eq0, cmp_ne0, cmp_is, cmp_isn, lsO_lst, seq_ref, lst_ref, idx_ref, idx_tup, idx_lst, idx_scr, at0, at1, at2, p_int, p_intb, p_abs, p_lent, p_lenl, p_lens, p_tupl, p_tupt, set_ref, slice_tup, tupW_nil, tupW1, tupW2, tupW3, k_comp, ev_comp, evc_none, evc_some, it_lst, it_tup, it_str, it_r1, it_r2, isi_str, isi_tup, isi_lst, isi_int, isi_bl, isi_lt, isi_bs, p_lenstr, cmp_instr, x_while, app_ref, last_at, last_set, new_lst, x_frz, rev_lst, e1, f1, f2, e2, decide_eq_true c4, lst2, e3, e4']
        · have c5 : r2 < 2 := by rcases c3 with c3 | c3; omega; exact c3
          simp only [List.map_cons, List.map_nil, List.length_cons, List.length_nil, List.replicate, Nat.reduceAdd, Nat.reduceSub, List.cons_append, List.nil_append, List.getElem?_cons_zero, List.getElem?_cons_succ, List.set_cons_zero, List.set_cons_succ, if_true, if_false, reduceIte, Bool.false_eq_true, decide_true, decide_false, Bool.not_true, Bool.not_false, trim_same, Bool.and_true, Bool.and_false, Bool.true_and, Bool.false_and, Bool.or_true, Bool.or_false, Bool.true_or, Bool.false_or, D.isStr, D.isTup, D.isLst, D.isInt, D.isBl, reduceCtorEq, bind_ok, bind_no, bind_ex, toF_ok, toF_no, toF_ex, seq_nx, seq_rt, seq_ex, seq_no, fin_nx, fin_rt, fin_no, fin_ex, trim_same', x_seq, x_skip, k_asg, x_asg, k_par, x_par, x_ret, k_exp, x_exp, cond_bl, k_if, x_ite, k_set3, k_set2, k_set1, x_setI, x_no, walk_some, upon_some, k_for2, k_for, x_for, for_nil, k_up, tg_v, tg_t, tgs_v, tgs_t, setAll_nil, setAll_cons, setsW_nil, setsW_cons, vr_some, e_v, e_c, e_g, e_nt, e_ng, nt_bl, ng_int, k_bin, e_bin, k_cmp2, k_cmp, e_cmp, k_idx2, k_idx, e_idx, e_tup, e_lst, e_call, e_prim, e_isi, es_nil, k_cons2, k_cons, es_cons, rcond_bl, k_ite, e_ite, k_and, e_and, k_or, e_or, k_orT, e_orT, ocond_some, k_ch2, k_ch, e_chain, k_meth, e_meth, eo_none, intR_int, eo_some, k_sl2, k_sl, e_sl, e_rev, okB_some', okW_some, add_int, sub_int, mul_int, fdiv_int, mod_int, pow_int, add_tup, cmp_lt, cmp_le, cmp_gt, cmp_ge, cmp_eqi, cmp_nei, cmp_eq0, cmp_ne0, cmp_is, cmp_isn, lsO_lst, seq_ref, lst_ref, idx_ref, idx_tup, idx_lst, idx_scr, at0, at1, at2, p_int, p_intb, p_abs, p_lent, p_lenl, p_lens, p_tupl, p_tupt, set_ref, slice_tup, tupW_nil, tupW1, tupW2, tupW3, k_comp, ev_comp, evc_none, evc_some, it_lst, it_tup, it_str, it_r1, it_r2, isi_str, isi_tup, isi_lst, isi_int, isi_bl, isi_lt, isi_bs, p_lenstr, cmp_instr, x_while, app_ref, last_at, last_set, new_lst, x_frz, rev_lst, e1, f1, f2, e2, decide_eq_false c4, decide_eq_true c5, lst2, e3, e4']
      · have c4 : ¬ (s : Int) < 3 := by omega
        have c5 : ¬ r2 < 2 := by omega
        by_cases c6 : 3 < (s : Int) ∧ r2 = 4
        · obtain ⟨c6, rfl⟩ := c6
          have d1 := sub_div (s := s) (c := 3) h1
          obtain ⟨t, S3, e3, t1, t2, b3⟩ := ih ((s - 1) / 3) (by omega) (k + 2) (m + 6 * ((s - 1) / 3)) S2 (by omega) (by omega) (by omega) (b2.mono (by omega))
          obtain ⟨u, S4, e4, u1, u2, b4⟩ := ih ((s - 1) / 3) (by omega) (k + 2) (m + 3 * ((s - 1) / 3)) S3 (by omega) (by omega) (by omega) (b3.mono (by omega))
          obtain ⟨v, S5, e5, v1, v2, b5⟩ := ih ((s - 1) / 3) (by omega) (k + 2) m S4 (by omega) (by omega) (by omega) (b4.mono (by omega))
          refine ⟨.tup [.str "k", t, u, v], S5, ?_, hol_nd good_k (by simp) (by simp [hols, t1, u1, v1]), by simp [sz, szs]; omega, b5⟩
          rw [run_eq h.term _ _ _ rfl]
          unfold B.b__law_term
          obtain ⟨a0, b0, c0, rfl, _⟩ := hb
          obtain ⟨a2, b2, c2, rfl, _⟩ := b5
          have d2 : ∀ S : Store, binW .fdiv false (.d (.int ((s : Int) - 1))) (.d (.int 3)) S = .ok (.d (.int (((s - 1) / 3 : Nat) : Int))) S := fun S => by rw [fdiv_int, if_pos (by decide)]; exact congrArg (fun i => R.ok (W.d (.int i)) S) d1
          have t4 : ∀ {S : Store}, tupW [.d (.str "k"), .d t, .d u, .d v] S = .ok (.d (.tup [.str "k", t, u, v])) S := fun {S} => tupW_ds (xs := [.str "k", t, u, v]) (by show 4 ≤ 16777216; decide)
          simp only [List.map_cons, List.map_nil, List.length_cons, List.length_nil, List.replicate, Nat.reduceAdd, Nat.reduceSub, List.cons_append, List.nil_append, List.getElem?_cons_zero, List.getElem?_cons_succ, List.set_cons_zero, List.set_cons_succ, if_true, if_false, reduceIte, Bool.false_eq_true, decide_true, decide_false, Bool.not_true, Bool.not_false, trim_same, Bool.and_true, Bool.and_false, Bool.true_and, Bool.false_and, Bool.or_true, Bool.or_false, Bool.true_or, Bool.false_or, D.isStr, D.isTup, D.isLst, D.isInt, D.isBl, reduceCtorEq, bind_ok, bind_no, bind_ex, toF_ok, toF_no, toF_ex, seq_nx, seq_rt, seq_ex, seq_no, fin_nx, fin_rt, fin_no, fin_ex, trim_same', x_seq, x_skip, k_asg, x_asg, k_par, x_par, x_ret, k_exp, x_exp, cond_bl, k_if, x_ite, k_set3, k_set2, k_set1, x_setI, x_no, walk_some, upon_some, k_for2, k_for, x_for, for_nil, k_up, tg_v, tg_t, tgs_v, tgs_t, setAll_nil, setAll_cons, setsW_nil, setsW_cons, vr_some, e_v, e_c, e_g, e_nt, e_ng, nt_bl, ng_int, k_bin, e_bin, k_cmp2, k_cmp, e_cmp, k_idx2, k_idx, e_idx, e_tup, e_lst, e_call, e_prim, e_isi, es_nil, k_cons2, k_cons, es_cons, rcond_bl, k_ite, e_ite, k_and, e_and, k_or, e_or, k_orT, e_orT, ocond_some, k_ch2, k_ch, e_chain, k_meth, e_meth, eo_none, intR_int, eo_some, k_sl2, k_sl, e_sl, e_rev, okB_some', okW_some, add_int, sub_int, mul_int, mod_int, pow_int, add_tup, cmp_lt, cmp_le, cmp_gt, cmp_ge, cmp_eqi, cmp_nei, cmp_eq0, cmp_ne0, cmp_is, cmp_isn, lsO_lst, seq_ref, lst_ref, idx_ref, idx_tup, idx_lst, idx_scr, at0, at1, at2, p_int, p_intb, p_abs, p_lent, p_lenl, p_lens, p_tupl, p_tupt, set_ref, slice_tup, tupW_nil, tupW1, tupW2, tupW3, k_comp, ev_comp, evc_none, evc_some, it_lst, it_tup, it_str, it_r1, it_r2, isi_str, isi_tup, isi_lst, isi_int, isi_bl, isi_lt, isi_bs, p_lenstr, cmp_instr, x_while, app_ref, last_at, last_set, new_lst, x_frz, rev_lst, e1, f1, f2, e2, decide_eq_false c4, decide_eq_false c5, decide_eq_true c6, beq_self_eq_true, d2, e3, e4, e5, t4]
        · have d1 := sub_div (s := s) (c := 2) h1
          obtain ⟨t, S3, e3, t1, t2, b3⟩ := ih ((s - 1) / 2) (by omega) (k + 2) (m + 3 * ((s - 1) / 2)) S2 (by omega) (by omega) (by omega) (b2.mono (by omega))
          obtain ⟨u, S4, e4, u1, u2, b4⟩ := ih ((s - 1) / 2) (by omega) (k + 2) m S3 (by omega) (by omega) (by omega) (b3.mono (by omega))
          refine ⟨.tup [.str "f", t, u], S4, ?_, hol_nd good_f (by simp) (by simp [hols, t1, u1]), by simp [sz, szs]; omega, b4⟩
          rw [run_eq h.term _ _ _ rfl]
          unfold B.b__law_term
          obtain ⟨a0, b0, c0, rfl, _⟩ := hb
          obtain ⟨a2, b2, c2, rfl, _⟩ := b4
          have d2 : ∀ S : Store, binW .fdiv false (.d (.int ((s : Int) - 1))) (.d (.int 2)) S = .ok (.d (.int (((s - 1) / 2 : Nat) : Int))) S := fun S => by rw [fdiv_int, if_pos (by decide)]; exact congrArg (fun i => R.ok (W.d (.int i)) S) d1
          by_cases c7 : 3 < (s : Int)
          · have c8 : (r2 == 4) = false := by
              have : r2 ≠ 4 := fun q => c6 ⟨c7, q⟩
              simpa using this
            simp only [List.map_cons, List.map_nil, List.length_cons, List.length_nil, List.replicate, Nat.reduceAdd, Nat.reduceSub, List.cons_append, List.nil_append, List.getElem?_cons_zero, List.getElem?_cons_succ, List.set_cons_zero, List.set_cons_succ, if_true, if_false, reduceIte, Bool.false_eq_true, decide_true, decide_false, Bool.not_true, Bool.not_false, trim_same, Bool.and_true, Bool.and_false, Bool.true_and, Bool.false_and, Bool.or_true, Bool.or_false, Bool.true_or, Bool.false_or, D.isStr, D.isTup, D.isLst, D.isInt, D.isBl, reduceCtorEq, bind_ok, bind_no, bind_ex, toF_ok, toF_no, toF_ex, seq_nx, seq_rt, seq_ex, seq_no, fin_nx, fin_rt, fin_no, fin_ex, trim_same', x_seq, x_skip, k_asg, x_asg, k_par, x_par, x_ret, k_exp, x_exp, cond_bl, k_if, x_ite, k_set3, k_set2, k_set1, x_setI, x_no, walk_some, upon_some, k_for2, k_for, x_for, for_nil, k_up, tg_v, tg_t, tgs_v, tgs_t, setAll_nil, setAll_cons, setsW_nil, setsW_cons, vr_some, e_v, e_c, e_g, e_nt, e_ng, nt_bl, ng_int, k_bin, e_bin, k_cmp2, k_cmp, e_cmp, k_idx2, k_idx, e_idx, e_tup, e_lst, e_call, e_prim, e_isi, es_nil, k_cons2, k_cons, es_cons, rcond_bl, k_ite, e_ite, k_and, e_and, k_or, e_or, k_orT, e_orT, ocond_some, k_ch2, k_ch, e_chain, k_meth, e_meth, eo_none, intR_int, eo_some, k_sl2, k_sl, e_sl, e_rev, okB_some', okW_some, add_int, sub_int, mul_int, mod_int, pow_int, add_tup, cmp_lt, cmp_le, cmp_gt, cmp_ge, cmp_eqi, cmp_nei, cmp_eq0, cmp_ne0, cmp_is, cmp_isn, lsO_lst, seq_ref, lst_ref, idx_ref, idx_tup, idx_lst, idx_scr, at0, at1, at2, p_int, p_intb, p_abs, p_lent, p_lenl, p_lens, p_tupl, p_tupt, set_ref, slice_tup, tupW_nil, tupW1, tupW2, tupW3, k_comp, ev_comp, evc_none, evc_some, it_lst, it_tup, it_str, it_r1, it_r2, isi_str, isi_tup, isi_lst, isi_int, isi_bl, isi_lt, isi_bs, p_lenstr, cmp_instr, x_while, app_ref, last_at, last_set, new_lst, x_frz, rev_lst, e1, f1, f2, e2, decide_eq_false c4, decide_eq_false c5, decide_eq_true c7, c8, d2, e3, e4]
          · simp only [List.map_cons, List.map_nil, List.length_cons, List.length_nil, List.replicate, Nat.reduceAdd, Nat.reduceSub, List.cons_append, List.nil_append, List.getElem?_cons_zero, List.getElem?_cons_succ, List.set_cons_zero, List.set_cons_succ, if_true, if_false, reduceIte, Bool.false_eq_true, decide_true, decide_false, Bool.not_true, Bool.not_false, trim_same, Bool.and_true, Bool.and_false, Bool.true_and, Bool.false_and, Bool.or_true, Bool.or_false, Bool.true_or, Bool.false_or, D.isStr, D.isTup, D.isLst, D.isInt, D.isBl, reduceCtorEq, bind_ok, bind_no, bind_ex, toF_ok, toF_no, toF_ex, seq_nx, seq_rt, seq_ex, seq_no, fin_nx, fin_rt, fin_no, fin_ex, trim_same', x_seq, x_skip, k_asg, x_asg, k_par, x_par, x_ret, k_exp, x_exp, cond_bl, k_if, x_ite, k_set3, k_set2, k_set1, x_setI, x_no, walk_some, upon_some, k_for2, k_for, x_for, for_nil, k_up, tg_v, tg_t, tgs_v, tgs_t, setAll_nil, setAll_cons, setsW_nil, setsW_cons, vr_some, e_v, e_c, e_g, e_nt, e_ng, nt_bl, ng_int, k_bin, e_bin, k_cmp2, k_cmp, e_cmp, k_idx2, k_idx, e_idx, e_tup, e_lst, e_call, e_prim, e_isi, es_nil, k_cons2, k_cons, es_cons, rcond_bl, k_ite, e_ite, k_and, e_and, k_or, e_or, k_orT, e_orT, ocond_some, k_ch2, k_ch, e_chain, k_meth, e_meth, eo_none, intR_int, eo_some, k_sl2, k_sl, e_sl, e_rev, okB_some', okW_some, add_int, sub_int, mul_int, mod_int, pow_int, add_tup, cmp_lt, cmp_le, cmp_gt, cmp_ge, cmp_eqi, cmp_nei, cmp_eq0, cmp_ne0, cmp_is, cmp_isn, lsO_lst, seq_ref, lst_ref, idx_ref, idx_tup, idx_lst, idx_scr, at0, at1, at2, p_int, p_intb, p_abs, p_lent, p_lenl, p_lens, p_tupl, p_tupt, set_ref, slice_tup, tupW_nil, tupW1, tupW2, tupW3, k_comp, ev_comp, evc_none, evc_some, it_lst, it_tup, it_str, it_r1, it_r2, isi_str, isi_tup, isi_lst, isi_int, isi_bl, isi_lt, isi_bs, p_lenstr, cmp_instr, x_while, app_ref, last_at, last_set, new_lst, x_frz, rev_lst, e1, f1, f2, e2, decide_eq_false c4, decide_eq_false c5, decide_eq_false c7, d2, e3, e4]
theorem Lv.okT {s : Str} {a b : List MP.D} (hs : goodName s = true) (hl : a.length + b.length ≤ 2) (ha : hols a = some 0) (hb : hols b = some 0) : Lv.Ok ⟨s, a, b⟩ := ⟨hs, hl, ha, hb⟩
theorem OkW.cons {l : Lv} {w : List Lv} (h : l.Ok) (hw : OkW w) : OkW (l :: w) := fun x hx => by
  rcases List.mem_cons.mp hx with rfl | hx
  · exact h
  · exact hw x hx
theorem okW_nil : OkW [] := fun l hl => absurd hl (by simp)
theorem wsz_cons {l : Lv} {w : List Lv} : wsz (l :: w) = l.sz + wsz w := by simp [wsz]
theorem r_frame (h : HDraw P) : ∀ (s k m : Nat) (S : Store), s ≤ 1000 → s + 5 ≤ k → Bx (3 * s + m) S → ∃ w S', run P k "_law_frame" [.ref 0, .d (.int (s : Int))] S = .ok (.d (fr w)) S' ∧ OkW w ∧ wsz w ≤ s ∧ Bx m S' := by
  intro s
  induction s using Nat.strongRecOn with
  | ind s ih =>
  intro k m S h1000 hk hb
  obtain ⟨k, rfl⟩ : ∃ j, k = j + 5 := ⟨k - 5, by omega⟩
  by_cases c1 : s < 1
  · refine ⟨[], S, ?_, okW_nil, by simp [wsz], hb.mono (by omega)⟩
    rw [run_eq h.frame _ _ _ rfl]
    unfold B.b__law_frame
    have f1 : decide ((s : Int) < 1) = true := by rw [decide_eq_true_iff]; omega
    simp only [List.map_cons, List.map_nil, List.length_cons, List.length_nil, List.replicate, Nat.reduceAdd, Nat.reduceSub, List.cons_append, List.nil_append, List.getElem?_cons_zero, List.getElem?_cons_succ, List.set_cons_zero, List.set_cons_succ, if_true, if_false, reduceIte, Bool.false_eq_true, decide_true, decide_false, Bool.not_true, Bool.not_false, trim_same, Bool.and_true, Bool.and_false, Bool.true_and, Bool.false_and, Bool.or_true, Bool.or_false, Bool.true_or, Bool.false_or, D.isStr, D.isTup, D.isLst, D.isInt, D.isBl, reduceCtorEq, bind_ok, bind_no, bind_ex, toF_ok, toF_no, toF_ex, seq_nx, seq_rt, seq_ex, seq_no, fin_nx, fin_rt, fin_no, fin_ex, trim_same', x_seq, x_skip, k_asg, x_asg, k_par, x_par, x_ret, k_exp, x_exp, cond_bl, k_if, x_ite, k_set3, k_set2, k_set1, x_setI, x_no, walk_some, upon_some, k_for2, k_for, x_for, for_nil, k_up, tg_v, tg_t, tgs_v, tgs_t, setAll_nil, setAll_cons, setsW_nil, setsW_cons, vr_some, e_v, e_c, e_g, e_nt, e_ng, nt_bl, ng_int, k_bin, e_bin, k_cmp2, k_cmp, e_cmp, k_idx2, k_idx, e_idx, e_tup, e_lst, e_call, e_prim, e_isi, es_nil, k_cons2, k_cons, es_cons, rcond_bl, k_ite, e_ite, k_and, e_and, k_or, e_or, k_orT, e_orT, ocond_some, k_ch2, k_ch, e_chain, k_meth, e_meth, eo_none, intR_int, eo_some, k_sl2, k_sl, e_sl, e_rev, okB_some', okW_some, add_int, sub_int, mul_int, fdiv_int, mod_int, pow_int, add_tup, cmp_lt, cmp_le, cmp_gt, cmp_ge, cmp_eqi, cmp_nei, cmp_eq0, cmp_ne0, cmp_is, cmp_isn, lsO_lst, seq_ref, lst_ref, idx_ref, idx_tup, idx_lst, idx_scr, at0, at1, at2, p_int, p_intb, p_abs, p_lent, p_lenl, p_lens, p_tupl, p_tupt, set_ref, slice_tup, tupW_nil, tupW1, tupW2, tupW3, k_comp, ev_comp, evc_none, evc_some, it_lst, it_tup, it_str, it_r1, it_r2, isi_str, isi_tup, isi_lst, isi_int, isi_bl, isi_lt, isi_bs, p_lenstr, cmp_instr, x_while, app_ref, last_at, last_set, new_lst, x_frz, rev_lst, f1]
    rfl
  · have f1 : decide ((s : Int) < 1) = false := by rw [decide_eq_false_iff_not]; omega
    obtain ⟨r1, S1, e1, _, _, b1⟩ := r_take h.take (k + 3) (3 * s + m - 1) 5 S (by decide) (by decide) (hb.mono (by omega))
    by_cases c2 : r1 = 0
    · subst c2
      refine ⟨[], S1, ?_, okW_nil, by simp [wsz], b1.mono (by omega)⟩
      rw [run_eq h.frame _ _ _ rfl]
      unfold B.b__law_frame
      obtain ⟨a0, b0, c0, rfl, _⟩ := hb
      obtain ⟨a2, b2, c2, rfl, _⟩ := b1
      simp only [List.map_cons, List.map_nil, List.length_cons, List.length_nil, List.replicate, Nat.reduceAdd, Nat.reduceSub, List.cons_append, List.nil_append, List.getElem?_cons_zero, List.getElem?_cons_succ, List.set_cons_zero, List.set_cons_succ, if_true, if_false, reduceIte, Bool.false_eq_true, decide_true, decide_false, Bool.not_true, Bool.not_false, trim_same, Bool.and_true, Bool.and_false, Bool.true_and, Bool.false_and, Bool.or_true, Bool.or_false, Bool.true_or, Bool.false_or, D.isStr, D.isTup, D.isLst, D.isInt, D.isBl, reduceCtorEq, bind_ok, bind_no, bind_ex, toF_ok, toF_no, toF_ex, seq_nx, seq_rt, seq_ex, seq_no, fin_nx, fin_rt, fin_no, fin_ex, trim_same', x_seq, x_skip, k_asg, x_asg, k_par, x_par, x_ret, k_exp, x_exp, cond_bl, k_if, x_ite, k_set3, k_set2, k_set1, x_setI, x_no, walk_some, upon_some, k_for2, k_for, x_for, for_nil, k_up, tg_v, tg_t, tgs_v, tgs_t, setAll_nil, setAll_cons, setsW_nil, setsW_cons, vr_some, e_v, e_c, e_g, e_nt, e_ng, nt_bl, ng_int, k_bin, e_bin, k_cmp2, k_cmp, e_cmp, k_idx2, k_idx, e_idx, e_tup, e_lst, e_call, e_prim, e_isi, es_nil, k_cons2, k_cons, es_cons, rcond_bl, k_ite, e_ite, k_and, e_and, k_or, e_or, k_orT, e_orT, ocond_some, k_ch2, k_ch, e_chain, k_meth, e_meth, eo_none, intR_int, eo_some, k_sl2, k_sl, e_sl, e_rev, okB_some', okW_some, add_int, sub_int, mul_int, fdiv_int, mod_int, pow_int, add_tup, cmp_lt, cmp_le, cmp_gt, cmp_ge, cmp_eqi, cmp_nei, cmp_eq0, cmp_ne0, cmp_is, cmp_isn, lsO_lst, seq_ref, lst_ref, idx_ref, idx_tup, idx_lst, idx_scr, at0, at1, at2, p_int, p_intb, p_abs, p_lent, p_lenl, p_lens, p_tupl, p_tupt, set_ref, slice_tup, tupW_nil, tupW1, tupW2, tupW3, k_comp, ev_comp, evc_none, evc_some, it_lst, it_tup, it_str, it_r1, it_r2, isi_str, isi_tup, isi_lst, isi_int, isi_bl, isi_lt, isi_bs, p_lenstr, cmp_instr, x_while, app_ref, last_at, last_set, new_lst, x_frz, rev_lst, e1, f1, beq_self_eq_true]
      rfl
    · have f2 : (r1 == 0) = false := by simpa using c2
      obtain ⟨r2, S2, e2, _, _, b2⟩ := r_take h.take (k + 3) (3 * s + m - 2) 4 S1 (by decide) (by decide) (b1.mono (by omega))
      by_cases c3 : s < 2 ∨ r2 < 2
      · obtain ⟨x, S3, e3, g3, b3⟩ := of_names h (k + 2) (3 * s + m - 3) "g" "h" S2 good_g good_h (b2.mono (by omega))
        obtain ⟨w, S4, e4, t1, t2, b4⟩ := ih (s - 1) (by omega) (k + 4) m S3 (by omega) (by omega) (b3.mono (by omega))
        have e4' : run P (k + 4) "_law_frame" [.ref 0, .d (.int ((s : Int) - 1))] S3 = .ok (.d (fr w)) S4 := by
          have : ((s : Int) - 1) = ((s - 1 : Nat) : Int) := by omega
          rw [this]
          exact e4
        refine ⟨⟨x, [], []⟩ :: w, S4, ?_, OkW.cons (Lv.okT (a := []) (b := []) g3 (by simp) rfl rfl) t1, by rw [wsz_cons]; simp [Lv.sz, szs]; omega, b4⟩
        have ef : fr (⟨x, [], []⟩ :: w) = .tup [.str x, fr w] := rfl
        rw [ef, run_eq h.frame _ _ _ rfl]
        unfold B.b__law_frame
        obtain ⟨a0, b0, c0, rfl, _⟩ := hb
        obtain ⟨a2, b2, c2, rfl, _⟩ := b4
        by_cases c4 : (s : Int) < 2
        · simp only [List.map_cons, List.map_nil, List.length_cons, List.length_nil, List.replicate, Nat.reduceAdd, Nat.reduceSub, List.cons_append, List.nil_append, List.getElem?_cons_zero, List.getElem?_cons_succ, List.set_cons_zero, List.set_cons_succ, if_true, if_false, reduceIte, Bool.false_eq_true, decide_true, decide_false, Bool.not_true, Bool.not_false, trim_same, Bool.and_true, Bool.and_false, Bool.true_and, Bool.false_and, Bool.or_true, Bool.or_false, Bool.true_or, Bool.false_or, D.isStr, D.isTup, D.isLst, D.isInt, D.isBl, reduceCtorEq, bind_ok, bind_no, bind_ex, toF_ok, toF_no, toF_ex, seq_nx, seq_rt, seq_ex, seq_no, fin_nx, fin_rt, fin_no, fin_ex, trim_same', x_seq, x_skip, k_asg, x_asg, k_par, x_par, x_ret, k_exp, x_exp, cond_bl, k_if, x_ite, k_set3, k_set2, k_set1, x_setI, x_no, walk_some, upon_some, k_for2, k_for, x_for, for_nil, k_up, tg_v, tg_t, tgs_v, tgs_t, setAll_nil, setAll_cons, setsW_nil, setsW_cons, vr_some, e_v, e_c, e_g, e_nt, e_ng, nt_bl, ng_int, k_bin, e_bin, k_cmp2, k_cmp, e_cmp, k_idx2, k_idx, e_idx, e_tup, e_lst, e_call, e_prim, e_isi, es_nil, k_cons2, k_cons, es_cons, rcond_bl, k_ite, e_ite, k_and, e_and, k_or, e_or, k_orT, e_orT, ocond_some, k_ch2, k_ch, e_chain, k_meth, e_meth, eo_none, intR_int, eo_some, k_sl2, k_sl, e_sl, e_rev, okB_some', okW_some, add_int, sub_int, mul_int, fdiv_int, mod_int, pow_int, add_tup, cmp_lt, cmp_le, cmp_gt, cmp_ge, cmp_eqi, cmp_nei, cmp_eq0, cmp_ne0, cmp_is, cmp_isn, lsO_lst, seq_ref, lst_ref, idx_ref, idx_tup, idx_lst, idx_scr, at0, at1, at2, p_int, p_intb, p_abs, p_lent, p_lenl, p_lens, p_tupl, p_tupt, set_ref, slice_tup, tupW_nil, tupW1, tupW2, tupW3, k_comp, ev_comp, evc_none, evc_some, it_lst, it_tup, it_str, it_r1, it_r2, isi_str, isi_tup, isi_lst, isi_int, isi_bl, isi_lt, isi_bs, p_lenstr, cmp_instr, x_while, app_ref, last_at, last_set, new_lst, x_frz, rev_lst, e1, f1, f2, e2, decide_eq_true c4, lst2, e3, e4']
        · have c5 : r2 < 2 := by
            rcases c3 with c3 | c3
            · omega
            · exact c3
          simp only [List.map_cons, List.map_nil, List.length_cons, List.length_nil, List.replicate, Nat.reduceAdd, Nat.reduceSub, List.cons_append, List.nil_append, List.getElem?_cons_zero, List.getElem?_cons_succ, List.set_cons_zero, List.set_cons_succ, if_true, if_false, reduceIte, Bool.false_eq_true, decide_true, decide_false, Bool.not_true, Bool.not_false, trim_same, Bool.and_true, Bool.and_false, Bool.true_and, Bool.false_and, Bool.or_true, Bool.or_false, Bool.true_or, Bool.false_or, D.isStr, D.isTup, D.isLst, D.isInt, D.isBl, reduceCtorEq, bind_ok, bind_no, bind_ex, toF_ok, toF_no, toF_ex, seq_nx, seq_rt, seq_ex, seq_no, fin_nx, fin_rt, fin_no, fin_ex, trim_same', x_seq, x_skip, k_asg, x_asg, k_par, x_par, x_ret, k_exp, x_exp, cond_bl, k_if, x_ite, k_set3, k_set2, k_set1, x_setI, x_no, walk_some, upon_some, k_for2, k_for, x_for, for_nil, k_up, tg_v, tg_t, tgs_v, tgs_t, setAll_nil, setAll_cons, setsW_nil, setsW_cons, vr_some, e_v, e_c, e_g, e_nt, e_ng, nt_bl, ng_int, k_bin, e_bin, k_cmp2, k_cmp, e_cmp, k_idx2, k_idx, e_idx, e_tup, e_lst, e_call, e_prim, e_isi, es_nil, k_cons2, k_cons, es_cons, rcond_bl, k_ite, e_ite, k_and, e_and, k_or, e_or, k_orT, e_orT, ocond_some, k_ch2, k_ch, e_chain, k_meth, e_meth, eo_none, intR_int, eo_some, k_sl2, k_sl, e_sl, e_rev, okB_some', okW_some, add_int, sub_int, mul_int, fdiv_int, mod_int, pow_int, add_tup, cmp_lt, cmp_le, cmp_gt, cmp_ge, cmp_eqi, cmp_nei, cmp_eq0, cmp_ne0, cmp_is, cmp_isn, lsO_lst, seq_ref, lst_ref, idx_ref, idx_tup, idx_lst, idx_scr, at0, at1, at2, p_int, p_intb, p_abs, p_lent, p_lenl, p_lens, p_tupl, p_tupt, set_ref, slice_tup, tupW_nil, tupW1, tupW2, tupW3, k_comp, ev_comp, evc_none, evc_some, it_lst, it_tup, it_str, it_r1, it_r2, isi_str, isi_tup, isi_lst, isi_int, isi_bl, isi_lt, isi_bs, p_lenstr, cmp_instr, x_while, app_ref, last_at, last_set, new_lst, x_frz, rev_lst, e1, f1, f2, e2, decide_eq_false c4, decide_eq_true c5, lst2, e3, e4']
      · have c4 : ¬ (s : Int) < 2 := by omega
        have c5 : ¬ r2 < 2 := by omega
        have d1 := sub_div (s := s) (c := 2) (by omega)
        have d2 : ∀ S : Store, binW .fdiv false (.d (.int ((s : Int) - 1))) (.d (.int 2)) S = .ok (.d (.int (((s - 1) / 2 : Nat) : Int))) S := fun S => by rw [fdiv_int, if_pos (by decide)]; exact congrArg (fun i => R.ok (W.d (.int i)) S) d1
        obtain ⟨n, hn1, hn2, hn3, hn4⟩ : ∃ n : Nat, 1 ≤ n ∧ (s - 1) / 2 + n + 1 ≤ s ∧ n ≤ 1000 ∧ ((decide ((2 : Int) < (s : Int)) = true ∧ n = (s - 1) / 2) ∨ (decide ((2 : Int) < (s : Int)) = false ∧ n = 1)) := by
          by_cases c6 : 2 < s
          · exact ⟨(s - 1) / 2, by omega, by omega, by omega, .inl ⟨by rw [decide_eq_true_iff]; omega, rfl⟩⟩
          · exact ⟨1, by omega, by omega, by omega, .inr ⟨by rw [decide_eq_false_iff_not]; omega, rfl⟩⟩
        obtain ⟨w, S3, e3, w1, w2, b3⟩ := ih ((s - 1) / 2) (by omega) (k + 4) (m + 3 * n) S2 (by omega) (by omega) (b2.mono (by omega))
        obtain ⟨t, S4, e4, t1, t2, b4⟩ := r_term ⟨h.take, h.of, h.term, h.frame⟩ n (k + 4) m S3 hn1 hn3 (by omega) (b3.mono (by omega))
        have ht : hols [t] = some 0 := by simp [hols, t1]
        by_cases c7 : r2 = 2
        · subst c7
          refine ⟨⟨"f", [], [t]⟩ :: w, S4, ?_, OkW.cons (Lv.okT (a := []) (b := [t]) good_f (by simp) rfl ht) w1, by rw [wsz_cons]; simp [Lv.sz, szs]; omega, b4⟩
          have ef : fr (⟨"f", [], [t]⟩ :: w) = .tup [.str "f", fr w, t] := rfl
          rw [ef, run_eq h.frame _ _ _ rfl]
          unfold B.b__law_frame
          obtain ⟨a0, b0, c0, rfl, _⟩ := hb
          obtain ⟨a2, b2, c2, rfl, _⟩ := b4
          rcases hn4 with ⟨c6, rfl⟩ | ⟨c6, rfl⟩
          · simp only [List.map_cons, List.map_nil, List.length_cons, List.length_nil, List.replicate, Nat.reduceAdd, Nat.reduceSub, List.cons_append, List.nil_append, List.getElem?_cons_zero, List.getElem?_cons_succ, List.set_cons_zero, List.set_cons_succ, if_true, if_false, reduceIte, Bool.false_eq_true, decide_true, decide_false, Bool.not_true, Bool.not_false, trim_same, Bool.and_true, Bool.and_false, Bool.true_and, Bool.false_and, Bool.or_true, Bool.or_false, Bool.true_or, Bool.false_or, D.isStr, D.isTup, D.isLst, D.isInt, D.isBl, reduceCtorEq, bind_ok, bind_no, bind_ex, toF_ok, toF_no, toF_ex, seq_nx, seq_rt, seq_ex, seq_no, fin_nx, fin_rt, fin_no, fin_ex, trim_same', x_seq, x_skip, k_asg, x_asg, k_par, x_par, x_ret, k_exp, x_exp, cond_bl, k_if, x_ite, k_set3, k_set2, k_set1, x_setI, x_no, walk_some, upon_some, k_for2, k_for, x_for, for_nil, k_up, tg_v, tg_t, tgs_v, tgs_t, setAll_nil, setAll_cons, setsW_nil, setsW_cons, vr_some, e_v, e_c, e_g, e_nt, e_ng, nt_bl, ng_int, k_bin, e_bin, k_cmp2, k_cmp, e_cmp, k_idx2, k_idx, e_idx, e_tup, e_lst, e_call, e_prim, e_isi, es_nil, k_cons2, k_cons, es_cons, rcond_bl, k_ite, e_ite, k_and, e_and, k_or, e_or, k_orT, e_orT, ocond_some, k_ch2, k_ch, e_chain, k_meth, e_meth, eo_none, intR_int, eo_some, k_sl2, k_sl, e_sl, e_rev, okB_some', okW_some, add_int, sub_int, mul_int, mod_int, pow_int, add_tup, cmp_lt, cmp_le, cmp_gt, cmp_ge, cmp_eqi, cmp_nei, cmp_eq0, cmp_ne0, cmp_is, cmp_isn, lsO_lst, seq_ref, lst_ref, idx_ref, idx_tup, idx_lst, idx_scr, at0, at1, at2, p_int, p_intb, p_abs, p_lent, p_lenl, p_lens, p_tupl, p_tupt, set_ref, slice_tup, tupW_nil, tupW1, tupW2, tupW3, k_comp, ev_comp, evc_none, evc_some, it_lst, it_tup, it_str, it_r1, it_r2, isi_str, isi_tup, isi_lst, isi_int, isi_bl, isi_lt, isi_bs, p_lenstr, cmp_instr, x_while, app_ref, last_at, last_set, new_lst, x_frz, rev_lst, e1, f1, f2, e2, decide_eq_false c4, decide_eq_false c5, c6, d2, e3, e4, beq_self_eq_true]
          · have e4' : run P (k + 4) "_law_term" [.ref 0, .d (.int 1)] S3 = .ok (.d t) [bx a2 b2 c2] := e4
            simp only [List.map_cons, List.map_nil, List.length_cons, List.length_nil, List.replicate, Nat.reduceAdd, Nat.reduceSub, List.cons_append, List.nil_append, List.getElem?_cons_zero, List.getElem?_cons_succ, List.set_cons_zero, List.set_cons_succ, if_true, if_false, reduceIte, Bool.false_eq_true, decide_true, decide_false, Bool.not_true, Bool.not_false, trim_same, Bool.and_true, Bool.and_false, Bool.true_and, Bool.false_and, Bool.or_true, Bool.or_false, Bool.true_or, Bool.false_or, D.isStr, D.isTup, D.isLst, D.isInt, D.isBl, reduceCtorEq, bind_ok, bind_no, bind_ex, toF_ok, toF_no, toF_ex, seq_nx, seq_rt, seq_ex, seq_no, fin_nx, fin_rt, fin_no, fin_ex, trim_same', x_seq, x_skip, k_asg, x_asg, k_par, x_par, x_ret, k_exp, x_exp, cond_bl, k_if, x_ite, k_set3, k_set2, k_set1, x_setI, x_no, walk_some, upon_some, k_for2, k_for, x_for, for_nil, k_up, tg_v, tg_t, tgs_v, tgs_t, setAll_nil, setAll_cons, setsW_nil, setsW_cons, vr_some, e_v, e_c, e_g, e_nt, e_ng, nt_bl, ng_int, k_bin, e_bin, k_cmp2, k_cmp, e_cmp, k_idx2, k_idx, e_idx, e_tup, e_lst, e_call, e_prim, e_isi, es_nil, k_cons2, k_cons, es_cons, rcond_bl, k_ite, e_ite, k_and, e_and, k_or, e_or, k_orT, e_orT, ocond_some, k_ch2, k_ch, e_chain, k_meth, e_meth, eo_none, intR_int, eo_some, k_sl2, k_sl, e_sl, e_rev, okB_some', okW_some, add_int, sub_int, mul_int, mod_int, pow_int, add_tup, cmp_lt, cmp_le, cmp_gt, cmp_ge, cmp_eqi, cmp_nei, cmp_eq0, cmp_ne0, cmp_is, cmp_isn, lsO_lst, seq_ref, lst_ref, idx_ref, idx_tup, idx_lst, idx_scr, at0, at1, at2, p_int, p_intb, p_abs, p_lent, p_lenl, p_lens, p_tupl, p_tupt, set_ref, slice_tup, tupW_nil, tupW1, tupW2, tupW3, k_comp, ev_comp, evc_none, evc_some, it_lst, it_tup, it_str, it_r1, it_r2, isi_str, isi_tup, isi_lst, isi_int, isi_bl, isi_lt, isi_bs, p_lenstr, cmp_instr, x_while, app_ref, last_at, last_set, new_lst, x_frz, rev_lst, e1, f1, f2, e2, decide_eq_false c4, decide_eq_false c5, c6, d2, e3, e4', beq_self_eq_true]
        · have f7 : (r2 == 2) = false := by simpa using c7
          refine ⟨⟨"f", [t], []⟩ :: w, S4, ?_, OkW.cons (Lv.okT (a := [t]) (b := []) good_f (by simp) ht rfl) w1, by rw [wsz_cons]; simp [Lv.sz, szs]; omega, b4⟩
          have ef : fr (⟨"f", [t], []⟩ :: w) = .tup [.str "f", t, fr w] := rfl
          rw [ef, run_eq h.frame _ _ _ rfl]
          unfold B.b__law_frame
          obtain ⟨a0, b0, c0, rfl, _⟩ := hb
          obtain ⟨a2, b2, c2, rfl, _⟩ := b4
          rcases hn4 with ⟨c6, rfl⟩ | ⟨c6, rfl⟩
          · simp only [List.map_cons, List.map_nil, List.length_cons, List.length_nil, List.replicate, Nat.reduceAdd, Nat.reduceSub, List.cons_append, List.nil_append, List.getElem?_cons_zero, List.getElem?_cons_succ, List.set_cons_zero, List.set_cons_succ, if_true, if_false, reduceIte, Bool.false_eq_true, decide_true, decide_false, Bool.not_true, Bool.not_false, trim_same, Bool.and_true, Bool.and_false, Bool.true_and, Bool.false_and, Bool.or_true, Bool.or_false, Bool.true_or, Bool.false_or, D.isStr, D.isTup, D.isLst, D.isInt, D.isBl, reduceCtorEq, bind_ok, bind_no, bind_ex, toF_ok, toF_no, toF_ex, seq_nx, seq_rt, seq_ex, seq_no, fin_nx, fin_rt, fin_no, fin_ex, trim_same', x_seq, x_skip, k_asg, x_asg, k_par, x_par, x_ret, k_exp, x_exp, cond_bl, k_if, x_ite, k_set3, k_set2, k_set1, x_setI, x_no, walk_some, upon_some, k_for2, k_for, x_for, for_nil, k_up, tg_v, tg_t, tgs_v, tgs_t, setAll_nil, setAll_cons, setsW_nil, setsW_cons, vr_some, e_v, e_c, e_g, e_nt, e_ng, nt_bl, ng_int, k_bin, e_bin, k_cmp2, k_cmp, e_cmp, k_idx2, k_idx, e_idx, e_tup, e_lst, e_call, e_prim, e_isi, es_nil, k_cons2, k_cons, es_cons, rcond_bl, k_ite, e_ite, k_and, e_and, k_or, e_or, k_orT, e_orT, ocond_some, k_ch2, k_ch, e_chain, k_meth, e_meth, eo_none, intR_int, eo_some, k_sl2, k_sl, e_sl, e_rev, okB_some', okW_some, add_int, sub_int, mul_int, mod_int, pow_int, add_tup, cmp_lt, cmp_le, cmp_gt, cmp_ge, cmp_eqi, cmp_nei, cmp_eq0, cmp_ne0, cmp_is, cmp_isn, lsO_lst, seq_ref, lst_ref, idx_ref, idx_tup, idx_lst, idx_scr, at0, at1, at2, p_int, p_intb, p_abs, p_lent, p_lenl, p_lens, p_tupl, p_tupt, set_ref, slice_tup, tupW_nil, tupW1, tupW2, tupW3, k_comp, ev_comp, evc_none, evc_some, it_lst, it_tup, it_str, it_r1, it_r2, isi_str, isi_tup, isi_lst, isi_int, isi_bl, isi_lt, isi_bs, p_lenstr, cmp_instr, x_while, app_ref, last_at, last_set, new_lst, x_frz, rev_lst, e1, f1, f2, e2, decide_eq_false c4, decide_eq_false c5, c6, d2, e3, e4, f7]
          · have e4' : run P (k + 4) "_law_term" [.ref 0, .d (.int 1)] S3 = .ok (.d t) [bx a2 b2 c2] := e4
            simp only [List.map_cons, List.map_nil, List.length_cons, List.length_nil, List.replicate, Nat.reduceAdd, Nat.reduceSub, List.cons_append, List.nil_append, List.getElem?_cons_zero, List.getElem?_cons_succ, List.set_cons_zero, List.set_cons_succ, if_true, if_false, reduceIte, Bool.false_eq_true, decide_true, decide_false, Bool.not_true, Bool.not_false, trim_same, Bool.and_true, Bool.and_false, Bool.true_and, Bool.false_and, Bool.or_true, Bool.or_false, Bool.true_or, Bool.false_or, D.isStr, D.isTup, D.isLst, D.isInt, D.isBl, reduceCtorEq, bind_ok, bind_no, bind_ex, toF_ok, toF_no, toF_ex, seq_nx, seq_rt, seq_ex, seq_no, fin_nx, fin_rt, fin_no, fin_ex, trim_same', x_seq, x_skip, k_asg, x_asg, k_par, x_par, x_ret, k_exp, x_exp, cond_bl, k_if, x_ite, k_set3, k_set2, k_set1, x_setI, x_no, walk_some, upon_some, k_for2, k_for, x_for, for_nil, k_up, tg_v, tg_t, tgs_v, tgs_t, setAll_nil, setAll_cons, setsW_nil, setsW_cons, vr_some, e_v, e_c, e_g, e_nt, e_ng, nt_bl, ng_int, k_bin, e_bin, k_cmp2, k_cmp, e_cmp, k_idx2, k_idx, e_idx, e_tup, e_lst, e_call, e_prim, e_isi, es_nil, k_cons2, k_cons, es_cons, rcond_bl, k_ite, e_ite, k_and, e_and, k_or, e_or, k_orT, e_orT, ocond_some, k_ch2, k_ch, e_chain, k_meth, e_meth, eo_none, intR_int, eo_some, k_sl2, k_sl, e_sl, e_rev, okB_some', okW_some, add_int, sub_int, mul_int, mod_int, pow_int, add_tup, cmp_lt, cmp_le, cmp_gt, cmp_ge, cmp_eqi, cmp_nei, cmp_eq0, cmp_ne0, cmp_is, cmp_isn, lsO_lst, seq_ref, lst_ref, idx_ref, idx_tup, idx_lst, idx_scr, at0, at1, at2, p_int, p_intb, p_abs, p_lent, p_lenl, p_lens, p_tupl, p_tupt, set_ref, slice_tup, tupW_nil, tupW1, tupW2, tupW3, k_comp, ev_comp, evc_none, evc_some, it_lst, it_tup, it_str, it_r1, it_r2, isi_str, isi_tup, isi_lst, isi_int, isi_bl, isi_lt, isi_bs, p_lenstr, cmp_instr, x_while, app_ref, last_at, last_set, new_lst, x_frz, rev_lst, e1, f1, f2, e2, decide_eq_false c4, decide_eq_false c5, c6, d2, e3, e4', f7]
end
end MP
end

section
set_option maxHeartbeats 4000000
namespace MP
open PySem
section
variable {P : List Fd}
structure HLaw (P : List Fd) : Prop where
  fill : B.H__law_fill P
  holes : B.H__law_holes P
  size : B.H__law_size P
  levels : B.H__law_levels P
theorem cmp_eqn {S : Store} {x : MP.D} : cmpO .eq S (.d x) (.d (.tup [])) = some (match x with | .tup [] => true | _ => false) := by
  rw [cmp_eq0, eqv_nil]
  all_goals rfl
theorem hols_int {ps : List MP.D} {n : Nat} (h : hols ps = some n) : (ps.map fun p => (((hol p).getD 0 : Nat) : Int)).sum = n := (hols_sum h).2
theorem r_law_holes (h : B.H__law_holes P) : ∀ (k : Nat) (x : MP.D) (n : Nat) (S : Store), x.depth + 1 ≤ k → hol x = some n → run P k "_law_holes" [.d x] S = .ok (.d (.int (n : Int))) S
  | 0, x, n, S, hk, _ => by omega
  | k + 1, x, n, S, hk, hx => by
    rw [run_eq h _ _ _ rfl]
    unfold B.b__law_holes
    rcases hol_tup hx with rfl | ⟨s, ps, rfl, _, hl, hh⟩
    · cases hx
      simp [eqv_nil, trim_same]
    · simp only [D.depth, D.depths] at hk
      have q := comp_map (cl := run P k) (σ := [some (.d (.tup (.str s :: ps))), none]) (S := S) (own := [1]) (i := 1) (elt := .call "_law_holes" (.cons (.v 1) .nil)) ps (fun p => .int (((hol p).getD 0 : Nat) : Int)) (by show _ < 16777216; omega) fun y hy => by
        have := depth_mem y hy
        obtain ⟨m, hm⟩ := hols_mem hh y hy
        rw [hm]
        simp [wipeG, r_law_holes h k y m S (by omega) hm]
      simp [eqv_nil, cut1, q, sum_map, hols_int hh, trim_same]
theorem r_law_size (h : B.H__law_size P) : ∀ (k : Nat) (x : MP.D) (n : Nat) (S : Store), x.depth + 1 ≤ k → hol x = some n → run P k "_law_size" [.d x] S = .ok (.d (.int (sz x : Int))) S
  | 0, x, n, S, hk, _ => by omega
  | k + 1, x, n, S, hk, hx => by
    rw [run_eq h _ _ _ rfl]
    unfold B.b__law_size
    rcases hol_tup hx with rfl | ⟨s, ps, rfl, _, hl, hh⟩
    · simp [eqv_nil, trim_same, sz]
    · simp only [D.depth, D.depths] at hk
      have q := comp_map (cl := run P k) (σ := [some (.d (.tup (.str s :: ps))), none]) (S := S) (own := [1]) (i := 1) (elt := .call "_law_size" (.cons (.v 1) .nil)) ps (fun p => .int (sz p)) (by show _ < 16777216; omega) fun y hy => by
        have := depth_mem y hy
        obtain ⟨m, hm⟩ := hols_mem hh y hy
        simp [wipeG, r_law_size h k y m S (by omega) hm]
      simp [eqv_nil, cut1, q, sum_map, szs_sum, trim_same, sz]
      omega
theorem filled_parts {a b : List MP.D} {y z : MP.D} (ha : hols a = some 0) (hb : hols b = some 0) (hy : hol y = some 1) : ((a ++ y :: b).map fun p => if hol p = some 0 then p else z) = a ++ z :: b := by
  have e : ∀ {l : List MP.D}, hols l = some 0 → (l.map fun p => if hol p = some 0 then p else z) = l := fun {l} hl => by
    conv => rhs; rw [← List.map_id l]
    apply List.map_congr_left
    intro p hp
    rw [if_pos (hols_zero hl p hp)]
    rfl
  rw [List.map_append, List.map_cons, e ha, e hb, if_neg (by rw [hy]; simp)]
theorem r_law_fill (h : HLaw P) : ∀ (w : List Lv) (k : Nat) (x : MP.D) (S : Store), wsz w + w.length + 4 ≤ k → OkW w → run P k "_law_fill" [.d (fr w), .d x] S = .ok (.d (plug w x)) S
  | [], k, x, S, hk, _ => by
    obtain ⟨k, rfl⟩ : ∃ j, k = j + 1 := ⟨k - 1, by omega⟩
    rw [run_eq h.fill _ _ _ rfl]
    unfold B.b__law_fill
    simp [fr, plug, eqv_nil, trim_same]
  | l :: w, k, x, S, hk, ho => by
    obtain ⟨k, rfl⟩ : ∃ j, k = j + 1 := ⟨k - 1, by omega⟩
    rw [run_eq h.fill _ _ _ rfl]
    unfold B.b__law_fill
    have hsz : wsz (l :: w) = l.sz + wsz w := wsz_cons
    have h1 : 1 ≤ l.sz := by unfold Lv.sz; omega
    simp only [List.length_cons] at hk
    have hh := hol_fr ho.tail
    have hd := depth_sz (hol_fr ho)
    rw [sz_fr] at hd
    have e : fr (l :: w) = .tup (.str l.s :: (l.a ++ fr w :: l.b)) := rfl
    have few := ho.head.few
    have ih := r_law_fill h w k x S (by omega) ho.tail
    have hall : hols (l.a ++ fr w :: l.b) = some (0 + (1 + 0)) := hols_app ho.head.ha (by simp only [hols, hh, ho.head.hb])
    have q := comp_map (cl := run P k) (σ := [some (.d (fr (l :: w))), some (.d x), none]) (S := S) (own := [2]) (i := 2) (elt := .ite (.cmp .gt (.call "_law_holes" (.cons (.v 2) .nil)) (.c (.int 0))) (.call "_law_fill" (.cons (.v 2) (.cons (.v 1) .nil))) (.v 2)) (l.a ++ fr w :: l.b) (fun p => if hol p = some 0 then p else plug w x) (by show _ < 16777216; simp; omega) fun y hy => by
      have dm := depth_mem (xs := .str l.s :: (l.a ++ fr w :: l.b)) y (List.mem_cons_of_mem _ hy)
      rw [e] at hd
      simp only [D.depth] at hd
      obtain ⟨m, hm⟩ := hols_mem hall y hy
      have lh := r_law_holes h.holes k y m S (by omega) hm
      by_cases c : m = 0
      · subst c
        rw [hm]
        simp [wipeG, lh]
      · have cy : y = fr w := by
          rcases List.mem_append.mp hy with q | q
          · have := hols_zero ho.head.ha y q
            rw [hm] at this
            cases this
            exact absurd rfl c
          · rcases List.mem_cons.mp q with q | q
            · exact q
            · have := hols_zero ho.head.hb y q
              rw [hm] at this
              cases this
              exact absurd rfl c
        subst cy
        have c0 : 0 < m := by omega
        rw [hm, if_neg (by simpa using c)]
        simp [wipeG, lh, c0, ih]
    rw [filled_parts ho.head.ha ho.head.hb hh, e] at q
    rw [e]
    have l2 : 1 + (l.a ++ plug w x :: l.b).length ≤ line := line_of (by simp; omega)
    have e2 : plug (l :: w) x = .tup ([MP.D.str l.s] ++ (l.a ++ plug w x :: l.b)) := rfl
    rw [e2]
    have c0 : cutG (MP.D.str l.s :: (l.a ++ fr w :: l.b)) (some 1) none = l.a ++ fr w :: l.b := cut1 _ _
    have n0 : (MP.D.tup (.str l.s :: (l.a ++ fr w :: l.b))).eqv (.tup []) = false := rfl
    simp only [List.map_cons, List.map_nil, List.length_cons, List.length_nil, List.replicate, Nat.reduceAdd, Nat.reduceSub, List.cons_append, List.nil_append, List.getElem?_cons_zero, List.getElem?_cons_succ, List.set_cons_zero, List.set_cons_succ, if_true, if_false, reduceIte, Bool.false_eq_true, decide_true, decide_false, Bool.not_true, Bool.not_false, trim_same, Bool.and_true, Bool.and_false, Bool.true_and, Bool.false_and, Bool.or_true, Bool.or_false, Bool.true_or, Bool.false_or, D.isStr, D.isTup, D.isLst, D.isInt, D.isBl, reduceCtorEq, bind_ok, bind_no, bind_ex, toF_ok, toF_no, toF_ex, seq_nx, seq_rt, seq_ex, seq_no, fin_nx, fin_rt, fin_no, fin_ex, trim_same', x_seq, x_skip, k_asg, x_asg, k_par, x_par, x_ret, k_exp, x_exp, cond_bl, k_if, x_ite, k_set3, k_set2, k_set1, x_setI, x_no, walk_some, upon_some, k_for2, k_for, x_for, for_nil, k_up, tg_v, tg_t, tgs_v, tgs_t, setAll_nil, setAll_cons, setsW_nil, setsW_cons, vr_some, e_v, e_c, e_g, e_nt, e_ng, nt_bl, ng_int, k_bin, e_bin, k_cmp2, k_cmp, e_cmp, k_idx2, k_idx, e_idx, e_tup, e_lst, e_call, e_prim, e_isi, es_nil, k_cons2, k_cons, es_cons, rcond_bl, k_ite, e_ite, k_and, e_and, k_or, e_or, k_orT, e_orT, ocond_some, k_ch2, k_ch, e_chain, k_meth, e_meth, eo_none, intR_int, eo_some, k_sl2, k_sl, e_sl, e_rev, okB_some', okW_some, add_int, sub_int, mul_int, fdiv_int, mod_int, pow_int, add_tup, cmp_lt, cmp_le, cmp_gt, cmp_ge, cmp_eqi, cmp_nei, cmp_eq0, cmp_ne0, cmp_is, cmp_isn, lsO_lst, seq_ref, lst_ref, idx_ref, idx_tup, idx_lst, idx_scr, at0, at1, at2, p_int, p_intb, p_abs, p_lent, p_lenl, p_lens, p_tupl, p_tupt, set_ref, slice_tup, tupW_nil, tupW1, tupW2, tupW3, k_comp, ev_comp, evc_none, evc_some, it_lst, it_tup, it_str, it_r1, it_r2, isi_str, isi_tup, isi_lst, isi_int, isi_bl, isi_lt, isi_bs, p_lenstr, cmp_instr, x_while, app_ref, last_at, last_set, new_lst, x_frz, rev_lst, n0, c0, q, add_tup, l2]
/-! taken apart, the law's way -/
theorem place_comp {cl : Calls} {σ : St} {S : Store} {own : List Nat} {j : Nat} {cd : E} {l : Lv} {x : MP.D} (hl : l.Ok) (hx : hol x = some 1) (hj : ∀ z : W, ((wipeG σ own).set j (some z))[j]? = some (some z))
    (hc : ∀ (i : Nat) (y : MP.D), (l.a ++ x :: l.b)[i]? = some y → ev cl cd ((wipeG σ own).set j (some (.d (.int (1 + (i : Int)))))) S = .ok (.d (.bl (hol y != some 0))) S) :
    compR false (some (((List.range (l.a.length + 1 + l.b.length)).map fun (i : Nat) => MP.D.int (1 + (i : Int))).map W.d)) (compF (.v j) own (some (ev cl cd)) (ev cl (.v j)) σ) S = .ok (.d (.lst [.int (1 + (l.a.length : Int))])) S := by
  have few := hl.few
  have hlen : (l.a ++ x :: l.b).length = l.a.length + 1 + l.b.length := by simp; omega
  have at_ : ∀ i : Nat, i < l.a.length + 1 + l.b.length → ∃ y, (l.a ++ x :: l.b)[i]? = some y ∧ y ∈ l.a ++ x :: l.b := fun i hi => ⟨(l.a ++ x :: l.b)[i]'(by omega), List.getElem?_eq_getElem (by omega), List.getElem_mem _⟩
  let q : Nat → Bool := fun i => ((l.a ++ x :: l.b)[i]?.map fun y => hol y != some 0).getD false
  let p : MP.D → Bool := fun z => match z with
    | .int j => q (j - 1).toNat
    | _ => false
  have hp : ∀ i : Nat, p (.int (1 + (i : Int))) = q i := fun i => by
    show q (1 + (i : Int) - 1).toNat = q i
    congr 1
    omega
  have c := comp_if (cl := cl) (σ := σ) (S := S) (own := own) (i := j) (elt := .v j) (cd := cd) ((List.range (l.a.length + 1 + l.b.length)).map fun (i : Nat) => MP.D.int (1 + (i : Int))) p id (by rw [List.length_map, List.length_range]; exact Nat.lt_of_le_of_lt (show _ ≤ 3 by omega) (by decide)) (fun z hz => by
      obtain ⟨i, hi, rfl⟩ := List.mem_map.mp hz
      obtain ⟨y, ey, my⟩ := at_ i (List.mem_range.mp hi)
      rw [hp]
      have e : q i = (hol y != some 0) := by
        show ((l.a ++ x :: l.b)[i]?.map fun y => hol y != some 0).getD false = _
        rw [ey]; rfl
      rw [e]
      exact hc i y ey) (fun z hz _ => by
        rw [e_v, hj]
        rfl)
  have fl : ((List.range (l.a.length + 1 + l.b.length)).map fun (i : Nat) => MP.D.int (1 + (i : Int))).filter p = [.int (1 + l.a.length)] := by
    rw [List.filter_map]
    have e : (p ∘ fun (i : Nat) => MP.D.int (1 + (i : Int))) = q := funext hp
    have h1 : ∀ i, i < l.a.length → q i = false := fun i hi => by
      show ((l.a ++ x :: l.b)[i]?.map fun y => hol y != some 0).getD false = _
      rw [List.getElem?_append_left hi, List.getElem?_eq_getElem hi]
      have := hols_zero hl.ha (l.a[i]) (List.getElem_mem _)
      simp [this]
    have h2 : q l.a.length = true := by
      show ((l.a ++ x :: l.b)[l.a.length]?.map fun y => hol y != some 0).getD false = _
      rw [List.getElem?_append_right (Nat.le_refl _)]
      simp [hx]
    have h3 : ∀ i, i < l.b.length → q (l.a.length + 1 + i) = false := fun i hi => by
      show ((l.a ++ x :: l.b)[l.a.length + 1 + i]?.map fun y => hol y != some 0).getD false = _
      rw [List.getElem?_append_right (by omega), show l.a.length + 1 + i - l.a.length = i + 1 by omega, List.getElem?_cons_succ, List.getElem?_eq_getElem hi]
      have := hols_zero hl.hb (l.b[i]) (List.getElem_mem _)
      simp [this]
    rw [e, range_one h1 h2 h3]
    rfl
  rw [fl] at c
  exact c
theorem ix_on (l : Lv) (x : MP.D) (S : Store) (i : Nat) : idxW S (.d (l.on x)) (.d (.int (1 + (i : Int)))) = ((l.a ++ x :: l.b)[i]?).map W.d := by
  have e : (1 + (i : Int)) = ((i + 1 : Nat) : Int) := by omega
  show idxW S (.d (.tup (.str l.s :: (l.a ++ x :: l.b)))) _ = _
  rw [idx_tup, e, atN, List.getElem?_map, List.getElem?_cons_succ]
theorem len_on (l : Lv) (x : MP.D) (S : Store) : primW .len false [.d (l.on x)] S = .ok (.d (.int (((l.a.length + 1 + l.b.length : Nat) : Int) + 1))) S := by
  show primW .len false [.d (.tup (.str l.s :: (l.a ++ x :: l.b)))] S = _
  have hlen : (l.a ++ x :: l.b).length = l.a.length + 1 + l.b.length := by simp; omega
  rw [p_lent, List.length_cons, hlen, Int.natCast_add]
  rfl
theorem rg_on {l : Lv} (hl : l.Ok) : itemsW .rng [.d (.int 1), .d (.int (((l.a.length + 1 + l.b.length : Nat) : Int) + 1))] = some (((List.range (l.a.length + 1 + l.b.length)).map fun (i : Nat) => MP.D.int (1 + (i : Int))).map W.d) := by
  have few := hl.few
  rw [it_r2, okI_small (by omega) (by omega), okI_small (by omega) (by omega), rgI_map]
  rfl
def levTurn : MP.S := .seq (.ite (.cmp .ne (.v 0) (.tup .nil))
    (.seq (.asg (.v 3) (.idx (.comp false .rng (.cons (.c (.int 1)) (.cons (.prim .len false (.cons (.v 0) .nil)) .nil)) (.v 4) [4] (.some (.cmp .gt (.call "_law_holes" (.cons (.idx (.v 0) (.v 4)) .nil)) (.c (.int 0)))) (.v 4)) (.c (.int 0))))
    (.seq (.asg (.v 1) (.bin .add false (.v 1) (.lst false (.cons (.bin .add false (.bin .add false (.sl false (.v 0) .none (.some (.v 3))) (.tup (.cons (.tup .nil) .nil))) (.sl false (.v 0) (.some (.bin .add false (.v 3) (.c (.int 1)))) .none)) .nil))))
    (.seq (.asg (.v 0) (.idx (.v 0) (.v 3)))
    .skip))) .skip) .skip
theorem add_lst1 {xs : List MP.D} {y : MP.D} {S : Store} (h : xs.length < 1000) : binW .add false (.d (.lst xs)) (.d (.lst [y])) S = .ok (.d (.lst (xs ++ [y]))) S := by
  show addW false (.d (.lst xs)) (.d (.lst [y])) S = _
  unfold addW
  simp only [lstOf]
  rw [if_pos (show (xs.map W.d).length + ([y].map W.d).length ≤ line from line_of (by simp; omega))]
  unfold mkL
  rw [if_neg Bool.false_ne_true, ← List.map_append, pures_map]
theorem lst1 {x : MP.D} {S : Store} : lstW false [.d x] S = .ok (.d (.lst [x])) S := by
  unfold lstW
  rw [if_pos (by show 1 ≤ 16777216; decide)]
  rfl
theorem lev_turn (h : B.H__law_holes P) (l : Lv) (w : List Lv) (acc : List MP.D) (k : Nat) (o2 o3 o4 : Option W) (S : Store) (hk : wsz (l :: w) + 4 ≤ k) (ho : OkW (l :: w)) (ha : acc.length < 1000) :
    exec (run P k) levTurn [some (.d (fr (l :: w))), some (.d (.lst acc)), o2, o3, o4] S = .nx [some (.d (fr w)), some (.d (.lst (acc ++ [lv1 l]))), o2, some (.d (.int (1 + (l.a.length : Int)))), o4] S := by
  have hd := depth_sz (hol_fr ho)
  rw [sz_fr] at hd
  have hh := hol_fr ho.tail
  have e : fr (l :: w) = l.on (fr w) := rfl
  have few := ho.head.few
  have hall : hols (l.a ++ fr w :: l.b) = some (0 + (1 + 0)) := hols_app ho.head.ha (by simp only [hols, hh, ho.head.hb])
  rw [e] at hd ⊢
  have c := place_comp (cl := run P k) (σ := [some (.d (l.on (fr w))), some (.d (.lst acc)), o2, o3, o4]) (S := S) (own := [4]) (j := 4) (cd := .cmp .gt (.call "_law_holes" (.cons (.idx (.v 0) (.v 4)) .nil)) (.c (.int 0))) ho.head hh (fun z => by simp [wipeG]) (fun i y hy => by
    have my : y ∈ l.a ++ fr w :: l.b := List.mem_of_getElem? hy
    obtain ⟨m, hm⟩ := hols_mem hall y my
    have dm := depth_mem (xs := .str l.s :: (l.a ++ fr w :: l.b)) y (List.mem_cons_of_mem _ my)
    have ed : (l.on (fr w)).depth = D.depths (.str l.s :: (l.a ++ fr w :: l.b)) + 1 := rfl
    have lh := r_law_holes h k y m S (by omega) hm
    have b : (hol y != some 0) = decide ((0 : Int) < (m : Int)) := by
      rw [hm]
      cases m with
      | zero => rfl
      | succ m =>
        have e1 : (some (m + 1) != some 0) = true := by rw [bne_iff_ne]; simp
        rw [e1]
        symm
        rw [decide_eq_true_iff]
        omega
    rw [b]
    simp [wipeG, ix_on, hy, lh])
  have src : evs (run P k) (.cons (.c (.int 1)) (.cons (.prim .len false (.cons (.v 0) .nil)) .nil)) [some (.d (l.on (fr w))), some (.d (.lst acc)), o2, o3, o4] S = .ok [.d (.int 1), .d (.int (((l.a.length + 1 + l.b.length : Nat) : Int) + 1))] S := by
    simp only [k_asg, k_par, k_exp, k_if, k_set3, k_set2, k_set1, k_for2, k_for, k_up, k_bin, k_cmp2, k_cmp, k_idx2, k_idx, k_cons2, k_cons, k_ite, k_and, k_or, k_orT, k_ch2, k_ch, k_meth, k_sl2, k_sl, k_comp, es_cons, es_nil, e_c, e_prim, e_v, List.getElem?_cons_zero, vr_some, bind_ok, len_on]
  have body : ev (run P k) (.comp false .rng (.cons (.c (.int 1)) (.cons (.prim .len false (.cons (.v 0) .nil)) .nil)) (.v 4) [4] (.some (.cmp .gt (.call "_law_holes" (.cons (.idx (.v 0) (.v 4)) .nil)) (.c (.int 0)))) (.v 4)) [some (.d (l.on (fr w))), some (.d (.lst acc)), o2, o3, o4] S = .ok (.d (.lst [.int (1 + (l.a.length : Int))])) S := by
    rw [ev_comp, src, bind_ok, k_comp, rg_on ho.head, evc_some]
    exact c
  have l2 : l.a.length + 1 + 1 ≤ line := line_of (by omega)
  have l3 : l.a.length + 1 + 1 + l.b.length ≤ line := line_of (by omega)
  have hlv : MP.D.tup (.str l.s :: (l.a ++ .tup [] :: l.b)) = lv1 l := rfl
  unfold levTurn
  simp [on_eqv, body, slice_lo, slice_hi, add_tup, l2, l3, hlv, lst1, add_lst1 ha, at_on, -ev_comp]
theorem lev_loop (h : B.H__law_holes P) (k : Nat) (S : Store) : ∀ (its : List W) (w : List Lv) (acc : List MP.D) (o2 o3 o4 : Option W), wsz w + 4 ≤ k → OkW w → acc.length + w.length ≤ 1000 → w.length ≤ its.length →
    ∃ o2' o3', forS (run P k) (.v 2) levTurn its [some (.d (fr w)), some (.d (.lst acc)), o2, o3, o4] S = .nx [some (.d hole), some (.d (.lst (acc ++ w.map lv1))), o2', o3', o4] S
  | [], [], acc, o2, o3, o4, _, _, _, _ => ⟨o2, o3, by simp [fr, plug]⟩
  | [], l :: w, acc, o2, o3, o4, _, _, _, hl => by simp at hl
  | i :: its, [], acc, o2, o3, o4, hk, ho, hl, _ => by
    obtain ⟨a, b, q⟩ := lev_loop h k S its [] acc (some i) o3 o4 hk ho hl (Nat.zero_le _)
    refine ⟨a, b, ?_⟩
    rw [for_cons, tgs_v, upon_some, k_up]
    have e : exec (run P k) levTurn [some (.d (fr [])), some (.d (.lst acc)), some i, o3, o4] S = .nx [some (.d (fr [])), some (.d (.lst acc)), some i, o3, o4] S := by
      unfold levTurn
      simp [fr, plug, eqv_nil]
    simp only [List.set_cons_succ, List.set_cons_zero]
    rw [e, seq_nx, q]
  | i :: its, l :: w, acc, o2, o3, o4, hk, ho, hl, hle => by
    have hsz : wsz (l :: w) = l.sz + wsz w := wsz_cons
    simp only [List.length_cons] at hl hle
    obtain ⟨a, b, q⟩ := lev_loop h k S its w (acc ++ [lv1 l]) (some i) (some (.d (.int (1 + (l.a.length : Int))))) o4 (by omega) ho.tail (by simp; omega) (by omega)
    refine ⟨a, b, ?_⟩
    rw [for_cons, tgs_v, upon_some, k_up]
    simp only [List.set_cons_succ, List.set_cons_zero]
    rw [lev_turn h l w acc k (some i) o3 o4 S hk ho (by omega), seq_nx, q]
    simp
theorem r_law_levels (h : HLaw P) (w : List Lv) (k : Nat) (S : Store) (hk : wsz w + 6 ≤ k) (ho : OkW w) (hl : w.length ≤ 60) : run P k "_law_levels" [.d (fr w)] S = .ok (.d (.lst (w.map lv1))) S := by
  obtain ⟨k, rfl⟩ : ∃ j, k = j + 1 := ⟨k - 1, by omega⟩
  rw [run_eq h.levels _ _ _ rfl]
  have eb : B.b__law_levels = .seq (.asg (.v 1) (.lst false .nil)) (.seq (.for_ .rng (.cons (.c (.int 60)) .nil) (.v 2) levTurn) (.seq (.ret (.v 1)) .skip)) := rfl
  rw [eb]
  have e4 : itemsW .rng [.d (.int 60)] = some (rgI 0 60) := by
    rw [it_r1, okI_small (by omega) (by omega)]
    rfl
  have h60 : (rgI 0 60).length = 60 := by simp [rgI]
  obtain ⟨a, b, q⟩ := lev_loop h.holes k S (rgI 0 60) w [] none none none (by omega) ho (by simpa using (by omega : w.length ≤ 1000)) (by omega)
  have l0 : lstW false [] S = .ok (.d (.lst [])) S := by
    unfold lstW
    rw [if_pos (show ([] : List W).length ≤ line from Nat.zero_le _)]
    rfl
  simp [l0, e4, q, trim_same]
end
end MP
end

section
set_option maxHeartbeats 4000000
namespace MP
open PySem
section
variable {P : List Fd}
/-! ### the script, the box -/
theorem r_box (h : B.H__law_box P) (k : Nat) (x : Int) : ∃ a b, run P (k + 1) "_law_box" [.d (.lst [.int x]), .d (.int 0)] [] = .ok (.ref 0) [bx a b 0] := by
  rw [run_eq h _ _ _ rfl]
  unfold B.b__law_box
  have l3 : ∀ {a b c : MP.D} {S : Store}, lstW true [.d a, .d b, .d c] S = .ok (.ref S.length) (S ++ [.lst [.d a, .d b, .d c]]) := fun {a b c S} => new_lst (ws := [.d a, .d b, .d c]) (by show 3 ≤ 16777216; decide)
  have s1 : ∀ c : Bool, smallI (if c = true then 1 else 0) = true := fun c => by cases c <;> decide
  have s0 : smallI 0 = true := by decide
  have s2 : ∀ y : Int, smallI (if 1000000000000000000 ≤ y then 1 else 0) = true := fun y => by split <;> decide
  simp [l3, s2, s0, (by decide : smallI 39373 = true)]
  exact ⟨_, _, rfl⟩
theorem enu_mem {xs : List MP.D} {w : W} (h : w ∈ enuG xs) : ∃ (i : Nat) (x : MP.D), w = .d (.tup [.int (i : Int), x]) ∧ i < xs.length ∧ x ∈ xs := by
  unfold enuG at h
  obtain ⟨⟨x, i⟩, hp, rfl⟩ := List.mem_map.mp h
  have := List.mem_zipIdx hp
  refine ⟨i, x, rfl, by omega, ?_⟩
  rw [this.2.2]
  exact List.getElem_mem _
def cellTurn : MP.S := .seq (.asg (.v 5) (.bin .mod false (.prim .int false (.cons (.v 3) .nil)) (.v 1)))
    (.seq (.setI (.v 2) (.v 5) (.bin .add false (.idx (.v 2) (.v 5)) (.bin .mul false (.v 4) (.bin .add false (.v 3) (.c (.int 2)))))) .skip)
theorem cell_loop {cl : Calls} {w0 : W} : ∀ (its : List W) (o3 o4 o5 : Option W) (x : Int), (∀ w ∈ its, ∃ (i : Nat) (c : Int), w = .d (.tup [.int (i : Int), .int c]) ∧ i ≤ 1000) → ∃ o3' o4' o5' x', forS cl (.t [3, 4]) cellTurn its [some w0, some (.d (.int 1)), some (.ref 0), o3, o4, o5] [.lst [.d (.int x)]] = .nx [some w0, some (.d (.int 1)), some (.ref 0), o3', o4', o5'] [.lst [.d (.int x')]]
  | [], o3, o4, o5, x, _ => ⟨o3, o4, o5, x, rfl⟩
  | w :: its, o3, o4, o5, x, h => by
    obtain ⟨i, c, rfl, hi⟩ := h w List.mem_cons_self
    obtain ⟨a, b, d, x', q⟩ := cell_loop (cl := cl) (w0 := w0) its (some (.d (.int (i : Int)))) (some (.d (.int c))) (some (.d (.int 0))) (x + c * ((i : Int) + 2)) fun w hw => h w (List.mem_cons_of_mem _ hw)
    refine ⟨a, b, d, x', ?_⟩
    have s1 : smallI ((i : Int) + 2) = true := small_of (by omega) (by omega)
    rw [for_cons, tgs_t, setAll_cons, setAll_cons, setAll_nil, upon_some]
    unfold cellTurn
    simp [s1, Int.emod_one, L2.ixN]
    exact q
theorem r_cells (h : B.H__law_cells P) (k : Nat) (ns : List Int) (hn : ns.length ≤ 63) : ∃ x : Int, run P (k + 1) "_law_cells" [.scr (ns.map .int), .d (.int 1)] [] = .ok (.d (.lst [.int x])) [] := by
  rw [run_eq h _ _ _ rfl]
  have eb : B.b__law_cells = .seq (.asg (.v 2) (.orT (.prim .list true (.cons (.sl false (.v 0) .none (.some (.v 1))) .nil)) (.lst true (.cons (.c (.int 0)) .nil)))) (.seq (.for_ .enu (.cons (.sl false (.v 0) (.some (.v 1)) (.some (.c (.int 63)))) .nil) (.t [3, 4]) cellTurn) (.seq (.frz 2) (.seq (.ret (.v 2)) .skip))) := rfl
  rw [eb]
  have sc : ∀ (lo hi : Option Int) (S : Store), slW false (.scr (ns.map .int)) lo hi S = .ok (.d (.lst (cutG (ns.map .int) lo hi))) S := fun lo hi S => by
    unfold slW
    simp only [lseqOf]
    unfold mkL cutG
    rw [if_neg Bool.false_ne_true, List.length_map, ← List.map_drop, ← List.map_take, pures_map]
  have its : ∀ w ∈ enuG (cutG (ns.map .int) (some 1) (some 63)), ∃ (i : Nat) (c : Int), w = .d (.tup [.int (i : Int), .int c]) ∧ i ≤ 1000 := fun w hw => by
    obtain ⟨i, x, e, hi, hx⟩ := enu_mem hw
    have sub : x ∈ ns.map MP.D.int := List.mem_of_mem_drop (List.mem_of_mem_take hx)
    obtain ⟨c, _, rfl⟩ := List.mem_map.mp sub
    have hl : (cutG (ns.map MP.D.int) (some 1) (some 63)).length ≤ 63 := by
      unfold cutG
      rw [List.length_take, List.length_drop, List.length_map]
      omega
    exact ⟨i, c, e, by omega⟩
  have it : itemsW .enu [.d (.lst (cutG (ns.map .int) (some 1) (some 63)))] = some (enuG (cutG (ns.map .int) (some 1) (some 63))) := rfl
  have pl : ∀ (xs : List MP.D) (S : Store), primW .list true [.d (.lst xs)] S = .ok (.ref S.length) (S ++ [.lst (xs.map .d)]) := fun xs S => rfl
  have l1 : ∀ {a : MP.D} {S : Store}, lstW true [.d a] S = .ok (.ref S.length) (S ++ [.lst [.d a]]) := fun {a S} => new_lst (ws := [.d a]) (by show 1 ≤ 16777216; decide)
  cases ns with
  | nil =>
    have c0 : cutG (([] : List Int).map MP.D.int) none (some 1) = [] := rfl
    have c1 : cutG (([] : List Int).map MP.D.int) (some 1) (some 63) = [] := rfl
    refine ⟨0, ?_⟩
    rw [c1] at it
    simp only [List.map_cons, List.map_nil, List.length_cons, List.length_nil, List.replicate, Nat.reduceAdd, Nat.reduceSub, List.cons_append, List.nil_append, List.getElem?_cons_zero, List.getElem?_cons_succ, List.set_cons_zero, List.set_cons_succ, if_true, if_false, reduceIte, Bool.false_eq_true, decide_true, decide_false, Bool.not_true, Bool.not_false, trim_same, Bool.and_true, Bool.and_false, Bool.true_and, Bool.false_and, Bool.or_true, Bool.or_false, Bool.true_or, Bool.false_or, D.isStr, D.isTup, D.isLst, D.isInt, D.isBl, reduceCtorEq, bind_ok, bind_no, bind_ex, toF_ok, toF_no, toF_ex, seq_nx, seq_rt, seq_ex, seq_no, fin_nx, fin_rt, fin_no, fin_ex, trim_same', x_seq, x_skip, k_asg, x_asg, k_par, x_par, x_ret, k_exp, x_exp, cond_bl, k_if, x_ite, k_set3, k_set2, k_set1, x_setI, x_no, walk_some, upon_some, k_for2, k_for, x_for, for_nil, k_up, tg_v, tg_t, tgs_v, tgs_t, setAll_nil, setAll_cons, setsW_nil, setsW_cons, vr_some, e_v, e_c, e_g, e_nt, e_ng, nt_bl, ng_int, k_bin, e_bin, k_cmp2, k_cmp, e_cmp, k_idx2, k_idx, e_idx, e_tup, e_lst, e_call, e_prim, e_isi, es_nil, k_cons2, k_cons, es_cons, rcond_bl, k_ite, e_ite, k_and, e_and, k_or, e_or, k_orT, e_orT, ocond_some, k_ch2, k_ch, e_chain, k_meth, e_meth, eo_none, intR_int, eo_some, k_sl2, k_sl, e_sl, e_rev, okB_some', okW_some, add_int, sub_int, mul_int, fdiv_int, mod_int, pow_int, add_tup, cmp_lt, cmp_le, cmp_gt, cmp_ge, cmp_eqi, cmp_nei, cmp_eq0, cmp_ne0, cmp_is, cmp_isn, lsO_lst, seq_ref, lst_ref, idx_ref, idx_tup, idx_lst, idx_scr, at0, at1, at2, p_int, p_intb, p_abs, p_lent, p_lenl, p_lens, p_tupl, p_tupt, set_ref, slice_tup, tupW_nil, tupW1, tupW2, tupW3, k_comp, ev_comp, evc_none, evc_some, it_lst, it_tup, it_str, it_r1, it_r2, isi_str, isi_tup, isi_lst, isi_int, isi_bl, isi_lt, isi_bs, p_lenstr, cmp_instr, x_while, app_ref, last_at, last_set, new_lst, x_frz, rev_lst, sc, c0, c1, it, pl, truW, seq_ref, killW, l1]
    rfl
  | cons n ns =>
    have c0 : cutG ((n :: ns).map MP.D.int) none (some 1) = [.int n] := rfl
    obtain ⟨a, b, d, x', q⟩ := cell_loop (cl := run P k) (w0 := .scr ((n :: ns).map .int)) _ none none none n its
    refine ⟨x', ?_⟩
    have q1 := q
    simp only [List.map_cons] at sc it q1 c0
    have tw : truW [.lst [W.d (.int n)]] (.ref 0) = some true := rfl
    simp only [List.map_cons, List.map_nil, List.length_cons, List.length_nil, List.replicate, Nat.reduceAdd, Nat.reduceSub, List.cons_append, List.nil_append, List.getElem?_cons_zero, List.getElem?_cons_succ, List.set_cons_zero, List.set_cons_succ, if_true, if_false, reduceIte, Bool.false_eq_true, decide_true, decide_false, Bool.not_true, Bool.not_false, trim_same, Bool.and_true, Bool.and_false, Bool.true_and, Bool.false_and, Bool.or_true, Bool.or_false, Bool.true_or, Bool.false_or, D.isStr, D.isTup, D.isLst, D.isInt, D.isBl, reduceCtorEq, bind_ok, bind_no, bind_ex, toF_ok, toF_no, toF_ex, seq_nx, seq_rt, seq_ex, seq_no, fin_nx, fin_rt, fin_no, fin_ex, trim_same', x_seq, x_skip, k_asg, x_asg, k_par, x_par, x_ret, k_exp, x_exp, cond_bl, k_if, x_ite, k_set3, k_set2, k_set1, x_setI, x_no, walk_some, upon_some, k_for2, k_for, x_for, for_nil, k_up, tg_v, tg_t, tgs_v, tgs_t, setAll_nil, setAll_cons, setsW_nil, setsW_cons, vr_some, e_v, e_c, e_g, e_nt, e_ng, nt_bl, ng_int, k_bin, e_bin, k_cmp2, k_cmp, e_cmp, k_idx2, k_idx, e_idx, e_tup, e_lst, e_call, e_prim, e_isi, es_nil, k_cons2, k_cons, es_cons, rcond_bl, k_ite, e_ite, k_and, e_and, k_or, e_or, k_orT, e_orT, ocond_some, k_ch2, k_ch, e_chain, k_meth, e_meth, eo_none, intR_int, eo_some, k_sl2, k_sl, e_sl, e_rev, okB_some', okW_some, add_int, sub_int, mul_int, fdiv_int, mod_int, pow_int, add_tup, cmp_lt, cmp_le, cmp_gt, cmp_ge, cmp_eqi, cmp_nei, cmp_eq0, cmp_ne0, cmp_is, cmp_isn, lsO_lst, seq_ref, lst_ref, idx_ref, idx_tup, idx_lst, idx_scr, at0, at1, at2, p_int, p_intb, p_abs, p_lent, p_lenl, p_lens, p_tupl, p_tupt, set_ref, slice_tup, tupW_nil, tupW1, tupW2, tupW3, k_comp, ev_comp, evc_none, evc_some, it_lst, it_tup, it_str, it_r1, it_r2, isi_str, isi_tup, isi_lst, isi_int, isi_bl, isi_lt, isi_bs, p_lenstr, cmp_instr, x_while, app_ref, last_at, last_set, new_lst, x_frz, rev_lst, sc, c0, pl, tw, it]
    rw [q1]
    simp only [List.map_cons, List.map_nil, List.length_cons, List.length_nil, List.replicate, Nat.reduceAdd, Nat.reduceSub, List.cons_append, List.nil_append, List.getElem?_cons_zero, List.getElem?_cons_succ, List.set_cons_zero, List.set_cons_succ, if_true, if_false, reduceIte, Bool.false_eq_true, decide_true, decide_false, Bool.not_true, Bool.not_false, trim_same, Bool.and_true, Bool.and_false, Bool.true_and, Bool.false_and, Bool.or_true, Bool.or_false, Bool.true_or, Bool.false_or, D.isStr, D.isTup, D.isLst, D.isInt, D.isBl, reduceCtorEq, bind_ok, bind_no, bind_ex, toF_ok, toF_no, toF_ex, seq_nx, seq_rt, seq_ex, seq_no, fin_nx, fin_rt, fin_no, fin_ex, trim_same', x_seq, x_skip, k_asg, x_asg, k_par, x_par, x_ret, k_exp, x_exp, cond_bl, k_if, x_ite, k_set3, k_set2, k_set1, x_setI, x_no, walk_some, upon_some, k_for2, k_for, x_for, for_nil, k_up, tg_v, tg_t, tgs_v, tgs_t, setAll_nil, setAll_cons, setsW_nil, setsW_cons, vr_some, e_v, e_c, e_g, e_nt, e_ng, nt_bl, ng_int, k_bin, e_bin, k_cmp2, k_cmp, e_cmp, k_idx2, k_idx, e_idx, e_tup, e_lst, e_call, e_prim, e_isi, es_nil, k_cons2, k_cons, es_cons, rcond_bl, k_ite, e_ite, k_and, e_and, k_or, e_or, k_orT, e_orT, ocond_some, k_ch2, k_ch, e_chain, k_meth, e_meth, eo_none, intR_int, eo_some, k_sl2, k_sl, e_sl, e_rev, okB_some', okW_some, add_int, sub_int, mul_int, fdiv_int, mod_int, pow_int, add_tup, cmp_lt, cmp_le, cmp_gt, cmp_ge, cmp_eqi, cmp_nei, cmp_eq0, cmp_ne0, cmp_is, cmp_isn, lsO_lst, seq_ref, lst_ref, idx_ref, idx_tup, idx_lst, idx_scr, at0, at1, at2, p_int, p_intb, p_abs, p_lent, p_lenl, p_lens, p_tupl, p_tupt, set_ref, slice_tup, tupW_nil, tupW1, tupW2, tupW3, k_comp, ev_comp, evc_none, evc_some, it_lst, it_tup, it_str, it_r1, it_r2, isi_str, isi_tup, isi_lst, isi_int, isi_bl, isi_lt, isi_bs, p_lenstr, cmp_instr, x_while, app_ref, last_at, last_set, new_lst, x_frz, rev_lst, freeze]
    rfl
end
end MP
end

section
set_option maxHeartbeats 4000000
namespace MP
open PySem
section
variable {P : List Fd}
structure H02 (P : List Fd) : Prop extends HPow P, HDraw P, HLaw P where
  frame_size : B.H_frame_size P
  same : B.H__law_same P
  right : B.H__law_right P
  box : B.H__law_box P
  cells : B.H__law_cells P
  law : B.H_law P
theorem fr_app {w u : List Lv} : plug w (fr u) = fr (w ++ u) := plug_app.symm
def powTurn : MP.S := .seq (.asg (.v 1) (.call "_law_fill" (.cons (.v 9) (.cons (.v 1) .nil)))) .skip
theorem pow_loop (h : H02 P) (w : List Lv) (k : Nat) (S : Store) (o0 o9 o10 o11 o12 : Option W) (hk : wsz w + w.length + 4 ≤ k) (ho : OkW w) : ∀ (its : List W) (j : Nat) (o2 : Option W), ∃ o2', forS (run P k) (.v 2) powTurn its [o0, some (.d (fr (Wd.pw w j))), o2, none, none, none, none, none, none, some (.d (fr w)), o10, o11, o12, none, none, none, none, none] S
    = .nx [o0, some (.d (fr (Wd.pw w (j + its.length)))), o2', none, none, none, none, none, none, some (.d (fr w)), o10, o11, o12, none, none, none, none, none] S
  | [], j, o2 => ⟨o2, by simp⟩
  | i :: its, j, o2 => by
    obtain ⟨o, q⟩ := pow_loop h w k S o0 o9 o10 o11 o12 hk ho its (j + 1) (some i)
    refine ⟨o, ?_⟩
    have f := r_law_fill h.toHLaw w k (fr (Wd.pw w j)) S hk ho
    rw [fr_app, ← Wd.pw_succ] at f
    rw [for_cons, tgs_v, upon_some, k_up]
    have e : exec (run P k) powTurn [o0, some (.d (fr (Wd.pw w j))), some i, none, none, none, none, none, none, some (.d (fr w)), o10, o11, o12, none, none, none, none, none] S = .nx [o0, some (.d (fr (Wd.pw w (j + 1)))), some i, none, none, none, none, none, none, some (.d (fr w)), o10, o11, o12, none, none, none, none, none] S := by
      unfold powTurn
      simp only [List.map_cons, List.map_nil, List.length_cons, List.length_nil, List.replicate, Nat.reduceAdd, Nat.reduceSub, List.cons_append, List.nil_append, List.getElem?_cons_zero, List.getElem?_cons_succ, List.set_cons_zero, List.set_cons_succ, if_true, if_false, reduceIte, Bool.false_eq_true, decide_true, decide_false, Bool.not_true, Bool.not_false, trim_same, Bool.and_true, Bool.and_false, Bool.true_and, Bool.false_and, Bool.or_true, Bool.or_false, Bool.true_or, Bool.false_or, D.isStr, D.isTup, D.isLst, D.isInt, D.isBl, reduceCtorEq, bind_ok, bind_no, bind_ex, toF_ok, toF_no, toF_ex, seq_nx, seq_rt, seq_ex, seq_no, fin_nx, fin_rt, fin_no, fin_ex, trim_same', x_seq, x_skip, k_asg, x_asg, k_par, x_par, x_ret, k_exp, x_exp, cond_bl, k_if, x_ite, k_set3, k_set2, k_set1, x_setI, x_no, walk_some, upon_some, k_for2, k_for, x_for, for_nil, k_up, tg_v, tg_t, tgs_v, tgs_t, setAll_nil, setAll_cons, setsW_nil, setsW_cons, vr_some, e_v, e_c, e_g, e_nt, e_ng, nt_bl, ng_int, k_bin, e_bin, k_cmp2, k_cmp, e_cmp, k_idx2, k_idx, e_idx, e_tup, e_lst, e_call, e_prim, e_isi, es_nil, k_cons2, k_cons, es_cons, rcond_bl, k_ite, e_ite, k_and, e_and, k_or, e_or, k_orT, e_orT, ocond_some, k_ch2, k_ch, e_chain, k_meth, e_meth, eo_none, intR_int, eo_some, k_sl2, k_sl, e_sl, e_rev, okB_some', okW_some, add_int, sub_int, mul_int, fdiv_int, mod_int, pow_int, add_tup, cmp_lt, cmp_le, cmp_gt, cmp_ge, cmp_eqi, cmp_nei, cmp_eq0, cmp_ne0, cmp_is, cmp_isn, lsO_lst, seq_ref, lst_ref, idx_ref, idx_tup, idx_lst, idx_scr, at0, at1, at2, p_int, p_intb, p_abs, p_lent, p_lenl, p_lens, p_tupl, p_tupt, set_ref, slice_tup, tupW_nil, tupW1, tupW2, tupW3, k_comp, ev_comp, evc_none, evc_some, it_lst, it_tup, it_str, it_r1, it_r2, isi_str, isi_tup, isi_lst, isi_int, isi_bl, isi_lt, isi_bs, p_lenstr, cmp_instr, x_while, app_ref, last_at, last_set, new_lst, x_frz, rev_lst, f]
    simp only [List.set_cons_succ, List.set_cons_zero]
    rw [e, seq_nx, q]
    rw [List.length_cons, show j + (its.length + 1) = j + 1 + its.length by omega]
open Classical in
theorem per_head {α : Type} {w : List α} (hne : w ≠ []) : ∀ (m s : Nat), 1 ≤ s → s ≤ Wd.fp w → s + m = w.length + 1 → ∃ r, (List.range' s m).filter (fun k => decide (Wd.Per w k)) = Wd.fp w :: r
  | 0, s, h1, h2, h3 => by
    have := Wd.per_le hne (Wd.fp_spec hne).1
    omega
  | m + 1, s, h1, h2, h3 => by
    rw [List.range'_succ, List.filter_cons]
    by_cases p : Wd.Per w s
    · have e : s = Wd.fp w := by
        have := (Wd.fp_spec hne).2 s p
        omega
      rw [if_pos (decide_eq_true p), ← e]
      exact ⟨_, rfl⟩
    · have e : s ≠ Wd.fp w := fun e => p (e ▸ (Wd.fp_spec hne).1)
      rw [if_neg (by simpa using p)]
      exact per_head hne m (s + 1) (by omega) (by omega) (by omega)
def perE : E := .comp false .rng (.cons (.c (.int 1)) (.cons (.bin .add false (.prim .len false (.cons (.v 3) .nil)) (.c (.int 1))) .nil)) (.v 17) [17] (.some (.and (.cmp .eq (.bin .mul false (.bin .fdiv false (.prim .len false (.cons (.v 3) .nil)) (.v 17)) (.v 17)) (.prim .len false (.cons (.v 3) .nil))) (.cmp .eq (.bin .mul false (.sl false (.v 3) .none (.some (.v 17))) (.bin .fdiv false (.prim .len false (.cons (.v 3) .nil)) (.v 17))) (.v 3)))) (.v 17)
open Classical in
theorem r_periods (h : H02 P) (p : List Lv) (k : Nat) (S : Store) (σ : St) (ho : OkW p) (hs : wsz p ≤ 60) (hσ : σ.length = 18) (h3 : σ[3]? = some (some (.d (.lst (p.map lv1))))) :
    ev (run P k) perE σ S = .ok (.d (.lst (((List.range' 1 p.length).filter fun k => decide (Wd.Per p k)).map fun (i : Nat) => MP.D.int (i : Int)))) S := by
  have hl := len_wsz p
  have e4 : itemsW .rng [.d (.int 1), .d (.int ((p.length : Int) + 1))] = some (((List.range' 1 p.length).map fun (i : Nat) => MP.D.int (i : Int)).map W.d) := by
    rw [it_r2, okI_small (by omega) (by omega), okI_small (by omega) (by omega), List.map_map]
    exact congrArg some (rg_from p.length)
  have g3 : ∀ z : W, ((wipeG σ [17]).set 17 (some z))[3]? = some (some (.d (.lst (p.map lv1)))) := fun z => by
    rw [List.getElem?_set_ne (by decide), wipeG_get, if_neg (by decide), h3]
  have g17 : ∀ z : W, ((wipeG σ [17]).set 17 (some z))[17]? = some (some z) := fun z => by
    rw [List.getElem?_set_self (by rw [wipeG_length, hσ]; decide)]
  unfold perE
  let q : MP.D → Bool := fun z => match z with
    | .int j => decide (Wd.Per p j.toNat)
    | _ => false
  have c := comp_if (cl := run P k) (σ := σ) (S := S) (own := [17]) (i := 17) (elt := .v 17) (cd := .and (.cmp .eq (.bin .mul false (.bin .fdiv false (.prim .len false (.cons (.v 3) .nil)) (.v 17)) (.v 17)) (.prim .len false (.cons (.v 3) .nil))) (.cmp .eq (.bin .mul false (.sl false (.v 3) .none (.some (.v 17))) (.bin .fdiv false (.prim .len false (.cons (.v 3) .nil)) (.v 17))) (.v 3))) ((List.range' 1 p.length).map fun (i : Nat) => MP.D.int (i : Int)) q id (by rw [List.length_map, List.length_range']; exact line_lt (by omega)) (fun z hz => by
      obtain ⟨s, hi, rfl⟩ := List.mem_map.mp hz
      obtain ⟨h1, h2⟩ := List.mem_range'_1.mp hi
      have e1 := slice_lst_to (xs := p.map lv1) (j := s) (S := S)
      rw [← List.map_take] at e1
      have hdiv : p.length / s ≤ p.length := Nat.div_le_self _ _
      have e2 := mul_lst (S := S) (xs := (p.take s).map lv1) (m := p.length / s) (by omega) (by simp; omega)
      rw [pw_lvs] at e2
      have e3 := eq_lvs ((ho.take s).pw (p.length / s)) ho (by omega) S
      have f2 := f_div (n := p.length) (s := s) (S := S) h1 (by omega)
      have f3 : binW .mul false (.d (.int ((p.length / s : Nat) : Int))) (.d (.int (s : Int))) S = .ok (.d (.int ((p.length / s * s : Nat) : Int))) S := by
        rw [mul_int, small_of (i := (s : Int)) (by omega) (by omega), Bool.or_true, if_pos rfl]
        congr 3
      have f4 := f_nat (n := p.length / s * s) (m := p.length) (S := S)
      have eq : q (.int (s : Int)) = decide (Wd.Per p s) := by
        show decide (Wd.Per p ((s : Int)).toNat) = _
        rw [Int.toNat_natCast]
      rw [eq]
      have dm : p.length / s * s = p.length ↔ p.length % s = 0 := by
        have := Nat.div_add_mod p.length s
        rw [Nat.mul_comm] at this
        omega
      by_cases c1 : p.length / s * s = p.length
      · rw [decide_eq_true c1] at f4
        by_cases c2 : Wd.pw (p.take s) (p.length / s) = p
        · rw [decide_eq_true c2] at e3
          rw [decide_eq_true (show Wd.Per p s from ⟨h1, dm.mp c1, c2⟩)]
          simp only [List.map_cons, List.map_nil, List.length_cons, List.length_nil, List.replicate, Nat.reduceAdd, Nat.reduceSub, List.cons_append, List.nil_append, List.getElem?_cons_zero, List.getElem?_cons_succ, List.set_cons_zero, List.set_cons_succ, if_true, if_false, reduceIte, Bool.false_eq_true, decide_true, decide_false, Bool.not_true, Bool.not_false, trim_same, Bool.and_true, Bool.and_false, Bool.true_and, Bool.false_and, Bool.or_true, Bool.or_false, Bool.true_or, Bool.false_or, D.isStr, D.isTup, D.isLst, D.isInt, D.isBl, reduceCtorEq, bind_ok, bind_no, bind_ex, toF_ok, toF_no, toF_ex, seq_nx, seq_rt, seq_ex, seq_no, fin_nx, fin_rt, fin_no, fin_ex, trim_same', x_seq, x_skip, k_asg, x_asg, k_par, x_par, x_ret, k_exp, x_exp, cond_bl, k_if, x_ite, k_set3, k_set2, k_set1, x_setI, x_no, walk_some, upon_some, k_for2, k_for, x_for, for_nil, k_up, tg_v, tg_t, tgs_v, tgs_t, setAll_nil, setAll_cons, setsW_nil, setsW_cons, vr_some, e_v, e_c, e_g, e_nt, e_ng, nt_bl, ng_int, k_bin, e_bin, k_cmp2, k_cmp, e_cmp, k_idx2, k_idx, e_idx, e_tup, e_lst, e_call, e_prim, e_isi, es_nil, k_cons2, k_cons, es_cons, rcond_bl, k_ite, e_ite, k_and, e_and, k_or, e_or, k_orT, e_orT, ocond_some, k_ch2, k_ch, e_chain, k_meth, e_meth, eo_none, intR_int, eo_some, k_sl2, k_sl, e_sl, e_rev, okB_some', okW_some, add_int, sub_int, pow_int, add_tup, cmp_lt, cmp_le, cmp_gt, cmp_ge, cmp_nei, cmp_eq0, cmp_ne0, cmp_is, cmp_isn, lsO_lst, seq_ref, lst_ref, idx_ref, idx_tup, idx_lst, idx_scr, at0, at1, at2, p_int, p_intb, p_abs, p_lent, p_lenl, p_lens, p_tupl, p_tupt, set_ref, slice_tup, tupW_nil, tupW1, tupW2, tupW3, k_comp, ev_comp, evc_none, evc_some, it_lst, it_tup, it_str, it_r1, it_r2, isi_str, isi_tup, isi_lst, isi_int, isi_bl, isi_lt, isi_bs, p_lenstr, cmp_instr, x_while, app_ref, last_at, last_set, new_lst, x_frz, rev_lst, List.length_map, g3, g17, f2, f3, f4, e1, e2, e3]
        · rw [decide_eq_false c2] at e3
          rw [decide_eq_false (show ¬ Wd.Per p s from fun q => c2 q.2.2)]
          simp only [List.map_cons, List.map_nil, List.length_cons, List.length_nil, List.replicate, Nat.reduceAdd, Nat.reduceSub, List.cons_append, List.nil_append, List.getElem?_cons_zero, List.getElem?_cons_succ, List.set_cons_zero, List.set_cons_succ, if_true, if_false, reduceIte, Bool.false_eq_true, decide_true, decide_false, Bool.not_true, Bool.not_false, trim_same, Bool.and_true, Bool.and_false, Bool.true_and, Bool.false_and, Bool.or_true, Bool.or_false, Bool.true_or, Bool.false_or, D.isStr, D.isTup, D.isLst, D.isInt, D.isBl, reduceCtorEq, bind_ok, bind_no, bind_ex, toF_ok, toF_no, toF_ex, seq_nx, seq_rt, seq_ex, seq_no, fin_nx, fin_rt, fin_no, fin_ex, trim_same', x_seq, x_skip, k_asg, x_asg, k_par, x_par, x_ret, k_exp, x_exp, cond_bl, k_if, x_ite, k_set3, k_set2, k_set1, x_setI, x_no, walk_some, upon_some, k_for2, k_for, x_for, for_nil, k_up, tg_v, tg_t, tgs_v, tgs_t, setAll_nil, setAll_cons, setsW_nil, setsW_cons, vr_some, e_v, e_c, e_g, e_nt, e_ng, nt_bl, ng_int, k_bin, e_bin, k_cmp2, k_cmp, e_cmp, k_idx2, k_idx, e_idx, e_tup, e_lst, e_call, e_prim, e_isi, es_nil, k_cons2, k_cons, es_cons, rcond_bl, k_ite, e_ite, k_and, e_and, k_or, e_or, k_orT, e_orT, ocond_some, k_ch2, k_ch, e_chain, k_meth, e_meth, eo_none, intR_int, eo_some, k_sl2, k_sl, e_sl, e_rev, okB_some', okW_some, add_int, sub_int, pow_int, add_tup, cmp_lt, cmp_le, cmp_gt, cmp_ge, cmp_nei, cmp_eq0, cmp_ne0, cmp_is, cmp_isn, lsO_lst, seq_ref, lst_ref, idx_ref, idx_tup, idx_lst, idx_scr, at0, at1, at2, p_int, p_intb, p_abs, p_lent, p_lenl, p_lens, p_tupl, p_tupt, set_ref, slice_tup, tupW_nil, tupW1, tupW2, tupW3, k_comp, ev_comp, evc_none, evc_some, it_lst, it_tup, it_str, it_r1, it_r2, isi_str, isi_tup, isi_lst, isi_int, isi_bl, isi_lt, isi_bs, p_lenstr, cmp_instr, x_while, app_ref, last_at, last_set, new_lst, x_frz, rev_lst, List.length_map, g3, g17, f2, f3, f4, e1, e2, e3]
      · rw [decide_eq_false c1] at f4
        rw [decide_eq_false (show ¬ Wd.Per p s from fun q => c1 (dm.mpr q.2.1))]
        simp only [List.map_cons, List.map_nil, List.length_cons, List.length_nil, List.replicate, Nat.reduceAdd, Nat.reduceSub, List.cons_append, List.nil_append, List.getElem?_cons_zero, List.getElem?_cons_succ, List.set_cons_zero, List.set_cons_succ, if_true, if_false, reduceIte, Bool.false_eq_true, decide_true, decide_false, Bool.not_true, Bool.not_false, trim_same, Bool.and_true, Bool.and_false, Bool.true_and, Bool.false_and, Bool.or_true, Bool.or_false, Bool.true_or, Bool.false_or, D.isStr, D.isTup, D.isLst, D.isInt, D.isBl, reduceCtorEq, bind_ok, bind_no, bind_ex, toF_ok, toF_no, toF_ex, seq_nx, seq_rt, seq_ex, seq_no, fin_nx, fin_rt, fin_no, fin_ex, trim_same', x_seq, x_skip, k_asg, x_asg, k_par, x_par, x_ret, k_exp, x_exp, cond_bl, k_if, x_ite, k_set3, k_set2, k_set1, x_setI, x_no, walk_some, upon_some, k_for2, k_for, x_for, for_nil, k_up, tg_v, tg_t, tgs_v, tgs_t, setAll_nil, setAll_cons, setsW_nil, setsW_cons, vr_some, e_v, e_c, e_g, e_nt, e_ng, nt_bl, ng_int, k_bin, e_bin, k_cmp2, k_cmp, e_cmp, k_idx2, k_idx, e_idx, e_tup, e_lst, e_call, e_prim, e_isi, es_nil, k_cons2, k_cons, es_cons, rcond_bl, k_ite, e_ite, k_and, e_and, k_or, e_or, k_orT, e_orT, ocond_some, k_ch2, k_ch, e_chain, k_meth, e_meth, eo_none, intR_int, eo_some, k_sl2, k_sl, e_sl, e_rev, okB_some', okW_some, add_int, sub_int, pow_int, add_tup, cmp_lt, cmp_le, cmp_gt, cmp_ge, cmp_nei, cmp_eq0, cmp_ne0, cmp_is, cmp_isn, lsO_lst, seq_ref, lst_ref, idx_ref, idx_tup, idx_lst, idx_scr, at0, at1, at2, p_int, p_intb, p_abs, p_lent, p_lenl, p_lens, p_tupl, p_tupt, set_ref, slice_tup, tupW_nil, tupW1, tupW2, tupW3, k_comp, ev_comp, evc_none, evc_some, it_lst, it_tup, it_str, it_r1, it_r2, isi_str, isi_tup, isi_lst, isi_int, isi_bl, isi_lt, isi_bs, p_lenstr, cmp_instr, x_while, app_ref, last_at, last_set, new_lst, x_frz, rev_lst, List.length_map, g3, g17, f2, f3, f4]) (fun z hz _ => by
        rw [e_v, g17]
        rfl)
  have fl : (((List.range' 1 p.length).map fun (i : Nat) => MP.D.int (i : Int)).filter q) = ((List.range' 1 p.length).filter fun k => decide (Wd.Per p k)).map fun (i : Nat) => MP.D.int (i : Int) := by
    rw [List.filter_map]
    congr 1
  rw [fl, List.map_id] at c
  have src : evs (run P k) (.cons (.c (.int 1)) (.cons (.bin .add false (.prim .len false (.cons (.v 3) .nil)) (.c (.int 1))) .nil)) σ S = .ok [.d (.int 1), .d (.int ((p.length : Int) + 1))] S := by
    simp only [List.map_cons, List.map_nil, List.length_cons, List.length_nil, List.replicate, Nat.reduceAdd, Nat.reduceSub, List.cons_append, List.nil_append, List.getElem?_cons_zero, List.getElem?_cons_succ, List.set_cons_zero, List.set_cons_succ, if_true, if_false, reduceIte, Bool.false_eq_true, decide_true, decide_false, Bool.not_true, Bool.not_false, trim_same, Bool.and_true, Bool.and_false, Bool.true_and, Bool.false_and, Bool.or_true, Bool.or_false, Bool.true_or, Bool.false_or, D.isStr, D.isTup, D.isLst, D.isInt, D.isBl, reduceCtorEq, bind_ok, bind_no, bind_ex, toF_ok, toF_no, toF_ex, seq_nx, seq_rt, seq_ex, seq_no, fin_nx, fin_rt, fin_no, fin_ex, trim_same', x_seq, x_skip, k_asg, x_asg, k_par, x_par, x_ret, k_exp, x_exp, cond_bl, k_if, x_ite, k_set3, k_set2, k_set1, x_setI, x_no, walk_some, upon_some, k_for2, k_for, x_for, for_nil, k_up, tg_v, tg_t, tgs_v, tgs_t, setAll_nil, setAll_cons, setsW_nil, setsW_cons, vr_some, e_v, e_c, e_g, e_nt, e_ng, nt_bl, ng_int, k_bin, e_bin, k_cmp2, k_cmp, e_cmp, k_idx2, k_idx, e_idx, e_tup, e_lst, e_call, e_prim, e_isi, es_nil, k_cons2, k_cons, es_cons, rcond_bl, k_ite, e_ite, k_and, e_and, k_or, e_or, k_orT, e_orT, ocond_some, k_ch2, k_ch, e_chain, k_meth, e_meth, eo_none, intR_int, eo_some, k_sl2, k_sl, e_sl, e_rev, okB_some', okW_some, add_int, sub_int, mul_int, fdiv_int, mod_int, pow_int, add_tup, cmp_lt, cmp_le, cmp_gt, cmp_ge, cmp_eqi, cmp_nei, cmp_eq0, cmp_ne0, cmp_is, cmp_isn, lsO_lst, seq_ref, lst_ref, idx_ref, idx_tup, idx_lst, idx_scr, at0, at1, at2, p_int, p_intb, p_abs, p_lent, p_lenl, p_lens, p_tupl, p_tupt, set_ref, slice_tup, tupW_nil, tupW1, tupW2, tupW3, k_comp, ev_comp, evc_none, evc_some, it_lst, it_tup, it_str, it_r1, it_r2, isi_str, isi_tup, isi_lst, isi_int, isi_bl, isi_lt, isi_bs, p_lenstr, cmp_instr, x_while, app_ref, last_at, last_set, new_lst, x_frz, rev_lst, h3, List.length_map]
  rw [ev_comp, src, bind_ok, k_comp, e4, evc_some]
  exact c
end
end MP
end

section
set_option maxHeartbeats 4000000
namespace MP
open PySem
section
variable {P : List Fd}
theorem list2 {x y : MP.D} {S : Store} : lstW false [.d x, .d y] S = .ok (.d (.lst [x, y])) S := lst2
theorem list3 {x y z : MP.D} {S : Store} : lstW false [.d x, .d y, .d z] S = .ok (.d (.lst [x, y, z])) S := by
  unfold lstW
  rw [if_pos (by show 3 ≤ 16777216; decide)]
  rfl
theorem list0 {S : Store} : lstW false [] S = .ok (.d (.lst [])) S := by
  unfold lstW
  rw [if_pos (show ([] : List W).length ≤ line from Nat.zero_le _)]
  rfl
theorem add_lvs {u p : List Lv} {S : Store} (h : u.length + p.length ≤ 1000) : binW .add false (.d (.lst (u.map lv1))) (.d (.lst (p.map lv1))) S = .ok (.d (.lst ((u ++ p).map lv1))) S := by
  show addW false (.d (.lst (u.map lv1))) (.d (.lst (p.map lv1))) S = _
  unfold addW
  simp only [lstOf]
  rw [if_pos (show ((u.map lv1).map W.d).length + ((p.map lv1).map W.d).length ≤ line from line_of (by simp; omega))]
  unfold mkL
  rw [if_neg Bool.false_ne_true, ← List.map_append, pures_map, ← List.map_append]
theorem okD_lvs {p : List Lv} (h : OkW p) (hl : p.length ≤ 1000) : okD (.lst (p.map lv1)) = true := by
  simp only [okD, Bool.and_eq_true, decide_eq_true_eq, List.length_map]
  exact ⟨line_lt hl, okDs_hol (hols_lvs h)⟩
theorem depth_fr {p : List Lv} (h : OkW p) : (fr p).depth ≤ wsz p + 1 := by
  have := depth_sz (hol_fr h)
  rw [sz_fr] at this
  exact this
open Classical in
theorem r_right (h : H02 P) (k m : Nat) (S : Store) (hk : 160 ≤ k) (hb : Bx (26 + m) S) : ∃ S', run P k "_law_right" [.ref 0] S = .ok (.d (.bl true)) S' ∧ Bx m S' := by
  obtain ⟨k, rfl⟩ : ∃ j, k = j + 1 := ⟨k - 1, by omega⟩
  obtain ⟨w, S1, e1, w1, w2, b1⟩ := r_frame h.toHDraw 4 k (14 + m) S (by decide) (by omega) (hb.mono (by omega))
  obtain ⟨u, S2, e2, u1, u2, b2⟩ := r_frame h.toHDraw 4 k (2 + m) S1 (by decide) (by omega) (b1.mono (by omega))
  obtain ⟨r, S3, e3, r1, r2, b3⟩ := r_take h.toHDraw.take (k - 1) (1 + m) 5 S2 (by decide) (by decide) (b2.mono (by omega))
  obtain ⟨t, S4, e4, t1, t2, b4⟩ := r_take h.toHDraw.take (k - 1) m 4 S3 (by decide) (by decide) (b3.mono (by omega))
  have hk1 : k - 1 + 1 = k := by omega
  rw [hk1] at e3 e4
  obtain ⟨n, rfl⟩ : ∃ n : Nat, r = n := ⟨r.toNat, by omega⟩
  obtain ⟨f, rfl⟩ : ∃ f : Nat, t = f := ⟨t.toNat, by omega⟩
  refine ⟨S4, ?_, b4⟩
  have lw := len_wsz w
  have lu := len_wsz u
  -- the power
  obtain ⟨o2, pl⟩ := pow_loop h w k S4 (some (.ref 0)) none (some (.d (fr u))) (some (.d (.int (n : Int)))) (some (.d (.int (1 + (f : Int))))) (by omega) w1 (rgI 0 (n : Int)) 0 none
  have hlen : (rgI 0 (n : Int)).length = n := by unfold rgI; simp
  rw [hlen, Nat.zero_add] at pl
  have eit : itemsW .rng [.d (.int (n : Int))] = some (rgI 0 (n : Int)) := by
    rw [it_r1, okI_small (by omega) (by omega)]
    rfl
  generalize hp : Wd.pw w n = p at pl
  have p1 : OkW p := hp ▸ w1.pw n
  have p2 : wsz p = n * wsz w := by rw [← hp, wsz_pw]
  have n4 : n ≤ 4 := by omega
  have p3 : wsz p ≤ 16 := by rw [p2]; exact Nat.le_trans (Nat.mul_le_mul n4 w2) (by decide)
  have lp := len_wsz p
  have e0 : fr (Wd.pw w 0) = MP.D.tup [] := rfl
  rw [e0] at pl
  have q1 := r_power_of h.toHPow w n k S4 (by rw [← p2]; omega) w1 (by omega) (by omega)
  rw [hp] at q1
  have q2 := r_frame_size h.toHSure h.frame_size k (fr p) S4 (by omega) (hol_fr p1) (by rw [sz_fr]; omega)
  have q3 := r_law_size h.size k (fr w) 1 S4 (by have := depth_fr w1; omega) (hol_fr w1)
  have q4 : binW .mul false (.d (.int (n : Int))) (.d (.int (sz (fr w) : Int))) S4 = .ok (.d (.int (sz (fr p) : Int))) S4 := by
    rw [mul_int, small_of (i := (n : Int)) (by omega) (by omega), Bool.true_or, if_pos rfl, sz_fr, sz_fr, p2]
    congr 3
  have dfr : ∀ x : List Lv, OkW x → wsz x ≤ 40 → (fr x).depth ≤ 41 := fun x hx hs => by have := depth_fr hx; omega
  have ofr : ∀ x : List Lv, OkW x → okD (fr x) = true := fun x hx => okD_hol (hol_fr hx)
  have oi : ∀ i : Int, okD (.int i) = true := fun _ => rfl
  have ob : ∀ i : Bool, okD (.bl i) = true := fun _ => rfl
  have l2 : ∀ x y : MP.D, okD x = true → okD y = true → okD (.lst [x, y]) = true := fun x y hx hy => by
    simp only [okD, okDs, hx, hy, Bool.and_true, decide_eq_true_eq]
    show 2 < 16777216
    decide
  have l3 : ∀ x y z : MP.D, okD x = true → okD y = true → okD z = true → okD (.lst [x, y, z]) = true := fun x y z hx hy hz => by
    simp only [okD, okDs, hx, hy, hz, Bool.and_true, decide_eq_true_eq]
    show 3 < 16777216
    decide
  have s1 := r_same h.same k (.lst [fr p, .int (sz (fr p) : Int)]) S4 (by have := dfr p p1 (by omega); simp only [D.depth, D.depths]; omega) (l2 _ _ (ofr p p1) (oi _))
  have q5 := r_law_levels h.toHLaw p k S4 (by omega) p1 (by omega)
  have eb : B.b__law_right = .seq (.par [9, 10] (.cons (.call "_law_frame" (.cons (.v 0) (.cons (.c (.int 4)) .nil))) (.cons (.call "_law_frame" (.cons (.v 0) (.cons (.c (.int 4)) .nil))) .nil)))
    (.seq (.par [11, 12] (.cons (.call "_law_take" (.cons (.v 0) (.cons (.c (.int 5)) .nil))) (.cons (.bin .add false (.c (.int 1)) (.call "_law_take" (.cons (.v 0) (.cons (.c (.int 4)) .nil)))) .nil)))
    (.seq (.asg (.v 1) (.tup .nil))
    (.seq (.for_ .rng (.cons (.v 11) .nil) (.v 2) powTurn)
    (.seq (.ite (.nt (.call "_law_same" (.cons (.lst false (.cons (.call "power_of" (.cons (.v 9) (.cons (.v 11) .nil))) (.cons (.call "frame_size" (.cons (.call "power_of" (.cons (.v 9) (.cons (.v 11) .nil))) .nil)) .nil))) (.cons (.lst false (.cons (.v 1) (.cons (.bin .mul false (.v 11) (.call "_law_size" (.cons (.v 9) .nil))) .nil))) .nil))))
    (.seq (.ret (.c (.bl false))) .skip) .skip)
    (.seq (.asg (.v 3) (.call "_law_levels" (.cons (.v 1) .nil)))
    (.seq (.asg (.v 4) perE)
    (.seq (.asg (.t [13, 14]) (.call "root_of" (.cons (.v 1) .nil)))
    (.seq (.ite (.cmp .eq (.v 3) (.lst false .nil))
    (.seq (.ret (.call "_law_same" (.cons (.lst false (.cons (.v 13) (.cons (.v 14) (.cons (.call "commute" (.cons (.v 1) (.cons (.v 10) .nil))) .nil)))) (.cons (.lst false (.cons (.tup .nil) (.cons (.c (.int 0)) (.cons (.c (.bl true)) .nil)))) .nil)))) .skip) .skip)
    (.seq (.ite (.nt (.call "_law_same" (.cons (.lst false (.cons (.call "_law_levels" (.cons (.v 13) .nil)) (.cons (.v 14) (.cons (.call "power_of" (.cons (.v 13) (.cons (.v 14) .nil))) .nil)))) (.cons (.lst false (.cons (.sl false (.v 3) .none (.some (.idx (.v 4) (.c (.int 0))))) (.cons (.bin .fdiv false (.prim .len false (.cons (.v 3) .nil)) (.idx (.v 4) (.c (.int 0)))) (.cons (.v 1) .nil)))) .nil))))
    (.seq (.ret (.c (.bl false))) .skip) .skip)
    (.seq (.ite (.nt (.call "_law_same" (.cons (.call "root_of" (.cons (.v 13) .nil)) (.cons (.tup (.cons (.v 13) (.cons (.c (.int 1)) .nil))) .nil))))
    (.seq (.ret (.c (.bl false))) .skip) .skip)
    (.seq (.asg (.v 5) (.call "power_of" (.cons (.v 13) (.cons (.v 12) .nil))))
    (.seq (.asg (.v 6) (.lst false (.cons (.call "commute" (.cons (.v 1) (.cons (.v 5) .nil))) (.cons (.call "commute" (.cons (.v 5) (.cons (.v 1) .nil))) (.cons (.cmp .eq (.call "put_in" (.cons (.v 1) (.cons (.v 5) .nil))) (.call "put_in" (.cons (.v 5) (.cons (.v 1) .nil)))) .nil)))))
    (.seq (.ite (.nt (.call "_law_same" (.cons (.v 6) (.cons (.lst false (.cons (.c (.bl true)) (.cons (.c (.bl true)) (.cons (.c (.bl true)) .nil)))) .nil))))
    (.seq (.ret (.c (.bl false))) .skip) .skip)
    (.seq (.par [15, 16] (.cons (.call "_law_levels" (.cons (.v 10) .nil)) (.cons (.v 3) .nil)))
    (.seq (.asg (.v 7) (.cmp .eq (.bin .add false (.v 15) (.v 16)) (.bin .add false (.v 16) (.v 15))))
    (.seq (.asg (.v 8) (.or (.cmp .eq (.v 10) (.tup .nil)) (.cmp .eq (.idx (.call "root_of" (.cons (.v 10) .nil)) (.c (.int 0))) (.v 13))))
    (.seq (.ret (.call "_law_same" (.cons (.lst false (.cons (.call "commute" (.cons (.v 10) (.cons (.v 1) .nil))) (.cons (.v 8) .nil))) (.cons (.lst false (.cons (.v 7) (.cons (.v 7) .nil))) .nil))))
    .skip))))))))))))))))) := rfl
  rw [run_eq h.right _ _ _ rfl, eb]
  have e1' : run P k "_law_frame" [.ref 0, .d (.int 4)] S = .ok (.d (fr w)) S1 := e1
  have e2' : run P k "_law_frame" [.ref 0, .d (.int 4)] S1 = .ok (.d (fr u)) S2 := e2
  have per := fun σ hσ h3 => r_periods h p k S4 σ p1 (by omega) hσ h3
  obtain ⟨c0a, c0b, c0c, rfl, _⟩ := hb
  obtain ⟨d0a, d0b, d0c, hS4, _⟩ := b4
  have fin_eq : ∀ w : F, w = .rt (.d (.bl true)) S4 → fin [bx c0a c0b c0c] w = .ok (.d (.bl true)) S4 := fun w hw => by
    rw [hw, hS4]
    rfl
  apply fin_eq
  clear fin_eq hS4
  by_cases hpe : p = []
  · subst hpe
    have q6 := r_root_nil h.toHPow k S4 (by omega)
    have w0 : wsz ([] : List Lv) = 0 := rfl
    have q7 := r_commute h.toHPow [] u k S4 (by omega) okW_nil u1 (by omega) (by omega) (by omega)
    simp only [List.nil_append, List.append_nil, decide_true] at q7
    have s2 : run P k "_law_same" [.d (.lst [fr [], .int 0, .bl true]), .d (.lst [.tup [], .int 0, .bl true])] S4 = .ok (.d (.bl true)) S4 := r_same h.same k (.lst [fr [], .int 0, .bl true]) S4 (by have := dfr [] okW_nil (by omega); simp only [D.depth, D.depths]; omega) (l3 _ _ _ (ofr _ okW_nil) (oi _) (ob _))
    have el : cmpO .eq S4 (.d (.lst [])) (.d (.lst [])) = some true := by rw [cmp_eq, ok2_small rfl]; rfl
    simp only [List.map_cons, List.map_nil, List.length_cons, List.length_nil, List.replicate, Nat.reduceAdd, Nat.reduceSub, List.cons_append, List.nil_append, List.getElem?_cons_zero, List.getElem?_cons_succ, List.set_cons_zero, List.set_cons_succ, if_true, if_false, reduceIte, Bool.false_eq_true, decide_true, decide_false, Bool.not_true, Bool.not_false, trim_same, Bool.and_true, Bool.and_false, Bool.true_and, Bool.false_and, Bool.or_true, Bool.or_false, Bool.true_or, Bool.false_or, D.isStr, D.isTup, D.isLst, D.isInt, D.isBl, reduceCtorEq, bind_ok, bind_no, bind_ex, toF_ok, toF_no, toF_ex, seq_nx, seq_rt, seq_ex, seq_no, fin_nx, fin_rt, fin_no, fin_ex, trim_same', x_seq, x_skip, k_asg, x_asg, k_par, x_par, x_ret, k_exp, x_exp, cond_bl, k_if, x_ite, k_set3, k_set2, k_set1, x_setI, x_no, walk_some, upon_some, k_for2, k_for, x_for, for_nil, k_up, tg_v, tg_t, tgs_v, tgs_t, setAll_nil, setAll_cons, setsW_nil, setsW_cons, vr_some, e_v, e_c, e_g, e_nt, e_ng, nt_bl, ng_int, k_bin, e_bin, k_cmp2, k_cmp, e_cmp, k_idx2, k_idx, e_idx, e_tup, e_lst, e_call, e_prim, e_isi, es_nil, k_cons2, k_cons, es_cons, rcond_bl, k_ite, e_ite, k_and, e_and, k_or, e_or, k_orT, e_orT, ocond_some, k_ch2, k_ch, e_chain, k_meth, e_meth, eo_none, intR_int, eo_some, k_sl2, k_sl, e_sl, e_rev, okB_some', okW_some, add_int, sub_int, mul_int, fdiv_int, mod_int, pow_int, add_tup, cmp_lt, cmp_le, cmp_gt, cmp_ge, cmp_eqi, cmp_nei, cmp_eq0, cmp_ne0, cmp_is, cmp_isn, lsO_lst, seq_ref, lst_ref, idx_ref, idx_tup, idx_lst, idx_scr, at0, at1, at2, p_int, p_intb, p_abs, p_lent, p_lenl, p_lens, p_tupl, p_tupt, set_ref, slice_tup, tupW_nil, tupW1, tupW2, tupW3, k_comp, ev_comp, evc_none, evc_some, it_lst, it_tup, it_str, it_r1, it_r2, isi_str, isi_tup, isi_lst, isi_int, isi_bl, isi_lt, isi_bs, p_lenstr, cmp_instr, x_while, app_ref, last_at, last_set, new_lst, x_frz, rev_lst, e1', e2', e3, e4, eit, pl, list2, list3, list0, q1, q2, q3, q4, s1, q5]
    rw [per _ rfl rfl]
    simp only [List.map_cons, List.map_nil, List.length_cons, List.length_nil, List.replicate, Nat.reduceAdd, Nat.reduceSub, List.cons_append, List.nil_append, List.getElem?_cons_zero, List.getElem?_cons_succ, List.set_cons_zero, List.set_cons_succ, if_true, if_false, reduceIte, Bool.false_eq_true, decide_true, decide_false, Bool.not_true, Bool.not_false, trim_same, Bool.and_true, Bool.and_false, Bool.true_and, Bool.false_and, Bool.or_true, Bool.or_false, Bool.true_or, Bool.false_or, D.isStr, D.isTup, D.isLst, D.isInt, D.isBl, reduceCtorEq, bind_ok, bind_no, bind_ex, toF_ok, toF_no, toF_ex, seq_nx, seq_rt, seq_ex, seq_no, fin_nx, fin_rt, fin_no, fin_ex, trim_same', x_seq, x_skip, k_asg, x_asg, k_par, x_par, x_ret, k_exp, x_exp, cond_bl, k_if, x_ite, k_set3, k_set2, k_set1, x_setI, x_no, walk_some, upon_some, k_for2, k_for, x_for, for_nil, k_up, tg_v, tg_t, tgs_v, tgs_t, setAll_nil, setAll_cons, setsW_nil, setsW_cons, vr_some, e_v, e_c, e_g, e_nt, e_ng, nt_bl, ng_int, k_bin, e_bin, k_cmp2, k_cmp, e_cmp, k_idx2, k_idx, e_idx, e_tup, e_lst, e_call, e_prim, e_isi, es_nil, k_cons2, k_cons, es_cons, rcond_bl, k_ite, e_ite, k_and, e_and, k_or, e_or, k_orT, e_orT, ocond_some, k_ch2, k_ch, e_chain, k_meth, e_meth, eo_none, intR_int, eo_some, k_sl2, k_sl, e_sl, e_rev, okB_some', okW_some, add_int, sub_int, mul_int, fdiv_int, mod_int, pow_int, add_tup, cmp_lt, cmp_le, cmp_gt, cmp_ge, cmp_eqi, cmp_nei, cmp_eq0, cmp_ne0, cmp_is, cmp_isn, lsO_lst, seq_ref, lst_ref, idx_ref, idx_tup, idx_lst, idx_scr, at0, at1, at2, p_int, p_intb, p_abs, p_lent, p_lenl, p_lens, p_tupl, p_tupt, set_ref, slice_tup, tupW_nil, tupW1, tupW2, tupW3, k_comp, ev_comp, evc_none, evc_some, it_lst, it_tup, it_str, it_r1, it_r2, isi_str, isi_tup, isi_lst, isi_int, isi_bl, isi_lt, isi_bs, p_lenstr, cmp_instr, x_while, app_ref, last_at, last_set, new_lst, x_frz, rev_lst, q6, list0, el, q7, list3, s2]
  · -- the root
    have hne : p ≠ [] := hpe
    have hw : w ≠ [] := fun e => hne (by rw [← hp, e, Wd.pw_nil])
    have hn1 : 1 ≤ n := by
      rcases Nat.eq_zero_or_pos n with q | q
      · exact absurd (by rw [← hp, q]; rfl) hne
      · exact q
    have hpre := Wd.rt_pre (m := n) hw hn1
    rw [hp] at hpre
    have fpl := Wd.per_le hne (Wd.fp_spec hne).1
    have fp1 := (Wd.fp_spec hne).1.1
    have hrn := Wd.rt_ne hne
    have hpw := Wd.rt_pw hne
    have hfr := Wd.fp_rt hne
    have hrl := Wd.rt_len hne
    have hrr : Wd.rt (Wd.rt p) = Wd.rt p := by
      conv => lhs; unfold Wd.rt
      show (Wd.rt p).take (Wd.fp (Wd.rt p)) = _
      rw [hfr, List.take_length]
    have r1' : OkW (Wd.rt p) := p1.take _
    have rsz : wsz (Wd.rt p) ≤ 4 := by
      rw [hpre.1]
      have := wsz_take (w := w) (Wd.fp p)
      omega
    have rle := len_wsz (Wd.rt p)
    have q6 := r_root_of h.toHPow p k S4 (by omega) p1 (by omega) hne
    have el : cmpO .eq S4 (.d (.lst (p.map lv1))) (.d (.lst [])) = some false := by
      have := eq_lvs (w := p) (u := []) p1 okW_nil (by show 0 ≤ 90; decide) S4
      rw [decide_eq_false hne] at this
      exact this
    obtain ⟨rs, hr⟩ := per_head hne p.length 1 (Nat.le_refl _) fp1 (by omega)
    have q7 := r_law_levels h.toHLaw (Wd.rt p) k S4 (by omega) r1' (by omega)
    have hq : p.length / Wd.fp p ≤ 16 := Nat.le_trans (Nat.div_le_self _ _) (by omega)
    have q8 := r_power_of h.toHPow (Wd.rt p) (p.length / Wd.fp p) k S4 (by rw [← wsz_pw, hpw]; omega) r1' (by omega) (by omega)
    rw [hpw] at q8
    have sl := slice_lst_to (xs := p.map lv1) (j := Wd.fp p) (S := S4)
    rw [← List.map_take] at sl
    change slW false (.d (.lst (p.map lv1))) none (some ((Wd.fp p : Nat) : Int)) S4 = .ok (.d (.lst ((Wd.rt p).map lv1))) S4 at sl
    have fd := f_div (n := p.length) (s := Wd.fp p) (S := S4) fp1 (by omega)
    have dl := depth_lvs r1'
    have s2 := r_same h.same k (.lst [.lst ((Wd.rt p).map lv1), .int ((p.length / Wd.fp p : Nat) : Int), fr p]) S4 (by have := dfr p p1 (by omega); simp only [D.depth, D.depths] at *; omega) (l3 _ _ _ (okD_lvs r1' (by omega)) (oi _) (ofr p p1))
    have q9 := r_root_of h.toHPow (Wd.rt p) k S4 (by omega) r1' (by omega) hrn
    rw [hrr, hfr, Nat.div_self (by rw [hrl]; omega)] at q9
    have q9' : run P k "root_of" [.d (fr (Wd.rt p))] S4 = .ok (.d (.tup [fr (Wd.rt p), .int 1])) S4 := q9
    have s3 := r_same h.same k (.tup [fr (Wd.rt p), .int 1]) S4 (by have := dfr _ r1' (by omega); simp only [D.depth, D.depths]; omega) (by
      simp only [okD, okDs, ofr _ r1', Bool.and_true, decide_eq_true_eq]
      show 2 < 16777216
      decide)
    have nsz : wsz (Wd.pw (Wd.rt p) (1 + f)) ≤ 16 := by
      rw [wsz_pw]
      exact Nat.le_trans (Nat.mul_le_mul (show 1 + f ≤ 4 by omega) rsz) (by decide)
    have q10 := r_power_of h.toHPow (Wd.rt p) (1 + f) k S4 (by rw [← wsz_pw]; omega) r1' (by omega) (by omega)
    have ci : ((1 + f : Nat) : Int) = 1 + (f : Int) := by omega
    rw [ci] at q10
    have n1 : OkW (Wd.pw (Wd.rt p) (1 + f)) := r1'.pw _
    have com : p ++ Wd.pw (Wd.rt p) (1 + f) = Wd.pw (Wd.rt p) (1 + f) ++ p := by
      have := Wd.pw_comm (w := Wd.rt p) (m := p.length / Wd.fp p) (n := 1 + f)
      rw [hpw] at this
      exact this
    generalize Wd.pw (Wd.rt p) (1 + f) = near at nsz q10 n1 com
    have q11 := r_commute h.toHPow p near k S4 (by omega) p1 n1 (by omega) (by omega) (by omega)
    rw [decide_eq_true com] at q11
    have q12 := r_commute h.toHPow near p k S4 (by omega) n1 p1 (by omega) (by omega) (by omega)
    rw [decide_eq_true com.symm] at q12
    have q13 := r_put_in h.toHPow p near k S4 (by omega) p1 n1 (by omega) (by omega)
    have q14 := r_put_in h.toHPow near p k S4 (by omega) n1 p1 (by omega) (by omega)
    have ef := eq_frs (w := p ++ near) (u := near ++ p) (p1.app n1) (n1.app p1) (by rw [wsz_app]; omega) S4
    rw [decide_eq_true com] at ef
    have s4 := r_same h.same k (.lst [.bl true, .bl true, .bl true]) S4 (by simp only [D.depth, D.depths]; omega) (l3 _ _ _ (ob _) (ob _) (ob _))
    have q15 := r_law_levels h.toHLaw u k S4 (by omega) u1 (by omega)
    have a1 := add_lvs (u := u) (p := p) (S := S4) (by omega)
    have a2 := add_lvs (u := p) (p := u) (S := S4) (by omega)
    have al := eq_lvs (w := u ++ p) (u := p ++ u) (u1.app p1) (p1.app u1) (by rw [wsz_app]; omega) S4
    have q16 := r_commute h.toHPow u p k S4 (by omega) u1 p1 (by omega) (by omega) (by omega)
    have s5 := r_same h.same k (.lst [.bl (decide (u ++ p = p ++ u)), .bl (decide (u ++ p = p ++ u))]) S4 (by simp only [D.depth, D.depths]; omega) (l2 _ _ (ob _) (ob _))
    have pv := per [some (.ref 0), some (.d (fr p)), o2, some (.d (.lst (p.map lv1))), none, none, none, none, none, some (.d (fr w)), some (.d (fr u)), some (.d (.int (n : Int))), some (.d (.int (1 + (f : Int)))), none, none, none, none, none] rfl rfl
    rw [hr] at pv
    simp only [List.map_cons, List.map_nil, List.length_cons, List.length_nil, List.replicate, Nat.reduceAdd, Nat.reduceSub, List.cons_append, List.nil_append, List.getElem?_cons_zero, List.getElem?_cons_succ, List.set_cons_zero, List.set_cons_succ, if_true, if_false, reduceIte, Bool.false_eq_true, decide_true, decide_false, Bool.not_true, Bool.not_false, trim_same, Bool.and_true, Bool.and_false, Bool.true_and, Bool.false_and, Bool.or_true, Bool.or_false, Bool.true_or, Bool.false_or, D.isStr, D.isTup, D.isLst, D.isInt, D.isBl, reduceCtorEq, bind_ok, bind_no, bind_ex, toF_ok, toF_no, toF_ex, seq_nx, seq_rt, seq_ex, seq_no, fin_nx, fin_rt, fin_no, fin_ex, trim_same', x_seq, x_skip, k_asg, x_asg, k_par, x_par, x_ret, k_exp, x_exp, cond_bl, k_if, x_ite, k_set3, k_set2, k_set1, x_setI, x_no, walk_some, upon_some, k_for2, k_for, x_for, for_nil, k_up, tg_v, tg_t, tgs_v, tgs_t, setAll_nil, setAll_cons, setsW_nil, setsW_cons, vr_some, e_v, e_c, e_g, e_nt, e_ng, nt_bl, ng_int, k_bin, e_bin, k_cmp2, k_cmp, e_cmp, k_idx2, k_idx, e_idx, e_tup, e_lst, e_call, e_prim, e_isi, es_nil, k_cons2, k_cons, es_cons, rcond_bl, k_ite, e_ite, k_and, e_and, k_or, e_or, k_orT, e_orT, ocond_some, k_ch2, k_ch, e_chain, k_meth, e_meth, eo_none, intR_int, eo_some, k_sl2, k_sl, e_sl, e_rev, okB_some', okW_some, add_int, sub_int, mul_int, fdiv_int, mod_int, pow_int, add_tup, cmp_lt, cmp_le, cmp_gt, cmp_ge, cmp_eqi, cmp_nei, cmp_eq0, cmp_ne0, cmp_is, cmp_isn, lsO_lst, seq_ref, lst_ref, idx_ref, idx_tup, idx_lst, idx_scr, at0, at1, at2, p_int, p_intb, p_abs, p_lent, p_lenl, p_lens, p_tupl, p_tupt, set_ref, slice_tup, tupW_nil, tupW1, tupW2, tupW3, k_comp, evc_none, evc_some, it_lst, it_tup, it_str, it_r1, it_r2, isi_str, isi_tup, isi_lst, isi_int, isi_bl, isi_lt, isi_bs, p_lenstr, cmp_instr, x_while, app_ref, last_at, last_set, new_lst, x_frz, rev_lst, e1', e2', e3, e4, eit, pl, list2, list3, list0, q1, q2, q3, q4, s1, q5, pv]
    have eU : cmpO .eq S4 (.d (fr u)) (.d (.tup [])) = some (decide (u = [])) := eq_frs (w := u) (u := []) u1 okW_nil (by show 0 ≤ 90; decide) S4
    by_cases hu : u = []
    · have ha : u ++ p = p ++ u := by rw [hu]; simp
      rw [decide_eq_true hu] at eU
      rw [decide_eq_true ha] at al q16 s5
      simp only [List.map_cons, List.map_nil, List.length_cons, List.length_nil, List.replicate, Nat.reduceAdd, Nat.reduceSub, List.cons_append, List.nil_append, List.getElem?_cons_zero, List.getElem?_cons_succ, List.set_cons_zero, List.set_cons_succ, if_true, if_false, reduceIte, Bool.false_eq_true, decide_true, decide_false, Bool.not_true, Bool.not_false, trim_same, Bool.and_true, Bool.and_false, Bool.true_and, Bool.false_and, Bool.or_true, Bool.or_false, Bool.true_or, Bool.false_or, D.isStr, D.isTup, D.isLst, D.isInt, D.isBl, reduceCtorEq, bind_ok, bind_no, bind_ex, toF_ok, toF_no, toF_ex, seq_nx, seq_rt, seq_ex, seq_no, fin_nx, fin_rt, fin_no, fin_ex, trim_same', x_seq, x_skip, k_asg, x_asg, k_par, x_par, x_ret, k_exp, x_exp, cond_bl, k_if, x_ite, k_set3, k_set2, k_set1, x_setI, x_no, walk_some, upon_some, k_for2, k_for, x_for, for_nil, k_up, tg_v, tg_t, tgs_v, tgs_t, setAll_nil, setAll_cons, setsW_nil, setsW_cons, vr_some, e_v, e_c, e_g, e_nt, e_ng, nt_bl, ng_int, k_bin, e_bin, k_cmp2, k_cmp, e_cmp, k_idx2, k_idx, e_idx, e_tup, e_lst, e_call, e_prim, e_isi, es_nil, k_cons2, k_cons, es_cons, rcond_bl, k_ite, e_ite, k_and, e_and, k_or, e_or, k_orT, e_orT, ocond_some, k_ch2, k_ch, e_chain, k_meth, e_meth, eo_none, intR_int, eo_some, k_sl2, k_sl, e_sl, e_rev, okB_some', okW_some, add_int, sub_int, mul_int, mod_int, pow_int, add_tup, cmp_lt, cmp_le, cmp_gt, cmp_ge, cmp_eqi, cmp_nei, cmp_ne0, cmp_is, cmp_isn, lsO_lst, seq_ref, lst_ref, idx_ref, idx_tup, idx_lst, idx_scr, at0, at1, at2, p_int, p_intb, p_abs, p_lent, p_lenl, p_lens, p_tupl, p_tupt, set_ref, slice_tup, tupW_nil, tupW1, tupW2, tupW3, k_comp, evc_none, evc_some, it_lst, it_tup, it_str, it_r1, it_r2, isi_str, isi_tup, isi_lst, isi_int, isi_bl, isi_lt, isi_bs, p_lenstr, cmp_instr, x_while, app_ref, last_at, last_set, new_lst, x_frz, rev_lst, q6, list0, el, q7, q8, list3, List.length_map, fd, sl, s2, q9', s3, q10, q11, q12, q13, q14, ef, s4, q15, a1, a2, al, eU, q16, list2, s5]
    · have u1' : OkW (Wd.rt u) := u1.take _
      have usz : wsz (Wd.rt u) ≤ 4 := Nat.le_trans (wsz_take _) u2
      have q17 := r_root_of h.toHPow u k S4 (by omega) u1 (by omega) hu
      have eR := eq_frs (w := Wd.rt u) (u := Wd.rt p) u1' r1' (by omega) S4
      have hd : decide (Wd.rt u = Wd.rt p) = decide (u ++ p = p ++ u) := by
        rw [decide_eq_decide]
        exact (Wd.comm_rt hu hne).symm
      rw [hd] at eR
      rw [decide_eq_false hu] at eU
      simp only [List.map_cons, List.map_nil, List.length_cons, List.length_nil, List.replicate, Nat.reduceAdd, Nat.reduceSub, List.cons_append, List.nil_append, List.getElem?_cons_zero, List.getElem?_cons_succ, List.set_cons_zero, List.set_cons_succ, if_true, if_false, reduceIte, Bool.false_eq_true, decide_true, decide_false, Bool.not_true, Bool.not_false, trim_same, Bool.and_true, Bool.and_false, Bool.true_and, Bool.false_and, Bool.or_true, Bool.or_false, Bool.true_or, Bool.false_or, D.isStr, D.isTup, D.isLst, D.isInt, D.isBl, reduceCtorEq, bind_ok, bind_no, bind_ex, toF_ok, toF_no, toF_ex, seq_nx, seq_rt, seq_ex, seq_no, fin_nx, fin_rt, fin_no, fin_ex, trim_same', x_seq, x_skip, k_asg, x_asg, k_par, x_par, x_ret, k_exp, x_exp, cond_bl, k_if, x_ite, k_set3, k_set2, k_set1, x_setI, x_no, walk_some, upon_some, k_for2, k_for, x_for, for_nil, k_up, tg_v, tg_t, tgs_v, tgs_t, setAll_nil, setAll_cons, setsW_nil, setsW_cons, vr_some, e_v, e_c, e_g, e_nt, e_ng, nt_bl, ng_int, k_bin, e_bin, k_cmp2, k_cmp, e_cmp, k_idx2, k_idx, e_idx, e_tup, e_lst, e_call, e_prim, e_isi, es_nil, k_cons2, k_cons, es_cons, rcond_bl, k_ite, e_ite, k_and, e_and, k_or, e_or, k_orT, e_orT, ocond_some, k_ch2, k_ch, e_chain, k_meth, e_meth, eo_none, intR_int, eo_some, k_sl2, k_sl, e_sl, e_rev, okB_some', okW_some, add_int, sub_int, mul_int, mod_int, pow_int, add_tup, cmp_lt, cmp_le, cmp_gt, cmp_ge, cmp_eqi, cmp_nei, cmp_ne0, cmp_is, cmp_isn, lsO_lst, seq_ref, lst_ref, idx_ref, idx_tup, idx_lst, idx_scr, at0, at1, at2, p_int, p_intb, p_abs, p_lent, p_lenl, p_lens, p_tupl, p_tupt, set_ref, slice_tup, tupW_nil, tupW1, tupW2, tupW3, k_comp, evc_none, evc_some, it_lst, it_tup, it_str, it_r1, it_r2, isi_str, isi_tup, isi_lst, isi_int, isi_bl, isi_lt, isi_bs, p_lenstr, cmp_instr, x_while, app_ref, last_at, last_set, new_lst, x_frz, rev_lst, q6, list0, el, q7, q8, list3, List.length_map, fd, sl, s2, q9', s3, q10, q11, q12, q13, q14, ef, s4, q15, a1, a2, al, eU, q17, eR, q16, list2, s5]
end
end MP
end

section
set_option maxHeartbeats 4000000
namespace MP
open PySem
theorem k02_law {P : List Fd} (h : H02 P) (ns : List Int) (hn : ns.length ≤ 63) : ∃ S', run P 200 "law" [.scr (ns.map .int)] [] = .ok (.d (.bl true)) S' := by
  obtain ⟨x, e1⟩ := r_cells h.cells 198 ns hn
  obtain ⟨a, b, e2⟩ := r_box h.box 198 x
  obtain ⟨S1, e3, b1⟩ := r_right h 199 26 [bx a b 0] (by decide) ⟨a, b, 0, rfl, by decide, by decide⟩
  obtain ⟨S2, e4, b2⟩ := r_right h 199 0 S1 (by decide) b1
  refine ⟨S2, ?_⟩
  rw [show (200 : Nat) = 199 + 1 from rfl, run_eq h.law _ _ _ rfl]
  unfold B.b_law
  obtain ⟨a2, b2, c2, rfl, _⟩ := b2
  simp only [List.map_cons, List.map_nil, List.length_cons, List.length_nil, List.replicate, Nat.reduceAdd, Nat.reduceSub, List.cons_append, List.nil_append, List.getElem?_cons_zero, List.getElem?_cons_succ, List.set_cons_zero, List.set_cons_succ, if_true, if_false, reduceIte, Bool.false_eq_true, decide_true, decide_false, Bool.not_true, Bool.not_false, trim_same, Bool.and_true, Bool.and_false, Bool.true_and, Bool.false_and, Bool.or_true, Bool.or_false, Bool.true_or, Bool.false_or, D.isStr, D.isTup, D.isLst, D.isInt, D.isBl, reduceCtorEq, bind_ok, bind_no, bind_ex, toF_ok, toF_no, toF_ex, seq_nx, seq_rt, seq_ex, seq_no, fin_nx, fin_rt, fin_no, fin_ex, trim_same', x_seq, x_skip, k_asg, x_asg, k_par, x_par, x_ret, k_exp, x_exp, cond_bl, k_if, x_ite, k_set3, k_set2, k_set1, x_setI, x_no, walk_some, upon_some, k_for2, k_for, x_for, for_nil, k_up, tg_v, tg_t, tgs_v, tgs_t, setAll_nil, setAll_cons, setsW_nil, setsW_cons, vr_some, e_v, e_c, e_g, e_nt, e_ng, nt_bl, ng_int, k_bin, e_bin, k_cmp2, k_cmp, e_cmp, k_idx2, k_idx, e_idx, e_tup, e_lst, e_call, e_prim, e_isi, es_nil, k_cons2, k_cons, es_cons, rcond_bl, k_ite, e_ite, k_and, e_and, k_or, e_or, k_orT, e_orT, ocond_some, k_ch2, k_ch, e_chain, k_meth, e_meth, eo_none, intR_int, eo_some, k_sl2, k_sl, e_sl, e_rev, okB_some', okW_some, add_int, sub_int, mul_int, fdiv_int, mod_int, pow_int, add_tup, cmp_lt, cmp_le, cmp_gt, cmp_ge, cmp_eqi, cmp_nei, cmp_eq0, cmp_ne0, cmp_is, cmp_isn, lsO_lst, seq_ref, lst_ref, idx_ref, idx_tup, idx_lst, idx_scr, at0, at1, at2, p_int, p_intb, p_abs, p_lent, p_lenl, p_lens, p_tupl, p_tupt, set_ref, slice_tup, tupW_nil, tupW1, tupW2, tupW3, k_comp, ev_comp, evc_none, evc_some, it_lst, it_tup, it_str, it_r1, it_r2, isi_str, isi_tup, isi_lst, isi_int, isi_bl, isi_lt, isi_bs, p_lenstr, cmp_instr, x_while, app_ref, last_at, last_set, new_lst, x_frz, rev_lst, e1, e2, e3, e4]
  rfl
end MP
end

section
set_option maxHeartbeats 0
namespace MP.K02
open PySem PySem.Spec PyProof.Rows L2 MP
def top (i : Nat) : Stmt := PySem.Challenge.pw_lotgrowth_k02_powers_and_frames_that_com.main.body.getD i (.Pass ⟨0, 0, 0, 0⟩)
def d__law_box : Fd := ⟨"_law_box", ["script", "k"], ["script", "k", "cell"], B.b__law_box, 31⟩
def d__law_cells : Fd := ⟨"_law_cells", ["script", "top_so"], ["script", "top_so", "cells_so", "k", "cell", "at_so"], B.b__law_cells, 33⟩
def d__law_holes : Fd := ⟨"_law_holes", ["own"], ["own", "part"], B.b__law_holes, 40⟩
def d__law_levels : Fd := ⟨"_law_levels", ["frame"], ["frame", "found", "turn", "k", "j"], B.b__law_levels, 42⟩
def d_has_hole : Fd := ⟨"has_hole", ["own"], ["own", "part"], B.b_has_hole, 20⟩
def d_hole_number : Fd := ⟨"hole_number", ["frame"], ["frame", "k"], B.b_hole_number, 21⟩
def d_levels_of : Fd := ⟨"levels_of", ["frame"], ["frame", "found", "k"], B.b_levels_of, 24⟩
def d_tuple_of : Fd := ⟨"tuple_of", ["thing"], ["thing", "part"], B.b_tuple_of, 5⟩
def d_sure : Fd := ⟨"sure", ["flag"], ["flag"], B.b_sure, 6⟩
def d_is_name : Fd := ⟨"is_name", ["thing"], ["thing", "sign"], B.b_is_name, 14⟩
def d_holes_in : Fd := ⟨"holes_in", ["thing"], ["thing", "some", "part"], B.b_holes_in, 15⟩
def d_is_frame : Fd := ⟨"is_frame", ["thing"], ["thing"], B.b_is_frame, 16⟩
def d_made_size : Fd := ⟨"made_size", ["own"], ["own", "part"], B.b_made_size, 17⟩
def d_sure_frame : Fd := ⟨"sure_frame", ["frame"], ["frame", "own"], B.b_sure_frame, 18⟩
def d_made_filled : Fd := ⟨"made_filled", ["frame", "own"], ["frame", "own", "k"], B.b_made_filled, 22⟩
def d_put_together : Fd := ⟨"put_together", ["levels"], ["levels", "found", "level"], B.b_put_together, 25⟩
def d_root_of : Fd := ⟨"root_of", ["frame"], ["frame", "levels", "size"], B.b_root_of, 28⟩
def d_made_power : Fd := ⟨"made_power", ["frame", "many"], ["frame", "many"], B.b_made_power, 26⟩
def d_is_number : Fd := ⟨"is_number", ["thing"], ["thing"], B.b_is_number, 3⟩
def d_is_between : Fd := ⟨"is_between", ["thing", "least", "most"], ["thing", "least", "most"], B.b_is_between, 4⟩
def d_power_of : Fd := ⟨"power_of", ["frame", "many"], ["frame", "many", "own"], B.b_power_of, 27⟩
def d__law_same : Fd := ⟨"_law_same", ["got", "due"], ["got", "due", "mine", "its"], B.b__law_same, 34⟩
def d__law_take : Fd := ⟨"_law_take", ["box", "size_so"], ["box", "size_so", "once", "far", "twice", "drawn"], B.b__law_take, 32⟩
def d__law_of : Fd := ⟨"_law_of", ["box", "pool_so"], ["box", "pool_so"], B.b__law_of, 35⟩
def d__law_term : Fd := ⟨"_law_term", ["box", "size"], ["box", "size", "kind", "first"], B.b__law_term, 37⟩
def d__law_frame : Fd := ⟨"_law_frame", ["box", "size"], ["box", "size", "kind", "inner", "side"], B.b__law_frame, 38⟩
def d__law_fill : Fd := ⟨"_law_fill", ["frame", "own"], ["frame", "own", "part"], B.b__law_fill, 39⟩
def d_commute : Fd := ⟨"commute", ["one", "other"], ["one", "other", "near", "far"], B.b_commute, 29⟩
def d_put_in : Fd := ⟨"put_in", ["one", "other"], ["one", "other", "near"], B.b_put_in, 23⟩
def d_frame_size : Fd := ⟨"frame_size", ["frame"], ["frame"], B.b_frame_size, 19⟩
def d__law_size : Fd := ⟨"_law_size", ["own"], ["own", "part"], B.b__law_size, 41⟩
def d__law_right : Fd := ⟨"_law_right", ["box"], ["box", "power", "turn", "levels", "periods", "near", "got", "alike", "roots", "frame", "other", "many", "far", "root", "often", "one", "two", "k"], B.b__law_right, 43⟩
def d_law : Fd := ⟨"law", ["script"], ["script", "box"], B.b_law, 44⟩
def P : List Fd := ([d__law_box, d__law_cells, d__law_holes, d__law_levels, d_has_hole, d_hole_number, d_levels_of, d_tuple_of, d_sure, d_is_name, d_holes_in, d_is_frame, d_made_size, d_sure_frame, d_made_filled, d_put_together, d_root_of, d_made_power, d_is_number, d_is_between, d_power_of, d__law_same, d__law_take, d__law_of, d__law_term, d__law_frame, d__law_fill, d_commute, d_put_in, d_frame_size] : List Fd) ++ ([d__law_size, d__law_right, d_law] : List Fd)
def cons : List (Str × MP.D) := [("HOLE", (.tup [])), ("MOST_NAME", (.int 8)), ("MOST_PARTS", (.int 3)), ("MOST_POWER", (.int 20)), ("MOST_SIZE", (.int 60)), ("SMALL", (.str "abcdefghijklmnopqrstuvwxyz"))]
def lawSt : Nat := 44
def loose : List Str := (["Unfit", "is_number", "is_between", "tuple_of", "sure", "SMALL", "MOST_NAME", "MOST_PARTS", "MOST_SIZE", "MOST_POWER", "HOLE", "is_name", "holes_in", "is_frame", "made_size", "sure_frame", "frame_size", "has_hole", "hole_number", "made_filled", "put_in", "levels_of", "put_together", "made_power", "power_of", "root_of", "commute", "_law_box", "_law_take", "_law_cells"] : List Str) ++ (["_law_same", "_law_of", "_law_pick", "_law_term", "_law_frame", "_law_fill", "_law_holes", "_law_size", "_law_levels", "_law_right"] : List Str)
theorem okP : (P.all fun d => okFd (gdOf P cons) d (top d.st)) = true := by decide +kernel
abbrev R : PySem.W.OpenRow := PySem.W.OpenLaw.row PySem.Challenge.rw_lotgrowth_k02_powers_and_frames_that_com
def fa : List He.Fa := factsOf P
def fn : List He.DefD := P.map (defD top)
abbrev hk : PySem.W.Hook := hookM 5 (fa ++ []) fn (conB cons)
def ob (s : PySem.W.SharedT) : AlM := obsM 5 (fa ++ []) fn (conB cons) (HandSHeadRun.getT s)
theorem ob_eq (s : PySem.W.SharedT) : ob s = hk.obs s.abs := obsM_eq (HandSHeadRun.getT_eq s)
theorem run_eq (w : World) : HandSHeadRun.RunEq R (PySem.W.view R.prog [lawSt]) hk ob 2000 loose w := by
  intro os
  kernel_rfl
end MP.K02
end

namespace MP.K02
open PySem MP
theorem hP : MP.H02 P := { tuple_of := ⟨_, rfl⟩, sure := ⟨_, rfl⟩, is_frame := ⟨_, rfl⟩, holes_in := ⟨_, rfl⟩, is_name := ⟨_, rfl⟩, made_size := ⟨_, rfl⟩, sure_frame := ⟨_, rfl⟩, hole_number := ⟨_, rfl⟩, has_hole := ⟨_, rfl⟩, made_filled := ⟨_, rfl⟩, levels_of := ⟨_, rfl⟩, put_together := ⟨_, rfl⟩, made_power := ⟨_, rfl⟩, power_of := ⟨_, rfl⟩, put_in := ⟨_, rfl⟩, commute := ⟨_, rfl⟩, root_of := ⟨_, rfl⟩, is_between := ⟨_, rfl⟩, is_number := ⟨_, rfl⟩, take := ⟨_, rfl⟩, of := ⟨_, rfl⟩, term := ⟨_, rfl⟩, frame := ⟨_, rfl⟩, fill := ⟨_, rfl⟩, holes := ⟨_, rfl⟩, size := ⟨_, rfl⟩, levels := ⟨_, rfl⟩, frame_size := ⟨_, rfl⟩, same := ⟨_, rfl⟩, right := ⟨_, rfl⟩, box := ⟨_, rfl⟩, cells := ⟨_, rfl⟩, law := ⟨_, rfl⟩ }
theorem law_true : ∀ ns : List Int, ns.length ≤ 63 → ∃ S', MP.run P 200 "law" [.scr (ns.map .int)] [] = .ok (.d (.bl true)) S' := fun ns hn => MP.k02_law hP ns hn
end MP.K02
open PySem PySem.W PySem.Calls PyProof.Rows
set_option maxHeartbeats 0
theorem PySem.Challenge.cw_lotgrowth_k02_powers_and_frames_that_com_holds : PySem.Challenge.rw_lotgrowth_k02_powers_and_frames_that_com.Holds := by
  w_on; o_law
  refine HandSHeadRun.head_any (r := OpenLaw.row PySem.Challenge.rw_lotgrowth_k02_powers_and_frames_that_com) (q := view (OpenLaw.row PySem.Challenge.rw_lotgrowth_k02_powers_and_frames_that_com).prog [MP.K02.lawSt]) (H := MP.K02.hk) (ob := MP.K02.ob) (M := 2000) (loose := MP.K02.loose) (d := HandSHeadRun.topDef (OpenLaw.row PySem.Challenge.rw_lotgrowth_k02_powers_and_frames_that_com).prog MP.K02.lawSt) (kwd := []) MP.K02.ob_eq
    (by kernel_rfl) (fun s => by kernel_rfl) MP.K02.run_eq (by kernel_rfl) (by kernel_rfl) (by kernel_rfl) (by rfl) (by first | assumption | decide +kernel) (by decide +kernel) ⟨rfl, rfl, rfl, rfl, rfl, by decide +kernel⟩ ?hw ?hc
  case hw => w_witness2
  case hc =>
    refine L2.walk_ofE (l := PySem.Challenge.rw_lotgrowth_k02_powers_and_frames_that_com) (n := 63) (k := 200) (x := "script") (CX := L2.CX0) rfl (by decide) (by kernel_rfl) ⟨rfl, by decide, by decide⟩ ?F (fun _ _ _ _ z => z)
    intro w mg fa h Y G hmg0
    obtain ⟨K, KX, c, cx⟩ := Y
    have hmg : mg ("law" : PySem.Str) = some (.ref fa) := by
      have e : (HandSHeadRun.topDef (OpenLaw.row PySem.Challenge.rw_lotgrowth_k02_powers_and_frames_that_com).prog MP.K02.lawSt).name = ("law" : PySem.Str) := by kernel_rfl
      rw [← e]
      exact hmg0
    obtain ⟨fd, sp, hb, hsp, hF⟩ := MP.law_of (Pr := (PySem.Challenge.rw_lotgrowth_k02_powers_and_frames_that_com).prog) (w := w) (T := fun _ => (.none, none)) (k := 200) (d := MP.K02.d_law) (x := "script") KX G (MP.hd_of KX G c cx MP.K02.okP) rfl rfl hmg MP.K02.law_true
    exact ⟨K, fd, sp, KX, hb, hsp, hF⟩
