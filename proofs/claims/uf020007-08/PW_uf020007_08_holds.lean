import PyProof.Rows.All
import Wide.All
import OpenK.AllK
import Wide.FinOn
import Open.Row
import PyProof.Fits
import PyProof.SameEqv
import PyProof.Rows.InDataRows
import PyProof.TupleOfSeq
import PyProof.ListCopy
import PyProof.Rows.TupMore
import KE.KRevIter
import PyProof.Rows.Range3
import PyProof.CompFree
import PyProof.CompUse
import PyProof.FitsBits
import KE.KTryDeep
import PyProof.ExcBaseAll.ValueError
import PySem.Challenge.RW_uf020007_08
set_option Elab.async false
set_option autoImplicit false
set_option genSizeOf false
set_option genInjectivity false
namespace Mine
open PySem

/-! the mini language: values, expressions, statements -/

inductive V where
  | int (i : Int)
  | bool (b : Bool)
  | none
  | str (s : Str)
  | tup (xs : List V)
  | lst (n : Nat)
  | fn (k : Nat)
  | exc (k : Nat)

abbrev Hp := List (List V)
abbrev Loc := List (Option V)

inductive BOp where
  | add | sub | mul | fdiv | mod | pow
inductive COp where
  | lt | le | gt | ge | eq | ne | isin | notin | is
inductive Bi where
  | abs | len | int | list | tuple | min | listrev
inductive Ty where
  | int | bool | tuple | list | cls (k : Nat)

mutual
inductive PE where
  | cint (i : Int)
  | cbool (b : Bool)
  | var (i : Nat)
  | glob (x : Str) (a b : Int)
  | bin (op : BOp) (a b : PE)
  | neg (a : PE)
  | nt (a : PE)
  | cmp (op : COp) (a b : PE)
  | and (es : PEs)
  | or (es : PEs)
  | call (f : Nat) (es : PEs)
  | callv (i : Nat) (es : PEs)
  | bi (b : Bi) (es : PEs)
  | isi (a : PE) (ts : List Ty)
  | idx (a b : PE)
  | slc (a : PE) (lo hi : PO)
  | tup (es : PEs)
  | lst (es : PEs)
  | comp (elt : PE) (tg : Nat) (caps : List Nat) (it : PI) (cond : PO)
inductive PEs where
  | nil
  | cons (e : PE) (r : PEs)
inductive PO where
  | no
  | some (e : PE)
inductive PI where
  | seq (e : PE)
  | rev (e : PE)
  | rng (es : PEs)
end

inductive PS where
  | skip
  | seq (a b : PS)
  | assign (i : Nat) (e : PE)
  | unpack (xs : List Nat) (e : PE)
  | setidx (i : Nat) (k e : PE)
  | pop (i : Nat)
  | ret (e : PE)
  | ite (c : PE) (a b : PS)
  | whl (c : PE) (b : PS)
  | forr (i : Nat) (it : PI) (b : PS)
  | raise (k : Nat)
  | opaq

/-! locals -/
noncomputable def lget : Loc → Nat → Option V
  | [], _ => none
  | x :: _, 0 => x
  | _ :: r, n + 1 => lget r n
noncomputable def lset : Loc → Nat → V → Loc
  | [], _, _ => []
  | _ :: r, 0, v => some v :: r
  | x :: r, n + 1, v => x :: lset r n v
noncomputable def lsets : Loc → List Nat → List V → Loc
  | ρ, i :: is, v :: vs => lsets (lset ρ i v) is vs
  | ρ, _, _ => ρ

/-! looks -/
noncomputable def items (H : Hp) : V → Option (List V)
  | .tup xs => some xs
  | .lst n => H[n]?
  | _ => none
noncomputable def truthV (H : Hp) : V → Option Bool
  | .bool b => some b
  | .int i => some (i != 0)
  | .none => some false
  | .tup xs => some (!xs.isEmpty)
  | .lst n => (H[n]?).map fun xs => !xs.isEmpty
  | _ => none
noncomputable def place (n : Nat) (k : Int) : Option Nat :=
  if 0 ≤ k then (if k < n then some k.toNat else none) else (if 0 ≤ k + n then some (k + n).toNat else none)
noncomputable def clampAt (n : Nat) (k : Int) : Nat :=
  (max 0 (min (if k < 0 then k + n else k) n)).toNat
noncomputable def cut (xs : List V) (lo hi : Nat) : List V := (xs.take hi).drop lo

end Mine

set_option autoImplicit false
namespace Mine
open PySem

abbrev Call := Nat → List V → Hp → (V → Hp → Prop) → (Nat → Hp → Prop) → Prop
/-- a bound on lists' lengths -/
noncomputable def lim : Nat := 1000000

/-- the look gives something, and that fits -/
noncomputable def ifSome {β : Type} (o : Option β) (P : β → Prop) : Prop := match o with
  | some v => P v
  | none => False
theorem ifSome_some {β : Type} {v : β} {P : β → Prop} : ifSome (some v) P = P v := rfl
theorem ifSome.get {β : Type} {o : Option β} {P : β → Prop} (q : ifSome o P) : ∃ v, o = some v ∧ P v := by
  cases o with
  | none => exact False.elim q
  | some v => exact ⟨v, rfl, q⟩
theorem ifSome.mk {β : Type} {o : Option β} {P : β → Prop} {v : β} (e : o = some v) (q : P v) : ifSome o P := by rw [e]; exact q
noncomputable def ifLst (o : Option V) (P : Nat → Prop) : Prop := match o with
  | some (.lst n) => P n
  | _ => False
theorem ifLst_lst {n : Nat} {P : Nat → Prop} : ifLst (some (.lst n)) P = P n := rfl
theorem ifLst.get {o : Option V} {P : Nat → Prop} (q : ifLst o P) : ∃ n, o = some (.lst n) ∧ P n := by
  cases o with
  | none => exact False.elim q
  | some v => cases v <;> first | exact False.elim q | exact ⟨_, rfl, q⟩
noncomputable def ifTup (v : V) (P : List V → Prop) : Prop := match v with
  | .tup xs => P xs
  | _ => False
theorem ifTup_tup {xs : List V} {P : List V → Prop} : ifTup (.tup xs) P = P xs := rfl
theorem ifTup.get {v : V} {P : List V → Prop} (q : ifTup v P) : ∃ xs, v = .tup xs ∧ P xs := by
  cases v <;> first | exact False.elim q | exact ⟨_, rfl, q⟩
noncomputable def ifInt (v : V) (P : Int → Prop) : Prop := match v with
  | .int i => P i
  | _ => False
theorem ifInt_int {i : Int} {P : Int → Prop} : ifInt (.int i) P = P i := rfl
theorem ifInt.get {v : V} {P : Int → Prop} (q : ifInt v P) : ∃ i, v = .int i ∧ P i := by
  cases v <;> first | exact False.elim q | exact ⟨_, rfl, q⟩

noncomputable def DivOk (b : Int) : Prop := b ≠ 0

noncomputable def binWp (op : BOp) (x y : V) (H : Hp) (Q : V → Hp → Prop) : Prop :=
  match op, x, y with
  | .add, .int a, .int b => Q (.int (a + b)) H
  | .add, .lst m, .lst n => ifSome H[m]? fun xs => ifSome H[n]? fun ys => xs.length + ys.length ≤ lim ∧ Q (.lst H.length) (H ++ [xs ++ ys])
  | .sub, .int a, .int b => Q (.int (a - b)) H
  | .mul, .int a, .int b => IntMulOk a b ∧ Q (.int (a * b)) H
  | .mul, .lst m, .int k => ∃ x, H[m]? = some [x] ∧ 0 ≤ k ∧ k ≤ lim ∧ Q (.lst H.length) (H ++ [List.replicate k.toNat x])
  | .fdiv, .int a, .int b => DivOk b ∧ Q (.int (a.fdiv b)) H
  | .mod, .int a, .int b => b ≠ 0 ∧ Q (.int (a.fmod b)) H
  | .pow, .int a, .int b => 0 ≤ b ∧ b ≤ 1000 ∧ a.natAbs < 2 ^ 64 ∧ Q (.int (a ^ b.toNat)) H
  | _, _, _ => False

noncomputable def cmpWp (op : COp) (x y : V) (H : Hp) (Q : V → Hp → Prop) : Prop :=
  match op, x, y with
  | .lt, .int a, .int b => Q (.bool (decide (a < b))) H
  | .le, .int a, .int b => Q (.bool (decide (a ≤ b))) H
  | .gt, .int a, .int b => Q (.bool (decide (b < a))) H
  | .ge, .int a, .int b => Q (.bool (decide (b ≤ a))) H
  | .eq, .int a, .int b => Q (.bool (decide (a = b))) H
  | .ne, .int a, .int b => Q (.bool (!decide (a = b))) H
  | .is, x, .none => Q (.bool (match x with | .none => true | _ => false)) H
  | _, _, _ => False

noncomputable def biWp (b : Bi) (vs : List V) (H : Hp) (Q : V → Hp → Prop) : Prop :=
  match b, vs with
  | .abs, [.int a] => Q (.int (if a < 0 then -a else a)) H
  | .len, [x] => ifSome (items H x) fun xs => Q (.int xs.length) H
  | .int, [.bool b] => Q (.int (if b then 1 else 0)) H
  | .list, [x] => ifSome (items H x) fun xs => Q (.lst H.length) (H ++ [xs])
  | .tuple, [x] => ifSome (items H x) fun xs => Q (.tup xs) H
  | .listrev, [x] => ∃ xs, items H x = some xs ∧ Q (.lst H.length) (H ++ [xs.reverse])
  | .min, [.int a, .int b] => Q (.int (if b < a then b else a)) H
  | _, _ => False

/-- the class table: subclass relation by numbers -/
noncomputable def isTy (sub : Nat → Nat → Bool) (v : V) (t : Ty) : Option Bool :=
  match v, t with
  | .exc c, .cls k => some (sub c k)
  | .exc _, _ => none
  | .fn _, _ => none
  | _, .cls _ => none
  | .int _, .int => some true
  | .bool _, .int => some true
  | .bool _, .bool => some true
  | .tup _, .tuple => some true
  | .lst _, .list => some true
  | _, _ => some false

noncomputable def idxWp (x y : V) (H : Hp) (Q : V → Hp → Prop) : Prop :=
  match y with
  | .int k => ifSome (items H x) fun xs => ifSome (place xs.length k) fun i => ifSome xs[i]? fun v => Q v H
  | _ => False

noncomputable def cutAt (n : Nat) (lo hi : Option V) : Option (Nat × Nat) :=
  match lo, hi with
  | some (.int a), some (.int b) => some (clampAt n a, clampAt n b)
  | none, some (.int b) => some (0, clampAt n b)
  | some (.int a), none => some (clampAt n a, n)
  | none, none => some (0, n)
  | _, _ => none

noncomputable def slcWp (x : V) (lo hi : Option V) (H : Hp) (Q : V → Hp → Prop) : Prop :=
  match x with
  | .lst n => ifSome H[n]? fun xs => ifSome (cutAt xs.length lo hi) fun p => Q (.lst H.length) (H ++ [cut xs p.1 p.2])
  | _ => False

/-- ints of a range -/
noncomputable def rangeL (a b c : Int) : List Int := (List.range (Builtin.Range.rangeSize a b c).toNat).map fun (i : Nat) => a + c * (i : Int)
noncomputable def smallI (a : Int) : Prop := -(2 ^ 40) < a ∧ a < 2 ^ 40
noncomputable def rngOf : List V → Option (Int × Int × Int)
  | [.int b] => some (0, b, 1)
  | [.int a, .int b] => some (a, b, 1)
  | [.int a, .int b, .int c] => some (a, b, c)
  | _ => none
noncomputable def rngWp (vs : List V) (H : Hp) (Q : List V → Option Nat → Hp → Prop) : Prop :=
  ∃ a b c, rngOf vs = some (a, b, c) ∧ smallI a ∧ smallI b ∧ (c = 1 ∨ c = -1 ∨ c = 2) ∧ Q ((rangeL a b c).map V.int) none H

/-- the list that a loop reads -/
noncomputable def srcOf : V → Option Nat
  | .lst n => some n
  | _ => none

noncomputable def compGo (step : V → Hp → (Option V → Hp → Prop) → Prop) : List V → Hp → (List V → Hp → Prop) → Prop
  | [], H, Q => Q [] H
  | x :: xs, H, Q => step x H fun o H1 => compGo step xs H1 fun ys H2 => Q (match o with | some y => y :: ys | none => ys) H2

noncomputable def bindT (tg : Nat) (x : V) : Option Loc :=
  match tg, x with
  | 1, x => some [some x]
  | 2, .tup [a, b] => some [some a, some b]
  | _, _ => none

section
variable (sub : Nat → Nat → Bool) (Φ : Call)
mutual
noncomputable def wpE : PE → Loc → Hp → (V → Hp → Prop) → Prop
  | .cint i, _, H, Q => Q (.int i) H
  | .cbool b, _, H, Q => Q (.bool b) H
  | .var i, ρ, H, Q => ifSome (lget ρ i) fun v => Q v H
  | .glob _ a b, _, H, Q => Q (.tup [.int a, .int b]) H
  | .bin op a b, ρ, H, Q => wpE a ρ H fun x H1 => wpE b ρ H1 fun y H2 => binWp op x y H2 Q
  | .neg a, ρ, H, Q => wpE a ρ H fun x H1 => match x with | .int i => Q (.int (-i)) H1 | _ => False
  | .nt a, ρ, H, Q => wpE a ρ H fun x H1 => ifSome (truthV H1 x) fun t => Q (.bool (!t)) H1
  | .cmp op a b, ρ, H, Q => wpE a ρ H fun x H1 => wpE b ρ H1 fun y H2 => cmpWp op x y H2 Q
  | .and es, ρ, H, Q => wpAll true es ρ H Q
  | .or es, ρ, H, Q => wpAll false es ρ H Q
  | .call f es, ρ, H, Q => wpEs es ρ H fun vs H1 => Φ f vs H1 Q fun _ _ => False
  | .callv _ _, _, _, _ => False
  | .bi b es, ρ, H, Q => wpEs es ρ H fun vs H1 => biWp b vs H1 Q
  | .isi a ts, ρ, H, Q => wpE a ρ H fun x H1 => ifSome (ts.mapM (isTy sub x)) fun bs => Q (.bool (bs.any id)) H1
  | .idx a b, ρ, H, Q => wpE a ρ H fun x H1 => wpE b ρ H1 fun y H2 => idxWp x y H2 Q
  | .slc a lo hi, ρ, H, Q => wpE a ρ H fun x H1 => wpO lo ρ H1 fun l H2 => wpO hi ρ H2 fun h H3 => slcWp x l h H3 Q
  | .tup es, ρ, H, Q => wpEs es ρ H fun vs H1 => Q (.tup vs) H1
  | .lst es, ρ, H, Q => wpEs es ρ H fun vs H1 => Q (.lst H1.length) (H1 ++ [vs])
  | .comp elt tg caps it cond, ρ, H, Q => wpI it ρ H fun xs _ H1 => xs.length ≤ lim ∧ compGo (fun x H2 k => ifSome (bindT tg x) fun ρt =>
      wpO cond (ρt ++ caps.map (lget ρ)) H2 fun c H3 => ifSome (match c with | some c => truthV H3 c | none => some true) fun t =>
        if t then wpE elt (ρt ++ caps.map (lget ρ)) H3 fun y H4 => k (some y) H4 else k none H3) xs H1 fun ys H5 => Q (.lst H5.length) (H5 ++ [ys])
noncomputable def wpEs : PEs → Loc → Hp → (List V → Hp → Prop) → Prop
  | .nil, _, H, Q => Q [] H
  | .cons e r, ρ, H, Q => wpE e ρ H fun v H1 => wpEs r ρ H1 fun vs H2 => Q (v :: vs) H2
noncomputable def wpAll (b : Bool) : PEs → Loc → Hp → (V → Hp → Prop) → Prop
  | .nil, _, _, _ => False
  | .cons e .nil, ρ, H, Q => wpE e ρ H Q
  | .cons e r, ρ, H, Q => wpE e ρ H fun v H1 => ifSome (truthV H1 v) fun t => if t = b then wpAll b r ρ H1 Q else Q v H1
noncomputable def wpO : PO → Loc → Hp → (Option V → Hp → Prop) → Prop
  | .no, _, H, Q => Q none H
  | .some e, ρ, H, Q => wpE e ρ H fun v H1 => Q (some v) H1
noncomputable def wpI : PI → Loc → Hp → (List V → Option Nat → Hp → Prop) → Prop
  | .seq e, ρ, H, Q => wpE e ρ H fun v H1 => ifSome (items H1 v) fun xs => Q xs (srcOf v) H1
  | .rev e, ρ, H, Q => wpE e ρ H fun v H1 => ifSome (items H1 v) fun xs => Q xs.reverse (srcOf v) H1
  | .rng es, ρ, H, Q => wpEs es ρ H fun vs H1 => rngWp vs H1 Q
end

noncomputable def forGo (body : Loc → Hp → (Loc → Hp → Prop) → Prop) (i : Nat) : List V → Loc → Hp → (Loc → Hp → Prop) → Prop
  | [], ρ, H, N => N ρ H
  | x :: xs, ρ, H, N => body (lset ρ i x) H fun ρ' H' => forGo body i xs ρ' H' N

noncomputable def listAt (W : Nat → Prop) (ρ : Loc) (H : Hp) (i : Nat) (Q : Nat → List V → Prop) : Prop :=
  ifLst (lget ρ i) fun n => W n ∧ ifSome H[n]? fun xs => Q n xs

/-- W: the lists that may be written -/
noncomputable def wpS : (Nat → Prop) → PS → Loc → Hp → (Loc → Hp → Prop) → (V → Hp → Prop) → (Nat → Hp → Prop) → Prop
  | _, .skip, ρ, H, N, _, _ => N ρ H
  | W, .seq a b, ρ, H, N, R, X => wpS W a ρ H (fun ρ1 H1 => wpS W b ρ1 H1 N R X) R X
  | _, .assign i e, ρ, H, N, _, _ => wpE sub Φ e ρ H fun v H1 => N (lset ρ i v) H1
  | _, .unpack is e, ρ, H, N, _, _ => wpE sub Φ e ρ H fun v H1 => ifTup v fun vs => vs.length = is.length ∧ N (lsets ρ is vs) H1
  | W, .setidx i k e, ρ, H, N, _, _ => wpE sub Φ e ρ H fun v H1 => ifLst (lget ρ i) fun n => W n ∧ wpE sub Φ k ρ H1 fun kv H2 => ifInt kv fun j => ifSome H2[n]? fun xs =>
      ifSome (place xs.length j) fun p => N ρ (H2.set n (xs.set p v))
  | W, .pop i, ρ, H, N, _, _ => listAt W ρ H i fun n xs => ∃ ys k, xs = ys ++ [.int k] ∧ N ρ (H.set n ys)
  | _, .ret e, ρ, H, _, R, _ => wpE sub Φ e ρ H R
  | W, .ite c a b, ρ, H, N, R, X => wpE sub Φ c ρ H fun v H1 => ifSome (truthV H1 v) fun t => if t then wpS W a ρ H1 N R X else wpS W b ρ H1 N R X
  | W, .whl c b, ρ, H, N, R, _ => ∃ (I : Loc → Hp → Prop) (μ : Loc → Hp → Nat), I ρ H ∧ ∀ ρ1 H1, I ρ1 H1 → wpE sub Φ c ρ1 H1 fun v H2 => ifSome (truthV H2 v) fun t =>
      if t then wpS W b ρ1 H2 (fun ρ3 H3 => I ρ3 H3 ∧ μ ρ3 H3 < μ ρ1 H1) R (fun _ _ => False) else N ρ1 H2
  | W, .forr i it b, ρ, H, N, R, _ => wpI sub Φ it ρ H fun xs src H1 => forGo (fun ρ2 H2 k => wpS (fun m => W m ∧ some m ≠ src) b ρ2 H2 k R fun _ _ => False) i xs ρ H1 N
  | _, .raise k, _, H, _, _, X => X k H
  | _, .opaq, _, _, _, _, _ => False
end

section
set_option autoImplicit true
set_option relaxedAutoImplicit true
variable {sub : Nat → Nat → Bool} {Φ : Call}
theorem qE1 : wpE sub Φ (.cint i) z1 H Q = (Q (.int i) H) := rfl
theorem qE2 : wpE sub Φ (.cbool b) z1 H Q = (Q (.bool b) H) := rfl
theorem qE5 : wpE sub Φ (.var i) ρ H Q = (ifSome (lget ρ i) fun v => Q v H) := rfl
theorem qE7 : wpE sub Φ (.glob y1 a b) z1 H Q = (Q (.tup [.int a, .int b]) H) := rfl
theorem qE8 : wpE sub Φ (.bin op a b) ρ H Q = (wpE sub Φ a ρ H fun x H1 => wpE sub Φ b ρ H1 fun y H2 => binWp op x y H2 Q) := rfl
theorem qE9 : wpE sub Φ (.neg a) ρ H Q = (wpE sub Φ a ρ H fun x H1 => match x with | .int i => Q (.int (-i)) H1 | _ => False) := rfl
theorem qE10 : wpE sub Φ (.nt a) ρ H Q = (wpE sub Φ a ρ H fun x H1 => ifSome (truthV H1 x) fun t => Q (.bool (!t)) H1) := rfl
theorem qE11 : wpE sub Φ (.cmp op a b) ρ H Q = (wpE sub Φ a ρ H fun x H1 => wpE sub Φ b ρ H1 fun y H2 => cmpWp op x y H2 Q) := rfl
theorem qE12 : wpE sub Φ (.and es) ρ H Q = (wpAll sub Φ true es ρ H Q) := rfl
theorem qE13 : wpE sub Φ (.or es) ρ H Q = (wpAll sub Φ false es ρ H Q) := rfl
theorem qE14 : wpE sub Φ (.call f es) ρ H Q = (wpEs sub Φ es ρ H fun vs H1 => Φ f vs H1 Q fun _ _ => False) := rfl
theorem qE15 : wpE sub Φ (.callv y1 y2) z1 z2 z3 = (False) := rfl
theorem qE16 : wpE sub Φ (.bi b es) ρ H Q = (wpEs sub Φ es ρ H fun vs H1 => biWp b vs H1 Q) := rfl
theorem qE17 : wpE sub Φ (.isi a ts) ρ H Q = (wpE sub Φ a ρ H fun x H1 => ifSome (ts.mapM (isTy sub x)) fun bs => Q (.bool (bs.any id)) H1) := rfl
theorem qE18 : wpE sub Φ (.idx a b) ρ H Q = (wpE sub Φ a ρ H fun x H1 => wpE sub Φ b ρ H1 fun y H2 => idxWp x y H2 Q) := rfl
theorem qE19 : wpE sub Φ (.slc a lo hi) ρ H Q = (wpE sub Φ a ρ H fun x H1 => wpO sub Φ lo ρ H1 fun l H2 => wpO sub Φ hi ρ H2 fun h H3 => slcWp x l h H3 Q) := rfl
theorem qE20 : wpE sub Φ (.tup es) ρ H Q = (wpEs sub Φ es ρ H fun vs H1 => Q (.tup vs) H1) := rfl
theorem qE21 : wpE sub Φ (.lst es) ρ H Q = (wpEs sub Φ es ρ H fun vs H1 => Q (.lst H1.length) (H1 ++ [vs])) := rfl
theorem qE22 : wpE sub Φ (.comp elt tg caps it cnd) ρ H Q = (wpI sub Φ it ρ H fun xs _ H1 => xs.length ≤ lim ∧ compGo (fun x H2 k => ifSome (bindT tg x) fun ρt => wpO sub Φ cnd (ρt ++ caps.map (lget ρ)) H2 fun c H3 => ifSome (match c with | some c => truthV H3 c | none => some true) fun t => if t then wpE sub Φ elt (ρt ++ caps.map (lget ρ)) H3 fun y H4 => k (some y) H4 else k none H3) xs H1 fun ys H5 => Q (.lst H5.length) (H5 ++ [ys])) := rfl
theorem qEs1 : wpEs sub Φ (.nil) z1 H Q = (Q [] H) := rfl
theorem qEs2 : wpEs sub Φ (.cons e r) ρ H Q = (wpE sub Φ e ρ H fun v H1 => wpEs sub Φ r ρ H1 fun vs H2 => Q (v :: vs) H2) := rfl
theorem qO1 : wpO sub Φ (.no) z1 H Q = (Q none H) := rfl
theorem qO2 : wpO sub Φ (.some e) ρ H Q = (wpE sub Φ e ρ H fun v H1 => Q (some v) H1) := rfl
theorem qI1 : wpI sub Φ (.seq e) ρ H Q = (wpE sub Φ e ρ H fun v H1 => ifSome (items H1 v) fun xs => Q xs (srcOf v) H1) := rfl
theorem qI2 : wpI sub Φ (.rev e) ρ H Q = (wpE sub Φ e ρ H fun v H1 => ifSome (items H1 v) fun xs => Q xs.reverse (srcOf v) H1) := rfl
theorem qI3 : wpI sub Φ (.rng es) ρ H Q = (wpEs sub Φ es ρ H fun vs H1 => rngWp vs H1 Q) := rfl
theorem qS1 : wpS sub Φ z0 (.skip) ρ H N z5 z6 = (N ρ H) := rfl
theorem qS2 : wpS sub Φ W (.seq a b) ρ H N R X = (wpS sub Φ W a ρ H (fun ρ1 H1 => wpS sub Φ W b ρ1 H1 N R X) R X) := rfl
theorem qS3 : wpS sub Φ z0 (.assign i e) ρ H N z5 z6 = (wpE sub Φ e ρ H fun v H1 => N (lset ρ i v) H1) := rfl
theorem qS4 : wpS sub Φ z0 (.unpack is e) ρ H N z5 z6 = (wpE sub Φ e ρ H fun v H1 => ifTup v fun vs => vs.length = is.length ∧ N (lsets ρ is vs) H1) := rfl
theorem qS5 : wpS sub Φ W (.setidx i k e) ρ H N z5 z6 = (wpE sub Φ e ρ H fun v H1 => ifLst (lget ρ i) fun n => W n ∧ wpE sub Φ k ρ H1 fun kv H2 => ifInt kv fun j => ifSome H2[n]? fun xs => ifSome (place xs.length j) fun p => N ρ (H2.set n (xs.set p v))) := rfl
theorem qS7 : wpS sub Φ W (.pop i) ρ H N z5 z6 = (listAt W ρ H i fun n xs => ∃ ys k, xs = ys ++ [.int k] ∧ N ρ (H.set n ys)) := rfl
theorem qS9 : wpS sub Φ z0 (.ret e) ρ H z4 R z6 = (wpE sub Φ e ρ H R) := rfl
theorem qS10 : wpS sub Φ W (.ite c a b) ρ H N R X = (wpE sub Φ c ρ H fun v H1 => ifSome (truthV H1 v) fun t => if t then wpS sub Φ W a ρ H1 N R X else wpS sub Φ W b ρ H1 N R X) := rfl
theorem qS11 : wpS sub Φ W (.whl c b) ρ H N R z6 = (∃ (I : Loc → Hp → Prop) (μ : Loc → Hp → Nat), I ρ H ∧ ∀ ρ1 H1, I ρ1 H1 → wpE sub Φ c ρ1 H1 fun v H2 => ifSome (truthV H2 v) fun t => if t then wpS sub Φ W b ρ1 H2 (fun ρ3 H3 => I ρ3 H3 ∧ μ ρ3 H3 < μ ρ1 H1) R (fun _ _ => False) else N ρ1 H2) := rfl
theorem qS12 : wpS sub Φ W (.forr i it b) ρ H N R z6 = (wpI sub Φ it ρ H fun xs src H1 => forGo (fun ρ2 H2 k => wpS sub Φ (fun m => W m ∧ some m ≠ src) b ρ2 H2 k R fun _ _ => False) i xs ρ H1 N) := rfl
theorem qS13 : wpS sub Φ z0 (.raise k) z2 H z4 z5 X = (X k H) := rfl
theorem qS14 : wpS sub Φ z0 (.opaq) z2 z3 z4 z5 z6 = (False) := rfl
end

structure Fn where
  np : Nat
  nv : Nat
  body : PS

noncomputable def startLoc (np nv : Nat) (vs : List V) : Loc := vs.map some ++ List.replicate (nv - np) none

noncomputable def callN (sub : Nat → Nat → Bool) (P : List Fn) : Nat → Call
  | 0 => fun _ _ _ _ _ => False
  | n + 1 => fun f vs H Q X => ∃ d, P[f]? = some d ∧ vs.length = d.np ∧ wpS sub (callN sub P n) (fun m => H.length ≤ m) d.body (startLoc d.np d.nv vs) H (fun _ H' => Q .none H') Q X

end Mine

set_option autoImplicit false
namespace Mine
open PySem

/-- what the matcher knows of the text: the functions' names, the classes' names -/
structure GC where
  fns : List Str
  cls : List Str
  globs : List (Str × Int × Int)
/-- and of the scope -/
structure MC where
  g : GC
  scope : Scope
  names : List Str

noncomputable def MC.isGlob (c : MC) (x : Str) : Bool := decide (c.scope.names.lookup x = some NameKind.globalImplicit) && !(x == Str.ofString "__debug__")
noncomputable def MC.isVar (c : MC) (i : Nat) (x : Str) : Bool := decide (c.names[i]? = some x) && !(x == Str.ofString "__debug__") && !(x == Str.ofString "__classdict__") &&
  (decide (c.scope.names.lookup x = some NameKind.local) || decide (c.scope.names.lookup x = some NameKind.cell) || decide (c.scope.names.lookup x = some NameKind.free))
noncomputable def MC.isNm (c : MC) (e : Expr) (x : Str) : Bool := match e with
  | .Name y _ => y == x && c.isGlob y
  | _ => false

noncomputable def opOf : BOp → Operator
  | .add => .Add | .sub => .Sub | .mul => .Mult | .fdiv => .FloorDiv | .mod => .Mod | .pow => .Pow
noncomputable def cmpOf : COp → CmpOp
  | .lt => .Lt | .le => .LtE | .gt => .Gt | .ge => .GtE | .eq => .Eq | .ne => .NotEq | .isin => .In | .notin => .NotIn | .is => .Is
noncomputable def biName : Bi → Str
  | .abs => "abs" | .len => "len" | .int => "int" | .list => "list" | .tuple => "tuple" | .min => "min" | .listrev => "list"

noncomputable def Bi.isRev : Bi → Bool
  | .listrev => true
  | _ => false
noncomputable def Ty.isCls : Ty → Bool
  | .cls _ => true
  | _ => false
noncomputable def notCompM (e : Expr) : Bool := match e with | .ListComp .. | .SetComp .. | .DictComp .. => false | _ => true
noncomputable def notStarM (e : Expr) : Bool := match e with | .Starred .. => false | _ => true
noncomputable def MC.isTyp (c : MC) (t : Ty) (e : Expr) : Bool := match t with
  | .int => c.isNm e "int"
  | .bool => c.isNm e "bool"
  | .tuple => c.isNm e "tuple"
  | .list => c.isNm e "list"
  | .cls k => match c.g.cls[k]? with | some x => c.isNm e x | none => false
noncomputable def MC.areTyps (c : MC) : List Ty → List Expr → Bool
  | [], [] => true
  | t :: ts, e :: es => c.isTyp t e && c.areTyps ts es
  | _, _ => false

/-- the comprehension's scope: the targets local, the captured names free, all else global -/
noncomputable def compScopeOk (sc : Scope) (ts cs : List Str) : Bool :=
  decide (sc.kind = ScopeKind.function) && sc.names.all (fun p => match p.2 with
    | .local => (p.1 == Str.ofString ".0" || ts.contains p.1) && decide (sc.names.lookup p.1 = some NameKind.local)
    | .free => cs.contains p.1
    | .globalImplicit => true
    | _ => false) && ts.all (fun n => decide (sc.names.lookup n = some NameKind.local)) && cs.all (fun n => decide (sc.names.lookup n = some NameKind.free))

noncomputable def capNames (c : MC) (caps : List Nat) : Option (List Str) := caps.mapM fun i => c.names[i]?

noncomputable def MC.varNm (c : MC) (i : Nat) (e : Expr) : Bool := match e with
  | .Name x _ => c.isVar i x
  | _ => false
noncomputable def MC.fnNm (c : MC) (k : Nat) (e : Expr) : Bool := match c.g.fns[k]? with
  | some x => c.isNm e x
  | none => false
noncomputable def MC.clsNm (c : MC) (k : Nat) (e : Expr) : Bool := match c.g.cls[k]? with
  | some x => c.isNm e x
  | none => false
/-- the comprehension's one target -/
noncomputable def tgtName (e : Expr) : Option Str := match e with
  | .Name x _ => some x
  | _ => none
noncomputable def isOne {α : Type} (l : List α) : Option α := match l with
  | [x] => some x
  | _ => none
noncomputable def MC.isiOk (c : MC) (ts : List Ty) (e : Expr) : Bool := match e with
  | .Tuple es _ _ => decide (2 ≤ ts.length) && ts.all Ty.isCls && c.areTyps ts es
  | e => c.areTyps ts [e]
noncomputable def notSlice (e : Expr) : Bool := match e with | .Slice .. => false | _ => true
noncomputable def notSetM (e : Expr) : Bool := match e with | .Set .. => false | _ => true

mutual
noncomputable def matchE (c : MC) : PE → Expr → Bool
  | .cint i, e => match e with | .Constant k _ _ => (match k with | .int j => decide (i = j) | _ => false) | _ => false
  | .cbool b, e => match e with | .Constant k _ _ => (match k with | .bool d => decide (b = d) | _ => false) | _ => false
  | .var i, e => c.varNm i e
  | .glob x a b, e => c.g.globs.contains (x, a, b) && c.isNm e x
  | .bin op a b, e => match e with | .BinOp l o r _ => decide (o = opOf op) && matchE c a l && matchE c b r | _ => false
  | .neg a, e => match e with | .UnaryOp o x _ => decide (o = .USub) && matchE c a x | _ => false
  | .nt a, e => match e with | .UnaryOp o x _ => decide (o = .Not) && matchE c a x | _ => false
  | .cmp op a b, e => match e with | .Compare l os rs _ => (match isOne os, isOne rs with | some o, some r => decide (o = cmpOf op) && !behindInMarks o r && matchE c a l && matchE c b r | _, _ => false) | _ => false
  | .and es, e => match e with | .BoolOp o vs _ => decide (o = .And) && matchEs c es vs | _ => false
  | .or es, e => match e with | .BoolOp o vs _ => decide (o = .Or) && matchEs c es vs | _ => false
  | .call f es, e => match e with | .Call g as kw _ => kw.isEmpty && c.fnNm f g && !as.isEmpty && matchEs c es as | _ => false
  | .callv _ _, _ => false
  | .bi b es, e => match e with | .Call f as kw _ => !b.isRev && kw.isEmpty && c.isNm f (biName b) && !as.isEmpty && matchEs c es as | _ => false
  | .isi a ts, e => match e with
    | .Call f as kw _ => (match as with
      | x :: ys => (match isOne ys with | some t => kw.isEmpty && c.isNm f "isinstance" && matchE c a x && notStarM x && c.isiOk ts t | none => false)
      | [] => false)
    | _ => false
  | .idx a b, e => match e with | .Subscript x i _ => matchE c a x && matchE c b i && notSlice i | _ => false
  | .slc a lo hi, e => match e with | .Subscript x i _ => (match i with | .Slice l h st _ => st.isNone && matchE c a x && matchO c lo l && matchO c hi h | _ => false) | _ => false
  | .tup es, e => match e with | .Tuple vs _ _ => decide (vs.length ≤ 1000) && matchEs c es vs | _ => false
  | .lst es, e => match e with | .List vs _ => decide (vs.length ≤ 1000) && matchEs c es vs | _ => false
  | .comp elt tg caps it cond, e => match e with
    | .ListComp x gs sc _ => (match isOne gs with
      | some gn => (match tgtName gn.target, capNames c caps with
        | some tx, some cs => decide (gn.is_async = 0) && decide (tg = 1) && cs.all (fun n => decide (c.scope.names.lookup n = some NameKind.cell) || decide (c.scope.names.lookup n = some NameKind.free)) && compScopeOk sc [tx] cs &&
          matchI c it gn.iter && matchE ⟨c.g, sc, [tx] ++ cs⟩ elt x && matchIfs ⟨c.g, sc, [tx] ++ cs⟩ cond gn.ifs
        | _, _ => false)
      | none => false)
    | _ => false
noncomputable def matchEs (c : MC) : PEs → List Expr → Bool
  | .nil, es => es.isEmpty
  | .cons e r, es => match es with | x :: xs => matchE c e x && notStarM x && matchEs c r xs | [] => false
noncomputable def matchO (c : MC) : PO → Option Expr → Bool
  | .no, o => o.isNone
  | .some e, o => match o with | some x => matchE c e x | none => false
noncomputable def matchIfs (c : MC) : PO → List Expr → Bool
  | .no, o => o.isEmpty
  | .some e, o => match isOne o with | some x => matchE c e x | none => false
noncomputable def matchI (c : MC) : PI → Expr → Bool
  | .seq e, x => matchE c e x && notSetM x
  | .rev e, x => match x with | .Call f as kw _ => (match isOne as with | some y => kw.isEmpty && c.isNm f "reversed" && matchE c e y && notStarM y | none => false) | _ => false
  | .rng es, x => match x with | .Call f as kw _ => kw.isEmpty && c.isNm f "range" && !as.isEmpty && matchEs c es as | _ => false
end

/-- the right side of an unpacking: no display -/
noncomputable def unpackOk (v : Expr) : Bool := match v with
  | .Tuple _ _ _ => false
  | v => notCompM v
noncomputable def tgts (c : MC) : List Nat → List Expr → Bool
  | [], ts => ts.isEmpty
  | i :: is, ts => match ts with | e :: es => c.varNm i e && tgts c is es | [] => false
/-- x.m(..) -/
noncomputable def MC.isMeth (c : MC) (i : Nat) (m : Str) (e : Expr) (cp : Pos) : Bool := match e with
  | .Attribute y a ap => c.varNm i y && a == m && decide (ap.endLine = cp.line)
  | _ => false

noncomputable def isStrC (e : Expr) : Bool := match e with | .Constant k _ _ => (match k with | .str _ => true | _ => false) | _ => false
mutual
noncomputable def matchS (c : MC) : PS → Stmt → Bool
  | .skip, _ => false
  | .seq _ _, _ => false
  | .assign i e, s => match s with | .Assign ts v _ => (match isOne ts with | some t => c.varNm i t && matchE c e v && (notCompM v || (match e with | .comp .. => true | _ => false)) | none => false) | _ => false
  | .unpack is e, s => match s with | .Assign ts v _ => (match isOne ts with | some t => (match t with | .Tuple us _ _ => tgts c is us && matchE c e v && unpackOk v && decide is.Nodup | _ => false) | none => false) | _ => false
  | .setidx i k e, s => match s with | .Assign ts v _ => (match isOne ts with | some t => (match t with | .Subscript y j _ => c.varNm i y && matchE c k j && matchE c e v && notCompM v | _ => false) | none => false) | _ => false
  | .pop i, s => match s with | .Expr x _ => (match x with | .Call f as kw cp => as.isEmpty && kw.isEmpty && c.isMeth i (Str.ofString "pop") f cp | _ => false) | _ => false
  | .ret e, s => match s with | .Return o _ => (match o with | some v => matchE c e v | none => false) | _ => false
  | .ite t a b, s => match s with | .If v x y _ => matchE c t v && matchB c a x && matchB c b y | _ => false
  | .whl t b, s => match s with | .While v x y _ => y.isEmpty && matchE c t v && matchB c b x | _ => false
  | .forr i it b, s => match s with | .For t v y z _ => z.isEmpty && c.varNm i t && matchI c it v && matchB c b y | _ => false
  | .raise k, s => match s with | .Raise o o2 _ => o2.isNone && (match o with | some x => (match x with | .Call f as kw _ => kw.isEmpty && c.clsNm k f && (match isOne as with | some a => isStrC a | none => false) | _ => false) | none => false) | _ => false
  | .opaq, _ => false
noncomputable def matchB (c : MC) : PS → List Stmt → Bool
  | .skip, b => b.isEmpty
  | .seq a r, b => match b with | s :: ss => matchS c a s && matchB c r ss | [] => false
  | .assign _ _, _ => false
  | .unpack _ _, _ => false
  | .setidx _ _ _, _ => false
  | .pop _, _ => false
  | .ret _, _ => false
  | .ite _ _ _, _ => false
  | .whl _ _, _ => false
  | .forr _ _ _, _ => false
  | .raise _, _ => false
  | .opaq, _ => true
end

end Mine

set_option autoImplicit false
set_option linter.unusedVariables false
namespace Mine
open PySem PyProof.Rows

abbrev KeepsH (h h' : Heap) : Prop := ∀ b o, h.get? b = some o → h'.get? b = some o
theorem KeepsH.trans {h h' h'' : Heap} (a : KeepsH h h') (b : KeepsH h' h'') : KeepsH h h'' := fun x o e => b x o (a x o e)
theorem KeepsH.refl (h : Heap) : KeepsH h h := fun _ _ e => e

/-- what is known of the top's globals: fa: a function's address, ca: a class's address -/
structure GV where
  mg : Str → Option Value
  mb : Str → Option Value
  fa : Nat → Addr
  ca : Nat → Value

mutual
inductive Rep (G : GV) (α : List Addr) (h : Heap) : Value → V → Prop
  | int (i : Int) (t : Tok) : Rep G α h (.int i t) (.int i)
  | bool (b : Bool) : Rep G α h (.bool b) (.bool b)
  | none : Rep G α h .none .none
  | str (s : Str) (t : Tok) : Rep G α h (.str s t) (.str s)
  | tup {a : Addr} {vs : List Value} {xs : List V} : IsTup h a vs.toArray → Reps G α h vs xs → xs.length ≤ lim → Rep G α h (.ref a) (.tup xs)
  | lst {a : Addr} {n : Nat} : α[n]? = some a → Rep G α h (.ref a) (.lst n)
  | fn {a : Addr} {k : Nat} : a = G.fa k → Rep G α h (.ref a) (.fn k)
inductive Reps (G : GV) (α : List Addr) (h : Heap) : List Value → List V → Prop
  | nil : Reps G α h [] []
  | cons {v : Value} {d : V} {vs : List Value} {ds : List V} : Rep G α h v d → Reps G α h vs ds → Reps G α h (v :: vs) (d :: ds)
end

section
variable {G : GV} {α : List Addr} {h : Heap} {u : Value}
noncomputable def RepOut (G : GV) (α : List Addr) (h : Heap) (u : Value) : V → Prop
  | .int i => ∃ t, u = .int i t
  | .bool b => u = .bool b
  | .none => u = .none
  | .str s => ∃ t, u = .str s t
  | .tup xs => ∃ a vs, u = .ref a ∧ IsTup h a (List.toArray vs) ∧ Reps G α h vs xs ∧ xs.length ≤ lim
  | .lst n => ∃ a, u = .ref a ∧ α[n]? = some a
  | .fn k => u = .ref (G.fa k)
  | .exc _ => False
theorem Rep.out {x : V} (r : Rep G α h u x) : RepOut G α h u x := by
  cases r with
  | int i t => exact ⟨t, rfl⟩
  | bool b => exact rfl
  | none => exact rfl
  | str s t => exact ⟨t, rfl⟩
  | tup t r z => exact ⟨_, _, rfl, t, r, z⟩
  | lst e => exact ⟨_, rfl, e⟩
  | fn e => exact congrArg _ e
theorem Rep.int_inv {i : Int} (r : Rep G α h u (.int i)) : ∃ t, u = .int i t := r.out
theorem Rep.bool_inv {b : Bool} (r : Rep G α h u (.bool b)) : u = .bool b := r.out
theorem Rep.none_inv (r : Rep G α h u .none) : u = .none := r.out
theorem Rep.tup_inv {xs : List V} (r : Rep G α h u (.tup xs)) : ∃ a vs, u = .ref a ∧ IsTup h a (List.toArray vs) ∧ Reps G α h vs xs ∧ xs.length ≤ lim := r.out
theorem Rep.lst_inv {n : Nat} (r : Rep G α h u (.lst n)) : ∃ a, u = .ref a ∧ α[n]? = some a := r.out
noncomputable def RepsOut (G : GV) (α : List Addr) (h : Heap) (vs : List Value) : List V → Prop
  | [] => vs = []
  | d :: ds => ∃ v vs', vs = v :: vs' ∧ Rep G α h v d ∧ Reps G α h vs' ds
theorem Reps.out {vs : List Value} {ds : List V} (r : Reps G α h vs ds) : RepsOut G α h vs ds := by
  cases r with
  | nil => exact rfl
  | cons a b => exact ⟨_, _, rfl, a, b⟩
theorem Reps.one_inv {vs : List Value} {d : V} (r : Reps G α h vs [d]) : ∃ v, vs = [v] ∧ Rep G α h v d := by
  obtain ⟨v, vs', e, a, b⟩ := r.out
  cases b.out
  exact ⟨v, e, a⟩
theorem Reps.two_inv {vs : List Value} {d e : V} (r : Reps G α h vs [d, e]) : ∃ v w, vs = [v, w] ∧ Rep G α h v d ∧ Rep G α h w e := by
  obtain ⟨v, vs', e, a, b⟩ := r.out
  obtain ⟨w, rfl, c⟩ := b.one_inv
  exact ⟨v, w, e, a, c⟩
end

/-- a heap in which every tuple stands as it stood -/
noncomputable def KeepsT (h h' : Heap) : Prop := ∀ a items, IsTup h a items → IsTup h' a items
theorem KeepsT.of {h h' : Heap} (k : KeepsH h h') : KeepsT h h' := fun _ _ x => x.keeps k

mutual
theorem Rep.mono {G : GV} {α α' : List Addr} {h h' : Heap} (ha : ∀ (n : Nat) (a : Addr), α[n]? = some a → α'[n]? = some a) (k : KeepsT h h') :
    ∀ {v : Value} {d : V}, Rep G α h v d → Rep G α' h' v d
  | _, _, .int i t => .int i t
  | _, _, .bool b => .bool b
  | _, _, .none => .none
  | _, _, .str s t => .str s t
  | _, _, .tup t r z => .tup (k _ _ t) (Reps.mono ha k r) z
  | _, _, .lst e => .lst (ha _ _ e)
  | _, _, .fn e => .fn e
theorem Reps.mono {G : GV} {α α' : List Addr} {h h' : Heap} (ha : ∀ (n : Nat) (a : Addr), α[n]? = some a → α'[n]? = some a) (k : KeepsT h h') :
    ∀ {vs : List Value} {ds : List V}, Reps G α h vs ds → Reps G α' h' vs ds
  | _, _, .nil => .nil
  | _, _, .cons r rs => .cons (Rep.mono ha k r) (Reps.mono ha k rs)
end

theorem ext_app {α β : List Addr} (n : Nat) (a : Addr) (e : α[n]? = some a) : (α ++ β)[n]? = some a := by
  have hl : n < α.length := (List.getElem?_eq_some_iff.mp e).1
  rw [List.getElem?_append_left hl]; exact e
theorem Rep.up {G : GV} {α β : List Addr} {h h' : Heap} {v : Value} {d : V} (r : Rep G α h v d) (k : KeepsH h h') : Rep G (α ++ β) h' v d := r.mono ext_app (.of k)
theorem Reps.up {G : GV} {α β : List Addr} {h h' : Heap} {v : List Value} {d : List V} (r : Reps G α h v d) (k : KeepsH h h') : Reps G (α ++ β) h' v d := r.mono ext_app (.of k)

theorem Reps.len {G : GV} {α : List Addr} {h : Heap} : ∀ {vs : List Value} {ds : List V}, Reps G α h vs ds → vs.length = ds.length
  | _, _, .nil => rfl
  | _, _, .cons _ r => by simp [r.len]
theorem Reps.get {G : GV} {α : List Addr} {h : Heap} : ∀ {vs : List Value} {ds : List V}, Reps G α h vs ds → ∀ {n : Nat} {d : V}, ds[n]? = some d → ∃ v, vs[n]? = some v ∧ Rep G α h v d
  | _, _, .nil, n, d, e => by simp at e
  | _, _, .cons r rs, 0, d, e => by simp at e; subst e; exact ⟨_, rfl, r⟩
  | _, _, .cons r rs, n + 1, d, e => by
    simp at e
    obtain ⟨v, a, b⟩ := rs.get e
    exact ⟨v, by simpa using a, b⟩
theorem Reps.get' {G : GV} {α : List Addr} {h : Heap} : ∀ {vs : List Value} {ds : List V}, Reps G α h vs ds → ∀ {n : Nat} {v : Value}, vs[n]? = some v → ∃ d, ds[n]? = some d ∧ Rep G α h v d
  | _, _, .nil, n, d, e => by simp at e
  | _, _, .cons r rs, 0, d, e => by simp at e; subst e; exact ⟨_, rfl, r⟩
  | _, _, .cons r rs, n + 1, d, e => by
    simp at e
    obtain ⟨v, a, b⟩ := rs.get' e
    exact ⟨v, by simpa using a, b⟩
theorem Reps.append {G : GV} {α : List Addr} {h : Heap} : ∀ {vs vs' : List Value} {ds ds' : List V}, Reps G α h vs ds → Reps G α h vs' ds' → Reps G α h (vs ++ vs') (ds ++ ds')
  | _, _, _, _, .nil, r => r
  | _, _, _, _, .cons a b, r => .cons a (b.append r)
theorem Reps.take {G : GV} {α : List Addr} {h : Heap} : ∀ {vs : List Value} {ds : List V} (n : Nat), Reps G α h vs ds → Reps G α h (vs.take n) (ds.take n)
  | _, _, 0, _ => by simpa using Reps.nil
  | _, _, _ + 1, .nil => .nil
  | _, _, n + 1, .cons a b => .cons a (b.take n)
theorem Reps.drop {G : GV} {α : List Addr} {h : Heap} : ∀ {vs : List Value} {ds : List V} (n : Nat), Reps G α h vs ds → Reps G α h (vs.drop n) (ds.drop n)
  | _, _, 0, r => r
  | _, _, _ + 1, .nil => .nil
  | _, _, n + 1, .cons _ b => b.drop n
theorem Reps.set {G : GV} {α : List Addr} {h : Heap} {v : Value} {d : V} (r : Rep G α h v d) : ∀ {vs : List Value} {ds : List V} (n : Nat), Reps G α h vs ds → Reps G α h (vs.set n v) (ds.set n d)
  | _, _, _, .nil => .nil
  | _, _, 0, .cons _ b => .cons r b
  | _, _, n + 1, .cons a b => .cons a (b.set r n)
theorem Reps.dropLast {G : GV} {α : List Addr} {h : Heap} {vs : List Value} {ds : List V} (r : Reps G α h vs ds) : Reps G α h vs.dropLast ds.dropLast := by
  rw [List.dropLast_eq_take, List.dropLast_eq_take, r.len]; exact r.take _
theorem Reps.replicate {G : GV} {α : List Addr} {h : Heap} {v : Value} {d : V} (r : Rep G α h v d) : ∀ n : Nat, Reps G α h (List.replicate n v) (List.replicate n d)
  | 0 => .nil
  | n + 1 => .cons r (Reps.replicate r n)

/-- the mini heap's lists stand in the heap -/
structure HR (G : GV) (α : List Addr) (h : Heap) (H : Hp) : Prop where
  len : α.length = H.length
  nodup : α.Nodup
  pos : 1 ≤ H.length
  lst : ∀ (n : Nat) (a : Addr) (xs : List V), α[n]? = some a → H[n]? = some xs → ∃ vs : List Value, h.IsList a vs.toArray ∧ Reps G α h vs xs ∧ xs.length ≤ lim ∧ (n ≠ 0 → h.PlainList a vs.toArray)

theorem HR.at {G : GV} {α : List Addr} {h : Heap} {H : Hp} (r : HR G α h H) {n : Nat} {a : Addr} (e : α[n]? = some a) : ∃ xs, H[n]? = some xs := by
  have : n < H.length := by rw [← r.len]; exact (List.getElem?_eq_some_iff.mp e).1
  exact ⟨H[n], List.getElem?_eq_getElem this⟩
theorem isList_keeps {h h' : Heap} {a : Addr} {items : Array Value} (x : h.IsList a items) (k : KeepsH h h') : h'.IsList a items := let ⟨o, ho, r⟩ := x; ⟨o, k _ _ ho, r⟩
theorem plainList_keeps {h h' : Heap} {a : Addr} {items : Array Value} (x : h.PlainList a items) (k : KeepsH h h') : h'.PlainList a items := let ⟨n, e⟩ := x; ⟨n, k _ _ e⟩

theorem HR.keeps {G : GV} {α : List Addr} {h h' : Heap} {H : Hp} (r : HR G α h H) (k : KeepsH h h') : HR G α h' H :=
  ⟨r.len, r.nodup, r.pos, fun n a xs e1 e2 => let ⟨vs, l, q, z, p⟩ := r.lst n a xs e1 e2; ⟨vs, isList_keeps l k, q.mono (fun _ _ e => e) (.of k), z, fun hn => plainList_keeps (p hn) k⟩⟩

/-- a new list -/
theorem HR.push {G : GV} {α : List Addr} {h h' : Heap} {H : Hp} (r : HR G α h H) (k : KeepsH h h') {a : Addr} (ha : a ∉ α) {vs : List Value} {xs : List V} (hl : h'.PlainList a vs.toArray) (q : Reps G α h' vs xs) (z : xs.length ≤ lim) :
    HR G (α ++ [a]) h' (H ++ [xs]) := by
  refine ⟨by simp [r.len], ?_, by simp, fun n b ys e1 e2 => ?_⟩
  · rw [List.nodup_append]
    refine ⟨r.nodup, by simp, fun x hx y hy => ?_⟩
    simp at hy; subst hy; intro e; subst e; exact ha hx
  · by_cases hn : n < α.length
    · rw [List.getElem?_append_left hn] at e1
      rw [List.getElem?_append_left (r.len ▸ hn)] at e2
      obtain ⟨vs, l, q, z', p⟩ := r.lst n b ys e1 e2
      exact ⟨vs, isList_keeps l k, q.up k, z', fun hn => plainList_keeps (p hn) k⟩
    · have hn' : n = α.length := by
        have := (List.getElem?_eq_some_iff.mp e1).1
        simp at this; omega
      subst hn'
      rw [List.getElem?_append_right (Nat.le_refl _)] at e1
      rw [List.getElem?_append_right (by rw [r.len]; exact Nat.le_refl _)] at e2
      simp [r.len] at e1 e2
      subst e1 e2
      exact ⟨vs, hl.isList, q.mono ext_app (.of (.refl _)), z, fun _ => hl⟩

/-- a list is written -/
theorem HR.set {G : GV} {α : List Addr} {h h' : Heap} {H : Hp} (r : HR G α h H) {n : Nat} {a : Addr} (e : α[n]? = some a) {xs₀ : List V} (e0 : H[n]? = some xs₀) (hs : Heap.SameBut a h h') {vs : List Value} {xs : List V} (hl : h'.PlainList a vs.toArray) (q : Reps G α h vs xs) (z : xs.length ≤ lim) :
    KeepsT h h' ∧ HR G α h' (H.set n xs) := by
  obtain ⟨vs₀, ⟨o₀, ho₀, hc₀, _⟩, _⟩ := r.lst n a xs₀ e e0
  have kt : KeepsT h h' := fun b items x => by
    refine x.extBut hs.extBut fun q => ?_
    subst q
    obtain ⟨o, ho, hc, _⟩ := x
    rw [ho₀] at ho; cases ho
    rw [hc₀] at hc; exact absurd hc (by decide)
  refine ⟨kt, by simp [r.len], r.nodup, by simpa using r.pos, fun m b ys e1 e2 => ?_⟩
  by_cases hm : m = n
  · subst hm
    rw [e] at e1; cases e1
    have hlt : m < H.length := by rw [← r.len]; exact (List.getElem?_eq_some_iff.mp e).1
    rw [List.getElem?_set_self hlt] at e2
    cases e2
    exact ⟨vs, hl.isList, q.mono (fun _ _ e => e) kt, z, fun _ => hl⟩
  · rw [List.getElem?_set_ne (Ne.symm hm)] at e2
    obtain ⟨vs', l, q', z', p⟩ := r.lst m b ys e1 e2
    have hab : b ≠ a := fun hba => by
      subst hba
      have h1 := (List.getElem?_eq_some_iff.mp e1)
      have h2 := (List.getElem?_eq_some_iff.mp e)
      obtain ⟨l1, g1⟩ := h1
      obtain ⟨l2, g2⟩ := h2
      exact hm ((List.getElem_inj r.nodup).mp (g1.trans g2.symm))
    exact ⟨vs', l.extBut hs.extBut hab, q'.mono (fun _ _ e => e) kt, z', fun hn => let ⟨n', e'⟩ := p hn; ⟨n', hs.extBut _ _ hab e'⟩⟩

end Mine

set_option autoImplicit false
set_option linter.unusedSimpArgs false
set_option linter.unusedVariables false
namespace Mine
open PySem PyProof.Rows PySem.Calls

/-- a def of the text -/
structure DefT where
  name : Str
  params : Arguments
  body : List Stmt
  scope : Scope

noncomputable def bltNames : List Str := ["abs", "len", "int", "list", "tuple", "min", "isinstance", "reversed", "range", "bool"]

/-- what the top is known to hold -/
structure GF (G : GV) (gc : GC) (DT : List DefT) (h : Heap) : Prop where
  g : h.Ns mainGlobals G.mg
  b : h.Ns builtinsNs G.mb
  nolimit : h.NoLimit
  seer : h.NoSeer
  fn : ∀ (k : Nat) (x : Str), gc.fns[k]? = some x → G.mg x = some (.ref (G.fa k)) ∧ ∃ d o pm cd doc, DT[k]? = some d ∧ d.name = x ∧ h.get? (G.fa k) = some o ∧
    o.data = .func (docDef d.name d.params d.body d.scope pm cd doc) ∧ h.CodeRec cd d.name
  blt : ∀ x ∈ bltNames, G.mg x = none ∧ G.mb x = bootBuiltins x
  glob : ∀ x a b, (x, a, b) ∈ gc.globs → ∃ t ta tb, G.mg x = some (.ref t) ∧ IsTup h t #[.int a ta, .int b tb]

theorem GF.keeps {G : GV} {gc : GC} {DT : List DefT} {h h' : Heap} (F : GF G gc DT h) (k : KeepsH h h') : GF G gc DT h' where
  g := F.g.keeps k
  b := F.b.keeps k
  nolimit := F.nolimit.keeps k
  seer := F.seer.keeps k
  fn := fun i x e => let ⟨a, d, o, pm, cd, doc, b, c, f, g, r⟩ := F.fn i x e; ⟨a, d, o, pm, cd, doc, b, c, k _ _ f, g, r.keeps k⟩
  blt := F.blt
  glob := fun x a b e => let ⟨t, ta, tb, m, i⟩ := F.glob x a b e; ⟨t, ta, tb, m, i.keeps k⟩

structure EnvOk (c : MC) (env : Env) : Prop where
  kind : env.scope.kind = .function
  globals : env.globals = mainGlobals
  builtins : env.builtins = builtinsNs
  loc : ∀ x, c.scope.names.lookup x = some NameKind.local → env.kindOf x = some .local
  glob : ∀ x, c.scope.names.lookup x = some NameKind.globalImplicit → env.kindOf x = some .globalImplicit
  cel : ∀ x, c.scope.names.lookup x = some NameKind.cell → env.kindOf x = some .cell
  fre : ∀ x, c.scope.names.lookup x = some NameKind.free → env.kindOf x = some .cell ∨ env.kindOf x = some .free
  cells : ∀ x, env.kindOf x = some .cell ∨ env.kindOf x = some .free → ∃ a, env.cells.lookup x = some a

noncomputable def VarAt (env : Env) (h : Heap) (x : Str) (v : Value) : Prop :=
  (env.kindOf x = some .local ∧ ∃ m, h.Ns env.locals m ∧ m x = some v) ∨
  ((env.kindOf x = some .cell ∨ env.kindOf x = some .free) ∧ ∃ c, env.cells.lookup x = some c ∧ h.IsCell c (some v))

theorem isCell_keeps {h h' : Heap} {c : Addr} {v : Option Value} (x : h.IsCell c v) (k : KeepsH h h') : h'.IsCell c v := let ⟨o, ho, r⟩ := x; ⟨o, k _ _ ho, r⟩
theorem VarAt.keeps {env : Env} {h h' : Heap} {x : Str} {v : Value} (a : VarAt env h x v) (k : KeepsH h h') : VarAt env h' x v := by
  rcases a with ⟨a, m, b, c⟩ | ⟨a, c, b, d⟩
  · exact .inl ⟨a, m, b.keeps k, c⟩
  · exact .inr ⟨a, c, b, isCell_keeps d k⟩

/-- the frame's variables -/
noncomputable def FI (G : GV) (c : MC) (env : Env) (α : List Addr) (h : Heap) (ρ : Loc) : Prop :=
  ∀ (i : Nat) (x : Str) (d : V), c.names[i]? = some x → lget ρ i = some d → ∃ v, VarAt env h x v ∧ Rep G α h v d
theorem FI.up {G : GV} {c : MC} {env : Env} {α β : List Addr} {h h' : Heap} {ρ : Loc} (F : FI G c env α h ρ) (k : KeepsH h h') : FI G c env (α ++ β) h' ρ :=
  fun i x d e1 e2 => let ⟨v, a, b⟩ := F i x d e1 e2; ⟨v, a.keeps k, b.up k⟩

/-- the post of a look: the heap has grown, the mini heap too -/
inductive Post {γ δ : Type} (G : GV) (RR : List Addr → Heap → γ → δ → Prop) (s : Shared) (α : List Addr) (H : Hp) (Q : δ → Hp → Prop) (v : γ) (s' : Shared) : Prop
  | mk (h' : Heap) (tk : Nat) (β : List Addr) (K : Hp) (d : δ) (e : s' = { s with heap := h', toks := tk }) (k : KeepsH s.heap h') (f : ∀ b ∈ β, s.heap.get? b = none) (R : HR G (α ++ β) h' (H ++ K)) (r : RR (α ++ β) h' v d) (q : Q d (H ++ K))

section
variable {prog : Program} {w : World} {A : Around} {E : Value → Shared → Prop} {s : Shared} {G : GV} {α : List Addr} {H : Hp}

theorem Post.same {γ δ : Type} {RR : List Addr → Heap → γ → δ → Prop} {Q : δ → Hp → Prop} {v : γ} {d : δ} (R : HR G α s.heap H) (r : RR α s.heap v d) (q : Q d H) (tk : Nat) : Post G RR s α H Q v { s with toks := tk } :=
  ⟨s.heap, tk, [], [], d, rfl, .refl _, by simp, by simpa using R, by simpa using r, by simpa using q⟩
theorem Post.same' {γ δ : Type} {RR : List Addr → Heap → γ → δ → Prop} {Q : δ → Hp → Prop} {v : γ} {d : δ} (R : HR G α s.heap H) (r : RR α s.heap v d) (q : Q d H) : Post G RR s α H Q v s :=
  Post.same R r q s.toks

theorem Post.trans {γ δ : Type} {RR : List Addr → Heap → γ → δ → Prop} {Q : δ → Hp → Prop} {v : γ} {s' : Shared} {h₁ : Heap} {tk₁ : Nat} {β : List Addr} {K : Hp}
    (k : KeepsH s.heap h₁) (f : ∀ b ∈ β, s.heap.get? b = none) (p : Post G RR { s with heap := h₁, toks := tk₁ } (α ++ β) (H ++ K) Q v s') : Post G RR s α H Q v s' := by
  obtain ⟨h', tk, β', K', d, rfl, k', f', R, r, q⟩ := p
  refine ⟨h', tk, β ++ β', K ++ K', d, rfl, k.trans k', fun b hb => ?_, by simpa using R, by simpa using r, by simpa using q⟩
  rcases List.mem_append.mp hb with hb | hb
  · exact f b hb
  · cases e : s.heap.get? b with
    | none => rfl
    | some o => have := k b o e; rw [show h₁.get? b = none from f' b hb] at this; cases this

/-- one look, then the next -/
theorem Post.then {γ δ γ' δ' : Type} {RR : List Addr → Heap → γ → δ → Prop} {RR' : List Addr → Heap → γ' → δ' → Prop} {Q : δ → Hp → Prop} {Q' : δ' → Hp → Prop} {v : γ} {s₁ : Shared} {t : Sem γ'}
    (p : Post G RR s α H Q v s₁)
    (h : ∀ h₁ tk₁ β K d, KeepsH s.heap h₁ → (∀ b ∈ β, s.heap.get? b = none) → HR G (α ++ β) h₁ (H ++ K) → RR (α ++ β) h₁ v d → Q d (H ++ K) →
      wpAny (model prog w) A t (Post G RR' { s with heap := h₁, toks := tk₁ } (α ++ β) (H ++ K) Q') E { s with heap := h₁, toks := tk₁ }) :
    wpAny (model prog w) A t (Post G RR' s α H Q') E s₁ := by
  obtain ⟨h', tk, β, K, d, rfl, k, f, R, r, q⟩ := p
  exact wpAny_mono (h h' tk β K d k f R r q) (fun _ _ x => x.trans k f) fun _ _ x => x

/-- the same, where the end is any post that the walk wants -/
theorem Post.go {γ δ γ' : Type} {RR : List Addr → Heap → γ → δ → Prop} {Q : δ → Hp → Prop} {v : γ} {s₁ : Shared} {t : Sem γ'} {Z : γ' → Shared → Prop}
    (p : Post G RR s α H Q v s₁)
    (h : ∀ h₁ tk₁ β K d, KeepsH s.heap h₁ → (∀ b ∈ β, s.heap.get? b = none) → HR G (α ++ β) h₁ (H ++ K) → RR (α ++ β) h₁ v d → Q d (H ++ K) →
      wpAny (model prog w) A t Z E { s with heap := h₁, toks := tk₁ }) :
    wpAny (model prog w) A t Z E s₁ := by
  obtain ⟨h', tk, β, K, d, rfl, k, f, R, r, q⟩ := p
  exact h h' tk β K d k f R r q
end

theorem MC.isVar_spec {c : MC} {i : Nat} {x : Str} (h : c.isVar i x = true) : c.names[i]? = some x ∧ (x == Str.ofString "__debug__") = false ∧ (x == Str.ofString "__classdict__") = false ∧
    (c.scope.names.lookup x = some NameKind.local ∨ c.scope.names.lookup x = some NameKind.cell ∨ c.scope.names.lookup x = some NameKind.free) := by
  unfold MC.isVar at h
  simp only [Bool.and_eq_true, Bool.or_eq_true, decide_eq_true_eq, Bool.not_eq_true'] at h
  obtain ⟨⟨⟨a, b⟩, d⟩, e⟩ := h
  exact ⟨a, b, d, by rcases e with (e | e) | e <;> simp [e]⟩
theorem MC.isGlob_spec {c : MC} {x : Str} (h : c.isGlob x = true) : c.scope.names.lookup x = some NameKind.globalImplicit ∧ (x == Str.ofString "__debug__") = false := by
  unfold MC.isGlob at h
  simpa only [Bool.and_eq_true, decide_eq_true_eq, Bool.not_eq_true'] using h
theorem MC.isNm_spec {c : MC} {e : Expr} {x : Str} (h : c.isNm e x = true) : ∃ pos, e = .Name x pos ∧ c.isGlob x = true := by
  unfold MC.isNm at h
  split at h
  · simp only [Bool.and_eq_true, beq_iff_eq] at h
    obtain ⟨rfl, h⟩ := h
    exact ⟨_, rfl, h⟩
  · cases h

section
variable {M : Model} {A : Around} {E : Value → Shared → Prop} {s : Shared} {c : MC} {env : Env} {Q : Value → Shared → Prop}

theorem load_var {i : Nat} {x : Str} {pos : Pos} {v : Value} (O : EnvOk c env) (hx : c.isVar i x = true) (hv : VarAt env s.heap x v) (h : Q v s) : wpAny M A (eval (.Name x pos) env) Q E s := by
  obtain ⟨_, hd, hn, _⟩ := MC.isVar_spec hx
  refine wpAny_Name ?_ hd
  rcases hv with ⟨k, m, hm, e⟩ | ⟨k | k, cc, hc, hv⟩
  · exact wpAny_loadName_local O.kind k hm e h
  · exact wpAny_loadName_cell O.kind k hc hv h
  · exact wpAny_loadName_free O.kind k hc hv h hn

theorem load_glob {G : GV} {x : Str} {pos : Pos} {v : Value} (O : EnvOk c env) (hx : c.isGlob x = true) (hg : s.heap.Ns mainGlobals G.mg) (hv : G.mg x = some v) (h : Q v s) : wpAny M A (eval (.Name x pos) env) Q E s := by
  obtain ⟨hk, hd⟩ := MC.isGlob_spec hx
  exact Name_function_global O.kind (O.glob x hk) (loadGlobal_global (O.globals ▸ hg) hv h) hd
theorem load_blt {G : GV} {x : Str} {pos : Pos} {v : Value} (O : EnvOk c env) (hx : c.isGlob x = true) (hg : s.heap.Ns mainGlobals G.mg) (hm : G.mg x = none) (hb : s.heap.Ns builtinsNs G.mb) (hv : G.mb x = some v) (h : Q v s) :
    wpAny M A (eval (.Name x pos) env) Q E s := by
  obtain ⟨hk, hd⟩ := MC.isGlob_spec hx
  exact Name_function_global O.kind (O.glob x hk) (loadGlobal_builtin (O.globals ▸ hg) hm (O.builtins ▸ hb) hv h) hd
end

/-- what the calls are known to give -/
structure AOk (prog : Program) (A : Around) : Prop where
  handled : A.handled = none
  units : A.units + 100 < cLine
  py : ∀ (w : World) (s : Shared), s.heap.NoLimit → s.heap.NoSeer → PylongRoom (model prog w) A s

noncomputable def SCall (prog : Program) (w : World) (G : GV) (gc : GC) (DT : List DefT) (A : Around) (Φ : Call) : Prop :=
  ∀ (f : Nat) (x : Str) (vs : List V) (H : Hp) (Q : V → Hp → Prop), gc.fns[f]? = some x → Φ f vs H Q (fun _ _ => False) → ∀ (s : Shared) (α : List Addr) (vals : List Value) (E : Value → Shared → Prop),
    GF G gc DT s.heap → HR G α s.heap H → Reps G α s.heap vals vs → wpAny (model prog w) A (call (.ref (G.fa f)) vals) (Post G (Rep G) s α H Q) E s

structure SX where
  prog : Program
  w : World
  G : GV
  DT : List DefT
  A : Around
  sub : Nat → Nat → Bool
  Φ : Call

/-- the soundness of an expression -/
noncomputable def SE (X : SX) (c : MC) (pe : PE) (e : Expr) : Prop :=
  ∀ (env : Env) (s : Shared) (α : List Addr) (ρ : Loc) (H : Hp) (Q : V → Hp → Prop) (E : Value → Shared → Prop), EnvOk c env → GF X.G c.g X.DT s.heap → HR X.G α s.heap H → FI X.G c env α s.heap ρ →
    wpE X.sub X.Φ pe ρ H Q → wpAny (model X.prog X.w) X.A (eval e env) (Post X.G (Rep X.G) s α H Q) E s
noncomputable def SEs (X : SX) (c : MC) (pes : PEs) (es : List Expr) : Prop :=
  ∀ (env : Env) (s : Shared) (α : List Addr) (ρ : Loc) (H : Hp) (Q : List V → Hp → Prop) (E : Value → Shared → Prop) (pos : Pos), EnvOk c env → GF X.G c.g X.DT s.heap → HR X.G α s.heap H → FI X.G c env α s.heap ρ →
    wpEs X.sub X.Φ pes ρ H Q → wpAny (model X.prog X.w) X.A (spliced (backTo pos (starEach es env))) (Post X.G (fun α h vs ds => Reps X.G α h vs ds ∧ vs.length = es.length) s α H Q) E s

section
variable {X : SX} {c : MC}

theorem se_cint {i k : _} {pos : Pos} : SE X c (.cint i) (.Constant (.int i) k pos) := fun env s α ρ H Q E _ _ R _ q =>
  wpAny_Constant_int (Post.same R (Rep.int _ _) q _)
theorem se_cbool {i k : _} {pos : Pos} : SE X c (.cbool i) (.Constant (.bool i) k pos) := fun env s α ρ H Q E _ _ R _ q =>
  wpAny_Constant_bool (Post.same' R (Rep.bool _) q)
theorem se_var {i : Nat} {x : Str} {pos : Pos} (hx : c.isVar i x = true) : SE X c (.var i) (.Name x pos) := fun env s α ρ H Q E O _ R F q => by
  obtain ⟨v, e, q⟩ := ifSome.get q
  obtain ⟨u, hu, r⟩ := F i x v (MC.isVar_spec hx).1 e
  exact load_var O hx hu (Post.same' R r q)
theorem se_glob {x : Str} {a b : Int} {e : Expr} (hf : (x, a, b) ∈ c.g.globs) (hx : c.isNm e x = true) : SE X c (.glob x a b) e := fun env s α ρ H Q E O T R F q => by
  obtain ⟨pos, rfl, hx2⟩ := MC.isNm_spec hx
  obtain ⟨t, ta, tb, hm, ht⟩ := T.glob x a b hf
  exact load_glob O hx2 T.g hm (Post.same' R (Rep.tup (vs := [.int a ta, .int b tb]) ht (.cons (.int _ _) (.cons (.int _ _) .nil)) (by show 2 ≤ lim; decide)) q)

theorem ses_nil : SEs X c .nil [] := fun env s α ρ H Q E pos _ _ R _ q => args_nil (Post.same' R ⟨Reps.nil, rfl⟩ q)
theorem ses_cons {pe : PE} {e : Expr} {ps : PEs} {es : List Expr} (hs : (match e with | .Starred .. => false | _ => true) = true) (h1 : SE X c pe e) (h2 : SEs X c ps es) : SEs X c (.cons pe ps) (e :: es) :=
  fun env s α ρ H Q E pos O T R F q => by
  have he : starEach (e :: es) env = (false, eval e env) :: starEach es env := by cases e <;> first | rfl | cases hs
  refine args_cons (wpAny_mono (h1 env s α ρ H _ E O T R F q) (fun v s₁ p => ?_) fun _ _ x => x) he
  refine p.go fun h₁ tk₁ β K d k f R' r q' => ?_
  refine wpAny_mono (h2 env _ (α ++ β) ρ (H ++ K) _ E pos O (T.keeps k) R' (F.up k) q') (fun vs s₂ p₂ => ?_) fun _ _ x => x
  obtain ⟨h₂, tk₂, β₂, K₂, ds, rfl, k₂, f₂, R₂, r₂, q₂⟩ := p₂
  refine Post.trans (tk₁ := tk₁) k f ⟨h₂, tk₂, β₂, K₂, d :: ds, rfl, k₂, f₂, R₂, ⟨.cons (r.up k₂) r₂.1, by simp [r₂.2]⟩, q₂⟩

theorem keeps_push (h : Heap) (o : Obj) : KeepsH h (h.push o) := fun _ _ e => Heap.get?_push_of_some o e
theorem size_none (h : Heap) : h.get? h.objs.size = none := by
  cases e : h.get? h.objs.size with
  | none => rfl
  | some o => exact absurd (Heap.lt_size e) (Nat.lt_irrefl _)
theorem lim_le : lim ≤ sizeLine := by rw [sizeLine_eq]; decide

/-- a new tuple -/
theorem Post.newTup {s : Shared} {G : GV} {α : List Addr} {H : Hp} {vs : List Value} {xs : List V} {Q : V → Hp → Prop} (R : HR G α s.heap H) (r : Reps G α s.heap vs xs) (z : xs.length ≤ lim) (q : Q (.tup xs) H) {n : Nat} (tk : Nat) :
    Post G (Rep G) s α H Q (.ref s.heap.objs.size) { s with heap := s.heap.push { cls := .type "tuple", data := .seq vs.toArray n }, toks := tk } := by
  refine ⟨_, tk, [], [], .tup xs, rfl, keeps_push _ _, by simp, by simpa using R.keeps (keeps_push _ _), ?_, by simpa using q⟩
  exact Rep.tup (vs := vs) ⟨_, Heap.get?_push_size _ rfl, rfl, n, rfl⟩ (r.up (keeps_push _ _)) z
/-- a new list -/
theorem Post.newLst {s : Shared} {G : GV} {α : List Addr} {H : Hp} {vs : List Value} {xs : List V} {Q : V → Hp → Prop} (R : HR G α s.heap H) {h' : Heap} (k : KeepsH s.heap h') (r : Reps G α h' vs xs) (z : xs.length ≤ lim) (q : Q (.lst H.length) (H ++ [xs]))
    {D : Addr} (hD : s.heap.get? D = none) (hl : h'.PlainList D vs.toArray) (tk : Nat) :
    Post G (Rep G) s α H Q (.ref D) { s with heap := h', toks := tk } := by
  refine ⟨h', tk, [D], [xs], .lst H.length, rfl, k, by simpa using hD, R.push k (fun hm => ?_) hl r z, ?_, q⟩
  · obtain ⟨n, hn⟩ := List.mem_iff_getElem?.mp hm
    obtain ⟨ys, hy⟩ := R.at hn
    obtain ⟨us, ⟨o, ho, _⟩, _⟩ := R.lst n D ys hn hy
    rw [hD] at ho; cases ho
  · refine Rep.lst ?_
    rw [List.getElem?_append_right (by rw [R.len]; exact Nat.le_refl _)]; simp [R.len]
theorem Post.newLst' {s : Shared} {G : GV} {α : List Addr} {H : Hp} {vs : List Value} {xs : List V} {Q : V → Hp → Prop} (R : HR G α s.heap H) (r : Reps G α s.heap vs xs) (z : xs.length ≤ lim) (q : Q (.lst H.length) (H ++ [xs])) {n : Nat} (tk : Nat) :
    Post G (Rep G) s α H Q (.ref s.heap.objs.size) { s with heap := s.heap.push { cls := .type "list", data := .seq vs.toArray n }, toks := tk } :=
  Post.newLst R (keeps_push _ _) (r.mono (fun _ _ e => e) (.of (keeps_push _ _))) z q (size_none _) ⟨n, Heap.get?_push_size _ rfl⟩ tk

theorem se_tup {ps : PEs} {es : List Expr} {k : Nat} {pos : Pos} (hn : es.length ≤ 1000) (h : SEs X c ps es) : SE X c (.tup ps) (.Tuple es k pos) := fun env s α ρ H Q E O T R F q => by
  refine wpAny_Tuple (wpAny_mono (h env s α ρ H _ E pos O T R F q) (fun vs s₁ p => ?_) fun _ _ x => x)
  obtain ⟨h₁, tk₁, β, K, ds, rfl, k₁, f, R', r, q'⟩ := p
  have hl := r.1.len
  refine ⟨by rw [r.2]; exact Nat.le_trans hn (Nat.le_trans (by decide) lim_le), Post.trans (tk₁ := tk₁) (K := K) k₁ f ?_⟩
  exact Post.newTup (s := { s with heap := h₁, toks := tk₁ }) R' r.1 (by rw [← hl, r.2]; exact Nat.le_trans hn (by decide)) q' tk₁
theorem se_lst {ps : PEs} {es : List Expr} {pos : Pos} (hn : es.length ≤ 1000) (h : SEs X c ps es) : SE X c (.lst ps) (.List es pos) := fun env s α ρ H Q E O T R F q => by
  refine wpAny_List (wpAny_mono (h env s α ρ H _ E pos O T R F q) (fun vs s₁ p => ?_) fun _ _ x => x)
  obtain ⟨h₁, tk₁, β, K, ds, rfl, k₁, f, R', r, q'⟩ := p
  have hl := r.1.len
  refine ⟨by rw [r.2]; exact Nat.le_trans hn (Nat.le_trans (by decide) lim_le), Post.trans (tk₁ := tk₁) (K := K) k₁ f ?_⟩
  exact Post.newLst' (s := { s with heap := h₁, toks := tk₁ }) R' r.1 (by rw [← hl, r.2]; exact Nat.le_trans hn (by decide)) q' tk₁

/-! two operands -/
theorem two {a b : PE} {l r : Expr} {ρ : Loc} {env : Env} {s : Shared} {α : List Addr} {H : Hp} {E : Value → Shared → Prop} {Q : V → V → Hp → Prop} {Z : Value → Value → Shared → Prop} (h1 : SE X c a l) (h2 : SE X c b r)
    (O : EnvOk c env) (T : GF X.G c.g X.DT s.heap) (R : HR X.G α s.heap H) (F : FI X.G c env α s.heap ρ)
    (q : wpE X.sub X.Φ a ρ H fun x H1 => wpE X.sub X.Φ b ρ H1 fun y H2 => Q x y H2)
    (hz : ∀ h' tk β K u v x y, KeepsH s.heap h' → (∀ b ∈ β, s.heap.get? b = none) → HR X.G (α ++ β) h' (H ++ K) → Rep X.G (α ++ β) h' u x → Rep X.G (α ++ β) h' v y → Q x y (H ++ K) → Z u v { s with heap := h', toks := tk }) :
    wpAny (model X.prog X.w) X.A (eval l env) (fun u s₁ => wpAny (model X.prog X.w) X.A (eval r env) (fun v s₂ => Z u v s₂) E s₁) E s := by
  refine wpAny_mono (h1 env s α ρ H _ E O T R F q) (fun u s₁ p => ?_) fun _ _ x => x
  refine p.go fun h₁ tk₁ β K d k f R' r q' => ?_
  refine wpAny_mono (h2 env _ (α ++ β) ρ (H ++ K) _ E O (T.keeps k) R' (F.up k) q') (fun v s₂ p₂ => ?_) fun _ _ x => x
  obtain ⟨h₂, tk₂, β₂, K₂, e, rfl, k₂, f₂, R₂, r₂, q₂⟩ := p₂
  have := hz h₂ tk₂ (β ++ β₂) (K ++ K₂) u v d e (k.trans k₂) (fun b hb => ?_) (by simpa using R₂) (by simpa using (r.up (β := β₂) k₂)) (by simpa using r₂) (by simpa using q₂)
  · exact this
  · rcases List.mem_append.mp hb with hb | hb
    · exact f b hb
    · cases e : s.heap.get? b with
      | none => rfl
      | some o => have := k b o e; rw [show h₁.get? b = none from f₂ b hb] at this; cases this

section
variable {prog : Program} {w : World} {A : Around} {E : Value → Shared → Prop} {s : Shared} {G : GV} {α : List Addr} {H : Hp} {Q : V → Hp → Prop}
theorem add_lists' {l b : Addr} {vs ws : List Value} {Z : Value → Shared → Prop} (hl : s.heap.IsList l vs.toArray) (hb : s.heap.IsList b ws.toArray) (hsz : vs.length + ws.length ≤ sizeLine)
    (h : Z (.ref s.heap.objs.size) { s with heap := s.heap.push { cls := .type "list", data := .seq (vs ++ ws).toArray } }) : wpAny (model prog w) A (binaryOp .Add (.ref l) (.ref b)) Z E s := by
  obtain ⟨⟨c1, d1, t1, sl1⟩, o1, e1, n1, f1⟩ := hl
  obtain ⟨⟨c2, d2, t2, sl2⟩, o2, e2, n2, f2⟩ := hb
  dsimp only at e1 f1 e2 f2
  subst e1 f1 e2 f2
  refine concat_meets ⟨_, o1, rfl⟩ ⟨_, o2, rfl⟩ noFill_list_add seq_list_add PySem.F.slot_list_add PySem.F.entry_list_add (PySem.F.args_list_add_2 _ _) (list_addW l b vs.toArray ws.toArray n1 n2 d1 d2 sl1 sl2 (by simpa using hsz)) ⟨o1, o2, ?_⟩
  simpa using h
end
end
end Mine

set_option autoImplicit false
set_option linter.unusedSimpArgs false
set_option linter.unusedVariables false
namespace Mine
open PySem PyProof.Rows PySem.Calls

section
variable {prog : Program} {w : World} {A : Around} {E : Value → Shared → Prop} {s : Shared} {G : GV} {α : List Addr} {H : Hp} {Q : V → Hp → Prop}

theorem HR.getList (R : HR G α s.heap H) {a : Addr} {n : Nat} {xs : List V} (e : α[n]? = some a) (h : H[n]? = some xs) : ∃ vs : List Value, s.heap.IsList a vs.toArray ∧ Reps G α s.heap vs xs ∧ xs.length ≤ lim ∧ vs.length ≤ lim := by
  obtain ⟨vs, l, r, z, _⟩ := R.lst n a xs e h
  exact ⟨vs, l, r, z, by rw [r.len]; exact z⟩

/-- the items of a sequence -/
theorem seqOf {v : Value} {d : V} {xs : List V} (R : HR G α s.heap H) (r : Rep G α s.heap v d) (e : items H d = some xs) :
    ∃ (a : Addr) (vs : List Value), v = .ref a ∧ Reps G α s.heap vs xs ∧ xs.length ≤ lim ∧ vs.length ≤ lim ∧ ((IsTup s.heap a vs.toArray ∧ ∃ ys, d = .tup ys) ∨ (s.heap.IsList a vs.toArray ∧ ∃ n, d = .lst n)) := by
  cases r with
  | tup t q z => cases e; exact ⟨_, _, rfl, q, z, by rw [q.len]; exact z, .inl ⟨t, _, rfl⟩⟩
  | lst q =>
    obtain ⟨vs, l, r, z, y⟩ := R.getList q e
    exact ⟨_, vs, rfl, r, z, y, .inr ⟨l, _, rfl⟩⟩
  | _ => cases e

theorem fold_replicate (v : Value) : ∀ n : Nat, List.foldl (fun x1 x2 : Array Value => x1 ++ x2) #[] (List.replicate n #[v]) = (List.replicate n v).toArray := by
  intro n
  have key : ∀ (n : Nat) (acc : Array Value), List.foldl (fun x1 x2 : Array Value => x1 ++ x2) acc (List.replicate n #[v]) = acc ++ (List.replicate n v).toArray := by
    intro n
    induction n with
    | zero => intro acc; simp
    | succ n ih =>
      intro acc
      rw [List.replicate_succ, List.foldl_cons, ih, List.replicate_succ]
      apply Array.ext'
      simp
  rw [key]; simp

theorem mul_list' {l : Addr} {v : Value} {k : Int} {u : Tok} {Z : Value → Shared → Prop} (hl : s.heap.IsList l [v].toArray) (h0 : 0 ≤ k) (h1 : k ≤ lim)
    (h : Z (.ref s.heap.objs.size) { s with heap := s.heap.push { cls := .type "list", data := .seq (List.replicate k.toNat v).toArray } }) : wpAny (model prog w) A (binaryOp .Mult (.ref l) (.int k u)) Z E s := by
  obtain ⟨⟨c1, d1, t1, sl1⟩, o1, e1, n1, f1⟩ := hl
  dsimp only at e1 f1
  subst e1 f1
  have hk : k.toNat ≤ 1000000 := by have h2 : k ≤ 1000000 := h1; (clear h1 h o1; omega)
  have hk' : k ≤ 1000000 := h1
  refine wpAny_binaryOp_repeat_ref (T := "list") (U := "int") (by decide) ⟨_, o1, rfl⟩ (fun s' => typeIs_int s' k u) noFill_list_mul F.fills_int_mul F.slot_int_rmul repeat_list F.slot_int_index.lookup
    (call_meets F.slot_int_rmul (typeIs_int s k u) F.entry_int_rmul (F.args_int_rmul_2 _ _) (lm_int_rmul_list_any k u l [v].toArray n1 d1 sl1)
      ⟨o1, rfl, ⟨_, o1, rfl⟩, call_meets F.slot_list_mul ⟨_, o1, rfl⟩ F.entry_list_mul (F.args_list_mul_2 _ _)
        (lm_list_mul_any l [v].toArray n1 d1 sl1 k u (by simp [Builtin.List.listFitsIndex]; (clear h1 h o1 hk; omega)) (by simp; (clear h1 h o1 hk; omega)) (by simp [Builtin.List.listTooLong, sizeLine]; (clear h1 h o1 hk; omega)))
        ⟨o1, ?_⟩⟩)
  have e : (if ([v].toArray).isEmpty = true then 0 else k.toNat) = k.toNat := by simp
  rw [e, show ([v].toArray : Array Value) = #[v] from rfl, fold_replicate]
  exact h

theorem binOp_sound {op : BOp} {u v : Value} {x y : V} (hP : PylongRoom (model prog w) A s) (R : HR G α s.heap H) (ru : Rep G α s.heap u x) (rv : Rep G α s.heap v y) (q : binWp op x y H Q) :
    wpAny (model prog w) A (binaryOp (opOf op) u v) (Post G (Rep G) s α H Q) E s := by
  cases op
  · cases x <;> first | exact False.elim q | skip
    · cases y <;> first | exact False.elim q | skip
      obtain ⟨t, rfl⟩ := ru.int_inv
      obtain ⟨t', rfl⟩ := rv.int_inv
      exact add_int (Post.same R (.int _ _) q _)
    · cases y <;> first | exact False.elim q | skip
      obtain ⟨a, rfl, e1⟩ := ru.lst_inv
      obtain ⟨b, rfl, e2⟩ := rv.lst_inv
      obtain ⟨xs, h1, q⟩ := ifSome.get q
      obtain ⟨ys, h2, hz, q⟩ := ifSome.get q
      obtain ⟨vs, l1, r1, z1, z1'⟩ := R.getList e1 h1
      obtain ⟨ws, l2, r2, z2, z2'⟩ := R.getList e2 h2
      have hlen : vs.length + ws.length ≤ lim := by rw [r1.len, r2.len]; exact hz
      exact add_lists' l1 l2 (Nat.le_trans hlen lim_le) (Post.newLst' R (r1.append r2) (by rw [List.length_append]; exact hz) q s.toks)
  · cases x <;> first | exact False.elim q | skip
    cases y <;> first | exact False.elim q | skip
    obtain ⟨t, rfl⟩ := ru.int_inv
    obtain ⟨t', rfl⟩ := rv.int_inv
    exact sub_int (Post.same R (.int _ _) q _)
  · cases x <;> first | exact False.elim q | skip
    · cases y <;> first | exact False.elim q | skip
      obtain ⟨t, rfl⟩ := ru.int_inv
      obtain ⟨t', rfl⟩ := rv.int_inv
      exact mul_int (Post.same R (.int _ _) q.2 _) q.1
    · cases y <;> first | exact False.elim q | skip
      rename_i k
      obtain ⟨a, rfl, e1⟩ := ru.lst_inv
      obtain ⟨t', rfl⟩ := rv.int_inv
      obtain ⟨x, h1, h0, hk, q⟩ := q
      obtain ⟨vs, l1, r1, z1, z1'⟩ := R.getList e1 h1
      obtain ⟨v, rfl, rx⟩ := r1.one_inv
      have hk' : k.toNat ≤ lim := by have h2 : k ≤ 1000000 := hk; show _ ≤ 1000000; (clear hP R e1 ru rv h1 hk q z1 rx l1 r1 z1'; omega)
      exact mul_list' l1 h0 hk (Post.newLst' R (Reps.replicate rx k.toNat) (by rw [List.length_replicate]; exact hk') q s.toks)
  · cases x <;> first | exact False.elim q | skip
    cases y <;> first | exact False.elim q | skip
    rename_i i j
    obtain ⟨t, rfl⟩ := ru.int_inv
    obtain ⟨t', rfl⟩ := rv.int_inv
    replace q : DivOk j ∧ Q (.int (i.fdiv j)) H := q
    exact floordiv_int q.1 (Post.same R (.int _ _) q.2 _) (Or.inr hP)
  · cases x <;> first | exact False.elim q | skip
    cases y <;> first | exact False.elim q | skip
    obtain ⟨t, rfl⟩ := ru.int_inv
    obtain ⟨t', rfl⟩ := rv.int_inv
    exact mod_int' q.1 (Post.same R (.int _ _) q.2 _)
  · cases x <;> first | exact False.elim q | skip
    cases y <;> first | exact False.elim q | skip
    obtain ⟨t, rfl⟩ := ru.int_inv
    obtain ⟨t', rfl⟩ := rv.int_inv
    exact pow_int_small q.1 (by have := q.2.1; (clear hP R q ru rv; omega)) q.2.2.1 (Post.same R (.int _ _) q.2.2.2 _)

/-! data -/
theorem map_of {β γ : Type} {f : β → γ} {o : Option β} {c : γ} (h : o.map f = some c) : ∃ b, o = some b ∧ f b = c := by
  cases o with
  | none => cases h
  | some b => cases h; exact ⟨b, rfl, rfl⟩
end
end Mine

set_option autoImplicit false
set_option linter.unusedSimpArgs false
set_option linter.unusedVariables false
namespace Mine
open PySem PyProof.Rows PySem.Calls

section
variable {prog : Program} {w : World} {A : Around} {E : Value → Shared → Prop} {s : Shared} {G : GV} {α : List Addr} {H : Hp} {Q : V → Hp → Prop}

theorem cmp_sound {op : COp} {u v : Value} {x y : V} (hA : AOk prog A) (R : HR G α s.heap H) (ru : Rep G α s.heap u x) (rv : Rep G α s.heap v y) (q : cmpWp op x y H Q) :
    wpAny (model prog w) A (compareOp (cmpOf op) u v) (Post G (Rep G) s α H Q) E s := by
  have hu := hA.units
  cases op
  · cases x <;> first | exact False.elim q | skip
    cases y <;> first | exact False.elim q | skip
    obtain ⟨t, rfl⟩ := ru.int_inv
    obtain ⟨t', rfl⟩ := rv.int_inv
    exact lt_int (Post.same' R (.bool _) q)
  · cases x <;> first | exact False.elim q | skip
    cases y <;> first | exact False.elim q | skip
    obtain ⟨t, rfl⟩ := ru.int_inv
    obtain ⟨t', rfl⟩ := rv.int_inv
    exact le_int (Post.same' R (.bool _) q)
  · cases x <;> first | exact False.elim q | skip
    cases y <;> first | exact False.elim q | skip
    obtain ⟨t, rfl⟩ := ru.int_inv
    obtain ⟨t', rfl⟩ := rv.int_inv
    exact gt_int (Post.same' R (.bool _) q)
  · cases x <;> first | exact False.elim q | skip
    cases y <;> first | exact False.elim q | skip
    obtain ⟨t, rfl⟩ := ru.int_inv
    obtain ⟨t', rfl⟩ := rv.int_inv
    exact ge_int (Post.same' R (.bool _) q)
  · cases x <;> first | exact False.elim q | skip
    cases y <;> first | exact False.elim q | skip
    obtain ⟨t, rfl⟩ := ru.int_inv
    obtain ⟨t', rfl⟩ := rv.int_inv
    exact eq_int (Post.same' R (.bool _) q)
  · cases x <;> first | exact False.elim q | skip
    cases y <;> first | exact False.elim q | skip
    obtain ⟨t, rfl⟩ := ru.int_inv
    obtain ⟨t', rfl⟩ := rv.int_inv
    exact ne_int (Post.same' R (.bool _) q)
  · exact False.elim q
  · exact False.elim q
  · cases y <;> first | exact False.elim q | skip
    cases rv.none_inv
    refine is_none (Post.same' R (.bool _) ?_)
    cases ru <;> exact q

theorem truth_sound {u : Value} {x : V} {t : Bool} {Z : Bool → Shared → Prop} (R : HR G α s.heap H) (ru : Rep G α s.heap u x) (e : truthV H x = some t) (h : ∀ tk, Z t { s with toks := tk }) :
    wpAny (model prog w) A (truthy u) Z E s := by
  cases ru with
  | int i tk => cases e; exact truthy_int (h s.toks)
  | bool b => cases e; exact wpAny_truthy_bool (h s.toks)
  | none => cases e; exact fun _ _ _ => h s.toks
  | str z tk => cases e
  | tup ht q z =>
    cases e
    have hl := q.len
    refine truthy_tuple ht (by have : _ ≤ 1000000 := z; simp; (clear R ht q z h; omega)) ?_
    rename_i vs xs
    have : (!vs.toArray.isEmpty) = !xs.isEmpty := by cases q <;> simp
    rw [this]; exact h _
  | lst ha =>
    obtain ⟨xs, hx, rfl⟩ := map_of e
    obtain ⟨vs, l, q, z, z'⟩ := R.getList ha hx
    refine wpAny_truthy_list l (by have : _ ≤ 1000000 := z'; simp; (clear R ha hx h l q z z'; omega)) ?_
    have : (!vs.toArray.isEmpty) = !xs.isEmpty := by cases q <;> simp
    rw [this]; exact h _
  | fn _ => cases e
end
end Mine

set_option autoImplicit false
set_option linter.unusedSimpArgs false
set_option linter.unusedVariables false
namespace Mine
open PySem PyProof.Rows PySem.Calls

noncomputable def SC (X : SX) (c : MC) (pe : PE) (e : Expr) : Prop :=
  ∀ (env : Env) (s : Shared) (α : List Addr) (ρ : Loc) (H : Hp) (Q : Bool → Hp → Prop) (E : Value → Shared → Prop), EnvOk c env → GF X.G c.g X.DT s.heap → HR X.G α s.heap H → FI X.G c env α s.heap ρ →
    wpE X.sub X.Φ pe ρ H (fun v H' => ifSome (truthV H' v) fun t => Q t H') → wpAny (model X.prog X.w) X.A (isTrue e env (eval e env)) (Post X.G (fun _ _ a b => a = b) s α H Q) E s

noncomputable def PlainTest (e : Expr) : Prop := ∀ (env : Env) (whole : Sem Value), isTrue e env whole = (do let v ← whole; standAt e.pos; holding [v] (truthy v))

section
variable {X : SX} {c : MC}

theorem sc_of_se {pe : PE} {e : Expr} (h : SE X c pe e) (he : PlainTest e) : SC X c pe e := fun env s α ρ H Q E O T R F q => by
  refine wpAny_isTrue_value (wpAny_mono (h env s α ρ H _ E O T R F q) (fun v s₁ p => ?_) fun _ _ x => x) (he env _)
  obtain ⟨h₁, tk₁, β, K, d, rfl, k, f, R', r, q⟩ := p
  obtain ⟨t, e, q⟩ := ifSome.get q
  exact truth_sound (s := { s with heap := h₁, toks := tk₁ }) R' r e fun tk => ⟨h₁, tk, β, K, t, rfl, k, f, R', rfl, q⟩

theorem se_bin {op : BOp} {a b : PE} {l r : Expr} {pos : Pos} (hA : AOk X.prog X.A) (h1 : SE X c a l) (h2 : SE X c b r) : SE X c (.bin op a b) (.BinOp l (opOf op) r pos) := fun env s α ρ H Q E O T R F q => by
  refine wpAny_BinOp (two h1 h2 O T R F (Q := fun x y H2 => binWp op x y H2 Q) q fun h' tk β K u v x y k f R' ru rv q' => ?_)
  exact wpAny_mono (binOp_sound (s := { s with heap := h', toks := tk }) (hA.py _ _ (T.nolimit.keeps k) (T.seer.keeps k)) R' ru rv q') (fun _ _ p => p.trans k f) fun _ _ x => x

theorem se_neg {a : PE} {l : Expr} {pos : Pos} (h1 : SE X c a l) : SE X c (.neg a) (.UnaryOp .USub l pos) := fun env s α ρ H Q E O T R F q => by
  refine wpAny_UnaryOp (wpAny_mono (h1 env s α ρ H _ E O T R F q) (fun v s₁ p => ?_) fun _ _ x => x)
  refine p.then fun h₁ tk₁ β K d k f R' r q' => ?_
  cases d <;> first | exact q'.elim | skip
  cases r
  exact neg_int (Post.same R' (.int _ _) q' _)

theorem se_nt {a : PE} {l : Expr} {pos : Pos} (h1 : SE X c a l) : SE X c (.nt a) (.UnaryOp .Not l pos) := fun env s α ρ H Q E O T R F q => by
  refine wpAny_UnaryOp (wpAny_mono (h1 env s α ρ H _ E O T R F q) (fun v s₁ p => ?_) fun _ _ x => x)
  refine p.then fun h₁ tk₁ β K d k f R' r q' => ?_
  obtain ⟨t, e, q'⟩ := ifSome.get q'
  exact not_value (truth_sound (s := { s with heap := h₁, toks := tk₁ }) R' r e fun tk => Post.same (s := { s with heap := h₁, toks := tk₁ }) R' (.bool _) q' tk)
theorem sc_nt {a : PE} {l : Expr} {pos : Pos} (h1 : SC X c a l) : SC X c (.nt a) (.UnaryOp .Not l pos) := fun env s α ρ H Q E O T R F q => by
  refine wpAny_isTrue_Not (wpAny_mono (h1 env s α ρ H (fun t => Q (!t)) E O T R F ?_) (fun v s₁ p => ?_) fun _ _ x => x)
  · exact q
  · obtain ⟨h₁, tk₁, β, K, d, rfl, k, f, R', rfl, q'⟩ := p
    exact ⟨h₁, tk₁, β, K, _, rfl, k, f, R', rfl, q'⟩

theorem se_cmp {op : COp} {a b : PE} {l r : Expr} {pos : Pos} (hA : AOk X.prog X.A) (hm : behindInMarks (cmpOf op) r = false) (h1 : SE X c a l) (h2 : SE X c b r) : SE X c (.cmp op a b) (.Compare l [cmpOf op] [r] pos) := fun env s α ρ H Q E O T R F q => by
  refine wpAny_Compare1 (two h1 h2 O T R F (Q := fun x y H2 => cmpWp op x y H2 Q) q fun h' tk β K u v x y k f R' ru rv q' => ?_) hm
  exact wpAny_mono (cmp_sound (s := { s with heap := h', toks := tk }) hA R' ru rv q') (fun _ _ p => p.trans k f) fun _ _ x => x
theorem sc_cmp {op : COp} {a b : PE} {l r : Expr} {pos : Pos} (hA : AOk X.prog X.A) (hm : behindInMarks (cmpOf op) r = false) (h1 : SE X c a l) (h2 : SE X c b r) : SC X c (.cmp op a b) (.Compare l [cmpOf op] [r] pos) := fun env s α ρ H Q E O T R F q => by
  refine wpAny_isTrue_Compare1 (two h1 h2 O T R F (Q := fun x y H2 => cmpWp op x y H2 _) q fun h' tk β K u v x y k f R' ru rv q' => ?_) hm
  refine wpAny_mono (cmp_sound (s := { s with heap := h', toks := tk }) hA R' ru rv q') (fun v s₁ p => ?_) fun _ _ x => x
  obtain ⟨h₂, tk₂, β₂, K₂, d, rfl, k₂, f₂, R₂, r₂, q₂⟩ := p
  obtain ⟨t, e, q₂⟩ := ifSome.get q₂
  refine truth_sound (s := { s with heap := h₂, toks := tk₂ }) R₂ r₂ e fun tk' => ?_
  exact Post.trans (tk₁ := tk) k f ⟨h₂, tk', β₂, K₂, t, rfl, k₂, f₂, R₂, rfl, q₂⟩

/-! and, or -/
noncomputable def SAll (X : SX) (c : MC) (b : Bool) (ps : PEs) (es : List Expr) : Prop :=
  ∀ (env : Env) (s : Shared) (α : List Addr) (ρ : Loc) (H : Hp) (Q : V → Hp → Prop) (E : Value → Shared → Prop) (pos : Pos), EnvOk c env → GF X.G c.g X.DT s.heap → HR X.G α s.heap H → FI X.G c env α s.heap ρ →
    wpAll X.sub X.Φ b ps ρ H Q → wpAny (model X.prog X.w) X.A (boolOp pos (if b then .And else .Or) (evalEach es env)) (Post X.G (Rep X.G) s α H Q) E s
noncomputable def SAllC (X : SX) (c : MC) (b : Bool) (ps : PEs) (es : List Expr) : Prop :=
  ∀ (env : Env) (s : Shared) (α : List Addr) (ρ : Loc) (H : Hp) (Q : Bool → Hp → Prop) (E : Value → Shared → Prop), EnvOk c env → GF X.G c.g X.DT s.heap → HR X.G α s.heap H → FI X.G c env α s.heap ρ →
    wpAll X.sub X.Φ b ps ρ H (fun v H' => ifSome (truthV H' v) fun t => Q t H') → wpAny (model X.prog X.w) X.A (allTrue (if b then .And else .Or) es env) (Post X.G (fun _ _ a b => a = b) s α H Q) E s

theorem sall_nil {b : Bool} : SAll X c b .nil [] := fun env s α ρ H Q E pos O T R F q => (by simp [wpAll] at q)
theorem sallc_nil {b : Bool} : SAllC X c b .nil [] := fun env s α ρ H Q E O T R F q => (by simp [wpAll] at q)
theorem sall_one {b : Bool} {a : PE} {e : Expr} (h : SE X c a e) : SAll X c b (.cons a .nil) [e] := fun env s α ρ H Q E pos O T R F q => by
  simp only [wpAll] at q
  cases b <;> exact h env s α ρ H Q E O T R F q
theorem sall_cons {b : Bool} {a a2 : PE} {r : PEs} {e e2 : Expr} {es : List Expr} (h1 : SE X c a e) (h2 : SAll X c b (.cons a2 r) (e2 :: es)) : SAll X c b (.cons a (.cons a2 r)) (e :: e2 :: es) := fun env s α ρ H Q E pos O T R F q => by
  simp only [wpAll] at q
  have key : wpAny (model X.prog X.w) X.A (eval e env >>= fun v => do
      standAt pos
      let t ← holding [v] (truthy v)
      match (if b then BoolOp.And else BoolOp.Or), t with
      | .And, false | .Or, true => pure v
      | _, _ => boolOp pos (if b then .And else .Or) (evalEach (e2 :: es) env)) (Post X.G (Rep X.G) s α H Q) E s := by
    refine wpAny_bind (wpAny_mono (h1 env s α ρ H _ E O T R F q) (fun v s₁ p => ?_) fun _ _ x => x)
    refine p.then fun h₁ tk₁ β K d k f R' rr q' => ?_
    obtain ⟨t, e, q'⟩ := ifSome.get q'
    refine wpAny_bind (wpAny_standAt (wpAny_bind (wpAny_holding (truth_sound (s := { s with heap := h₁, toks := tk₁ }) R' rr e fun tk => ?_))))
    have step : wpAny (model X.prog X.w) X.A (boolOp pos (if b then .And else .Or) (evalEach (e2 :: es) env)) (Post X.G (Rep X.G) { s with heap := h₁, toks := tk } (α ++ β) (H ++ K) Q) E { s with heap := h₁, toks := tk } →
        wpAny (model X.prog X.w) X.A (boolOp pos (if b then .And else .Or) (evalEach (e2 :: es) env)) (Post X.G (Rep X.G) { s with heap := h₁, toks := tk₁ } (α ++ β) (H ++ K) Q) E { s with heap := h₁, toks := tk } := fun h =>
      wpAny_mono h (fun _ _ ⟨h', tk', β', K', d', e', a', b', c', r', q''⟩ => ⟨h', tk', β', K', d', e', a', b', c', r', q''⟩) fun _ _ x => x
    cases b <;> cases t <;> simp only [Bool.false_eq_true, Bool.true_eq_false, if_true, if_false] at q' ⊢
    · exact step (h2 env { s with heap := h₁, toks := tk } (α ++ β) ρ (H ++ K) Q E pos O (T.keeps k) R' (F.up k) q')
    · exact wpAny_pure (Post.same (s := { s with heap := h₁, toks := tk₁ }) R' rr q' tk)
    · exact wpAny_pure (Post.same (s := { s with heap := h₁, toks := tk₁ }) R' rr q' tk)
    · exact step (h2 env { s with heap := h₁, toks := tk } (α ++ β) ρ (H ++ K) Q E pos O (T.keeps k) R' (F.up k) q')
  exact key
theorem sallc_one {b : Bool} {a : PE} {e : Expr} (h : SC X c a e) : SAllC X c b (.cons a .nil) [e] := fun env s α ρ H Q E O T R F q => by
  simp only [wpAll] at q
  cases b
  · refine wpAny_allTrue_Or_cons (wpAny_mono (h env s α ρ H Q E O T R F q) (fun v s₁ p => ?_) fun _ _ x => x)
    cases v
    · exact wpAny_allTrue_Or_nil p
    · exact p
  · refine wpAny_allTrue_And_cons (wpAny_mono (h env s α ρ H Q E O T R F q) (fun v s₁ p => ?_) fun _ _ x => x)
    cases v
    · exact p
    · exact wpAny_allTrue_And_nil p
theorem sallc_cons {b : Bool} {a a2 : PE} {r : PEs} {e e2 : Expr} {es : List Expr} (h1 : SC X c a e) (h2 : SAllC X c b (.cons a2 r) (e2 :: es)) : SAllC X c b (.cons a (.cons a2 r)) (e :: e2 :: es) := fun env s α ρ H Q E O T R F q => by
  simp only [wpAll] at q
  have e0 : (fun (v : V) (H1 : Hp) => ifSome (truthV H1 v) fun t => if t = b then wpAll X.sub X.Φ b (.cons a2 r) ρ H1 (fun v H' => ifSome (truthV H' v) fun t => Q t H') else ifSome (truthV H1 v) fun t => Q t H1) =
      fun v H1 => ifSome (truthV H1 v) fun t => if t = b then wpAll X.sub X.Φ b (.cons a2 r) ρ H1 (fun v H' => ifSome (truthV H' v) fun t => Q t H') else Q t H1 := by
    funext v H1
    generalize truthV H1 v = o
    cases o <;> rfl
  rw [e0] at q
  have h := h1 env s α ρ H _ E O T R F q
  cases b
  · refine wpAny_allTrue_Or_cons (wpAny_mono h (fun v s₁ p => ?_) fun _ _ x => x)
    cases v
    · simp only [Bool.false_eq_true, if_false]
      refine p.then fun h₁ tk₁ β K d k f R' rr q' => ?_
      subst rr
      simp only [if_true] at q'
      exact h2 env { s with heap := h₁, toks := tk₁ } (α ++ β) ρ (H ++ K) Q E O (T.keeps k) R' (F.up k) q'
    · obtain ⟨h', tk', β', K', d', e', k', f', R', rfl, q'⟩ := p
      exact ⟨h', tk', β', K', _, e', k', f', R', rfl, q'⟩
  · refine wpAny_allTrue_And_cons (wpAny_mono h (fun v s₁ p => ?_) fun _ _ x => x)
    cases v
    · obtain ⟨h', tk', β', K', d', e', k', f', R', rfl, q'⟩ := p
      exact ⟨h', tk', β', K', _, e', k', f', R', rfl, q'⟩
    · simp only [if_true]
      refine p.then fun h₁ tk₁ β K d k f R' rr q' => ?_
      subst rr
      simp only [if_true] at q'
      exact h2 env { s with heap := h₁, toks := tk₁ } (α ++ β) ρ (H ++ K) Q E O (T.keeps k) R' (F.up k) q'
theorem se_and {ps : PEs} {es : List Expr} {pos : Pos} (h : SAll X c true ps es) : SE X c (.and ps) (.BoolOp .And es pos) := fun env s α ρ H Q E O T R F q => by
  rw [arm_eval_BoolOp]; exact h env s α ρ H Q E pos O T R F (by simpa only [qE1, qE2, qE5, qE7, qE8, qE9, qE10, qE11, qE12, qE13, qE14, qE15, qE16, qE17, qE18, qE19, qE20, qE21, qE22] using q)
theorem se_or {ps : PEs} {es : List Expr} {pos : Pos} (h : SAll X c false ps es) : SE X c (.or ps) (.BoolOp .Or es pos) := fun env s α ρ H Q E O T R F q => by
  rw [arm_eval_BoolOp]; exact h env s α ρ H Q E pos O T R F (by simpa only [qE1, qE2, qE5, qE7, qE8, qE9, qE10, qE11, qE12, qE13, qE14, qE15, qE16, qE17, qE18, qE19, qE20, qE21, qE22] using q)
theorem sc_and {ps : PEs} {es : List Expr} {pos : Pos} (h : SAllC X c true ps es) : SC X c (.and ps) (.BoolOp .And es pos) := fun env s α ρ H Q E O T R F q =>
  wpAny_isTrue_BoolOp (h env s α ρ H Q E O T R F (by simpa only [qE1, qE2, qE5, qE7, qE8, qE9, qE10, qE11, qE12, qE13, qE14, qE15, qE16, qE17, qE18, qE19, qE20, qE21, qE22] using q))
theorem sc_or {ps : PEs} {es : List Expr} {pos : Pos} (h : SAllC X c false ps es) : SC X c (.or ps) (.BoolOp .Or es pos) := fun env s α ρ H Q E O T R F q =>
  wpAny_isTrue_BoolOp (h env s α ρ H Q E O T R F (by simpa only [qE1, qE2, qE5, qE7, qE8, qE9, qE10, qE11, qE12, qE13, qE14, qE15, qE16, qE17, qE18, qE19, qE20, qE21, qE22] using q))
end
end Mine

set_option autoImplicit false
set_option linter.unusedSimpArgs false
set_option linter.unusedVariables false
namespace Mine
open PySem PyProof.Rows PySem.Calls

noncomputable def notStar (e : Expr) : Bool := match e with | .Starred .. => false | _ => true
noncomputable def noStar (es : List Expr) : Bool := es.all notStar
theorem starEach_cons {e : Expr} {es : List Expr} {env : Env} (h : notStar e = true) : starEach (e :: es) env = (false, eval e env) :: starEach es env := by
  cases e <;> first | rfl | cases h
theorem star_any {pos : Pos} {env : Env} : ∀ {es : List Expr}, noStar es = true → (backTo pos (starEach es env)).any (·.1) = false
  | [], _ => rfl
  | e :: es, h => by
    simp only [noStar, List.all_cons, Bool.and_eq_true] at h
    rw [starEach_cons h.1]
    show (false || (backTo pos (starEach es env)).any (·.1)) = false
    rw [star_any h.2]; rfl

section
variable {X : SX} {c : MC}

/-- a call of an own def -/
theorem call_fn {f : Nat} {x : Str} {ps : PEs} {e : Expr} {es : List Expr} {pos : Pos} (hΦ : SCall X.prog X.w X.G c.g X.DT X.A X.Φ) (hf : c.g.fns[f]? = some x) (hn : notStar e = true) (h : SEs X c ps (e :: es))
    (env : Env) (s : Shared) (α : List Addr) (ρ : Loc) (H : Hp) (Q : V → Hp → Prop) (E : Value → Shared → Prop) (O : EnvOk c env) (T : GF X.G c.g X.DT s.heap) (R : HR X.G α s.heap H) (F : FI X.G c env α s.heap ρ)
    (q : wpEs X.sub X.Φ ps ρ H fun vs H1 => X.Φ f vs H1 Q fun _ _ => False) :
    wpAny (model X.prog X.w) X.A (callWith pos (.ref (X.G.fa f)) [] (backTo pos (starEach (e :: es) env)) []) (Post X.G (Rep X.G) s α H Q) E s := by
  obtain ⟨_, d, o, pm, cd, doc, _, _, ho, hd, _⟩ := T.fn f x hf
  refine callWith_def hd (wpAny_mono (h env s α ρ H _ E pos O T R F q) (fun vs s₁ p => ?_) fun _ _ y => y) (starEach_cons hn)
  obtain ⟨h₁, tk₁, β, K, ds, rfl, k, f', R', r, q'⟩ := p
  refine ⟨k _ _ ho, ?_⟩
  exact wpAny_mono (hΦ f x ds (H ++ K) Q hf q' { s with heap := h₁, toks := tk₁ } (α ++ β) vs E (T.keeps k) R' r.1) (fun _ _ p => p.trans k f') fun _ _ y => y

theorem se_call {f : Nat} {x : Str} {ps : PEs} {e : Expr} {es : List Expr} {p pos : Pos} (hΦ : SCall X.prog X.w X.G c.g X.DT X.A X.Φ) (hf : c.g.fns[f]? = some x) (hx : c.isGlob x = true) (hn : notStar e = true) (h : SEs X c ps (e :: es)) :
    SE X c (.call f ps) (.Call (.Name x p) (e :: es) [] pos) := fun env s α ρ H Q E O T R F q =>
  Call_ (load_glob O hx T.g (T.fn f x hf).1 (call_fn hΦ hf hn h env s α ρ H Q E O T R F (by simpa only [qE1, qE2, qE5, qE7, qE8, qE9, qE10, qE11, qE12, qE13, qE14, qE15, qE16, qE17, qE18, qE19, qE20, qE21, qE22] using q)))

theorem bootAbs : bootBuiltins "abs" = some (.builtin "abs") := by boot_by_name
theorem bootLen : bootBuiltins "len" = some (.builtin "len") := by boot_by_name
theorem bootInt : bootBuiltins "int" = some (.type "int") := by boot_by_name
theorem bootList : bootBuiltins "list" = some (.type "list") := by boot_by_name
theorem bootTuple : bootBuiltins "tuple" = some (.type "tuple") := by boot_by_name
theorem bootMin : bootBuiltins "min" = some (.builtin "min") := by boot_by_name
theorem bootIsi : bootBuiltins "isinstance" = some (.builtin "isinstance") := by boot_by_name
theorem bootRev : bootBuiltins "reversed" = some (.type "reversed") := by boot_by_name
theorem bootRange : bootBuiltins "range" = some (.type "range") := by boot_by_name
theorem bootBool : bootBuiltins "bool" = some (.type "bool") := by boot_by_name

/-- a built-in's name -/
theorem load_b {x : Str} {v : Value} {pos : Pos} {env : Env} {s : Shared} {Q : Value → Shared → Prop} {E : Value → Shared → Prop} (hb : bootBuiltins x = some v) (hm : x ∈ bltNames) (hx : c.isGlob x = true) (O : EnvOk c env) (T : GF X.G c.g X.DT s.heap) (h : Q v s) :
    wpAny (model X.prog X.w) X.A (eval (.Name x pos) env) Q E s :=
  load_blt O hx T.g (T.blt x hm).1 T.b ((T.blt x hm).2.trans hb) h

/-- a call of a built-in function -/
theorem call_b {x : Str} {id : String} {ps : PEs} {e : Expr} {es : List Expr} {p pos : Pos} {env : Env} {s : Shared} {α : List Addr} {ρ : Loc} {H : Hp} {Q : V → Hp → Prop} {Q1 : List V → Hp → Prop} {E : Value → Shared → Prop}
    (hb : bootBuiltins x = some (.builtin id)) (hm : x ∈ bltNames) (hx : c.isGlob x = true) (hn : noStar (e :: es) = true) (h : SEs X c ps (e :: es)) (O : EnvOk c env) (T : GF X.G c.g X.DT s.heap) (R : HR X.G α s.heap H) (F : FI X.G c env α s.heap ρ)
    (q : wpEs X.sub X.Φ ps ρ H Q1)
    (hz : ∀ h' tk β K vs ds, KeepsH s.heap h' → HR X.G (α ++ β) h' (H ++ K) → Reps X.G (α ++ β) h' vs ds → Q1 ds (H ++ K) →
      wpAny (model X.prog X.w) X.A (call (.builtin id) vs) (Post X.G (Rep X.G) { s with heap := h', toks := tk } (α ++ β) (H ++ K) Q) E { s with heap := h', toks := tk }) :
    wpAny (model X.prog X.w) X.A (eval (.Call (.Name x p) (e :: es) [] pos) env) (Post X.G (Rep X.G) s α H Q) E s := by
  simp only [noStar, List.all_cons, Bool.and_eq_true] at hn
  refine Call_ (load_b hb hm hx O T (callWith_builtin1 (wpAny_mono (h env s α ρ H _ E pos O T R F q) (fun vs s₁ p => ?_) fun _ _ y => y) (starEach_cons hn.1) (star_any hn.2)))
  exact p.then fun h₁ tk₁ β K d k f R' r q' => hz h₁ tk₁ β K vs d k R' r.1 q'
theorem call_t {x : Str} {id : String} {ps : PEs} {e : Expr} {es : List Expr} {p pos : Pos} {env : Env} {s : Shared} {α : List Addr} {ρ : Loc} {H : Hp} {Q : V → Hp → Prop} {Q1 : List V → Hp → Prop} {E : Value → Shared → Prop}
    (hb : bootBuiltins x = some (.type id)) (hm : x ∈ bltNames) (hx : c.isGlob x = true) (hn : noStar (e :: es) = true) (h : SEs X c ps (e :: es)) (O : EnvOk c env) (T : GF X.G c.g X.DT s.heap) (R : HR X.G α s.heap H) (F : FI X.G c env α s.heap ρ)
    (q : wpEs X.sub X.Φ ps ρ H Q1)
    (hz : ∀ h' tk β K vs ds, KeepsH s.heap h' → HR X.G (α ++ β) h' (H ++ K) → Reps X.G (α ++ β) h' vs ds → Q1 ds (H ++ K) →
      wpAny (model X.prog X.w) X.A (call (.type id) vs) (Post X.G (Rep X.G) { s with heap := h', toks := tk } (α ++ β) (H ++ K) Q) E { s with heap := h', toks := tk }) :
    wpAny (model X.prog X.w) X.A (eval (.Call (.Name x p) (e :: es) [] pos) env) (Post X.G (Rep X.G) s α H Q) E s := by
  simp only [noStar, List.all_cons, Bool.and_eq_true] at hn
  refine Call_ (load_b hb hm hx O T (callWith_type1 (wpAny_mono (h env s α ρ H _ E pos O T R F q) (fun vs s₁ p => ?_) fun _ _ y => y) (starEach_cons hn.1) (star_any hn.2)))
  exact p.then fun h₁ tk₁ β K d k f R' r q' => hz h₁ tk₁ β K vs d k R' r.1 q'
end
end Mine

set_option autoImplicit false
namespace Mine
open PySem PyProof PyProof.Rows

section
variable {prog : Program} {w : World} {A : Around} {E : Value → Shared → Prop} {s : Shared}

end
end Mine

set_option autoImplicit false
set_option linter.unusedSimpArgs false
set_option linter.unusedVariables false
namespace Mine
open PySem PyProof.Rows PySem.Calls

section
variable {prog : Program} {w : World} {A : Around} {E : Value → Shared → Prop} {s : Shared} {G : GV} {α : List Addr} {H : Hp} {Q : V → Hp → Prop}

/-- list(x) -/
theorem list_of {v : Value} {d : V} {xs : List V} (R : HR G α s.heap H) (r : Rep G α s.heap v d) (e : items H d = some xs) (q : Q (.lst H.length) (H ++ [xs])) :
    wpAny (model prog w) A (call (.type "list") [v]) (Post G (Rep G) s α H Q) E s := by
  obtain ⟨a, vs, rfl, rs, z, z', hk⟩ := seqOf R r e
  have hsz : vs.toArray.size ≤ sizeLine := by rw [List.size_toArray]; exact Nat.le_trans z' lim_le
  have go : ∀ h' c', KeepsH s.heap h' → h'.get? s.heap.objs.size = some { cls := .type "list", dict := none, data := .seq vs.toArray c', slots := #[] } → Post G (Rep G) s α H Q (.ref s.heap.objs.size) { s with heap := h' } := fun h' c' k hg =>
    Post.newLst R k (rs.mono (fun _ _ e => e) (.of k)) z q (size_none _) ⟨c', hg⟩ s.toks
  rcases hk with ⟨⟨o, ho, hc, n, hd⟩, _⟩ | ⟨⟨o, ho, hc, n, hd⟩, _⟩
  · exact call_list_seq a (.inr rfl) ho hc hd go hsz
  · exact call_list_seq a (.inl rfl) ho hc hd go hsz
/-- tuple(x) -/
theorem tuple_of {v : Value} {d : V} {xs : List V} (R : HR G α s.heap H) (r : Rep G α s.heap v d) (e : items H d = some xs) (q : Q (.tup xs) H) :
    wpAny (model prog w) A (call (.type "tuple") [v]) (Post G (Rep G) s α H Q) E s := by
  obtain ⟨a, vs, rfl, rs, z, z', hk⟩ := seqOf R r e
  have hsz : vs.toArray.size ≤ sizeLine := by rw [List.size_toArray]; exact Nat.le_trans z' lim_le
  rcases hk with ⟨ht, ys, rfl⟩ | ⟨hl, n, rfl⟩
  · cases e
    exact call_tuple_tup ht (Post.same' R r q)
  · refine call_tuple_list hl (fun h' k => ?_) hsz
    have k2 : KeepsH s.heap (h'.push { cls := .type "tuple", data := .seq vs.toArray }) := KeepsH.trans k (keeps_push _ _)
    refine ⟨_, s.toks, [], [], .tup xs, rfl, k2, by simp, by simpa using R.keeps k2, ?_, by simpa using q⟩
    exact Rep.tup (vs := vs) ⟨_, Heap.get?_push_size _ rfl, rfl, _, rfl⟩ (rs.up k2) z
/-- len(x) -/
theorem len_of {v : Value} {d : V} {xs : List V} (R : HR G α s.heap H) (r : Rep G α s.heap v d) (e : items H d = some xs) (q : Q (.int xs.length) H) :
    wpAny (model prog w) A (call (.builtin "len") [v]) (Post G (Rep G) s α H Q) E s := by
  obtain ⟨a, vs, rfl, rs, z, z', hk⟩ := seqOf R r e
  have hz : (vs.toArray.size : Int) < 2 ^ 63 := by have : vs.length ≤ 1000000 := z'; simp; (clear R e q r rs z z' hk; omega)
  have hl : ((vs.toArray.size : Nat) : Int) = xs.length := by simp [rs.len]
  rcases hk with ⟨ht, _⟩ | ⟨hl', _⟩
  · exact len_tuple ht hz (by rw [hl]; exact Post.same R (.int _ _) q _)
  · exact len_list hl' hz (by rw [hl]; exact Post.same R (.int _ _) q _)

theorem bi_sound {b : Bi} {vs : List Value} {ds : List V} (hA : AOk prog A) (R : HR G α s.heap H) (r : Reps G α s.heap vs ds) (q : biWp b ds H Q) :
    match b with
    | .abs => wpAny (model prog w) A (call (.builtin "abs") vs) (Post G (Rep G) s α H Q) E s
    | .len => wpAny (model prog w) A (call (.builtin "len") vs) (Post G (Rep G) s α H Q) E s
    | .int => wpAny (model prog w) A (call (.type "int") vs) (Post G (Rep G) s α H Q) E s
    | .list => wpAny (model prog w) A (call (.type "list") vs) (Post G (Rep G) s α H Q) E s
    | .tuple => wpAny (model prog w) A (call (.type "tuple") vs) (Post G (Rep G) s α H Q) E s
    | .min => wpAny (model prog w) A (call (.builtin "min") vs) (Post G (Rep G) s α H Q) E s
    | .listrev => True := by
  cases b
  · rcases ds with _ | ⟨d, _ | ⟨_, _⟩⟩ <;> first | exact False.elim q | skip
    · cases d <;> first | exact False.elim q | skip
      obtain ⟨v, rfl, a⟩ := r.one_inv
      obtain ⟨t, rfl⟩ := a.int_inv
      exact call_abs_int fun u tk => Post.same R (.int _ _) q tk
    · cases d <;> exact False.elim q
  · rcases ds with _ | ⟨d, _ | ⟨_, _⟩⟩ <;> first | exact False.elim q | skip
    obtain ⟨v, rfl, a⟩ := r.one_inv
    obtain ⟨xs, e, q⟩ := ifSome.get q; exact len_of R a e q
  · rcases ds with _ | ⟨d, _ | ⟨_, _⟩⟩ <;> first | exact False.elim q | skip
    · cases d <;> first | exact False.elim q | skip
      obtain ⟨v, rfl, a⟩ := r.one_inv
      cases a.bool_inv
      exact call_int_bool (Post.same R (.int _ _) q _)
    · cases d <;> exact False.elim q
  · rcases ds with _ | ⟨d, _ | ⟨_, _⟩⟩ <;> first | exact False.elim q | skip
    obtain ⟨v, rfl, a⟩ := r.one_inv
    obtain ⟨xs, e, q⟩ := ifSome.get q; exact list_of R a e q
  · rcases ds with _ | ⟨d, _ | ⟨_, _⟩⟩ <;> first | exact False.elim q | skip
    obtain ⟨v, rfl, a⟩ := r.one_inv
    obtain ⟨xs, e, q⟩ := ifSome.get q; exact tuple_of R a e q
  · rcases ds with _ | ⟨d, _ | ⟨d', _ | ⟨_, _⟩⟩⟩ <;> first | exact False.elim q | (cases d <;> first | exact False.elim q | skip)
    all_goals (cases d' <;> first | exact False.elim q | skip)
    obtain ⟨v, v', rfl, a, a'⟩ := r.two_inv
    obtain ⟨tx, rfl⟩ := a.int_inv
    obtain ⟨ty, rfl⟩ := a'.int_inv
    rename_i x y
    refine min_two_ints hA.handled fun h' tk k => ?_
    have : (if y < x then Value.int y ty else Value.int x tx) = Value.int (if y < x then y else x) (if y < x then ty else tx) := by split <;> rfl
    rw [this]
    exact ⟨h', tk, [], [], _, rfl, k, List.forall_mem_nil _, by rw [List.append_nil, List.append_nil]; exact R.keeps k, .int _ _, by rw [List.append_nil]; exact q⟩
  · trivial

theorem place_spec {n i : Nat} {k : Int} (h : place n k = some i) : i < n ∧ ((0 ≤ k ∧ k = i) ∨ (k < 0 ∧ k + n = i)) := by
  unfold place at h
  split at h
  · split at h
    · cases h; omega
    · cases h
  · split at h
    · cases h; omega
    · cases h
theorem place_seq {n i : Nat} {k : Int} (h : place n k = some i) : seqIndex? k n = some i := by
  obtain ⟨h1, h2⟩ := place_spec h
  unfold seqIndex?
  rcases h2 with ⟨h0, h2⟩ | ⟨h0, h2⟩
  · have : ¬ k < 0 := by (clear h h1 h2; omega)
    simp only [this, if_false, Bool.and_eq_true, decide_eq_true_eq]
    rw [if_pos ⟨h0, by (clear h h0 this; omega)⟩]; congr 1; (clear h h1 this; omega)
  · simp only [h0, if_true, Bool.and_eq_true, decide_eq_true_eq]
    rw [if_pos ⟨by (clear h h1 h0; omega), by (clear h h0; omega)⟩]; congr 1; (clear h h1 h0; omega)

/-- x[k] -/
theorem idx_sound {value slice : Expr} {u v : Value} {x y : V} (hs : ∀ o i, subscripted slice false o i = operate [o, i] (getItem o i)) (R : HR G α s.heap H) (ru : Rep G α s.heap u x) (rv : Rep G α s.heap v y) (q : idxWp x y H Q) :
    wpAny (model prog w) A (subscriptTail value slice u v) (Post G (Rep G) s α H Q) E s := by
  cases rv with
  | int k t =>
    · obtain ⟨xs, e, q⟩ := ifSome.get q
      obtain ⟨i, hp, q⟩ := ifSome.get q
      obtain ⟨d, hd, q⟩ := ifSome.get q
      obtain ⟨a, vs, rfl, rs, z, z', hk⟩ := seqOf R ru e
      obtain ⟨val, hval, rd⟩ := rs.get hd
      have hz : vs.length ≤ 1000000 := z'
      have hlen := rs.len
      rw [← hlen] at hp
      obtain ⟨h1, h2⟩ := place_spec hp
      have hval' : vs.toArray[i]? = some val := by simpa using hval
      have b1 : -(2 ^ 63) ≤ k := by (clear hs R e hd q hp ru rs z z' hk hval rd hlen h1 hval'; omega)
      have b2 : k < 2 ^ 63 := by (clear hs R e hd q hp ru rs z z' hk hval rd hlen hval' b1; omega)
      rcases hk with ⟨ht, _⟩ | ⟨hl, _⟩
      · exact item_tupleT (j := i) ht b1 b2 (place_seq hp) hval (Post.same' R rd q) (hs _ _)
      · rcases h2 with ⟨h0, h2⟩ | ⟨h0, h2⟩
        · exact tail_any hl.typeIs slot_list_getitem.lookup (wpAny_getItem_list hl h0 b2 (by rw [show k.toNat = i by (clear hs R e hd q hp ru rs z z' hval rd hz hlen h1 hval' hl; omega)]; exact hval') (Post.same' R rd q)) (hs _ _)
        · refine tail_any hl.typeIs slot_list_getitem.lookup (wpAny_getItem_list_neg hl h0 (by simp; (clear hs R e hd q hp ru rs z z' hval rd hz hlen h1 hval' b1 b2 hl h0; omega)) b1 ?_ (Post.same' R rd q)) (hs _ _)
          rw [show (k + (vs.toArray.size : Int)).toNat = i by simp; (clear hs R e hd q hp ru rs z z' hval rd hlen h1 hval' hl; omega)]; exact hval'
  | _ => exact False.elim q

theorem clip_eq (n : Nat) (k : Int) : clipAt n k = clampAt n k := rfl

/-- x[lo:hi] -/
theorem slc_sound {value slice : Expr} {u l h : Value} {x : V} {lo hi : Option V} {sl : Addr} (hs : ∀ o i, subscripted slice false o i = operate [i, o] (getItem o i)) (R : HR G α s.heap H) (ru : Rep G α s.heap u x)
    (hsl : s.heap.IsSliceOf sl l h .none) (rl : (l = .none ∧ lo = none) ∨ ∃ a ta, l = .int a ta ∧ lo = some (.int a)) (rh : (h = .none ∧ hi = none) ∨ ∃ a ta, h = .int a ta ∧ hi = some (.int a)) (q : slcWp x lo hi H Q) :
    wpAny (model prog w) A (subscriptTail value slice u (.ref sl)) (Post G (Rep G) s α H Q) E s := by
  unfold slcWp at q
  split at q
  · rename_i n
    obtain ⟨xs, hx, q⟩ := ifSome.get q
    obtain ⟨p, hc, q⟩ := ifSome.get q
    cases ru with
    | lst ha =>
      obtain ⟨vs, hl, rs, z, z'⟩ := R.getList ha hx
      have hlen := rs.len
      have hsz : vs.toArray.size ≤ sizeLine := by rw [List.size_toArray]; exact Nat.le_trans z' lim_le
      have key : ∀ (lo' hi' : Option Int), IsPart l lo' → IsPart h hi' → ((vs.toArray.toList.drop (lo'.elim 0 (clipAt vs.toArray.size))).take (hi'.elim vs.toArray.size (clipAt vs.toArray.size) - lo'.elim 0 (clipAt vs.toArray.size))) = (vs.take p.2).drop p.1 →
          wpAny (model prog w) A (subscriptTail value slice (.ref _) (.ref sl)) (Post G (Rep G) s α H Q) E s := fun lo' hi' pl ph he => by
        refine tail_any hl.typeIs slot_list_getitem.lookup (wpAny_getItem_list_slice (st := none) hl hsl pl ph .none (by intro e; cases e) ?_ hsz) (hs _ _)
        rw [slicePick_plain, he]
        refine Post.newLst' R ((rs.take p.2).drop p.1) ?_ q s.toks
        rw [List.length_drop, List.length_take]; (clear hs R hsl rl rh hx hc q ha hl rs z hsz pl ph he; omega)
      have dt : ∀ a b : Nat, ((vs.toArray.toList.drop a).take (b - a)) = (vs.take b).drop a := fun a b => by simp [List.drop_take]
      unfold cutAt at hc
      rcases rl with ⟨rfl, rfl⟩ | ⟨a, ta, rfl, rfl⟩ <;> rcases rh with ⟨rfl, rfl⟩ | ⟨b, tb, rfl, rfl⟩ <;> simp only [Option.some.injEq] at hc <;> subst hc
      · refine key none none .none .none ?_
        simp [hlen]
      · refine key none (some b) .none (.int _ _) ?_
        simp [hlen, clip_eq]
      · refine key (some a) none (.int _ _) .none ?_
        rw [dt]; simp [hlen, clip_eq]
      · refine key (some a) (some b) (.int _ _) (.int _ _) ?_
        rw [dt]; simp [hlen, clip_eq]
  · exact q.elim
end
end Mine

set_option autoImplicit false
set_option linter.unusedVariables false
set_option maxRecDepth 100000
namespace Mine
open PySem PyProof.Rows PySem.Calls

theorem owner_rv : Manifest.owners.lookup (String.ofList ['d', 'e', 's', 'r', 'e', 'v', 'e', 'r'].reverse) = some Manifest.sig_reversed := by kernel_rfl
theorem slot_rv_next : Slot "reversed" "__next__" "reversed.__next__" :=
  .of (owner := "reversed") (n := "__next__") (by rw [typeLookup_type, builtinLookup_eq_fast]; kernel_rfl) (by decide +kernel) (by decide +kernel) (by decide +kernel)
    (by first | exact .inl (by decide +kernel) | exact .inr (by decide +kernel)) (by rw [isSubtype_type]; kernel_rfl)
theorem entry_rv_next : entryFor table "reversed.__next__" = some Builtin.«reversed.__next__» := entryFor_of_tree (by kernel_rfl)
theorem args_rv_next_1 (a : Value) : argsOk "reversed.__next__" ⟨[a], []⟩ := by
  unfold argsOk; rw [signature?_of (id := "reversed.__next__") (n := ['_', '_', 't', 'x', 'e', 'n', '_', '_']) (o := ['d', 'e', 's', 'r', 'e', 'v', 'e', 'r']) (by kernel_rfl) owner_rv]; kernel_rfl
theorem slot_rv_iter : Slot "reversed" "__iter__" "reversed.__iter__" :=
  .of (owner := "reversed") (n := "__iter__") (by rw [typeLookup_type, builtinLookup_eq_fast]; kernel_rfl) (by decide +kernel) (by decide +kernel) (by decide +kernel)
    (by first | exact .inl (by decide +kernel) | exact .inr (by decide +kernel)) (by rw [isSubtype_type]; kernel_rfl)
theorem args_rv_iter_1 (a : Value) : argsOk "reversed.__iter__" ⟨[a], []⟩ := by
  unfold argsOk; rw [signature?_of (id := "reversed.__iter__") (n := ['_', '_', 'r', 'e', 't', 'i', '_', '_']) (o := ['d', 'e', 's', 'r', 'e', 'v', 'e', 'r']) (by kernel_rfl) owner_rv]; kernel_rfl
theorem entry_rv_iter : entryFor table "reversed.__iter__" = some Builtin.«dict_keyiterator.__iter__» := by
  first
  | exact entryFor_alias (id' := "dict_keyiterator.__iter__") (by kernel_rfl) (by first | rfl | decide +kernel | (unfold String.splitOn; simp +decide [String.splitOnAux])) (by decide +kernel) (by kernel_rfl)
theorem noRev_tuple : typeLookup (.type "tuple") "__reversed__" = pure none := by rw [typeLookup_type, builtinLookup_eq_fast]; kernel_rfl
theorem sub_tuple_dict : isSubtype (.type "tuple") (.type "dict") = pure false := by rw [isSubtype_type]; kernel_rfl

noncomputable def rvObj (t : Addr) (i : Int) : Obj := { cls := .type "reversed", data := .fields #[.ref t, rawInt i] }
noncomputable def IsRv (h : Heap) (a t : Addr) (i : Int) : Prop := ∃ o, h.get? a = some o ∧ o.cls = .type "reversed" ∧ o.data = .fields #[.ref t, rawInt i]

section
variable {prog : Program} {w : World} {A : Around} {E : Value → Shared → Prop} {s : Shared}
theorem IsRv.typeIs {a t : Addr} {i : Int} (x : IsRv s.heap a t i) : s.TypeIs (.ref a) "reversed" := let ⟨o, ho, hc, _⟩ := x; ⟨o, ho, hc⟩
theorem IsRv.at {h h' : Heap} {a t : Addr} {i : Int} (x : IsRv h a t i) (e : ∀ o, h.get? a = some o → h'.get? a = some o) : IsRv h' a t i := let ⟨o, ho, r⟩ := x; ⟨o, e _ ho, r⟩

theorem rv_iter {it t : Addr} {i : Int} {Q : Value → Shared → Prop} (hit : IsRv s.heap it t i) (h : Q (.ref it) s) : wpAny (model prog w) A (pyIter (.ref it)) Q E s := by
  refine wpAny_pyIter_slot hit.typeIs slot_rv_iter (wpAny_call_entry slot_rv_iter hit.typeIs entry_rv_iter ?_ (args_rv_iter_1 _))
  show wpAny _ _ (ret (.ref it)) _ _ s
  exact wpAny_pure ⟨_, rfl, "reversed", _, hit.typeIs, slot_rv_next.lookup, h⟩

theorem rv_item {it t : Addr} {i : Nat} {items : Array Value} {x : Value} {Q : Option Value → Shared → Prop} (hit : IsRv s.heap it t (i : Int)) (ht : IsTup s.heap t items) (hx : items[i]? = some x) (hsm : (i : Int) < 2 ^ 63)
    (hQ : ∀ h' tk, IsRv h' it t ((i : Int) - 1) → Heap.SameBut it s.heap h' → Q (some x) { s with heap := h', toks := tk }) : wpAny (model prog w) A (pyNext (.ref it)) Q E s := by
  obtain ⟨o, ho, hc, hd⟩ := id hit
  unfold pyNext
  refine wpAny_bind (wpAny_attempt (wpAny_callSpecial?_slot (name := Str.ofString "__next__") hit.typeIs slot_rv_next
    (wpAny_call_entry slot_rv_next hit.typeIs entry_rv_next ?_ (args_rv_next_1 _))))
  unfold Builtin.«reversed.__next__»
  refine wpAny_bind (wpAny_of_eq (a := (Value.ref it, [])) rfl ?_)
  try dsimp only
  refine wpAny_bind (wpAny_field ho hd (x := .ref t) rfl ?_)
  refine wpAny_bind (wpAny_field ho hd (x := rawInt (i : Int)) rfl ?_)
  show wpAny _ _ (if (i : Int) < 0 then _ else _) _ _ s
  rw [if_neg (by (clear hit ht hx hQ ho hc hd; omega))]
  show wpAny _ _ (specialOf (.ref t) "__getitem__" >>= _) _ _ s
  refine wpAny_bind (wpAny_specialOf ht.typeIs slot_tuple_getitem.lookup ?_)
  show wpAny _ _ ((mkInt (i : Int)) >>= _) _ _ s
  refine wpAny_bind (wpAny_mkInt ?_)
  have hj : seqIndex? (i : Int) items.size = some i := by
    have hlt : i < items.size := (Array.getElem?_eq_some_iff.mp hx).1
    unfold seqIndex?
    have : ¬ ((i : Int) < 0) := by (clear hit ht hx hQ ho hc hd hlt; omega)
    simp only [this, if_false, Bool.and_eq_true, decide_eq_true_eq]
    rw [if_pos ⟨by (clear hit ht hx hQ ho hc hd hlt this; omega), by (clear hit ht hx hsm hQ ho hc hd this; omega)⟩]; congr 1
  refine wpAny_bind (wpAny_attempt (getItem_tuple (s := { s with toks := s.toks + 1 }) ht (by (clear hit ht hx hQ ho hc hd hj; omega)) hsm hj hx ?_))
  show wpAny _ _ (field (.ref it) 1 >>= _) _ _ _
  refine wpAny_bind (wpAny_field (s := { s with toks := s.toks + 1 }) ho hd (x := rawInt (i : Int)) rfl ?_)
  refine wpAny_bind (m := setField (.ref it) 1 (rawInt ((i : Int) - 1))) (wpAny_setField (s := { s with toks := s.toks + 1 }) ho hd (by simp) ?_)
  first
  | refine wpAny_pure ⟨x, rfl, wpAny_pure (hQ _ _ ?_ (Heap.SameBut.update ..))⟩
  | refine wpAny_bind (wpAny_pure (wpAny_pure ⟨x, rfl, wpAny_pure (hQ _ _ ?_ (Heap.SameBut.update ..))⟩))
  exact ⟨_, Heap.get?_update_self _ ho (Obj.isFreed_of_fields (Obj.data_mapFields hd _)), (Obj.cls_mapFields ..).trans hc, by
    rw [Obj.data_mapFields hd]; simp⟩

theorem rv_end {it t : Addr} {Q : Option Value → Shared → Prop} (hh : A.handled = none) (hit : IsRv s.heap it t (-1))
    (hQ : ∀ h', Heap.ExtBut it s.heap h' → Q none { s with heap := h' }) : wpAny (model prog w) A (pyNext (.ref it)) Q E s := by
  obtain ⟨o, ho, hc, hd⟩ := id hit
  unfold pyNext
  refine wpAny_bind (wpAny_attempt (wpAny_callSpecial?_slot (name := Str.ofString "__next__") hit.typeIs slot_rv_next
    (wpAny_call_entry slot_rv_next hit.typeIs entry_rv_next ?_ (args_rv_next_1 _))))
  unfold Builtin.«reversed.__next__»
  refine wpAny_bind (wpAny_of_eq (a := (Value.ref it, [])) rfl ?_)
  try dsimp only
  refine wpAny_bind (wpAny_field ho hd (x := .ref t) rfl ?_)
  refine wpAny_bind (wpAny_field ho hd (x := rawInt (-1)) rfl ?_)
  show wpAny _ _ (if (-1 : Int) < 0 then _ else _) _ _ s
  rw [if_pos (by decide)]
  refine wpAny_bind (wpAny_rule ?_)
  show wpAny _ _ ((do setField (.ref it) 1 (rawInt (-1)); setField (.ref it) 0 .none : Sem Unit) >>= _) _ _ _
  refine wpAny_bind (wpAny_bind (wpAny_setField ho hd (by simp) ?_))
  have ho1 : (s.heap.update it (Obj.mapFields fun x => x.setIfInBounds 1 (rawInt (-1)))).get? it = some (Obj.mapFields (fun x => x.setIfInBounds 1 (rawInt (-1))) o) :=
    Heap.get?_update_self _ ho (Obj.isFreed_of_fields (Obj.data_mapFields hd _))
  have hd1 := Obj.data_mapFields hd (fun x => x.setIfInBounds 1 (rawInt (-1)))
  refine wpAny_setField (s := { s with heap := s.heap.update it (Obj.mapFields fun x => x.setIfInBounds 1 (rawInt (-1))) }) ho1 hd1 (by simp) ?_
  have hsb : Heap.SameBut it s.heap ((s.heap.update it (Obj.mapFields fun x => x.setIfInBounds 1 (rawInt (-1)))).update it (Obj.mapFields fun x => x.setIfInBounds 0 .none)) :=
    (Heap.SameBut.update ..).trans (Heap.SameBut.update ..)
  generalize (s.heap.update it (Obj.mapFields fun x => x.setIfInBounds 1 (rawInt (-1)))).update it (Obj.mapFields fun x => x.setIfInBounds 0 .none) = h2 at hsb ⊢
  first
  | show wpAny _ _ (newExc (.type "StopIteration") [] >>= _) _ _ _
  | (refine wpAny_bind ?_; show wpAny _ _ (newExc (.type "StopIteration") [] >>= _) _ _ _)
  refine wpAny_bind ?_
  simp only [newExc, newTuple]
  refine wpAny_bind (wpAny_newObj_type ?_ (by size_fits))
  refine wpAny_bind (m := firstArgMember _ _) (wpAny_of_eq (a := Value.none) (by first | rfl | (simp only [firstArgMember]; rfl)) ?_)
  refine wpAny_newObj_type ?_ (by size_fits)
  simp only [raiseNew]
  refine wpAny_bind (wpAny_handled ?_)
  first | rw [show A.in1.handled = none from hh] | rw [hh]
  refine wpAny_bind (wpAny_pure (wpAny_throw ?_))
  refine wpAny_bind (wpAny_isInstance (T := "StopIteration") (b := true) ⟨_, Heap.get?_push_size _ rfl, rfl⟩ isSubtype_stop ?_)
  exact wpAny_pure (hQ _ ((hsb.extBut.push _).push _))

theorem Walks.tupRev (hh : A.handled = none) (I t : Addr) (hne : t ≠ I) (items : Array Value) (hz : items.size ≤ 1000000) :
    Walks prog w A I [I, t] [I] items.size (fun i v => items[items.size - 1 - i]? = some v) (fun i h => i ≤ items.size ∧ IsRv h I t ((items.size : Int) - 1 - (i : Int)) ∧ IsTup h t items) where
  sub := fun b hb => by simp at hb; simp [hb]
  frame := fun _ _ _ x hk => ⟨x.1, x.2.1.at fun o e => hk I (by simp) o e, let ⟨o, ho, r⟩ := x.2.2; ⟨o, hk t (by simp) o ho, r⟩⟩
  item := fun i s Q E hi x hQ => by
    have e : (items.size : Int) - 1 - (i : Int) = ((items.size - 1 - i : Nat) : Int) := by (clear hh hne hz x hQ; omega)
    have hit := x.2.1
    rw [e] at hit
    have hlt : items.size - 1 - i < items.size := by (clear hh hne hz hi x hQ hit; omega)
    refine rv_item hit x.2.2 (x := items[items.size - 1 - i]) (by simp [hlt]) (by (clear hh hne hi x hQ hit; omega)) fun h' tk hit' hs' => ?_
    refine hQ _ h' tk (by simp [hlt]) ⟨by (clear hh hne hz x hQ hit hlt hit' hs'; omega), ?_, x.2.2.extBut hs'.extBut hne⟩ fun b o hb e => hs'.extBut b o (fun h => hb (by simp [h])) e
    have e2 : (items.size : Int) - 1 - ((i + 1 : Nat) : Int) = ((items.size - 1 - i : Nat) : Int) - 1 := by (clear hh hne hz hi x hQ hit hlt hit' hs'; omega)
    rw [e2]; exact hit'
  done := fun s Q E x hQ => by
    have hit := x.2.1
    rw [show (items.size : Int) - 1 - (items.size : Int) = -1 by (clear hh hne hz x hQ hit; omega)] at hit
    exact rv_end hh hit fun h' he' => hQ h' s.toks fun b o hb e => he' b o (fun h => hb (by simp [h])) e
  self := fun _ _ _ _ x hQ => rv_iter x.2.1 hQ

theorem code_rv_new {t : Addr} {items : Array Value} {Q₁ : Value → Shared → Prop} (ht : IsTup s.heap t items) (hz : (items.size : Int) < 2 ^ 63)
    (h : ∀ tk, Q₁ (.ref s.heap.objs.size) { s with heap := s.heap.push (rvObj t ((items.size : Int) - 1)), toks := tk }) :
    codeAny (model prog w) A (.call (.builtin "reversed.__new__") ⟨[.type "reversed", .ref t], []⟩) (wants Q₁ E) s := by
  refine codeAny_of_tree ?_
  show wpAny _ A.in1 (do checkBuiltinCall "reversed.__new__" ⟨[.type "reversed", .ref t], []⟩; again (.builtin "reversed.__new__" ⟨[.type "reversed", .ref t], []⟩)) _ _ s
  refine wpAny_bind (wpAny_of_eq (F.newCall_reversed_1 _) (wpAny_pure ⟨plainId_quiet F.plain_reversed_new _, codeAny_builtin F.entry_reversed_new ?_⟩))
  rw [Around.under_plainId F.plain_reversed_new _]
  unfold Builtin.«reversed.__new__»
  refine wpAny_bind (wpAny_of_eq (newClass_reversed _) ?_)
  try dsimp only
  refine wpAny_bind (wpAny_of_eq (a := ()) (by first | rfl | kernel_rfl) ?_)
  refine wpAny_bind (wpAny_of_eq (a := ()) (by first | rfl | kernel_rfl) ?_)
  try dsimp only
  refine wpAny_bind (wpAny_specialOf ht.typeIs noRev_tuple ?_)
  try dsimp only
  refine wpAny_bind (wpAny_bind (wpAny_isInstance ht.typeIs sub_tuple_dict ?_))
  show wpAny _ _ (specialOf (.ref t) "__getitem__" >>= _) _ _ s
  refine wpAny_bind (wpAny_specialOf ht.typeIs slot_tuple_getitem.lookup ?_)
  show wpAny _ _ (if (["tuple.__getitem__", "str.__getitem__", "bytes.__getitem__", "bytearray.__getitem__", "memoryview.__getitem__", "numpy.ndarray.__getitem__", "sqlite3.Row.__getitem__"].contains "tuple.__getitem__") = true then _ else _) _ _ s
  rw [if_pos (by decide)]
  refine wpAny_pure ?_
  show wpAny _ _ (call (.builtin "len") [.ref t] >>= _) _ _ s
  refine wpAny_bind (len_tuple ht hz ?_)
  refine wpAny_bind (m := asInt? _) (wpAny_of_eq (a := some (items.size : Int)) (by rfl) ?_)
  try dsimp only
  refine wpAny_bind (m := Builtin.SmallTypes.newRecord _ _) ?_
  unfold Builtin.SmallTypes.newRecord
  refine wpAny_newObj_type ?_ (by show Array.size _ ≤ _; rw [sizeLine_eq]; simp)
  first
  | exact wpAny_pure (h _)
  | exact wpAny_bind (wpAny_pure (wpAny_pure (h _)))

theorem slot_rv_init : Slot "reversed" "__init__" "object.__init__" :=
  .of (owner := "object") (n := "__init__") (by rw [typeLookup_type, builtinLookup_eq_fast]; kernel_rfl) (by decide +kernel) (by decide +kernel) (by decide +kernel)
    (by first | exact .inl (by decide +kernel) | exact .inr (by decide +kernel)) (by rw [isSubtype_type]; kernel_rfl)
theorem called_reversed : TypeCalled "reversed" "reversed.__new__" "object.__init__" :=
  ⟨by decide +kernel, F.create_reversed, ⟨_, _, F.mro_reversed⟩, F.made_reversed, F.plain_reversed_new, F.sub_reversed_self, slot_rv_init⟩

theorem call_reversed_tup {t : Addr} {items : Array Value} {Q : Value → Shared → Prop} (ht : IsTup s.heap t items) (hz : (items.size : Int) < 2 ^ 63)
    (h : ∀ tk, Q (.ref s.heap.objs.size) { s with heap := s.heap.push (rvObj t ((items.size : Int) - 1)), toks := tk }) : wpAny (model prog w) A (call (.type "reversed") [.ref t]) Q E s := by
  refine callType_codes (Q₁ := fun obj s₁ => ∃ tk, obj = .ref s.heap.objs.size ∧ s₁ = { s with heap := s.heap.push (rvObj t ((items.size : Int) - 1)), toks := tk }) called_reversed (F.typeCall_reversed_1 _) F.entry_object_init
    (code_rv_new ht hz fun tk => ⟨tk, rfl, rfl⟩) ?_
  rintro obj s₁ ⟨tk, rfl, rfl⟩
  have hT : Shared.TypeIs { s with heap := s.heap.push (rvObj t ((items.size : Int) - 1)), toks := tk } (.ref s.heap.objs.size) "reversed" := ⟨_, Heap.get?_push_size _ rfl, rfl⟩
  refine ⟨hT, F.args_object_init_2 _ _, ?_⟩
  exact object_init_meets slot_rv_init.lookup F.made_reversed (by decide) prog w A.in1 _ _ ⟨hT, rfl, h tk⟩
end
end Mine

set_option autoImplicit false
set_option linter.unusedSimpArgs false
set_option linter.unusedVariables false
namespace Mine
open PySem PyProof.Rows PySem.Calls

theorem Reps.inv1 {G : GV} {α : List Addr} {h : Heap} {vs : List Value} {a : V} (r : Reps G α h vs [a]) : ∃ v, vs = [v] ∧ Rep G α h v a := by
  cases r with | cons x r => cases r with | nil => exact ⟨_, rfl, x⟩
theorem Reps.inv2 {G : GV} {α : List Addr} {h : Heap} {vs : List Value} {a b : V} (r : Reps G α h vs [a, b]) : ∃ v w, vs = [v, w] ∧ Rep G α h v a ∧ Rep G α h w b := by
  cases r with | cons x r => obtain ⟨w, rfl, y⟩ := r.inv1; exact ⟨_, _, rfl, x, y⟩
theorem Reps.inv3 {G : GV} {α : List Addr} {h : Heap} {vs : List Value} {a b c : V} (r : Reps G α h vs [a, b, c]) : ∃ v w u, vs = [v, w, u] ∧ Rep G α h v a ∧ Rep G α h w b ∧ Rep G α h u c := by
  cases r with | cons x r => obtain ⟨w, u, rfl, y, z⟩ := r.inv2; exact ⟨_, _, _, rfl, x, y, z⟩

/-- an iterator over the items xs; s: the state ahead of it -/
noncomputable def ItOk (prog : Program) (w : World) (A : Around) (G : GV) (s : Shared) (α : List Addr) (xs : List V) (src : Option Nat) (it : Value) (s₂ : Shared) : Prop :=
  ∃ I fp wr P St h tk, it = .ref I ∧ s₂ = { s with heap := h, toks := tk } ∧ KeepsH s.heap h ∧ Walks prog w A I fp wr xs.length P St ∧ St 0 h ∧ (∀ b ∈ wr, s.heap.get? b = none) ∧
    (∀ i h, St i h → ∀ b ∈ wr, ∃ o vs, h.get? b = some o ∧ o.data = .fields vs) ∧ (∀ b ∈ fp, ∃ o, h.get? b = some o) ∧ (∀ b ∈ fp, b ∉ wr → (∃ n, src = some n ∧ α[n]? = some b) ∨ ∃ items, IsTup h b items) ∧ (∀ i v, i < xs.length → P i v → ∃ d, xs[i]? = some d ∧ Rep G α h v d)

section
variable {prog : Program} {w : World} {A : Around} {E : Value → Shared → Prop} {s : Shared} {G : GV} {α : List Addr} {H : Hp}

theorem iter_seq {v : Value} {d : V} {xs : List V} (hA : AOk prog A) (R : HR G α s.heap H) (r : Rep G α s.heap v d) (e : items H d = some xs) :
    wpAny (model prog w) A (pyIter v) (ItOk prog w A G s α xs (srcOf d)) E s := by
  obtain ⟨a, vs, rfl, rs, z, z', hk⟩ := seqOf R r e
  rcases hk with ⟨ht, ys, rfl⟩ | ⟨hl, n, rfl⟩
  · refine wpAny_pyIter_tuple ht ?_
    have hlt : a < s.heap.objs.size := let ⟨o, ho, _⟩ := ht; Heap.lt_size ho
    have hne : a ≠ s.heap.objs.size := Nat.ne_of_lt hlt
    have k := keeps_push s.heap { cls := .type "tuple_iterator", data := .fields #[.ref a, .int 0 0] }
    have ht' := ht.keeps k
    have W := Walks.tuple (prog := prog) (w := w) hA.handled s.heap.objs.size a hne vs.toArray
    have hsz : vs.toArray.size = xs.length := by rw [List.size_toArray, rs.len]
    rw [hsz] at W
    refine ⟨_, _, _, _, _, _, s.toks, rfl, rfl, k, W, ⟨⟨_, Heap.get?_push_size _ rfl, rfl, rfl⟩, ht'⟩, ?_, ?_, ?_, ?_, ?_⟩
    · intro b hb; simp at hb; subst hb; exact size_none _
    · rintro i h ⟨⟨o, ho, _, hd⟩, _⟩ b hb; simp at hb; subst hb; exact ⟨o, _, ho, hd⟩
    · intro b hb; simp at hb
      rcases hb with rfl | rfl
      · exact ⟨_, Heap.get?_push_size _ rfl⟩
      · obtain ⟨o, ho, _⟩ := ht'; exact ⟨o, ho⟩
    · intro b hb hw; simp at hb hw
      rcases hb with rfl | rfl
      · exact absurd rfl hw
      · exact .inr ⟨_, ht'⟩
    · intro i v _ hv
      obtain ⟨d, hd, r⟩ := rs.get' (by simpa using hv)
      exact ⟨d, hd, r.mono (fun _ _ e => e) (.of k)⟩
  · refine wpAny_pyIter_list hl ?_
    have hlt : a < s.heap.objs.size := let ⟨o, ho, _⟩ := hl; Heap.lt_size ho
    have hne : a ≠ s.heap.objs.size := Nat.ne_of_lt hlt
    have k := keeps_push s.heap { cls := .type "list_iterator", data := .fields #[.ref a, .int 0 0] }
    have hl' := isList_keeps hl k
    have W := Walks.list (prog := prog) (w := w) hA.handled s.heap.objs.size a hne vs.toArray
    have hsz : vs.toArray.size = xs.length := by rw [List.size_toArray, rs.len]
    rw [hsz] at W
    refine ⟨_, _, _, _, _, _, s.toks, rfl, rfl, k, W, ⟨⟨_, Heap.get?_push_size _ rfl, rfl, rfl⟩, hl'⟩, ?_, ?_, ?_, ?_, ?_⟩
    · intro b hb; simp at hb; subst hb; exact size_none _
    · rintro i h ⟨⟨o, ho, _, hd⟩, _⟩ b hb; simp at hb; subst hb; exact ⟨o, _, ho, hd⟩
    · intro b hb; simp at hb
      rcases hb with rfl | rfl
      · exact ⟨_, Heap.get?_push_size _ rfl⟩
      · obtain ⟨o, ho, _⟩ := hl'; exact ⟨o, ho⟩
    · intro b hb hw; simp at hb hw
      rcases hb with rfl | rfl
      · exact absurd rfl hw
      · cases r with
        | lst ha => exact .inl ⟨n, rfl, ha⟩
    · intro i v _ hv
      obtain ⟨d, hd, r⟩ := rs.get' (by simpa using hv)
      exact ⟨d, hd, r.mono (fun _ _ e => e) (.of k)⟩

theorem rangeSize_nonneg {a b c : Int} (hc : c = 1 ∨ c = -1 ∨ c = 2) : 0 ≤ Builtin.Range.rangeSize a b c := by
  unfold Builtin.Range.rangeSize
  rcases hc with rfl | rfl | rfl <;> simp <;> (split <;> omega)
theorem rangeSize_le {a b c : Int} (hc : c = 1 ∨ c = -1 ∨ c = 2) (ha : smallI a) (hb : smallI b) : Builtin.Range.rangeSize a b c ≤ 2 ^ 41 := by
  unfold Builtin.Range.rangeSize
  obtain ⟨a1, a2⟩ := ha
  obtain ⟨b1, b2⟩ := hb
  rcases hc with rfl | rfl | rfl <;> simp <;> (split <;> omega)

theorem iter_range {a b c : Int} {t u v : Tok} {r : Addr} (hA : AOk prog A) (hr : IsRange s.heap r a b c t u v) (ha : smallI a) (hb : smallI b) (hc : c = 1 ∨ c = -1 ∨ c = 2) :
    wpAny (model prog w) A (pyIter (.ref r)) (ItOk prog w A G s α ((rangeL a b c).map V.int) none) E s := by
  have hsm : Builtin.Range.small a b c = true := by
    have h1 := rangeSize_nonneg (a := a) (b := b) hc
    have h2 := rangeSize_le hc ha hb
    obtain ⟨a1, a2⟩ := ha
    obtain ⟨b1, b2⟩ := hb
    have f : ∀ x : Int, -(2 ^ 63) ≤ x → x < 2 ^ 63 → Builtin.Range.rangeFitsLong x = true := fun x p q => by
      unfold Builtin.Range.rangeFitsLong
      rw [Bool.and_eq_true]; exact ⟨decide_eq_true p, decide_eq_true q⟩
    unfold Builtin.Range.small
    rw [f a (by (clear hA hr hc h1 h2 b1 b2 f; omega)) (by (clear hA hr hc h1 h2 b1 b2 f; omega)), f b (by (clear hA hr hc h1 h2 a1 a2 f; omega)) (by (clear hA hr hc h1 h2 a1 a2 f; omega)), f c (by (clear hA hr h1 h2 a1 a2 b1 b2 f; omega)) (by (clear hA hr h1 h2 a1 a2 b1 b2 f; omega)), f _ (by (clear hA hr hc a1 a2 b1 b2 f; omega)) (by (clear hA hr hc a1 a2 b1 b2 f; omega))]
    rcases hc with rfl | rfl | rfl
    · rw [if_pos (by decide), f _ (by (clear hA a1 a2 f hr h1 h2; omega)) (by (clear hA a1 a2 f hr h1 h2; omega))]; simp
    · rw [if_neg (by decide), f _ (by (clear hA a1 a2 f hr h1 h2; omega)) (by (clear hA a1 a2 f hr h1 h2; omega))]; simp
    · rw [if_pos (by decide), f _ (by (clear hA a1 a2 f hr h1 h2; omega)) (by (clear hA a1 a2 f hr h1 h2; omega))]; simp
  refine wpAny_pyIter_range hr hsm ?_
  have k := keeps_push s.heap { cls := .type "range_iterator", data := .fields #[rawInt a, rawInt (Builtin.Range.rangeSize a b c), rawInt c] }
  have hn : 0 ≤ Builtin.Range.rangeSize a b c := rangeSize_nonneg hc
  have hlen : ((rangeL a b c).map V.int).length = (Builtin.Range.rangeSize a b c).toNat := by simp [rangeL]
  have W := Walks.range (prog := prog) (w := w) hA.handled s.heap.objs.size a c (Builtin.Range.rangeSize a b c).toNat
  rw [← hlen] at W
  refine ⟨_, _, _, _, _, _, s.toks, rfl, rfl, k, W, ?_, ?_, ?_, ?_, ?_, ?_⟩
  · show IsRangeIter _ _ _ _ _
    rw [hlen]
    have e1 : a + ((0 : Nat) : Int) * c = a := by simp
    have e2 : (((Builtin.Range.rangeSize a b c).toNat : Nat) : Int) - ((0 : Nat) : Int) = Builtin.Range.rangeSize a b c := by (clear hA hr ha hb hc hsm k W e1; omega)
    rw [e1, e2]
    exact Heap.get?_push_size _ rfl
  · intro b hb; simp at hb; subst hb; exact size_none _
  · intro i h hi b hb; simp at hb; subst hb; exact ⟨_, _, hi, rfl⟩
  · intro b hb; simp at hb; subst hb; exact ⟨_, Heap.get?_push_size _ rfl⟩
  · intro b hb hw; exact absurd hb hw
  · rintro i v hi ⟨t, rfl⟩
    rw [hlen] at hi
    refine ⟨.int (a + i * c), ?_, .int _ _⟩
    simp [rangeL, List.getElem?_range hi, Int.mul_comm]

/-- reversed(x), and its iterator -/
theorem iter_rev {v : Value} {d : V} {xs : List V} (hA : AOk prog A) (R : HR G α s.heap H) (r : Rep G α s.heap v d) (e : items H d = some xs) :
    wpAny (model prog w) A (call (.type "reversed") [v]) (fun x s₁ => wpAny (model prog w) A (pyIter x) (ItOk prog w A G s α xs.reverse (srcOf d)) E s₁) E s := by
  obtain ⟨a, vs, rfl, rs, z, z', hk⟩ := seqOf R r e
  have hz : vs.length ≤ 1000000 := z'
  have hsz : vs.toArray.size = xs.reverse.length := by rw [List.size_toArray, rs.len, List.length_reverse]
  have get : ∀ i v (h : Heap), KeepsH s.heap h → i < xs.reverse.length → vs.toArray[xs.reverse.length - 1 - i]? = some v → ∃ d, xs.reverse[i]? = some d ∧ Rep G α h v d := fun i v h k hi hv => by
    obtain ⟨d, hd, r⟩ := rs.get' (by simpa using hv)
    refine ⟨d, ?_, r.mono (fun _ _ e => e) (.of k)⟩
    rw [List.length_reverse] at hi
    rw [List.getElem?_reverse hi]; exact hd
  rcases hk with ⟨ht, ys, rfl⟩ | ⟨hl, n, rfl⟩
  · have hlt : a < s.heap.objs.size := let ⟨o, ho, _⟩ := ht; Heap.lt_size ho
    have hne : a ≠ s.heap.objs.size := Nat.ne_of_lt hlt
    refine call_reversed_tup ht (by simp; (clear hA R rs z z' hsz get ht e r hlt hne; omega)) fun tk => ?_
    have k := keeps_push s.heap (rvObj a ((vs.toArray.size : Int) - 1))
    have ht' := ht.keeps k
    have hI : IsRv (s.heap.push (rvObj a ((vs.toArray.size : Int) - 1))) s.heap.objs.size a ((vs.toArray.size : Int) - 1) := ⟨_, Heap.get?_push_size _ rfl, rfl, rfl⟩
    refine rv_iter hI ?_
    have W := Walks.tupRev (prog := prog) (w := w) hA.handled s.heap.objs.size a hne vs.toArray (by simp; (clear hA R rs z z' hsz get ht e r hlt hne k ht' hI; omega))
    rw [hsz] at W
    refine ⟨_, _, _, _, _, _, tk, rfl, rfl, k, W, ⟨Nat.zero_le _, ?_, ht'⟩, ?_, ?_, ?_, ?_, fun i v hi hv => get i v _ k hi hv⟩
    · rw [← hsz]; simpa using hI
    · intro b hb; simp at hb; subst hb; exact size_none _
    · rintro i h ⟨_, ⟨o, ho, _, hd⟩, _⟩ b hb; simp at hb; subst hb; exact ⟨o, _, ho, hd⟩
    · intro b hb; simp at hb
      rcases hb with rfl | rfl
      · exact ⟨_, Heap.get?_push_size _ rfl⟩
      · obtain ⟨o, ho, _⟩ := ht'; exact ⟨o, ho⟩
    · intro b hb hw; simp at hb hw
      rcases hb with rfl | rfl
      · exact absurd rfl hw
      · exact .inr ⟨_, ht'⟩
  · have hlt : a < s.heap.objs.size := let ⟨o, ho, _⟩ := hl; Heap.lt_size ho
    have hne : a ≠ s.heap.objs.size := Nat.ne_of_lt hlt
    refine call_reversed_list hl ?_
    have k := keeps_push s.heap (revObj a ((vs.toArray.size : Int) - 1))
    have hl' := isList_keeps hl k
    have hI : (s.heap.push (revObj a ((vs.toArray.size : Int) - 1))).IsRevIter s.heap.objs.size a ((vs.toArray.size : Int) - 1) := ⟨_, Heap.get?_push_size _ rfl, rfl, rfl⟩
    refine wpAny_pyIter_revIter hI ?_
    have W := Walks.listRev (prog := prog) (w := w) hA.handled s.heap.objs.size a hne vs.toArray
    rw [hsz] at W
    refine ⟨_, _, _, _, _, _, s.toks, rfl, rfl, k, W, ⟨Nat.zero_le _, ?_, hl'⟩, ?_, ?_, ?_, ?_, fun i v hi hv => get i v _ k hi hv⟩
    · rw [← hsz]; simpa using hI
    · intro b hb; simp at hb; subst hb; exact size_none _
    · rintro i h ⟨_, ⟨o, ho, _, hd⟩, _⟩ b hb; simp at hb; subst hb; exact ⟨o, _, ho, hd⟩
    · intro b hb; simp at hb
      rcases hb with rfl | rfl
      · exact ⟨_, Heap.get?_push_size _ rfl⟩
      · obtain ⟨o, ho, _⟩ := hl'; exact ⟨o, ho⟩
    · intro b hb hw; simp at hb hw
      rcases hb with rfl | rfl
      · exact absurd rfl hw
      · cases r with
        | lst ha => exact .inl ⟨n, rfl, ha⟩
end

/-- the state from which a loop is walked -/
noncomputable def ItPost (X : SX) (s : Shared) (α : List Addr) (H : Hp) (Q : List V → Option Nat → Hp → Prop) (it : Value) (s₂ : Shared) : Prop :=
  ∃ h₁ tk₁ β K xs src, KeepsH s.heap h₁ ∧ (∀ b ∈ β, s.heap.get? b = none) ∧ HR X.G (α ++ β) h₁ (H ++ K) ∧ ItOk X.prog X.w X.A X.G { s with heap := h₁, toks := tk₁ } (α ++ β) xs src it s₂ ∧ Q xs src (H ++ K)

noncomputable def SI (X : SX) (c : MC) (pi : PI) (e : Expr) : Prop :=
  ∀ (env : Env) (s : Shared) (α : List Addr) (ρ : Loc) (H : Hp) (Q : List V → Option Nat → Hp → Prop) (E : Value → Shared → Prop), EnvOk c env → GF X.G c.g X.DT s.heap → HR X.G α s.heap H → FI X.G c env α s.heap ρ →
    wpI X.sub X.Φ pi ρ H Q → wpAny (model X.prog X.w) X.A (eval e env) (fun xv s₁ => wpAny (model X.prog X.w) X.A (pyIter xv) (ItPost X s α H Q) E s₁) E s

section
variable {X : SX} {c : MC}
theorem si_seq {pe : PE} {e : Expr} (hA : AOk X.prog X.A) (h : SE X c pe e) : SI X c (.seq pe) e := fun env s α ρ H Q E O T R F q => by
  simp only [qI1, qI2, qI3] at q
  refine wpAny_mono (h env s α ρ H _ E O T R F q) (fun v s₁ p => ?_) fun _ _ x => x
  obtain ⟨h₁, tk₁, β, K, d, rfl, k, f, R', r, q⟩ := p
  obtain ⟨xs, e, q⟩ := ifSome.get q
  exact wpAny_mono (iter_seq (s := { s with heap := h₁, toks := tk₁ }) hA R' r e) (fun it s₂ p => ⟨h₁, tk₁, β, K, xs, _, k, f, R', p, q⟩) fun _ _ x => x

theorem si_rev {pe : PE} {e : Expr} {p pos : Pos} (hA : AOk X.prog X.A) (hx : c.isGlob "reversed" = true) (hn : notStar e = true) (h : SE X c pe e) : SI X c (.rev pe) (.Call (.Name "reversed" p) [e] [] pos) := fun env s α ρ H Q E O T R F q => by
  simp only [qI1, qI2, qI3] at q
  refine Call_ (load_b bootRev (by simp [bltNames]) hx O T (callWith_type1 (args_cons (wpAny_mono (h env s α ρ H _ E O T R F q) (fun v s₁ p => args_nil ?_) fun _ _ x => x) (starEach_cons hn)) (starEach_cons hn) rfl))
  obtain ⟨h₁, tk₁, β, K, d, rfl, k, f, R', r, q⟩ := p
  obtain ⟨xs, e, q⟩ := ifSome.get q
  refine wpAny_mono (iter_rev (s := { s with heap := h₁, toks := tk₁ }) hA R' r e) (fun x s₂ p => ?_) fun _ _ x => x
  exact wpAny_mono p (fun it s₂ p => ⟨h₁, tk₁, β, K, _, _, k, f, R', p, q⟩) fun _ _ x => x

theorem si_rng {ps : PEs} {e : Expr} {es : List Expr} {p pos : Pos} (hA : AOk X.prog X.A) (hx : c.isGlob "range" = true) (hn : noStar (e :: es) = true) (h : SEs X c ps (e :: es)) : SI X c (.rng ps) (.Call (.Name "range" p) (e :: es) [] pos) := fun env s α ρ H Q E O T R F q => by
  simp only [qI1, qI2, qI3] at q
  simp only [noStar, List.all_cons, Bool.and_eq_true] at hn
  refine Call_ (load_b bootRange (by simp [bltNames]) hx O T (callWith_type1 (wpAny_mono (h env s α ρ H _ E pos O T R F q) (fun vs s₁ p => ?_) fun _ _ y => y) (starEach_cons hn.1) (star_any hn.2)))
  obtain ⟨h₁, tk₁, β, K, ds, rfl, k, f, R', r, a, b, cc, hr, ha, hb, hc, q⟩ := p
  obtain ⟨r, _⟩ := r
  have fin : ∀ (o : Obj) (tk : Nat) (t u v : Tok), o = { cls := .type "range", data := .fields #[.int a t, .int b u, .int cc v] } →
      wpAny (model X.prog X.w) X.A (pyIter (.ref h₁.objs.size)) (ItPost X s α H Q) E { s with heap := h₁.push o, toks := tk } := fun o tk t u v ho => by
    subst ho
    refine wpAny_mono (iter_range (s := { s with heap := h₁.push _, toks := tk }) (G := X.G) (α := α ++ β) hA (IsRange.new h₁ a b cc t u v) ha hb hc) (fun it s₂ p => ?_) fun _ _ x => x
    refine ⟨_, tk, β, K, _, _, KeepsH.trans k (keeps_push _ _), f, R'.keeps (keeps_push _ _), p, q⟩
  unfold rngOf at hr
  split at hr
  · cases hr
    obtain ⟨v1, rfl, x1⟩ := r.inv1
    cases x1
    exact call_range_1 (s := { s with heap := h₁, toks := tk₁ }) (fin _ _ _ _ _ rfl)
  · cases hr
    obtain ⟨v1, v2, rfl, x1, x2⟩ := r.inv2
    cases x1; cases x2
    exact call_range_2 (s := { s with heap := h₁, toks := tk₁ }) (fin _ _ _ _ _ rfl)
  · cases hr
    obtain ⟨v1, v2, v3, rfl, x1, x2, x3⟩ := r.inv3
    cases x1; cases x2; cases x3
    exact call_range_3 (s := { s with heap := h₁, toks := tk₁ }) (by (clear hA hx h O T R F hn k f R' ha hb q fin r; omega)) (fin _ _ _ _ _ rfl) (Or.inl (PyProof.noPylong_small (by (clear hA hx h O T R F hn k f R' ha hb q fin r; omega))))
  · cases hr
end
end Mine

set_option autoImplicit false
set_option linter.unusedSimpArgs false
set_option linter.unusedVariables false
namespace Mine
open PySem PyProof.Rows PySem.Calls

/-! what is no list and no tuple may turn -/
noncomputable def KeepsLT (h h' : Heap) : Prop := ∀ a o items n, h.get? a = some o → o.data = .seq items n → h'.get? a = some o
theorem KeepsLT.trans {h h' h'' : Heap} (a : KeepsLT h h') (b : KeepsLT h' h'') : KeepsLT h h'' := fun x o _ _ e d => b x o _ _ (a x o _ _ e d) d
theorem KeepsLT.tup {h h' : Heap} (k : KeepsLT h h') : KeepsT h h' := fun a items ⟨o, ho, hc, n, hd⟩ => ⟨o, k a o _ _ ho hd, hc, n, hd⟩
theorem KeepsLT.list {h h' : Heap} (k : KeepsLT h h') {a : Addr} {items : Array Value} (x : h.IsList a items) : h'.IsList a items := let ⟨o, ho, hc, n, hd⟩ := x; ⟨o, k a o _ _ ho hd, hc, n, hd⟩
theorem KeepsLT.plain {h h' : Heap} (k : KeepsLT h h') {a : Addr} {items : Array Value} (x : h.PlainList a items) : h'.PlainList a items := let ⟨n, e⟩ := x; ⟨n, k a _ _ _ e rfl⟩
theorem HR.lt' {G : GV} {α : List Addr} {h h' : Heap} {H : Hp} (r : HR G α h H) (k : KeepsLT h h') : HR G α h' H :=
  ⟨r.len, r.nodup, r.pos, fun n a xs e1 e2 => let ⟨vs, l, q, z, p⟩ := r.lst n a xs e1 e2; ⟨vs, k.list l, q.mono (fun _ _ e => e) k.tup, z, fun hn => k.plain (p hn)⟩⟩
theorem KeepsLT.sameBut {h h' : Heap} {b : Addr} (hs : Heap.SameBut b h h') (hb : ∀ o, h.get? b = some o → ∀ items n, o.data ≠ .seq items n) : KeepsLT h h' := fun a o items n e d => by
  by_cases hab : a = b
  · subst hab; exact absurd d (hb o e items n)
  · exact hs.extBut a o hab e
theorem ns_notSeq {h : Heap} {b : Addr} {m : Str → Option Value} (hn : h.Ns b m) : ∀ o, h.get? b = some o → ∀ items n, o.data ≠ .seq items n := fun o e items n d => by
  obtain ⟨o', es, ep, ho, hd, _⟩ := hn
  rw [ho] at e; cases e; rw [hd] at d; cases d

/-! the names of a comprehension's scope -/
theorem lookup_relabel {env : Env} : ∀ {names : List (Str × NameKind)} {x : Str} {k : NameKind}, names.lookup x = some k →
    (names.map fun (n, k) => if (k == NameKind.free && env.scope.kind == .function && env.kindOf n == some .cell) then (n, NameKind.cell) else (n, k)).lookup x =
      some (if (k == NameKind.free && env.scope.kind == .function && env.kindOf x == some .cell) then NameKind.cell else k)
  | [], _, _, h => by simp at h
  | (n, k') :: r, x, k, h => by
    have ih := @lookup_relabel env r x k
    show List.lookup x ((if (k' == NameKind.free && env.scope.kind == .function && env.kindOf n == some .cell) = true then (n, NameKind.cell) else (n, k')) :: _) = _
    cases hx : x == n with
    | true =>
      have hx' := beq_iff_eq.mp hx
      subst hx'
      simp only [List.lookup_cons, beq_self_eq_true] at h
      cases h
      by_cases hc : (k' == NameKind.free && env.scope.kind == .function && env.kindOf x == some .cell) = true
      · rw [if_pos hc, if_pos hc, List.lookup_cons, beq_self_eq_true]
      · rw [if_neg hc, if_neg hc, List.lookup_cons, beq_self_eq_true]
    | false =>
      simp only [List.lookup_cons, hx] at h
      by_cases hc : (k' == NameKind.free && env.scope.kind == .function && env.kindOf n == some .cell) = true
      · rw [if_pos hc]; simp only [List.lookup_cons, hx]; exact ih h
      · rw [if_neg hc]; simp only [List.lookup_cons, hx]; exact ih h
theorem lookup_relabel_none {env : Env} : ∀ {names : List (Str × NameKind)} {x : Str}, names.lookup x = none →
    (names.map fun (n, k) => if (k == NameKind.free && env.scope.kind == .function && env.kindOf n == some .cell) then (n, NameKind.cell) else (n, k)).lookup x = none
  | [], _, h => by simp
  | (n, k') :: r, x, h => by
    have ih := @lookup_relabel_none env r x
    show List.lookup x ((if (k' == NameKind.free && env.scope.kind == .function && env.kindOf n == some .cell) = true then (n, NameKind.cell) else (n, k')) :: _) = _
    cases hx : x == n with
    | true => simp [List.lookup_cons, hx] at h
    | false =>
      simp only [List.lookup_cons, hx] at h
      by_cases hc : (k' == NameKind.free && env.scope.kind == .function && env.kindOf n == some .cell) = true
      · rw [if_pos hc]; simp only [List.lookup_cons, hx]; exact ih h
      · rw [if_neg hc]; simp only [List.lookup_cons, hx]; exact ih h

noncomputable def closL (env : Env) : List (Str × NameKind) → List (Str × Addr) → List (Str × Addr)
  | [], acc => acc
  | (n, k) :: r, acc => closL env r (if k == .free then (n, (env.cells.lookup n).getD 0) :: acc else acc)
theorem closL_eq (env : Env) : ∀ (names : List (Str × NameKind)) (acc : List (Str × Addr)), (∀ x ∈ names, x.2 = .free → ∃ c, env.cells.lookup x.1 = some c) →
    (forIn names acc fun x (r : List (Str × Addr)) => (if x.2 == .free then do let c ← cellOf env x.1; pure (ForInStep.yield ((x.1, c) :: r)) else pure (ForInStep.yield r) : Sem (ForInStep (List (Str × Addr))))) = pure (closL env names acc)
  | [], acc, _ => rfl
  | (n, k) :: r, acc, h => by
    rw [List.forIn_cons]
    by_cases hk : k = .free
    · subst hk
      obtain ⟨c, hc⟩ := h _ List.mem_cons_self rfl
      dsimp only at hc
      have e : cellOf env n = pure c := by unfold cellOf; rw [hc]
      simp only [beq_self_eq_true, if_true, e, pure_bind, closL, hc, Option.getD_some]
      exact closL_eq env r _ fun x hx => h x (List.mem_cons_of_mem _ hx)
    · have hb : (k == NameKind.free) = false := by simpa using hk
      simp only [hb, Bool.false_eq_true, if_false, pure_bind, closL]
      exact closL_eq env r _ fun x hx => h x (List.mem_cons_of_mem _ hx)
theorem closureFor_closL {scope : Scope} {env : Env} (h : ∀ x ∈ scope.names, x.2 = .free → ∃ c, env.cells.lookup x.1 = some c) : closureFor scope env = pure (closL env scope.names []) := by
  have e := closL_eq env scope.names [] h
  unfold closureFor
  first
  | exact e
  | (simp only [bind_pure]; exact e)
theorem closL_look (env : Env) (n : Str) : ∀ (names : List (Str × NameKind)) (acc : List (Str × Addr)), ((n, NameKind.free) ∈ names ∨ acc.lookup n = some ((env.cells.lookup n).getD 0)) → (closL env names acc).lookup n = some ((env.cells.lookup n).getD 0)
  | [], acc, h => by
    rcases h with h | h
    · simp at h
    · exact h
  | (m, k) :: r, acc, h => by
    unfold closL
    refine closL_look env n r _ ?_
    by_cases hk : k = .free
    · subst hk
      simp only [beq_self_eq_true, if_true]
      by_cases hm : n = m
      · subst hm; right; simp [List.lookup_cons]
      · rcases h with h | h
        · left
          rcases List.mem_cons.mp h with h | h
          · cases h; exact absurd rfl hm
          · exact h
        · right
          have : (n == m) = false := by simpa using hm
          simp [List.lookup_cons, this, h]
    · have hb : (k == NameKind.free) = false := by simpa using hk
      simp only [hb, Bool.false_eq_true, if_false]
      rcases h with h | h
      · left
        rcases List.mem_cons.mp h with h | h
        · cases h; exact absurd rfl hk
        · exact h
      · right; exact h
theorem mem_of_lookupN {names : List (Str × NameKind)} {x : Str} {k : NameKind} (h : names.lookup x = some k) : (x, k) ∈ names := by
  induction names with
  | nil => simp at h
  | cons p r ih =>
    obtain ⟨n, k'⟩ := p
    rw [List.lookup_cons] at h
    cases hx : x == n with
    | true => rw [hx] at h; cases h; rw [beq_iff_eq.mp hx]; exact List.mem_cons_self
    | false => rw [hx] at h; exact List.mem_cons_of_mem _ (ih h)

/-- the variables of the comprehension's own scope -/
structure CompOk (c : MC) (sc : Scope) (x : Str) (cs : List Str) (caps : List Nat) : Prop where
  kind : sc.kind = .function
  loc : ∀ p ∈ sc.names, p.2 = .local → p.1 = Str.ofString ".0" ∨ p.1 = x
  fre : ∀ p ∈ sc.names, p.2 = .free → p.1 ∈ cs
  nocell : ∀ p ∈ sc.names, p.2 ≠ .cell
  tx : sc.names.lookup x = some .local
  cap : ∀ n ∈ cs, sc.names.lookup n = some .free
  out : ∀ n ∈ cs, c.scope.names.lookup n = some NameKind.cell ∨ c.scope.names.lookup n = some NameKind.free
  names : ∀ y ∈ sc.names, y.2 = .local → sc.names.lookup y.1 = some .local
  cp : ∀ (i j : Nat), caps[i]? = some j → ∃ n, cs[i]? = some n ∧ c.names[j]? = some n

theorem CompOk.outer {c : MC} {sc : Scope} {x : Str} {cs : List Str} {caps : List Nat} {env : Env} (K : CompOk c sc x cs caps) (O : EnvOk c env) {n : Str} (hn : n ∈ cs) : (env.kindOf n = some .cell ∨ env.kindOf n = some .free) ∧ ∃ a, env.cells.lookup n = some a := by
  have h : env.kindOf n = some .cell ∨ env.kindOf n = some .free := by
    rcases K.out n hn with h | h
    · exact .inl (O.cel n h)
    · exact O.fre n h
  exact ⟨h, O.cells n h⟩
theorem CompOk.clos {c : MC} {sc : Scope} {x : Str} {cs : List Str} {caps : List Nat} {env : Env} (K : CompOk c sc x cs caps) (O : EnvOk c env) : closureFor sc env = pure (closL env sc.names []) :=
  closureFor_closL fun p hp hf => (K.outer O (K.fre p hp hf)).2
theorem CompOk.closLook {c : MC} {sc : Scope} {x : Str} {cs : List Str} {caps : List Nat} {env : Env} (K : CompOk c sc x cs caps) (O : EnvOk c env) {n : Str} (hn : n ∈ cs) {a : Addr} (ha : env.cells.lookup n = some a) : (closL env sc.names []).lookup n = some a := by
  rw [closL_look env n sc.names [] (.inl (mem_of_lookupN (K.cap n hn))), ha]; rfl

theorem CompOk.env {c : MC} {sc : Scope} {x : Str} {cs : List Str} {caps : List Nat} {env : Env} (K : CompOk c sc x cs caps) (O : EnvOk c env) (C : Addr) : EnvOk ⟨c.g, sc, x :: cs⟩ (compEnvC sc (closL env sc.names []) C env) where
  kind := K.kind
  globals := O.globals
  builtins := O.builtins
  loc := fun y h => lookup_relabel (env := env) h
  glob := fun y h => lookup_relabel (env := env) h
  cel := fun y h => absurd rfl (K.nocell _ (mem_of_lookupN h))
  fre := fun y h => by
    have := lookup_relabel (env := env) h
    by_cases hc : ((NameKind.free == NameKind.free && env.scope.kind == .function && env.kindOf y == some .cell)) = true
    · rw [if_pos hc] at this; exact .inl this
    · rw [if_neg hc] at this; exact .inr this
  cells := fun y h => by
    have hy : y ∈ cs := by
      cases hl : sc.names.lookup y with
      | none =>
        have := lookup_relabel_none (env := env) hl
        have h' : (compEnvC sc (closL env sc.names []) C env).kindOf y = none := this
        rw [h'] at h; rcases h with h | h <;> cases h
      | some k =>
        have := lookup_relabel (env := env) hl
        have h' : (compEnvC sc (closL env sc.names []) C env).kindOf y = _ := this
        rw [h'] at h
        have hm := mem_of_lookupN hl
        cases k with
        | free => exact K.fre _ hm rfl
        | cell => exact absurd rfl (K.nocell _ hm)
        | _ => simp at h
    obtain ⟨a, ha⟩ := (K.outer O hy).2
    exact ⟨a, K.closLook O hy ha⟩

theorem lget_map {ρ : Loc} : ∀ {caps : List Nat} {i : Nat} {d : V}, lget (caps.map (lget ρ)) i = some d → ∃ j, caps[i]? = some j ∧ lget ρ j = some d
  | [], i, d, h => by simp [lget] at h
  | j :: r, 0, d, h => ⟨j, rfl, h⟩
  | j :: r, i + 1, d, h => by
    obtain ⟨k, a, b⟩ := lget_map (caps := r) h
    exact ⟨k, by simpa using a, b⟩

theorem CompOk.vars {G : GV} {c : MC} {sc : Scope} {x : Str} {cs : List Str} {caps : List Nat} {env : Env} {α : List Addr} {h h' : Heap} {ρ : Loc} {β : List Addr} {C : Addr} {m : Str → Option Value} {v : Value} {d : V}
    (K : CompOk c sc x cs caps) (O : EnvOk c env) (F : FI G c env α h ρ) (k : KeepsH h h') (hn : h'.Ns C m) (hm : m x = some v) (r : Rep G (α ++ β) h' v d) :
    FI G ⟨c.g, sc, x :: cs⟩ (compEnvC sc (closL env sc.names []) C env) (α ++ β) h' (some d :: caps.map (lget ρ)) := by
  intro i y e hy he
  cases i with
  | zero =>
    simp at hy; subst hy
    simp [lget] at he; subst he
    exact ⟨v, .inl ⟨(K.env O C).loc x K.tx, m, hn, hm⟩, r⟩
  | succ i =>
    simp at hy
    obtain ⟨j, hj, hd⟩ := lget_map he
    obtain ⟨n, hn1, hn2⟩ := K.cp i j hj
    have hyn : n = y := by rw [hn1] at hy; exact Option.some.inj hy
    rw [hyn] at hn1 hn2
    have hmem : y ∈ cs := List.mem_of_getElem? hn1
    obtain ⟨u, hu, ru⟩ := F j y e hn2 hd
    refine ⟨u, ?_, ru.up k⟩
    obtain ⟨hk, a, ha⟩ := K.outer O hmem
    rcases hu with ⟨hl, _⟩ | ⟨_, cc, hc, hv⟩
    · rcases hk with hk | hk <;> rw [hk] at hl <;> cases hl
    · rw [ha] at hc; cases hc
      exact .inr ⟨(K.env O C).fre y (K.cap y hmem), a, K.closLook O hmem ha, isCell_keeps hv k⟩
end Mine

set_option autoImplicit false
set_option linter.unusedSimpArgs false
set_option linter.unusedVariables false
namespace Mine
open PySem PyProof.Rows PySem.Calls

section
variable {X : SX} {c : MC}

noncomputable def SIfs (X : SX) (c : MC) (po : PO) (ifs : List Expr) : Prop :=
  match po with
  | .no => ifs = []
  | .some pe => ∃ e, ifs = [e] ∧ SC X c pe e

theorem ifs_sound {po : PO} {ifs : List Expr} (h : SIfs X c po ifs) (env : Env) (s : Shared) (α : List Addr) (ρ : Loc) (H : Hp) (Q : Bool → Hp → Prop) (E : Value → Shared → Prop) (O : EnvOk c env) (T : GF X.G c.g X.DT s.heap) (R : HR X.G α s.heap H)
    (F : FI X.G c env α s.heap ρ) (q : wpO X.sub X.Φ po ρ H fun c H3 => ifSome (match c with | some c => truthV H3 c | none => some true) fun t => Q t H3) :
    wpAny (model X.prog X.w) X.A (forIn ifs true fun c r => if r = true then do let ok ← isTrue c env (eval c env); pure (ForInStep.yield ok) else pure (ForInStep.yield r)) (Post X.G (fun _ _ a b => a = b) s α H Q) E s := by
  cases po with
  | no =>
    cases h
    simp only [qO1, qO2] at q
    exact wpAny_pure (Post.same' (d := true) R rfl q)
  | some pe =>
    obtain ⟨e, rfl, h⟩ := h
    simp only [qO1, qO2] at q
    rw [List.forIn_cons]
    simp only [if_true]
    refine wpAny_bind (wpAny_bind (wpAny_mono (h env s α ρ H Q E O T R F q) (fun b s₁ p => wpAny_pure ?_) fun _ _ x => x))
    simp only [List.forIn_nil]
    exact wpAny_pure p

/-- the state behind a comprehension's loop -/
noncomputable def CompEnd (X : SX) (s : Shared) (α : List Addr) (H : Hp) (Q : List V → Hp → Prop) (D C : Addr) (s' : Shared) : Prop :=
  ∃ h' tk β K ys ds m, s' = { s with heap := h', toks := tk } ∧ KeepsH s.heap h' ∧ (∀ b ∈ β, s.heap.get? b = none) ∧ HR X.G (α ++ β) h' (H ++ K) ∧ s.heap.get? D = none ∧ s.heap.get? C = none ∧ D ≠ C ∧ D ∉ α ++ β ∧
    h'.PlainList D ys.toArray ∧ Reps X.G (α ++ β) h' ys ds ∧ ds.length ≤ lim ∧ h'.Ns C m ∧ Q ds (H ++ K)

theorem comp_core {elt : Expr} {iter : Expr} {x : Str} {px pos : Pos} {ifs : List Expr} {sc : Scope} {cs : List Str} {pelt : PE} {caps : List Nat} {cond : PO}
    (K : CompOk c sc x cs caps) (h1 : SE X ⟨c.g, sc, x :: cs⟩ pelt elt) (h2 : SIfs X ⟨c.g, sc, x :: cs⟩ cond ifs)
    (env : Env) (s : Shared) (α : List Addr) (ρ : Loc) (H : Hp) (Q : List V → Hp → Prop) (E : Value → Shared → Prop) (O : EnvOk c env) (T : GF X.G c.g X.DT s.heap) (F : FI X.G c env α s.heap ρ)
    (it : Value) (s₂ : Shared)
    (hit : ItPost X s α H (fun xs _ H1 => xs.length ≤ lim ∧ compGo (fun x H2 k => ifSome (bindT 1 x) fun ρt =>
      wpO X.sub X.Φ cond (ρt ++ caps.map (lget ρ)) H2 fun c H3 => ifSome (match c with | some c => truthV H3 c | none => some true) fun t =>
        if t then wpE X.sub X.Φ pelt (ρt ++ caps.map (lget ρ)) H3 fun y H4 => k (some y) H4 else k none H3) xs H1 Q) it s₂)
    (RR : Value → Addr → Result → Shared → Prop) (hRR : ∀ D C s', CompEnd X s α H Q D C s' → RR (.ref D) C (.ok .next) s') :
    wpAny (model X.prog X.w) X.A (newList []) (fun acc s₃ => wpAny (model X.prog X.w) X.A (newFunctionEnv sc env.globals (closL env sc.names []) [] env.qual none .none (some env)) (fun cenv s₄ =>
      codeAny (model X.prog X.w) X.A (.compStart (.ListComp elt [⟨.Name x px, iter, ifs, 0⟩] sc pos) 0 it acc { cenv with scope := relabel sc env }) (RR acc cenv.locals) s₄) E s₃) E s₂ := by
  obtain ⟨h₁, tk₁, β₁, K₁, xs, src, k₁, f₁, R₁, ⟨I, fp, wr, P, St, h₂, tk₂, rfl, rfl, k₂, W, hst, hwr, hfield, hfp, hsrc, hP⟩, hlen, hgo⟩ := hit
  dsimp only at k₂ hwr
  refine wpAny_newObj_type (wpAny_newFunctionEnv K.nocell (by intro y hy; simp at hy) (fun h₃ hns₃ hsb₃ => ?_) K.kind)
  dsimp only at hns₃ hsb₃ ⊢
  generalize hH2 : h₂.push { cls := .type "list", dict := none, data := .seq ([] : List Value).toArray } = H2 at hns₃ hsb₃ ⊢
  have hC : H2.objs.size = h₂.objs.size + 1 := by rw [← hH2, Heap.size_push]
  have hDC : h₂.objs.size ≠ H2.objs.size := by rw [hC]; exact Nat.ne_of_lt (Nat.lt_succ_self _)
  generalize hCC : H2.objs.size = C at hns₃ hsb₃ hDC hC ⊢
  generalize hDD : h₂.objs.size = D at hDC hC ⊢
  have deadD : h₂.get? D = none := by rw [← hDD]; exact size_none _
  have deadC : h₂.get? C = none := by
    cases e : h₂.get? C with
    | none => rfl
    | some o => exact absurd (Heap.lt_size e) (by rw [hDD, hC]; exact Nat.not_lt.mpr (Nat.le_succ _))
  have aliveNe : ∀ b o, h₂.get? b = some o → b ≠ D ∧ b ≠ C := fun b o e => ⟨fun q => (by rw [q, deadD] at e; cases e), fun q => (by rw [q, deadC] at e; cases e)⟩
  have old : KeepsH h₂ h₃ := fun b o e => hsb₃.extBut b o (aliveNe b o e).2 (Heap.get?_push_of_some _ (hH2 ▸ Heap.get?_push_of_some _ e))
  have hacc : h₃.PlainList D ([] : List Value).toArray := ⟨_, hsb₃.extBut _ _ hDC (Heap.get?_push_of_some _ (hH2 ▸ hDD ▸ Heap.get?_push_size _ rfl))⟩
  have hst₃ : St 0 h₃ := W.frame _ _ _ hst fun b _ o e => old b o e
  have hDf : D ∉ fp := fun hm => by obtain ⟨o, e⟩ := hfp _ hm; rw [deadD] at e; cases e
  have hCf : C ∉ fp := fun hm => by obtain ⟨o, e⟩ := hfp _ hm; rw [deadC] at e; cases e
  have hDw : D ∉ wr := fun hm => hDf (W.sub _ hm)
  have hCw : C ∉ wr := fun hm => hCf (W.sub _ hm)
  have deadS : ∀ b, h₁.get? b = none → s.heap.get? b = none := fun b e => by
    cases e' : s.heap.get? b with
    | none => rfl
    | some o => have := k₁ b o e'; rw [e] at this; cases this
  have deadS2 : ∀ b, h₂.get? b = none → s.heap.get? b = none := fun b e => deadS b (by
    cases e' : h₁.get? b with
    | none => rfl
    | some o => have := k₂ b o e'; rw [e] at this; cases this)
  -- whatever keeps h₂ off wr keeps s
  have keepS : ∀ h' : Heap, (∀ b o, b ∉ wr → h₂.get? b = some o → h'.get? b = some o) → KeepsH s.heap h' := fun h' hk b o e =>
    hk b o (fun hm => by have := hwr b hm; rw [k₁ b o e] at this; cases this) (k₂ b o (k₁ b o e))
  have keepT : ∀ h' : Heap, (∀ b o, b ∉ wr → h₂.get? b = some o → h'.get? b = some o) → KeepsT h₂ h' := fun h' hk => by
    refine KeepsLT.tup fun a o items n e d => hk a o (fun hm => ?_) e
    obtain ⟨o', vs, e', d'⟩ := hfield 0 h₂ hst a hm
    rw [e] at e'; cases e'; rw [d] at d'; cases d'
  have D₁ : D ∉ α ++ β₁ := fun hm => by
    obtain ⟨n, hn⟩ := List.mem_iff_getElem?.mp hm
    obtain ⟨ys, hy⟩ := R₁.at hn
    obtain ⟨us, ⟨o, ho, _⟩, _⟩ := R₁.lst n D ys hn hy
    have := k₂ _ _ ho; rw [deadD] at this; cases this
  let step : V → Hp → (Option V → Hp → Prop) → Prop := fun x H2 k => ifSome (bindT 1 x) fun ρt =>
      wpO X.sub X.Φ cond (ρt ++ caps.map (lget ρ)) H2 fun c H3 => ifSome (match c with | some c => truthV H3 c | none => some true) fun t =>
        if t then wpE X.sub X.Φ pelt (ρt ++ caps.map (lget ρ)) H3 fun y H4 => k (some y) H4 else k none H3
  let Inv : Nat → Shared → Prop := fun n s' => ∃ i h' tk γ KK ys ds m, s' = { s with heap := h', toks := tk } ∧ i ≤ xs.length ∧ n = xs.length + 1 - i ∧ St i h' ∧ (∀ b o, b ∉ wr → h₂.get? b = some o → h'.get? b = some o) ∧
    (∀ b ∈ β₁ ++ γ, s.heap.get? b = none) ∧ D ∉ α ++ (β₁ ++ γ) ∧ HR X.G (α ++ (β₁ ++ γ)) h' (H ++ KK) ∧ h'.PlainList D ys.toArray ∧ Reps X.G (α ++ (β₁ ++ γ)) h' ys ds ∧ ds.length ≤ i ∧ h'.Ns C m ∧
    compGo step (xs.drop i) (H ++ KK) (fun r H2 => Q (ds ++ r) H2)
  have loop : ∀ s₃ : Shared, s₃ = { s with heap := h₃, toks := tk₂ + ([] : List (Str × Value)).length } →
      codeAny (model X.prog X.w) X.A (.compLoop (.ListComp elt [⟨.Name x px, iter, ifs, 0⟩] sc pos) 0 (.ref I) (.ref D) (compEnvC sc (closL env sc.names []) C env)) (RR (.ref D) C) s₃ := by
    rintro s₃ rfl
    refine codeAny_compLoop_tests Inv ?_ (xs.length + 1) ⟨0, h₃, _, [], K₁, [], [], _, rfl, Nat.zero_le _, rfl, hst₃, fun b o _ e => old b o e, by simpa using f₁, by simpa using D₁, ?_, hacc, .nil, Nat.le_refl _, hns₃, ?_⟩
    · rintro n s' ⟨i, h', tk, γ, KK, ys, ds, m, rfl, hi, rfl, hsti, hkeep, hfresh, hD', R', hpl, rys, hdl, hns, hgo'⟩
      by_cases hlt : i < xs.length
      · refine W.item i _ _ _ hlt hsti fun v h'' tk' hPv hst'' hk'' => ?_
        have lt1 : KeepsLT h' h'' := fun a o items n e d => hk'' a o (fun hm => by
          obtain ⟨o', vs, e', d'⟩ := hfield i h' hsti a hm
          rw [e] at e'; cases e'; rw [d] at d'; cases d') e
        have hns'' : h''.Ns C m := hns.at' fun o e => hk'' C o hCw e
        refine wpAny_assign_Name (wpAny_storeName_local ((K.env O C).loc x K.tx) hns'' (fun h₄ hns₄ hsb₄ => ?_) (by simp [compEnvC, relabel, K.kind]))
        have lt2 : KeepsLT h'' h₄ := KeepsLT.sameBut hsb₄ (ns_notSeq hns'')
        have hkeep₄ : ∀ b o, b ∉ wr → h₂.get? b = some o → h₄.get? b = some o := fun b o hb e => hsb₄.extBut b o (aliveNe b o e).2 (hk'' b o hb (hkeep b o hb e))
        have st₄ : St (i + 1) h₄ := W.frame _ _ _ hst'' fun b hb o e => hsb₄.extBut b o (fun (q : b = C) => hCf (q ▸ hb)) e
        have R₄ := (R'.lt' lt1).lt' lt2
        have kS := keepS h₄ hkeep₄
        obtain ⟨d, hd, rd⟩ := hP i v hlt hPv
        have rd₄ : Rep X.G (α ++ (β₁ ++ γ)) h₄ v d := by
          have := rd.mono (α' := (α ++ β₁) ++ γ) ext_app (keepT h₄ hkeep₄)
          rwa [List.append_assoc] at this
        have hdrop : xs.drop i = d :: xs.drop (i + 1) := by
          obtain ⟨hl, he⟩ := List.getElem?_eq_some_iff.mp hd
          rw [List.drop_eq_getElem_cons hl, he]
        rw [hdrop] at hgo'
        simp only [compGo] at hgo'
        obtain ⟨ρt, hρ, hgo'⟩ := ifSome.get hgo'
        simp only [bindT, Option.some.injEq] at hρ
        subst hρ
        have FI₄ := K.vars O F kS hns₄ (if_pos rfl) rd₄
        have T₄ : GF X.G c.g X.DT h₄ := T.keeps kS
        refine wpAny_mono (ifs_sound h2 (compEnvC sc (closL env sc.names []) C env) { s with heap := h₄, toks := tk' + 1 } (α ++ (β₁ ++ γ)) _ (H ++ KK) _ _ (K.env O C) T₄ R₄ FI₄ hgo') (fun ok s₅ p => ?_) fun _ _ x => x
        obtain ⟨h₅, tk₅, γ₅, K₅, t, rfl, k₅, f₅, R₅, rfl, q₅⟩ := p
        dsimp only at k₅ f₅
        have hD5 : D ∉ (α ++ (β₁ ++ γ)) ++ γ₅ := fun hm => by
          rcases List.mem_append.mp hm with hm | hm
          · exact hD' hm
          · have := f₅ _ hm
            obtain ⟨nn, hh⟩ := lt2.plain (lt1.plain hpl)
            rw [hh] at this; cases this
        have fr5 : ∀ b ∈ β₁ ++ (γ ++ γ₅), s.heap.get? b = none := fun b hb => by
          rw [← List.append_assoc] at hb
          rcases List.mem_append.mp hb with hb | hb
          · exact hfresh b hb
          · cases e : s.heap.get? b with
            | none => rfl
            | some o => have := kS b o e; rw [f₅ b hb] at this; cases this
        have keep5 : ∀ b o, b ∉ wr → h₂.get? b = some o → h₅.get? b = some o := fun b o hb e => k₅ b o (hkeep₄ b o hb e)
        have ns5 := hns₄.keeps k₅
        have st5 : St (i + 1) h₅ := W.frame _ _ _ st₄ fun b _ o e => k₅ b o e
        have pl5 : h₅.PlainList D ys.toArray := plainList_keeps (lt2.plain (lt1.plain hpl)) k₅
        have rys5 : Reps X.G ((α ++ (β₁ ++ γ)) ++ γ₅) h₅ ys ds := ((rys.mono (fun _ _ e => e) (lt1.trans lt2).tup).up k₅)
        cases ok with
        | false =>
          simp only [Bool.false_eq_true, if_false] at q₅ ⊢
          refine ⟨xs.length + 1 - (i + 1), by (clear K h1 h2 O T F hRR k₁ f₁ R₁ k₂ W hst hwr hfield hfp hsrc hP hlen hgo hH2 hCC hns₃ hsb₃ hDD hDC hC deadD deadC aliveNe old hacc hst₃ hDf hCf hDw hCw deadS deadS2 keepS keepT D₁ hi hsti hkeep hfresh hD' R' hpl rys hdl hns hPv hst'' hk'' lt1 hns'' hns₄ hsb₄ lt2 hkeep₄ st₄ R₄ kS hd rd rd₄ hdrop hgo' FI₄ T₄ k₅ f₅ R₅ hD5 fr5 keep5 ns5 st5 pl5 rys5 q₅; omega), i + 1, h₅, tk₅, γ ++ γ₅, KK ++ K₅, ys, ds, _, rfl, hlt, rfl, st5, keep5, fr5, by simpa using hD5, by simpa using R₅, pl5, by simpa using rys5, by (clear K h1 h2 O T F hRR k₁ f₁ R₁ k₂ W hst hwr hfield hfp hsrc hP hlen hgo hH2 hCC hns₃ hsb₃ hDD hDC hC deadD deadC aliveNe old hacc hst₃ hDf hCf hDw hCw deadS deadS2 keepS keepT D₁ hi hsti hkeep hfresh hD' R' hpl rys hns hlt hPv hst'' hk'' lt1 hns'' hns₄ hsb₄ lt2 hkeep₄ st₄ R₄ kS hd rd rd₄ hdrop hgo' FI₄ T₄ k₅ f₅ R₅ hD5 fr5 keep5 ns5 st5 pl5 rys5 q₅; omega), ns5, ?_⟩
          simpa using q₅
        | true =>
          simp only [if_true] at q₅ ⊢
          refine wpAny_mono (h1 (compEnvC sc (closL env sc.names []) C env) { s with heap := h₅, toks := tk₅ } ((α ++ (β₁ ++ γ)) ++ γ₅) _ ((H ++ KK) ++ K₅) _ _ (K.env O C) (T₄.keeps k₅) R₅ (FI₄.up k₅) q₅) (fun y s₆ p => ?_) fun _ _ x => x
          obtain ⟨h₆, tk₆, γ₆, K₆, e, rfl, k₆, f₆, R₆, r₆, q₆⟩ := p
          dsimp only at k₆ f₆
          have pl6 := plainList_keeps pl5 k₆
          have hlen6 : ys.length ≤ lim := by rw [rys5.len]; (clear K h1 h2 O T F hRR k₁ f₁ R₁ k₂ W hst hwr hfield hfp hsrc hP hgo hH2 hCC hns₃ hsb₃ hDD hDC hC deadD deadC aliveNe old hacc hst₃ hDf hCf hDw hCw deadS deadS2 keepS keepT D₁ hi hsti hkeep hfresh hD' R' hpl rys hns hPv hst'' hk'' lt1 hns'' hns₄ hsb₄ lt2 hkeep₄ st₄ R₄ kS hd rd rd₄ hdrop hgo' FI₄ T₄ k₅ f₅ R₅ hD5 fr5 keep5 ns5 st5 pl5 rys5 q₅ k₆ f₆ R₆ r₆ q₆ pl6; omega)
          refine wpAny_list_append_plain (s := { s with heap := h₆, toks := tk₆ }) pl6 (fun h₇ pl7 hsb₇ => ?_) (by simp; have := lim_le; (clear K h1 h2 O T F hRR k₁ f₁ R₁ k₂ W hst hwr hfield hfp hsrc hP hlen hgo hH2 hCC hns₃ hsb₃ hDD hDC hC deadD deadC aliveNe old hacc hst₃ hDf hCf hDw hCw deadS deadS2 keepS keepT D₁ hi hsti hkeep hfresh hD' R' hpl rys hdl hns hlt hPv hst'' hk'' lt1 hns'' hns₄ hsb₄ lt2 hkeep₄ st₄ R₄ kS hd rd rd₄ hdrop hgo' FI₄ T₄ k₅ f₅ R₅ hD5 fr5 keep5 ns5 st5 pl5 rys5 q₅ k₆ f₆ R₆ r₆ q₆ pl6; omega))
          have hD6 : D ∉ ((α ++ (β₁ ++ γ)) ++ γ₅) ++ γ₆ := fun hm => by
            rcases List.mem_append.mp hm with hm | hm
            · exact hD5 hm
            · have := f₆ _ hm
              obtain ⟨nn, hh⟩ := pl5
              rw [hh] at this; cases this
          have fr6 : ∀ b ∈ β₁ ++ (γ ++ γ₅ ++ γ₆), s.heap.get? b = none := fun b hb => by
            rw [← List.append_assoc] at hb
            rcases List.mem_append.mp hb with hb | hb
            · exact fr5 b hb
            · cases e : s.heap.get? b with
              | none => rfl
              | some o => have := k₅ b o (kS b o e); rw [f₆ b hb] at this; cases this
          -- only D is written
          have nD : ∀ b ∈ (((α ++ (β₁ ++ γ)) ++ γ₅) ++ γ₆), b ≠ D := fun b hb q => hD6 (q ▸ hb)
          have tup7 : KeepsT h₆ h₇ := fun a items x => x.extBut hsb₇.extBut fun q => by
            subst q
            obtain ⟨o, ho, hc, _⟩ := x
            obtain ⟨nn, hh⟩ := pl6
            rw [hh] at ho; cases ho; simp at hc
          have R₇ : HR X.G (((α ++ (β₁ ++ γ)) ++ γ₅) ++ γ₆) h₇ (((H ++ KK) ++ K₅) ++ K₆) :=
            ⟨R₆.len, R₆.nodup, R₆.pos, fun n a xs e1 e2 => by
              obtain ⟨vs, l, q, z, p⟩ := R₆.lst n a xs e1 e2
              have hne := nD a (List.mem_of_getElem? e1)
              exact ⟨vs, l.extBut hsb₇.extBut hne, q.mono (fun _ _ e => e) tup7, z, fun hn => let ⟨n', e'⟩ := p hn; ⟨n', hsb₇.extBut _ _ hne e'⟩⟩⟩
          have aliveD : ∀ b o, h₂.get? b = some o → b ≠ D := fun b o e => (aliveNe b o e).1
          have ns7 := (ns5.keeps k₆).extBut hsb₇.extBut (Ne.symm hDC)
          refine ⟨xs.length + 1 - (i + 1), by (clear K h1 h2 O T F hRR k₁ f₁ R₁ k₂ W hst hwr hfield hfp hsrc hP hlen hgo hH2 hCC hns₃ hsb₃ hDD hDC hC deadD deadC aliveNe old hacc hst₃ hDf hCf hDw hCw deadS deadS2 keepS keepT D₁ hi hsti hkeep hfresh hD' R' hpl rys hdl hns hPv hst'' hk'' lt1 hns'' hns₄ hsb₄ lt2 hkeep₄ st₄ R₄ kS hd rd rd₄ hdrop hgo' FI₄ T₄ k₅ f₅ R₅ hD5 fr5 keep5 ns5 st5 pl5 rys5 q₅ k₆ f₆ R₆ r₆ q₆ pl6 hlen6 pl7 hsb₇ hD6 fr6 nD tup7 R₇ aliveD ns7; omega), i + 1, h₇, tk₆, γ ++ γ₅ ++ γ₆, KK ++ K₅ ++ K₆, ys ++ [y], ds ++ [e], _, rfl, hlt, rfl, ?_, ?_, fr6, by simpa using hD6, by simpa using R₇, ?_, ?_, by simp; (clear K h1 h2 O T F hRR k₁ f₁ R₁ k₂ W hst hwr hfield hfp hsrc hP hlen hgo hH2 hCC hns₃ hsb₃ hDD hDC hC deadD deadC aliveNe old hacc hst₃ hDf hCf hDw hCw deadS deadS2 keepS keepT D₁ hi hsti hkeep hfresh hD' R' hpl rys hns hlt hPv hst'' hk'' lt1 hns'' hns₄ hsb₄ lt2 hkeep₄ st₄ R₄ kS hd rd rd₄ hdrop hgo' FI₄ T₄ k₅ f₅ R₅ hD5 fr5 keep5 ns5 st5 pl5 rys5 q₅ k₆ f₆ R₆ r₆ q₆ pl6 hlen6 pl7 hsb₇ hD6 fr6 nD tup7 R₇ aliveD ns7; omega), ns7, ?_⟩
          · exact W.frame _ _ _ st5 fun b hb o eo => hsb₇.extBut b o (fun q => hDf (q ▸ hb)) (k₆ b o eo)
          · exact fun b o hb eo => hsb₇.extBut b o (aliveD b o eo) (k₆ b o (keep5 b o hb eo))
          · simpa using pl7
          · have : Reps X.G (((α ++ (β₁ ++ γ)) ++ γ₅) ++ γ₆) h₆ (ys ++ [y]) (ds ++ [e]) := (rys5.up k₆).append (.cons r₆ .nil)
            simpa using this.mono (fun _ _ e => e) tup7
          · simpa using q₆
      · have hin : i = xs.length := by (clear K h1 h2 O T F hRR k₁ f₁ R₁ k₂ W hst hwr hfield hfp hsrc hP hlen hgo hH2 hCC hns₃ hsb₃ hDD hDC hC deadD deadC aliveNe old hacc hst₃ hDf hCf hDw hCw deadS deadS2 keepS keepT D₁ hsti hkeep hfresh hD' R' hpl rys hdl hns hgo'; omega)
        subst hin
        refine W.done _ _ _ hsti fun h'' tk' hk'' => ?_
        have lt1 : KeepsLT h' h'' := fun a o items n e d => hk'' a o (fun hm => by
          obtain ⟨o', vs, e', d'⟩ := hfield _ h' hsti a hm
          rw [e] at e'; cases e'; rw [d] at d'; cases d') e
        refine hRR D C _ ⟨h'', tk', β₁ ++ γ, KK, ys, ds, m, rfl, keepS h'' fun b o hb e => hk'' b o hb (hkeep b o hb e), hfresh, R'.lt' lt1, deadS2 _ deadD, deadS2 _ deadC, hDC, hD', lt1.plain hpl, rys.mono (fun _ _ e => e) lt1.tup, by (clear K h1 h2 O T F hRR k₁ f₁ R₁ k₂ W hst hwr hfield hfp hsrc hP hgo hH2 hCC hns₃ hsb₃ hDD hDC hC deadD deadC aliveNe old hacc hst₃ hDf hCf hDw hCw deadS deadS2 keepS keepT D₁ hkeep hfresh hD' R' hpl rys hns hi hsti hgo' hlt hk'' lt1; omega), hns.at' fun o e => hk'' C o hCw e, ?_⟩
        simpa [compGo] using hgo'
    · simpa using (R₁.keeps k₂).keeps old
    · simp only [List.drop_zero, List.nil_append]; exact hgo
  exact codeAny_compStart_list (loop _ rfl) (W.self 0 _ _ _ hst₃ (loop _ rfl))
end
end Mine

set_option autoImplicit false
set_option linter.unusedSimpArgs false
set_option linter.unusedVariables false
namespace Mine
open PySem PyProof.Rows PySem.Calls

noncomputable def notSet (e : Expr) : Bool := match e with | .Set .. => false | _ => true
theorem folded_pure {e : Expr} (h : notSet e = true) (env : Env) (x : Value) : foldedSetIterable e env x = pure x := by
  cases e <;> first | rfl | cases h

section
variable {X : SX} {c : MC}

theorem compEnd_post {s : Shared} {α : List Addr} {H : Hp} {Q : V → Hp → Prop} {D C : Addr} {s' : Shared} (p : CompEnd X s α H (fun ys H5 => Q (.lst H5.length) (H5 ++ [ys])) D C s') {h'' : Heap} (hs : Heap.SameBut C s'.heap h'') :
    Post X.G (Rep X.G) s α H Q (.ref D) { s' with heap := h'' } := by
  obtain ⟨h', tk, β, K, ys, ds, m, rfl, k, f, R, dD, dC, hDC, hD, hpl, rys, z, hn, q⟩ := p
  have lt : KeepsLT h' h'' := KeepsLT.sameBut hs (ns_notSeq hn)
  have kk : KeepsH s.heap h'' := fun b o e => hs.extBut b o (fun q => by rw [q, dC] at e; cases e) (k b o e)
  have R' := R.lt' lt
  refine ⟨h'', tk, β ++ [D], K ++ [ds], .lst (H ++ K).length, rfl, kk, ?_, ?_, ?_, by simpa using q⟩
  · intro b hb
    rcases List.mem_append.mp hb with hb | hb
    · exact f b hb
    · simp at hb; subst hb; exact dD
  · have := R'.push (.refl _) hD (lt.plain hpl) (rys.mono (fun _ _ e => e) lt.tup) z
    simpa using this
  · refine Rep.lst ?_
    rw [← R.len, ← List.append_assoc, List.getElem?_append_right (Nat.le_refl _)]; simp

theorem se_comp {elt iter : Expr} {x : Str} {px pos : Pos} {ifs : List Expr} {sc : Scope} {cs : List Str} {pelt : PE} {caps : List Nat} {pit : PI} {cond : PO}
    (K : CompOk c sc x cs caps) (h1 : SE X ⟨c.g, sc, x :: cs⟩ pelt elt) (h2 : SIfs X ⟨c.g, sc, x :: cs⟩ cond ifs) (h3 : SI X c pit iter) (hns : notSet iter = true) :
    SE X c (.comp pelt 1 caps pit cond) (.ListComp elt [⟨.Name x px, iter, ifs, 0⟩] sc pos) := fun env s α ρ H Q E O T R F q => by
  simp only [qE1, qE2, qE5, qE7, qE8, qE9, qE10, qE11, qE12, qE13, qE14, qE15, qE16, qE17, qE18, qE19, qE20, qE21, qE22] at q
  rw [eval_ListComp]
  refine wpAny_comprehension_free (use := none) rfl (folded_pure hns env) (K.clos O) K.kind K.names (wpAny_mono (h3 env s α ρ H _ E O T R F q) (fun xv s₁ p => wpAny_mono p (fun it s₂ p => ?_) fun _ _ e => e) fun _ _ e => e)
  refine comp_core K h1 h2 env s α ρ H _ E O T F it s₂ p (fun acc C => compPost (model X.prog X.w) X.A E none (Post X.G (Rep X.G) s α H Q) acc C) fun D C s' p => ?_
  obtain ⟨m, hm⟩ : ∃ m, s'.heap.Ns C m := by obtain ⟨h', tk, β, K, ys, ds, m, rfl, k, f, R, dD, dC, hDC, hD, hpl, rys, z, hn, q⟩ := p; exact ⟨m, hn⟩
  exact ⟨m, hm, fun h' hs => compEnd_post p hs⟩

theorem se_idx {a b : PE} {x i : Expr} {pos : Pos} (hs : (match i with | .Slice .. => false | _ => true) = true) (h1 : SE X c a x) (h2 : SE X c b i) : SE X c (.idx a b) (.Subscript x i pos) := fun env s α ρ H Q E O T R F q => by
  simp only [qE1, qE2, qE5, qE7, qE8, qE9, qE10, qE11, qE12, qE13, qE14, qE15, qE16, qE17, qE18, qE19, qE20, qE21, qE22] at q
  refine Subscript_ (two h1 h2 O T R F (Q := fun x y H2 => idxWp x y H2 Q) q fun h' tk β K u v x y k f R' ru rv q' => ?_)
  refine wpAny_mono (idx_sound (s := { s with heap := h', toks := tk }) (fun o i' => ?_) R' ru rv q') (fun _ _ p => p.trans k f) fun _ _ x => x
  cases i <;> first | rfl | cases hs

noncomputable def SO (X : SX) (c : MC) (po : PO) (o : Option Expr) : Prop :=
  match po with
  | .no => o = none
  | .some pe => ∃ e, o = some e ∧ SE X c pe e

/-- a slice's end -/
theorem so_sound {po : PO} {o : Option Expr} (h : SO X c po o) (env : Env) (s : Shared) (α : List Addr) (ρ : Loc) (H : Hp) (Q : Option V → Hp → Prop) (E : Value → Shared → Prop) (O : EnvOk c env) (T : GF X.G c.g X.DT s.heap) (R : HR X.G α s.heap H)
    (F : FI X.G c env α s.heap ρ) (q : wpO X.sub X.Φ po ρ H Q) :
    wpAny (model X.prog X.w) X.A (valueOrNone (evalOpt o env)) (Post X.G (fun α h v (d : Option V) => match d with | none => v = .none | some d => Rep X.G α h v d) s α H Q) E s := by
  cases po with
  | no =>
    cases h
    simp only [qO1, qO2] at q
    exact wpAny_pure (Post.same' (d := none) R rfl q)
  | some pe =>
    obtain ⟨e, rfl, h⟩ := h
    simp only [qO1, qO2] at q
    refine wpAny_mono (h env s α ρ H _ E O T R F q) (fun v s₁ p => ?_) fun _ _ x => x
    obtain ⟨h₁, tk₁, β, K, d, e, k, f, R', r, q⟩ := p
    exact ⟨h₁, tk₁, β, K, some d, e, k, f, R', r, q⟩

theorem slc_ends {x : V} {lo hi : Option V} {H : Hp} {Q : V → Hp → Prop} (q : slcWp x lo hi H Q) : (lo = none ∨ ∃ a, lo = some (.int a)) ∧ (hi = none ∨ ∃ a, hi = some (.int a)) := by
  unfold slcWp at q
  split at q
  · obtain ⟨xs, _, q⟩ := ifSome.get q
    obtain ⟨p, hc, _⟩ := ifSome.get q
    unfold cutAt at hc
    split at hc
    · exact ⟨.inr ⟨_, rfl⟩, .inr ⟨_, rfl⟩⟩
    · exact ⟨.inl rfl, .inr ⟨_, rfl⟩⟩
    · exact ⟨.inr ⟨_, rfl⟩, .inl rfl⟩
    · exact ⟨.inl rfl, .inl rfl⟩
    · cases hc
  · exact q.elim

theorem se_slc {a : PE} {lo hi : PO} {x : Expr} {l h : Option Expr} {p pos : Pos} (h1 : SE X c a x) (h2 : SO X c lo l) (h3 : SO X c hi h) : SE X c (.slc a lo hi) (.Subscript x (.Slice l h none p) pos) := fun env s α ρ H Q E O T R F q => by
  simp only [qE1, qE2, qE5, qE7, qE8, qE9, qE10, qE11, qE12, qE13, qE14, qE15, qE16, qE17, qE18, qE19, qE20, qE21, qE22] at q
  refine Subscript_ (wpAny_mono (h1 env s α ρ H _ E O T R F q) (fun u s₁ p₁ => ?_) fun _ _ x => x)
  refine p₁.go fun h₁ tk₁ β₁ K₁ d₁ k₁ f₁ R₁ r₁ q₁ => ?_
  rw [arm_eval_Slice]
  refine wpAny_bind (wpAny_mono (so_sound h2 env { s with heap := h₁, toks := tk₁ } (α ++ β₁) ρ (H ++ K₁) _ E O (T.keeps k₁) R₁ (F.up k₁) q₁) (fun lv s₂ p₂ => ?_) fun _ _ x => x)
  refine p₂.go fun h₂ tk₂ β₂ K₂ d₂ k₂ f₂ R₂ r₂ q₂ => ?_
  dsimp only at k₂ f₂ ⊢
  refine wpAny_bind (wpAny_holding (wpAny_mono (so_sound h3 env { s with heap := h₂, toks := tk₂ } (α ++ β₁ ++ β₂) ρ (H ++ K₁ ++ K₂) _ E O (T.keeps (k₁.trans k₂)) R₂ ((F.up k₁).up k₂) q₂) (fun hv s₃ p₃ => ?_) fun _ _ x => x))
  refine p₃.go fun h₃ tk₃ β₃ K₃ d₃ k₃ f₃ R₃ r₃ q₃ => ?_
  dsimp only at k₃ f₃ ⊢
  refine wpAny_bind (wpAny_holding (wpAny_pure ?_))
  refine wpAny_newObj_type ?_ (by show Array.size _ ≤ _; rw [sizeLine_eq]; simp)
  dsimp only
  have k4 := keeps_push h₃ { cls := .type "slice", data := .fields #[lv, hv, .none] }
  have kk : KeepsH s.heap (h₃.push { cls := .type "slice", data := .fields #[lv, hv, .none] }) := ((k₁.trans k₂).trans k₃).trans k4
  have ff : ∀ b ∈ β₁ ++ β₂ ++ β₃, s.heap.get? b = none := fun b hb => by
    rcases List.mem_append.mp hb with hb | hb
    · rcases List.mem_append.mp hb with hb | hb
      · exact f₁ b hb
      · cases e : s.heap.get? b with
        | none => rfl
        | some o => have := k₁ b o e; rw [f₂ b hb] at this; cases this
    · cases e : s.heap.get? b with
      | none => rfl
      | some o => have := k₂ b o (k₁ b o e); rw [f₃ b hb] at this; cases this
  have ru : Rep X.G (α ++ (β₁ ++ β₂ ++ β₃)) (h₃.push { cls := .type "slice", data := .fields #[lv, hv, .none] }) u d₁ := by
    have := ((r₁.up (β := β₂) k₂).up (β := β₃) k₃).mono (fun _ _ e => e) (.of k4)
    simpa using this
  have R4 : HR X.G (α ++ (β₁ ++ β₂ ++ β₃)) (h₃.push { cls := .type "slice", data := .fields #[lv, hv, .none] }) (H ++ (K₁ ++ K₂ ++ K₃)) := by
    have := R₃.keeps k4
    simpa using this
  have q4 : slcWp d₁ d₂ d₃ (H ++ (K₁ ++ K₂ ++ K₃)) Q := by simpa using q₃
  obtain ⟨e2, e3⟩ := slc_ends q4
  have lo' : (lv = .none ∧ d₂ = none) ∨ ∃ a ta, lv = .int a ta ∧ d₂ = some (.int a) := by
    rcases e2 with rfl | ⟨a, rfl⟩
    · exact .inl ⟨r₂, rfl⟩
    · cases r₂ with | int i t => exact .inr ⟨_, t, rfl, rfl⟩
  have hi' : (hv = .none ∧ d₃ = none) ∨ ∃ a ta, hv = .int a ta ∧ d₃ = some (.int a) := by
    rcases e3 with rfl | ⟨a, rfl⟩
    · exact .inl ⟨r₃, rfl⟩
    · cases r₃ with | int i t => exact .inr ⟨_, t, rfl, rfl⟩
  exact wpAny_mono (slc_sound (s := { s with heap := h₃.push { cls := .type "slice", data := .fields #[lv, hv, .none] }, toks := tk₃ }) (fun _ _ => rfl) R4 ru (Heap.IsSliceOf.new h₃ lv hv .none) lo' hi' q4) (fun _ _ p => p.trans kk ff) fun _ _ x => x
end
end Mine

set_option autoImplicit false
set_option linter.unusedSimpArgs false
set_option linter.unusedVariables false
namespace Mine
open PySem PyProof.Rows PySem.Calls

theorem isGlob_of_isNm {c : MC} {e : Expr} {x : Str} (h : c.isNm e x = true) : ∃ p, e = .Name x p ∧ c.isGlob x = true := MC.isNm_spec h

theorem mem_abs : (Str.ofString "abs") ∈ bltNames := by simp [bltNames]
theorem mem_len : (Str.ofString "len") ∈ bltNames := by simp [bltNames]
theorem mem_int : (Str.ofString "int") ∈ bltNames := by simp [bltNames]
theorem mem_list : (Str.ofString "list") ∈ bltNames := by simp [bltNames]
theorem mem_tuple : (Str.ofString "tuple") ∈ bltNames := by simp [bltNames]
theorem mem_min : (Str.ofString "min") ∈ bltNames := by simp [bltNames]

section
variable {X : SX} {c : MC}

theorem se_bi {b : Bi} {f : Expr} {ps : PEs} {e : Expr} {es : List Expr} {pos : Pos} (hA : AOk X.prog X.A) (hb : b ≠ .listrev) (hf : c.isNm f (biName b) = true) (hn : noStar (e :: es) = true) (h : SEs X c ps (e :: es)) : SE X c (.bi b ps) (.Call f (e :: es) [] pos) := fun env s α ρ H Q E O T R F q => by
  obtain ⟨p, rfl, hx⟩ := isGlob_of_isNm hf
  simp only [qE1, qE2, qE5, qE7, qE8, qE9, qE10, qE11, qE12, qE13, qE14, qE15, qE16, qE17, qE18, qE19, qE20, qE21, qE22] at q
  cases b with
  | abs => exact call_b bootAbs (mem_abs) hx hn h O T R F q fun h' tk β K vs ds k R' r q' => bi_sound (b := .abs) (s := { s with heap := h', toks := tk }) hA R' r q'
  | len => exact call_b bootLen (mem_len) hx hn h O T R F q fun h' tk β K vs ds k R' r q' => bi_sound (b := .len) (s := { s with heap := h', toks := tk }) hA R' r q'
  | int => exact call_t bootInt (mem_int) hx hn h O T R F q fun h' tk β K vs ds k R' r q' => bi_sound (b := .int) (s := { s with heap := h', toks := tk }) hA R' r q'
  | list => exact call_t bootList (mem_list) hx hn h O T R F q fun h' tk β K vs ds k R' r q' => bi_sound (b := .list) (s := { s with heap := h', toks := tk }) hA R' r q'
  | tuple => exact call_t bootTuple (mem_tuple) hx hn h O T R F q fun h' tk β K vs ds k R' r q' => bi_sound (b := .tuple) (s := { s with heap := h', toks := tk }) hA R' r q'
  | min => exact call_b bootMin (mem_min) hx hn h O T R F q fun h' tk β K vs ds k R' r q' => bi_sound (b := .min) (s := { s with heap := h', toks := tk }) hA R' r q'
  | listrev => exact absurd rfl hb

noncomputable def tyStr : Ty → String
  | .int => "int" | .bool => "bool" | .tuple => "tuple" | .list => "list" | .cls _ => ""

theorem isi_sound {prog : Program} {w : World} {A : Around} {E : Value → Shared → Prop} {s : Shared} {G : GV} {α : List Addr} {H : Hp} {Q : V → Hp → Prop} {u : Value} {x : V} {t : Ty} {b : Bool} {sub : Nat → Nat → Bool}
    (R : HR G α s.heap H) (r : Rep G α s.heap u x) (e : isTy sub x t = some b) (q : Q (.bool b) H) : wpAny (model prog w) A (call (.builtin "isinstance") [u, .type (tyStr t)]) (Post G (Rep G) s α H Q) E s := by
  have yes : b = true → Post G (Rep G) s α H Q (.bool true) s := fun h => by subst h; exact Post.same' R (.bool _) q
  have no : b = false → Post G (Rep G) s α H Q (.bool false) { s with toks := s.toks + 1 } := fun h => by subst h; exact Post.same R (.bool _) q _
  cases r with
  | int i tk => cases t <;> first
    | exact IsiPair.int_int (yes (Option.some.inj e).symm) | exact IsiPair.int_bool (no (Option.some.inj e).symm) | exact IsiPair.int_tuple (no (Option.some.inj e).symm) | exact IsiPair.int_list (no (Option.some.inj e).symm) | cases e
  | bool i => cases t <;> first
    | exact IsiPair.bool_int (yes (Option.some.inj e).symm) | exact IsiPair.bool_bool (yes (Option.some.inj e).symm) | exact IsiPair.bool_tuple (no (Option.some.inj e).symm) | exact IsiPair.bool_list (no (Option.some.inj e).symm) | cases e
  | none => cases t <;> first
    | exact IsiPair.NoneType_int (no (Option.some.inj e).symm) | exact IsiPair.NoneType_bool (no (Option.some.inj e).symm) | exact IsiPair.NoneType_tuple (no (Option.some.inj e).symm) | exact IsiPair.NoneType_list (no (Option.some.inj e).symm) | cases e
  | str i tk => cases t <;> first
    | exact IsiPair.str_int (no (Option.some.inj e).symm) | exact IsiPair.str_bool (no (Option.some.inj e).symm) | exact IsiPair.str_tuple (no (Option.some.inj e).symm) | exact IsiPair.str_list (no (Option.some.inj e).symm) | cases e
  | tup ht rs z => cases t <;> first
    | exact IsiPair.isTuple_int ht (fun _ _ e => e) (no (Option.some.inj e).symm) | exact IsiPair.isTuple_bool ht (fun _ _ e => e) (no (Option.some.inj e).symm) | exact IsiPair.isTuple_tuple ht (fun _ _ e => e) (yes (Option.some.inj e).symm) | exact IsiPair.isTuple_list ht (fun _ _ e => e) (no (Option.some.inj e).symm) | cases e
  | lst ha =>
    obtain ⟨xs, hx⟩ := R.at ha
    obtain ⟨vs, hl, _⟩ := R.getList ha hx
    cases t <;> first
    | exact IsiPair.isList_int hl (fun _ _ e => e) (no (Option.some.inj e).symm) | exact IsiPair.isList_bool hl (fun _ _ e => e) (no (Option.some.inj e).symm) | exact IsiPair.isList_tuple hl (fun _ _ e => e) (no (Option.some.inj e).symm) | exact IsiPair.isList_list hl (fun _ _ e => e) (yes (Option.some.inj e).symm) | cases e
  | fn _ => cases t <;> cases e

theorem rep_no_cls {G : GV} {α : List Addr} {h : Heap} {u : Value} {x : V} {sub : Nat → Nat → Bool} (r : Rep G α h u x) {ts : List Ty} {bs : List Bool} (hc : ts.any Ty.isCls = true) (e : ts.mapM (isTy sub x) = some bs) : False := by
  induction ts generalizing bs with
  | nil => simp at hc
  | cons t ts ih =>
    simp only [List.mapM_cons, Option.bind_eq_bind, Option.bind_eq_some_iff, Option.pure_def, Option.some.injEq] at e
    obtain ⟨d, e1, ds', e2, rfl⟩ := e
    simp only [List.any_cons, Bool.or_eq_true] at hc
    rcases hc with hc | hc
    · cases t <;> simp [Ty.isCls] at hc
      cases r <;> cases e1
    · exact ih hc e2

theorem tyLoad {t : Ty} {e : Expr} (ht : t.isCls = false) (he : c.isTyp t e = true) (env : Env) (s : Shared) (Z : Value → Shared → Prop) (E : Value → Shared → Prop) (O : EnvOk c env) (T : GF X.G c.g X.DT s.heap) (hz : Z (.type (tyStr t)) s) :
    notStar e = true ∧ wpAny (model X.prog X.w) X.A (eval e env) Z E s := by
  cases t with
  | int => obtain ⟨p, rfl, hx⟩ := isGlob_of_isNm he; exact ⟨rfl, load_b bootInt (by simp [bltNames]) hx O T hz⟩
  | bool => obtain ⟨p, rfl, hx⟩ := isGlob_of_isNm he; exact ⟨rfl, load_b bootBool (by simp [bltNames]) hx O T hz⟩
  | tuple => obtain ⟨p, rfl, hx⟩ := isGlob_of_isNm he; exact ⟨rfl, load_b bootTuple (by simp [bltNames]) hx O T hz⟩
  | list => obtain ⟨p, rfl, hx⟩ := isGlob_of_isNm he; exact ⟨rfl, load_b bootList (by simp [bltNames]) hx O T hz⟩
  | cls k => simp [Ty.isCls] at ht

theorem tyStar {t : Ty} {e : Expr} (he : c.isTyp t e = true) : notStar e = true := by
  cases t <;> simp only [MC.isTyp] at he <;> first
    | (obtain ⟨p, rfl, hx⟩ := isGlob_of_isNm he; rfl)
    | (split at he
       · obtain ⟨p, rfl, hx⟩ := isGlob_of_isNm he; rfl
       · cases he)

theorem se_isi1 {a : PE} {t : Ty} {f x te : Expr} {pos : Pos} (hf : c.isNm f "isinstance" = true) (hn : notStar x = true) (h : SE X c a x) (ht : c.isTyp t te = true) : SE X c (.isi a [t]) (.Call f [x, te] [] pos) := fun env s α ρ H Q E O T R F q => by
  obtain ⟨p, rfl, hx⟩ := isGlob_of_isNm hf
  simp only [qE1, qE2, qE5, qE7, qE8, qE9, qE10, qE11, qE12, qE13, qE14, qE15, qE16, qE17, qE18, qE19, qE20, qE21, qE22] at q
  have hst := tyStar ht
  refine Call_ (load_b bootIsi (by simp [bltNames]) hx O T (callWith_builtin1 (args_cons (wpAny_mono (h env s α ρ H _ E O T R F q) (fun u s₁ p => ?_) fun _ _ y => y) (starEach_cons hn)) (starEach_cons hn) (star_any (by simp [noStar, hst]))))
  obtain ⟨h₁, tk₁, β, K, d, rfl, k, f', R', r, q'⟩ := p
  obtain ⟨bs, e, q'⟩ := ifSome.get q'
  cases hc : t.isCls with
  | true => exact (rep_no_cls r (ts := [t]) (by simp [hc]) e).elim
  | false =>
    simp only [List.mapM_cons, List.mapM_nil, Option.bind_eq_bind, Option.bind_eq_some_iff, Option.pure_def, Option.some.injEq] at e
    obtain ⟨b, e1, _, rfl, rfl⟩ := e
    refine args_cons (tyLoad hc ht env _ _ _ O (T.keeps k) (args_nil ?_)).2 (starEach_cons hst)
    exact wpAny_mono (isi_sound (s := { s with heap := h₁, toks := tk₁ }) R' r e1 (by simpa using q')) (fun _ _ p => p.trans k f') fun _ _ y => y

theorem se_isiN {a : PE} {ts : List Ty} {f x : Expr} {es : List Expr} {kk : Nat} {pp pos : Pos} (hf : c.isNm f "isinstance" = true) (hn : notStar x = true) (h : SE X c a x) (hc : ts.any Ty.isCls = true) : SE X c (.isi a ts) (.Call f [x, .Tuple es kk pp] [] pos) := fun env s α ρ H Q E O T R F q => by
  obtain ⟨p, rfl, hx⟩ := isGlob_of_isNm hf
  simp only [qE1, qE2, qE5, qE7, qE8, qE9, qE10, qE11, qE12, qE13, qE14, qE15, qE16, qE17, qE18, qE19, qE20, qE21, qE22] at q
  refine Call_ (load_b bootIsi (by simp [bltNames]) hx O T (callWith_builtin1 (args_cons (wpAny_mono (h env s α ρ H _ E O T R F q) (fun u s₁ p => ?_) fun _ _ y => y) (starEach_cons hn)) (starEach_cons hn) (star_any (by simp [noStar, notStar]))))
  obtain ⟨h₁, tk₁, β, K, d, rfl, k, f', R', r, q'⟩ := p
  obtain ⟨bs, e, q'⟩ := ifSome.get q'
  exact (rep_no_cls r hc e).elim
end
end Mine

set_option autoImplicit false
set_option linter.unusedSimpArgs false
set_option linter.unusedVariables false
set_option linter.unusedSectionVars false
namespace Mine
open PySem PyProof.Rows PySem.Calls

theorem capNames_spec {c : MC} : ∀ {caps : List Nat} {cs : List Str}, capNames c caps = some cs → cs.length = caps.length ∧ ∀ (i j : Nat), caps[i]? = some j → ∃ n, cs[i]? = some n ∧ c.names[j]? = some n
  | [], cs, h => by simp [capNames] at h; subst h; exact ⟨rfl, fun i j e => by simp at e⟩
  | k :: r, cs, h => by
    simp only [capNames, List.mapM_cons, Option.bind_eq_bind, Option.bind_eq_some_iff, Option.pure_def, Option.some.injEq] at h
    obtain ⟨n, hn, ds, hd, rfl⟩ := h
    obtain ⟨h1, h2⟩ := capNames_spec (caps := r) hd
    refine ⟨by simp [h1], fun i j e => ?_⟩
    cases i with
    | zero => simp at e; subst e; exact ⟨n, rfl, hn⟩
    | succ i => simp at e; obtain ⟨m, a, b⟩ := h2 i j e; exact ⟨m, by simpa using a, b⟩

theorem compOk_of {c : MC} {sc : Scope} {x : Str} {cs : List Str} {caps : List Nat} (hc : capNames c caps = some cs)
    (hout : cs.all (fun n => decide (c.scope.names.lookup n = some NameKind.cell) || decide (c.scope.names.lookup n = some NameKind.free)) = true)
    (hs : compScopeOk sc [x] cs = true) : CompOk c sc x cs caps := by
  unfold compScopeOk at hs
  simp only [Bool.and_eq_true, decide_eq_true_eq, List.all_eq_true] at hs
  obtain ⟨⟨⟨hk, hs⟩, hx⟩, hcs⟩ := hs
  simp only [List.all_eq_true, Bool.or_eq_true, decide_eq_true_eq] at hout
  refine ⟨hk, fun p hp hl => ?_, fun p hp hl => ?_, fun p hp hl => ?_, hx x (by simp), fun n hn => hcs n hn, fun n hn => hout n hn, fun p hp hl => ?_, (capNames_spec hc).2⟩
  · have := hs p hp; rw [hl] at this; simp at this; exact this.1
  · have := hs p hp; rw [hl] at this; simpa using this
  · have := hs p hp; rw [hl] at this; simp at this
  · have := hs p hp; rw [hl] at this; simp at this; exact this.2

theorem pt_const {a b p} : PlainTest (.Constant a b p) := fun _ _ => rfl
theorem pt_name {a p} : PlainTest (.Name a p) := fun _ _ => rfl
theorem pt_bin {a b d p} : PlainTest (.BinOp a b d p) := fun _ _ => rfl
theorem pt_neg {a p} : PlainTest (.UnaryOp .USub a p) := fun _ _ => rfl
theorem pt_call {a b d p} : PlainTest (.Call a b d p) := fun _ _ => rfl
theorem pt_sub {a b p} : PlainTest (.Subscript a b p) := fun _ _ => rfl
theorem pt_tup {a b p} : PlainTest (.Tuple a b p) := fun _ _ => rfl
theorem pt_list {a p} : PlainTest (.List a p) := fun _ _ => rfl
theorem pt_comp {a b d p} : PlainTest (.ListComp a b d p) := fun _ _ => rfl

theorem both {X : SX} {c : MC} {pe : PE} {e : Expr} (h : SE X c pe e) (pt : PlainTest e) : SE X c pe e ∧ SC X c pe e := ⟨h, sc_of_se h pt⟩
theorem notStarM_eq (e : Expr) : notStarM e = notStar e := by cases e <;> rfl

theorem one_spec {β : Type} {l : List β} {x : β} (h : isOne l = some x) : l = [x] := by
  cases l with
  | nil => exact (Option.some_ne_none x h.symm).elim
  | cons y r => cases r with
    | nil => cases h; rfl
    | cons _ _ => exact (Option.some_ne_none x h.symm).elim
theorem varNm_spec {c : MC} {i : Nat} {e : Expr} (h : c.varNm i e = true) : ∃ x p, e = .Name x p ∧ c.isVar i x = true := by
  cases e <;> first | exact (Bool.false_ne_true h).elim | exact ⟨_, _, rfl, h⟩
theorem fnNm_spec {c : MC} {k : Nat} {e : Expr} (h : c.fnNm k e = true) : ∃ x p, e = .Name x p ∧ c.g.fns[k]? = some x ∧ c.isGlob x = true := by
  unfold MC.fnNm at h
  cases hx : c.g.fns[k]? with
  | none => rw [hx] at h; exact (Bool.false_ne_true h).elim
  | some x =>
    rw [hx] at h
    obtain ⟨p, rfl, hg⟩ := MC.isNm_spec h
    exact ⟨x, p, rfl, rfl, hg⟩
theorem tgtName_spec {e : Expr} {x : Str} (h : tgtName e = some x) : ∃ p, e = .Name x p := by
  cases e <;> first | exact (Option.some_ne_none x h.symm).elim | exact ⟨_, by rw [show x = _ from (Option.some.inj h).symm]⟩
theorem isRev_spec {b : Bi} (h : (!b.isRev) = true) : b ≠ .listrev := fun e => by subst e; exact Bool.false_ne_true h

section
variable {c : MC}
theorem inv_cmp {op : COp} {a b : PE} {e : Expr} (h : matchE c (.cmp op a b) e = true) : ∃ l r p, e = .Compare l [cmpOf op] [r] p ∧ behindInMarks (cmpOf op) r = false ∧ matchE c a l = true ∧ matchE c b r = true := by
  cases e <;> first | exact (Bool.false_ne_true h).elim | skip
  rename_i l os rs p
  have h : (match isOne os, isOne rs with | some o, some r => decide (o = cmpOf op) && !behindInMarks o r && matchE c a l && matchE c b r | _, _ => false) = true := h
  cases h1 : isOne os with
  | none => rw [h1] at h; exact (Bool.false_ne_true h).elim
  | some o => cases h2 : isOne rs with
    | none => rw [h1, h2] at h; exact (Bool.false_ne_true h).elim
    | some r =>
      rw [h1, h2] at h
      have h : (decide (o = cmpOf op) && !behindInMarks o r && matchE c a l && matchE c b r) = true := h
      simp only [Bool.and_eq_true, decide_eq_true_eq, Bool.not_eq_true'] at h
      obtain ⟨⟨⟨rfl, hm⟩, h3⟩, h4⟩ := h
      rw [one_spec h1, one_spec h2]
      exact ⟨l, r, p, rfl, hm, h3, h4⟩
theorem inv_call {f : Nat} {es : PEs} {e : Expr} (h : matchE c (.call f es) e = true) : ∃ x p a as pos, e = .Call (.Name x p) (a :: as) [] pos ∧ c.g.fns[f]? = some x ∧ c.isGlob x = true ∧ matchEs c es (a :: as) = true := by
  cases e <;> first | exact (Bool.false_ne_true h).elim | skip
  rename_i g as kw pos
  have h : (kw.isEmpty && c.fnNm f g && !as.isEmpty && matchEs c es as) = true := h
  simp only [Bool.and_eq_true, List.isEmpty_iff, Bool.not_eq_true', List.isEmpty_eq_false_iff] at h
  obtain ⟨⟨⟨rfl, h1⟩, h0⟩, h3⟩ := h
  obtain ⟨x, p, rfl, h1, h2⟩ := fnNm_spec h1
  cases as with
  | nil => exact absurd rfl h0
  | cons a r => exact ⟨x, p, a, r, pos, rfl, h1, h2, h3⟩
theorem inv_bi {b : Bi} {es : PEs} {e : Expr} (h : matchE c (.bi b es) e = true) : ∃ f a as pos, e = .Call f (a :: as) [] pos ∧ b ≠ .listrev ∧ c.isNm f (biName b) = true ∧ matchEs c es (a :: as) = true := by
  cases e <;> first | exact (Bool.false_ne_true h).elim | skip
  rename_i f as kw pos
  have h : (!b.isRev && kw.isEmpty && c.isNm f (biName b) && !as.isEmpty && matchEs c es as) = true := h
  simp only [Bool.and_eq_true, List.isEmpty_iff, List.isEmpty_eq_false_iff] at h
  obtain ⟨⟨⟨⟨hb, rfl⟩, h1⟩, h0⟩, h3⟩ := h
  cases as with
  | nil => exact (Bool.false_ne_true h0).elim
  | cons a r => exact ⟨f, a, r, pos, rfl, isRev_spec hb, h1, h3⟩
theorem inv_isi {a : PE} {ts : List Ty} {e : Expr} (h : matchE c (.isi a ts) e = true) : ∃ f x t pos, e = .Call f [x, t] [] pos ∧ c.isNm f "isinstance" = true ∧ matchE c a x = true ∧ notStar x = true ∧ c.isiOk ts t = true := by
  cases e <;> first | exact (Bool.false_ne_true h).elim | skip
  rename_i f as kw pos
  cases as with
  | nil => exact (Bool.false_ne_true h).elim
  | cons x ys =>
    have h : (match isOne ys with | some t => kw.isEmpty && c.isNm f "isinstance" && matchE c a x && notStarM x && c.isiOk ts t | none => false) = true := h
    cases h1 : isOne ys with
    | none => rw [h1] at h; exact (Bool.false_ne_true h).elim
    | some t =>
      rw [h1] at h
      have h : (kw.isEmpty && c.isNm f "isinstance" && matchE c a x && notStarM x && c.isiOk ts t) = true := h
      simp only [Bool.and_eq_true, List.isEmpty_iff] at h
      obtain ⟨⟨⟨⟨rfl, h2⟩, h3⟩, h4⟩, h5⟩ := h
      rw [one_spec h1]
      exact ⟨f, x, t, pos, rfl, h2, h3, notStarM_eq x ▸ h4, h5⟩
theorem inv_isiOk {ts : List Ty} {t : Expr} (h : c.isiOk ts t = true) : (∃ es k p, t = .Tuple es k p ∧ ts.any Ty.isCls = true) ∨ ∃ ty, ts = [ty] ∧ c.isTyp ty t = true := by
  have one : c.areTyps ts [t] = true → ∃ ty, ts = [ty] ∧ c.isTyp ty t = true := fun h => by
    cases ts with
    | nil => exact (Bool.false_ne_true h).elim
    | cons ty r => cases r with
      | nil => exact ⟨ty, rfl, (Bool.and_eq_true_iff.mp h).1⟩
      | cons _ _ => exact (Bool.false_ne_true (Bool.and_eq_true_iff.mp h).2).elim
  cases t <;> first | exact .inr (one h) | skip
  rename_i es k p
  have h : (decide (2 ≤ ts.length) && ts.all Ty.isCls && c.areTyps ts es) = true := h
  simp only [Bool.and_eq_true, decide_eq_true_eq] at h
  cases ts with
  | nil => exact absurd h.1.1 (by decide)
  | cons t r =>
    have h5 := h.1.2
    rw [List.all_cons, Bool.and_eq_true] at h5
    exact .inl ⟨es, k, p, rfl, by rw [List.any_cons, h5.1]; rfl⟩
theorem inv_slc {a : PE} {lo hi : PO} {e : Expr} (h : matchE c (.slc a lo hi) e = true) : ∃ x l hh p pos, e = .Subscript x (.Slice l hh none p) pos ∧ matchE c a x = true ∧ matchO c lo l = true ∧ matchO c hi hh = true := by
  cases e <;> first | exact (Bool.false_ne_true h).elim | skip
  rename_i x i pos
  cases i <;> first | exact (Bool.false_ne_true h).elim | skip
  rename_i l hh st p
  have h : (st.isNone && matchE c a x && matchO c lo l && matchO c hi hh) = true := h
  simp only [Bool.and_eq_true, Option.isNone_iff_eq_none] at h
  obtain ⟨⟨⟨rfl, h1⟩, h2⟩, h3⟩ := h
  exact ⟨x, l, hh, p, pos, rfl, h1, h2, h3⟩
theorem inv_comp {elt : PE} {tg : Nat} {caps : List Nat} {it : PI} {cond : PO} {e : Expr} (h : matchE c (.comp elt tg caps it cond) e = true) :
    ∃ x tx px i ifs sc pos cs, e = .ListComp x [⟨.Name tx px, i, ifs, 0⟩] sc pos ∧ tg = 1 ∧ CompOk c sc tx cs caps ∧ matchI c it i = true ∧ matchE ⟨c.g, sc, [tx] ++ cs⟩ elt x = true ∧ matchIfs ⟨c.g, sc, [tx] ++ cs⟩ cond ifs = true := by
  cases e <;> first | exact (Bool.false_ne_true h).elim | skip
  rename_i x gs sc pos
  change (match isOne gs with
      | some gn => (match tgtName gn.target, capNames c caps with
        | some tx, some cs => decide (gn.is_async = 0) && decide (tg = 1) && cs.all (fun n => decide (c.scope.names.lookup n = some NameKind.cell) || decide (c.scope.names.lookup n = some NameKind.free)) && compScopeOk sc [tx] cs &&
          matchI c it gn.iter && matchE ⟨c.g, sc, [tx] ++ cs⟩ elt x && matchIfs ⟨c.g, sc, [tx] ++ cs⟩ cond gn.ifs
        | _, _ => false)
      | none => false) = true at h
  cases h1 : isOne gs with
  | none => rw [h1] at h; exact (Bool.false_ne_true h).elim
  | some gn =>
    rw [h1] at h
    obtain ⟨t, i, ifs, asy⟩ := gn
    change (match tgtName t, capNames c caps with
        | some tx, some cs => decide (asy = 0) && decide (tg = 1) && cs.all (fun n => decide (c.scope.names.lookup n = some NameKind.cell) || decide (c.scope.names.lookup n = some NameKind.free)) && compScopeOk sc [tx] cs &&
          matchI c it i && matchE ⟨c.g, sc, [tx] ++ cs⟩ elt x && matchIfs ⟨c.g, sc, [tx] ++ cs⟩ cond ifs
        | _, _ => false) = true at h
    cases h2 : tgtName t with
    | none => rw [h2] at h; exact (Bool.false_ne_true h).elim
    | some tx => cases h3 : capNames c caps with
      | none => rw [h2, h3] at h; exact (Bool.false_ne_true h).elim
      | some cs =>
        rw [h2, h3] at h
        have h : (decide (asy = 0) && decide (tg = 1) && cs.all (fun n => decide (c.scope.names.lookup n = some NameKind.cell) || decide (c.scope.names.lookup n = some NameKind.free)) && compScopeOk sc [tx] cs &&
          matchI c it i && matchE ⟨c.g, sc, [tx] ++ cs⟩ elt x && matchIfs ⟨c.g, sc, [tx] ++ cs⟩ cond ifs) = true := h
        rw [Bool.and_eq_true, Bool.and_eq_true, Bool.and_eq_true, Bool.and_eq_true, Bool.and_eq_true, Bool.and_eq_true, decide_eq_true_eq, decide_eq_true_eq] at h
        obtain ⟨⟨⟨⟨⟨⟨rfl, rfl⟩, hout⟩, hsc⟩, hi⟩, he⟩, hf⟩ := h
        obtain ⟨px, rfl⟩ := tgtName_spec h2
        rw [one_spec h1]
        exact ⟨x, tx, px, i, ifs, sc, pos, cs, rfl, rfl, compOk_of h3 hout hsc, hi, he, hf⟩
theorem inv_rev {pe : PE} {e : Expr} (h : matchI c (.rev pe) e = true) : ∃ f y pos, e = .Call f [y] [] pos ∧ c.isNm f "reversed" = true ∧ matchE c pe y = true ∧ notStar y = true := by
  cases e <;> first | exact (Bool.false_ne_true h).elim | skip
  rename_i f as kw pos
  have h : (match isOne as with | some y => kw.isEmpty && c.isNm f "reversed" && matchE c pe y && notStarM y | none => false) = true := h
  cases h1 : isOne as with
  | none => rw [h1] at h; exact (Bool.false_ne_true h).elim
  | some y =>
    rw [h1] at h
    have h : (kw.isEmpty && c.isNm f "reversed" && matchE c pe y && notStarM y) = true := h
    simp only [Bool.and_eq_true, List.isEmpty_iff] at h
    obtain ⟨⟨⟨rfl, h2⟩, h3⟩, h4⟩ := h
    rw [one_spec h1]
    exact ⟨f, y, pos, rfl, h2, h3, notStarM_eq y ▸ h4⟩
theorem inv_rng {es : PEs} {e : Expr} (h : matchI c (.rng es) e = true) : ∃ f a as pos, e = .Call f (a :: as) [] pos ∧ c.isNm f "range" = true ∧ matchEs c es (a :: as) = true := by
  cases e <;> first | exact (Bool.false_ne_true h).elim | skip
  rename_i f as kw pos
  have h : (kw.isEmpty && c.isNm f "range" && !as.isEmpty && matchEs c es as) = true := h
  simp only [Bool.and_eq_true, List.isEmpty_iff] at h
  obtain ⟨⟨⟨rfl, h1⟩, h0⟩, h3⟩ := h
  cases as with
  | nil => exact (Bool.false_ne_true h0).elim
  | cons a r => exact ⟨f, a, r, pos, rfl, h1, h3⟩
theorem inv_cons {pe : PE} {ps : PEs} {es : List Expr} (h : matchEs c (.cons pe ps) es = true) : ∃ x xs, es = x :: xs ∧ matchE c pe x = true ∧ notStar x = true ∧ matchEs c ps xs = true := by
  cases es with
  | nil => exact (Bool.false_ne_true h).elim
  | cons x xs =>
    have h : (matchE c pe x && notStarM x && matchEs c ps xs) = true := h
    simp only [Bool.and_eq_true] at h
    exact ⟨x, xs, rfl, h.1.1, notStarM_eq x ▸ h.1.2, h.2⟩
end

section
variable {X : SX} {g : GC} (hA : AOk X.prog X.A) (hΦ : SCall X.prog X.w X.G g X.DT X.A X.Φ)
include hA hΦ

mutual
theorem soundE : (pe : PE) → ∀ (sc : Scope) (names : List Str) (e : Expr), matchE ⟨g, sc, names⟩ pe e = true → SE X ⟨g, sc, names⟩ pe e ∧ SC X ⟨g, sc, names⟩ pe e
  | .cint i, sc, names, e, h => by
    cases e <;> first | exact (Bool.false_ne_true h).elim | skip
    rename_i k _ _
    cases k <;> first | exact (Bool.false_ne_true h).elim | skip
    cases of_decide_eq_true h; exact both se_cint pt_const
  | .cbool i, sc, names, e, h => by
    cases e <;> first | exact (Bool.false_ne_true h).elim | skip
    rename_i k _ _
    cases k <;> first | exact (Bool.false_ne_true h).elim | skip
    cases of_decide_eq_true h; exact both se_cbool pt_const
  | .var i, sc, names, e, h => by
    obtain ⟨x, p, rfl, h⟩ := varNm_spec h
    exact both (se_var h) pt_name
  | .glob x a b, sc, names, e, h => by
    have h := Bool.and_eq_true_iff.mp h
    have hs := se_glob (X := X) (c := ⟨g, sc, names⟩) (List.contains_iff_mem.mp h.1) h.2
    obtain ⟨p, rfl, _⟩ := MC.isNm_spec h.2
    exact both hs pt_name
  | .bin op a b, sc, names, e, h => by
    cases e <;> first | exact (Bool.false_ne_true h).elim | skip
    rename_i l o r p
    have h : (decide (o = opOf op) && matchE ⟨g, sc, names⟩ a l && matchE ⟨g, sc, names⟩ b r) = true := h
    simp only [Bool.and_eq_true, decide_eq_true_eq] at h
    obtain ⟨⟨rfl, h1⟩, h2⟩ := h
    exact both (se_bin (op := op) hA (soundE a sc names _ h1).1 (soundE b sc names _ h2).1) pt_bin
  | .neg a, sc, names, e, h => by
    cases e <;> first | exact (Bool.false_ne_true h).elim | skip
    rename_i o x p
    have h := Bool.and_eq_true_iff.mp h
    cases of_decide_eq_true h.1
    exact both (se_neg (soundE a sc names _ h.2).1) pt_neg
  | .nt a, sc, names, e, h => by
    cases e <;> first | exact (Bool.false_ne_true h).elim | skip
    rename_i o x p
    have h := Bool.and_eq_true_iff.mp h
    cases of_decide_eq_true h.1
    exact ⟨se_nt (soundE a sc names _ h.2).1, sc_nt (soundE a sc names _ h.2).2⟩
  | .cmp op a b, sc, names, e, h => by
    obtain ⟨l, r, p, rfl, hm, h1, h2⟩ := inv_cmp h
    exact ⟨se_cmp hA hm (soundE a sc names _ h1).1 (soundE b sc names _ h2).1, sc_cmp hA hm (soundE a sc names _ h1).1 (soundE b sc names _ h2).1⟩
  | .and es, sc, names, e, h => by
    cases e <;> first | exact (Bool.false_ne_true h).elim | skip
    have h := Bool.and_eq_true_iff.mp h
    cases of_decide_eq_true h.1
    exact ⟨se_and (soundAll true es sc names _ h.2).1, sc_and (soundAll true es sc names _ h.2).2⟩
  | .or es, sc, names, e, h => by
    cases e <;> first | exact (Bool.false_ne_true h).elim | skip
    have h := Bool.and_eq_true_iff.mp h
    cases of_decide_eq_true h.1
    exact ⟨se_or (soundAll false es sc names _ h.2).1, sc_or (soundAll false es sc names _ h.2).2⟩
  | .call f es, sc, names, e, h => by
    obtain ⟨x, p, a, r, pos, rfl, h1, h2, h3⟩ := inv_call h
    obtain ⟨hs, hn⟩ := soundEs es sc names _ h3
    exact both (se_call (c := ⟨g, sc, names⟩) hΦ h1 h2 (Bool.and_eq_true_iff.mp hn).1 hs) pt_call
  | .callv _ _, sc, names, e, h => (Bool.false_ne_true h).elim
  | .bi b es, sc, names, e, h => by
    obtain ⟨f, a, r, pos, rfl, hb, h1, h3⟩ := inv_bi h
    obtain ⟨hs, hn⟩ := soundEs es sc names _ h3
    exact both (se_bi hA hb h1 hn hs) pt_call
  | .isi a ts, sc, names, e, h => by
    obtain ⟨f, x, t, pos, rfl, h1, h2, h3, h4⟩ := inv_isi h
    rcases inv_isiOk h4 with ⟨es, k, p, rfl, h5⟩ | ⟨ty, rfl, h5⟩
    · exact both (se_isiN h1 h3 (soundE a sc names _ h2).1 h5) pt_call
    · exact both (se_isi1 h1 h3 (soundE a sc names _ h2).1 h5) pt_call
  | .idx a b, sc, names, e, h => by
    cases e <;> first | exact (Bool.false_ne_true h).elim | skip
    have h := Bool.and_eq_true_iff.mp h
    have h1 := Bool.and_eq_true_iff.mp h.1
    exact both (se_idx h.2 (soundE a sc names _ h1.1).1 (soundE b sc names _ h1.2).1) pt_sub
  | .slc a lo hi, sc, names, e, h => by
    obtain ⟨x, l, hh, p, pos, rfl, h1, h2, h3⟩ := inv_slc h
    exact both (se_slc (soundE a sc names _ h1).1 (soundO lo sc names _ h2) (soundO hi sc names _ h3)) pt_sub
  | .tup es, sc, names, e, h => by
    cases e <;> first | exact (Bool.false_ne_true h).elim | skip
    have h := Bool.and_eq_true_iff.mp h
    exact both (se_tup (of_decide_eq_true h.1) (soundEs es sc names _ h.2).1) pt_tup
  | .lst es, sc, names, e, h => by
    cases e <;> first | exact (Bool.false_ne_true h).elim | skip
    have h := Bool.and_eq_true_iff.mp h
    exact both (se_lst (of_decide_eq_true h.1) (soundEs es sc names _ h.2).1) pt_list
  | .comp elt tg caps it cond, sc, names, e, h => by
    obtain ⟨x, tx, px, i, ifs, sc', pos, cs, rfl, rfl, hK, hi, he, hf⟩ := inv_comp h
    obtain ⟨hsi, hns⟩ := soundI it sc names _ hi
    exact both (se_comp hK (soundE elt sc' _ _ he).1 (soundIfs cond sc' _ _ hf) hsi hns) pt_comp
theorem soundEs : (ps : PEs) → ∀ (sc : Scope) (names : List Str) (es : List Expr), matchEs ⟨g, sc, names⟩ ps es = true → SEs X ⟨g, sc, names⟩ ps es ∧ noStar es = true
  | .nil, sc, names, es, h => by
    cases es with
    | nil => exact ⟨ses_nil, rfl⟩
    | cons _ _ => exact (Bool.false_ne_true h).elim
  | .cons pe ps, sc, names, es, h => by
    obtain ⟨x, xs, rfl, h1, hst, h2⟩ := inv_cons h
    obtain ⟨h3, h4⟩ := soundEs ps sc names _ h2
    exact ⟨ses_cons hst (soundE pe sc names _ h1).1 h3, Bool.and_eq_true_iff.mpr ⟨hst, h4⟩⟩
theorem soundAll : (b : Bool) → (ps : PEs) → ∀ (sc : Scope) (names : List Str) (es : List Expr), matchEs ⟨g, sc, names⟩ ps es = true → SAll X ⟨g, sc, names⟩ b ps es ∧ SAllC X ⟨g, sc, names⟩ b ps es
  | b, .nil, sc, names, es, h => by
    cases es with
    | nil => exact ⟨sall_nil, sallc_nil⟩
    | cons _ _ => exact (Bool.false_ne_true h).elim
  | b, .cons pe ps, sc, names, es, h => by
    obtain ⟨x, xs, rfl, h1, _, h2⟩ := inv_cons h
    have ih := soundAll b ps sc names _ h2
    cases ps with
    | nil =>
      cases xs with
      | nil => exact ⟨sall_one (soundE pe sc names _ h1).1, sallc_one (soundE pe sc names _ h1).2⟩
      | cons _ _ => exact (Bool.false_ne_true h2).elim
    | cons p2 ps =>
      obtain ⟨y, ys, rfl, _⟩ := inv_cons h2
      exact ⟨sall_cons (soundE pe sc names _ h1).1 ih.1, sallc_cons (soundE pe sc names _ h1).2 ih.2⟩
theorem soundO : (po : PO) → ∀ (sc : Scope) (names : List Str) (o : Option Expr), matchO ⟨g, sc, names⟩ po o = true → SO X ⟨g, sc, names⟩ po o
  | .no, sc, names, o, h => by
    cases o with
    | none => rfl
    | some _ => exact (Bool.false_ne_true h).elim
  | .some pe, sc, names, o, h => by
    cases o with
    | none => exact (Bool.false_ne_true h).elim
    | some x => exact ⟨_, rfl, (soundE pe sc names _ h).1⟩
theorem soundIfs : (po : PO) → ∀ (sc : Scope) (names : List Str) (o : List Expr), matchIfs ⟨g, sc, names⟩ po o = true → SIfs X ⟨g, sc, names⟩ po o
  | .no, sc, names, o, h => by
    cases o with
    | nil => rfl
    | cons _ _ => exact (Bool.false_ne_true h).elim
  | .some pe, sc, names, o, h => by
    cases o with
    | nil => exact (Bool.false_ne_true h).elim
    | cons x r => cases r with
      | nil => exact ⟨_, rfl, (soundE pe sc names _ h).2⟩
      | cons _ _ => exact (Bool.false_ne_true h).elim
theorem soundI : (pi : PI) → ∀ (sc : Scope) (names : List Str) (e : Expr), matchI ⟨g, sc, names⟩ pi e = true → SI X ⟨g, sc, names⟩ pi e ∧ notSet e = true
  | .seq pe, sc, names, e, h => by
    have h := Bool.and_eq_true_iff.mp h
    exact ⟨si_seq hA (soundE pe sc names _ h.1).1, h.2⟩
  | .rev pe, sc, names, e, h => by
    obtain ⟨f, y, pos, rfl, h1, h2, h3⟩ := inv_rev h
    obtain ⟨p, rfl, hx⟩ := MC.isNm_spec h1
    exact ⟨si_rev hA hx h3 (soundE pe sc names _ h2).1, rfl⟩
  | .rng es, sc, names, e, h => by
    obtain ⟨f, a, r, pos, rfl, h1, h3⟩ := inv_rng h
    obtain ⟨p, rfl, hx⟩ := MC.isNm_spec h1
    obtain ⟨hs, hn⟩ := soundEs es sc names _ h3
    exact ⟨si_rng hA hx hn hs, rfl⟩
end
end
end Mine

set_option autoImplicit false
set_option linter.unusedSimpArgs false
set_option linter.unusedVariables false
namespace Mine
open PySem PyProof.Rows PySem.Calls

/-- a frame of an own def: the heap at its entry, its place -/
structure FC where
  c : MC
  env : Env
  hb : Heap

structure FCOk (f : FC) : Prop where
  env : EnvOk f.c f.env
  nodup : f.c.names.Nodup
  kind : ∀ x, f.c.scope.names.lookup x ≠ some NameKind.free
  deadL : f.hb.get? f.env.locals = none
  deadC : ∀ n a, (n, a) ∈ f.env.cells → f.hb.get? a = none
  above : ∀ n a, (n, a) ∈ f.env.cells → f.env.locals < a
  apart : f.env.cells.Pairwise fun x y => x.2 ≠ y.2
  uniq : ∀ n a, (n, a) ∈ f.env.cells → f.env.cells.lookup n = some a

/-- the frame's state: its variables, and what stood at its entry -/
structure FrS (G : GV) (f : FC) (W : Nat → Prop) (h : Heap) (α : List Addr) (ρ : Loc) : Prop where
  fr : ∃ m cm, h.Ns f.env.locals m ∧ Cl f.env.locals f.env.cells h cm ∧ ∀ (i : Nat) (x : Str) (d : V), f.c.names[i]? = some x → lget ρ i = some d →
    ∃ v, ((f.env.kindOf x = some .local ∧ m x = some v) ∨ (f.env.kindOf x = some .cell ∧ cm x = some v ∧ ∃ a, f.env.cells.lookup x = some a)) ∧ Rep G α h v d
  kb : KeepsH f.hb h
  wb : ∀ n a, α[n]? = some a → W n → f.hb.get? a = none

theorem FrS.fi {G : GV} {f : FC} {W : Nat → Prop} {h : Heap} {α : List Addr} {ρ : Loc} (F : FrS G f W h α ρ) : FI G f.c f.env α h ρ := fun i x d e1 e2 => by
  obtain ⟨m, cm, hn, hc, hv⟩ := F.fr
  obtain ⟨v, hv, r⟩ := hv i x d e1 e2
  refine ⟨v, ?_, r⟩
  rcases hv with ⟨k, e⟩ | ⟨k, e, a, ha⟩
  · exact .inl ⟨k, m, hn, e⟩
  · exact .inr ⟨.inl k, a, ha, by have := hc.cell x a ha; rw [e] at this; exact this⟩
theorem FrS.up {G : GV} {f : FC} {W : Nat → Prop} {h h' : Heap} {α β : List Addr} {ρ : Loc} (F : FrS G f W h α ρ) (k : KeepsH h h') (hf : ∀ b ∈ β, h.get? b = none) : FrS G f W h' (α ++ β) ρ := by
  obtain ⟨m, cm, hn, hc, hv⟩ := F.fr
  refine ⟨⟨m, cm, hn.keeps k, hc.keeps k, fun i x d e1 e2 => ?_⟩, F.kb.trans k, fun n a ha hw => ?_⟩
  · obtain ⟨v, hv, r⟩ := hv i x d e1 e2
    exact ⟨v, hv, r.up k⟩
  · by_cases hl : n < α.length
    · rw [List.getElem?_append_left hl] at ha; exact F.wb n a ha hw
    · rw [List.getElem?_append_right (by (clear F k hf hn hc hv ha hw; omega))] at ha
      have hm := hf a (List.mem_of_getElem? ha)
      cases e : f.hb.get? a with
      | none => rfl
      | some o => have := F.kb a o e; rw [hm] at this; cases this
theorem FrS.weak {G : GV} {f : FC} {W W' : Nat → Prop} {h : Heap} {α : List Addr} {ρ : Loc} (F : FrS G f W h α ρ) (hw : ∀ n, W' n → W n) : FrS G f W' h α ρ := ⟨F.fr, F.kb, fun n a e w => F.wb n a e (hw n w)⟩

theorem lget_lset {v : V} : ∀ (ρ : Loc) (i j : Nat), lget (lset ρ i v) j = some v ∧ j = i ∨ lget (lset ρ i v) j = lget ρ j ∧ (j ≠ i ∨ lget ρ j = none)
  | [], i, j => by cases i <;> cases j <;> simp [lset, lget]
  | x :: r, 0, 0 => by simp [lset, lget]
  | x :: r, 0, j + 1 => by simp [lset, lget]
  | x :: r, i + 1, 0 => by simp [lset, lget]
  | x :: r, i + 1, j + 1 => by
    simp only [lset, lget]
    rcases lget_lset r i j with ⟨a, b⟩ | ⟨a, b⟩
    · exact .inl ⟨a, by (clear a; omega)⟩
    · exact .inr ⟨a, by rcases b with b | b; exact .inl (by (clear a; omega)); exact .inr b⟩

/-- every object that lives, lives on -/
noncomputable def Lives (h h' : Heap) : Prop := ∀ b o, h.get? b = some o → ∃ o', h'.get? b = some o'
theorem Lives.of {h h' : Heap} (k : KeepsH h h') : Lives h h' := fun b o e => ⟨o, k b o e⟩
theorem Lives.trans {h h' h'' : Heap} (a : Lives h h') (b : Lives h' h'') : Lives h h'' := fun x o e => let ⟨o', e'⟩ := a x o e; b x o' e'
theorem Lives.sameBut {h h' : Heap} {a : Addr} (hs : Heap.SameBut a h h') (ha : ∃ o, h'.get? a = some o) : Lives h h' := fun b o e => by
  by_cases hb : b = a
  · subst hb; exact ha
  · exact ⟨o, hs.extBut b o hb e⟩

/-- all is kept but the frame and its cells -/
noncomputable def KeepsF (f : FC) (h h' : Heap) : Prop := ∀ b o, h.get? b = some o → b ≠ f.env.locals → (∀ n, (n, b) ∉ f.env.cells) → h'.get? b = some o

theorem FrS.alive {G : GV} {f : FC} {W : Nat → Prop} {h : Heap} {α : List Addr} {ρ : Loc} (F : FrS G f W h α ρ) : (∃ o, h.get? f.env.locals = some o) := by
  obtain ⟨m, cm, ⟨o, es, ep, ho, _⟩, _⟩ := F.fr
  exact ⟨o, ho⟩
section
variable {M : Model} {A : Around} {E : Value → Shared → Prop} {s : Shared} {G : GV} {f : FC} {W : Nat → Prop} {α : List Addr} {ρ : Loc}
theorem store_var {i : Nat} {x : Str} {v : Value} {d : V} {Q : Unit → Shared → Prop} (K : FCOk f) (F : FrS G f W s.heap α ρ) (hx : f.c.isVar i x = true) (r : Rep G α s.heap v d)
    (h : ∀ h' tk, FrS G f W h' α (lset ρ i d) → KeepsF f s.heap h' → KeepsLT s.heap h' → Lives s.heap h' → Q () { s with heap := h', toks := tk }) : wpAny M A (storeName f.env x v) Q E s := by
  obtain ⟨m, cm, hn, hc, hv⟩ := F.fr
  obtain ⟨hxi, _, _, hk⟩ := MC.isVar_spec hx
  have other : ∀ j y e, f.c.names[j]? = some y → lget (lset ρ i d) j = some e → (j = i ∧ e = d) ∨ (y ≠ x ∧ lget ρ j = some e) := fun j y e hj he => by
    rcases lget_lset (v := d) ρ i j with ⟨a, b⟩ | ⟨a, b⟩
    · rw [a] at he; cases he; exact .inl ⟨b, rfl⟩
    · rw [a] at he
      rcases b with b | b
      · refine .inr ⟨fun q => b ?_, he⟩
        subst q
        obtain ⟨l1, g1⟩ := List.getElem?_eq_some_iff.mp hj
        obtain ⟨l2, g2⟩ := List.getElem?_eq_some_iff.mp hxi
        exact (List.getElem_inj K.nodup).mp (g1.trans g2.symm)
      · rw [b] at he; cases he
  have hkind : f.env.kindOf x = some .local ∨ f.env.kindOf x = some .cell := by
    rcases hk with hk | hk | hk
    · exact .inl (K.env.loc x hk)
    · exact .inr (K.env.cel x hk)
    · exact absurd hk (K.kind x)
  rcases hkind with hl | hl
  · refine wpAny_storeName_local hl hn (fun h' hn' hs' => ?_) (by rw [K.env.kind]; rfl)
    have lt : KeepsLT s.heap h' := KeepsLT.sameBut hs' (ns_notSeq hn)
    refine h h' _ ⟨⟨_, cm, hn', hc.sameBut hs' (Nat.le_refl _), fun j y e hj he => ?_⟩, fun b o e => hs'.extBut b o (fun q => by rw [q, K.deadL] at e; cases e) (F.kb b o e), F.wb⟩ (fun b o e hb _ => hs'.extBut b o hb e) lt (.sameBut hs' (let ⟨o, _, _, ho, _⟩ := hn'; ⟨o, ho⟩))
    rcases other j y e hj he with ⟨rfl, rfl⟩ | ⟨hy, he⟩
    · rw [hxi] at hj; cases hj
      exact ⟨v, .inl ⟨hl, if_pos rfl⟩, r.mono (fun _ _ e => e) lt.tup⟩
    · obtain ⟨u, hu, ru⟩ := hv j y e hj he
      refine ⟨u, ?_, ru.mono (fun _ _ e => e) lt.tup⟩
      rcases hu with ⟨k, e⟩ | hu
      · exact .inl ⟨k, by rw [if_neg hy]; exact e⟩
      · exact .inr hu
  · obtain ⟨ca, hca⟩ := K.env.cells x (.inl hl)
    have hcell := hc.cell x ca hca
    have hmem := PySem.mem_of_lookup hca
    refine wpAny_storeName_cell K.env.kind hl hca hcell fun h' hv' hs' => ?_
    have lt : KeepsLT s.heap h' := KeepsLT.sameBut hs' fun o ho items n d => by
      obtain ⟨o', ho', hd'⟩ := hcell
      rw [ho] at ho'; cases ho'; rw [hd'] at d; cases d
    have hLc : f.env.locals < ca := K.above x ca hmem
    refine h h' s.toks ⟨⟨m, fun y => if y = x then some v else cm y, hn.sameBut hs' (Nat.ne_of_lt hLc), ⟨fun n c' e => ?_, hc.apart, hc.above⟩, fun j y e hj he => ?_⟩, fun b o e => hs'.extBut b o (fun q => by rw [q, K.deadC x ca hmem] at e; cases e) (F.kb b o e), F.wb⟩ (fun b o e _ hb => hs'.extBut b o (fun q => hb x (q ▸ hmem)) e) lt (.sameBut hs' (let ⟨o, ho, _⟩ := hv'; ⟨o, ho⟩))
    · by_cases hnx : n = x
      · subst hnx; rw [hca] at e; cases e; simpa using hv'
      · have hcc : c' ≠ ca := fun q => hnx (name_of_addr hc.apart (PySem.mem_of_lookup e) (q ▸ hmem))
        simpa [hnx] using (hc.cell n c' e).sameBut hs' hcc
    · rcases other j y e hj he with ⟨rfl, rfl⟩ | ⟨hy, he⟩
      · rw [hxi] at hj; cases hj
        exact ⟨v, .inr ⟨hl, if_pos rfl, ca, hca⟩, r.mono (fun _ _ e => e) lt.tup⟩
      · obtain ⟨u, hu, ru⟩ := hv j y e hj he
        refine ⟨u, ?_, ru.mono (fun _ _ e => e) lt.tup⟩
        rcases hu with hu | ⟨k, e, a, ha⟩
        · exact .inl hu
        · exact .inr ⟨k, by show (if y = x then some v else cm y) = some u; rw [if_neg hy]; exact e, a, ha⟩
end
end Mine

set_option autoImplicit false
set_option linter.unusedSimpArgs false
set_option linter.unusedVariables false
namespace Mine
open PySem PyProof.Rows PySem.Calls

/-- from state to state: only the frame and the lists that may be written have turned -/
structure StepS (f : FC) (W : Nat → Prop) (s : Shared) (α : List Addr) (H : Hp) (h' : Heap) (β : List Addr) (H' : Hp) : Prop where
  keep : ∀ b o, s.heap.get? b = some o → b ≠ f.env.locals → (∀ n, (n, b) ∉ f.env.cells) → (∀ n, α[n]? = some b → ¬ W n) → h'.get? b = some o
  fresh : ∀ b ∈ β, s.heap.get? b = none
  same : ∀ n, n < H.length → ¬ W n → H'[n]? = H[n]?
  le : H.length ≤ H'.length

theorem StepS.refl {f : FC} {W : Nat → Prop} {s : Shared} {α : List Addr} {H : Hp} : StepS f W s α H s.heap [] H := ⟨fun _ _ e _ _ _ => e, by simp, fun _ _ _ => rfl, Nat.le_refl _⟩
theorem StepS.of {f : FC} {W : Nat → Prop} {s : Shared} {α : List Addr} {H : Hp} {h' : Heap} {β : List Addr} {K : Hp} (k : KeepsH s.heap h') (hf : ∀ b ∈ β, s.heap.get? b = none) : StepS f W s α H h' β (H ++ K) :=
  ⟨fun b o e _ _ _ => k b o e, hf, fun n hn _ => List.getElem?_append_left hn, by simp⟩
theorem StepS.trans {f : FC} {W : Nat → Prop} {s : Shared} {α : List Addr} {H : Hp} {h₁ h₂ : Heap} {tk : Nat} {β₁ β₂ : List Addr} {H₁ H₂ : Hp}
    (a : StepS f W s α H h₁ β₁ H₁) (ak : ∀ b o, s.heap.get? b = some o → ∃ o', h₁.get? b = some o') (b : StepS f W { s with heap := h₁, toks := tk } (α ++ β₁) H₁ h₂ β₂ H₂) : StepS f W s α H h₂ (β₁ ++ β₂) H₂ := by
  refine ⟨fun x o e h1 h2 h3 => ?_, fun x hx => ?_, fun n hn hw => ?_, Nat.le_trans a.le b.le⟩
  · refine b.keep x o (a.keep x o e h1 h2 h3) h1 h2 fun n hn => ?_
    by_cases hlt : n < α.length
    · rw [List.getElem?_append_left hlt] at hn; exact h3 n hn
    · rw [List.getElem?_append_right (by (clear a ak b e h1 h2 h3 hn; omega))] at hn
      have := a.fresh x (List.mem_of_getElem? hn)
      rw [e] at this; cases this
  · rcases List.mem_append.mp hx with hx | hx
    · exact a.fresh x hx
    · cases e : s.heap.get? x with
      | none => rfl
      | some o =>
        obtain ⟨o', e'⟩ := ak x o e
        have := b.fresh x hx
        rw [show ({ s with heap := h₁, toks := tk } : Shared).heap.get? x = some o' from e'] at this; cases this
  · rw [b.same n (Nat.lt_of_lt_of_le hn a.le) hw]; exact a.same n hn hw

/-- the post of a statement -/
inductive PostS (G : GV) (f : FC) (W : Nat → Prop) (s : Shared) (α : List Addr) (H : Hp) (N : Loc → Hp → Prop) (R : V → Hp → Prop) (fl : Flow) (s' : Shared) : Prop
  | mk (h' : Heap) (tk : Nat) (β : List Addr) (H' : Hp) (e : s' = { s with heap := h', toks := tk }) (st : StepS f W s α H h' β H') (lv : Lives s.heap h') (hr : HR G (α ++ β) h' H') (c : match fl with
    | .next => ∃ ρ', FrS G f W h' (α ++ β) ρ' ∧ N ρ' H'
    | .ret v => KeepsH f.hb h' ∧ ∃ d, Rep G (α ++ β) h' v d ∧ R d H'
    | _ => False)

/-- what a raise needs -/
noncomputable def RaiseOk (X : SX) (f : FC) (W : Nat → Prop) (s : Shared) (α : List Addr) (H : Hp) (Y : Nat → Hp → Prop) (E : Value → Shared → Prop) : Prop :=
  ∀ (k : Nat) (st : Stmt) (h' : Heap) (tk : Nat) (β : List Addr) (H' : Hp) (ρ' : Loc), matchS f.c (.raise k) st = true → StepS f W s α H h' β H' → Lives s.heap h' → HR X.G (α ++ β) h' H' → FrS X.G f W h' (α ++ β) ρ' → Y k H' →
    wpAny (model X.prog X.w) X.A (exec st f.env) (fun _ _ => False) E { s with heap := h', toks := tk }

noncomputable def SS (X : SX) (f : FC) (ps : PS) (st : Stmt) : Prop :=
  ∀ (W : Nat → Prop) (s : Shared) (α : List Addr) (ρ : Loc) (H : Hp) (N : Loc → Hp → Prop) (R : V → Hp → Prop) (Y : Nat → Hp → Prop) (E : Value → Shared → Prop), (∀ n, W n → 1 ≤ n) → GF X.G f.c.g X.DT f.hb → FrS X.G f W s.heap α ρ → HR X.G α s.heap H →
    RaiseOk X f W s α H Y E → wpS X.sub X.Φ W ps ρ H N R Y → wpAny (model X.prog X.w) X.A (exec st f.env) (PostS X.G f W s α H N R) E s
noncomputable def SB (X : SX) (f : FC) (ps : PS) (sts : List Stmt) : Prop :=
  ∀ (W : Nat → Prop) (s : Shared) (α : List Addr) (ρ : Loc) (H : Hp) (N : Loc → Hp → Prop) (R : V → Hp → Prop) (Y : Nat → Hp → Prop) (E : Value → Shared → Prop), (∀ n, W n → 1 ≤ n) → GF X.G f.c.g X.DT f.hb → FrS X.G f W s.heap α ρ → HR X.G α s.heap H →
    RaiseOk X f W s α H Y E → wpS X.sub X.Φ W ps ρ H N R Y → wpAny (model X.prog X.w) X.A (execs sts f.env) (PostS X.G f W s α H N R) E s

end Mine

set_option autoImplicit false
set_option linter.unusedSimpArgs false
set_option linter.unusedVariables false
namespace Mine
open PySem PyProof.Rows PySem.Calls

theorem upd_plain {h : Heap} {a : Addr} {items : Array Value} (x : h.PlainList a items) (f : Array Value → Array Value) : (h.update a (Obj.mapSeq f)).PlainList a (f items) := by
  obtain ⟨n, e⟩ := x
  have := Heap.get?_update_self (h := h) (a := a) (Obj.mapSeq f) e rfl
  exact ⟨_, this⟩

section
variable {prog : Program} {w : World} {A : Around} {E : Value → Shared → Prop} {s : Shared}

theorem setItem_plain {l : Addr} {items : Array Value} {k : Int} {j : Nat} {t : Tok} {v : Value} {Q : Unit → Shared → Prop} (hl : s.heap.PlainList l items) (hp : place items.size k = some j) (hz : items.size ≤ 1000000)
    (hQ : Q () { s with heap := s.heap.update l (Obj.mapSeq (·.setIfInBounds j v)) }) :
    wpAny (model prog w) A (setItem (.ref l) (.int k t) v) Q E s := by
  obtain ⟨ne, ho⟩ := id hl
  have hty := hl.isList.typeIs
  obtain ⟨h1, h2⟩ := place_spec hp
  have hx' : items[j]? = some items[j] := Array.getElem?_eq_getElem h1
  unfold setItem
  try with_reducible refine wpAny_holding ?_
  first | refine wpAny_bind (wpAny_pure ?_) | skip
  refine wpAny_bind (wpAny_sequenceKey hty (by decide) ?_)
  refine wpAny_bind (wpAny_callSpecial?_slot (name := Str.ofString "__setitem__") hty slot_list_setitem
    (wpAny_call_entry slot_list_setitem hty entry_list_setitem ?_ (args_list_setitem _ _ _)))
  show wpAny _ _ (Builtin.List.listSubscript? (.int k t) >>= _) _ _ s
  rcases h2 with ⟨h0, h2⟩ | ⟨h0, h2⟩
  · refine wpAny_bind (wpAny_listSubscript_int (fitsIndex_of h0 (by (clear hl hp hQ ho hty hx' h0; omega))) ?_)
    subst h2
    show wpAny _ _ ((seqItemAt l j >>= fun r => pure (r.map (j, ·))) >>= _) _ _ s
    refine wpAny_bind (wpAny_bind (wpAny_seqItemAt ho rfl (wpAny_pure ?_)))
    rw [hx']
    show wpAny _ _ (setSeqItemAt l j v >>= _) _ _ s
    refine wpAny_bind (wpAny_setSeqItemAt ho rfl ?_)
    first
      | exact wpAny_bind (wpAny_pure (wpAny_pure ⟨.none, rfl, wpAny_pure hQ⟩))
      | exact wpAny_pure ⟨.none, rfl, wpAny_pure hQ⟩
  · refine wpAny_bind (wpAny_listSubscript_int (fitsIndex_neg h0 (by (clear hl hp hQ ho hty hx' h0; omega))) ?_)
    have hidx : seqIndex? k items.size = some j := place_seq hp
    obtain ⟨i, rfl⟩ : ∃ i : Nat, k = Int.negSucc i := by
      cases k with
      | ofNat n => exact absurd h0 (Int.not_lt.mpr (Int.ofNat_nonneg n))
      | negSucc n => exact ⟨n, rfl⟩
    show wpAny _ _ ((Builtin.List.listItems (.ref l) >>= fun xs => pure ((seqIndex? (Int.negSucc i) xs.size).bind fun i => xs[i]?.map (i, ·))) >>= _) _ _ s
    refine wpAny_bind (wpAny_bind ?_)
    show wpAny _ _ (seqItems? (.ref l) >>= _) _ _ s
    refine wpAny_bind (wpAny_seqItems ho rfl (wpAny_pure (wpAny_pure ?_)))
    rw [hidx]
    simp only [Option.bind_some, hx', Option.map_some]
    show wpAny _ _ (setSeqItemAt l j v >>= _) _ _ s
    refine wpAny_bind (wpAny_setSeqItemAt ho rfl ?_)
    first
      | exact wpAny_bind (wpAny_pure (wpAny_pure ⟨.none, rfl, wpAny_pure hQ⟩))
      | exact wpAny_pure ⟨.none, rfl, wpAny_pure hQ⟩
end

section
variable {G : GV} {f : FC} {W : Nat → Prop} {s : Shared} {α : List Addr} {ρ : Loc} {H : Hp}
/-- a list that may be written is written -/
theorem write_list (K : FCOk f) (F : FrS G f W s.heap α ρ) (R : HR G α s.heap H) {n : Nat} {a : Addr} {xs xs' : List V} {vs' : List Value} (hw : W n) (ha : α[n]? = some a) (hx : H[n]? = some xs) {h' : Heap} (hs : Heap.SameBut a s.heap h')
    (hl : h'.PlainList a vs'.toArray) (q : Reps G α s.heap vs' xs') (z : xs'.length ≤ lim) :
    FrS G f W h' α ρ ∧ HR G α h' (H.set n xs') ∧ StepS f W s α H h' [] (H.set n xs') ∧ Lives s.heap h' := by
  obtain ⟨kt, R'⟩ := R.set ha hx hs hl q z
  obtain ⟨m, cm, hn, hc, hv⟩ := F.fr
  obtain ⟨us, ⟨o, ho, hcl, no, hd⟩, _⟩ := R.lst n a xs ha hx
  have hL : a ≠ f.env.locals := fun q => by
    obtain ⟨o', es, ep, ho', hd', _⟩ := hn
    rw [← q, ho] at ho'; cases ho'; rw [hd] at hd'; cases hd'
  refine ⟨⟨⟨m, cm, hn.sameBut hs (Ne.symm hL), ⟨fun x c e => ?_, hc.apart, hc.above⟩, fun i x d e1 e2 => ?_⟩, fun b ob e => hs.extBut b ob (fun q => ?_) (F.kb b ob e), F.wb⟩, R', ⟨fun b ob e _ _ h3 => hs.extBut b ob (fun q => h3 n (q ▸ ha) hw) e, by simp, fun k hk hnw => ?_, by simp⟩, .sameBut hs (let ⟨k, e⟩ := hl; ⟨_, e⟩)⟩
  · refine (hc.cell x c e).sameBut hs fun q => ?_
    obtain ⟨o', ho', hd'⟩ := hc.cell x c e
    rw [q, ho] at ho'; cases ho'; rw [hd] at hd'; cases hd'
  · obtain ⟨v, hv, r⟩ := hv i x d e1 e2
    exact ⟨v, hv, r.mono (fun _ _ e => e) kt⟩
  · rw [q, F.wb n a ha hw] at e; cases e
  · rw [List.getElem?_set_ne (fun (q : n = k) => hnw (q ▸ hw))]
end
end Mine

set_option autoImplicit false
set_option linter.unusedSimpArgs false
set_option linter.unusedVariables false
namespace Mine
open PySem PyProof.Rows PySem.Calls

section
variable {X : SX} {f : FC}

theorem GF.at {G : GV} {gc : GC} {DT : List DefT} {W : Nat → Prop} {h : Heap} {α : List Addr} {ρ : Loc} (T : GF G gc DT f.hb) (F : FrS G f W h α ρ) : GF G gc DT h := T.keeps F.kb

/-- a statement that ends in a store -/
theorem store_post (K : FCOk f) {W : Nat → Prop} {s : Shared} {α : List Addr} {ρ : Loc} {H : Hp} {N : Loc → Hp → Prop} {R : V → Hp → Prop} {E : Value → Shared → Prop} {i : Nat} {x : Str} (F : FrS X.G f W s.heap α ρ) (hx : f.c.isVar i x = true)
    {v : Value} {s₁ : Shared} (p : Post X.G (Rep X.G) s α H (fun v H1 => N (lset ρ i v) H1) v s₁) :
    wpAny (model X.prog X.w) X.A (storeName f.env x v) (fun _ => PostS X.G f W s α H N R .next) E s₁ := by
  obtain ⟨h₁, tk₁, β, K₁, d, rfl, k, fr, R', r, q⟩ := p
  refine store_var (s := { s with heap := h₁, toks := tk₁ }) K (F.up k fr) hx r fun h' tk F' kf lt lv => ?_
  refine ⟨h', tk, β, H ++ K₁, rfl, ⟨fun b o e h1 h2 _ => kf b o (k b o e) h1 h2, fr, fun n hn _ => List.getElem?_append_left hn, by simp⟩, (Lives.of k).trans lv, R'.lt' lt, _, F', q⟩

noncomputable abbrev notComp := notCompM
theorem swaps_false {e : Expr} (h : notComp e = true) (t : Option Expr) (l : Nat) (env : Env) : swapsWith e t l env = pure false := by
  cases e <;> first | rfl | cases h

theorem ss_assign {i : Nat} {x : Str} {pe : PE} {v : Expr} {px pos : Pos} (K : FCOk f) (hx : f.c.isVar i x = true) (h : SE X f.c pe v) (hc : notComp v = true) : SS X f (.assign i pe) (.Assign [.Name x px] v pos) := fun W s α ρ H N R Y E hW T F HR' hY q => by
  simp only [qS1, qS2, qS3, qS4, qS5, qS7, qS9, qS10, qS11, qS12, qS13, qS14] at q
  refine wpAny_Assign_Name (wpAny_mono (h f.env s α ρ H _ E K.env (T.at F) HR' F.fi q) (fun v s₁ p => ?_) fun _ _ x => x) (swaps_false hc _ _ _)
  exact store_post K F hx p

theorem ss_ret {pe : PE} {v : Expr} {pos : Pos} (K : FCOk f) (h : SE X f.c pe v) : SS X f (.ret pe) (.Return (some v) pos) := fun W s α ρ H N R Y E hW T F HR' hY q => by
  simp only [qS1, qS2, qS3, qS4, qS5, qS7, qS9, qS10, qS11, qS12, qS13, qS14] at q
  refine wpAny_Return_some (wpAny_mono (h f.env s α ρ H _ E K.env (T.at F) HR' F.fi q) (fun v s₁ p => ?_) fun _ _ x => x)
  obtain ⟨h₁, tk₁, β, K₁, d, rfl, k, fr, R', r, q⟩ := p
  exact ⟨h₁, tk₁, β, H ++ K₁, rfl, .of k fr, .of k, R', F.kb.trans k, d, r, q⟩

/-- from a later state -/
theorem PostS.trans {G : GV} {W : Nat → Prop} {s : Shared} {α : List Addr} {H : Hp} {N : Loc → Hp → Prop} {R : V → Hp → Prop} {h₁ : Heap} {tk₁ : Nat} {β : List Addr} {H₁ : Hp} {fl : Flow} {s' : Shared} (st : StepS f W s α H h₁ β H₁) (lv : Lives s.heap h₁)
    (p : PostS G f W { s with heap := h₁, toks := tk₁ } (α ++ β) H₁ N R fl s') : PostS G f W s α H N R fl s' := by
  obtain ⟨h', tk, β', H', rfl, st', lv', R', q⟩ := p
  refine ⟨h', tk, β ++ β', H', rfl, st.trans lv st', lv.trans lv', by simpa using R', ?_⟩
  cases fl with
  | next => obtain ⟨ρ', F', q⟩ := q; exact ⟨ρ', by simpa using F', q⟩
  | ret v => obtain ⟨k, d, r, q⟩ := q; exact ⟨k, d, by simpa using r, q⟩
  | brk => exact q
  | cont => exact q

theorem RaiseOk.later {W : Nat → Prop} {s : Shared} {α : List Addr} {H : Hp} {Y : Nat → Hp → Prop} {E : Value → Shared → Prop} {h₁ : Heap} {tk₁ : Nat} {β : List Addr} {H₁ : Hp} (hY : RaiseOk X f W s α H Y E) (st : StepS f W s α H h₁ β H₁) (lv : Lives s.heap h₁) :
    RaiseOk X f W { s with heap := h₁, toks := tk₁ } (α ++ β) H₁ Y E := fun k stm h' tk β' H' ρ' hm st' lv' R' F' y => by
  exact hY k stm h' tk (β ++ β') H' ρ' hm (st.trans lv st') (lv.trans lv') (by simpa using R') (by simpa using F') y

theorem sb_nil (K : FCOk f) : SB X f .skip [] := fun W s α ρ H N R Y E hW T F HR' hY q => by
  simp only [qS1, qS2, qS3, qS4, qS5, qS7, qS9, qS10, qS11, qS12, qS13, qS14] at q
  exact wpAny_execs_nil ⟨s.heap, s.toks, [], H, rfl, .refl, fun b o e => ⟨o, e⟩, by simpa using HR', ρ, by simpa using F, q⟩

theorem sb_cons {a b : PS} {st : Stmt} {sts : List Stmt} (K : FCOk f) (h1 : SS X f a st) (h2 : SB X f b sts) : SB X f (.seq a b) (st :: sts) := fun W s α ρ H N R Y E hW T F HR' hY q => by
  simp only [qS1, qS2, qS3, qS4, qS5, qS7, qS9, qS10, qS11, qS12, qS13, qS14] at q
  refine wpAny_execs_cons (wpAny_mono (h1 W s α ρ H _ R Y E hW T F HR' hY q) (fun fl s₁ p => ?_) fun _ _ x => x)
  cases fl with
  | next =>
    obtain ⟨h₁, tk₁, β, H₁, rfl, st, lv, R₁, ρ', F', q'⟩ := p
    exact wpAny_mono (h2 W { s with heap := h₁, toks := tk₁ } (α ++ β) ρ' H₁ N R Y E hW T F' R₁ (hY.later st lv) q') (fun _ _ p => p.trans st lv) fun _ _ x => x
  | ret v =>
    obtain ⟨h₁, tk₁, β, H₁, rfl, st, lv, R₁, k, d, r, q'⟩ := p
    exact ⟨h₁, tk₁, β, H₁, rfl, st, lv, R₁, k, d, r, q'⟩
  | brk => obtain ⟨_, _, _, _, _, _, _, _, q⟩ := p; exact q.elim
  | cont => obtain ⟨_, _, _, _, _, _, _, _, q⟩ := p; exact q.elim

theorem ss_ite {c : PE} {a b : PS} {v : Expr} {x y : List Stmt} {pos : Pos} (K : FCOk f) (h : SC X f.c c v) (h1 : SB X f a x) (h2 : SB X f b y) : SS X f (.ite c a b) (.If v x y pos) := fun W s α ρ H N R Y E hW T F HR' hY q => by
  simp only [qS1, qS2, qS3, qS4, qS5, qS7, qS9, qS10, qS11, qS12, qS13, qS14] at q
  refine wpAny_If (wpAny_mono (h f.env s α ρ H (fun t H1 => if t then wpS X.sub X.Φ W a ρ H1 N R Y else wpS X.sub X.Φ W b ρ H1 N R Y) E K.env (T.at F) HR' F.fi q) (fun t s₁ p => ?_) fun _ _ x => x)
  obtain ⟨h₁, tk₁, β, K₁, t', rfl, k, fr, R', rfl, q'⟩ := p
  have st : StepS f W s α H h₁ β (H ++ K₁) := .of k fr
  cases t with
  | true =>
    simp only [if_true] at q' ⊢
    exact wpAny_mono (h1 W { s with heap := h₁, toks := tk₁ } (α ++ β) ρ (H ++ K₁) N R Y E hW T (F.up k fr) R' (hY.later st (.of k)) q') (fun _ _ p => p.trans st (.of k)) fun _ _ x => x
  | false =>
    simp only [Bool.false_eq_true, if_false] at q' ⊢
    exact wpAny_mono (h2 W { s with heap := h₁, toks := tk₁ } (α ++ β) ρ (H ++ K₁) N R Y E hW T (F.up k fr) R' (hY.later st (.of k)) q') (fun _ _ p => p.trans st (.of k)) fun _ _ x => x

theorem raise_none {W : Nat → Prop} {s : Shared} {α : List Addr} {H : Hp} {E : Value → Shared → Prop} : RaiseOk X f W s α H (fun _ _ => False) E := fun _ _ _ _ _ _ _ _ _ _ _ _ y => y.elim

theorem ss_whl {c : PE} {b : PS} {v : Expr} {x : List Stmt} {pos : Pos} (K : FCOk f) (h : SC X f.c c v) (h1 : SB X f b x) : SS X f (.whl c b) (.While v x [] pos) := fun W s α ρ H N R Y E hW T F HR' hY q => by
  simp only [qS1, qS2, qS3, qS4, qS5, qS7, qS9, qS10, qS11, qS12, qS13, qS14] at q
  obtain ⟨I, μ, hI, turn⟩ := q
  refine wpAny_While (codeAny_whileLoop
    (fun n s' => ∃ h' tk β H' ρ', s' = { s with heap := h', toks := tk } ∧ StepS f W s α H h' β H' ∧ Lives s.heap h' ∧ HR X.G (α ++ β) h' H' ∧ FrS X.G f W h' (α ++ β) ρ' ∧ I ρ' H' ∧ n = μ ρ' H') ?_ (μ ρ H)
    ⟨s.heap, s.toks, [], H, ρ, rfl, .refl, fun b o e => ⟨o, e⟩, by simpa using HR', by simpa using F, hI, rfl⟩)
  rintro n s' ⟨h', tk, β, H', ρ', rfl, st, lv, R', F', hI', rfl⟩
  have q := turn ρ' H' hI'
  refine wpAny_mono (h f.env { s with heap := h', toks := tk } (α ++ β) ρ' H' (fun t H2 => if t then wpS X.sub X.Φ W b ρ' H2 (fun ρ3 H3 => I ρ3 H3 ∧ μ ρ3 H3 < μ ρ' H') R (fun _ _ => False) else N ρ' H2) _ K.env (T.at F') R' F'.fi q) (fun t s₁ p => ?_) fun _ _ x => x
  obtain ⟨h₁, tk₁, γ, K₁, t', rfl, k, fr, R₁, rfl, q'⟩ := p
  dsimp only at k fr
  have st1 : StepS f W { s with heap := h', toks := tk } (α ++ β) H' h₁ γ (H' ++ K₁) := .of k fr
  have st2 := st.trans lv st1
  have lv2 := lv.trans (.of k)
  have F₁ := F'.up k fr
  cases t with
  | true =>
    simp only [if_true] at q' ⊢
    refine wpAny_mono (h1 W { s with heap := h₁, toks := tk₁ } ((α ++ β) ++ γ) ρ' (H' ++ K₁) _ R _ _ hW T F₁ R₁ raise_none q') (fun fl s₂ p => ?_) fun _ _ x => x
    cases fl with
    | next =>
      obtain ⟨h₂, tk₂, δ, H₂, rfl, st3, lv3, R₂, ρ₂, F₂, hI₂, hμ⟩ := p
      refine ⟨_, hμ, h₂, tk₂, (β ++ γ) ++ δ, H₂, ρ₂, rfl, st2.trans (tk := tk₁) lv2 (by simpa using st3), lv2.trans lv3, by simpa using R₂, by simpa using F₂, hI₂, rfl⟩
    | ret v =>
      obtain ⟨h₂, tk₂, δ, H₂, rfl, st3, lv3, R₂, kk, d, r, q₂⟩ := p
      exact ⟨h₂, tk₂, (β ++ γ) ++ δ, H₂, rfl, st2.trans (tk := tk₁) lv2 (by simpa using st3), lv2.trans lv3, by simpa using R₂, kk, d, by simpa using r, q₂⟩
    | brk => obtain ⟨_, _, _, _, _, _, _, _, q⟩ := p; exact q.elim
    | cont => obtain ⟨_, _, _, _, _, _, _, _, q⟩ := p; exact q.elim
  | false =>
    simp only [Bool.false_eq_true, if_false] at q' ⊢
    refine wpAny_execs_nil ?_
    exact ⟨h₁, tk₁, β ++ γ, H' ++ K₁, rfl, st2, lv2, by simpa using R₁, ρ', by simpa using F₁, q'⟩
end
end Mine

set_option autoImplicit false
set_option linter.unusedSimpArgs false
set_option linter.unusedVariables false
namespace Mine
open PySem PyProof.Rows PySem.Calls

section
variable {X : SX} {f : FC}

theorem notL {G : GV} {W : Nat → Prop} {h : Heap} {α : List Addr} {ρ : Loc} (F : FrS G f W h α ρ) {b : Addr} {o : Obj} (e : h.get? b = some o) (hd : ∀ es n, o.data ≠ .dict es n) : b ≠ f.env.locals := fun q => by
  obtain ⟨m, cm, ⟨o', es, ep, ho', hd', _⟩, _⟩ := F.fr
  rw [← q, e] at ho'; cases ho'; exact hd _ _ hd'
theorem notCell {G : GV} {W : Nat → Prop} {h : Heap} {α : List Addr} {ρ : Loc} (K : FCOk f) (F : FrS G f W h α ρ) {b : Addr} {o : Obj} (e : h.get? b = some o) (hd : ∀ v, o.data ≠ .cell v) : ∀ n, (n, b) ∉ f.env.cells := fun n hm => by
  obtain ⟨m, cm, _, hc, _⟩ := F.fr
  obtain ⟨o', ho', hd'⟩ := hc.cell n b (K.uniq n b hm)
  rw [e] at ho'; cases ho'; exact hd _ hd'
theorem notList {G : GV} {h : Heap} {α : List Addr} {H : Hp} (R : HR G α h H) {b : Addr} {o : Obj} (e : h.get? b = some o) (hd : o.cls ≠ .type "list" ∨ ∀ xs n, o.data ≠ .seq xs n) (n : Nat) : α[n]? ≠ some b := fun ha => by
  obtain ⟨xs, hx⟩ := R.at ha
  obtain ⟨vs, ⟨o', ho', hc', k, hd'⟩, _⟩ := R.lst n b xs ha hx
  rw [e] at ho'; cases ho'
  rcases hd with hd | hd
  · exact hd hc'
  · exact hd _ _ hd'

theorem StepS.tup {G : GV} {W : Nat → Prop} {s : Shared} {α : List Addr} {H : Hp} {ρ : Loc} {h' : Heap} {β : List Addr} {H' : Hp} (K : FCOk f) (F : FrS G f W s.heap α ρ) (R : HR G α s.heap H) (st : StepS f W s α H h' β H') : KeepsT s.heap h' := fun a items x => by
  obtain ⟨o, ho, hc, n, hd⟩ := x
  refine ⟨o, st.keep a o ho (notL F ho (by simp [hd])) (notCell K F ho (by simp [hd])) fun k hk => ?_, hc, n, hd⟩
  exact absurd hk (notList R ho (.inl (by rw [hc]; decide)) k)
theorem StepS.weak {W W' : Nat → Prop} {s : Shared} {α : List Addr} {H : Hp} {h' : Heap} {β : List Addr} {H' : Hp} (hw : ∀ n, W' n → W n) (st : StepS f W' s α H h' β H') : StepS f W s α H h' β H' :=
  ⟨fun b o e h1 h2 h3 => st.keep b o e h1 h2 fun n hn w => h3 n hn (hw n w), st.fresh, fun n hn w => st.same n hn fun x => w (hw n x), st.le⟩

/-- the iterator moves -/
theorem FrS.off {G : GV} {W : Nat → Prop} {h h' : Heap} {α : List Addr} {ρ : Loc} {wr : List Addr} (K : FCOk f) (F : FrS G f W h α ρ) (hwr : ∀ b ∈ wr, ∃ o vs, h.get? b = some o ∧ o.data = .fields vs) (hdead : ∀ b ∈ wr, f.hb.get? b = none)
    (hk : ∀ b o, b ∉ wr → h.get? b = some o → h'.get? b = some o) (lt : KeepsLT h h') : FrS G f W h' α ρ := by
  obtain ⟨m, cm, hn, hc, hv⟩ := F.fr
  refine ⟨⟨m, cm, hn.at' fun o e => hk _ o (fun hm => ?_) e, ⟨fun x a e => ?_, hc.apart, hc.above⟩, fun i x d e1 e2 => ?_⟩, fun b o e => hk b o (fun hm => ?_) (F.kb b o e), F.wb⟩
  · obtain ⟨o', vs, e', d'⟩ := hwr _ hm
    exact notL F e' (by simp [d']) rfl
  · obtain ⟨o, ho, hd⟩ := hc.cell x a e
    refine ⟨o, hk a o (fun hm => ?_) ho, hd⟩
    obtain ⟨o', vs, e', d'⟩ := hwr _ hm
    rw [ho] at e'; cases e'; rw [hd] at d'; cases d'
  · obtain ⟨v, hv, r⟩ := hv i x d e1 e2
    exact ⟨v, hv, r.mono (fun _ _ e => e) lt.tup⟩
  · rw [hdead b hm] at e; cases e

theorem ss_forr {i : Nat} {x : Str} {pit : PI} {b : PS} {iter : Expr} {body : List Stmt} {px pos : Pos} (K : FCOk f) (hx : f.c.isVar i x = true) (h : SI X f.c pit iter) (hns : notSet iter = true) (h1 : SB X f b body) :
    SS X f (.forr i pit b) (.For (.Name x px) iter body [] pos) := fun W s α ρ H N R Y E hW T F HR' hY q => by
  simp only [qS1, qS2, qS3, qS4, qS5, qS7, qS9, qS10, qS11, qS12, qS13, qS14] at q
  refine wpAny_For (wpAny_mono (h f.env s α ρ H _ E K.env (T.at F) HR' F.fi q) (fun xv s₁ p => wpAny_mono p (fun it s₂ p => ?_) fun _ _ e => e) fun _ _ e => e) (folded_pure hns f.env)
  obtain ⟨h₁, tk₁, β₁, K₁, xs, src, k₁, f₁, R₁, ⟨I, fp, wr, P, St, h₂, tk₂, rfl, rfl, k₂, Wk, hst, hwr, hfield, hfp, hsrc, hP⟩, hgo⟩ := p
  dsimp only at k₂ hwr
  have k12 : KeepsH s.heap h₂ := k₁.trans k₂
  have deadS : ∀ b ∈ wr, s.heap.get? b = none := fun b hb => by
    cases e : s.heap.get? b with
    | none => rfl
    | some o => have := hwr b hb; rw [k₁ b o e] at this; cases this
  have deadB : ∀ b ∈ wr, f.hb.get? b = none := fun b hb => by
    cases e : f.hb.get? b with
    | none => rfl
    | some o => have := deadS b hb; rw [F.kb b o e] at this; cases this
  have hWW : ∀ m, (W m ∧ some m ≠ src) → W m := fun m h => h.1
  refine codeAny_forLoop (fun n s' => ∃ j h' tk γ H' ρ', s' = { s with heap := h', toks := tk } ∧ j ≤ xs.length ∧ n = xs.length + 1 - j ∧ St j h' ∧ StepS f W s α H h' (β₁ ++ γ) H' ∧ Lives s.heap h' ∧ HR X.G (α ++ (β₁ ++ γ)) h' H' ∧ FrS X.G f W h' (α ++ (β₁ ++ γ)) ρ' ∧ KeepsT h₂ h' ∧
      (∀ b ∈ fp, b ∉ wr → (∃ n, src = some n ∧ (α ++ (β₁ ++ γ))[n]? = some b) ∨ ∃ items, IsTup h' b items) ∧
      forGo (fun ρ2 H2 k => wpS X.sub X.Φ (fun m => W m ∧ some m ≠ src) b ρ2 H2 k R fun _ _ => False) i (xs.drop j) ρ' H' N) ?_ (xs.length + 1)
    ⟨0, h₂, tk₂, [], H ++ K₁, ρ, rfl, Nat.zero_le _, rfl, hst, by simpa using (StepS.of (f := f) (W := W) (α := α) (H := H) (K := K₁) k12 f₁), .of k12, by simpa using R₁.keeps k₂, by simpa using F.up k12 f₁, fun _ _ x => x, by simpa using hsrc, by simpa using hgo⟩
  rintro n s' ⟨j, h', tk, γ, H', ρ', rfl, hj, rfl, hstj, st, lv, R', F', kt, hsrc', hgo'⟩
  have off : ∀ h'' : Heap, (∀ b o, b ∉ wr → h'.get? b = some o → h''.get? b = some o) → KeepsLT h' h'' := fun h'' hk a o items n e d => hk a o (fun hm => by
    obtain ⟨o', vs, e', d'⟩ := hfield j h' hstj a hm
    rw [e] at e'; cases e'; rw [d] at d'; cases d') e
  have stOff : ∀ h'' : Heap, (∀ b o, b ∉ wr → h'.get? b = some o → h''.get? b = some o) → StepS f W s α H h'' (β₁ ++ γ) H' ∧ Lives s.heap h'' := fun h'' hk =>
    ⟨⟨fun b o e a1 a2 a3 => hk b o (fun hm => by rw [deadS b hm] at e; cases e) (st.keep b o e a1 a2 a3), st.fresh, st.same, st.le⟩,
      fun b o e => by obtain ⟨o', e'⟩ := lv b o e; exact ⟨o', hk b o' (fun hm => by rw [deadS b hm] at e; cases e) e'⟩⟩
  by_cases hlt : j < xs.length
  · refine Wk.item j _ _ _ hlt hstj fun v h'' tk' hPv hst'' hk'' => ?_
    have lt1 := off h'' hk''
    obtain ⟨st1, lv1⟩ := stOff h'' hk''
    have F1 := F'.off K (hfield j h' hstj) deadB hk'' lt1
    have R1 := R'.lt' lt1
    have kt1 : KeepsT h₂ h'' := fun a items x => lt1.tup a items (kt a items x)
    obtain ⟨d, hd, rd⟩ := hP j v hlt hPv
    have rd1 : Rep X.G (α ++ (β₁ ++ γ)) h'' v d := by
      have := rd.mono (α' := (α ++ β₁) ++ γ) ext_app kt1
      rwa [List.append_assoc] at this
    refine wpAny_assign_Name (store_var (s := { s with heap := h'', toks := tk' }) K F1 hx rd1 fun h₃ tk₃ F3 kf3 lt3 lv3 => ?_)
    dsimp only at kf3 lt3 lv3
    have R3 := R1.lt' lt3
    have kt3 : KeepsT h₂ h₃ := fun a items x => lt3.tup a items (kt1 a items x)
    have st3 : StepS f W s α H h₃ (β₁ ++ γ) H' := ⟨fun b o e a1 a2 a3 => kf3 b o (st1.keep b o e a1 a2 a3) a1 a2, st1.fresh, st1.same, st1.le⟩
    have lv13 := lv1.trans lv3
    -- what the iterator reads is kept by the store
    have st3' : St (j + 1) h₃ := Wk.frame _ _ _ hst'' fun b hb o e => by
      by_cases hbw : b ∈ wr
      · obtain ⟨o', vs, e', d'⟩ := hfield (j + 1) h'' hst'' b hbw
        rw [e] at e'; cases e'
        exact kf3 b o e (notL F1 e (by simp [d'])) (notCell K F1 e (by simp [d']))
      · rcases hsrc' b hb hbw with ⟨n, hn, ha⟩ | ⟨items, hi⟩
        · obtain ⟨ys, hy⟩ := R1.at ha
          obtain ⟨vs, ⟨o', ho', hc', kk, hd'⟩, _⟩ := R1.lst n b ys ha hy
          rw [e] at ho'; cases ho'
          exact lt3 b o _ _ e hd'
        · obtain ⟨o', ho', hc', kk, hd'⟩ := lt1.tup b items hi
          rw [e] at ho'; cases ho'
          exact lt3 b o _ _ e hd'
    have hdrop : xs.drop j = d :: xs.drop (j + 1) := by
      obtain ⟨hl, he⟩ := List.getElem?_eq_some_iff.mp hd
      rw [List.drop_eq_getElem_cons hl, he]
    rw [hdrop] at hgo'
    simp only [forGo] at hgo'
    refine wpAny_mono (h1 (fun m => W m ∧ some m ≠ src) { s with heap := h₃, toks := tk₃ } (α ++ (β₁ ++ γ)) (lset ρ' i d) H' _ R _ _ (fun n hn => hW n hn.1) T (F3.weak hWW) R3 raise_none hgo') (fun fl s₄ p => ?_) fun _ _ e => e
    obtain ⟨h₄, tk₄, δ, H₄, rfl, st4, lv4, R4, q4⟩ := p
    have stAll : StepS f W s α H h₄ ((β₁ ++ γ) ++ δ) H₄ := st3.trans (tk := tk₃) lv13 (st4.weak hWW)
    have lvAll := lv13.trans lv4
    cases fl with
    | next =>
      obtain ⟨ρ₄, F4, q4⟩ := q4
      have kt4 : KeepsT h₃ h₄ := st4.tup K (F3.weak hWW) R3
      refine ⟨xs.length + 1 - (j + 1), by (clear K hx h hns h1 hW T F HR' hY q p k₁ f₁ R₁ hgo k₂ Wk hst hwr hfield hfp hsrc hP k12 deadS deadB hWW hj hstj st lv R' F' kt hsrc' off stOff hPv hst'' hk'' lt1 st1 lv1 F1 R1 kt1 hgo' hd rd rd1 F3 kf3 lt3 lv3 R3 kt3 st3 lv13 st3' hdrop st4 lv4 R4 stAll lvAll F4 q4 kt4; omega), j + 1, h₄, tk₄, γ ++ δ, H₄, ρ₄, rfl, hlt, rfl, ?_, by simpa using stAll, lvAll, by simpa using R4, ?_, fun a items x => kt4 a items (kt3 a items x), fun b hb hbw => ?_, q4⟩
      · refine Wk.frame _ _ _ st3' fun b hb o e => ?_
        by_cases hbw : b ∈ wr
        · obtain ⟨o', vs, e', d'⟩ := hfield (j + 1) h₃ st3' b hbw
          rw [e] at e'; cases e'
          exact st4.keep b o e (notL F3 e (by simp [d'])) (notCell K F3 e (by simp [d'])) fun n hn => absurd hn (notList R3 e (.inr (by simp [d'])) n)
        · rcases hsrc' b hb hbw with ⟨n, hn, ha⟩ | ⟨items, hi⟩
          · obtain ⟨ys, hy⟩ := R3.at ha
            obtain ⟨vs, ⟨o', ho', hc', kk, hd'⟩, _⟩ := R3.lst n b ys ha hy
            rw [e] at ho'; cases ho'
            refine st4.keep b o e (notL F3 e (by simp [hd'])) (notCell K F3 e (by simp [hd'])) fun m hm hw => ?_
            obtain ⟨l1, g1⟩ := List.getElem?_eq_some_iff.mp ha
            obtain ⟨l2, g2⟩ := List.getElem?_eq_some_iff.mp hm
            have : m = n := (List.getElem_inj R3.nodup).mp (g2.trans g1.symm)
            exact hw.2 (by rw [this, hn])
          · obtain ⟨o', ho', hc', kk, hd'⟩ := lt3.tup b items (lt1.tup b items hi)
            rw [e] at ho'; cases ho'
            exact st4.keep b o e (notL F3 e (by simp [hd'])) (notCell K F3 e (by simp [hd'])) fun n hn => absurd hn (notList R3 e (.inl (by rw [hc']; decide)) n)
      · -- the frame, with the lists of the loop's outside
        obtain ⟨fr4, kb4, wb4⟩ := F4
        refine ⟨by simpa using fr4, kb4, fun n a ha hw => ?_⟩
        rw [← List.append_assoc, ← List.append_assoc] at ha
        by_cases hl : n < (α ++ β₁ ++ γ).length
        · rw [List.getElem?_append_left hl] at ha
          exact F3.wb n a (by simpa using ha) hw
        · rw [List.getElem?_append_right (by (clear K hx h hns h1 hW T F HR' hY q p k₁ f₁ R₁ hgo k₂ Wk hst hwr hfield hfp hsrc hP k12 deadS deadB hWW hj hstj st lv R' F' kt hsrc' off stOff hlt hPv hst'' hk'' lt1 st1 lv1 F1 R1 kt1 hgo' hd rd rd1 F3 kf3 lt3 lv3 R3 kt3 st3 lv13 st3' hdrop st4 lv4 R4 stAll lvAll q4 kt4 fr4 kb4 wb4 ha hw; omega))] at ha
          have hm := st4.fresh a (List.mem_of_getElem? ha)
          cases e : f.hb.get? a with
          | none => rfl
          | some o => have := F3.kb a o e; rw [show ({ s with heap := h₃, toks := tk₃ } : Shared).heap.get? a = none from hm] at this; cases this
      · rcases hsrc' b hb hbw with ⟨n, hn, ha⟩ | ⟨items, hi⟩
        · refine .inl ⟨n, hn, ?_⟩
          have := ext_app (β := δ) n b ha
          simpa using this
        · exact .inr ⟨items, kt4 b items (lt3.tup b items (lt1.tup b items hi))⟩
    | ret v =>
      obtain ⟨kk, d, r, q4⟩ := q4
      exact ⟨h₄, tk₄, (β₁ ++ γ) ++ δ, H₄, rfl, stAll, lvAll, by simpa using R4, kk, d, by simpa using r, q4⟩
    | brk => exact q4.elim
    | cont => exact q4.elim
  · have hin : j = xs.length := by (clear K hx h hns h1 hW T F HR' hY q p k₁ f₁ R₁ hgo k₂ Wk hst hwr hfield hfp hsrc hP k12 deadS deadB hWW hstj st lv R' F' kt hsrc' hgo' off stOff; omega)
    subst hin
    refine Wk.done _ _ _ hstj fun h'' tk' hk'' => wpAny_execs_nil ?_
    have lt1 := off h'' hk''
    obtain ⟨st1, lv1⟩ := stOff h'' hk''
    refine ⟨h'', tk', β₁ ++ γ, H', rfl, st1, lv1, R'.lt' lt1, ρ', F'.off K (hfield _ h' hstj) deadB hk'' lt1, ?_⟩
    simpa [forGo] using hgo'
end
end Mine

set_option autoImplicit false
set_option linter.unusedSimpArgs false
set_option linter.unusedVariables false
namespace Mine
open PySem PyProof.Rows PySem.Calls

theorem erase_last (vs : List Value) : vs.toArray.eraseIdxIfInBounds (vs.toArray.size - 1) = vs.dropLast.toArray := by
  unfold Array.eraseIdxIfInBounds
  split
  · rename_i h
    apply Array.ext'
    simp only [List.size_toArray, List.eraseIdx_toArray] at h ⊢
    rw [List.eraseIdx_length_sub_one]
  · rename_i h
    simp at h
    have h0 : vs = [] := by cases vs with | nil => rfl | cons a r => simp at h; omega
    subst h0; rfl

section
variable {X : SX} {f : FC}

/-- the list behind a variable, in a state -/
theorem list_var {G : GV} {W : Nat → Prop} {s : Shared} {α : List Addr} {ρ : Loc} {H : Hp} (F : FrS G f W s.heap α ρ) (R : HR G α s.heap H) (hW : ∀ n, W n → 1 ≤ n) {i : Nat} {x : Str} (hx : f.c.isVar i x = true) {n : Nat} {xs : List V}
    (hv : lget ρ i = some (.lst n)) (hw : W n) (hh : H[n]? = some xs) :
    ∃ (a : Addr) (vs : List Value), α[n]? = some a ∧ VarAt f.env s.heap x (.ref a) ∧ s.heap.PlainList a vs.toArray ∧ Reps G α s.heap vs xs ∧ vs.length ≤ lim ∧ xs.length ≤ lim := by
  obtain ⟨u, hu, r⟩ := F.fi i x _ (MC.isVar_spec hx).1 hv
  cases r with
  | lst ha =>
    obtain ⟨vs, hl, q, z, p⟩ := R.lst n _ xs ha hh
    exact ⟨_, vs, ha, hu, p (by have := hW n hw; (clear F R hW hx hv hw hh hu ha hl q z p; omega)), q, by rw [q.len]; exact z, z⟩

/-- behind a write -/
theorem write_post {W : Nat → Prop} {s : Shared} {α : List Addr} {ρ : Loc} {H : Hp} {N : Loc → Hp → Prop} {R : V → Hp → Prop} {h₁ h₂ : Heap} {tk₁ tk₂ : Nat} {β : List Addr} {K₁ : Hp} {n : Nat} {xs' : List V} (k : KeepsH s.heap h₁) (fr : ∀ b ∈ β, s.heap.get? b = none)
    (p : FrS X.G f W h₂ (α ++ β) ρ ∧ HR X.G (α ++ β) h₂ ((H ++ K₁).set n xs') ∧ StepS f W { s with heap := h₁, toks := tk₁ } (α ++ β) (H ++ K₁) h₂ [] ((H ++ K₁).set n xs') ∧ Lives h₁ h₂) (q : N ρ ((H ++ K₁).set n xs')) :
    PostS X.G f W s α H N R .next { s with heap := h₂, toks := tk₂ } := by
  obtain ⟨F', R', st, lv⟩ := p
  have := (StepS.of (f := f) (W := W) (α := α) (H := H) (K := K₁) k fr).trans (Lives.of k) st
  exact ⟨h₂, tk₂, β, _, rfl, by simpa using this, (Lives.of k).trans lv, R', ρ, F', q⟩

theorem ss_setidx {i : Nat} {x : Str} {pk pe : PE} {j v : Expr} {px pp pos : Pos} (K : FCOk f) (hx : f.c.isVar i x = true) (hk : SE X f.c pk j) (h : SE X f.c pe v) (hc : notComp v = true) :
    SS X f (.setidx i pk pe) (.Assign [.Subscript (.Name x px) j pp] v pos) := fun W s α ρ H N R Y E hW T F HR' hY q => by
  simp only [qS1, qS2, qS3, qS4, qS5, qS7, qS9, qS10, qS11, qS12, qS13, qS14] at q
  refine wpAny_Assign_Subscript (wpAny_mono (h f.env s α ρ H _ E K.env (T.at F) HR' F.fi q) (fun v s₁ p => ?_) fun _ _ x => x) (swaps_false hc _ _ _)
  refine p.go fun h₁ tk₁ β K₁ d k₁ fr₁ R₁ r₁ q₁ => ?_
  have F₁ := F.up k₁ fr₁
  obtain ⟨n, hl, hw, q₁⟩ := ifLst.get q₁
  obtain ⟨u, hu, ru⟩ := F₁.fi i x _ (MC.isVar_spec hx).1 hl
  refine load_var (s := { s with heap := h₁, toks := tk₁ }) K.env hx hu ?_
  refine wpAny_mono (hk f.env { s with heap := h₁, toks := tk₁ } (α ++ β) ρ (H ++ K₁) _ E K.env (T.at F₁) R₁ F₁.fi q₁) (fun iv s₃ p => ?_) fun _ _ x => x
  obtain ⟨h₂, tk₂, γ, K₂, kv, rfl, k₂, fr₂, R₂, r₂, q₂⟩ := p
  obtain ⟨jj, rfl, q₂⟩ := ifInt.get q₂
  obtain ⟨xs, hxs, q₂⟩ := ifSome.get q₂
  obtain ⟨pl, hpl, q₂⟩ := ifSome.get q₂
  dsimp only at k₂ fr₂
  have F₂ := F₁.up k₂ fr₂
  cases r₂ with
  | int _ t =>
    cases ru with
    | lst ha =>
      have ha₂ := ext_app (β := γ) _ _ ha
      obtain ⟨vs, hli, rs, z, pp⟩ := R₂.lst n _ xs ha₂ hxs
      have hpl' := pp (by have := hW n hw; (clear K hx hk h hc hW T F HR' hY q p k₁ fr₁ R₁ r₁ F₁ hl hw q₁ k₂ fr₂ R₂ hxs hpl q₂ F₂ hu ha ha₂ hli rs z pp; omega))
      have hlen := rs.len
      have zz : xs.length ≤ 1000000 := z
      refine setItem_plain (s := { s with heap := h₂, toks := tk₂ }) hpl' (by rw [List.size_toArray, hlen]; exact hpl) (by rw [List.size_toArray]; (clear K hx hk h hc hW T F HR' hY q p k₁ fr₁ R₁ r₁ F₁ hl hw q₁ k₂ fr₂ R₂ hxs hpl q₂ F₂ hu ha ha₂ hli rs z pp hpl'; omega)) ?_
      have wl := write_list (s := { s with heap := h₂, toks := tk₂ }) (vs' := vs.set pl v) (xs' := xs.set pl d) K F₂ R₂ hw ha₂ hxs (Heap.SameBut.update ..) (by simpa using upd_plain hpl' (·.setIfInBounds pl v)) (rs.set (r₁.up k₂) pl) (by rw [List.length_set]; exact z)
      have st1 : StepS f W s α H h₁ β (H ++ K₁) := .of k₁ fr₁
      have st2 : StepS f W { s with heap := h₁, toks := tk₁ } (α ++ β) (H ++ K₁) h₂ γ (H ++ K₁ ++ K₂) := .of k₂ fr₂
      have st12 := st1.trans (Lives.of k₁) st2
      obtain ⟨F₃, R₃, st3, lv3⟩ := wl
      have st := st12.trans (tk := tk₂) ((Lives.of k₁).trans (.of k₂)) (by simpa using st3)
      exact ⟨_, tk₂, β ++ γ, _, rfl, by simpa using st, ((Lives.of k₁).trans (.of k₂)).trans lv3, by simpa using R₃, ρ, by simpa using F₃, q₂⟩

theorem listMethod {prog : Program} {w : World} {A : Around} {E : Value → Shared → Prop} {s : Shared} {name : Str} {id : String} {a : Addr} {items : Array Value} {pos : Pos} {args : List (Bool × Sem Value)} {Q : Value → Shared → Prop} (slot : Slot "list" name id)
    (hty : typeOf (.builtin id) = pure (.type "method_descriptor")) (hl : s.heap.PlainList a items) (h : wpAny (model prog w) A (callWith pos (.builtin id) [.ref a] args []) Q E s) : MethodOnS prog w A E name (.ref a) pos args Q s := by
  refine ⟨"list", id, PySem.F.plainAttrs_list, slot, hty, hl.isList.typeIs, fun b e => ?_, h⟩
  cases e
  obtain ⟨n, ho⟩ := hl
  exact ⟨_, ho, rfl⟩

theorem ss_pop {i : Nat} {x a : Str} {px ap cp pos : Pos} (K : FCOk f) (hx : f.c.isVar i x = true) (ha : a = Str.ofString "pop") (hli : ap.endLine = cp.line) :
    SS X f (.pop i) (.Expr (.Call (.Attribute (.Name x px) a ap) [] [] cp) pos) := fun W s α ρ H N R Y E hW T F HR' hY q => by
  subst ha
  simp only [qS1, qS2, qS3, qS4, qS5, qS7, qS9, qS10, qS11, qS12, qS13, qS14] at q
  obtain ⟨n, hl, hw, q⟩ := ifLst.get q
  obtain ⟨xs, hh, ys, k, rfl, q⟩ := ifSome.get q
  obtain ⟨a, vs, ha, hu, hpl, rs, z', z⟩ := list_var F HR' hW hx hl hw hh
  have hlen := rs.len
  obtain ⟨val, hval, rval⟩ := rs.get (n := ys.length) (d := .int k) (by simp)
  cases rval with
  | int _ t =>
    obtain ⟨ne, ho⟩ := id hpl
    refine wpAny_Expr (Call_method0 rfl (by simp [hli]) (load_var K.env hx hu ?_)) (by have := K.env.kind; simp [interactive, this]) (swaps_false rfl _ _ _)
    refine listMethod PySem.F.slot_list_pop PySem.F.type_list_pop hpl (P.pop_list (y := .int k t) ho ?_ ?_ (by rw [List.size_toArray]; have := lim_le; (clear K hx hli hW T F HR' hY hl hw q hh ha hu hpl rs z hval ho; omega)))
    · simp only [List.size_toArray, List.getElem?_toArray]
      rw [show vs.length - 1 = ys.length by simp at hlen; (clear K hx hli hW T F HR' hY hl hw q hh ha hu hpl rs z' z hval ho; omega)]; exact hval
    · have wl := write_list (s := s) (vs' := vs.dropLast) (xs' := ys) K F HR' hw ha hh (Heap.SameBut.update ..) (by
        have e := upd_plain hpl (fun xs => xs.eraseIdxIfInBounds (vs.toArray.size - 1))
        have e2 : vs.toArray.eraseIdxIfInBounds (vs.toArray.size - 1) = vs.dropLast.toArray := erase_last vs
        rw [e2] at e; exact e) (by simpa using rs.dropLast) (by simp at z; (clear K hx hli hW T F HR' hY hl hw q hh ha hu hpl rs z' hlen hval ho; omega))
      exact write_post (h₁ := s.heap) (tk₁ := s.toks) (β := []) (K₁ := []) (.refl _) (by simp) (by simpa using wl) (by simpa using q)

end
end Mine

set_option autoImplicit false
set_option linter.unusedSimpArgs false
set_option linter.unusedVariables false
namespace Mine
open PySem PyProof.Rows PySem.Calls

section
variable {X : SX} {f : FC}

/-- a new object turns that is none of the frame's -/
theorem FrS.other {G : GV} {W : Nat → Prop} {h h' : Heap} {α : List Addr} {ρ : Loc} {C : Addr} (K : FCOk f) (F : FrS G f W h α ρ) (hs : Heap.SameBut C h h') (hL : C ≠ f.env.locals) (hc : ∀ n, (n, C) ∉ f.env.cells) (hb : f.hb.get? C = none) (kt : KeepsT h h') : FrS G f W h' α ρ := by
  obtain ⟨m, cm, hn, hcl, hv⟩ := F.fr
  refine ⟨⟨m, cm, hn.sameBut hs (Ne.symm hL), ⟨fun x a e => (hcl.cell x a e).sameBut hs fun q => hc x (q ▸ PySem.mem_of_lookup e), hcl.apart, hcl.above⟩, fun i x d e1 e2 => ?_⟩, fun b o e => hs.extBut b o (fun q => by rw [q, hb] at e; cases e) (F.kb b o e), F.wb⟩
  obtain ⟨v, hv, r⟩ := hv i x d e1 e2
  exact ⟨v, hv, r.mono (fun _ _ e => e) kt⟩

theorem FrS.deadH {G : GV} {W : Nat → Prop} {s : Heap} {α : List Addr} {ρ : Loc} (F : FrS G f W s α ρ) {b : Addr} (e : s.get? b = none) : f.hb.get? b = none := by
  cases e' : f.hb.get? b with
  | none => rfl
  | some o => have := F.kb b o e'; rw [e] at this; cases this

theorem ss_assign_comp {i : Nat} {y : Str} {py spos : Pos} {elt iter : Expr} {x : Str} {px pos : Pos} {ifs : List Expr} {sc : Scope} {cs : List Str} {pelt : PE} {caps : List Nat} {pit : PI} {cond : PO} (KK : FCOk f) (hy : f.c.isVar i y = true)
    (K : CompOk f.c sc x cs caps) (h1 : SE X ⟨f.c.g, sc, x :: cs⟩ pelt elt) (h2 : SIfs X ⟨f.c.g, sc, x :: cs⟩ cond ifs) (h3 : SI X f.c pit iter) (hns : notSet iter = true) :
    SS X f (.assign i (.comp pelt 1 caps pit cond)) (.Assign [.Name y py] (.ListComp elt [⟨.Name x px, iter, ifs, 0⟩] sc pos) spos) := fun W s α ρ H N R Y E hW T F HR' hY q => by
  have hsw : ∃ b, swapsWith (.ListComp elt [⟨.Name x px, iter, ifs, 0⟩] sc pos) (some (.Name y py)) spos.line f.env = pure b := ⟨_, rfl⟩
  obtain ⟨b, hsw⟩ := hsw
  cases b with
  | false =>
    simp only [qS1, qS2, qS3, qS4, qS5, qS7, qS9, qS10, qS11, qS12, qS13, qS14] at q
    refine wpAny_Assign_Name (wpAny_mono (se_comp K h1 h2 h3 hns f.env s α ρ H _ E KK.env (T.at F) HR' F.fi q) (fun v s₁ p => ?_) fun _ _ x => x) hsw
    exact store_post KK F hy p
  | true =>
    simp only [qS1, qS2, qS3, qS4, qS5, qS7, qS9, qS10, qS11, qS12, qS13, qS14, qE1, qE2, qE5, qE7, qE8, qE9, qE10, qE11, qE12, qE13, qE14, qE15, qE16, qE17, qE18, qE19, qE20, qE21, qE22] at q
    rw [exec_Assign_Name_used _ _ _ _ hsw]
    refine wpAny_bind (wpAny_standAt (wpAny_bind ?_))
    rw [arm_evalThenUse_ListComp]
    refine wpAny_bind (wpAny_mono (Q := fun _ s' => PostS X.G f W s α H N R .next s') ?_ (fun _ _ p => wpAny_pure (wpAny_pure p)) fun _ _ e => e)
    refine wpAny_comprehension_free (use := some (assign (.Name y py) f.env)) rfl (folded_pure hns f.env) (K.clos KK.env) K.kind K.names (wpAny_mono (h3 f.env s α ρ H _ E KK.env (T.at F) HR' F.fi q) (fun xv s₁ p => wpAny_mono p (fun it s₂ p => ?_) fun _ _ e => e) fun _ _ e => e)
    refine comp_core K h1 h2 f.env s α ρ H _ E KK.env (T.at F) F.fi it s₂ p (fun acc C => compPost (model X.prog X.w) X.A E (some (assign (.Name y py) f.env)) (fun _ s' => PostS X.G f W s α H N R .next s') acc C) fun D C s' p => ?_
    obtain ⟨h', tk, β, K₁, ys, ds, m, rfl, k, fr, R', dD, dC, hDC, hD, hpl, rys, z, hn, q'⟩ := p
    -- the new list joins the lists
    have fr' : ∀ b ∈ β ++ [D], s.heap.get? b = none := fun b hb => by
      rcases List.mem_append.mp hb with hb | hb
      · exact fr b hb
      · simp at hb; subst hb; exact dD
    have F' := F.up k fr'
    have R'' : HR X.G (α ++ (β ++ [D])) h' (H ++ (K₁ ++ [ds])) := by
      have := R'.push (.refl _) hD hpl rys z
      simpa using this
    have rD : Rep X.G (α ++ (β ++ [D])) h' (.ref D) (.lst (H ++ K₁).length) := by
      refine Rep.lst ?_
      rw [← R'.len, ← List.append_assoc, List.getElem?_append_right (Nat.le_refl _)]; simp
    have hCL : C ≠ f.env.locals := fun q => by obtain ⟨o, ho⟩ := F.alive; rw [← q, dC] at ho; cases ho
    have hCc : ∀ n, (n, C) ∉ f.env.cells := fun n hm => by
      obtain ⟨m, cm, _, hc, _⟩ := F.fr
      obtain ⟨o', ho', hd'⟩ := hc.cell n C (KK.uniq n C hm)
      rw [dC] at ho'; cases ho'
    show wpAny _ _ (assign (.Name y py) f.env (.ref D)) _ _ _
    refine wpAny_assign_Name (store_var (s := { s with heap := h', toks := tk }) KK F' hy rD fun h₃ tk₃ F3 kf3 lt3 lv3 => ?_)
    dsimp only at kf3 lt3 lv3
    obtain ⟨oC, es, ep, hoC, hdC, hkC, hfC⟩ := id hn
    have hoC3 := kf3 C oC hoC hCL hCc
    have hn3 : h₃.Ns C m := ⟨oC, es, ep, hoC3, hdC, hkC, hfC⟩
    refine ⟨m, hn3, fun h₄ hs4 => ?_⟩
    dsimp only at hs4
    have lt4 : KeepsLT h₃ h₄ := KeepsLT.sameBut hs4 (ns_notSeq hn3)
    refine ⟨h₄, tk₃, β ++ [D], H ++ (K₁ ++ [ds]), rfl, ⟨fun b o e a1 a2 _ => hs4.extBut b o (fun q => by rw [q, dC] at e; cases e) (kf3 b o (k b o e) a1 a2), fr', fun n hnn _ => List.getElem?_append_left hnn, by simp⟩, fun b o e => ?_, (R''.lt' lt3).lt' lt4, _, F3.other KK hs4 hCL hCc (F.deadH dC) lt4.tup, by simpa using q'⟩
    obtain ⟨o', e'⟩ := lv3 b o (k b o e)
    exact ⟨o', hs4.extBut b o' (fun q => by rw [q, dC] at e; cases e) e'⟩

/-- stores one by one -/
theorem store_all (K : FCOk f) {W : Nat → Prop} {E : Value → Shared → Prop} : ∀ (is : List Nat) (ts : List Expr) (s : Shared) (α : List Addr) (ρ : Loc) (vs : List Value) (ds : List V) (Z : Unit → Shared → Prop), tgts f.c is ts = true → vs.length = is.length → FrS X.G f W s.heap α ρ → Reps X.G α s.heap vs ds →
    (∀ h' tk, FrS X.G f W h' α (lsets ρ is ds) → KeepsF f s.heap h' → KeepsLT s.heap h' → Lives s.heap h' → Z () { s with heap := h', toks := tk }) →
    wpAny (model X.prog X.w) X.A (assignInOrder ((assignEach ts f.env).map (·.2)) vs) Z E s
  | [], ts, s, α, ρ, vs, ds, Z, ht, hl, F, r, hz => by
    cases ts with
    | cons _ _ => exact (Bool.false_ne_true ht).elim
    | nil =>
      cases vs with
      | nil =>
        cases r
        exact wpAny_pure (hz s.heap s.toks F (fun _ _ e _ _ => e) (fun _ _ _ _ e _ => e) (fun b o e => ⟨o, e⟩))
      | cons v vs => exact absurd hl (Nat.succ_ne_zero _)
  | i :: is, ts, s, α, ρ, vs, ds, Z, ht, hl, F, r, hz => by
    cases ts with
    | nil => exact (Bool.false_ne_true ht).elim
    | cons t ts =>
      have ht := Bool.and_eq_true_iff.mp ht
      obtain ⟨x, p, rfl, hx⟩ := varNm_spec ht.1
      cases vs with
      | nil => exact absurd hl.symm (Nat.succ_ne_zero _)
      | cons v vs =>
        cases r with
        | cons rv rs =>
          rename_i d ds
          show wpAny _ _ (do holding vs (assign (.Name x p) f.env v); assignInOrder ((assignEach ts f.env).map (·.2)) vs) Z E s
          refine wpAny_bind (wpAny_holding (wpAny_assign_Name (store_var K F hx rv fun h' tk F' kf lt lv => ?_)))
          refine store_all K is ts { s with heap := h', toks := tk } α (lset ρ i d) vs ds Z ht.2 (Nat.succ.inj hl) F' (rs.mono (fun _ _ e => e) lt.tup) fun h'' tk' F'' kf' lt' lv' => ?_
          exact hz h'' tk' F'' (fun b o e a1 a2 => kf' b o (kf b o e a1 a2) a1 a2) (lt.trans lt') (lv.trans lv')

theorem tgts_each : ∀ {is : List Nat} {ts : List Expr}, tgts f.c is ts = true → (assignEach ts f.env).length = is.length ∧ (assignEach ts f.env).findIdx? (·.1) = none
  | [], [], h => ⟨rfl, rfl⟩
  | [], _ :: _, h => (Bool.false_ne_true h).elim
  | i :: is, [], h => (Bool.false_ne_true h).elim
  | i :: is, t :: ts, h => by
    have h := Bool.and_eq_true_iff.mp h
    obtain ⟨x, p, rfl, hx⟩ := varNm_spec h.1
    obtain ⟨a, b⟩ := tgts_each h.2
    have e : assignEach (.Name x p :: ts) f.env = (false, assign (.Name x p) f.env) :: assignEach ts f.env := rfl
    rw [e, List.length_cons, List.length_cons, a, List.findIdx?_cons, b]
    exact ⟨rfl, rfl⟩

theorem swapped_none {ts : List Expr} {k : Nat} {tp : Pos} {v : Expr} (h : ∀ vs k p, v ≠ .Tuple vs k p) (env : Env) : swappedStores [.Tuple ts k tp] v env = pure none := by
  cases v <;> first | rfl | exact absurd rfl (h _ _ _)

end
end Mine

set_option autoImplicit false
set_option linter.unusedSimpArgs false
set_option linter.unusedVariables false
set_option linter.unusedSectionVars false
namespace Mine
open PySem PyProof.Rows PySem.Calls

section
variable {X : SX} {f : FC}

theorem unpackOk_spec {v : Expr} (h : unpackOk v = true) : notComp v = true ∧ ∀ vs k p, v ≠ .Tuple vs k p := by
  cases v <;> first | exact (Bool.false_ne_true h).elim | exact ⟨rfl, fun _ _ _ e => Expr.noConfusion e⟩

theorem keeps_ext {h h' : Heap} (e : Heap.ExtBut h.objs.size h h') : KeepsH h h' := fun b o eo => e b o (Nat.ne_of_lt (Heap.lt_size eo)) eo

/-- behind the stores of an unpacking -/
theorem unpack_post {W : Nat → Prop} {s : Shared} {α : List Addr} {H : Hp} {N : Loc → Hp → Prop} {R : V → Hp → Prop} {h₁ h₂ : Heap} {tk : Nat} {β : List Addr} {K₁ : Hp} {ρ' : Loc} (k : KeepsH s.heap h₁) (fr : ∀ b ∈ β, s.heap.get? b = none) (R' : HR X.G (α ++ β) h₁ (H ++ K₁))
    (F' : FrS X.G f W h₂ (α ++ β) ρ') (kf : KeepsF f h₁ h₂) (lt : KeepsLT h₁ h₂) (lv : Lives h₁ h₂) (q : N ρ' (H ++ K₁)) : PostS X.G f W s α H N R .next { s with heap := h₂, toks := tk } :=
  ⟨h₂, tk, β, H ++ K₁, rfl, ⟨fun b o e a1 a2 _ => kf b o (k b o e) a1 a2, fr, fun n hn _ => List.getElem?_append_left hn, by simp⟩, (Lives.of k).trans lv, R'.lt' lt, ρ', F', q⟩

theorem ss_unpack {is : List Nat} {ts : List Expr} {pe : PE} {v : Expr} {k : Nat} {tp pos : Pos} (hA : AOk X.prog X.A) (K : FCOk f) (ht : tgts f.c is ts = true) (hnd : is.Nodup) (hok : unpackOk v = true) (h : SE X f.c pe v) : SS X f (.unpack is pe) (.Assign [.Tuple ts k tp] v pos) := fun W s α ρ H N R Y E hW T F HR' hY q => by
  simp only [qS1, qS2, qS3, qS4, qS5, qS7, qS9, qS10, qS11, qS12, qS13, qS14] at q
  have hsole : swapsWithSole [.Tuple ts k tp] v pos.line f.env = pure false := by
    show swapsWith v (some (.Tuple ts k tp)) pos.line f.env = pure false
    refine swaps_false ?_ _ _ _
    exact (unpackOk_spec hok).1
  have ev := h f.env s α ρ H _ E K.env (T.at F) HR' F.fi q
  obtain ⟨hlen, hfind⟩ := tgts_each ht
  refine Assign_Tuple (wpAny_mono ev (fun u s₁ p => ?_) fun _ _ x => x) hsole (swapped_none (unpackOk_spec hok).2 f.env)
  obtain ⟨h₁, tk₁, β, K₁, d, rfl, k₁, fr, R₁, r, q'⟩ := p
  obtain ⟨vs, rfl, hl, q'⟩ := ifTup.get q'
  obtain ⟨a, us, rfl, hti, rs, z⟩ := r.tup_inv
  · rw [arm_assign_Tuple]
    refine wpAny_bind (wpAny_standAt ?_)
    refine unpack_tuple (s := { s with heap := h₁, toks := tk₁ }) hA.handled hti (by rw [hlen, List.size_toArray, rs.len, hl]) hfind fun h₂ he => ?_
    have k₂ := keeps_ext he
    refine store_all (W := W) K is ts { s with heap := h₂, toks := tk₁ } (α ++ β) ρ us vs _ ht (by rw [rs.len, hl]) (F.up (k₁.trans k₂) fr) (rs.mono (fun _ _ e => e) (.of k₂)) fun h₃ tk₃ F3 kf3 lt3 lv3 => ?_
    exact unpack_post (k₁.trans k₂) fr (R₁.keeps k₂) F3 kf3 lt3 lv3 q'
end
end Mine

set_option autoImplicit false
set_option linter.unusedSimpArgs false
set_option linter.unusedVariables false
namespace Mine
open PySem PyProof.Rows PySem.Calls

/-- the post of a call behind which the frame's own object may have turned its slots -/
inductive PostT (G : GV) (f : FC) (s : Shared) (α : List Addr) (H : Hp) (Q : V → Hp → Prop) (v : Value) (s' : Shared) : Prop
  | mk (h' : Heap) (tk : Nat) (β : List Addr) (K : Hp) (d : V) (e : s' = { s with heap := h', toks := tk }) (k : ∀ b o, s.heap.get? b = some o → b ≠ f.env.locals → h'.get? b = some o)
    (l : ∀ m, s.heap.Ns f.env.locals m → h'.Ns f.env.locals m) (fr : ∀ b ∈ β, s.heap.get? b = none) (R : HR G (α ++ β) h' (H ++ K)) (r : Rep G (α ++ β) h' v d) (q : Q d (H ++ K))

/-- a call that may raise within and catch -/
noncomputable def STry (X : SX) (f : FC) : Prop :=
  ∀ (k : Nat) (x : Str) (vs : List V) (H : Hp) (Q : V → Hp → Prop), f.c.g.fns[k]? = some x → X.Φ (k + 1000) vs H Q (fun _ _ => False) → ∀ (W : Nat → Prop) (s : Shared) (α : List Addr) (ρ : Loc) (vals : List Value) (E : Value → Shared → Prop),
    GF X.G f.c.g X.DT f.hb → FrS X.G f W s.heap α ρ → HR X.G α s.heap H → Reps X.G α s.heap vals vs → wpAny (model X.prog X.w) X.A (call (.ref (X.G.fa k)) vals) (PostT X.G f s α H Q) E s

section
variable {X : SX} {f : FC}
/-- one call, told by what it is matched with -/
noncomputable def OneT (X : SX) (f : FC) (c : Nat × PEs) (e : Expr) : Prop :=
  ∃ x p a r pos, e = .Call (.Name x p) (a :: r) [] pos ∧ f.c.g.fns[c.1]? = some x ∧ f.c.isGlob x = true ∧ notStar a = true ∧ SEs X f.c c.2 (a :: r)
end
end Mine

set_option autoImplicit false
set_option linter.unusedSimpArgs false
set_option linter.unusedVariables false
set_option linter.unusedSectionVars false
namespace Mine
open PySem PyProof.Rows PySem.Calls

theorem meth_spec {c : MC} {i : Nat} {m : Str} {e : Expr} {cp : Pos} (h : c.isMeth i m e cp = true) : ∃ x px a ap, e = .Attribute (.Name x px) a ap ∧ c.isVar i x = true ∧ a = m ∧ ap.endLine = cp.line := by
  cases e <;> first | exact (Bool.false_ne_true h).elim | skip
  rename_i y a ap
  replace h : (c.varNm i y && a == m && decide (ap.endLine = cp.line)) = true := h
  rw [Bool.and_eq_true, Bool.and_eq_true, decide_eq_true_eq, beq_iff_eq] at h
  obtain ⟨x, px, rfl, hx⟩ := varNm_spec h.1.1
  exact ⟨x, px, a, ap, rfl, hx, h.1.2, h.2⟩
/-- a name's assignment -/
theorem inv_assign1 {P : Expr → Bool} {ts : List Expr} (h : (match isOne ts with | some t => P t | none => false) = true) : ∃ t, ts = [t] ∧ P t = true := by
  cases h1 : isOne ts with
  | none => rw [h1] at h; exact (Bool.false_ne_true h).elim
  | some t => rw [h1] at h; exact ⟨t, one_spec h1, h⟩

section
variable {X : SX} {f : FC} (hA : AOk X.prog X.A) (hΦ : SCall X.prog X.w X.G f.c.g X.DT X.A X.Φ) (K : FCOk f) (hT : STry X f)
include hA hΦ K hT

mutual
theorem soundS : (ps : PS) → ∀ (st : Stmt), matchS f.c ps st = true → SS X f ps st
  | .skip, st, h => (Bool.false_ne_true h).elim
  | .seq _ _, st, h => (Bool.false_ne_true h).elim
  | .assign i e, st, h => by
    cases st <;> first | exact (Bool.false_ne_true h).elim | skip
    rename_i ts v pos
    replace h := inv_assign1 h
    obtain ⟨t, rfl, h⟩ := h
    replace h := Bool.and_eq_true_iff.mp h
    have h1 := Bool.and_eq_true_iff.mp h.1
    obtain ⟨x, px, rfl, hx⟩ := varNm_spec h1.1
    rcases Bool.or_eq_true_iff.mp h.2 with hc | hc
    · exact ss_assign K hx (soundE hA hΦ e f.c.scope f.c.names v h1.2).1 hc
    · cases e with
      | comp elt tg caps it cond =>
        obtain ⟨x', tx, px', i', ifs, sc', pos', cs, rfl, rfl, hK, hi, he, hf⟩ := inv_comp h1.2
        obtain ⟨hsi, hns⟩ := soundI hA hΦ it f.c.scope f.c.names _ hi
        exact ss_assign_comp K hx hK (soundE hA hΦ elt sc' _ _ he).1 (soundIfs hA hΦ cond sc' _ _ hf) hsi hns
      | _ => exact (Bool.false_ne_true hc).elim
  | .unpack is e, st, h => by
    cases st <;> first | exact (Bool.false_ne_true h).elim | skip
    rename_i ts v pos
    replace h := inv_assign1 h
    obtain ⟨t, rfl, h⟩ := h
    cases t <;> first | exact (Bool.false_ne_true h).elim | skip
    rename_i us _ _
    replace h : (tgts f.c is us && matchE f.c e v && unpackOk v && decide is.Nodup) = true := h
    rw [Bool.and_eq_true, Bool.and_eq_true, Bool.and_eq_true, decide_eq_true_eq] at h
    exact ss_unpack hA K h.1.1.1 h.2 h.1.2 (soundE hA hΦ e f.c.scope f.c.names _ h.1.1.2).1
  | .setidx i k e, st, h => by
    cases st <;> first | exact (Bool.false_ne_true h).elim | skip
    rename_i ts v pos
    replace h := inv_assign1 h
    obtain ⟨t, rfl, h⟩ := h
    cases t <;> first | exact (Bool.false_ne_true h).elim | skip
    rename_i y j _
    replace h : (f.c.varNm i y && matchE f.c k j && matchE f.c e v && notCompM v) = true := h
    rw [Bool.and_eq_true, Bool.and_eq_true, Bool.and_eq_true] at h
    obtain ⟨x, px, rfl, hx⟩ := varNm_spec h.1.1.1
    exact ss_setidx K hx (soundE hA hΦ k f.c.scope f.c.names _ h.1.1.2).1 (soundE hA hΦ e f.c.scope f.c.names _ h.1.2).1 h.2
  | .pop i, st, h => by
    cases st <;> first | exact (Bool.false_ne_true h).elim | skip
    rename_i x pos
    cases x <;> first | exact (Bool.false_ne_true h).elim | skip
    rename_i g as kw cp
    replace h : (as.isEmpty && kw.isEmpty && f.c.isMeth i (Str.ofString "pop") g cp) = true := h
    rw [Bool.and_eq_true, Bool.and_eq_true, List.isEmpty_iff, List.isEmpty_iff] at h
    obtain ⟨⟨rfl, rfl⟩, hm⟩ := h
    obtain ⟨x, px, a, ap, rfl, hx, ha, hl⟩ := meth_spec hm
    exact ss_pop K hx ha hl
  | .ret e, st, h => by
    cases st <;> first | exact (Bool.false_ne_true h).elim | skip
    rename_i o pos
    cases o with
    | none => exact (Bool.false_ne_true h).elim
    | some v => exact ss_ret K (soundE hA hΦ e f.c.scope f.c.names _ h).1
  | .ite c a b, st, h => by
    cases st <;> first | exact (Bool.false_ne_true h).elim | skip
    replace h := Bool.and_eq_true_iff.mp h
    have h1 := Bool.and_eq_true_iff.mp h.1
    exact ss_ite K (soundE hA hΦ c f.c.scope f.c.names _ h1.1).2 (soundB a _ h1.2) (soundB b _ h.2)
  | .whl c b, st, h => by
    cases st <;> first | exact (Bool.false_ne_true h).elim | skip
    replace h := Bool.and_eq_true_iff.mp h
    have h1 := Bool.and_eq_true_iff.mp h.1
    have h0 := List.isEmpty_iff.mp h1.1
    subst h0
    exact ss_whl K (soundE hA hΦ c f.c.scope f.c.names _ h1.2).2 (soundB b _ h.2)
  | .forr i it b, st, h => by
    cases st <;> first | exact (Bool.false_ne_true h).elim | skip
    replace h := Bool.and_eq_true_iff.mp h
    have h1 := Bool.and_eq_true_iff.mp h.1
    have h2 := Bool.and_eq_true_iff.mp h1.1
    have h0 := List.isEmpty_iff.mp h2.1
    subst h0
    obtain ⟨x, px, rfl, hx⟩ := varNm_spec h2.2
    obtain ⟨hsi, hns⟩ := soundI hA hΦ it f.c.scope f.c.names _ h1.2
    exact ss_forr K hx hsi hns (soundB b _ h.2)
  | .raise k, st, h => fun W s α ρ H N R Y E hW T F HR' hY q => by
    simp only [qS1, qS2, qS3, qS4, qS5, qS7, qS9, qS10, qS11, qS12, qS13, qS14] at q
    exact wpAny_mono (hY k st s.heap s.toks [] H ρ h .refl (fun b o e => ⟨o, e⟩) (by simpa using HR') (by simpa using F) q) (fun _ _ f => f.elim) fun _ _ e => e
  | .opaq, st, h => (Bool.false_ne_true h).elim
theorem soundB : (ps : PS) → ∀ (sts : List Stmt), matchB f.c ps sts = true → SB X f ps sts
  | .skip, sts, h => by
    cases sts with
    | nil => exact sb_nil K
    | cons _ _ => exact (Bool.false_ne_true h).elim
  | .seq a b, sts, h => by
    cases sts with
    | nil => exact (Bool.false_ne_true h).elim
    | cons st sts =>
      replace h := Bool.and_eq_true_iff.mp h
      exact sb_cons K (soundS a _ h.1) (soundB b _ h.2)
  | .assign _ _, sts, h => (Bool.false_ne_true h).elim
  | .unpack _ _, sts, h => (Bool.false_ne_true h).elim
  | .setidx _ _ _, sts, h => (Bool.false_ne_true h).elim
  | .pop _, sts, h => (Bool.false_ne_true h).elim
  | .ret _, sts, h => (Bool.false_ne_true h).elim
  | .ite _ _ _, sts, h => (Bool.false_ne_true h).elim
  | .whl _ _, sts, h => (Bool.false_ne_true h).elim
  | .forr _ _ _, sts, h => (Bool.false_ne_true h).elim
  | .raise _, sts, h => (Bool.false_ne_true h).elim
  | .opaq, sts, h => fun W s α ρ H N R Y E hW T F HR' hY q => (show False from q).elim
end
end
end Mine

set_option autoImplicit false
set_option linter.unusedVariables false
namespace Mine
open PySem PyProof.Rows PySem.Calls

theorem cellsFrom_lookup : ∀ (names : List (Str × NameKind)) (n : Nat) (acc : List (Str × Addr)) (x : Str), (names.lookup x = some NameKind.cell ∨ ∃ a, acc.lookup x = some a) → ∃ a, (cellsFrom n names acc).lookup x = some a
  | [], n, acc, x, h => by
    rcases h with h | h
    · simp at h
    · exact h
  | (y, k) :: r, n, acc, x, h => by
    unfold cellsFrom
    by_cases hxy : x = y
    · subst hxy
      rcases h with h | ⟨a, h⟩
      · rw [List.lookup_cons_self] at h; cases h
        rw [if_pos (by rfl)]
        exact cellsFrom_lookup r _ _ x (.inr ⟨n, by rw [List.lookup_cons_self]⟩)
      · by_cases hk : (k == NameKind.cell) = true
        · rw [if_pos hk]; exact cellsFrom_lookup r _ _ x (.inr ⟨n, by rw [List.lookup_cons_self]⟩)
        · rw [if_neg hk]; exact cellsFrom_lookup r _ _ x (.inr ⟨a, h⟩)
    · have hne : (x == y) = false := by simpa using hxy
      have h' : r.lookup x = some NameKind.cell ∨ ∃ a, acc.lookup x = some a := by
        rcases h with h | h
        · rw [List.lookup_cons, hne] at h; exact .inl h
        · exact .inr h
      by_cases hk : (k == NameKind.cell) = true
      · rw [if_pos hk]
        refine cellsFrom_lookup r _ _ x ?_
        rcases h' with h' | ⟨a, h'⟩
        · exact .inl h'
        · exact .inr ⟨a, by rw [List.lookup_cons, hne]; exact h'⟩
      · rw [if_neg hk]; exact cellsFrom_lookup r _ _ x h'

theorem cellsFrom_keys : ∀ (names : List (Str × NameKind)) (n : Nat) (acc : List (Str × Addr)), (cellsFrom n names acc).map (·.1) = ((names.filter fun x => x.2 == NameKind.cell).map (·.1)).reverse ++ acc.map (·.1)
  | [], n, acc => by simp [cellsFrom]
  | (y, k) :: r, n, acc => by
    unfold cellsFrom
    by_cases hk : (k == NameKind.cell) = true
    · rw [if_pos hk, cellsFrom_keys r]; simp [hk]
    · rw [if_neg hk, cellsFrom_keys r]; simp [hk]

theorem lookup_of_nodup {β : Type} : ∀ (l : List (Str × β)) (x : Str) (v : β), (l.map (·.1)).Nodup → (x, v) ∈ l → l.lookup x = some v
  | [], _, _, _, h => by simp at h
  | (y, u) :: r, x, v, hn, h => by
    rw [List.map_cons, List.nodup_cons] at hn
    rcases List.mem_cons.mp h with h | h'
    · cases h; rw [List.lookup_cons_self]
    · have hne : (x == y) = false := by
        simp only [beq_eq_false_iff_ne]
        intro e; subst e
        exact hn.1 (List.mem_map.mpr ⟨_, h', rfl⟩)
      rw [List.lookup_cons, hne]; exact lookup_of_nodup r x v hn.2 h'

theorem bindL_keep {k : Str → Option NameKind} : ∀ (binds : List (Str × Value)) (m : Str → Option Value) (x : Str), x ∉ binds.map (·.1) → bindL k binds m x = m x
  | [], _, _, _ => rfl
  | (n, v) :: r, m, x, h => by
    simp only [List.map_cons, List.mem_cons, not_or] at h
    unfold bindL
    rw [bindL_keep r _ x h.2]
    split
    · exact if_neg h.1
    · rfl
theorem bindL_get {k : Str → Option NameKind} : ∀ (binds : List (Str × Value)) (m : Str → Option Value) (x : Str) (v : Value), (binds.map (·.1)).Nodup → (x, v) ∈ binds → k x = some .local → bindL k binds m x = some v
  | [], _, _, _, _, h, _ => by simp at h
  | (n, u) :: r, m, x, v, hn, h, hk => by
    rw [List.map_cons, List.nodup_cons] at hn
    unfold bindL
    rcases List.mem_cons.mp h with h | h
    · cases h
      rw [bindL_keep r _ _ hn.1, if_pos hk]; exact if_pos rfl
    · exact bindL_get r _ x v hn.2 h hk
theorem bindC_keep {k : Str → Option NameKind} : ∀ (binds : List (Str × Value)) (m : Str → Option Value) (x : Str), x ∉ binds.map (·.1) → bindC k binds m x = m x
  | [], _, _, _ => rfl
  | (n, v) :: r, m, x, h => by
    simp only [List.map_cons, List.mem_cons, not_or] at h
    unfold bindC
    rw [bindC_keep r _ x h.2]
    split
    · rfl
    · exact if_neg h.1
theorem bindC_get {k : Str → Option NameKind} : ∀ (binds : List (Str × Value)) (m : Str → Option Value) (x : Str) (v : Value), (binds.map (·.1)).Nodup → (x, v) ∈ binds → k x ≠ some .local → bindC k binds m x = some v
  | [], _, _, _, _, h, _ => by simp at h
  | (n, u) :: r, m, x, v, hn, h, hk => by
    rw [List.map_cons, List.nodup_cons] at hn
    unfold bindC
    rcases List.mem_cons.mp h with h | h
    · cases h
      rw [bindC_keep r _ _ hn.1, if_neg hk]; exact if_pos rfl
    · exact bindC_get r _ x v hn.2 h hk

theorem get_ge_none {h : Heap} {a : Addr} (ha : h.objs.size ≤ a) : h.get? a = none := by
  cases e : h.get? a with
  | none => rfl
  | some o => exact absurd (Heap.lt_size e) (Nat.not_lt.mpr ha)

/-- a def of the text and its mini form -/
structure DefOk (gc : GC) (d : DefT) (f : Fn) (vs : List Str) : Prop where
  nodup : vs.Nodup
  kind : d.scope.kind = .function
  coro : d.scope.isCoroutine = false
  gen : d.scope.isGenerator = false
  nofree : ∀ x, d.scope.names.lookup x ≠ some NameKind.free
  uniq : ((d.scope.names.filter fun x => x.2 == NameKind.cell).map (·.1)).Nodup
  par : ∀ x ∈ vs.take f.np, d.scope.names.lookup x = some .local ∨ d.scope.names.lookup x = some .cell
  bind : ∀ (pm cd doc : Value) (vals : List Value), vals.length = f.np → bindArgs (docDef d.name d.params d.body d.scope pm cd doc) ⟨vals, []⟩ = pure ((vs.take f.np).zip vals)
  body : matchB ⟨gc, d.scope, vs⟩ f.body d.body = true

theorem envOk_of {gc : GC} {d : DefT} {f : Fn} {vs : List Str} (D : DefOk gc d f vs) (L a : Addr) (cd : Value) : EnvOk ⟨gc, d.scope, vs⟩ (envOfC d.name d.scope L a cd) where
  kind := D.kind
  globals := rfl
  builtins := rfl
  loc := fun x e => e
  glob := fun x e => e
  cel := fun x e => e
  fre := fun x e => absurd e (D.nofree x)
  cells := fun x e => by
    rcases e with e | e
    · exact cellsFrom_lookup _ _ _ x (.inl e)
    · exact absurd e (D.nofree x)

theorem zip_get {β : Type} : ∀ {xs : List Str} {ys : List β} {i : Nat} {x : Str} {y : β}, xs[i]? = some x → ys[i]? = some y → (x, y) ∈ xs.zip ys
  | [], _, _, _, _, h, _ => by simp at h
  | _ :: _, [], _, _, _, _, h => by simp at h
  | _ :: _, _ :: _, 0, _, _, h1, h2 => by simp at h1 h2; subst h1 h2; simp
  | _ :: _, _ :: _, i + 1, _, _, h1, h2 => by
    simp at h1 h2
    simp only [List.zip_cons_cons, List.mem_cons]
    exact .inr (zip_get h1 h2)

theorem lget_start {np nv : Nat} {vs : List V} {i : Nat} {d : V} (h : lget (startLoc np nv vs) i = some d) : vs[i]? = some d := by
  have key : ∀ (l : List V) (n i : Nat), lget (l.map some ++ List.replicate n none) i = some d → l[i]? = some d := fun l => by
    induction l with
    | nil =>
      intro n
      induction n with
      | zero => intro i h; simp [lget] at h
      | succ n ih =>
        intro i h
        cases i with
        | zero => simp [List.replicate_succ, lget] at h
        | succ i => exact absurd (ih i (by simpa [List.replicate_succ, lget] using h)) (by simp)
    | cons x l ih =>
      intro n i h
      cases i with
      | zero => simpa [lget] using h
      | succ i => simpa using ih n i (by simpa [lget] using h)
  exact key vs _ i h

/-- the room that n calls need -/
structure Room (prog : Program) (A : Around) (n : Nat) : Prop where
  handled : A.handled = none
  depth : A.depth + n + 100 < recursionLimit
  units : A.units + 3 * n + 100 < cLine
  tree : prog.given.tree = none
  frames : ∃ l, A.frames = some l

theorem Room.down {prog : Program} {A : Around} {n : Nat} {env : Env} (r : Room prog A (n + 1)) : Room prog (A.deeper env) n :=
  ⟨r.handled, by have := r.depth; show A.depth + 1 + n + 100 < _; (clear r; omega), by have := r.units; show A.units + 3 + 3 * n + 100 < _; (clear r; omega), r.tree, by
    obtain ⟨l, e⟩ := r.frames
    exact ⟨env :: l, by show A.frames.map (env :: ·) = _; rw [e]; rfl⟩⟩
theorem Room.ok {prog : Program} {A : Around} {n : Nat} {env : Env} (r : Room prog A (n + 1)) (hg : env.scope.isGenerator = false) (hc : env.scope.isCoroutine = false) (hb : env.builtins = builtinsNs) (hm : env.globals = mainGlobals) : AOk prog (A.deeper env) := by
  obtain ⟨l, e⟩ := r.frames
  refine ⟨r.handled, by have := r.units; show A.units + 3 + 100 < _; (clear r hg hc hb hm e; omega), fun w s hl hs => PylongRoom.of hl ?_ (SeerAt.of hs r.tree (env := env) (l := l) (by show A.frames.map (env :: ·) = _; rw [e]; rfl) hg hc hb hm)⟩
  have := r.depth
  show A.depth + 1 + 100 < _
  (clear r hg hc hb hm e hl hs; omega)

section
variable {prog : Program} {w : World} {G : GV} {gc : GC} {DT : List DefT} {P : List Fn} {VT : List (List Str)} {sub : Nat → Nat → Bool}

theorem take_eq_of_same {H H' : Hp} (hs : ∀ n, n < H.length → H'[n]? = H[n]?) (hl : H.length ≤ H'.length) : H' = H ++ H'.drop H.length := by
  conv => lhs; rw [← List.take_append_drop H.length H']
  congr 1
  apply List.ext_getElem?
  intro n
  by_cases hn : n < H.length
  · rw [List.getElem?_take, if_pos hn]; exact hs n hn
  · rw [List.getElem?_take, if_neg hn, List.getElem?_eq_none (by (clear hs hl; omega))]

noncomputable def SCallC (prog : Program) (w : World) (G : GV) (gc : GC) (DT : List DefT) (A : Around) (Φ : Call) : Prop :=
  ∀ (f : Nat) (x : Str) (vs : List V) (H : Hp) (Q : V → Hp → Prop), gc.fns[f]? = some x → Φ f vs H Q (fun _ _ => False) → ∀ (s : Shared) (α : List Addr) (vals : List Value) (E : Value → Shared → Prop),
    GF G gc DT s.heap → HR G α s.heap H → Reps G α s.heap vals vs → codeAny (model prog w) A (.call (.ref (G.fa f)) ⟨vals, []⟩)
      (fun r s' => match r with | .ok (.ret v) => Post G (Rep G) s α H Q v s' | .ok _ => False | .error e => E e s') s
theorem SCallC.wp {A : Around} {Φ : Call} (h : SCallC prog w G gc DT A Φ) : SCall prog w G gc DT A Φ := fun f x vs H Q hx hq s α vals E T R r => wpAny_call (h f x vs H Q hx hq s α vals E T R r)

/-- one call of an own def -/
theorem call_core {n : Nat} {A : Around} {Φ : Call} {f : Nat} {s : Shared} (hA : Room prog A (n + 1)) (hdefs : ∀ (k : Nat) (d : DefT) (f : Fn), DT[k]? = some d → P[k]? = some f → ∃ vs, DefOk gc d f vs) (hΦ : ∀ env, SCall prog w G gc DT (A.deeper env) Φ)
    (hT : ∀ (d : DefT) (vn : List Str) (cd : Value), DT[f]? = some d →
      STry ⟨prog, w, G, DT, A.deeper (envOfC d.name d.scope s.heap.objs.size (G.fa f) cd), sub, Φ⟩ ⟨⟨gc, d.scope, vn⟩, envOfC d.name d.scope s.heap.objs.size (G.fa f) cd, s.heap⟩)
    {x : Str} {vs : List V} {H : Hp} {Q : V → Hp → Prop} {Y : Nat → Hp → Prop} {fd : Fn} (hx : gc.fns[f]? = some x) (hf : P[f]? = some fd) (hlen : vs.length = fd.np)
    (hw : wpS sub Φ (fun m => H.length ≤ m) fd.body (startLoc fd.np fd.nv vs) H (fun _ H' => Q .none H') Q Y) (α : List Addr) (vals : List Value) (E : Value → Shared → Prop)
    (hR : ∀ (d : DefT) (vn : List Str) (cd : Value) (h₁ : Heap) (tk : Nat), DT[f]? = some d → DefOk gc d fd vn → KeepsH s.heap h₁ → RaiseOk ⟨prog, w, G, DT, A.deeper (envOfC d.name d.scope s.heap.objs.size (G.fa f) cd), sub, Φ⟩ ⟨⟨gc, d.scope, vn⟩, envOfC d.name d.scope s.heap.objs.size (G.fa f) cd, s.heap⟩ (fun m => H.length ≤ m)
      { s with heap := h₁, toks := tk } α H Y (fun e s' => wpAny (model prog w) (A.deeper (envOfC d.name d.scope s.heap.objs.size (G.fa f) cd)) (leaving (envOfC d.name d.scope s.heap.objs.size (G.fa f) cd) e) (fun _ s'' => E e s'') (fun e' s'' => E e' s'') s'))
    (T : GF G gc DT s.heap) (R : HR G α s.heap H) (r : Reps G α s.heap vals vs) : codeAny (model prog w) A (.call (.ref (G.fa f)) ⟨vals, []⟩)
      (fun r s' => match r with | .ok (.ret v) => Post G (Rep G) s α H Q v s' | .ok _ => False | .error e => E e s') s := by
  obtain ⟨hm, d, o, pm, cd, doc, hd, hname, ho, hdata, hcd⟩ := T.fn f x hx
  obtain ⟨vn, D⟩ := hdefs f d fd hd hf
  have hvl : vals.length = fd.np := r.len.trans hlen
  have hkindOf : ∀ (x : Str), x ∈ vn.take fd.np → d.scope.names.lookup x = some .local ∨ (d.scope.names.lookup x = some .cell ∧ ((cellsFrom (s.heap.objs.size + 1) d.scope.names []).lookup x).isSome = true) := fun x hx => by
    rcases D.par x hx with e | e
    · exact .inl e
    · obtain ⟨a, ha⟩ := cellsFrom_lookup d.scope.names (s.heap.objs.size + 1) [] x (.inl e)
      exact .inr ⟨e, by rw [ha]; rfl⟩
  have hmemz : ∀ y ∈ (vn.take fd.np).zip vals, y.1 ∈ vn.take fd.np := fun y hy => (List.of_mem_zip (show (y.1, y.2) ∈ _ from hy)).1
  refine (call_cells (by have := hA.depth; (clear hA hdefs hΦ hT hx hf hlen hw hR T R r hm hd hname ho hdata hcd D hvl hkindOf hmemz; omega)) ho hdata T.nolimit hcd (D.bind pm cd doc vals hvl) (fun y hy => hkindOf y.1 (hmemz y hy)) (fun h₁ tk Fr' Cl' => ?_) D.coro D.gen D.kind)
  let env := envOfC d.name d.scope s.heap.objs.size (G.fa f) cd
  let fc : FC := ⟨⟨gc, d.scope, vn⟩, env, s.heap⟩
  let X : SX := ⟨prog, w, G, DT, A.deeper env, sub, Φ⟩
  have K : FCOk fc := by
    refine ⟨envOk_of D _ _ _, D.nodup, D.nofree, size_none _, fun m a hm => get_ge_none (Nat.le_of_lt (Cl'.above m a hm)), Cl'.above, Cl'.apart, fun m a hm => ?_⟩
    refine lookup_of_nodup _ _ _ ?_ hm
    show ((cellsFrom _ _ _).map (·.1)).Nodup
    rw [cellsFrom_keys]
    rw [List.map_nil, List.append_nil]
    exact (List.reverse_perm _).nodup_iff.mpr D.uniq
  have hnd : (((vn.take fd.np).zip vals).map (·.1)).Nodup := by
    refine List.Nodup.sublist ?_ (List.Nodup.sublist (List.take_sublist fd.np vn) D.nodup)
    have : ∀ (a : List Str) (b : List Value), ((a.zip b).map (·.1)).Sublist a := fun a => by
      induction a with
      | nil => intro b; simp
      | cons x a ih => intro b; cases b with
        | nil => simp
        | cons y b => simpa using ih b
    exact this _ _
  have hkeep : KeepsH s.heap h₁ := Fr'.keep
  have F : FrS G fc (fun m => H.length ≤ m) h₁ α (startLoc fd.np fd.nv vs) := by
    refine ⟨⟨_, _, Fr'.ns, Cl', fun i y dv hi hd' => ?_⟩, hkeep, fun m a ha hm => ?_⟩
    · have hvi := lget_start hd'
      obtain ⟨v, hv, rv⟩ := r.get hvi
      have hil : i < fd.np := by rw [← hlen]; exact (List.getElem?_eq_some_iff.mp hvi).1
      have hyt : (vn.take fd.np)[i]? = some y := by rw [List.getElem?_take, if_pos hil]; exact hi
      have hz : (y, v) ∈ (vn.take fd.np).zip vals := zip_get hyt hv
      refine ⟨v, ?_, rv.mono (fun _ _ e => e) (.of hkeep)⟩
      rcases hkindOf y (hmemz _ hz) with e | ⟨e, _⟩
      · exact .inl ⟨e, bindL_get _ _ _ _ hnd hz e⟩
      · exact .inr ⟨e, bindC_get _ _ _ _ hnd hz (by rw [show (envOfC d.name d.scope s.heap.objs.size (G.fa f) cd).kindOf y = some .cell from e]; simp), cellsFrom_lookup _ _ _ y (.inl e)⟩
    · have := (List.getElem?_eq_some_iff.mp ha).1
      rw [R.len] at this; (clear hA hdefs hΦ hT hx hf hlen hw hR T R r hd hname ho hdata hcd D hvl hkindOf hmemz Fr' Cl' K hnd hkeep ha; omega)
  have hs := soundB (X := X) (f := fc) (hA.ok (env := env) D.gen D.coro rfl rfl) (hΦ env) K (hT d vn cd hd) fd.body d.body D.body (fun m => H.length ≤ m) { s with heap := h₁, toks := tk } α _ H _ _ _ _
    (fun m hm => Nat.le_trans R.pos hm) T F (R.keeps hkeep) (hR d vn cd h₁ tk hd D hkeep) hw
  refine wpAny_mono hs (fun fl s' p => ?_) fun _ _ e => e
  obtain ⟨h', tk', β, H', rfl, st, lv, R', pf⟩ := p
  have hH' : H' = H ++ H'.drop H.length := take_eq_of_same (fun m hm => st.same m hm (Nat.not_le.mpr hm)) st.le
  have fresh : ∀ b ∈ β, s.heap.get? b = none := fun b hb => by
    cases e : s.heap.get? b with
    | none => rfl
    | some o' => have := st.fresh b hb; rw [show ({ s with heap := h₁, toks := tk } : Shared).heap.get? b = some o' from hkeep b o' e] at this; cases this
  cases fl with
  | next =>
    obtain ⟨ρ', F', hN⟩ := pf
    exact ⟨h', tk', β, _, .none, rfl, F'.kb, fresh, hH' ▸ R', Rep.none, hH' ▸ hN⟩
  | ret v =>
    obtain ⟨kb, dv, rv, hR⟩ := pf
    exact ⟨h', tk', β, _, dv, rfl, kb, fresh, hH' ▸ R', rv, hH' ▸ hR⟩
  | _ => exact pf.elim

theorem call_step {n : Nat} {A : Around} {Φ : Call} {f : Nat} {s : Shared} (hA : Room prog A (n + 1)) (hdefs : ∀ (k : Nat) (d : DefT) (f : Fn), DT[k]? = some d → P[k]? = some f → ∃ vs, DefOk gc d f vs) (hΦ : ∀ env, SCall prog w G gc DT (A.deeper env) Φ)
    (hT : ∀ (d : DefT) (vn : List Str) (cd : Value), DT[f]? = some d →
      STry ⟨prog, w, G, DT, A.deeper (envOfC d.name d.scope s.heap.objs.size (G.fa f) cd), sub, Φ⟩ ⟨⟨gc, d.scope, vn⟩, envOfC d.name d.scope s.heap.objs.size (G.fa f) cd, s.heap⟩)
    {x : Str} {vs : List V} {H : Hp} {Q : V → Hp → Prop} {fd : Fn} (hx : gc.fns[f]? = some x) (hf : P[f]? = some fd) (hlen : vs.length = fd.np)
    (hw : wpS sub Φ (fun m => H.length ≤ m) fd.body (startLoc fd.np fd.nv vs) H (fun _ H' => Q .none H') Q (fun _ _ => False)) (α : List Addr) (vals : List Value) (E : Value → Shared → Prop)
    (T : GF G gc DT s.heap) (R : HR G α s.heap H) (r : Reps G α s.heap vals vs) : codeAny (model prog w) A (.call (.ref (G.fa f)) ⟨vals, []⟩)
      (fun r s' => match r with | .ok (.ret v) => Post G (Rep G) s α H Q v s' | .ok _ => False | .error e => E e s') s :=
  call_core hA hdefs hΦ hT hx hf hlen hw α vals E (fun d vn cd h₁ tk _ _ _ k st h' tk' β H' ρ' _ _ _ _ _ hf => hf.elim) T R r

theorem scall_callN (hlenP : P.length = gc.fns.length) (hP : P.length ≤ 1000) (hdefs : ∀ (k : Nat) (d : DefT) (f : Fn), DT[k]? = some d → P[k]? = some f → ∃ vs, DefOk gc d f vs) :
    ∀ (n : Nat) (A : Around), Room prog A n → SCallC prog w G gc DT A (callN sub P n)
  | 0, A, _ => fun f x vs H Q _ h => by simp [callN] at h
  | n + 1, A, hA => fun f x vs H Q hx h s α vals E T R r => by
    simp only [callN] at h
    obtain ⟨fd, hf, hlen, hw⟩ := h
    refine call_step hA hdefs (fun env => (scall_callN hlenP hP hdefs n _ hA.down).wp) (fun d vn cd _ k x vs H Q _ hk => ?_) hx hf hlen hw α vals E T R r
    · replace hk : callN sub P n (k + 1000) vs H Q (fun _ _ => False) := hk
      cases n with
      | zero => simp [callN] at hk
      | succ n =>
        simp only [callN] at hk
        obtain ⟨d', hd', _⟩ := hk
        have := (List.getElem?_eq_some_iff.mp hd').1
        (clear hdefs hx T R r hf hlen hA hw hd'; omega)
end
end Mine

set_option autoImplicit false
set_option linter.unusedVariables false
namespace Mine
open PySem PyProof.Rows PySem.Calls

theorem lookup_zip : ∀ (ns : List Str) (vals : List Value), ns.Nodup → vals.length = ns.length → ∀ x ∈ ns, (((ns.zip vals).lookup x).isNone) = false
  | [], _, _, _, x, h => by simp at h
  | n :: ns, [], _, h, _, _ => by simp at h
  | n :: ns, v :: vals, hn, hl, x, hx => by
    rw [List.zip_cons_cons]
    by_cases e : x = n
    · subst e; rw [List.lookup_cons_self]; rfl
    · have : (x == n) = false := by simpa using e
      rw [List.lookup_cons, this]
      rw [List.nodup_cons] at hn
      exact lookup_zip ns vals hn.2 (by simpa using hl) x (by simpa [e] using hx)
theorem filterMap_zip : ∀ (ns : List Str) (vals : List Value), ns.Nodup → vals.length = ns.length → (ns.filterMap fun n => ((ns.zip vals).lookup n).map (n, ·)) = ns.zip vals := by
  have key : ∀ (ms : List Str) (us : List Value) (f : Str → Option Value), us.length = ms.length → (∀ n v, (n, v) ∈ ms.zip us → f n = some v) → (ms.filterMap fun n => (f n).map (n, ·)) = ms.zip us := fun ms => by
    induction ms with
    | nil => intro us f _ _; simp
    | cons n ms ih =>
      intro us f hl h
      cases us with
      | nil => simp at hl
      | cons u us =>
        rw [List.filterMap_cons, h n u (by simp), List.zip_cons_cons]
        show (n, u) :: _ = _
        rw [ih us f (by simpa using hl) fun a b hab => h a b (by simp [hab])]
  intro ns vals hn hl
  refine key ns vals _ hl fun n v h => ?_
  refine lookup_of_nodup _ _ _ ?_ h
  have : (ns.zip vals).map (·.1) = ns := List.map_fst_zip (by (clear key hn h; omega))
  rw [this]; exact hn

theorem bind_plain {name : Str} {params : Arguments} {body : List Stmt} {scope : Scope} {pm cd doc : Value} {vals : List Value} {ns : List Str}
    (h1 : params.posonlyargs = []) (h2 : params.vararg = none) (h3 : params.kwonlyargs = []) (h4 : params.kwarg = none) (hns : params.args.map (·.arg) = ns) (hn : ns.Nodup) (hl : vals.length = ns.length) :
    bindArgs (docDef name params body scope pm cd doc) ⟨vals, []⟩ = pure (ns.zip vals) := by
  obtain ⟨po, ar, va, ko, kd, kw, df⟩ := params
  simp only at h1 h2 h3 h4 hns
  subst h1 h2 h3 h4
  subst hns
  unfold bindArgs
  simp only [docDef, List.map_nil, List.nil_append, List.append_nil]
  generalize List.map (fun x : Arg => x.arg) ar = ns at hn hl ⊢
  have hf : (List.filter (fun n => (List.lookup n (ns.zip vals)).isNone) ns) = [] := by
    rw [List.filter_eq_nil_iff]
    intro x hx
    rw [lookup_zip _ _ hn hl x hx]; simp
  have hg := filterMap_zip _ _ hn hl
  have hns : notAStandIn Value.none = pure () := rfl
  simp [seqItems?, hl, hns]
  have hc : ¬ ((!(List.filter (fun n => (List.lookup n (ns.zip vals)).isNone) (List.take (ns.length - (List.drop ((#[] : Array Value).size - ns.length) ([] : List Value)).length) ns)).isEmpty) = true) := by
    simp only [List.drop_nil, List.length_nil, Nat.sub_zero, List.take_length, hf]; decide
  rw [if_neg hc, hg]
end Mine

set_option autoImplicit false
set_option linter.unusedVariables false
namespace Mine
open PySem PyProof.Rows PySem.Calls PySem.W

noncomputable def toDef (r : DefRec) : DefT := ⟨r.name, r.params, r.body, r.scope⟩

noncomputable def defChk (gc : GC) (d : DefT) (f : Fn) (vs : List Str) : Bool :=
  decide vs.Nodup && decide (d.scope.kind = .function) && (d.scope.isCoroutine == false) && (d.scope.isGenerator == false) && d.scope.names.all (fun x => decide (x.2 ≠ NameKind.free)) &&
  decide ((d.scope.names.filter fun x => x.2 == NameKind.cell).map (·.1)).Nodup &&
  (vs.take f.np).all (fun x => decide (d.scope.names.lookup x = some NameKind.local) || decide (d.scope.names.lookup x = some NameKind.cell)) &&
  d.params.posonlyargs.isEmpty && d.params.vararg.isNone && d.params.kwonlyargs.isEmpty && d.params.kwarg.isNone && decide (d.params.args.map (·.arg) = vs.take f.np) && decide (f.np ≤ vs.length) && matchB ⟨gc, d.scope, vs⟩ f.body d.body

theorem defOk_of {gc : GC} {d : DefT} {f : Fn} {vs : List Str} (h : defChk gc d f vs = true) : DefOk gc d f vs := by
  unfold defChk at h
  simp only [Bool.and_eq_true, decide_eq_true_eq, beq_iff_eq, List.isEmpty_iff, Option.isNone_iff_eq_none] at h
  obtain ⟨⟨⟨⟨⟨⟨⟨⟨⟨⟨⟨⟨⟨h1, h2⟩, h3⟩, h4⟩, h5⟩, h6⟩, h7⟩, h8⟩, h9⟩, h10⟩, h11⟩, h12⟩, h13⟩, h14⟩ := h
  refine ⟨h1, h2, h3, h4, fun x e => ?_, h6, fun x hx => ?_, fun pm cd doc vals hv => ?_, h14⟩
  · have := List.all_eq_true.mp h5 (x, NameKind.free) (PySem.mem_of_lookup e)
    simp at this
  · have := List.all_eq_true.mp h7 x hx
    simpa using this
  · exact bind_plain h8 h9 h10 h11 h12 (List.Nodup.sublist (List.take_sublist _ _) h1) (by rw [hv, List.length_take]; (clear h14 h12 h11 h10 h9 h8 h7 h6 h5 h4 h3 h1 h2; omega))

noncomputable def chkAll (gc : GC) : List DefT → List Fn → List (List Str) → Bool
  | [], [], [] => true
  | d :: ds, f :: fs, v :: vs => defChk gc d f v && chkAll gc ds fs vs
  | _, _, _ => false

theorem defs_of {gc : GC} : ∀ {DT : List DefT} {P : List Fn} {VT : List (List Str)}, chkAll gc DT P VT = true → P.length = DT.length ∧ ∀ (k : Nat) (d : DefT) (f : Fn), DT[k]? = some d → P[k]? = some f → ∃ vs, DefOk gc d f vs
  | [], [], [], _ => ⟨rfl, fun k d f h => by simp at h⟩
  | d :: ds, f :: fs, v :: vs, h => by
    replace h := Bool.and_eq_true_iff.mp h
    obtain ⟨hl, hr⟩ := defs_of h.2
    refine ⟨by simp [hl], fun k d' f' h1 h2 => ?_⟩
    cases k with
    | zero => simp at h1 h2; subst h1 h2; exact ⟨v, defOk_of h.1⟩
    | succ k => simp at h1 h2; exact hr k d' f' h1 h2
  | [], [], _ :: _, h => (Bool.false_ne_true h).elim
  | [], _ :: _, _, h => (Bool.false_ne_true h).elim
  | _ :: _, [], _, h => (Bool.false_ne_true h).elim
  | _ :: _, _ :: _, [], h => (Bool.false_ne_true h).elim

theorem reps_ints {G : GV} {α : List Addr} {h : Heap} : ∀ {vs : List Value} {ns : List Int}, IntsAre vs ns → Reps G α h vs (ns.map .int)
  | _, _, .nil => .nil
  | _, _, .cons n t r => .cons (.int n t) (reps_ints r)

noncomputable def fnAddr (mg : Str → Option Value) (fns : List Str) (k : Nat) : Addr := match fns[k]? with | some x => (match mg x with | some (.ref a) => a | _ => 0) | none => 0

section
variable {prog : Program} {w : World} {view : Program} {loose : List Str} {mean : ExcName → Option Value} {mg mb : Str → Option Value}

theorem gf_plain {h : Heap} {gc : GC} (T : Top view loose mean mg mb h) (hfns : gc.fns = (recsOf view).map (·.name))  (hglobs : gc.globs = []) (hseer : importsNone view = true)
    (hblt : (bltNames.all fun x => !startupNames.contains x && !loose.contains x && !((recsOf view).map (·.name)).contains x && !((litsOf view).map (·.1)).contains x && !((clssOf view loose).map (·.name)).contains x && decide (x ≠ "__name__")) = true) :
    GF ⟨mg, mb, fnAddr mg gc.fns, fun _ => .none⟩ gc ((recsOf view).map toDef) h where
  g := T.g
  b := T.b
  nolimit := T.nolimit
  seer := T.seer hseer
  fn := fun k x e => by
    have e0 := e
    rw [hfns, List.getElem?_map] at e
    cases hr : (recsOf view)[k]? with
    | none => rw [hr] at e; simp at e
    | some r =>
      rw [hr] at e; simp at e; subst e
      obtain ⟨a, o, pm, cd, doc, h1, h2, h3, h4⟩ := T.fn r (List.mem_of_getElem? hr)
      have hfa : fnAddr mg gc.fns k = a := by unfold fnAddr; rw [e0]; simp [h1]
      refine ⟨by show mg r.name = some (.ref (fnAddr mg gc.fns k)); rw [hfa]; exact h1, toDef r, o, pm, cd, doc, by rw [List.getElem?_map, hr]; rfl, rfl, ?_, h3, h4⟩
      show h.get? (fnAddr mg gc.fns k) = some o
      rw [hfa]; exact h2
  blt := fun x hx => by
    have := List.all_eq_true.mp hblt x hx
    simp only [Bool.and_eq_true, Bool.not_eq_true', decide_eq_true_eq] at this
    obtain ⟨⟨⟨⟨⟨h1, h2⟩, h3⟩, h4⟩, h5⟩, h6⟩ := this
    have nm : ∀ {l : List Str}, l.contains x = false → x ∉ l := fun {l} h hm => by
      rw [List.contains_iff_mem.mpr hm] at h; cases h
    exact ⟨T.free x (nm h1) (nm h2) (nm h3) (nm h4) (nm h5), T.builtins x h6⟩
  glob := fun x a b e => by rw [hglobs] at e; simp at e

theorem callerRoom {prog : Program} {n : Nat} (ht : prog.given.tree = none) (hn : n ≤ 500) : Room prog callerA n := ⟨rfl, by show 1 + 300 + n + 100 < 1000; (clear ht; omega), by show 4 + 3 * n + 100 < 9900; (clear ht; omega), ht, [], rfl⟩

theorem run_law (htree : prog.given.tree = none) {s : Shared} {gc : GC} {G : GV} {DT : List DefT} {P : List Fn} {VT : List (List Str)} {sub : Nat → Nat → Bool} (F : GF G gc DT s.heap) (hlen : gc.fns.length = DT.length) (hchk : chkAll gc DT P VT = true)
    {l : Addr} {vs : List Value} {ns : List Int} (hP1 : P.length ≤ 1000) (hl : s.heap.IsList l vs.toArray) (hI : IntsAre vs ns) (h63 : ns.length ≤ 63) {k n : Nat} {x : Str} {fa : Addr} (hk : gc.fns[k]? = some x) (hfa : G.mg x = some (.ref fa)) (hn : n ≤ 500)
    (hw : callN sub P n k [.lst 0] [ns.map .int] (fun v _ => v = .bool true) (fun _ _ => False)) {R : Result → Shared → Prop}
    (hR : ∀ h' tk, KeepsH s.heap h' → R (.ok (.ret (.bool true))) { s with heap := h', toks := tk }) :
    codeAny (model prog w) callerA (.call (.ref fa) ⟨[.ref l], []⟩) R s := by
  obtain ⟨hP, hdefs⟩ := defs_of hchk
  have hsc := scall_callN (prog := prog) (w := w) (G := G) (sub := sub) (by rw [hP, hlen]) hP1 hdefs n callerA (callerRoom htree hn)
  have hf : G.fa k = fa := by
    have := (F.fn k x hk).1
    rw [hfa] at this; injection this with this; injection this with this; exact this.symm
  have HR0 : HR G [l] s.heap [ns.map .int] := by
    refine ⟨rfl, by simp, by simp, fun m a xs e1 e2 => ?_⟩
    cases m with
    | zero =>
      simp at e1 e2; subst e1 e2
      refine ⟨vs, hl, reps_ints hI, ?_, fun h => absurd rfl h⟩
      rw [List.length_map]; exact Nat.le_trans h63 (by decide)
    | succ m => simp at e1
  have := hsc k x [.lst 0] [ns.map .int] _ hk hw s [l] [.ref l] (fun _ _ => False) F HR0 (.cons (Rep.lst rfl) .nil)
  rw [hf] at this
  refine codeAny_mono this fun r s' p => ?_
  cases r with
  | error e => exact p.elim
  | ok fl =>
    cases fl with
    | ret v =>
      obtain ⟨h', tk, β, K, d, rfl, kp, _, _, rp, rfl⟩ := p
      cases rp
      exact hR h' tk kp
    | _ => exact p.elim

end
end Mine

set_option autoImplicit false
set_option linter.unusedVariables false
namespace Mine
open PySem

/-- below 2 ^ k either way -/
noncomputable def Sm (k : Nat) (x : Int) : Prop := x.natAbs < 2 ^ k
theorem Sm.mono {k l : Nat} {x : Int} (h : Sm k x) (hl : k ≤ l) : Sm l x := Nat.lt_of_lt_of_le h (Nat.pow_le_pow_right (by decide) hl)
theorem Sm.mul {k l : Nat} {x y : Int} (h1 : Sm k x) (h2 : Sm l y) : Sm (k + l) (x * y) := by
  unfold Sm at *
  rw [Int.natAbs_mul, Nat.pow_add]
  exact Nat.mul_lt_mul'' h1 h2
theorem Sm.add {k : Nat} {x y : Int} (h1 : Sm k x) (h2 : Sm k y) : Sm (k + 1) (x + y) := by
  unfold Sm at *
  rw [Nat.pow_succ]; omega
theorem Sm.sub {k : Nat} {x y : Int} (h1 : Sm k x) (h2 : Sm k y) : Sm (k + 1) (x - y) := by
  unfold Sm at *
  rw [Nat.pow_succ]; omega
theorem Sm.neg {k : Nat} {x : Int} (h1 : Sm k x) : Sm k (-x) := by
  unfold Sm at *; omega
theorem Sm.bits {k : Nat} {x : Int} (h : Sm k x) : Builtin.Int.intBits x ≤ k := by
  unfold Builtin.Int.intBits
  split
  · exact Nat.zero_le _
  · rename_i hx
    have : x.natAbs ≠ 0 := by simpa using hx
    exact (Nat.log2_lt this).mpr h
theorem IntMulOk.left {a b : Int} (h : Sm 64 a) : IntMulOk a b := IntMulOk.of_left h.bits
theorem IntMulOk.right {a b : Int} (h : Sm 64 b) : IntMulOk a b := IntMulOk.of_right h.bits
theorem IntMulOk.sm {k l : Nat} {a b : Int} (h1 : Sm k a) (h2 : Sm l b) (hk : k ≤ 1048576) (hl : l ≤ 1048576) : IntMulOk a b :=
  IntMulOk.of_bits (Nat.le_trans h1.bits (by simpa using hk)) (Nat.le_trans h2.bits (by simpa using hl))

theorem fmod_natAbs_lt {a b : Int} (hb : b ≠ 0) : (a.fmod b).natAbs < b.natAbs := by
  rcases Int.lt_or_gt_of_ne hb with h | h
  · have h1 : a.fmod b = -((-a).fmod (-b)) := by rw [Int.neg_fmod_neg]; (clear hb h; omega)
    have h2 := Int.fmod_nonneg_of_pos (-a) (b := -b) (by (clear hb h1; omega))
    have h3 := Int.fmod_lt_of_pos (-a) (b := -b) (by (clear hb h1 h2; omega))
    (clear hb; omega)
  · have h2 := Int.fmod_nonneg_of_pos a h
    have h3 := Int.fmod_lt_of_pos a h
    (clear hb; omega)
theorem gcd_fmod {a b : Int} : b.gcd (a.fmod b) = a.gcd b := by
  rw [Int.fmod_def, Int.gcd_comm, Int.mul_comm, Int.gcd_sub_mul_right_left]

theorem getApp {β : Type} (H : List β) (x : β) (K : List β) : (H ++ x :: K)[H.length]? = some x := by simp
theorem setApp {β : Type} (H : List β) (x y : β) (K : List β) : (H ++ x :: K).set H.length y = H ++ y :: K := by simp
theorem getKeep {β : Type} {H H' : List β} {n : Nat} {x : β} (h : H <+: H') (e : H[n]? = some x) : H'[n]? = some x := by
  obtain ⟨K, rfl⟩ := h
  rw [List.getElem?_append_left (List.getElem?_eq_some_iff.mp e).1]; exact e
theorem preApp {β : Type} (H K : List β) : H <+: H ++ K := ⟨K, rfl⟩
theorem preTrans {β : Type} {A B C : List β} (h1 : A <+: B) (h2 : B <+: C) : A <+: C := List.IsPrefix.trans h1 h2

theorem range_up (b : Int) : rangeL 0 b 1 = (List.range b.toNat).map fun (i : Nat) => (i : Int) := by
  unfold rangeL
  have : (Builtin.Range.rangeSize 0 b 1).toNat = b.toNat := by
    unfold Builtin.Range.rangeSize
    simp
    first | done | omega | (split <;> omega)
  rw [this]
  apply List.map_congr_left
  intro i _; (clear this; omega)
end Mine
namespace Mine
theorem forGo_rule {body : Loc → Hp → (Loc → Hp → Prop) → Prop} {i : Nat} {N : Loc → Hp → Prop} (I : List V → Loc → Hp → Prop)
    (step : ∀ (x : V) (xs : List V) (ρ : Loc) (H : Hp) (k : Loc → Hp → Prop), I (x :: xs) ρ H → (∀ ρ' H', I xs ρ' H' → k ρ' H') → body (lset ρ i x) H k) (fin : ∀ ρ H, I [] ρ H → N ρ H) :
    ∀ (xs : List V) (ρ : Loc) (H : Hp), I xs ρ H → forGo body i xs ρ H N
  | [], ρ, H, h => fin ρ H h
  | x :: xs, ρ, H, h => step x xs ρ H _ h fun ρ' H' h' => forGo_rule I step fin xs ρ' H' h'
end Mine
namespace Mine
open PySem
theorem rng1 {b : Int} {H : Hp} {Q : List V → Option Nat → Hp → Prop} (hb : smallI b) (h : Q ((List.range' 0 b.toNat).map fun (i : Nat) => V.int (i : Int)) none H) : rngWp [.int b] H Q := by
  refine ⟨0, b, 1, rfl, by unfold smallI; decide, hb, .inl rfl, ?_⟩
  rw [range_up, List.map_map, List.range_eq_range']; exact h
theorem Sm.pow {k : Nat} {x : Int} (h : Sm k x) : ∀ n : Nat, Sm (k * n + 1) (x ^ n)
  | 0 => by rw [Int.pow_zero]; unfold Sm; simp
  | n + 1 => by
    rw [Int.pow_succ]
    exact Sm.mono (Sm.mul (Sm.pow h n) h) (by rw [Nat.mul_succ]; (clear h; omega))
end Mine
namespace Mine
theorem smallI_of {i : Int} (h1 : -1000000 ≤ i) (h2 : i ≤ 1000000) : smallI i := by
  have e : (2 : Int) ^ 40 = 1099511627776 := by decide
  unfold smallI
  rw [e]; (clear e; omega)
end Mine
namespace Mine
open PySem
end Mine
namespace Mine
open PySem
section
variable {a b c : Int} {m n : Nat} {H : Hp} {Q : V → Hp → Prop} {x y : V} {xs ys : List V}
theorem w_add : binWp .add (.int a) (.int b) H Q = Q (.int (a + b)) H := rfl
theorem w_addl : binWp .add (.lst m) (.lst n) H Q = ifSome H[m]? fun xs => ifSome H[n]? fun ys => xs.length + ys.length ≤ lim ∧ Q (.lst H.length) (H ++ [xs ++ ys]) := rfl
theorem w_sub : binWp .sub (.int a) (.int b) H Q = Q (.int (a - b)) H := rfl
theorem w_mul : binWp .mul (.int a) (.int b) H Q = (IntMulOk a b ∧ Q (.int (a * b)) H) := rfl
theorem w_mull : binWp .mul (.lst m) (.int b) H Q = ∃ x, H[m]? = some [x] ∧ 0 ≤ b ∧ b ≤ lim ∧ Q (.lst H.length) (H ++ [List.replicate b.toNat x]) := rfl
theorem w_fdiv : binWp .fdiv (.int a) (.int b) H Q = (DivOk b ∧ Q (.int (a.fdiv b)) H) := rfl
theorem w_mod : binWp .mod (.int a) (.int b) H Q = (b ≠ 0 ∧ Q (.int (a.fmod b)) H) := rfl
theorem w_pow : binWp .pow (.int a) (.int b) H Q = (0 ≤ b ∧ b ≤ 1000 ∧ a.natAbs < 2 ^ 64 ∧ Q (.int (a ^ b.toNat)) H) := rfl
theorem w_lt : cmpWp .lt (.int a) (.int b) H Q = Q (.bool (decide (a < b))) H := rfl
theorem w_le : cmpWp .le (.int a) (.int b) H Q = Q (.bool (decide (a ≤ b))) H := rfl
theorem w_gt : cmpWp .gt (.int a) (.int b) H Q = Q (.bool (decide (b < a))) H := rfl
theorem w_ge : cmpWp .ge (.int a) (.int b) H Q = Q (.bool (decide (b ≤ a))) H := rfl
theorem w_eq : cmpWp .eq (.int a) (.int b) H Q = Q (.bool (decide (a = b))) H := rfl
theorem w_ne : cmpWp .ne (.int a) (.int b) H Q = Q (.bool (!decide (a = b))) H := rfl
theorem w_isn : cmpWp .is .none .none H Q = Q (.bool true) H := rfl
theorem w_ist : cmpWp .is (.tup xs) .none H Q = Q (.bool false) H := rfl
theorem w_isi : cmpWp .is (.int a) .none H Q = Q (.bool false) H := rfl
theorem w_isl : cmpWp .is (.lst m) .none H Q = Q (.bool false) H := rfl
theorem w_abs : biWp .abs [.int a] H Q = Q (.int (if a < 0 then -a else a)) H := rfl
theorem w_lent : biWp .len [.tup xs] H Q = Q (.int xs.length) H := rfl
theorem w_lenl : biWp .len [.lst m] H Q = ifSome H[m]? fun xs => Q (.int xs.length) H := rfl
theorem w_intb {t : Bool} : biWp .int [.bool t] H Q = Q (.int (if t then 1 else 0)) H := rfl
theorem w_list : biWp .list [x] H Q = ifSome (items H x) fun xs => Q (.lst H.length) (H ++ [xs]) := rfl
theorem w_tuple : biWp .tuple [x] H Q = ifSome (items H x) fun xs => Q (.tup xs) H := rfl
theorem w_min : biWp .min [.int a, .int b] H Q = Q (.int (if b < a then b else a)) H := rfl
theorem w_idxt0 : idxWp (.tup [x, y]) (.int 0) H Q = Q x H := rfl
theorem w_idxt1 : idxWp (.tup [x, y]) (.int 1) H Q = Q y H := rfl
theorem w_idxu0 {z : V} : idxWp (.tup [x, y, z]) (.int 0) H Q = Q x H := rfl
theorem w_idxu1 {z : V} : idxWp (.tup [x, y, z]) (.int 1) H Q = Q y H := rfl
theorem w_idxu2 {z : V} : idxWp (.tup [x, y, z]) (.int 2) H Q = Q z H := rfl
theorem w_idxl {k : Int} : idxWp (.lst m) (.int k) H Q = ifSome H[m]? fun xs => ifSome (place xs.length k) fun i => ifSome xs[i]? fun v => Q v H := rfl
theorem w_slcl {lo hi : Option V} : slcWp (.lst m) lo hi H Q = ifSome H[m]? fun xs => ifSome (cutAt xs.length lo hi) fun p => Q (.lst H.length) (H ++ [cut xs p.1 p.2]) := rfl
theorem w_tb {t : Bool} : truthV H (.bool t) = some t := rfl
theorem w_ti : truthV H (.int a) = some (a != 0) := rfl
theorem w_tn : truthV H .none = some false := rfl
theorem w_tt : truthV H (.tup xs) = some (!xs.isEmpty) := rfl
theorem w_tl : truthV H (.lst m) = (H[m]?).map fun xs => !xs.isEmpty := rfl
theorem w_itt : items H (.tup xs) = some xs := rfl
theorem w_itl : items H (.lst m) = H[m]? := rfl
theorem w_bindT1 : bindT 1 x = some [some x] := rfl
theorem w_bindT2 : bindT 2 (.tup [x, y]) = some [some x, some y] := rfl
theorem w_srcl : srcOf (.lst m) = some m := rfl
theorem w_srct : srcOf (.tup xs) = none := rfl
theorem w_cut2 {a b : Int} : cutAt n (some (.int a)) (some (.int b)) = some (clampAt n a, clampAt n b) := rfl
theorem w_cut1 {a : Int} : cutAt n (some (.int a)) none = some (clampAt n a, n) := rfl
theorem w_cut1' {a : Int} : cutAt n none (some (.int a)) = some (0, clampAt n a) := rfl
theorem w_cut0 : cutAt n none none = some (0, n) := rfl
variable {sub : Nat → Nat → Bool}
theorem w_ty1 : isTy sub (.int a) .int = some true := rfl
theorem w_ty2 : isTy sub (.int a) .bool = some false := rfl
theorem w_ty3 : isTy sub (.int a) .tuple = some false := rfl
theorem w_ty4 : isTy sub (.int a) .list = some false := rfl
theorem w_ty5 : isTy sub (.tup xs) .int = some false := rfl
theorem w_ty6 : isTy sub (.tup xs) .bool = some false := rfl
theorem w_ty7 : isTy sub (.tup xs) .tuple = some true := rfl
theorem w_ty8 : isTy sub (.tup xs) .list = some false := rfl
theorem w_ty9 : isTy sub (.lst m) .tuple = some false := rfl
theorem w_ty10 : isTy sub (.lst m) .list = some true := rfl
theorem w_ty11 : isTy sub (.lst m) .int = some false := rfl
theorem w_ty12 : isTy sub (.lst m) .bool = some false := rfl
theorem w_ty13 : isTy sub .none .int = some false := rfl
theorem w_ty14 : isTy sub .none .bool = some false := rfl
theorem w_ty15 : isTy sub .none .tuple = some false := rfl
theorem w_ty16 : isTy sub .none .list = some false := rfl
theorem w_ty17 {t : Bool} : isTy sub (.bool t) .int = some true := rfl
theorem w_ty18 {t : Bool} : isTy sub (.bool t) .bool = some true := rfl
theorem w_ty19 {t : Bool} : isTy sub (.bool t) .tuple = some false := rfl
theorem w_ty20 {t : Bool} : isTy sub (.bool t) .list = some false := rfl
theorem w_ty21 {i j : Nat} : isTy sub (.exc i) (.cls j) = some (sub i j) := rfl
end
end Mine
namespace Mine
theorem w_mapc {v : V} {l : List V} : List.map some (v :: l) = some v :: List.map some l := rfl
theorem w_mapn : List.map some ([] : List V) = [] := rfl
theorem w_appc {v : Option V} {l m : Loc} : v :: l ++ m = v :: (l ++ m) := rfl
theorem w_appn {m : Loc} : ([] : Loc) ++ m = m := rfl
theorem w_repc {n : Nat} : List.replicate (n + 1) (none : Option V) = none :: List.replicate n none := rfl
theorem w_repn : List.replicate 0 (none : Option V) = [] := rfl
theorem w_start {a b : Nat} {vs : List V} : startLoc a b vs = List.map some vs ++ List.replicate (b - a) none := rfl
theorem w_lenc {v : V} {l : List V} : (v :: l).length = l.length + 1 := rfl
theorem w_ifT {A B : Prop} : (if true = true then A else B) = A := rfl
theorem w_ifF {A B : Prop} : (if false = true then A else B) = B := rfl
theorem w_ifFF {A B : Prop} : (if false = false then A else B) = A := rfl
theorem w_ifTF {A B : Prop} : (if true = false then A else B) = B := rfl
theorem w_nT : (!true) = false := rfl
theorem w_anyT : [true].any id = true := rfl
theorem w_anyF : [false].any id = false := rfl
theorem w_d22 : decide (((2 : Nat) : Int) = 2) = true := rfl
theorem w_nF : (!false) = true := rfl
end Mine

set_option autoImplicit false
set_option linter.unusedVariables false
namespace Mine
open PySem PyProof.Rows PySem.Calls PySem.W
section
variable {prog : Program} {w : World}
end
end Mine

set_option autoImplicit false
set_option linter.unusedVariables false
namespace Mine
open PySem PyProof.Rows PySem.Calls

section
variable {X : SX} {f : FC}
end
end Mine
namespace Mine
open PySem PyProof.Rows PySem.Calls
/-- all is kept but some that are neither list nor tuple -/
structure KeepsB (D : Addr → Prop) (h h' : Heap) : Prop where
  keep : ∀ b o, h.get? b = some o → ¬ D b → h'.get? b = some o
  dict : ∀ b o, D b → h.get? b = some o → ∃ es n, o.data = .dict es n
section
variable {X : SX} {f : FC}
end
end Mine

set_option autoImplicit false
set_option linter.unusedVariables false
namespace Mine
open PySem PyProof.Rows PySem.Calls PySem.W

section
variable {prog : Program} {w : World} {G : GV} {gc : GC} {DT : List DefT} {P : List Fn} {sub : Nat → Nat → Bool} {view : Program} {loose : List Str} {mean : ExcName → Option Value} {mb : Str → Option Value}
end
end Mine

set_option autoImplicit false
set_option linter.unusedVariables false
namespace Mine
open PySem PyProof.Rows PySem.Calls PySem.W
end Mine
namespace Mine
open PySem PyProof.Rows PySem.Calls PySem.W
end Mine
namespace Mine
open PySem PyProof.Rows PySem.Calls PySem.W
end Mine
namespace Mine
open PySem PyProof.Rows PySem.Calls PySem.W
end Mine

set_option autoImplicit false
set_option linter.unusedVariables false
namespace Mine
open PySem PyProof.Rows PySem.Calls PySem.W
section
variable {prog : Program} {w : World} {A : Around} {E : Value → Shared → Prop} {s : Shared} {h₀ : Heap} {L D D' : Addr} {m : Str → Option Value} {news : List (Addr × Obj)} {v : Value} {n n' : Nat} {k : Int} {u : Tok} {Q : Value → Shared → Prop}
end
end Mine

set_option autoImplicit false
set_option linter.unusedVariables false
namespace Mine
open PySem PyProof.Rows PySem.Calls
/-- the pairs among the globals -/
theorem gf_globs {G : GV} {gc : GC} {DT : List DefT} {h : Heap} (F : GF G ⟨gc.fns, gc.cls, []⟩ DT h) (hg : ∀ x a b, (x, a, b) ∈ gc.globs → ∃ t ta tb, G.mg x = some (.ref t) ∧ IsTup h t #[.int a ta, .int b tb]) : GF G gc DT h where
  g := F.g
  b := F.b
  nolimit := F.nolimit
  seer := F.seer
  fn := F.fn
  blt := F.blt
  glob := hg
end Mine

namespace Mine
open PySem PySem.W PySem.Calls PyProof.Rows

/-- the top's run over a tree for a heap; it forces the counter at each step -/
noncomputable def topRunT (tb : String → Option Builtin) (p : Program) (w : World) (n₀ : Nat) (ann : Option Value) : Nat → SharedT → Thread → Option SharedT
  | 0, _, _ => none
  | n + 1, s, t => match through t with
    | true => some s
    | false => match stepOk n₀ ann t with
      | false => none
      | true => match stepT (denote tb) p w s t with
        | some (⟨T, m, l, g, d, 0, o⟩, t') => topRunT tb p w n₀ ann n ⟨T, m, l, g, d, 0, o⟩ t'
        | some (⟨T, m, l, g, d, k + 1, o⟩, t') => topRunT tb p w n₀ ann n ⟨T, m, l, g, d, k + 1, o⟩ t'
        | none => none

theorem topRunT_of {tb : String → Option Builtin} {p : Program} {w : World} {n₀ : Nat} {ann : Option Value} : ∀ {n : Nat} {s s' : SharedT} {t : Thread}, topRunT tb p w n₀ ann n s t = some s' → topRun tb p w n₀ ann n s.abs t = some s'.abs
  | 0, _, _, _, h => by cases h
  | n + 1, s, s', t, h => by
    unfold topRunT at h
    unfold topRun
    cases he : through t with
    | true => rw [he] at h; cases h; rfl
    | false =>
      rw [he] at h
      cases hk : stepOk n₀ ann t with
      | false => rw [hk] at h; cases h
      | true =>
        rw [hk] at h
        cases hs : stepT (denote tb) p w s t with
        | none => rw [hs] at h; cases h
        | some r =>
          obtain ⟨⟨T, m, l, g, d, k, o⟩, t₂⟩ := r
          rw [hs] at h
          rw [stepT_spec hs]
          cases k with
          | zero => exact topRunT_of h
          | succ k => exact topRunT_of h

noncomputable def bt : List Obj → Nat → BT → BT
  | [], _, t => t
  | o :: l, n, t => bt l (n + 1) (t.ins n o)
noncomputable def bootT (P : Params) (os : OsState) : SharedT := ⟨bt (boot_heap P).objs.toList 0 .nil, (boot_heap P).objs.size, (boot_heap P).life, Array.mk [], boot_drawn, boot_toks, os⟩
theorem bootT_abs (P : Params) (os : OsState) : (bootT P os).abs = ⟨boot_heap P, Array.mk [], boot_drawn, boot_toks, os⟩ := by kernel_rfl

/-- all the looks at the state behind the top -/
noncomputable def lookAll (p q : Program) (loose : List Str) (Xt : Shared → Bool) {α : Type} (Yf : Shared → α) (P : Params) (s : Shared) :=
  ((staticsOk (importedModules p.main.body) (boot_heap P) s.heap && namesBound p s.heap && gensDone s && laidKept (boot_heap P) s.heap), openSeen q loose (importedModules p.main.body) Xt true s, Yf s)
noncomputable def endsT (p q : Program) (loose : List Str) (Xt : Shared → Bool) {α : Type} (Yf : Shared → α) (m₀ : Nat) (ann : Option Value) (N : Nat) (w : World) (os : OsState) :=
  (topRunT treeTable p w m₀ ann N (bootT w.params os) (topStub p)).map fun s => lookAll p q loose Xt Yf w.params s.abs

theorem leftO_of {p q : Program} {loose : List Str} {Xt : Shared → Bool} {α : Type} {Yf : Shared → α} {Ya : World → α} {N : Nat} {m₀ : Nat} {ann : Option Value}
    (e : opening p = plainProg p.main.scope.names) (hN : Nat.ble 600 N = true) (f : ∀ s, fenceModules? p s = some s)
    (size : ∀ w : World, ((boot_heap w.params).isNs mainGlobals, (boot_heap w.params).objs.size, (boot_heap w.params).nsMap mainGlobals "__annotations__") = (true, m₀, ann))
    (run : ∀ (w : World) (os : OsState), endsT p q loose Xt Yf m₀ ann N w os = some (true, openGood q loose, Ya w)) : LeftO p q loose Xt Yf Ya N := fun w => by
  obtain ⟨⟨h, gs, d, k, os⟩, e, e'⟩ := Option.map_eq_some_iff.mp (boot_open e hN f w)
  obtain ⟨rfl, rfl, rfl, rfl⟩ : h = boot_heap w.params ∧ gs = Array.mk [] ∧ d = boot_drawn ∧ k = boot_toks := by simpa using e'
  obtain ⟨z1, z2, z3⟩ : _ ∧ _ ∧ _ := by simpa only [Prod.mk.injEq] using size w
  obtain ⟨s₁, hr, hl⟩ := Option.map_eq_some_iff.mp (run w os)
  have r := topRunT_of hr
  rw [bootT_abs] at r
  obtain ⟨l1, l2, l3⟩ : _ ∧ _ ∧ _ := by simpa only [lookAll, Prod.mk.injEq] using hl
  have t : topFrom treeTable p w N ⟨boot_heap w.params, Array.mk [], boot_drawn, boot_toks, os⟩ = some s₁.abs := by
    unfold topFrom
    dsimp only
    rw [z1, z2, z3, r]
    show (match staticsOk (importedModules p.main.body) (boot_heap w.params) s₁.abs.heap && namesBound p s₁.abs.heap && gensDone s₁.abs && laidKept (boot_heap w.params) s₁.abs.heap with | true => _ | false => _) = _
    rw [l1]
  unfold openEnds
  rw [e]
  show (topFrom treeTable p w N _).map _ = _
  rw [t]
  exact congrArg some (Prod.ext l2 l3)
end Mine

set_option autoImplicit false
namespace Mine
noncomputable def sgn (x : Int) : Int := if x < 0 then -1 else if 0 < x then 1 else 0
/-- the row's value at p by q, times q to the degree -/
noncomputable def hval (p q : Int) : List Int → Int
  | [] => 0
  | c :: cs => hval p q cs * p + c * q ^ cs.length
end Mine

set_option autoImplicit false
namespace Mine

/-- the row times (a + b x), c carried in -/
noncomputable def mulG (a b : Int) : Int → List Int → List Int
  | c, [] => [c]
  | c, x :: r => (c + x * a) :: mulG a b (x * b) r
noncomputable def addL (xs ys : List Int) : List Int := List.zipWith (fun x y => x + y) xs ys
noncomputable def smul (c : Int) (xs : List Int) : List Int := xs.map fun x => c * x
noncomputable def mulN (a b : Int) : Nat → List Int → List Int
  | 0, xs => xs
  | n + 1, xs => mulG a b 0 (mulN a b n xs)
noncomputable def zeros (n : Nat) : List Int := List.replicate n 0

theorem addL_len {xs ys : List Int} (h : xs.length = ys.length) : (addL xs ys).length = xs.length := by
  unfold addL; rw [List.length_zipWith, h, Nat.min_self]
/-- the row seen from the stretch, from its high end -/
noncomputable def hs (b e s : Int) : List Int → List Int
  | [] => []
  | c :: r => addL (mulG b e 0 (hs b e s r)) (smul c (mulN s s r.length [1]))
/-- the row seen term by term -/
noncomputable def ls (b e s : Int) : Nat → List Int → List Int
  | k, [] => zeros k
  | k, c :: r => addL (mulN s s r.length (mulN b e k [c])) (ls b e s (k + 1) r)
end Mine

set_option autoImplicit false
set_option linter.unusedVariables false
set_option linter.unusedSimpArgs false
set_option maxRecDepth 100000
namespace Mine
open PySem

noncomputable def cellI (ns : List Int) (k : Nat) : Int := ns.getD k 0

section
variable {sub : Nat → Nat → Bool} {P : List Fn} {f n : Nat} {H : Hp} {Q : V → Hp → Prop} {X : Nat → Hp → Prop}

theorem callN_mk {d : Fn} {vs : List V} (e : P[f]? = some d) (hl : vs.length = d.np) (h : wpS sub (callN sub P n) (fun m => H.length ≤ m) d.body (startLoc d.np d.nv vs) H (fun _ H' => Q .none H') Q X) : callN sub P (n + 1) f vs H Q X := ⟨d, e, hl, h⟩

noncomputable def bCell : PS := .seq (.ite (.cmp .lt (.var 1) (.bi .len (.cons (.var 0) .nil))) (.seq (.ret (.idx (.var 0) (.var 1))) .skip) .skip) (.seq (.ret (.cint 0)) .skip)
theorem s_cell (e : P[f]? = some ⟨2, 2, bCell⟩) {m : Nat} {ns : List Int} {k : Int} (hk : 0 ≤ k) (hH : H[m]? = some (ns.map .int)) (hQ : Q (.int (cellI ns k.toNat)) H) : callN sub P (n + 1) f [.lst m, .int k] H Q X := by
  refine callN_mk e rfl ?_
  dsimp only [bCell, qS1, qS2, qS3, qS4, qS5, qS7, qS9, qS10, qS11, qS12, qS13, qS14, qE1, qE2, qE5, qE7, qE8, qE9, qE10, qE11, qE12, qE13, qE14, qE15, qE16, qE17, qE18, qE19, qE20, qE21, qE22, qEs1, qEs2, wpAll, qO1, qO2, qI1, qI2, qI3, w_add, w_addl, w_sub, w_mul, w_mull, w_fdiv, w_mod, w_pow, w_lt, w_le, w_gt, w_ge, w_eq, w_ne, w_isn, w_ist, w_isi, w_isl, w_abs, w_lent, w_lenl, w_intb, w_list, w_tuple, w_min, w_idxt0, w_idxt1, w_idxu0, w_idxu1, w_idxu2, w_idxl, w_slcl, w_tb, w_ti, w_tn, w_tt, w_tl, w_itt, w_itl, w_bindT1, w_bindT2, w_srcl, w_srct, w_cut2, w_cut1, w_cut1', w_cut0, w_ty1, w_ty2, w_ty3, w_ty4, w_ty5, w_ty6, w_ty7, w_ty8, w_ty9, w_ty10, w_ty11, w_ty12, w_ty13, w_ty14, w_ty15, w_ty16, w_ty17, w_ty18, w_ty19, w_ty20, w_ty21, w_mapc, w_mapn, w_appc, w_appn, w_repc, w_repn, w_start, w_lenc, w_ifT, w_ifF, w_ifFF, w_ifTF, w_nT, w_nF, w_anyT, w_anyF, w_d22, ifSome_some, ifLst_lst, ifTup_tup, ifInt_int, lget, lset, lsets, Nat.reduceSub, Nat.reduceAdd, List.length_nil, ↓reduceIte]
  refine ifSome.mk hH ?_
  rw [List.length_map]
  by_cases h : k < ns.length
  · rw [if_pos (decide_eq_true h)]
    have hl : k.toNat < ns.length := (Int.toNat_lt hk).mpr h
    refine ifSome.mk hH (ifSome.mk (v := k.toNat) ?_ (ifSome.mk (v := .int ns[k.toNat]) ?_ ?_))
    · rw [List.length_map, place, if_pos hk, if_pos h]
    · rw [List.getElem?_map, List.getElem?_eq_getElem hl]; rfl
    · rw [cellI, List.getD_eq_getElem?_getD, List.getElem?_eq_getElem hl] at hQ; exact hQ
  · rw [if_neg (by rw [decide_eq_true_eq]; exact h)]
    rw [cellI, List.getD_eq_getElem?_getD, List.getElem?_eq_none ((Int.le_toNat hk).mpr (Int.not_lt.mp h))] at hQ
    exact hQ

noncomputable def lDiv : PS := .seq (.assign 2 (.bin .mod (.var 0) (.var 1))) (.seq (.assign 0 (.var 1)) (.seq (.assign 1 (.var 2)) .skip))
noncomputable def bDiv : PS := .seq (.whl (.cmp .ne (.var 1) (.cint 0)) lDiv) (.seq (.ret (.bi .abs (.cons (.var 0) .nil))) .skip)
noncomputable def natAt (ρ : Loc) (i : Nat) : Nat := match lget ρ i with | some (.int y) => y.natAbs | _ => 0
theorem s_div (e : P[f]? = some ⟨2, 3, bDiv⟩) {a b : Int} (hQ : Q (.int (a.gcd b : Nat)) H) : callN sub P (n + 1) f [.int a, .int b] H Q X := by
  refine callN_mk e rfl ?_
  dsimp only [bDiv, qS1, qS2, qS3, qS4, qS5, qS7, qS9, qS10, qS11, qS12, qS13, qS14, qE1, qE2, qE5, qE7, qE8, qE9, qE10, qE11, qE12, qE13, qE14, qE15, qE16, qE17, qE18, qE19, qE20, qE21, qE22, qEs1, qEs2, wpAll, qO1, qO2, qI1, qI2, qI3, w_add, w_addl, w_sub, w_mul, w_mull, w_fdiv, w_mod, w_pow, w_lt, w_le, w_gt, w_ge, w_eq, w_ne, w_isn, w_ist, w_isi, w_isl, w_abs, w_lent, w_lenl, w_intb, w_list, w_tuple, w_min, w_idxt0, w_idxt1, w_idxu0, w_idxu1, w_idxu2, w_idxl, w_slcl, w_tb, w_ti, w_tn, w_tt, w_tl, w_itt, w_itl, w_bindT1, w_bindT2, w_srcl, w_srct, w_cut2, w_cut1, w_cut1', w_cut0, w_ty1, w_ty2, w_ty3, w_ty4, w_ty5, w_ty6, w_ty7, w_ty8, w_ty9, w_ty10, w_ty11, w_ty12, w_ty13, w_ty14, w_ty15, w_ty16, w_ty17, w_ty18, w_ty19, w_ty20, w_ty21, w_mapc, w_mapn, w_appc, w_appn, w_repc, w_repn, w_start, w_lenc, w_ifT, w_ifF, w_ifFF, w_ifTF, w_nT, w_nF, w_anyT, w_anyF, w_d22, ifSome_some, ifLst_lst, ifTup_tup, ifInt_int, lget, lset, lsets, Nat.reduceSub, Nat.reduceAdd, List.length_nil, ↓reduceIte]
  refine ⟨fun ρ H' => ∃ x y o, ρ = [some (.int x), some (.int y), o] ∧ H' = H ∧ x.gcd y = a.gcd b, fun ρ _ => natAt ρ 1, ⟨a, b, _, rfl, rfl, rfl⟩, ?_⟩
  rintro ρ H' ⟨x, y, o, rfl, rfl, hg⟩
  dsimp only [lDiv, qS1, qS2, qS3, qS4, qS5, qS7, qS9, qS10, qS11, qS12, qS13, qS14, qE1, qE2, qE5, qE7, qE8, qE9, qE10, qE11, qE12, qE13, qE14, qE15, qE16, qE17, qE18, qE19, qE20, qE21, qE22, qEs1, qEs2, wpAll, qO1, qO2, qI1, qI2, qI3, w_add, w_addl, w_sub, w_mul, w_mull, w_fdiv, w_mod, w_pow, w_lt, w_le, w_gt, w_ge, w_eq, w_ne, w_isn, w_ist, w_isi, w_isl, w_abs, w_lent, w_lenl, w_intb, w_list, w_tuple, w_min, w_idxt0, w_idxt1, w_idxu0, w_idxu1, w_idxu2, w_idxl, w_slcl, w_tb, w_ti, w_tn, w_tt, w_tl, w_itt, w_itl, w_bindT1, w_bindT2, w_srcl, w_srct, w_cut2, w_cut1, w_cut1', w_cut0, w_ty1, w_ty2, w_ty3, w_ty4, w_ty5, w_ty6, w_ty7, w_ty8, w_ty9, w_ty10, w_ty11, w_ty12, w_ty13, w_ty14, w_ty15, w_ty16, w_ty17, w_ty18, w_ty19, w_ty20, w_ty21, w_mapc, w_mapn, w_appc, w_appn, w_repc, w_repn, w_start, w_lenc, w_ifT, w_ifF, w_ifFF, w_ifTF, w_nT, w_nF, w_anyT, w_anyF, w_d22, ifSome_some, ifLst_lst, ifTup_tup, ifInt_int, lget, lset, lsets, Nat.reduceSub, Nat.reduceAdd, List.length_nil, ↓reduceIte]
  by_cases hy : y = 0
  · subst hy
    have : (if x < 0 then -x else x) = ((a.gcd b : Nat) : Int) := by
      rw [← hg, Int.gcd_zero_right]
      split <;> omega
    show Q (.int (if x < 0 then -x else x)) _
    rw [this]; exact hQ
  · rw [decide_eq_false hy]
    exact ⟨hy, ⟨y, x.fmod y, _, rfl, rfl, by rw [gcd_fmod]; exact hg⟩, fmod_natAbs_lt hy⟩

noncomputable def bWhole : PS := .seq (.ret (.and (.cons (.isi (.var 0) [.int]) (.cons (.nt (.isi (.var 0) [.bool])) .nil)))) .skip
theorem s_whole (e : P[f]? = some ⟨1, 1, bWhole⟩) {x : Int} (hQ : Q (.bool true) H) : callN sub P (n + 1) f [.int x] H Q X :=
  callN_mk e rfl hQ

noncomputable def bPart (dv : Nat) : PS := .seq (.assign 2 (.call dv (.cons (.var 0) (.cons (.var 1) .nil)))) (.seq (.ite (.cmp .lt (.var 1) (.cint 0)) (.seq (.assign 2 (.bin .sub (.cint 0) (.var 2))) .skip) .skip)
  (.seq (.ret (.tup (.cons (.bin .fdiv (.var 0) (.var 2)) (.cons (.bin .fdiv (.var 1) (.var 2)) .nil)))) .skip))
end
end Mine

set_option autoImplicit false
set_option linter.unusedVariables false
set_option linter.unusedSimpArgs false
set_option maxRecDepth 100000
namespace Mine
open PySem

theorem w_idxg {x : V} {k : Int} {H : Hp} {Q : V → Hp → Prop} : idxWp x (.int k) H Q = ifSome (items H x) fun xs => ifSome (place xs.length k) fun i => ifSome xs[i]? fun v => Q v H := rfl
theorem w_leng {x : V} {H : Hp} {Q : V → Hp → Prop} : biWp .len [x] H Q = ifSome (items H x) fun xs => Q (.int xs.length) H := rfl
theorem place_nat {n k : Nat} (h : k < n) : place n (k : Int) = some k := by
  rw [place, if_pos (Int.natCast_nonneg k), if_pos (Int.ofNat_lt.mpr h)]; rfl
theorem place_last {n : Nat} (h : 1 ≤ n) : place n (-1) = some (n - 1) := by
  rw [place, if_neg (by decide), if_pos (by omega)]; congr 1; omega
theorem itemsKeep {H H' : Hp} {v : V} {xs : List V} (h : H <+: H') (e : items H v = some xs) : items H' v = some xs := by
  cases v <;> first | exact e | exact getKeep h e
theorem range'_len {k : Nat} {β : Type} {x : β} {r : List β} : List.range' k (x :: r).length = k :: List.range' (k + 1) r.length := List.range'_succ ..

theorem compGo_map {g : V → V} {step : V → Hp → (Option V → Hp → Prop) → Prop} {H : Hp} : ∀ {xs : List V} {Q : List V → Hp → Prop}, (∀ x ∈ xs, ∀ k : Option V → Hp → Prop, k (some (g x)) H → step x H k) → Q (xs.map g) H → compGo step xs H Q
  | [], _, _, h => h
  | x :: xs, Q, hs, h => hs x List.mem_cons_self _ (compGo_map (g := g) (fun y hy => hs y (List.mem_cons_of_mem _ hy)) h)
theorem compGo_map' {β : Type} {h g : β → V} {step : V → Hp → (Option V → Hp → Prop) → Prop} {H : Hp} : ∀ {xs : List β} {Q : List V → Hp → Prop}, (∀ x ∈ xs, ∀ k : Option V → Hp → Prop, k (some (g x)) H → step (h x) H k) → Q (xs.map g) H → compGo step (xs.map h) H Q
  | [], _, _, hq => hq
  | x :: xs, Q, hs, hq => hs x List.mem_cons_self _ (compGo_map' (g := g) (fun y hy => hs y (List.mem_cons_of_mem _ hy)) hq)
theorem compGo_rng {g : Nat → V} {step : V → Hp → (Option V → Hp → Prop) → Prop} {H : Hp} : ∀ {n a : Nat} {Q : List V → Hp → Prop}, (∀ i, i < a + n → ∀ k : Option V → Hp → Prop, k (some (g i)) H → step (.int (i : Int)) H k) → Q ((List.range' a n).map g) H → compGo step ((List.range' a n).map fun (i : Nat) => V.int (i : Int)) H Q
  | 0, _, _, _, h => h
  | n + 1, a, Q, hs, h => hs a (by (clear hs h; omega)) _ (compGo_rng (g := g) (fun i hi => hs i (by (clear hs h; omega))) h)
/-! bounds -/
noncomputable def AllSm (k : Nat) (xs : List Int) : Prop := ∀ x ∈ xs, Sm k x
theorem AllSm.mono {k l : Nat} {xs : List Int} (h : AllSm k xs) (hl : k ≤ l) : AllSm l xs := fun x hx => (h x hx).mono hl
theorem AllSm.cons {k : Nat} {x : Int} {xs : List Int} (h : Sm k x) (h' : AllSm k xs) : AllSm k (x :: xs) := fun y hy => by
  cases hy with
  | head => exact h
  | tail _ hy => exact h' y hy
theorem AllSm.hd {k : Nat} {x : Int} {xs : List Int} (h : AllSm k (x :: xs)) : Sm k x := h x List.mem_cons_self
theorem AllSm.tl {k : Nat} {x : Int} {xs : List Int} (h : AllSm k (x :: xs)) : AllSm k xs := fun y hy => h y (List.mem_cons_of_mem _ hy)
theorem AllSm.nil {k : Nat} : AllSm k [] := fun _ h => nomatch h
theorem Sm.zero {k : Nat} : Sm k 0 := Nat.two_pow_pos k
theorem AllSm.smul {k l : Nat} {c : Int} {xs : List Int} (hc : Sm l c) (h : AllSm k xs) : AllSm (l + k) (Mine.smul c xs) := fun x hx => by
  obtain ⟨y, hy, rfl⟩ := List.mem_map.mp hx
  exact hc.mul (h y hy)
theorem Sm.one {k : Nat} : Sm (k + 1) 1 := Nat.lt_of_lt_of_le (show (1 : Int).natAbs < 2 ^ 1 by decide) (Nat.pow_le_pow_right (by decide) (Nat.le_add_left 1 k))
section
variable {sub : Nat → Nat → Bool} {P : List Fn} {f n : Nat} {H : Hp} {Q : V → Hp → Prop} {X : Nat → Hp → Prop}

end
end Mine

set_option autoImplicit false
set_option linter.unusedVariables false
set_option linter.unusedSimpArgs false
set_option maxRecDepth 100000
namespace Mine
open PySem
section
variable {sub : Nat → Nat → Bool} {P : List Fn} {f n mu : Nat} {H : Hp} {Q : V → Hp → Prop} {X : Nat → Hp → Prop}
noncomputable def lo (p1 q1 : Int) : V := .tup [.int p1, .int q1]
end
end Mine

set_option autoImplicit false
set_option linter.unusedVariables false
set_option linter.unusedSimpArgs false
set_option maxRecDepth 100000
namespace Mine
open PySem
theorem small_nat {n : Nat} (h : n ≤ 900) : smallI (n : Int) := smallI_of (by omega) (by omega)
section
variable {sub : Nat → Nat → Bool} {P : List Fn} {f n mu : Nat} {H : Hp} {Q : V → Hp → Prop} {X : Nat → Hp → Prop}
noncomputable def lBy1 : PS := (.seq (.setidx 2 (.bin .add (.var 3) (.var 4)) (.bin .add (.idx (.var 2) (.bin .add (.var 3) (.var 4))) (.bin .mul (.idx (.var 0) (.var 3)) (.idx (.var 1) (.var 4)))))
 .skip)
noncomputable def lBy2 : PS := (.seq (.forr 4 (.rng (.cons (.bi .len (.cons (.var 1) .nil)) .nil)) lBy1)
 .skip)
noncomputable def zBy : PE := (.comp (.cint 0) 1 [] (.rng (.cons (.bin .sub (.bin .add (.bi .len (.cons (.var 0) .nil)) (.bi .len (.cons (.var 1) .nil))) (.cint 1)) .nil)) .no)
noncomputable def bBy : PS := (.seq (.assign 2 zBy)
 (.seq (.forr 3 (.rng (.cons (.bi .len (.cons (.var 0) .nil)) .nil)) lBy2)
 (.seq (.ret (.var 2)) .skip)))
end
end Mine

set_option autoImplicit false
set_option linter.unusedVariables false
set_option linter.unusedSimpArgs false
set_option maxRecDepth 100000
namespace Mine
open PySem
section
variable {sub : Nat → Nat → Bool} {P : List Fn} {f n ce pa dv : Nat} {H : Hp} {Q : V → Hp → Prop} {X : Nat → Hp → Prop}
/-- the lowest form of a by b -/
structure Low (k : Nat) (p q : Int) : Prop where
  top : Sm k p
  bot : Sm k q
  pos : 0 < q
  one : p.gcd q = 1
theorem low_of {k : Nat} {a b p q : Int} (ha : Sm k a) (hb : Sm k b) (h0 : 0 < b) (e1 : p * (a.gcd b : Nat) = a) (e2 : q * (a.gcd b : Nat) = b) : Low k p q := by
  have hg : 0 < a.gcd b := Int.gcd_pos_of_ne_zero_right a (Int.ne_of_gt h0)
  have hg' : (0 : Int) < (a.gcd b : Nat) := Int.natCast_pos.mpr hg
  refine ⟨?_, ?_, ?_, ?_⟩
  · refine Nat.lt_of_le_of_lt ?_ ha
    rw [show a.natAbs = (p * (a.gcd b : Nat)).natAbs by rw [e1], Int.natAbs_mul, Int.natAbs_natCast]; exact Nat.le_mul_of_pos_right _ hg
  · refine Nat.lt_of_le_of_lt ?_ hb
    rw [show b.natAbs = (q * (a.gcd b : Nat)).natAbs by rw [e2], Int.natAbs_mul, Int.natAbs_natCast]; exact Nat.le_mul_of_pos_right _ hg
  · exact Int.pos_of_mul_pos_left (by rw [e2]; exact h0) hg'
  · have h : p.gcd q * a.gcd b = 1 * a.gcd b := by
      have := Int.gcd_mul_right p (a.gcd b : Nat) q
      rw [e1, e2, Int.natAbs_natCast] at this
      rw [← this, Nat.one_mul]
    exact Nat.eq_of_mul_eq_mul_right hg h
end
end Mine

set_option autoImplicit false
set_option linter.unusedVariables false
set_option linter.unusedSimpArgs false
set_option maxRecDepth 100000
namespace Mine
open PySem
/-! plain: the row by its divisor -/
noncomputable def gAll : List Int → Nat → Nat
  | [], g => g
  | x :: r, g => gAll r (Nat.gcd g x.natAbs)
theorem gAll_dvd : ∀ (r : List Int) (g : Nat), gAll r g ∣ g ∧ ∀ x ∈ r, gAll r g ∣ x.natAbs
  | [], g => ⟨Nat.dvd_refl _, fun x hx => nomatch hx⟩
  | y :: r, g => by
    obtain ⟨h1, h2⟩ := gAll_dvd r (Nat.gcd g y.natAbs)
    refine ⟨Nat.dvd_trans h1 (Nat.gcd_dvd_left _ _), fun x hx => ?_⟩
    rcases List.mem_cons.mp hx with rfl | hx
    · exact Nat.dvd_trans h1 (Nat.gcd_dvd_right _ _)
    · exact h2 x hx
theorem gAll_mul (c : Nat) : ∀ (r : List Int) (s : Int) (g : Nat), s.natAbs = c → gAll (r.map fun x => x * s) (g * c) = gAll r g * c
  | [], s, g, _ => rfl
  | x :: r, s, g, h => by
    show gAll (r.map fun x => x * s) (Nat.gcd (g * c) (x * s).natAbs) = _
    rw [Int.natAbs_mul, h, Nat.gcd_mul_right, gAll_mul c r s _ h]; rfl
/-- the divisor with the last one's sign -/
noncomputable def gOf (r : List Int) (l : Int) : Int := if l < 0 then -(gAll r 0 : Int) else (gAll r 0 : Int)
noncomputable def redI (r : List Int) (l : Int) : List Int := r.map fun x => x.fdiv (gOf r l)
theorem gOf_abs {r : List Int} {l : Int} : (gOf r l).natAbs = gAll r 0 := by unfold gOf; split <;> omega
theorem gAll_pos {r : List Int} {l : Int} (hl : l ∈ r) (h0 : l ≠ 0) : 0 < gAll r 0 := Nat.pos_of_dvd_of_pos ((gAll_dvd r 0).2 l hl) (Int.natAbs_pos.mpr h0)
theorem gOf_ne {r : List Int} {l : Int} (hl : l ∈ r) (h0 : l ≠ 0) : gOf r l ≠ 0 := by
  have := gAll_pos hl h0
  have h := @gOf_abs r l
  intro e; rw [e] at h; simp at h; (clear hl h0 e; omega)
theorem gOf_dvd {r : List Int} {l x : Int} (hx : x ∈ r) : gOf r l ∣ x := Int.natAbs_dvd_natAbs.mp (by rw [gOf_abs]; exact (gAll_dvd r 0).2 x hx)
theorem redI_mul {r : List Int} {l : Int} : (redI r l).map (fun x => x * gOf r l) = r := by
  unfold redI
  rw [List.map_map]
  conv => rhs; rw [← List.map_id r]
  apply List.map_congr_left
  intro x hx
  exact Int.fdiv_mul_cancel (gOf_dvd hx)
theorem redI_len {r : List Int} {l : Int} : (redI r l).length = r.length := List.length_map ..
theorem redI_gcd {r : List Int} {l : Int} (hl : l ∈ r) (h0 : l ≠ 0) : gAll (redI r l) 0 = 1 := by
  have h := gAll_mul (gOf r l).natAbs (redI r l) (gOf r l) 0 rfl
  rw [redI_mul, Nat.zero_mul, gOf_abs] at h
  exact (Nat.eq_of_mul_eq_mul_right (gAll_pos hl h0) (by rw [Nat.one_mul]; exact h)).symm
theorem redI_last {r : List Int} {l : Int} (hl : l ∈ r) (h0 : l ≠ 0) : 0 < l.fdiv (gOf r l) := by
  have hg := gAll_pos hl h0
  have e := Int.fdiv_mul_cancel (gOf_dvd (l := l) hl)
  by_cases h : l < 0
  · have hg0 : gOf r l < 0 := by unfold gOf; rw [if_pos h]; (clear hl h0 e h; omega)
    exact Int.not_le.mp fun hle => by
      have := Int.mul_nonneg_of_nonpos_of_nonpos hle (Int.le_of_lt hg0)
      rw [e] at this; (clear hl h0 hg e hg0 hle; omega)
  · have hg0 : 0 < gOf r l := by unfold gOf; rw [if_neg h]; (clear hl h0 e h; omega)
    exact Int.pos_of_mul_pos_left (by rw [e]; (clear hl hg e hg0; omega)) hg0
theorem redI_sm {r : List Int} {l : Int} {k : Nat} (hl : l ∈ r) (h0 : l ≠ 0) (h : AllSm k r) : AllSm k (redI r l) := fun x hx => by
  obtain ⟨y, hy, rfl⟩ := List.mem_map.mp hx
  refine Nat.lt_of_le_of_lt ?_ (h y hy)
  have e := Int.fdiv_mul_cancel (gOf_dvd (l := l) hy)
  have := gAll_pos hl h0
  rw [show y.natAbs = (y.fdiv (gOf r l) * gOf r l).natAbs by rw [e], Int.natAbs_mul, gOf_abs]
  exact Nat.le_mul_of_pos_right _ this

theorem smul_eq {g : Int} {r : List Int} : (r.map fun x => x * g) = smul g r := List.map_congr_left fun x _ => Int.mul_comm x g
section
variable {sub : Nat → Nat → Bool} {P : List Fn} {f n dv pa : Nat} {H : Hp} {Q : V → Hp → Prop} {X : Nat → Hp → Prop}
noncomputable def bPDiv : PS := (.seq (.assign 0 (.bi .abs (.cons (.var 0) .nil)))
 (.seq (.assign 1 (.bi .abs (.cons (.var 1) .nil)))
 (.seq (.whl (.cmp .gt (.var 1) (.cint 0)) (.seq (.assign 2 (.bin .mod (.var 0) (.var 1))) (.seq (.assign 0 (.var 1)) (.seq (.assign 1 (.var 2)) .skip))))
 (.seq (.ret (.var 0)) .skip))))
theorem s_pdiv (e : P[f]? = some ⟨2, 3, bPDiv⟩) {a b : Int} (hQ : Q (.int (a.gcd b : Nat)) H) : callN sub P (n + 1) f [.int a, .int b] H Q X := by
  refine callN_mk e rfl ?_
  dsimp only [bPDiv, qS1, qS2, qS3, qS4, qS5, qS7, qS9, qS10, qS11, qS12, qS13, qS14, qE1, qE2, qE5, qE7, qE8, qE9, qE10, qE11, qE12, qE13, qE14, qE15, qE16, qE17, qE18, qE19, qE20, qE21, qE22, qEs1, qEs2, wpAll, qO1, qO2, qI1, qI2, qI3, w_add, w_addl, w_sub, w_mul, w_mull, w_fdiv, w_mod, w_pow, w_lt, w_le, w_gt, w_ge, w_eq, w_ne, w_isn, w_ist, w_isi, w_isl, w_abs, w_lent, w_lenl, w_intb, w_list, w_tuple, w_min, w_idxt0, w_idxt1, w_idxu0, w_idxu1, w_idxu2, w_idxl, w_slcl, w_tb, w_ti, w_tn, w_tt, w_tl, w_itt, w_itl, w_bindT1, w_bindT2, w_srcl, w_srct, w_cut2, w_cut1, w_cut1', w_cut0, w_ty1, w_ty2, w_ty3, w_ty4, w_ty5, w_ty6, w_ty7, w_ty8, w_ty9, w_ty10, w_ty11, w_ty12, w_ty13, w_ty14, w_ty15, w_ty16, w_ty17, w_ty18, w_ty19, w_ty20, w_ty21, w_mapc, w_mapn, w_appc, w_appn, w_repc, w_repn, w_start, w_lenc, w_ifT, w_ifF, w_ifFF, w_ifTF, w_nT, w_nF, w_anyT, w_anyF, w_d22, ifSome_some, ifLst_lst, ifTup_tup, ifInt_int, lget, lset, lsets, Nat.reduceSub, Nat.reduceAdd, List.length_nil, ↓reduceIte]
  have ha : ∀ x : Int, (if x < 0 then -x else x) = (x.natAbs : Int) := fun x => by split <;> (clear e hQ; omega)
  rw [ha, ha]
  refine ⟨fun ρ H' => ∃ x y : Nat, ∃ o, ρ = [some (.int x), some (.int y), o] ∧ H' = H ∧ x.gcd y = a.gcd b, fun ρ _ => natAt ρ 1, ⟨a.natAbs, b.natAbs, _, rfl, rfl, rfl⟩, ?_⟩
  rintro ρ H' ⟨x, y, o, rfl, rfl, hg⟩
  dsimp only [qS1, qS2, qS3, qS4, qS5, qS7, qS9, qS10, qS11, qS12, qS13, qS14, qE1, qE2, qE5, qE7, qE8, qE9, qE10, qE11, qE12, qE13, qE14, qE15, qE16, qE17, qE18, qE19, qE20, qE21, qE22, qEs1, qEs2, wpAll, qO1, qO2, qI1, qI2, qI3, w_add, w_addl, w_sub, w_mul, w_mull, w_fdiv, w_mod, w_pow, w_lt, w_le, w_gt, w_ge, w_eq, w_ne, w_isn, w_ist, w_isi, w_isl, w_abs, w_lent, w_lenl, w_intb, w_list, w_tuple, w_min, w_idxt0, w_idxt1, w_idxu0, w_idxu1, w_idxu2, w_idxl, w_slcl, w_tb, w_ti, w_tn, w_tt, w_tl, w_itt, w_itl, w_bindT1, w_bindT2, w_srcl, w_srct, w_cut2, w_cut1, w_cut1', w_cut0, w_ty1, w_ty2, w_ty3, w_ty4, w_ty5, w_ty6, w_ty7, w_ty8, w_ty9, w_ty10, w_ty11, w_ty12, w_ty13, w_ty14, w_ty15, w_ty16, w_ty17, w_ty18, w_ty19, w_ty20, w_ty21, w_mapc, w_mapn, w_appc, w_appn, w_repc, w_repn, w_start, w_lenc, w_ifT, w_ifF, w_ifFF, w_ifTF, w_nT, w_nF, w_anyT, w_anyF, w_d22, ifSome_some, ifLst_lst, ifTup_tup, ifInt_int, lget, lset, lsets, Nat.reduceSub, Nat.reduceAdd, List.length_nil, ↓reduceIte]
  by_cases hy : y = 0
  · subst hy
    rw [Nat.gcd_zero_right] at hg
    subst hg
    exact hQ
  · have h0 : (0 : Int) < (y : Int) := Int.natCast_pos.mpr (Nat.pos_of_ne_zero hy)
    rw [decide_eq_true h0]
    refine ⟨Int.ne_of_gt h0, ⟨y, x % y, some (.int ((x : Int).fmod (y : Int))), ?_, rfl, ?_⟩, fmod_natAbs_lt (Int.ne_of_gt h0)⟩
    · rw [show ((x % y : Nat) : Int) = (x : Int).fmod (y : Int) by rw [Int.fmod_eq_emod_of_nonneg _ (Int.le_of_lt h0)]; rfl]
    · rw [← hg, Nat.gcd_comm x y, Nat.gcd_rec y x, Nat.gcd_comm]
/-- part, the bottom above nought -/
noncomputable def bPPart (dv : Nat) : PS := (.seq (.ite (.cmp .eq (.var 1) (.cint 0)) (.seq (.raise 1) .skip) .skip)
 (.seq (.assign 2 (.call dv (.cons (.var 0) (.cons (.var 1) .nil))))
 (.seq (.ite (.cmp .lt (.var 1) (.cint 0)) (.seq (.assign 2 (.neg (.var 2))) .skip) .skip)
 (.seq (.ret (.tup (.cons (.bin .fdiv (.var 0) (.var 2)) (.cons (.bin .fdiv (.var 1) (.var 2)) .nil)))) .skip))))
noncomputable def bBelow : PS := (.seq (.ret (.cmp .lt (.bin .mul (.idx (.var 0) (.cint 0)) (.idx (.var 1) (.cint 1))) (.bin .mul (.idx (.var 1) (.cint 0)) (.idx (.var 0) (.cint 1))))) .skip)
theorem s_below (e : P[f]? = some ⟨2, 2, bBelow⟩) {p1 q1 p2 q2 : Int} (m1 : IntMulOk p1 q2) (m2 : IntMulOk p2 q1) (hQ : Q (.bool (decide (p1 * q2 < p2 * q1))) H) : callN sub P (n + 1) f [.tup [.int p1, .int q1], .tup [.int p2, .int q2]] H Q X := by
  refine callN_mk e rfl ?_
  dsimp only [bBelow, qS1, qS2, qS3, qS4, qS5, qS7, qS9, qS10, qS11, qS12, qS13, qS14, qE1, qE2, qE5, qE7, qE8, qE9, qE10, qE11, qE12, qE13, qE14, qE15, qE16, qE17, qE18, qE19, qE20, qE21, qE22, qEs1, qEs2, wpAll, qO1, qO2, qI1, qI2, qI3, w_add, w_addl, w_sub, w_mul, w_mull, w_fdiv, w_mod, w_pow, w_lt, w_le, w_gt, w_ge, w_eq, w_ne, w_isn, w_ist, w_isi, w_isl, w_abs, w_lent, w_lenl, w_intb, w_list, w_tuple, w_min, w_idxt0, w_idxt1, w_idxu0, w_idxu1, w_idxu2, w_idxl, w_slcl, w_tb, w_ti, w_tn, w_tt, w_tl, w_itt, w_itl, w_bindT1, w_bindT2, w_srcl, w_srct, w_cut2, w_cut1, w_cut1', w_cut0, w_ty1, w_ty2, w_ty3, w_ty4, w_ty5, w_ty6, w_ty7, w_ty8, w_ty9, w_ty10, w_ty11, w_ty12, w_ty13, w_ty14, w_ty15, w_ty16, w_ty17, w_ty18, w_ty19, w_ty20, w_ty21, w_mapc, w_mapn, w_appc, w_appn, w_repc, w_repn, w_start, w_lenc, w_ifT, w_ifF, w_ifFF, w_ifTF, w_nT, w_nF, w_anyT, w_anyF, w_d22, ifSome_some, ifLst_lst, ifTup_tup, ifInt_int, lget, lset, lsets, Nat.reduceSub, Nat.reduceAdd, List.length_nil, ↓reduceIte]
  exact ⟨m1, m2, hQ⟩
noncomputable def bPSum (pa : Nat) : PS := (.seq (.ret (.call pa (.cons (.bin .add (.bin .mul (.idx (.var 0) (.cint 0)) (.idx (.var 1) (.cint 1))) (.bin .mul (.idx (.var 1) (.cint 0)) (.idx (.var 0) (.cint 1)))) (.cons (.bin .mul (.idx (.var 0) (.cint 1)) (.idx (.var 1) (.cint 1))) .nil)))) .skip)
/-! the sign at a part -/
noncomputable def lSign : PS := (.seq (.assign 2 (.bin .add (.bin .mul (.var 2) (.idx (.var 1) (.cint 0))) (.bin .mul (.var 4) (.var 3))))
 (.seq (.assign 3 (.bin .mul (.var 3) (.idx (.var 1) (.cint 1)))) .skip))
noncomputable def bSign : PS := (.seq (.assign 2 (.cint 0))
 (.seq (.assign 3 (.cint 1))
 (.seq (.forr 4 (.rev (.var 0)) lSign)
 (.seq (.ite (.cmp .lt (.var 2) (.cint 0)) (.seq (.ret (.neg (.cint 1))) .skip) .skip)
 (.seq (.ret (.bi .int (.cons (.cmp .gt (.var 2) (.cint 0)) .nil))) .skip)))))
theorem hval_sm {k l : Nat} {p q : Int} (hp : Sm l p) (hq : Sm l q) : ∀ {r : List Int}, AllSm k r → Sm (k + 1 + r.length * (l + 2)) (hval p q r)
  | [], _ => Sm.zero
  | c :: r, h => by
    have h1 := (hval_sm hp hq h.tl).mul hp
    have h2 := h.hd.mul (hq.pow r.length)
    have hm : l * r.length ≤ r.length * (l + 2) := by rw [Nat.mul_comm]; exact Nat.mul_le_mul_left _ (by (clear hp hq h h1 h2; omega))
    refine Sm.mono (Sm.add (h1.mono (Nat.le_max_left _ (k + (l * r.length + 1)))) (h2.mono (Nat.le_max_right _ _))) ?_
    rw [List.length_cons, Nat.succ_mul]
    (clear hp hq h h1 h2; omega)
theorem s_sign (e : P[f]? = some ⟨2, 5, bSign⟩) {v : V} {row : List Int} {p q : Int} {K L : Nat} (hv : items H v = some (row.map .int)) (hr : AllSm K row) (hp : Sm L p) (hq : Sm L q) (hB : K + 1 + (row.length + 1) * (L + 2) ≤ 1000000)
    (hQ : Q (.int (sgn (hval p q row))) H) : callN sub P (n + 1) f [v, .tup [.int p, .int q]] H Q X := by
  refine callN_mk e rfl ?_
  dsimp only [bSign, qS1, qS2, qS3, qS4, qS5, qS7, qS9, qS10, qS11, qS12, qS13, qS14, qE1, qE2, qE5, qE7, qE8, qE9, qE10, qE11, qE12, qE13, qE14, qE15, qE16, qE17, qE18, qE19, qE20, qE21, qE22, qEs1, qEs2, wpAll, qO1, qO2, qI1, qI2, qI3, w_add, w_addl, w_sub, w_mul, w_mull, w_fdiv, w_mod, w_pow, w_lt, w_le, w_gt, w_ge, w_eq, w_ne, w_isn, w_ist, w_isi, w_isl, w_abs, w_lent, w_lenl, w_intb, w_list, w_tuple, w_min, w_idxt0, w_idxt1, w_idxu0, w_idxu1, w_idxu2, w_idxl, w_slcl, w_tb, w_ti, w_tn, w_tt, w_tl, w_itt, w_itl, w_bindT1, w_bindT2, w_srcl, w_srct, w_cut2, w_cut1, w_cut1', w_cut0, w_ty1, w_ty2, w_ty3, w_ty4, w_ty5, w_ty6, w_ty7, w_ty8, w_ty9, w_ty10, w_ty11, w_ty12, w_ty13, w_ty14, w_ty15, w_ty16, w_ty17, w_ty18, w_ty19, w_ty20, w_ty21, w_mapc, w_mapn, w_appc, w_appn, w_repc, w_repn, w_start, w_lenc, w_ifT, w_ifF, w_ifFF, w_ifTF, w_nT, w_nF, w_anyT, w_anyF, w_d22, ifSome_some, ifLst_lst, ifTup_tup, ifInt_int, lget, lset, lsets, Nat.reduceSub, Nat.reduceAdd, List.length_nil, ↓reduceIte]
  refine ifSome.mk hv ?_
  refine forGo_rule (fun rest ρ H' => ∃ pre suf o, row = pre ++ suf ∧ rest = ((pre : List Int).map V.int).reverse ∧ ρ = [some v, some (.tup [.int p, .int q]), some (.int (hval p q suf)), some (.int (q ^ suf.length)), o] ∧ H' = H) ?_ ?_ _ _ _ ⟨row, [], none, (List.append_nil _).symm, rfl, by rw [List.length_nil, Int.pow_zero]; rfl, rfl⟩
  · rintro x xs ρ H' k ⟨pre, suf, o, hr1, hx, rfl, rfl⟩ hk
    rcases List.eq_nil_or_concat pre with rfl | ⟨pre', d, rfl⟩
    · cases hx
    rw [List.concat_eq_append] at hr1 hx
    rw [List.map_append, List.reverse_append] at hx
    cases hx
    have hsl : suf.length + 1 ≤ row.length := by rw [hr1, List.length_append, List.length_append, List.length_singleton]; (clear e hr hp hq hB hv hQ hr1 hk; omega)
    have hsf : AllSm K suf := fun y hy => hr y (by rw [hr1]; simp [hy])
    have hdm : Sm K d := hr d (by rw [hr1]; simp)
    have b1 := hval_sm hp hq hsf
    have b2 := hq.pow suf.length
    have mm : (suf.length + 1) * (L + 2) ≤ row.length * (L + 2) := Nat.mul_le_mul_right _ hsl
    rw [Nat.succ_mul] at mm hB
    have mm1 : L * suf.length ≤ suf.length * (L + 2) := by rw [Nat.mul_comm]; exact Nat.mul_le_mul_left _ (by (clear e hr hp hq hB hv hQ hr1 hk hsl hsf hdm b1 b2 mm; omega))
    have hL : L ≤ 1048576 := by (clear e hr hp hq hv hQ hr1 hk hsl hsf hdm b1 b2 mm mm1; omega)
    have h2 : L * suf.length + 1 ≤ 1048576 := by (clear e hr hp hq hv hQ hr1 hk hsl hsf hdm b1 b2; omega)
    dsimp only [lSign, qS1, qS2, qS3, qS4, qS5, qS7, qS9, qS10, qS11, qS12, qS13, qS14, qE1, qE2, qE5, qE7, qE8, qE9, qE10, qE11, qE12, qE13, qE14, qE15, qE16, qE17, qE18, qE19, qE20, qE21, qE22, qEs1, qEs2, wpAll, qO1, qO2, qI1, qI2, qI3, w_add, w_addl, w_sub, w_mul, w_mull, w_fdiv, w_mod, w_pow, w_lt, w_le, w_gt, w_ge, w_eq, w_ne, w_isn, w_ist, w_isi, w_isl, w_abs, w_lent, w_lenl, w_intb, w_list, w_tuple, w_min, w_idxt0, w_idxt1, w_idxu0, w_idxu1, w_idxu2, w_idxl, w_slcl, w_tb, w_ti, w_tn, w_tt, w_tl, w_itt, w_itl, w_bindT1, w_bindT2, w_srcl, w_srct, w_cut2, w_cut1, w_cut1', w_cut0, w_ty1, w_ty2, w_ty3, w_ty4, w_ty5, w_ty6, w_ty7, w_ty8, w_ty9, w_ty10, w_ty11, w_ty12, w_ty13, w_ty14, w_ty15, w_ty16, w_ty17, w_ty18, w_ty19, w_ty20, w_ty21, w_mapc, w_mapn, w_appc, w_appn, w_repc, w_repn, w_start, w_lenc, w_ifT, w_ifF, w_ifFF, w_ifTF, w_nT, w_nF, w_anyT, w_anyF, w_d22, ifSome_some, ifLst_lst, ifTup_tup, ifInt_int, lget, lset, lsets, Nat.reduceSub, Nat.reduceAdd, List.length_nil, ↓reduceIte]
    refine ⟨IntMulOk.sm b1 hp (by (clear e hr hp hq hv hQ hr1 hk hsl hsf hdm b1 b2 mm1 h2; omega)) hL, IntMulOk.sm hdm b2 (by (clear e hr hp hq hv hQ hr1 hk hsl hsf hdm b1 b2 mm mm1 h2; omega)) h2, IntMulOk.sm b2 hq h2 hL, ?_⟩
    refine hk _ _ ⟨pre', d :: suf, some (.int d), by rw [hr1, List.append_assoc]; rfl, rfl, ?_, rfl⟩
    rw [hval, List.length_cons, Int.pow_succ]
  · rintro ρ H' ⟨pre, suf, o, hr1, hx, rfl, rfl⟩
    have hnil : pre = [] := by
      have := congrArg List.length hx
      simp at this; exact List.eq_nil_of_length_eq_zero this.symm
    subst hnil
    rw [List.nil_append] at hr1
    subst hr1
    dsimp only [qS1, qS2, qS3, qS4, qS5, qS7, qS9, qS10, qS11, qS12, qS13, qS14, qE1, qE2, qE5, qE7, qE8, qE9, qE10, qE11, qE12, qE13, qE14, qE15, qE16, qE17, qE18, qE19, qE20, qE21, qE22, qEs1, qEs2, wpAll, qO1, qO2, qI1, qI2, qI3, w_add, w_addl, w_sub, w_mul, w_mull, w_fdiv, w_mod, w_pow, w_lt, w_le, w_gt, w_ge, w_eq, w_ne, w_isn, w_ist, w_isi, w_isl, w_abs, w_lent, w_lenl, w_intb, w_list, w_tuple, w_min, w_idxt0, w_idxt1, w_idxu0, w_idxu1, w_idxu2, w_idxl, w_slcl, w_tb, w_ti, w_tn, w_tt, w_tl, w_itt, w_itl, w_bindT1, w_bindT2, w_srcl, w_srct, w_cut2, w_cut1, w_cut1', w_cut0, w_ty1, w_ty2, w_ty3, w_ty4, w_ty5, w_ty6, w_ty7, w_ty8, w_ty9, w_ty10, w_ty11, w_ty12, w_ty13, w_ty14, w_ty15, w_ty16, w_ty17, w_ty18, w_ty19, w_ty20, w_ty21, w_mapc, w_mapn, w_appc, w_appn, w_repc, w_repn, w_start, w_lenc, w_ifT, w_ifF, w_ifFF, w_ifTF, w_nT, w_nF, w_anyT, w_anyF, w_d22, ifSome_some, ifLst_lst, ifTup_tup, ifInt_int, lget, lset, lsets, Nat.reduceSub, Nat.reduceAdd, List.length_nil, ↓reduceIte]
    revert hQ
    generalize hval p q row = z
    intro hQ
    unfold sgn at hQ
    by_cases h1 : z < 0
    · rw [if_pos h1] at hQ; rw [decide_eq_true h1]; exact hQ
    · rw [if_neg h1] at hQ; rw [decide_eq_false h1]
      by_cases h2 : 0 < z
      · rw [if_pos h2] at hQ; rw [decide_eq_true h2]; exact hQ
      · rw [if_neg h2] at hQ; rw [decide_eq_false h2]; exact hQ

/-! the row by its divisor, list or tuple; both texts -/
noncomputable def zRed : PE := (.comp (.bin .fdiv (.var 0) (.var 1)) 1 [1] (.seq (.var 0)) .no)
noncomputable def lRed (dv : Nat) : PS := (.seq (.assign 1 (.call dv (.cons (.var 1) (.cons (.var 2) .nil)))) .skip)
noncomputable def bRed (dv : Nat) (ng : PE) : PS := (.seq (.assign 1 (.cint 0))
 (.seq (.forr 2 (.seq (.var 0)) (lRed dv))
 (.seq (.ite (.cmp .lt (.idx (.var 0) (.neg (.cint 1))) (.cint 0)) (.seq (.assign 1 ng) .skip) .skip)
 (.seq (.ret zRed) .skip))))
theorem s_red {ng : PE} (hng : ∀ (g : Int) (ρ : Loc) (H' : Hp) (Z : V → Hp → Prop), lget ρ 1 = some (.int g) → Z (.int (-g)) H' → wpE sub (callN sub P n) ng ρ H' Z) (e : P[f]? = some ⟨1, 3, bRed dv ng⟩)
    (ed : ∀ (a b : Int) (H' : Hp) (Z : V → Hp → Prop) (X' : Nat → Hp → Prop), Z (.int (a.gcd b : Nat)) H' → callN sub P n dv [.int a, .int b] H' Z X') {v : V} {row : List Int} {l : Int} (hv : items H v = some (row.map .int)) (hlast : row.getLast? = some l) (h0 : l ≠ 0) (hl : row.length ≤ 1000)
    (hQ : Q (.lst H.length) (H ++ [(redI row l).map .int])) : callN sub P (n + 1) f [v] H Q X := by
  have hmem : l ∈ row := List.mem_of_getLast? hlast
  refine callN_mk e rfl ?_
  dsimp only [bRed, qS1, qS2, qS3, qS4, qS5, qS7, qS9, qS10, qS11, qS12, qS13, qS14, qE1, qE2, qE5, qE7, qE8, qE9, qE10, qE11, qE12, qE13, qE14, qE15, qE16, qE17, qE18, qE19, qE20, qE21, qE22, qEs1, qEs2, wpAll, qO1, qO2, qI1, qI2, qI3, w_add, w_addl, w_sub, w_mul, w_mull, w_fdiv, w_mod, w_pow, w_lt, w_le, w_gt, w_ge, w_eq, w_ne, w_isn, w_ist, w_isi, w_isl, w_abs, w_lent, w_lenl, w_intb, w_list, w_tuple, w_min, w_idxt0, w_idxt1, w_idxu0, w_idxu1, w_idxu2, w_idxl, w_slcl, w_tb, w_ti, w_tn, w_tt, w_tl, w_itt, w_itl, w_bindT1, w_bindT2, w_srcl, w_srct, w_cut2, w_cut1, w_cut1', w_cut0, w_ty1, w_ty2, w_ty3, w_ty4, w_ty5, w_ty6, w_ty7, w_ty8, w_ty9, w_ty10, w_ty11, w_ty12, w_ty13, w_ty14, w_ty15, w_ty16, w_ty17, w_ty18, w_ty19, w_ty20, w_ty21, w_mapc, w_mapn, w_appc, w_appn, w_repc, w_repn, w_start, w_lenc, w_ifT, w_ifF, w_ifFF, w_ifTF, w_nT, w_nF, w_anyT, w_anyF, w_d22, ifSome_some, ifLst_lst, ifTup_tup, ifInt_int, lget, lset, lsets, Nat.reduceSub, Nat.reduceAdd, List.length_nil, ↓reduceIte]
  refine ifSome.mk hv ?_
  refine forGo_rule (fun rest ρ H' => ∃ td g o, rest = (td : List Int).map V.int ∧ ρ = [some v, some (.int ((g : Nat) : Int)), o] ∧ H' = H ∧ gAll td g = gAll row 0) ?_ ?_ _ _ _ ⟨row, 0, _, rfl, rfl, rfl, rfl⟩
  · rintro x xs ρ H' k ⟨td, g, o, hx, rfl, rfl, hg⟩ hk
    cases td with
    | nil => cases hx
    | cons y td =>
      cases hx
      dsimp only [lRed, qS1, qS2, qS3, qS4, qS5, qS7, qS9, qS10, qS11, qS12, qS13, qS14, qE1, qE2, qE5, qE7, qE8, qE9, qE10, qE11, qE12, qE13, qE14, qE15, qE16, qE17, qE18, qE19, qE20, qE21, qE22, qEs1, qEs2, wpAll, qO1, qO2, qI1, qI2, qI3, w_add, w_addl, w_sub, w_mul, w_mull, w_fdiv, w_mod, w_pow, w_lt, w_le, w_gt, w_ge, w_eq, w_ne, w_isn, w_ist, w_isi, w_isl, w_abs, w_lent, w_lenl, w_intb, w_list, w_tuple, w_min, w_idxt0, w_idxt1, w_idxu0, w_idxu1, w_idxu2, w_idxl, w_slcl, w_tb, w_ti, w_tn, w_tt, w_tl, w_itt, w_itl, w_bindT1, w_bindT2, w_srcl, w_srct, w_cut2, w_cut1, w_cut1', w_cut0, w_ty1, w_ty2, w_ty3, w_ty4, w_ty5, w_ty6, w_ty7, w_ty8, w_ty9, w_ty10, w_ty11, w_ty12, w_ty13, w_ty14, w_ty15, w_ty16, w_ty17, w_ty18, w_ty19, w_ty20, w_ty21, w_mapc, w_mapn, w_appc, w_appn, w_repc, w_repn, w_start, w_lenc, w_ifT, w_ifF, w_ifFF, w_ifTF, w_nT, w_nF, w_anyT, w_anyF, w_d22, ifSome_some, ifLst_lst, ifTup_tup, ifInt_int, lget, lset, lsets, Nat.reduceSub, Nat.reduceAdd, List.length_nil, ↓reduceIte]
      refine ed _ _ _ _ _ ?_
      exact hk _ _ ⟨td, Nat.gcd g y.natAbs, _, rfl, rfl, rfl, hg⟩
  · rintro ρ H' ⟨td, g, o, hx, rfl, rfl, hg⟩
    cases td with
    | cons y td => cases hx
    | nil =>
      have hg' : g = gAll row 0 := hg
      have hrl : 1 ≤ (row.map V.int).length := by rw [List.length_map]; exact List.length_pos_of_mem hmem
      have hgp := gAll_pos hmem h0
      have hok : DivOk (gOf row l) := gOf_ne hmem h0
      have key : ∀ o', wpE sub (callN sub P n) zRed [some v, some (.int (gOf row l)), o'] H' Q := fun o' => by
        dsimp only [zRed, qE1, qE2, qE5, qE7, qE8, qE9, qE10, qE11, qE12, qE13, qE14, qE15, qE16, qE17, qE18, qE19, qE20, qE21, qE22, qI1, qI2, qI3, lget, ifSome_some]
        refine ifSome.mk hv ⟨by rw [List.length_map]; unfold lim; (clear hng e ed hlast h0 hmem hv hQ hx hg hg' hrl hgp hok; omega), ?_⟩
        refine compGo_map (g := fun x => match x with | .int y => V.int (y.fdiv (gOf row l)) | x => x) (fun x hx k hk => ?_) ?_
        · obtain ⟨y, _, rfl⟩ := List.mem_map.mp hx
          exact ⟨hok, hk⟩
        · rw [List.map_map]
          unfold redI at hQ
          rw [List.map_map] at hQ
          exact hQ
      dsimp only [qS1, qS2, qS3, qS4, qS5, qS7, qS9, qS10, qS11, qS12, qS13, qS14, qE1, qE2, qE5, qE7, qE8, qE9, qE10, qE11, qE12, qE13, qE14, qE15, qE16, qE17, qE18, qE19, qE20, qE21, qE22, qEs1, qEs2, wpAll, qO1, qO2, qI1, qI2, qI3, w_add, w_addl, w_sub, w_mul, w_mull, w_fdiv, w_mod, w_pow, w_lt, w_le, w_gt, w_ge, w_eq, w_ne, w_isn, w_ist, w_isi, w_isl, w_abs, w_lent, w_lenl, w_intb, w_list, w_tuple, w_min, w_idxt0, w_idxt1, w_idxu0, w_idxu1, w_idxu2, w_idxl, w_slcl, w_tb, w_ti, w_tn, w_tt, w_tl, w_itt, w_itl, w_bindT1, w_bindT2, w_srcl, w_srct, w_cut2, w_cut1, w_cut1', w_cut0, w_ty1, w_ty2, w_ty3, w_ty4, w_ty5, w_ty6, w_ty7, w_ty8, w_ty9, w_ty10, w_ty11, w_ty12, w_ty13, w_ty14, w_ty15, w_ty16, w_ty17, w_ty18, w_ty19, w_ty20, w_ty21, w_mapc, w_mapn, w_appc, w_appn, w_repc, w_repn, w_start, w_lenc, w_ifT, w_ifF, w_ifFF, w_ifTF, w_nT, w_nF, w_anyT, w_anyF, w_d22, ifSome_some, ifLst_lst, ifTup_tup, ifInt_int, lget, lset, lsets, Nat.reduceSub, Nat.reduceAdd, List.length_nil, ↓reduceIte, w_idxg]
      refine ifSome.mk hv (ifSome.mk (place_last hrl) (ifSome.mk (v := .int l) ?_ ?_))
      · rw [List.length_map, List.getElem?_map, ← List.getLast?_eq_getElem?, hlast]; rfl
      by_cases hn : l < 0
      · dsimp only [qS1, qS2, qS3, qS4, qS5, qS7, qS9, qS10, qS11, qS12, qS13, qS14, qE1, qE2, qE5, qE7, qE8, qE9, qE10, qE11, qE12, qE13, qE14, qE15, qE16, qE17, qE18, qE19, qE20, qE21, qE22, qEs1, qEs2, wpAll, qO1, qO2, qI1, qI2, qI3, w_add, w_addl, w_sub, w_mul, w_mull, w_fdiv, w_mod, w_pow, w_lt, w_le, w_gt, w_ge, w_eq, w_ne, w_isn, w_ist, w_isi, w_isl, w_abs, w_lent, w_lenl, w_intb, w_list, w_tuple, w_min, w_idxt0, w_idxt1, w_idxu0, w_idxu1, w_idxu2, w_idxl, w_slcl, w_tb, w_ti, w_tn, w_tt, w_tl, w_itt, w_itl, w_bindT1, w_bindT2, w_srcl, w_srct, w_cut2, w_cut1, w_cut1', w_cut0, w_ty1, w_ty2, w_ty3, w_ty4, w_ty5, w_ty6, w_ty7, w_ty8, w_ty9, w_ty10, w_ty11, w_ty12, w_ty13, w_ty14, w_ty15, w_ty16, w_ty17, w_ty18, w_ty19, w_ty20, w_ty21, w_mapc, w_mapn, w_appc, w_appn, w_repc, w_repn, w_start, w_lenc, w_ifT, w_ifF, w_ifFF, w_ifTF, w_nT, w_nF, w_anyT, w_anyF, w_d22, ifSome_some, ifLst_lst, ifTup_tup, ifInt_int, lget, lset, lsets, Nat.reduceSub, Nat.reduceAdd, List.length_nil, ↓reduceIte]
        rw [decide_eq_true hn]
        refine hng g _ _ _ rfl ?_
        have : gOf row l = -(g : Int) := by unfold gOf; rw [if_pos hn, hg']
        rw [this] at key
        exact key _
      · dsimp only [qS1, qS2, qS3, qS4, qS5, qS7, qS9, qS10, qS11, qS12, qS13, qS14, qE1, qE2, qE5, qE7, qE8, qE9, qE10, qE11, qE12, qE13, qE14, qE15, qE16, qE17, qE18, qE19, qE20, qE21, qE22, qEs1, qEs2, wpAll, qO1, qO2, qI1, qI2, qI3, w_add, w_addl, w_sub, w_mul, w_mull, w_fdiv, w_mod, w_pow, w_lt, w_le, w_gt, w_ge, w_eq, w_ne, w_isn, w_ist, w_isi, w_isl, w_abs, w_lent, w_lenl, w_intb, w_list, w_tuple, w_min, w_idxt0, w_idxt1, w_idxu0, w_idxu1, w_idxu2, w_idxl, w_slcl, w_tb, w_ti, w_tn, w_tt, w_tl, w_itt, w_itl, w_bindT1, w_bindT2, w_srcl, w_srct, w_cut2, w_cut1, w_cut1', w_cut0, w_ty1, w_ty2, w_ty3, w_ty4, w_ty5, w_ty6, w_ty7, w_ty8, w_ty9, w_ty10, w_ty11, w_ty12, w_ty13, w_ty14, w_ty15, w_ty16, w_ty17, w_ty18, w_ty19, w_ty20, w_ty21, w_mapc, w_mapn, w_appc, w_appn, w_repc, w_repn, w_start, w_lenc, w_ifT, w_ifF, w_ifFF, w_ifTF, w_nT, w_nF, w_anyT, w_anyF, w_d22, ifSome_some, ifLst_lst, ifTup_tup, ifInt_int, lget, lset, lsets, Nat.reduceSub, Nat.reduceAdd, List.length_nil, ↓reduceIte]
        rw [decide_eq_false hn]
        have : gOf row l = (g : Int) := by unfold gOf; rw [if_neg hn, hg']
        rw [this] at key
        exact key _
end
end Mine

set_option autoImplicit false
set_option linter.unusedVariables false
set_option linter.unusedSimpArgs false
set_option maxRecDepth 100000
namespace Mine
open PySem
section
variable {sub : Nat → Nat → Bool} {P : List Fn} {f n dv pa : Nat} {H : Hp} {Q : V → Hp → Prop} {X : Nat → Hp → Prop}
noncomputable def ngL : PE := .bin .sub (.cint 0) (.var 1)
end
end Mine

set_option autoImplicit false
set_option linter.unusedVariables false
namespace Mine

/-! rows as polynomials: lists are equal when their values are -/
noncomputable def hc (a0 a1 b0 b1 : Int) : List Int → List Int
  | [] => []
  | c :: r => addL (mulG a0 a1 0 (hc a0 a1 b0 b1 r)) (smul c (mulN b0 b1 r.length [1]))
theorem smul_len {c : Int} {xs : List Int} : (smul c xs).length = xs.length := List.length_map ..
theorem hval_addL (p q : Int) : ∀ {xs ys : List Int}, xs.length = ys.length → hval p q (addL xs ys) = hval p q xs + hval p q ys
  | [], [], _ => rfl
  | x :: r, y :: t, h => by
    have h' : r.length = t.length := Nat.succ.inj h
    show hval p q (addL r t) * p + (x + y) * q ^ (addL r t).length = (hval p q r * p + x * q ^ r.length) + (hval p q t * p + y * q ^ t.length)
    rw [hval_addL p q h', addL_len h', h']; grind
theorem hval_smul (p q c : Int) : ∀ {xs : List Int}, hval p q (smul c xs) = c * hval p q xs
  | [] => by simp [smul, hval]
  | x :: r => by
    show hval p q (smul c r) * p + (c * x) * q ^ (smul c r).length = c * (hval p q r * p + x * q ^ r.length)
    rw [hval_smul p q c, smul_len]; grind
/-- equal values at all whole numbers: equal rows -/
theorem hval_cons1 (t c : Int) (r : List Int) : hval t 1 (c :: r) = hval t 1 r * t + c := by
  show hval t 1 r * t + c * 1 ^ r.length = _
  rw [Int.one_pow, Int.mul_one]
theorem zero_of_vals : ∀ {xs : List Int}, (∀ t : Int, t ≠ 0 → hval t 1 xs = 0) → ∀ x ∈ xs, x = 0
  | [], _, x, hx => nomatch hx
  | c :: r, h, x, hx => by
    have h' : ∀ t : Int, t ≠ 0 → hval t 1 r * t + c = 0 := fun t ht => by rw [← hval_cons1]; exact h t ht
    have hc : c = 0 := by
      have h1 := h' (c.natAbs + 1) (by (clear h hx h'; omega))
      have hd : ((c.natAbs : Int) + 1) ∣ c := ⟨-(hval (c.natAbs + 1) 1 r), by grind⟩
      exact Classical.byContradiction fun h0 => by
        have h2 := Nat.le_of_dvd (Int.natAbs_pos.mpr h0) (Int.natAbs_dvd_natAbs.mpr hd)
        (clear h hx h' h1 hd h0; omega)
    have hr : ∀ t : Int, t ≠ 0 → hval t 1 r = 0 := fun t ht => by
      have h1 := h' t ht
      rw [hc, Int.add_zero] at h1
      exact (Int.mul_eq_zero.mp h1).resolve_right ht
    rcases List.mem_cons.mp hx with rfl | hx
    · exact hc
    · exact zero_of_vals hr x hx
theorem ext_vals : ∀ {xs ys : List Int}, xs.length = ys.length → (∀ t : Int, hval t 1 xs = hval t 1 ys) → xs = ys := fun {xs ys} hl h => by
  have hz : ∀ x ∈ addL xs (smul (-1) ys), x = 0 := zero_of_vals fun t _ => by
    rw [hval_addL t 1 (by rw [smul_len, hl]), hval_smul, h t]; (clear hl h; omega)
  clear h
  induction xs generalizing ys with
  | nil => cases ys with
    | nil => rfl
    | cons y t => cases hl
  | cons x r ih => cases ys with
    | nil => cases hl
    | cons y t =>
      have h1 : x + -1 * y = 0 := hz _ List.mem_cons_self
      have h2 : r = t := ih (Nat.succ.inj hl) fun z hz' => hz z (List.mem_cons_of_mem _ hz')
      rw [h2]; congr 1; (clear ih hl hz h2; omega)
/-! reversal -/
/-! one turn at most, upwards -/
noncomputable def Up (xs : List Int) : Prop := xs.Pairwise fun x y => 0 < x → 0 ≤ y
noncomputable def NN (xs : List Int) : Prop := ∀ x ∈ xs, 0 ≤ x
end Mine

set_option autoImplicit false
set_option linter.unusedVariables false
namespace Mine

/-! rows as polynomials over whole numbers, by their values -/
noncomputable def ev (xs : List Int) (t : Int) : Int := hval t 1 xs
theorem ev_nil (t : Int) : ev [] t = 0 := rfl
theorem ev_cons (c : Int) (r : List Int) (t : Int) : ev (c :: r) t = c + t * ev r t := by
  unfold ev; rw [hval_cons1]; grind
noncomputable def addP : List Int → List Int → List Int
  | [], ys => ys
  | x :: xs, [] => x :: xs
  | x :: xs, y :: ys => (x + y) :: addP xs ys
theorem ev_addP (t : Int) : ∀ xs ys : List Int, ev (addP xs ys) t = ev xs t + ev ys t
  | [], ys => by rw [addP, ev_nil]; omega
  | x :: xs, [] => by rw [addP, ev_nil]; omega
  | x :: xs, y :: ys => by rw [addP, ev_cons, ev_cons, ev_cons, ev_addP t xs ys]; grind
theorem ev_smul (c t : Int) (xs : List Int) : ev (smul c xs) t = c * ev xs t := hval_smul t 1 c
noncomputable def mulP : List Int → List Int → List Int
  | [], _ => []
  | x :: r, ys => addP (smul x ys) (0 :: mulP r ys)
theorem ev_mulP (t : Int) : ∀ xs ys : List Int, ev (mulP xs ys) t = ev xs t * ev ys t
  | [], ys => by rw [mulP, ev_nil]; omega
  | x :: r, ys => by rw [mulP, ev_addP, ev_smul, ev_cons, ev_cons, ev_mulP t r ys]; grind
theorem addP_len : ∀ xs ys : List Int, (addP xs ys).length = max xs.length ys.length
  | [], ys => by rw [addP]; simp
  | x :: xs, [] => by rw [addP]; simp
  | x :: xs, y :: ys => by rw [addP, List.length_cons, addP_len xs ys, List.length_cons, List.length_cons]; omega
theorem mulP_len : ∀ {xs ys : List Int}, xs ≠ [] → ys ≠ [] → (mulP xs ys).length + 1 = xs.length + ys.length
  | [], _, h, _ => absurd rfl h
  | [x], ys, _, h => by
    have := List.length_pos_iff.mpr h
    rw [mulP, addP_len, smul_len, mulP]; simp; (clear h; omega)
  | x :: y :: r, ys, _, h => by
    have ih := @mulP_len (y :: r) ys (List.cons_ne_nil _ _) h
    rw [mulP, addP_len, smul_len, List.length_cons, List.length_cons]; (clear h; omega)

/-- rows without noughts at the end -/
noncomputable def Tr (xs : List Int) : Prop := ∃ l, xs.getLast? = some l ∧ l ≠ 0
theorem Tr.ne {xs : List Int} (h : Tr xs) : xs ≠ [] := by
  obtain ⟨l, e, _⟩ := h
  intro h; rw [h] at e; cases e
theorem Tr.tl {x y : Int} {xs : List Int} (h : Tr (x :: y :: xs)) : Tr (y :: xs) := by
  obtain ⟨l, e, h⟩ := h
  rw [List.getLast?_cons_cons] at e; exact ⟨l, e, h⟩
theorem Tr.cons {x : Int} {xs : List Int} (h : Tr xs) : Tr (x :: xs) := by
  obtain ⟨l, e, h⟩ := h
  cases xs with
  | nil => cases e
  | cons y r => exact ⟨l, by rw [List.getLast?_cons_cons]; exact e, h⟩
theorem Tr.one {x : Int} (h : x ≠ 0) : Tr [x] := ⟨x, rfl, h⟩
theorem Tr.mem {xs : List Int} (h : Tr xs) : ∃ x ∈ xs, x ≠ 0 := by
  obtain ⟨l, e, h⟩ := h
  exact ⟨l, List.mem_of_getLast? e, h⟩
theorem tr_smul {c : Int} (hc : c ≠ 0) {xs : List Int} (h : Tr xs) : Tr (smul c xs) := by
  obtain ⟨l, e, h⟩ := h
  refine ⟨c * l, ?_, Int.mul_ne_zero hc h⟩
  unfold smul; rw [List.getLast?_map, e]; rfl
theorem ev_zero {xs : List Int} (h : ∀ t, ev xs t = 0) : ∀ x ∈ xs, x = 0 := zero_of_vals fun t _ => h t
theorem Tr.nz {xs : List Int} (h : Tr xs) : ∃ t, ev xs t ≠ 0 := Classical.byContradiction fun hn => by
  obtain ⟨x, hx, h0⟩ := h.mem
  exact h0 (ev_zero (fun t => Classical.byContradiction fun ht => hn ⟨t, ht⟩) x hx)
/-- rows of equal values, without noughts at the end, are equal -/
theorem ext_tr : ∀ {xs ys : List Int}, (xs = [] ∨ Tr xs) → (ys = [] ∨ Tr ys) → (∀ t, ev xs t = ev ys t) → xs = ys := fun {xs ys} hx hy h => by
  have hz : ∀ z ∈ addP xs (smul (-1) ys), z = 0 := ev_zero fun t => by rw [ev_addP, ev_smul, h]; (clear hx hy h; omega)
  clear h
  induction xs generalizing ys with
  | nil =>
    rcases hy with rfl | hy
    · rfl
    · obtain ⟨z, h1, h2⟩ := (tr_smul (c := -1) (by decide) hy).mem
      exact absurd (hz z h1) h2
  | cons x r ih =>
    cases ys with
    | nil =>
      rcases hx with h | hx
      · cases h
      · obtain ⟨z, h1, h2⟩ := hx.mem
        exact absurd (hz z h1) h2
    | cons y s =>
      have h1 : x + -1 * y = 0 := hz _ List.mem_cons_self
      have h2 : r = s := ih (by
        cases r with
        | nil => exact .inl rfl
        | cons a b => exact .inr (hx.resolve_left (List.cons_ne_nil _ _)).tl) (by
        cases s with
        | nil => exact .inl rfl
        | cons a b => exact .inr (hy.resolve_left (List.cons_ne_nil _ _)).tl) fun z hz' => hz z (List.mem_cons_of_mem _ hz')
      rw [h2]; congr 1; (clear ih hx hy hz h2; omega)
theorem addP_last : ∀ {xs ys : List Int} {l : Int}, xs.length < ys.length → ys.getLast? = some l → (addP xs ys).getLast? = some l
  | [], ys, l, _, h => by rw [addP]; exact h
  | x :: xs, [], l, h, _ => absurd h (by simp)
  | x :: xs, [y], l, h, _ => absurd h (by simp)
  | x :: xs, y :: z :: ys, l, h, hl => by
    rw [addP]
    have ih := @addP_last xs (z :: ys) l (by simp at h ⊢; (clear hl; omega)) (by rw [List.getLast?_cons_cons] at hl; exact hl)
    cases e : addP xs (z :: ys) with
    | nil => rw [e] at ih; cases ih
    | cons a b => rw [List.getLast?_cons_cons, ← e]; exact ih
theorem mulP_last : ∀ {xs ys : List Int} {l m : Int}, xs.getLast? = some l → ys.getLast? = some m → (mulP xs ys).getLast? = some (l * m)
  | [], _, _, _, h, _ => by cases h
  | [x], ys, l, m, h, hm => by
    obtain rfl : x = l := Option.some.inj h
    have e : mulP [x] ys = smul x ys := by
      cases ys with
      | nil => cases hm
      | cons y r =>
        rw [mulP, mulP]
        show (x * y + 0) :: addP (smul x r) [] = x * y :: smul x r
        cases r with
        | nil => show [x * y + 0] = [x * y]; rw [Int.add_zero]
        | cons a b => show (x * y + 0) :: (x * a :: smul x b) = _; rw [Int.add_zero]; rfl
    rw [e]; unfold smul; rw [List.getLast?_map, hm]; rfl
  | x :: y :: r, ys, l, m, h, hm => by
    rw [List.getLast?_cons_cons] at h
    have ih := mulP_last h hm
    have hne : ys ≠ [] := by intro h; rw [h] at hm; cases hm
    have hl := @mulP_len (y :: r) ys (List.cons_ne_nil _ _) hne
    rw [mulP]
    refine addP_last ?_ ?_
    · rw [smul_len, List.length_cons]; rw [List.length_cons] at hl; (clear h hm ih hne; omega)
    · cases e : mulP (y :: r) ys with
      | nil => rw [e] at ih; cases ih
      | cons a b => rw [List.getLast?_cons_cons, ← e]; exact ih
theorem tr_mulP {xs ys : List Int} (h1 : Tr xs) (h2 : Tr ys) : Tr (mulP xs ys) := by
  obtain ⟨l, e, h⟩ := h1
  obtain ⟨m, e', h'⟩ := h2
  exact ⟨_, mulP_last e e', Int.mul_ne_zero h h'⟩

/-! polynomial functions -/
noncomputable def PF (f : Int → Int) : Prop := ∃ xs, ∀ t, f t = ev xs t
theorem PF.const (c : Int) : PF (fun _ => c) := ⟨[c], fun t => by rw [ev_cons, ev_nil]; dsimp only; omega⟩
theorem PF.id : PF (fun t => t) := ⟨[0, 1], fun t => by rw [ev_cons, ev_cons, ev_nil]; dsimp only; omega⟩
theorem PF.add {f g : Int → Int} (h1 : PF f) (h2 : PF g) : PF (fun t => f t + g t) := by
  obtain ⟨xs, h1⟩ := h1
  obtain ⟨ys, h2⟩ := h2
  exact ⟨addP xs ys, fun t => by dsimp only; rw [ev_addP, h1, h2]⟩
theorem PF.mul {f g : Int → Int} (h1 : PF f) (h2 : PF g) : PF (fun t => f t * g t) := by
  obtain ⟨xs, h1⟩ := h1
  obtain ⟨ys, h2⟩ := h2
  exact ⟨mulP xs ys, fun t => by dsimp only; rw [ev_mulP, h1, h2]⟩
theorem PF.smul (c : Int) {f : Int → Int} (h1 : PF f) : PF (fun t => c * f t) := (PF.const c).mul h1
theorem PF.neg {f : Int → Int} (h1 : PF f) : PF (fun t => - f t) := by
  obtain ⟨xs, h1⟩ := h1
  exact ⟨Mine.smul (-1) xs, fun t => by dsimp only; rw [ev_smul, h1]; (clear h1; omega)⟩
theorem pf_pow : ∀ n : Nat, PF (fun t => t ^ n)
  | 0 => ⟨[1], fun t => by dsimp only; rw [ev_cons, ev_nil, Int.pow_zero]; omega⟩
  | n + 1 => by
    obtain ⟨xs, h⟩ := (pf_pow n).mul PF.id
    exact ⟨xs, fun t => by rw [← h]; exact Int.pow_succ _ _⟩
/-- the row without its noughts at the end -/
theorem trim : ∀ xs : List Int, ∃ ys, (ys = [] ∨ Tr ys) ∧ ∀ t, ev xs t = ev ys t
  | [] => ⟨[], .inl rfl, fun _ => rfl⟩
  | x :: r => by
    obtain ⟨ys, h, e⟩ := trim r
    rcases h with rfl | h
    · by_cases hx : x = 0
      · exact ⟨[], .inl rfl, fun t => by rw [ev_cons, e, hx, ev_nil]; (clear e hx; omega)⟩
      · exact ⟨[x], .inr (.one hx), fun t => by rw [ev_cons, ev_cons, e]⟩
    · exact ⟨x :: ys, .inr h.cons, fun t => by rw [ev_cons, ev_cons, e]⟩
theorem PF.tr {f : Int → Int} (h : PF f) (h0 : ∃ t, f t ≠ 0) : ∃ xs, Tr xs ∧ ∀ t, f t = Mine.ev xs t := by
  obtain ⟨xs, e⟩ := h
  obtain ⟨ys, h, e'⟩ := trim xs
  rcases h with rfl | h
  · obtain ⟨t, ht⟩ := h0
    exact absurd (by rw [e, e', ev_nil]) ht
  · exact ⟨ys, h, fun t => by rw [e, e']⟩
/-! divisors -/
noncomputable def Dv (f g : Int → Int) : Prop := ∃ (c : Int) (h : Int → Int), c ≠ 0 ∧ PF h ∧ ∀ t, c * g t = f t * h t
theorem Dv.zero (f : Int → Int) : Dv f (fun _ => 0) := ⟨1, fun _ => 0, by decide, .const 0, fun t => by dsimp only; omega⟩
/-- a sum of multiples -/
theorem Dv.comb {f g h k u v : Int → Int} {c : Int} (h1 : Dv f g) (h2 : Dv f h) (pu : PF u) (pv : PF v) (hc : c ≠ 0) (e : ∀ t, c * k t = u t * g t + v t * h t) : Dv f k := by
  obtain ⟨a, x, ha, px, e1⟩ := h1
  obtain ⟨b, y, hb, py, e2⟩ := h2
  refine ⟨a * b * c, fun t => b * (u t * x t) + a * (v t * y t), Int.mul_ne_zero (Int.mul_ne_zero ha hb) hc, ((pu.mul px).smul b).add ((pv.mul py).smul a), fun t => ?_⟩
  have := e t; have := e1 t; have := e2 t; grind
/-- nothing in common -/
noncomputable def Cop (f g : Int → Int) : Prop := ∃ (c : Int) (u v : Int → Int), c ≠ 0 ∧ PF u ∧ PF v ∧ ∀ t, c = u t * f t + v t * g t
/-! the slope -/
noncomputable def evd : List Int → Int → Int
  | [], _ => 0
  | _ :: r, t => ev r t + t * evd r t
end Mine

set_option autoImplicit false
set_option linter.unusedVariables false
namespace Mine

/-! rows whose numbers have no divisor in common -/
noncomputable def Pr (p : Nat) : Prop := 1 < p ∧ ∀ a, a ∣ p → a = 1 ∨ a = p
noncomputable def AD (p : Int) (xs : List Int) : Prop := ∀ x ∈ xs, p ∣ x
theorem gAll_smul {c : Int} {xs : List Int} : gAll (smul c xs) 0 = gAll xs 0 * c.natAbs := by
  have := gAll_mul c.natAbs xs c 0 rfl
  rw [Nat.zero_mul, smul_eq] at this; exact this
/-- rows in lowest form that are multiples of each other are equal -/
theorem prim_eq {xs ys : List Int} {l m a b : Int} (g1 : gAll xs 0 = 1) (g2 : gAll ys 0 = 1) (l1 : xs.getLast? = some l) (l2 : ys.getLast? = some m) (p1 : 0 < l) (p2 : 0 < m) (ha : a ≠ 0) (hb : b ≠ 0) (e : ∀ t, a * ev xs t = b * ev ys t) : xs = ys := by
  have t1 : Tr xs := ⟨l, l1, by (clear g1 g2 l1 l2 p2 ha hb e; omega)⟩
  have t2 : Tr ys := ⟨m, l2, by (clear g1 g2 l1 l2 p1 ha hb e t1; omega)⟩
  have h : smul a xs = smul b ys := ext_tr (.inr (tr_smul ha t1)) (.inr (tr_smul hb t2)) fun t => by rw [ev_smul, ev_smul, e]
  have h1 : a.natAbs = b.natAbs := by
    have := congrArg (fun x => gAll x 0) h
    rw [gAll_smul, gAll_smul, g1, g2] at this
    (clear g1 g2 l1 l2 p1 p2 ha hb e t1 t2 h; omega)
  have h2 : a * l = b * m := by
    have := congrArg List.getLast? h
    unfold smul at this
    rw [List.getLast?_map, List.getLast?_map, l1, l2] at this
    exact Option.some.inj this
  have h3 : a = b := by
    rcases (by (clear g1 g2 l1 l2 p1 p2 ha hb e t1 t2 h h2; omega) : a = b ∨ a = -b) with h | h
    · exact h
    · exfalso
      rw [h] at h2
      have h4 : b * (l + m) = 0 := by grind
      rcases Int.mul_eq_zero.mp h4 with h5 | h5
      · exact hb h5
      · (clear g1 g2 l1 l2 ha hb e t1 t2 h1 h2 h h4; omega)
  subst h3
  refine ext_tr (.inr t1) (.inr t2) fun t => ?_
  exact Int.eq_of_mul_eq_mul_left ha (e t)
theorem redI_smul {r : List Int} {l : Int} : smul (gOf r l) (redI r l) = r := by rw [← smul_eq, redI_mul]
theorem ev_red {r : List Int} {l : Int} (t : Int) : ev r t = gOf r l * ev (redI r l) t := by
  have := congrArg (fun x => ev x t) (@redI_smul r l)
  rw [ev_smul] at this; exact this.symm
theorem redI_getLast {r : List Int} {l : Int} (hl : r.getLast? = some l) : (redI r l).getLast? = some (l.fdiv (gOf r l)) := by
  unfold redI; rw [List.getLast?_map, hl]; rfl
theorem tr_red {r : List Int} {l : Int} (hl : r.getLast? = some l) (h0 : l ≠ 0) : Tr (redI r l) := ⟨_, redI_getLast hl, by have := redI_last (List.mem_of_getLast? hl) h0; (clear hl h0; omega)⟩
/-! the row of the factors and its slope -/
structure Fac (f d : List Int) (G E : Int → Int) : Prop where
  pG : PF G
  pE : PF E
  nz : ∃ t, G t ≠ 0
  fe : ∀ t, ev f t = G t * ev d t
  fd : ∀ t, evd f t = G t * E t
  co : Cop (ev d) E
end Mine

set_option autoImplicit false
set_option linter.unusedVariables false
namespace Mine

/-! the slope as a row -/
noncomputable def sl : Int → List Int → List Int
  | _, [] => []
  | k, x :: r => k * x :: sl (k + 1) r
/-! rows that nothing shorter divides -/
noncomputable def Irr (F : List Int) : Prop := Tr F ∧ ∀ X, Tr X → X.length < F.length → Cop (ev F) (ev X)
theorem ev1 (c t : Int) : ev [c] t = c := by rw [ev_cons, ev_nil]; omega
/-! no rational roots -/
/-- a factor of the law: in lowest form, nothing shorter divides it -/
structure Ftr (F : List Int) (l : Int) : Prop where
  irr : Irr F
  len : 2 ≤ F.length
  len' : F.length ≤ 4
  last : F.getLast? = some l
  pos : 0 < l
  one : gAll F 0 = 1
end Mine

set_option autoImplicit false
set_option linter.unusedVariables false
set_option linter.unusedSimpArgs false
set_option maxRecDepth 100000
namespace Mine
open PySem
theorem IntMulOk.sum {k l : Nat} {a b : Int} (h1 : Sm k a) (h2 : Sm l b) (h : k + l ≤ 134217728) : IntMulOk a b := by
  have e : (2 : Nat) ^ 27 = 134217728 := by decide
  have b1 := h1.bits
  have b2 := h2.bits
  have h3 : Builtin.Int.intTooBig (Builtin.Int.intBits a + Builtin.Int.intBits b) = false := by
    unfold Builtin.Int.intTooBig bitsLine
    exact decide_eq_false (by (clear h1 h2 e; omega))
  unfold IntMulOk
  rw [h3]; simp
theorem ev_append (t : Int) : ∀ xs ys : List Int, ev (xs ++ ys) t = ev xs t + t ^ xs.length * ev ys t
  | [], ys => by rw [List.nil_append, ev_nil, List.length_nil, Int.pow_zero]; omega
  | x :: r, ys => by rw [List.cons_append, ev_cons, ev_cons, ev_append t r ys, List.length_cons, Int.pow_succ]; grind
theorem ev_zeros (t : Int) : ∀ n : Nat, ev (zeros n) t = 0
  | 0 => rfl
  | n + 1 => by show ev (0 :: zeros n) t = 0; rw [ev_cons, ev_zeros t n]; omega
theorem trim_ev {xs ys : List Int} {n : Nat} (h : xs = ys ++ zeros n) (t : Int) : ev xs t = ev ys t := by rw [h, ev_append, ev_zeros]; (clear h; omega)
/-- left times s less other times m, from above -/
noncomputable def wlz (s m : Int) (xs ys : List Int) : List Int := List.zipWith (fun x y => x * s - m * y) xs ys
theorem ev_wlz (s m t : Int) : ∀ {xs ys : List Int}, xs.length = ys.length → ev (wlz s m xs ys) t = s * ev xs t - m * ev ys t
  | [], [], _ => by show (0 : Int) = s * 0 - m * 0; omega
  | x :: r, y :: u, h => by
    show ev ((x * s - m * y) :: wlz s m r u) t = _
    rw [ev_cons, ev_cons, ev_cons, ev_wlz s m t (Nat.succ.inj h)]; grind
noncomputable def wlo (s m : Int) (l0 l1 o : List Int) : List Int := (l0.map fun x => x * s) ++ wlz s m l1 o
theorem ev_wlo {s m : Int} {l0 l1 o : List Int} (h : l1.length = o.length) (t : Int) : ev (wlo s m l0 l1 o) t = s * ev (l0 ++ l1) t - m * t ^ l0.length * ev o t := by
  have e : (l0.map fun x => x * s) = smul s l0 := smul_eq
  rw [wlo, ev_append, ev_append, e, ev_smul, smul_len, ev_wlz s m t h]; grind
theorem wlz_len {s m : Int} {xs ys : List Int} (h : xs.length = ys.length) : (wlz s m xs ys).length = ys.length := by unfold wlz; rw [List.length_zipWith, h, Nat.min_self]
theorem wlo_len {s m : Int} {l0 l1 o : List Int} (h : l1.length = o.length) : (wlo s m l0 l1 o).length = l0.length + o.length := by
  rw [wlo, List.length_append, List.length_map, wlz_len h]
theorem wlz_sm {s m : Int} {K L : Nat} (hs : Sm L s) (hm : Sm K m) : ∀ {xs ys : List Int}, AllSm K xs → AllSm L ys → AllSm (K + L + 1) (wlz s m xs ys)
  | [], _, _, _ => .nil
  | _ :: _, [], _, _ => .nil
  | x :: r, y :: u, h1, h2 => .cons ((h1.hd.mul hs).sub (hm.mul h2.hd)) (wlz_sm hs hm h1.tl h2.tl)
theorem wlo_sm {s m : Int} {K L : Nat} {l0 l1 o : List Int} (hs : Sm L s) (hm : Sm K m) (h0 : AllSm K l0) (h1 : AllSm K l1) (h2 : AllSm L o) : AllSm (K + L + 1) (wlo s m l0 l1 o) := fun x hx => by
  rcases List.mem_append.mp hx with hx | hx
  · obtain ⟨y, hy, rfl⟩ := List.mem_map.mp hx
    exact ((h0 y hy).mul hs).mono (Nat.le_succ _)
  · exact wlz_sm hs hm h1 h2 x hx
theorem wlz_last {s m a b : Int} : ∀ {xs ys : List Int}, xs.length = ys.length → xs.getLast? = some a → ys.getLast? = some b → (wlz s m xs ys).getLast? = some (a * s - m * b)
  | [], [], _, h, _ => by cases h
  | [x], [y], _, h1, h2 => by cases h1; cases h2; rfl
  | x :: x' :: r, y :: y' :: u, h, h1, h2 => by
    rw [List.getLast?_cons_cons] at h1 h2
    have ih := wlz_last (s := s) (m := m) (Nat.succ.inj h) h1 h2
    show ((x * s - m * y) :: (x' * s - m * y') :: wlz s m r u).getLast? = _
    rw [List.getLast?_cons_cons]; exact ih
  | [_], _ :: _ :: _, h, _, _ => by simp at h
  | _ :: _ :: _, [_], h, _, _ => by simp at h

section
variable {sub : Nat → Nat → Bool} {P : List Fn} {f n dv tr re wl ro : Nat} {H : Hp} {Q : V → Hp → Prop} {X : Nat → Hp → Prop}
noncomputable def cTrim : PE := (.and (.cons (.var 1) (.cons (.cmp .eq (.idx (.var 1) (.neg (.cint 1))) (.cint 0)) .nil)))
noncomputable def bTrim : PS := (.seq (.assign 1 (.bi .list (.cons (.var 0) .nil)))
 (.seq (.whl cTrim (.seq (.pop 1) .skip))
 (.seq (.ret (.var 1)) .skip)))
noncomputable def lenAt (H : Hp) (k : Nat) : Nat := match H[k]? with | some xs => xs.length | none => 0
theorem s_trim (e : P[f]? = some ⟨1, 2, bTrim⟩) {v : V} {row : List Int} (hv : items H v = some (row.map .int))
    (hQ : ∀ (ys : List Int) (k : Nat), row = ys ++ zeros k → (ys = [] ∨ Tr ys) → Q (.lst H.length) (H ++ [ys.map .int])) : callN sub P (n + 1) f [v] H Q X := by
  refine callN_mk e rfl ?_
  dsimp only [bTrim, qS1, qS2, qS3, qS4, qS5, qS7, qS9, qS10, qS11, qS12, qS13, qS14, qE1, qE2, qE5, qE7, qE8, qE9, qE10, qE11, qE12, qE13, qE14, qE15, qE16, qE17, qE18, qE19, qE20, qE21, qE22, qEs1, qEs2, wpAll, qO1, qO2, qI1, qI2, qI3, w_add, w_addl, w_sub, w_mul, w_mull, w_fdiv, w_mod, w_pow, w_lt, w_le, w_gt, w_ge, w_eq, w_ne, w_isn, w_ist, w_isi, w_isl, w_abs, w_lent, w_lenl, w_intb, w_list, w_tuple, w_min, w_idxt0, w_idxt1, w_idxu0, w_idxu1, w_idxu2, w_idxl, w_slcl, w_tb, w_ti, w_tn, w_tt, w_tl, w_itt, w_itl, w_bindT1, w_bindT2, w_srcl, w_srct, w_cut2, w_cut1, w_cut1', w_cut0, w_ty1, w_ty2, w_ty3, w_ty4, w_ty5, w_ty6, w_ty7, w_ty8, w_ty9, w_ty10, w_ty11, w_ty12, w_ty13, w_ty14, w_ty15, w_ty16, w_ty17, w_ty18, w_ty19, w_ty20, w_ty21, w_mapc, w_mapn, w_appc, w_appn, w_repc, w_repn, w_start, w_lenc, w_ifT, w_ifF, w_ifFF, w_ifTF, w_nT, w_nF, w_anyT, w_anyF, w_d22, ifSome_some, ifLst_lst, ifTup_tup, ifInt_int, lget, lset, lsets, Nat.reduceSub, Nat.reduceAdd, List.length_nil, ↓reduceIte]
  refine ifSome.mk hv ?_
  refine ⟨fun ρ H' => ∃ (ys : List Int) (k : Nat), ρ = [some v, some (.lst H.length)] ∧ H' = H ++ [ys.map .int] ∧ row = ys ++ zeros k, fun _ H' => lenAt H' H.length, ⟨row, 0, rfl, rfl, (List.append_nil _).symm⟩, ?_⟩
  rintro ρ H' ⟨ys, k, rfl, rfl, hr⟩
  have hy : (H ++ [ys.map V.int])[H.length]? = some (ys.map V.int) := getApp _ _ _
  dsimp only [cTrim, qS1, qS2, qS3, qS4, qS5, qS7, qS9, qS10, qS11, qS12, qS13, qS14, qE1, qE2, qE5, qE7, qE8, qE9, qE10, qE11, qE12, qE13, qE14, qE15, qE16, qE17, qE18, qE19, qE20, qE21, qE22, qEs1, qEs2, wpAll, qO1, qO2, qI1, qI2, qI3, w_add, w_addl, w_sub, w_mul, w_mull, w_fdiv, w_mod, w_pow, w_lt, w_le, w_gt, w_ge, w_eq, w_ne, w_isn, w_ist, w_isi, w_isl, w_abs, w_lent, w_lenl, w_intb, w_list, w_tuple, w_min, w_idxt0, w_idxt1, w_idxu0, w_idxu1, w_idxu2, w_idxl, w_slcl, w_tb, w_ti, w_tn, w_tt, w_tl, w_itt, w_itl, w_bindT1, w_bindT2, w_srcl, w_srct, w_cut2, w_cut1, w_cut1', w_cut0, w_ty1, w_ty2, w_ty3, w_ty4, w_ty5, w_ty6, w_ty7, w_ty8, w_ty9, w_ty10, w_ty11, w_ty12, w_ty13, w_ty14, w_ty15, w_ty16, w_ty17, w_ty18, w_ty19, w_ty20, w_ty21, w_mapc, w_mapn, w_appc, w_appn, w_repc, w_repn, w_start, w_lenc, w_ifT, w_ifF, w_ifFF, w_ifTF, w_nT, w_nF, w_anyT, w_anyF, w_d22, ifSome_some, ifLst_lst, ifTup_tup, ifInt_int, lget, lset, lsets, Nat.reduceSub, Nat.reduceAdd, List.length_nil, ↓reduceIte]
  refine ifSome.mk (v := !(ys.map V.int).isEmpty) (by rw [hy]; rfl) ?_
  rcases List.eq_nil_or_concat ys with rfl | ⟨zs, c, rfl⟩
  · refine (if_neg (by decide)).mpr ?_
    refine ifSome.mk (v := false) (by rw [hy]; rfl) ?_
    exact hQ [] k hr (.inl rfl)
  · rw [List.concat_eq_append] at hr hy ⊢
    have hne : (!((zs ++ [c]).map V.int).isEmpty) = true := by simp
    rw [hne]
    dsimp only [qS1, qS2, qS3, qS4, qS5, qS7, qS9, qS10, qS11, qS12, qS13, qS14, qE1, qE2, qE5, qE7, qE8, qE9, qE10, qE11, qE12, qE13, qE14, qE15, qE16, qE17, qE18, qE19, qE20, qE21, qE22, qEs1, qEs2, wpAll, qO1, qO2, qI1, qI2, qI3, w_add, w_addl, w_sub, w_mul, w_mull, w_fdiv, w_mod, w_pow, w_lt, w_le, w_gt, w_ge, w_eq, w_ne, w_isn, w_ist, w_isi, w_isl, w_abs, w_lent, w_lenl, w_intb, w_list, w_tuple, w_min, w_idxt0, w_idxt1, w_idxu0, w_idxu1, w_idxu2, w_idxl, w_slcl, w_tb, w_ti, w_tn, w_tt, w_tl, w_itt, w_itl, w_bindT1, w_bindT2, w_srcl, w_srct, w_cut2, w_cut1, w_cut1', w_cut0, w_ty1, w_ty2, w_ty3, w_ty4, w_ty5, w_ty6, w_ty7, w_ty8, w_ty9, w_ty10, w_ty11, w_ty12, w_ty13, w_ty14, w_ty15, w_ty16, w_ty17, w_ty18, w_ty19, w_ty20, w_ty21, w_mapc, w_mapn, w_appc, w_appn, w_repc, w_repn, w_start, w_lenc, w_ifT, w_ifF, w_ifFF, w_ifTF, w_nT, w_nF, w_anyT, w_anyF, w_d22, ifSome_some, ifLst_lst, ifTup_tup, ifInt_int, lget, lset, lsets, Nat.reduceSub, Nat.reduceAdd, List.length_nil, ↓reduceIte]
    have hl : ((zs ++ [c]).map V.int).length = zs.length + 1 := by simp
    refine ifSome.mk hy (ifSome.mk (place_last (by (clear e hv hQ hr hy hne; omega))) (ifSome.mk (v := .int c) ?_ ?_))
    · rw [hl, Nat.add_sub_cancel, List.map_append]
      have := getApp (zs.map V.int) (V.int c) []; rwa [List.length_map] at this
    dsimp only [qS1, qS2, qS3, qS4, qS5, qS7, qS9, qS10, qS11, qS12, qS13, qS14, qE1, qE2, qE5, qE7, qE8, qE9, qE10, qE11, qE12, qE13, qE14, qE15, qE16, qE17, qE18, qE19, qE20, qE21, qE22, qEs1, qEs2, wpAll, qO1, qO2, qI1, qI2, qI3, w_add, w_addl, w_sub, w_mul, w_mull, w_fdiv, w_mod, w_pow, w_lt, w_le, w_gt, w_ge, w_eq, w_ne, w_isn, w_ist, w_isi, w_isl, w_abs, w_lent, w_lenl, w_intb, w_list, w_tuple, w_min, w_idxt0, w_idxt1, w_idxu0, w_idxu1, w_idxu2, w_idxl, w_slcl, w_tb, w_ti, w_tn, w_tt, w_tl, w_itt, w_itl, w_bindT1, w_bindT2, w_srcl, w_srct, w_cut2, w_cut1, w_cut1', w_cut0, w_ty1, w_ty2, w_ty3, w_ty4, w_ty5, w_ty6, w_ty7, w_ty8, w_ty9, w_ty10, w_ty11, w_ty12, w_ty13, w_ty14, w_ty15, w_ty16, w_ty17, w_ty18, w_ty19, w_ty20, w_ty21, w_mapc, w_mapn, w_appc, w_appn, w_repc, w_repn, w_start, w_lenc, w_ifT, w_ifF, w_ifFF, w_ifTF, w_nT, w_nF, w_anyT, w_anyF, w_d22, ifSome_some, ifLst_lst, ifTup_tup, ifInt_int, lget, lset, lsets, Nat.reduceSub, Nat.reduceAdd, List.length_nil, ↓reduceIte]
    by_cases hc : c = 0
    · rw [decide_eq_true hc]
      dsimp only [qS1, qS2, qS3, qS4, qS5, qS7, qS9, qS10, qS11, qS12, qS13, qS14, qE1, qE2, qE5, qE7, qE8, qE9, qE10, qE11, qE12, qE13, qE14, qE15, qE16, qE17, qE18, qE19, qE20, qE21, qE22, qEs1, qEs2, wpAll, qO1, qO2, qI1, qI2, qI3, w_add, w_addl, w_sub, w_mul, w_mull, w_fdiv, w_mod, w_pow, w_lt, w_le, w_gt, w_ge, w_eq, w_ne, w_isn, w_ist, w_isi, w_isl, w_abs, w_lent, w_lenl, w_intb, w_list, w_tuple, w_min, w_idxt0, w_idxt1, w_idxu0, w_idxu1, w_idxu2, w_idxl, w_slcl, w_tb, w_ti, w_tn, w_tt, w_tl, w_itt, w_itl, w_bindT1, w_bindT2, w_srcl, w_srct, w_cut2, w_cut1, w_cut1', w_cut0, w_ty1, w_ty2, w_ty3, w_ty4, w_ty5, w_ty6, w_ty7, w_ty8, w_ty9, w_ty10, w_ty11, w_ty12, w_ty13, w_ty14, w_ty15, w_ty16, w_ty17, w_ty18, w_ty19, w_ty20, w_ty21, w_mapc, w_mapn, w_appc, w_appn, w_repc, w_repn, w_start, w_lenc, w_ifT, w_ifF, w_ifFF, w_ifTF, w_nT, w_nF, w_anyT, w_anyF, w_d22, ifSome_some, ifLst_lst, ifTup_tup, ifInt_int, lget, lset, lsets, Nat.reduceSub, Nat.reduceAdd, List.length_nil, ↓reduceIte]
      refine ⟨Nat.le_refl _, ifSome.mk hy ⟨zs.map V.int, c, by rw [List.map_append]; rfl, ?_⟩⟩
      rw [setApp]
      refine ⟨⟨zs, k + 1, rfl, rfl, ?_⟩, ?_⟩
      · rw [hr, hc, List.append_assoc]; rfl
      · unfold lenAt
        rw [getApp, hy]
        show (zs.map V.int).length < ((zs ++ [c]).map V.int).length
        rw [hl, List.length_map]; exact Nat.lt_succ_self _
    · rw [decide_eq_false hc]
      dsimp only [qS1, qS2, qS3, qS4, qS5, qS7, qS9, qS10, qS11, qS12, qS13, qS14, qE1, qE2, qE5, qE7, qE8, qE9, qE10, qE11, qE12, qE13, qE14, qE15, qE16, qE17, qE18, qE19, qE20, qE21, qE22, qEs1, qEs2, wpAll, qO1, qO2, qI1, qI2, qI3, w_add, w_addl, w_sub, w_mul, w_mull, w_fdiv, w_mod, w_pow, w_lt, w_le, w_gt, w_ge, w_eq, w_ne, w_isn, w_ist, w_isi, w_isl, w_abs, w_lent, w_lenl, w_intb, w_list, w_tuple, w_min, w_idxt0, w_idxt1, w_idxu0, w_idxu1, w_idxu2, w_idxl, w_slcl, w_tb, w_ti, w_tn, w_tt, w_tl, w_itt, w_itl, w_bindT1, w_bindT2, w_srcl, w_srct, w_cut2, w_cut1, w_cut1', w_cut0, w_ty1, w_ty2, w_ty3, w_ty4, w_ty5, w_ty6, w_ty7, w_ty8, w_ty9, w_ty10, w_ty11, w_ty12, w_ty13, w_ty14, w_ty15, w_ty16, w_ty17, w_ty18, w_ty19, w_ty20, w_ty21, w_mapc, w_mapn, w_appc, w_appn, w_repc, w_repn, w_start, w_lenc, w_ifT, w_ifF, w_ifFF, w_ifTF, w_nT, w_nF, w_anyT, w_anyF, w_d22, ifSome_some, ifLst_lst, ifTup_tup, ifInt_int, lget, lset, lsets, Nat.reduceSub, Nat.reduceAdd, List.length_nil, ↓reduceIte]
      exact hQ _ k hr (.inr ⟨c, by simp, hc⟩)

noncomputable def lWl : PS := (.seq (.setidx 4 (.bin .add (.var 5) (.var 6)) (.bin .sub (.idx (.var 4) (.bin .add (.var 5) (.var 6))) (.bin .mul (.var 2) (.idx (.var 1) (.var 6)))))
 .skip)
noncomputable def bWl : PS := (.seq (.assign 4 (.comp (.bin .mul (.var 0) (.var 1)) 1 [3] (.seq (.var 0)) .no))
 (.seq (.assign 5 (.bin .sub (.bi .len (.cons (.var 0) .nil)) (.bi .len (.cons (.var 1) .nil))))
 (.seq (.forr 6 (.rng (.cons (.bi .len (.cons (.var 1) .nil)) .nil)) lWl)
 (.seq (.ret (.var 4)) .skip))))
theorem s_wl (e : P[f]? = some ⟨4, 7, bWl⟩) {a : Nat} {w : V} {l0 l1 o : List Int} {m s : Int} (ha : H[a]? = some ((l0 ++ l1).map .int)) (hw : items H w = some (o.map .int)) (hl : l1.length = o.length) (hn : (l0 ++ l1).length ≤ 900)
    (h1 : ∀ x ∈ l0 ++ l1, IntMulOk x s) (h2 : ∀ y ∈ o, IntMulOk m y) (hQ : Q (.lst H.length) (H ++ [(wlo s m l0 l1 o).map .int])) : callN sub P (n + 1) f [.lst a, w, .int m, .int s] H Q X := by
  have hn' : l0.length + l1.length ≤ 900 := by rw [List.length_append] at hn; exact hn
  refine callN_mk e rfl ?_
  dsimp only [bWl, qS1, qS2, qS3, qS4, qS5, qS7, qS9, qS10, qS11, qS12, qS13, qS14, qE1, qE2, qE5, qE7, qE8, qE9, qE10, qE11, qE12, qE13, qE14, qE15, qE16, qE17, qE18, qE19, qE20, qE21, qE22, qEs1, qEs2, wpAll, qO1, qO2, qI1, qI2, qI3, w_add, w_addl, w_sub, w_mul, w_mull, w_fdiv, w_mod, w_pow, w_lt, w_le, w_gt, w_ge, w_eq, w_ne, w_isn, w_ist, w_isi, w_isl, w_abs, w_lent, w_lenl, w_intb, w_list, w_tuple, w_min, w_idxt0, w_idxt1, w_idxu0, w_idxu1, w_idxu2, w_idxl, w_slcl, w_tb, w_ti, w_tn, w_tt, w_tl, w_itt, w_itl, w_bindT1, w_bindT2, w_srcl, w_srct, w_cut2, w_cut1, w_cut1', w_cut0, w_ty1, w_ty2, w_ty3, w_ty4, w_ty5, w_ty6, w_ty7, w_ty8, w_ty9, w_ty10, w_ty11, w_ty12, w_ty13, w_ty14, w_ty15, w_ty16, w_ty17, w_ty18, w_ty19, w_ty20, w_ty21, w_mapc, w_mapn, w_appc, w_appn, w_repc, w_repn, w_start, w_lenc, w_ifT, w_ifF, w_ifFF, w_ifTF, w_nT, w_nF, w_anyT, w_anyF, w_d22, ifSome_some, ifLst_lst, ifTup_tup, ifInt_int, lget, lset, lsets, Nat.reduceSub, Nat.reduceAdd, List.length_nil, ↓reduceIte]
  refine ifSome.mk ha ⟨by rw [List.length_map]; unfold lim; (clear e ha hw hl h1 h2 hQ hn'; omega), ?_⟩
  refine compGo_map' (h := V.int) (g := fun x => V.int (x * s)) (fun x hx k hk => ⟨h1 x hx, hk⟩) ?_
  have ha' : ∀ l : List V, (H ++ [l])[a]? = some ((l0 ++ l1).map .int) := fun l => getKeep (preApp _ _) ha
  have hw' : ∀ l : List V, items (H ++ [l]) w = some (o.map .int) := fun l => itemsKeep (preApp _ _) hw
  refine ifSome.mk (ha' _) (ifSome.mk (hw' _) ?_)
  refine ifSome.mk (hw' _) ?_
  rw [List.length_map, List.length_map, List.length_append]
  have ed : ((l0.length + l1.length : Nat) : Int) - ((o.length : Nat) : Int) = ((l0.length : Nat) : Int) := by (clear e ha hw hn h1 h2 hQ hn' ha' hw'; omega)
  rw [ed]
  refine rng1 (small_nat (by (clear e ha hw hn h1 h2 hQ ha' hw' ed; omega))) ?_
  rw [Int.toNat_natCast]
  refine forGo_rule (fun rest ρ H' => ∃ d1 t1 d2 t2 x, l1 = d1 ++ t1 ∧ o = d2 ++ t2 ∧ d1.length = d2.length ∧ rest = (List.range' d2.length t2.length).map (fun (i : Nat) => V.int (i : Int)) ∧
    ρ = [some (.lst a), some w, some (.int m), some (.int s), some (.lst H.length), some (.int (l0.length : Int)), x] ∧ H' = H ++ [((l0.map fun x => x * s) ++ (wlz s m d1 d2 ++ (t1.map fun x => x * s))).map .int]) ?_ ?_ _ _ _ ⟨[], l1, [], o, _, rfl, rfl, rfl, rfl, rfl, ?_⟩
  · rintro x rest ρ H' k ⟨d1, t1, d2, t2, x0, e1, e2, hd, hx, rfl, rfl⟩ hk
    cases t2 with
    | nil => cases hx
    | cons y t2 =>
      cases t1 with
      | nil => exfalso; rw [e1, e2] at hl; simp at hl; (clear e ha hw hn h1 h2 hQ hn' ha' hw' ed hk e2 hx e1; omega)
      | cons z t1 =>
        rw [range'_len] at hx
        cases hx
        have hwl : (wlz s m d1 d2).length = d2.length := wlz_len hd
        have hy : (o.map V.int)[d2.length]? = some (.int y) := by rw [e2, List.map_append, List.map_cons]; have := getApp (d2.map V.int) (V.int y) (t2.map V.int); rwa [List.length_map] at this
        have hdl : d2.length < (o.map V.int).length := by rw [e2]; simp
        have el : ((l0.map fun x => x * s) ++ (wlz s m d1 d2 ++ ((z :: t1).map fun x => x * s))).map V.int = (((l0.map fun x => x * s) ++ wlz s m d1 d2).map V.int) ++ V.int (z * s) :: (t1.map fun x => x * s).map V.int := by simp
        have ep : (((l0.map fun x => x * s) ++ wlz s m d1 d2).map V.int).length = l0.length + d2.length := by rw [List.length_map, List.length_append, List.length_map, hwl]
        have ei : ((l0.length : Nat) : Int) + ((d2.length : Nat) : Int) = ((l0.length + d2.length : Nat) : Int) := by (clear e ha hw hl hn h1 h2 hQ hn' ha' hw' ed hd e2 e1 hk hwl hy hdl el ep; omega)
        rw [el]
        dsimp only [lWl, qS1, qS2, qS3, qS4, qS5, qS7, qS9, qS10, qS11, qS12, qS13, qS14, qE1, qE2, qE5, qE7, qE8, qE9, qE10, qE11, qE12, qE13, qE14, qE15, qE16, qE17, qE18, qE19, qE20, qE21, qE22, qEs1, qEs2, wpAll, qO1, qO2, qI1, qI2, qI3, w_add, w_addl, w_sub, w_mul, w_mull, w_fdiv, w_mod, w_pow, w_lt, w_le, w_gt, w_ge, w_eq, w_ne, w_isn, w_ist, w_isi, w_isl, w_abs, w_lent, w_lenl, w_intb, w_list, w_tuple, w_min, w_idxt0, w_idxt1, w_idxu0, w_idxu1, w_idxu2, w_idxl, w_slcl, w_tb, w_ti, w_tn, w_tt, w_tl, w_itt, w_itl, w_bindT1, w_bindT2, w_srcl, w_srct, w_cut2, w_cut1, w_cut1', w_cut0, w_ty1, w_ty2, w_ty3, w_ty4, w_ty5, w_ty6, w_ty7, w_ty8, w_ty9, w_ty10, w_ty11, w_ty12, w_ty13, w_ty14, w_ty15, w_ty16, w_ty17, w_ty18, w_ty19, w_ty20, w_ty21, w_mapc, w_mapn, w_appc, w_appn, w_repc, w_repn, w_start, w_lenc, w_ifT, w_ifF, w_ifFF, w_ifTF, w_nT, w_nF, w_anyT, w_anyF, w_d22, ifSome_some, ifLst_lst, ifTup_tup, ifInt_int, lget, lset, lsets, Nat.reduceSub, Nat.reduceAdd, List.length_nil, ↓reduceIte, w_idxg]
        rw [ei]
        refine ifSome.mk (getApp _ _ _) (ifSome.mk (place_nat (k := l0.length + d2.length) (by rw [List.length_append, ep]; simp)) (ifSome.mk (v := .int (z * s)) (by rw [← ep]; exact getApp _ _ _) ?_))
        refine ifSome.mk (itemsKeep (preApp _ _) hw) (ifSome.mk (place_nat hdl) (ifSome.mk hy ⟨h2 y (by rw [e2]; simp), ?_⟩))
        refine ⟨⟨Nat.le_refl _, Option.some_ne_none _⟩, ?_⟩
        refine ifSome.mk (getApp _ _ _) (ifSome.mk (place_nat (k := l0.length + d2.length) (by rw [List.length_append, ep]; simp)) ?_)
        rw [setApp, ← ep, setApp]
        refine hk _ _ ⟨d1 ++ [z], t1, d2 ++ [y], t2, _, by rw [e1, List.append_assoc]; rfl, by rw [e2, List.append_assoc]; rfl, by simp [hd], by rw [List.length_append]; rfl, rfl, ?_⟩
        have ez : wlz s m (d1 ++ [z]) (d2 ++ [y]) = wlz s m d1 d2 ++ [z * s - m * y] := by unfold wlz; rw [List.zipWith_append hd]; rfl
        rw [ez]; simp
  · rintro ρ H' ⟨d1, t1, d2, t2, x0, e1, e2, hd, hx, rfl, rfl⟩
    cases t2 with
    | cons y t2 => rw [range'_len] at hx; cases hx
    | nil =>
      have ht : t1 = [] := by
        rw [e1, e2] at hl
        exact List.eq_nil_of_length_eq_zero (by simp at hl; (clear e ha hw hn h1 h2 hQ hn' ha' hw' ed e1 e2 hx; omega))
      subst ht
      rw [List.append_nil] at e1 e2
      subst e1 e2
      dsimp only [qS1, qS2, qS3, qS4, qS5, qS7, qS9, qS10, qS11, qS12, qS13, qS14, qE1, qE2, qE5, qE7, qE8, qE9, qE10, qE11, qE12, qE13, qE14, qE15, qE16, qE17, qE18, qE19, qE20, qE21, qE22, qEs1, qEs2, wpAll, qO1, qO2, qI1, qI2, qI3, w_add, w_addl, w_sub, w_mul, w_mull, w_fdiv, w_mod, w_pow, w_lt, w_le, w_gt, w_ge, w_eq, w_ne, w_isn, w_ist, w_isi, w_isl, w_abs, w_lent, w_lenl, w_intb, w_list, w_tuple, w_min, w_idxt0, w_idxt1, w_idxu0, w_idxu1, w_idxu2, w_idxl, w_slcl, w_tb, w_ti, w_tn, w_tt, w_tl, w_itt, w_itl, w_bindT1, w_bindT2, w_srcl, w_srct, w_cut2, w_cut1, w_cut1', w_cut0, w_ty1, w_ty2, w_ty3, w_ty4, w_ty5, w_ty6, w_ty7, w_ty8, w_ty9, w_ty10, w_ty11, w_ty12, w_ty13, w_ty14, w_ty15, w_ty16, w_ty17, w_ty18, w_ty19, w_ty20, w_ty21, w_mapc, w_mapn, w_appc, w_appn, w_repc, w_repn, w_start, w_lenc, w_ifT, w_ifF, w_ifFF, w_ifTF, w_nT, w_nF, w_anyT, w_anyF, w_d22, ifSome_some, ifLst_lst, ifTup_tup, ifInt_int, lget, lset, lsets, Nat.reduceSub, Nat.reduceAdd, List.length_nil, ↓reduceIte]
      rw [List.map_nil, List.append_nil]
      exact hQ
  · show _ = H ++ [((l0.map fun x => x * s) ++ ([] ++ (l1.map fun x => x * s))).map V.int]
    rw [List.nil_append, ← List.map_append, List.map_map]; rfl
end
end Mine

set_option autoImplicit false
set_option linter.unusedVariables false
set_option linter.unusedSimpArgs false
set_option maxRecDepth 100000
namespace Mine
open PySem
noncomputable def ngQ : PE := .neg (.var 1)
theorem truth_items {H : Hp} {x : V} {xs : List V} (h : items H x = some xs) : truthV H x = some (!xs.isEmpty) := by
  cases x with
  | tup ys => cases h; rfl
  | lst m => show (H[m]?).map _ = _; rw [show H[m]? = some xs from h]; rfl
  | _ => cases h
theorem split_at {xs : List Int} {n : Nat} (h : n ≤ xs.length) : ∃ l0 l1, xs = l0 ++ l1 ∧ l1.length = n ∧ l0.length = xs.length - n :=
  ⟨xs.take (xs.length - n), xs.drop (xs.length - n), (List.take_append_drop _ _).symm, by rw [List.length_drop]; omega, by rw [List.length_take]; omega⟩
theorem last_app {l0 l1 : List Int} {a : Int} (h1 : l1 ≠ []) (h : (l0 ++ l1).getLast? = some a) : l1.getLast? = some a := by
  rw [List.getLast?_append] at h
  cases e : l1.getLast? with
  | none => exact absurd (List.getLast?_eq_none_iff.mp e) h1
  | some b => rw [e] at h; exact h
theorem short_of {D zs : List Int} {k : Nat} (h : D = zs ++ zeros k) (hz : zs = [] ∨ Tr zs) (hl : D.getLast? = some 0) : zs.length < D.length := by
  cases k with
  | zero =>
    exfalso
    rw [show zeros 0 = [] from rfl, List.append_nil] at h
    subst h
    rcases hz with rfl | ⟨l, e, h0⟩
    · cases hl
    · rw [hl] at e; cases e; exact h0 rfl
  | succ k => rw [h]; simp [zeros]
/-! small sums -/
theorem su1 {b y g m n : Nat} (h : b ≤ y) (h1 : m + 1 = g + b) (h2 : n + 1 = g + y) : ((m : Nat) : Int) ≤ ((n : Nat) : Int) := by omega
theorem su2 {b y g m n : Nat} (h : b ≤ y) (h1 : m + 1 = g + b) (h2 : n + 1 = g + y) : m ≤ n := by omega
theorem su3 {y g n : Nat} (h0 : 1 ≤ y) (h1 : 1 ≤ g) (h2 : n + 1 = g + y) : 1 ≤ n := by omega
theorem su4 {i y a b : Nat} (h : i + y ≤ a) (h1 : b ≤ y) : i ≤ a - b := by omega
theorem su5 {g K i d n p : Nat} (hi : i * (K + 1) ≤ d * (K + 1)) (hK : K + (d + 2) * (K + 1) + 2 * (g + 100) ≤ 130000000) (hn : n ≤ 100) : (g + (K + i * (K + 1)) + n) + (g + K + n) ≤ 134217728 := by
  have : (d + 2) * (K + 1) = d * (K + 1) + 2 * (K + 1) := by rw [Nat.add_mul]
  omega
theorem su6 {g y n a i : Nat} (hg : g ≤ 100) (h : n + 1 = g + y) (h1 : i + y ≤ a) (ha : a ≤ 600) : n ≤ 900 := by omega
theorem su7 {K i : Nat} : K + i * (K + 1) + K + 1 ≤ K + (i + 1) * (K + 1) := by rw [Nat.add_mul]; omega
theorem su8 {k l m n g b y : Nat} (h1 : k = n - m) (h2 : l = y - b) (h3 : m + 1 = g + b) (h4 : n + 1 = g + y) (hb : b ≤ y) : k = l := by omega
theorem su9 {i y a z : Nat} (h : i + y ≤ a) (h1 : z < y) : i + 1 + z ≤ a := by omega
theorem su10 {i y a b : Nat} (h : i + y ≤ a) (h1 : b ≤ y) : i + 1 ≤ a - b + 1 := by omega
theorem su11 {m n g b y : Nat} (h1 : m + 1 = g + b) (h2 : n + 1 = g + y) (h : ¬ b ≤ y) : ¬ ((m : Nat) : Int) ≤ ((n : Nat) : Int) := by omega
theorem su12 {m g b : Nat} (h1 : m + 1 = g + b) (h : 1 ≤ b) (h2 : 1 ≤ g) : ¬ ((m : Nat) : Int) ≤ ((0 : Nat) : Int) := by omega
theorem su13 {z d n g y a i : Nat} (h : z < d) (h1 : d = n) (h2 : n + 1 = g + y) (hg : g ≤ 100) (hi : i + y ≤ a) (ha : a ≤ 600) : z ≤ 1000 := by omega
/-- what rest_of gives back -/
structure Rst (A B r : List Int) : Prop where
  tr : r = [] ∨ Tr r
  len : r.length < B.length
  eq : ∃ (c d : Int) (q : Int → Int), c ≠ 0 ∧ d ≠ 0 ∧ PF q ∧ ∀ t, c * ev A t = q t * ev B t + d * ev r t
theorem trim_sm {K k : Nat} {D zs : List Int} (h : D = zs ++ zeros k) (hD : AllSm K D) : AllSm K zs := fun x hx => hD x (by rw [h]; exact List.mem_append_left _ hx)
/-! a common factor G ahead of everything (the sizes are those of what stands behind it) -/
noncomputable def mulT (G xs : List Int) : List Int := match xs with | [] => [] | _ :: _ => mulP G xs
theorem mulT_tr {G xs : List Int} (h : Tr xs) : mulT G xs = mulP G xs := by
  cases xs with
  | nil => exact absurd rfl h.ne
  | cons _ _ => rfl
theorem addP_sm {a : Nat} : ∀ {xs ys : List Int}, AllSm a xs → AllSm a ys → AllSm (a + 1) (addP xs ys)
  | [], ys, _, h => h.mono (Nat.le_succ _)
  | x :: xs, [], h, _ => h.mono (Nat.le_succ _)
  | x :: xs, y :: ys, h1, h2 => .cons (h1.hd.add h2.hd) (addP_sm h1.tl h2.tl)
theorem mulP_sm {a b : Nat} : ∀ {xs ys : List Int}, AllSm a xs → AllSm b ys → AllSm (a + b + xs.length) (mulP xs ys)
  | [], _, _, _ => .nil
  | x :: r, ys, h1, h2 => by
    have i1 := AllSm.smul h1.hd h2
    have i2 := mulP_sm h1.tl h2
    exact (addP_sm (i1.mono (Nat.le_add_right _ r.length)) (.cons .zero i2)).mono (by rw [List.length_cons]; (clear h1 h2 i1 i2; omega))
theorem trim_pre : ∀ xs : List Int, ∃ (ys : List Int) (k : Nat), xs = ys ++ zeros k ∧ (ys = [] ∨ Tr ys)
  | [] => ⟨[], 0, rfl, .inl rfl⟩
  | x :: r => by
    obtain ⟨ys, k, h, t⟩ := trim_pre r
    rcases t with rfl | t
    · by_cases hx : x = 0
      · exact ⟨[], k + 1, by rw [h, hx]; rfl, .inl rfl⟩
      · exact ⟨[x], k, by rw [h]; rfl, .inr (.one hx)⟩
    · exact ⟨x :: ys, k, by rw [h]; rfl, .inr t.cons⟩
theorem tr_of_ev {xs ys : List Int} (hx : xs = [] ∨ Tr xs) (hy : Tr ys) {c : Int} (e : ∀ t, ev xs t = c * ev ys t) (hc : c ≠ 0) : Tr xs := by
  rcases hx with rfl | h
  · obtain ⟨t, ht⟩ := hy.nz
    exact absurd (e t).symm (Int.mul_ne_zero hc ht)
  · exact h
/-- the factor in common -/
structure Fct (G : List Int) (l : Int) (g : Nat) : Prop where
  last : G.getLast? = some l
  pos : 0 < l
  one : gAll G 0 = 1
  gs : ∀ xs, gAll xs 0 = 1 → gAll (mulP G xs) 0 = 1
  sm : AllSm g G
  len : G.length ≤ 100
theorem Fct.tr {G : List Int} {l : Int} {g : Nat} (h : Fct G l g) : Tr G := ⟨l, h.last, by have := h.pos; (clear h; omega)⟩
theorem Fct.red {G zs ws : List Int} {lG lz lw m : Int} {g : Nat} (h : Fct G lG g) (hz : zs.getLast? = some lz) (z0 : lz ≠ 0) (hw : ws.getLast? = some lw) (w0 : lw ≠ 0) (hm : m ≠ 0) (e : ∀ t, ev zs t = m * (ev G t * ev ws t)) : redI zs lz = mulP G (redI ws lw) := by
  have z1 := List.mem_of_getLast? hz
  have w1 := List.mem_of_getLast? hw
  refine prim_eq (redI_gcd z1 z0) (h.gs _ (redI_gcd w1 w0)) (redI_getLast hz) (mulP_last h.last (redI_getLast hw)) (redI_last z1 z0) (Int.mul_pos h.pos (redI_last w1 w0)) (gOf_ne z1 z0) (Int.mul_ne_zero hm (gOf_ne w1 w0)) fun t => ?_
  rw [← ev_red, e, ev_mulP, ev_red (r := ws) (l := lw) t]; grind
section
variable {sub : Nat → Nat → Bool} {P : List Fn} {f n dv tr re wl ro : Nat} {H : Hp} {Q : V → Hp → Prop} {X : Nat → Hp → Prop}
theorem ng_ok {Φ : Call} (g : Int) (ρ : Loc) (H' : Hp) (Z : V → Hp → Prop) (hg : lget ρ 1 = some (.int g)) (hz : Z (.int (-g)) H') : wpE sub Φ ngQ ρ H' Z := by
  dsimp only [ngQ, wpE]
  exact ifSome.mk hg hz
noncomputable def cRest : PE := (.cmp .ge (.bi .len (.cons (.var 2) .nil)) (.bi .len (.cons (.var 1) .nil)))
noncomputable def lRest (tr wl re : Nat) : PS := (.seq (.assign 2 (.call tr (.cons (.call wl (.cons (.var 2) (.cons (.var 1) (.cons (.idx (.var 2) (.neg (.cint 1))) (.cons (.idx (.var 1) (.neg (.cint 1))) .nil))))) .nil)))
 (.seq (.ite (.var 2) (.seq (.assign 2 (.call re (.cons (.var 2) .nil)))
 .skip) .skip)
 .skip))
noncomputable def bRest (tr wl re : Nat) : PS := (.seq (.assign 2 (.bi .list (.cons (.var 0) .nil)))
 (.seq (.whl cRest (lRest tr wl re))
 (.seq (.ret (.var 2)) .skip)))
noncomputable def lenV (H : Hp) (o : Option V) : Nat := match o with | some x => (match items H x with | some xs => xs.length | none => 0) | none => 0
theorem lenV_eq {H : Hp} {x : V} {xs : List V} (h : items H x = some xs) : lenV H (some x) = xs.length := by
  show (match items H x with | some xs => xs.length | none => 0) = _
  rw [h]
theorem s_rest (e : P[f]? = some ⟨2, 3, bRest tr wl re⟩) (et : P[tr]? = some ⟨1, 2, bTrim⟩) (ew : P[wl]? = some ⟨4, 7, bWl⟩) (er : P[re]? = some ⟨1, 3, bRed dv ngQ⟩) (ed : P[dv]? = some ⟨2, 3, bPDiv⟩)
    {v w : V} {G A B : List Int} {lG lb : Int} {g K : Nat} (hG : Fct G lG g) (hv : items H v = some ((mulT G A).map .int)) (hw : items H w = some ((mulP G B).map .int)) (tA : A = [] ∨ Tr A) (hlb : B.getLast? = some lb) (h0 : lb ≠ 0) (hA : A.length ≤ 600) (sA : AllSm K A) (sB : AllSm K B)
    (hK : K + (A.length - B.length + 2) * (K + 1) + 2 * (g + 100) ≤ 130000000)
    (hQ : ∀ H' k r, H <+: H' → H'[k]? = some ((mulT G r).map .int) → Rst A B r → AllSm (K + (A.length - B.length + 1) * (K + 1)) r → Q (.lst k) H') : callN sub P (n + 3) f [v, w] H Q X := by
  have hBne : B ≠ [] := by intro h; rw [h] at hlb; cases hlb
  have hB1 : 1 ≤ B.length := List.length_pos_iff.mpr hBne
  have hG1 : 1 ≤ G.length := List.length_pos_iff.mpr hG.tr.ne
  have tB : Tr B := ⟨lb, hlb, h0⟩
  have hBl := mulP_len hG.tr.ne hBne
  have hBlast := mulP_last hG.last hlb
  have sG := hG.sm
  have nG := hG.len
  have lG0 : lG ≠ 0 := by have := hG.pos; (clear e et ew er ed hG hv hw tA hlb h0 hA sA sB hK hQ hBne hB1 hG1 tB hBl hBlast sG nG; omega)
  have sMB : AllSm (g + K + G.length) (mulP G B) := mulP_sm sG sB
  refine callN_mk e rfl ?_
  dsimp only [bRest, qS1, qS2, qS3, qS4, qS5, qS7, qS9, qS10, qS11, qS12, qS13, qS14, qE1, qE2, qE5, qE7, qE8, qE9, qE10, qE11, qE12, qE13, qE14, qE15, qE16, qE17, qE18, qE19, qE20, qE21, qE22, qEs1, qEs2, wpAll, qO1, qO2, qI1, qI2, qI3, w_add, w_addl, w_sub, w_mul, w_mull, w_fdiv, w_mod, w_pow, w_lt, w_le, w_gt, w_ge, w_eq, w_ne, w_isn, w_ist, w_isi, w_isl, w_abs, w_lent, w_lenl, w_intb, w_list, w_tuple, w_min, w_idxt0, w_idxt1, w_idxu0, w_idxu1, w_idxu2, w_idxl, w_slcl, w_tb, w_ti, w_tn, w_tt, w_tl, w_itt, w_itl, w_bindT1, w_bindT2, w_srcl, w_srct, w_cut2, w_cut1, w_cut1', w_cut0, w_ty1, w_ty2, w_ty3, w_ty4, w_ty5, w_ty6, w_ty7, w_ty8, w_ty9, w_ty10, w_ty11, w_ty12, w_ty13, w_ty14, w_ty15, w_ty16, w_ty17, w_ty18, w_ty19, w_ty20, w_ty21, w_mapc, w_mapn, w_appc, w_appn, w_repc, w_repn, w_start, w_lenc, w_ifT, w_ifF, w_ifFF, w_ifTF, w_nT, w_nF, w_anyT, w_anyF, w_d22, ifSome_some, ifLst_lst, ifTup_tup, ifInt_int, lget, lset, lsets, Nat.reduceSub, Nat.reduceAdd, List.length_nil, ↓reduceIte]
  refine ifSome.mk hv ?_
  refine ⟨fun ρ H' => ∃ (a : Nat) (ys : List Int) (i : Nat), ρ = [some v, some w, some (.lst a)] ∧ H <+: H' ∧ H'[a]? = some ((mulT G ys).map .int) ∧ (ys = [] ∨ Tr ys) ∧ i + ys.length ≤ A.length ∧ i ≤ A.length - B.length + 1 ∧ AllSm (K + i * (K + 1)) ys ∧
    ∃ (c d : Int) (q : Int → Int), c ≠ 0 ∧ d ≠ 0 ∧ PF q ∧ ∀ t, c * ev A t = q t * ev B t + d * ev ys t, fun ρ H' => lenV H' (lget ρ 2),
    ⟨H.length, A, 0, rfl, preApp _ _, getApp _ _ _, tA, Nat.le_of_eq (Nat.zero_add _), Nat.zero_le _, sA.mono (Nat.le_add_right _ _), 1, 1, fun _ => 0, by decide, by decide, .const 0, fun t => by dsimp only; (clear e et ew er ed hG hv hw tA hlb h0 hA sA sB hK hQ hBne hB1 hG1 tB hBl hBlast sG nG lG0 sMB; omega)⟩, ?_⟩
  rintro ρ H' ⟨a, ys, i, rfl, hp, ha, ty, hi, hi2, sy, c, d, q, hc, hd, pq, heq⟩
  dsimp only [cRest, qS1, qS2, qS3, qS4, qS5, qS7, qS9, qS10, qS11, qS12, qS13, qS14, qE1, qE2, qE5, qE7, qE8, qE9, qE10, qE11, qE12, qE13, qE14, qE15, qE16, qE17, qE18, qE19, qE20, qE21, qE22, qEs1, qEs2, wpAll, qO1, qO2, qI1, qI2, qI3, w_add, w_addl, w_sub, w_mul, w_mull, w_fdiv, w_mod, w_pow, w_lt, w_le, w_gt, w_ge, w_eq, w_ne, w_isn, w_ist, w_isi, w_isl, w_abs, w_lent, w_lenl, w_intb, w_list, w_tuple, w_min, w_idxt0, w_idxt1, w_idxu0, w_idxu1, w_idxu2, w_idxl, w_slcl, w_tb, w_ti, w_tn, w_tt, w_tl, w_itt, w_itl, w_bindT1, w_bindT2, w_srcl, w_srct, w_cut2, w_cut1, w_cut1', w_cut0, w_ty1, w_ty2, w_ty3, w_ty4, w_ty5, w_ty6, w_ty7, w_ty8, w_ty9, w_ty10, w_ty11, w_ty12, w_ty13, w_ty14, w_ty15, w_ty16, w_ty17, w_ty18, w_ty19, w_ty20, w_ty21, w_mapc, w_mapn, w_appc, w_appn, w_repc, w_repn, w_start, w_lenc, w_ifT, w_ifF, w_ifFF, w_ifTF, w_nT, w_nF, w_anyT, w_anyF, w_d22, ifSome_some, ifLst_lst, ifTup_tup, ifInt_int, lget, lset, lsets, Nat.reduceSub, Nat.reduceAdd, List.length_nil, ↓reduceIte, w_leng]
  refine ifSome.mk ha (ifSome.mk (itemsKeep hp hw) ?_)
  rw [List.length_map, List.length_map]
  have lens : ys = [] ∨ (mulT G ys).length + 1 = G.length + ys.length := by
    rcases ty with h | h
    · exact .inl h
    · exact .inr (by rw [mulT_tr h]; exact mulP_len hG.tr.ne h.ne)
  by_cases hge' : B.length ≤ ys.length
  · have hyn : ys ≠ [] := fun h => by rw [h, List.length_nil] at hge'; (clear e et ew er ed hG hv hw tA hlb h0 hA sA sB hK hQ hBne hG1 tB hBlast sG nG lG0 sMB hp ha ty hi hi2 sy hc hd pq heq lens h; omega)
    have hly := lens.resolve_left hyn
    rw [decide_eq_true (su1 hge' hBl hly)]
    have ty' : Tr ys := ty.resolve_left hyn
    rw [mulT_tr ty'] at ha hly
    obtain ⟨l, hl, hl0⟩ := id ty'
    obtain ⟨k0, k1, hsp, h1, h2⟩ := split_at (xs := mulP G ys) (n := (mulP G B).length) (su2 hge' hBl hly)
    obtain ⟨l0, l1, rfl, g1, g2⟩ := split_at hge'
    have hl2 := mulP_last hG.last hl
    have hyl : 1 ≤ ((mulP G (l0 ++ l1)).map V.int).length := by rw [List.length_map]; exact su3 (Nat.le_trans hB1 hge') hG1 hly
    have sl : Sm (K + i * (K + 1)) l := sy l (List.mem_of_getLast? hl)
    have slb : Sm K lb := sB lb (List.mem_of_getLast? hlb)
    have sMy : AllSm (g + (K + i * (K + 1)) + G.length) (mulP G (l0 ++ l1)) := mulP_sm sG sy
    have hib : i ≤ A.length - B.length := su4 hi hge'
    have hmul : i * (K + 1) ≤ (A.length - B.length) * (K + 1) := Nat.mul_le_mul_right _ hib
    have hbits : (g + (K + i * (K + 1)) + G.length) + (g + K + G.length) ≤ 134217728 := su5 (p := 0) hmul hK nG
    have hMB1 : 1 ≤ (mulP G B).length := su3 hB1 hG1 hBl
    have hk1 : k1 ≠ [] := fun h => Nat.lt_irrefl 0 (Nat.lt_of_lt_of_le hMB1 (Nat.le_of_eq (by rw [← h1, h]; rfl)))
    dsimp only [lRest, qS1, qS2, qS3, qS4, qS5, qS7, qS9, qS10, qS11, qS12, qS13, qS14, qE1, qE2, qE5, qE7, qE8, qE9, qE10, qE11, qE12, qE13, qE14, qE15, qE16, qE17, qE18, qE19, qE20, qE21, qE22, qEs1, qEs2, wpAll, qO1, qO2, qI1, qI2, qI3, w_add, w_addl, w_sub, w_mul, w_mull, w_fdiv, w_mod, w_pow, w_lt, w_le, w_gt, w_ge, w_eq, w_ne, w_isn, w_ist, w_isi, w_isl, w_abs, w_lent, w_lenl, w_intb, w_list, w_tuple, w_min, w_idxt0, w_idxt1, w_idxu0, w_idxu1, w_idxu2, w_idxl, w_slcl, w_tb, w_ti, w_tn, w_tt, w_tl, w_itt, w_itl, w_bindT1, w_bindT2, w_srcl, w_srct, w_cut2, w_cut1, w_cut1', w_cut0, w_ty1, w_ty2, w_ty3, w_ty4, w_ty5, w_ty6, w_ty7, w_ty8, w_ty9, w_ty10, w_ty11, w_ty12, w_ty13, w_ty14, w_ty15, w_ty16, w_ty17, w_ty18, w_ty19, w_ty20, w_ty21, w_mapc, w_mapn, w_appc, w_appn, w_repc, w_repn, w_start, w_lenc, w_ifT, w_ifF, w_ifFF, w_ifTF, w_nT, w_nF, w_anyT, w_anyF, w_d22, ifSome_some, ifLst_lst, ifTup_tup, ifInt_int, lget, lset, lsets, Nat.reduceSub, Nat.reduceAdd, List.length_nil, ↓reduceIte, w_idxg]
    refine ifSome.mk ha (ifSome.mk (place_last hyl) (ifSome.mk (v := .int (lG * l)) ?_ ?_))
    · rw [List.length_map, List.getElem?_map, ← List.getLast?_eq_getElem?, hl2]; rfl
    refine ifSome.mk (itemsKeep hp hw) (ifSome.mk (place_last (by rw [List.length_map]; exact hMB1)) (ifSome.mk (v := .int (lG * lb)) ?_ ?_))
    · rw [List.length_map, List.getElem?_map, ← List.getLast?_eq_getElem?, hBlast]; rfl
    rw [hsp] at ha
    refine s_wl ew ha (itemsKeep hp hw) h1 (by rw [← hsp]; exact su6 nG hly hi hA) (fun x hx => IntMulOk.sum (sMy x (by rw [hsp]; exact hx)) (sMB _ (List.mem_of_getLast? hBlast)) hbits) (fun y hy => IntMulOk.sum (sMy _ (List.mem_of_getLast? hl2)) (sMB y hy) hbits) ?_
    have eD := fun t => ev_wlo (s := lG * lb) (m := lG * l) (l0 := k0) h1 t
    have lD : (wlo (lG * lb) (lG * l) k0 k1 (mulP G B)).getLast? = some 0 := by
      have := wlz_last (s := lG * lb) (m := lG * l) h1 (last_app hk1 (by rw [← hsp]; exact hl2)) hBlast
      rw [wlo, List.getLast?_append, this, show lG * l * (lG * lb) - lG * l * (lG * lb) = 0 from Int.sub_self _]; rfl
    have nD : (wlo (lG * lb) (lG * l) k0 k1 (mulP G B)).length = (mulP G (l0 ++ l1)).length := by rw [wlo_len h1, hsp, List.length_append, h1]
    -- the same without the factor
    have sD := wlo_sm (l0 := l0) (l1 := l1) slb sl (fun x hx => sy x (List.mem_append_left _ hx)) (fun x hx => sy x (List.mem_append_right _ hx)) sB
    have eD' := fun t => ev_wlo (s := lb) (m := l) (l0 := l0) g1 t
    have lD' : (wlo lb l l0 l1 B).getLast? = some 0 := by
      have := wlz_last (s := lb) (m := l) g1 (last_app (fun h => Nat.lt_irrefl 0 (Nat.lt_of_lt_of_le hB1 (Nat.le_of_eq (by rw [← g1, h]; rfl)))) hl) hlb
      rw [wlo, List.getLast?_append, this, show l * lb - l * lb = 0 from Int.sub_self _]; rfl
    have nD' : (wlo lb l l0 l1 B).length = (l0 ++ l1).length := by rw [wlo_len g1, List.length_append, g1]
    have sD' : AllSm (K + (i + 1) * (K + 1)) (wlo lb l l0 l1 B) := sD.mono su7
    have hk0 : k0.length = l0.length := su8 h2 g2 hBl hly hge'
    rw [← hsp, hk0] at eD
    clear sD
    revert eD lD nD eD' lD' nD' sD'
    generalize wlo (lG * lb) (lG * l) k0 k1 (mulP G B) = D
    generalize wlo lb l l0 l1 B = D'
    intro eD lD nD eD' lD' nD' sD'
    have eDD : ∀ t, ev D t = lG * (ev G t * ev D' t) := fun t => by rw [eD, eD', ev_mulP, ev_mulP]; grind
    obtain ⟨ws, k', hws, tw⟩ := trim_pre D'
    have ews := fun t => trim_ev hws t
    have hltw := short_of hws tw lD'
    have sws := trim_sm hws sD'
    refine s_trim et (v := .lst H'.length) (getApp _ _ _) fun zs k hz tz => ?_
    have ez := fun t => trim_ev hz t
    have hlt := short_of hz tz lD
    have hpz : H <+: H' ++ [D.map V.int] ++ [zs.map V.int] := preTrans hp (preTrans (preApp _ _) (preApp _ _))
    have hzg : (H' ++ [D.map V.int] ++ [zs.map V.int])[(H' ++ [D.map V.int]).length]? = some (zs.map V.int) := getApp _ _ _
    refine ifSome.mk (truth_items (x := .lst (H' ++ [D.map V.int]).length) hzg) ?_
    have old : lenV H' (some (.lst a)) = (mulP G (l0 ++ l1)).length := by rw [lenV_eq (x := .lst a) ha, List.length_map, hsp]
    have pq' : PF (fun t => q t * lb + d * (l * t ^ l0.length)) := (pq.mul (.const lb)).add (((PF.const l).mul (pf_pow l0.length)).smul d)
    rcases tw with rfl | tw
    · have hz0 : zs = [] := by
        rcases tz with h | h
        · exact h
        · obtain ⟨t, ht⟩ := h.nz
          exact absurd (by rw [← ez, eDD, ews, ev_nil]; (clear e et ew er ed hG hv hw tA hlb h0 hA sA sB hK hQ hBne hB1 hG1 tB hBl hBlast sG nG lG0 sMB hp hi2 hc hd pq hl0 h1 ha ty hi sy heq lens hge' hyn hly ty' hl hsp h2 g1 g2 hl2 hyl sl slb sMy hib hmul hbits hMB1 hk1 hk0 eD lD nD eD' lD' nD' sD' eDD hz ez hlt hpz hzg old pq' hws ews hltw sws h ht; omega)) ht
      subst hz0
      refine ⟨⟨_, [], i + 1, rfl, hpz, hzg, .inl rfl, su9 hi (by rw [← nD']; exact hltw), su10 hi hge', .nil, c * lb, 1, fun t => q t * lb + d * (l * t ^ l0.length), Int.mul_ne_zero hc h0, by decide, pq', fun t => ?_⟩, ?_⟩
      · have h3 := heq t
        have h4 := eD' t
        rw [ews, ev_nil] at h4
        rw [ev_nil]; grind
      · show lenV _ (some (V.lst _)) < lenV H' (some (V.lst a))
        rw [lenV_eq (x := .lst _) hzg, old, List.length_map, ← nD]; exact hlt
    · have tz' : Tr zs := tr_of_ev tz (tr_mulP hG.tr tw) (c := lG) (fun t => by rw [← ez, eDD, ews, ev_mulP]) lG0
      obtain ⟨lz, hlz, hlz0⟩ := tz'
      obtain ⟨lw, hlw, hlw0⟩ := tw
      have hne : (!(zs.map V.int).isEmpty) = true := by
        cases zs with
        | nil => cases hlz
        | cons _ _ => rfl
      rw [hne]
      dsimp only [qS1, qS2, qS3, qS4, qS5, qS7, qS9, qS10, qS11, qS12, qS13, qS14, qE1, qE2, qE5, qE7, qE8, qE9, qE10, qE11, qE12, qE13, qE14, qE15, qE16, qE17, qE18, qE19, qE20, qE21, qE22, qEs1, qEs2, wpAll, qO1, qO2, qI1, qI2, qI3, w_add, w_addl, w_sub, w_mul, w_mull, w_fdiv, w_mod, w_pow, w_lt, w_le, w_gt, w_ge, w_eq, w_ne, w_isn, w_ist, w_isi, w_isl, w_abs, w_lent, w_lenl, w_intb, w_list, w_tuple, w_min, w_idxt0, w_idxt1, w_idxu0, w_idxu1, w_idxu2, w_idxl, w_slcl, w_tb, w_ti, w_tn, w_tt, w_tl, w_itt, w_itl, w_bindT1, w_bindT2, w_srcl, w_srct, w_cut2, w_cut1, w_cut1', w_cut0, w_ty1, w_ty2, w_ty3, w_ty4, w_ty5, w_ty6, w_ty7, w_ty8, w_ty9, w_ty10, w_ty11, w_ty12, w_ty13, w_ty14, w_ty15, w_ty16, w_ty17, w_ty18, w_ty19, w_ty20, w_ty21, w_mapc, w_mapn, w_appc, w_appn, w_repc, w_repn, w_start, w_lenc, w_ifT, w_ifF, w_ifFF, w_ifTF, w_nT, w_nF, w_anyT, w_anyF, w_d22, ifSome_some, ifLst_lst, ifTup_tup, ifInt_int, lget, lset, lsets, Nat.reduceSub, Nat.reduceAdd, List.length_nil, ↓reduceIte]
      have hmem := List.mem_of_getLast? hlw
      refine s_red (n := n + 1) (ng := ngQ) ng_ok er (fun a b H' Z X' hz => s_pdiv ed hz) (v := .lst _) hzg hlz hlz0 (su13 hlt nD hly nG hi hA) ?_
      have trw := tr_red hlw hlw0
      have ered : redI zs lz = mulT G (redI ws lw) := by rw [mulT_tr trw]; exact hG.red hlz hlz0 hlw hlw0 lG0 fun t => by rw [← ez, eDD, ews]
      refine ⟨⟨_, redI ws lw, i + 1, rfl, preTrans hpz (preApp _ _), by rw [getApp, ered], .inr trw, by rw [redI_len]; exact su9 hi (by rw [← nD']; exact hltw), su10 hi hge', redI_sm hmem hlw0 sws, c * lb, d * gOf ws lw, fun t => q t * lb + d * (l * t ^ l0.length), Int.mul_ne_zero hc h0, Int.mul_ne_zero hd (gOf_ne hmem hlw0), pq', fun t => ?_⟩, ?_⟩
      · have h3 := heq t
        have h4 := eD' t
        rw [ews, ev_red (r := ws) (l := lw) t] at h4
        grind
      · show lenV _ (some (V.lst _)) < lenV H' (some (V.lst a))
        rw [lenV_eq (x := .lst _) (getApp _ _ _), old, List.length_map, redI_len, ← nD]; exact hlt
  · have hn : ¬ (((mulP G B).length : Nat) : Int) ≤ (((mulT G ys).length : Nat) : Int) := by
      rcases lens with rfl | h
      · exact su12 hBl hB1 hG1
      · exact su11 hBl h hge'
    rw [decide_eq_false hn]
    exact hQ _ _ _ hp ha ⟨ty, Nat.lt_of_not_le hge', c, d, q, hc, hd, pq, heq⟩ (sy.mono (Nat.add_le_add_left (Nat.mul_le_mul_right _ hi2) _))
end
end Mine

set_option autoImplicit false
set_option linter.unusedVariables false
set_option linter.unusedSimpArgs false
set_option maxRecDepth 100000
namespace Mine
open PySem
/-- a combination of two -/
noncomputable def Comb (A B x : List Int) : Prop := ∃ (c : Int) (u v : Int → Int), c ≠ 0 ∧ PF u ∧ PF v ∧ ∀ t, c * ev x t = u t * ev A t + v t * ev B t
/-- the greatest divisor in common -/
structure Gcd (A B g : List Int) (l : Int) : Prop where
  last : g.getLast? = some l
  pos : 0 < l
  one : gAll g 0 = 1
  d1 : Dv (ev g) (ev A)
  d2 : Dv (ev g) (ev B)
  cb : Comb A B g
theorem Comb.rest {A B A1 B1 r : List Int} (h1 : Comb A B A1) (h2 : Comb A B B1) (R : Rst A1 B1 r) : Comb A B r := by
  obtain ⟨c1, u1, v1, hc1, pu1, pv1, e1⟩ := h1
  obtain ⟨c2, u2, v2, hc2, pu2, pv2, e2⟩ := h2
  obtain ⟨c, d, q, hc, hd, pq, e⟩ := R.eq
  refine ⟨c1 * c2 * d, fun t => c2 * c * u1 t + -(c1 * (q t * u2 t)), fun t => c2 * c * v1 t + -(c1 * (q t * v2 t)), Int.mul_ne_zero (Int.mul_ne_zero hc1 hc2) hd,
    (pu1.smul (c2 * c)).add ((pq.mul pu2).smul c1).neg, (pv1.smul (c2 * c)).add ((pq.mul pv2).smul c1).neg, fun t => ?_⟩
  have := e1 t; have := e2 t; have := e t; grind
theorem Rst.back {A B r : List Int} (R : Rst A B r) {h : Int → Int} (h1 : Dv h (ev B)) (h2 : Dv h (ev r)) : Dv h (ev A) := by
  obtain ⟨c, d, q, hc, hd, pq, e⟩ := R.eq
  exact Dv.comb h1 h2 pq (.const d) hc fun t => by rw [e t]
theorem pow3 {d : Nat} (h : 1 ≤ d) : d + 2 ≤ 3 ^ d := by
  induction d with
  | zero => omega
  | succ d ih =>
    rcases Nat.eq_zero_or_pos d with rfl | hd
    · decide
    · have := ih hd
      rw [Nat.pow_succ]; (clear ih h; omega)
theorem grow {N K K1 a b : Nat} (hb : b < a) (ha : a ≤ N) (h : K1 + 1 ≤ 2 * (K + 1) * 3 ^ (N - a)) : K1 + (a - b + 1) * (K1 + 1) + 1 ≤ 2 * (K + 1) * 3 ^ (N - b) := by
  obtain ⟨d, rfl⟩ := Nat.exists_eq_add_of_le (Nat.le_of_lt hb)
  have hd : 1 ≤ d := by (clear ha h; omega)
  have e1 : N - b = (N - (b + d)) + d := by (clear h hd; omega)
  rw [e1, Nat.pow_add, ← Nat.mul_assoc, Nat.add_sub_cancel_left]
  have e2 : K1 + (d + 1) * (K1 + 1) + 1 = (K1 + 1) * (d + 2) := by grind
  rw [e2]
  exact Nat.mul_le_mul h (pow3 hd)
section
variable {sub : Nat → Nat → Bool} {P : List Fn} {f n dv tr re wl ro sp qu co : Nat} {H : Hp} {Q : V → Hp → Prop} {X : Nat → Hp → Prop}
noncomputable def lCommon (ro : Nat) : PS := (.seq (.assign 2 (.call ro (.cons (.var 0) (.cons (.var 1) .nil))))
 (.seq (.assign 0 (.var 1))
 (.seq (.assign 1 (.var 2))
 .skip)))
noncomputable def bCommon (ro re : Nat) : PS := (.seq (.whl (.var 1) (lCommon ro))
 (.seq (.ret (.call re (.cons (.var 0) .nil)))
 .skip))
theorem pow3' {d : Nat} (h : 1 ≤ d) : d + 3 ≤ 2 * 3 ^ d := by
  have := pow3 h
  have : 1 ≤ 3 ^ d := Nat.pow_pos (by decide)
  (clear h; omega)
theorem grow' {N K K1 a b : Nat} (hb : b < a) (ha : a ≤ N) (h : K1 + 1 ≤ 2 * (K + 1) * 3 ^ (N - a)) : K1 + (a - b + 2) * (K1 + 1) ≤ 4 * (K + 1) * 3 ^ N := by
  obtain ⟨d, rfl⟩ := Nat.exists_eq_add_of_le (Nat.le_of_lt hb)
  have hd : 1 ≤ d := by (clear ha h; omega)
  rw [Nat.add_sub_cancel_left]
  have e2 : K1 + (d + 2) * (K1 + 1) + 1 = (K1 + 1) * (d + 3) := by grind
  have h2 := Nat.mul_le_mul h (pow3' hd)
  have h3 : 2 * (K + 1) * 3 ^ (N - (b + d)) * (2 * 3 ^ d) = 4 * (K + 1) * (3 ^ (N - (b + d)) * 3 ^ d) := by grind
  rw [← Nat.pow_add] at h3
  have h4 : 3 ^ (N - (b + d) + d) ≤ 3 ^ N := Nat.pow_le_pow_right (by decide) (by (clear hb h hd e2 h2 h3; omega))
  have h5 := Nat.mul_le_mul_left (4 * (K + 1)) h4
  (clear hb ha h hd h4; omega)
theorem common_sz {N K K1 a b : Nat} (ha : a ≤ N) (h : (a ≤ b ∧ K1 ≤ K) ∨ (b < a ∧ K1 + 1 ≤ 2 * (K + 1) * 3 ^ (N - a))) : K1 ≤ 4 * (K + 1) * 3 ^ N := by
  have h1 : 1 ≤ 3 ^ N := Nat.pow_pos (by decide)
  rcases h with ⟨_, h⟩ | ⟨_, h⟩
  · have := Nat.mul_le_mul_left (4 * (K + 1)) h1
    omega
  · have h4 : 3 ^ (N - a) ≤ 3 ^ N := Nat.pow_le_pow_right (by decide) (by omega)
    have h5 := Nat.mul_le_mul_left (2 * (K + 1)) h4
    have h6 : 4 * (K + 1) * 3 ^ N = 2 * (2 * (K + 1) * 3 ^ N) := by grind
    omega
theorem s_commonS (e : P[f]? = some ⟨2, 3, bCommon ro re⟩) (eo : P[ro]? = some ⟨2, 3, bRest tr wl re⟩) (et : P[tr]? = some ⟨1, 2, bTrim⟩) (ew : P[wl]? = some ⟨4, 7, bWl⟩) (er : P[re]? = some ⟨1, 3, bRed dv ngQ⟩) (ed : P[dv]? = some ⟨2, 3, bPDiv⟩)
    {v w : V} {G A B : List Int} {lG : Int} {g N K : Nat} (hG : Fct G lG g) (hv : items H v = some ((mulP G A).map .int)) (hw : items H w = some ((mulT G B).map .int)) (tA : Tr A) (tB : B = [] ∨ Tr B) (hA : A.length ≤ N) (hB : B.length ≤ N) (hN : N ≤ 100) (sA : AllSm K A) (sB : AllSm K B)
    (hK : 4 * (K + 1) * 3 ^ N + 2 * (g + 100) ≤ 130000000)
    (hQ : ∀ H' k x l, H <+: H' → H'[k]? = some ((mulP G x).map .int) → Gcd A B x l → AllSm (4 * (K + 1) * 3 ^ N) x → Q (.lst k) H') : callN sub P (n + 4) f [v, w] H Q X := by
  refine callN_mk e rfl ?_
  dsimp only [bCommon, qS1, qS2, qS3, qS4, qS5, qS7, qS9, qS10, qS11, qS12, qS13, qS14, qE1, qE2, qE5, qE7, qE8, qE9, qE10, qE11, qE12, qE13, qE14, qE15, qE16, qE17, qE18, qE19, qE20, qE21, qE22, qEs1, qEs2, wpAll, qO1, qO2, qI1, qI2, qI3, w_add, w_addl, w_sub, w_mul, w_mull, w_fdiv, w_mod, w_pow, w_lt, w_le, w_gt, w_ge, w_eq, w_ne, w_isn, w_ist, w_isi, w_isl, w_abs, w_lent, w_lenl, w_intb, w_list, w_tuple, w_min, w_idxt0, w_idxt1, w_idxu0, w_idxu1, w_idxu2, w_idxl, w_slcl, w_tb, w_ti, w_tn, w_tt, w_tl, w_itt, w_itl, w_bindT1, w_bindT2, w_srcl, w_srct, w_cut2, w_cut1, w_cut1', w_cut0, w_ty1, w_ty2, w_ty3, w_ty4, w_ty5, w_ty6, w_ty7, w_ty8, w_ty9, w_ty10, w_ty11, w_ty12, w_ty13, w_ty14, w_ty15, w_ty16, w_ty17, w_ty18, w_ty19, w_ty20, w_ty21, w_mapc, w_mapn, w_appc, w_appn, w_repc, w_repn, w_start, w_lenc, w_ifT, w_ifF, w_ifFF, w_ifTF, w_nT, w_nF, w_anyT, w_anyF, w_d22, ifSome_some, ifLst_lst, ifTup_tup, ifInt_int, lget, lset, lsets, Nat.reduceSub, Nat.reduceAdd, List.length_nil, ↓reduceIte]
  refine ⟨fun ρ H' => ∃ (v1 w1 : V) (A1 B1 : List Int) (K1 : Nat) (o : Option V), ρ = [some v1, some w1, o] ∧ H <+: H' ∧ items H' v1 = some ((mulP G A1).map .int) ∧ items H' w1 = some ((mulT G B1).map .int) ∧ Tr A1 ∧ (B1 = [] ∨ Tr B1) ∧ A1.length ≤ N ∧ B1.length ≤ N ∧
    AllSm K1 A1 ∧ AllSm K1 B1 ∧ ((A1.length ≤ B1.length ∧ K1 ≤ K) ∨ (B1.length < A1.length ∧ K1 + 1 ≤ 2 * (K + 1) * 3 ^ (N - A1.length))) ∧
    (∀ h, Dv h (ev A1) → Dv h (ev B1) → Dv h (ev A) ∧ Dv h (ev B)) ∧ Comb A B A1 ∧ Comb A B B1, fun ρ H' => lenV H' (lget ρ 1), ⟨v, w, A, B, K, none, rfl, List.prefix_refl _, hv, hw, tA, tB, hA, hB, sA, sB, ?_, fun h h1 h2 => ⟨h1, h2⟩, ?_, ?_⟩, ?_⟩
  · by_cases h : A.length ≤ B.length
    · exact .inl ⟨h, Nat.le_refl _⟩
    · refine .inr ⟨by (clear e eo et ew er ed hG hv hw tA tB hA hB hN sA sB hK hQ; omega), ?_⟩
      have : 1 ≤ 3 ^ (N - A.length) := Nat.pow_pos (by decide)
      have := Nat.mul_le_mul_left (2 * (K + 1)) this
      (clear e eo et ew er ed hG hv hw tA tB hA hB hN sA sB hK hQ h; omega)
  · exact ⟨1, fun _ => 1, fun _ => 0, by decide, .const 1, .const 0, fun t => by dsimp only; (clear e eo et ew er ed hG hv hw tA tB hA hB hN sA sB hK hQ; omega)⟩
  · exact ⟨1, fun _ => 0, fun _ => 1, by decide, .const 0, .const 1, fun t => by dsimp only; (clear e eo et ew er ed hG hv hw tA tB hA hB hN sA sB hK hQ; omega)⟩
  rintro ρ H' ⟨v1, w1, A1, B1, K1, o, rfl, hp, hv1, hw1, tA1, tB1, nA, nB, sA1, sB1, hk, back, cA, cB⟩
  dsimp only [qS1, qS2, qS3, qS4, qS5, qS7, qS9, qS10, qS11, qS12, qS13, qS14, qE1, qE2, qE5, qE7, qE8, qE9, qE10, qE11, qE12, qE13, qE14, qE15, qE16, qE17, qE18, qE19, qE20, qE21, qE22, qEs1, qEs2, wpAll, qO1, qO2, qI1, qI2, qI3, w_add, w_addl, w_sub, w_mul, w_mull, w_fdiv, w_mod, w_pow, w_lt, w_le, w_gt, w_ge, w_eq, w_ne, w_isn, w_ist, w_isi, w_isl, w_abs, w_lent, w_lenl, w_intb, w_list, w_tuple, w_min, w_idxt0, w_idxt1, w_idxu0, w_idxu1, w_idxu2, w_idxl, w_slcl, w_tb, w_ti, w_tn, w_tt, w_tl, w_itt, w_itl, w_bindT1, w_bindT2, w_srcl, w_srct, w_cut2, w_cut1, w_cut1', w_cut0, w_ty1, w_ty2, w_ty3, w_ty4, w_ty5, w_ty6, w_ty7, w_ty8, w_ty9, w_ty10, w_ty11, w_ty12, w_ty13, w_ty14, w_ty15, w_ty16, w_ty17, w_ty18, w_ty19, w_ty20, w_ty21, w_mapc, w_mapn, w_appc, w_appn, w_repc, w_repn, w_start, w_lenc, w_ifT, w_ifF, w_ifFF, w_ifTF, w_nT, w_nF, w_anyT, w_anyF, w_d22, ifSome_some, ifLst_lst, ifTup_tup, ifInt_int, lget, lset, lsets, Nat.reduceSub, Nat.reduceAdd, List.length_nil, ↓reduceIte]
  refine ifSome.mk (truth_items hw1) ?_
  rcases tB1 with rfl | tB1
  · refine (if_neg (show ¬ (!(([] : List Int).map V.int).isEmpty) = true by decide)).mpr ?_
    obtain ⟨l, hl, hl0⟩ := tA1
    have hmem := List.mem_of_getLast? hl
    have hll := mulP_last hG.last hl
    have lG0 : lG * l ≠ 0 := Int.mul_ne_zero (by have := hG.pos; (clear e eo et ew er ed hG hv hw tA tB hA hB hN sA sB hK hQ hp hv1 nA sA1 cA hw1 nB sB1 hk back cB hl hl0 hmem hll; omega)) hl0
    have hln := mulP_len hG.tr.ne (show A1 ≠ [] by intro h; rw [h] at hl; cases hl)
    refine s_red (n := n + 2) (ng := ngQ) ng_ok er (fun a b H' Z X' hz => s_pdiv ed hz) hv1 hll lG0 (by have := hG.len; (clear e eo et ew er ed hG hv hw tA tB hA hB sA sB hK hQ hp hv1 sA1 cA hw1 nB sB1 hk back cB hl hl0 hmem hll lG0; omega)) ?_
    have ered : redI (mulP G A1) (lG * l) = mulP G (redI A1 l) := hG.red hll lG0 hl hl0 (m := 1) (by decide) fun t => by rw [ev_mulP, Int.one_mul]
    rw [ered]
    have hg : Dv (ev (redI A1 l)) (ev A1) := ⟨1, fun _ => gOf A1 l, by decide, .const _, fun t => by rw [Int.one_mul, ev_red (r := A1) (l := l) t, Int.mul_comm]⟩
    obtain ⟨b1, b2⟩ := back _ hg (Dv.zero _)
    refine hQ _ _ _ _ (preTrans hp (preApp _ _)) (getApp _ _ _) ⟨redI_getLast hl, redI_last hmem hl0, redI_gcd hmem hl0, b1, b2, ?_⟩ (redI_sm hmem hl0 (sA1.mono (common_sz nA hk)))
    obtain ⟨c, u, v, hc, pu, pv, ee⟩ := cA
    exact ⟨c * gOf A1 l, u, v, Int.mul_ne_zero hc (gOf_ne hmem hl0), pu, pv, fun t => by rw [← ee, ev_red (r := A1) (l := l) t, Int.mul_assoc]⟩
  · have hne : (!((mulT G B1).map V.int).isEmpty) = true := by
      cases e1 : mulT G B1 with
      | nil => rw [mulT_tr tB1] at e1; exact absurd e1 (tr_mulP hG.tr tB1).ne
      | cons _ _ => rfl
    rw [hne]
    have hw2 := hw1
    rw [mulT_tr tB1] at hw2
    obtain ⟨lb, hlb, hlb0⟩ := id tB1
    dsimp only [lCommon, qS1, qS2, qS3, qS4, qS5, qS7, qS9, qS10, qS11, qS12, qS13, qS14, qE1, qE2, qE5, qE7, qE8, qE9, qE10, qE11, qE12, qE13, qE14, qE15, qE16, qE17, qE18, qE19, qE20, qE21, qE22, qEs1, qEs2, wpAll, qO1, qO2, qI1, qI2, qI3, w_add, w_addl, w_sub, w_mul, w_mull, w_fdiv, w_mod, w_pow, w_lt, w_le, w_gt, w_ge, w_eq, w_ne, w_isn, w_ist, w_isi, w_isl, w_abs, w_lent, w_lenl, w_intb, w_list, w_tuple, w_min, w_idxt0, w_idxt1, w_idxu0, w_idxu1, w_idxu2, w_idxl, w_slcl, w_tb, w_ti, w_tn, w_tt, w_tl, w_itt, w_itl, w_bindT1, w_bindT2, w_srcl, w_srct, w_cut2, w_cut1, w_cut1', w_cut0, w_ty1, w_ty2, w_ty3, w_ty4, w_ty5, w_ty6, w_ty7, w_ty8, w_ty9, w_ty10, w_ty11, w_ty12, w_ty13, w_ty14, w_ty15, w_ty16, w_ty17, w_ty18, w_ty19, w_ty20, w_ty21, w_mapc, w_mapn, w_appc, w_appn, w_repc, w_repn, w_start, w_lenc, w_ifT, w_ifF, w_ifFF, w_ifTF, w_nT, w_nF, w_anyT, w_anyF, w_d22, ifSome_some, ifLst_lst, ifTup_tup, ifInt_int, lget, lset, lsets, Nat.reduceSub, Nat.reduceAdd, List.length_nil, ↓reduceIte]
    have hsz : K1 + (A1.length - B1.length + 2) * (K1 + 1) ≤ 4 * (K + 1) * 3 ^ N := by
      rcases hk with ⟨h1, h2⟩ | ⟨h1, h2⟩
      · rw [Nat.sub_eq_zero_of_le h1]
        have : 1 ≤ 3 ^ N := Nat.pow_pos (by decide)
        have := Nat.mul_le_mul_left (4 * (K + 1)) this
        (clear e eo et ew er ed hG hv hw tA tB hA hB hN sA sB hQ hp hv1 hw1 tA1 nA nB sA1 sB1 back cA cB tB1 hne hw2 hlb hlb0 h1; omega)
      · exact grow' h1 nA h2
    refine s_rest eo et ew er ed hG (A := A1) (by rw [mulT_tr tA1]; exact hv1) hw2 (.inr tA1) hlb hlb0 (by (clear e eo et ew er ed hG hv hw tA tB hA hB sA sB hK hQ hp hv1 hw1 tA1 nB sA1 sB1 hk back cA cB tB1 hne hw2 hlb hlb0 hsz; omega)) sA1 sB1 (by (clear e eo et ew er ed hG hv hw tA tB hA hB hN sA sB hQ hp hv1 hw1 tA1 nA nB sA1 sB1 hk back cA cB tB1 hne hw2 hlb hlb0; omega)) fun H2 k r hp2 hr R sr => ?_
    have sB2 : AllSm (K1 + (A1.length - B1.length + 1) * (K1 + 1)) B1 := sB1.mono (Nat.le_add_right _ _)
    refine ⟨⟨w1, .lst k, B1, r, _, _, rfl, preTrans hp hp2, itemsKeep hp2 hw2, hr, tB1, R.tr, nB, by have := R.len; (clear e eo et ew er ed hG hv hw tA tB hA hB hN sA sB hK hQ hp hv1 hw1 tA1 nA sA1 sB1 hk back cA cB tB1 hne hw2 hlb hlb0 hsz hp2 hr R sr sB2; omega), sB2, sr, .inr ⟨R.len, ?_⟩, fun h h1 h2 => back h (R.back h1 h2) h1, cB, cA.rest cB R⟩, ?_⟩
    · rcases hk with ⟨h1, h2⟩ | ⟨h1, h2⟩
      · rw [Nat.sub_eq_zero_of_le h1]
        have : 1 ≤ 3 ^ (N - B1.length) := Nat.pow_pos (by decide)
        have := Nat.mul_le_mul_left (2 * (K + 1)) this
        (clear e eo et ew er ed hG hv hw tA tB hA hB hN sA sB hK hQ hp hv1 hw1 tA1 nA nB sA1 sB1 back cA cB tB1 hne hw2 hlb hlb0 hsz hp2 hr R sr sB2 h1; omega)
      · exact grow h1 nA h2
    · show lenV H2 (some (V.lst k)) < lenV H' (some w1)
      rw [lenV_eq (x := .lst k) hr, lenV_eq hw2, List.length_map, List.length_map]
      have hlb1 := mulP_len hG.tr.ne tB1.ne
      have hG1 : 1 ≤ G.length := List.length_pos_iff.mpr hG.tr.ne
      rcases R.tr with rfl | h
      · show 0 < _; have := List.length_pos_iff.mpr tB1.ne; (clear e eo et ew er ed hG hv hw tA tB hA hB hN sA sB hK hQ hp hv1 hw1 tA1 nA nB sA1 sB1 hk back cA cB tB1 hne hw2 hlb hlb0 hsz hp2 sB2 hr R sr; omega)
      · rw [mulT_tr h]
        have := mulP_len hG.tr.ne h.ne
        have := R.len
        (clear e eo et ew er ed hG hv hw tA tB hA hB hN sA sB hK hQ hp hv1 hw1 tA1 nA nB sA1 sB1 hk back cA cB tB1 hne hw2 hlb hlb0 hsz hp2 hr R sr sB2 hG1 h; omega)
end
end Mine

set_option autoImplicit false
set_option linter.unusedVariables false
set_option linter.unusedSimpArgs false
set_option maxRecDepth 100000
namespace Mine
open PySem
/-! powers -/
noncomputable def pw (F : List Int) : Nat → List Int → List Int
  | 0, K => K
  | n + 1, K => mulP (pw F n K) F
/-- a row of factors K = gl * d, its slope gl * El -/
structure FL (K d gl El : List Int) (g k : Nat) : Prop where
  fac : Fac K d (ev gl) (ev El)
  dl : ∃ l, d.getLast? = some l ∧ 0 < l
  d1 : gAll d 0 = 1
  fg : ∃ l, Fct gl l g
  sd : AllSm k d
  se : AllSm k El
section
variable {sub : Nat → Nat → Bool} {P : List Fn} {f n dv tr re wl ro sp qu co : Nat} {H : Hp} {Q : V → Hp → Prop} {X : Nat → Hp → Prop}
end
end Mine

set_option autoImplicit false
set_option linter.unusedVariables false
set_option linter.unusedSimpArgs false
set_option maxRecDepth 100000
namespace Mine
open PySem
theorem ev_set (t z : Int) : ∀ {xs : List Int} {i : Nat}, i < xs.length → ev (xs.set i (xs.getD i 0 + z)) t = ev xs t + z * t ^ i
  | [], _, h => by simp at h
  | x :: r, 0, _ => by
    show ev ((x + z) :: r) t = _
    rw [ev_cons, ev_cons, Int.pow_zero]; omega
  | x :: r, i + 1, h => by
    show ev (x :: r.set i (r.getD i 0 + z)) t = _
    rw [ev_cons, ev_cons, ev_set t z (by simpa using h), Int.pow_succ]; grind
section
variable {sub : Nat → Nat → Bool} {P : List Fn} {f n dv by_ pa fa : Nat} {H : Hp} {Q : V → Hp → Prop} {X : Nat → Hp → Prop}
theorem s_byG (e : P[f]? = some ⟨2, 5, bBy⟩) {m w : Nat} {row o : List Int} (hm : H[m]? = some (row.map .int)) (hw : H[w]? = some (o.map .int)) (hr0 : row ≠ []) (ho0 : o ≠ []) (hl : row.length + o.length ≤ 800) (hb : ∀ x ∈ row, ∀ y ∈ o, IntMulOk x y)
    (hQ : Q (.lst H.length) (H ++ [(mulP row o).map .int])) : callN sub P (n + 1) f [.lst m, .lst w] H Q X := by
  have hr1 := List.length_pos_iff.mpr hr0
  have ho1 := List.length_pos_iff.mpr ho0
  refine callN_mk e rfl ?_
  dsimp only [bBy, zBy, qS1, qS2, qS3, qS4, qS5, qS7, qS9, qS10, qS11, qS12, qS13, qS14, qE1, qE2, qE5, qE7, qE8, qE9, qE10, qE11, qE12, qE13, qE14, qE15, qE16, qE17, qE18, qE19, qE20, qE21, qE22, qEs1, qEs2, wpAll, qO1, qO2, qI1, qI2, qI3, w_add, w_addl, w_sub, w_mul, w_mull, w_fdiv, w_mod, w_pow, w_lt, w_le, w_gt, w_ge, w_eq, w_ne, w_isn, w_ist, w_isi, w_isl, w_abs, w_lent, w_lenl, w_intb, w_list, w_tuple, w_min, w_idxt0, w_idxt1, w_idxu0, w_idxu1, w_idxu2, w_idxl, w_slcl, w_tb, w_ti, w_tn, w_tt, w_tl, w_itt, w_itl, w_bindT1, w_bindT2, w_srcl, w_srct, w_cut2, w_cut1, w_cut1', w_cut0, w_ty1, w_ty2, w_ty3, w_ty4, w_ty5, w_ty6, w_ty7, w_ty8, w_ty9, w_ty10, w_ty11, w_ty12, w_ty13, w_ty14, w_ty15, w_ty16, w_ty17, w_ty18, w_ty19, w_ty20, w_ty21, w_mapc, w_mapn, w_appc, w_appn, w_repc, w_repn, w_start, w_lenc, w_ifT, w_ifF, w_ifFF, w_ifTF, w_nT, w_nF, w_anyT, w_anyF, w_d22, ifSome_some, ifLst_lst, ifTup_tup, ifInt_int, lget, lset, lsets, Nat.reduceSub, Nat.reduceAdd, List.length_nil, ↓reduceIte]
  refine ifSome.mk hm (ifSome.mk hw ?_)
  rw [List.length_map, List.length_map]
  refine rng1 (smallI_of (by (clear e hm hw hr0 ho0 hl hb hQ; omega)) (by (clear e hm hw hr0 ho0 hb hQ hr1 ho1; omega))) ⟨by rw [List.length_map, List.length_range']; unfold lim; (clear e hm hw hr0 ho0 hb hQ hr1 ho1; omega), ?_⟩
  refine compGo_rng (g := fun _ => V.int 0) (fun i hi k hk => hk) ?_
  rw [show ((row.length : Int) + ((o.length : Nat) : Int) - 1).toNat = row.length + o.length - 1 by (clear e hm hw hr0 ho0 hb hQ; omega)]
  refine ifSome.mk (getKeep (preApp _ _) hm) ?_
  rw [List.length_map]
  refine rng1 (small_nat (by (clear e hm hw hr0 ho0 hb hQ hr1; omega))) ?_
  rw [Int.toNat_natCast]
  have e0 : (List.range' 0 (row.length + o.length - 1)).map (fun _ => V.int 0) = (zeros (row.length + o.length - 1)).map V.int := by rw [List.map_const', List.length_range', zeros, List.map_replicate]
  rw [e0]
  refine forGo_rule (fun rest ρ H' => ∃ dn td xs o1 o2, row = dn ++ td ∧ rest = (List.range' dn.length td.length).map (fun (i : Nat) => V.int (i : Int)) ∧ ρ = [some (.lst m), some (.lst w), some (.lst H.length), o1, o2] ∧
    H' = H ++ [(xs : List Int).map V.int] ∧ xs.length = row.length + o.length - 1 ∧ ∀ t, ev xs t = ev dn t * ev o t) ?_ ?_ _ _ _ ⟨[], row, zeros (row.length + o.length - 1), _, _, rfl, rfl, rfl, rfl, by simp [zeros], fun t => by rw [ev_zeros, ev_nil]; (clear e hm hw hr0 ho0 hl hb hQ hr1 ho1 e0; omega)⟩
  · rintro x rest ρ H' k ⟨dn, td, xs, o1, o2, hr, hx, rfl, rfl, hxl, hev⟩ hk
    cases td with
    | nil => cases hx
    | cons y td =>
      rw [range'_len] at hx
      cases hx
      have hm' : ∀ l : List V, (H ++ [l])[m]? = some (row.map .int) := fun l => getKeep (preApp _ _) hm
      have hw' : ∀ l : List V, (H ++ [l])[w]? = some (o.map .int) := fun l => getKeep (preApp _ _) hw
      have hy : (row.map V.int)[dn.length]? = some (.int y) := by rw [hr, List.map_append, List.map_cons]; have := getApp (dn.map V.int) (V.int y) (td.map V.int); rwa [List.length_map] at this
      have hdl : dn.length < (row.map V.int).length := by rw [hr]; simp
      have hdl' : dn.length < row.length := by rw [hr]; simp
      dsimp only [lBy2, qS1, qS2, qS3, qS4, qS5, qS7, qS9, qS10, qS11, qS12, qS13, qS14, qE1, qE2, qE5, qE7, qE8, qE9, qE10, qE11, qE12, qE13, qE14, qE15, qE16, qE17, qE18, qE19, qE20, qE21, qE22, qEs1, qEs2, wpAll, qO1, qO2, qI1, qI2, qI3, w_add, w_addl, w_sub, w_mul, w_mull, w_fdiv, w_mod, w_pow, w_lt, w_le, w_gt, w_ge, w_eq, w_ne, w_isn, w_ist, w_isi, w_isl, w_abs, w_lent, w_lenl, w_intb, w_list, w_tuple, w_min, w_idxt0, w_idxt1, w_idxu0, w_idxu1, w_idxu2, w_idxl, w_slcl, w_tb, w_ti, w_tn, w_tt, w_tl, w_itt, w_itl, w_bindT1, w_bindT2, w_srcl, w_srct, w_cut2, w_cut1, w_cut1', w_cut0, w_ty1, w_ty2, w_ty3, w_ty4, w_ty5, w_ty6, w_ty7, w_ty8, w_ty9, w_ty10, w_ty11, w_ty12, w_ty13, w_ty14, w_ty15, w_ty16, w_ty17, w_ty18, w_ty19, w_ty20, w_ty21, w_mapc, w_mapn, w_appc, w_appn, w_repc, w_repn, w_start, w_lenc, w_ifT, w_ifF, w_ifFF, w_ifTF, w_nT, w_nF, w_anyT, w_anyF, w_d22, ifSome_some, ifLst_lst, ifTup_tup, ifInt_int, lget, lset, lsets, Nat.reduceSub, Nat.reduceAdd, List.length_nil, ↓reduceIte]
      refine ifSome.mk (hw' _) ?_
      rw [List.length_map]
      refine rng1 (small_nat (by (clear e hm hw hr0 ho0 hb hQ ho1 e0 hxl hev hr hk hm' hw' hy hdl hdl'; omega))) ?_
      rw [Int.toNat_natCast]
      refine forGo_rule (fun rest ρ H' => ∃ d2 t2 zs o2, o = d2 ++ t2 ∧ rest = (List.range' d2.length t2.length).map (fun (i : Nat) => V.int (i : Int)) ∧ ρ = [some (.lst m), some (.lst w), some (.lst H.length), some (.int (dn.length : Int)), o2] ∧
        H' = H ++ [(zs : List Int).map V.int] ∧ zs.length = row.length + o.length - 1 ∧ ∀ t, ev zs t = ev dn t * ev o t + y * t ^ dn.length * ev d2 t) ?_ ?_ _ _ _ ⟨[], o, xs, _, rfl, rfl, rfl, rfl, hxl, fun t => by rw [hev, ev_nil]; (clear e hm hw hr0 ho0 hl hb hQ hr1 ho1 e0 hxl hev hr hk hm' hw' hy hdl hdl'; omega)⟩
      · rintro x2 rest2 ρ2 H2 k2 ⟨d2, t2, zs, o3, ho, hx2, rfl, rfl, hzl, hev2⟩ hk2
        cases t2 with
        | nil => cases hx2
        | cons z t2 =>
          rw [range'_len] at hx2
          cases hx2
          have hz : (o.map V.int)[d2.length]? = some (.int z) := by rw [ho, List.map_append, List.map_cons]; have := getApp (d2.map V.int) (V.int z) (t2.map V.int); rwa [List.length_map] at this
          have hd2 : d2.length < o.length := by rw [ho]; simp
          have hi : dn.length + d2.length < zs.length := by (clear e hm hw hr0 ho0 hl hb hQ e0 hxl hev hr hk hm' hw' hy hdl hev2 ho hk2 hz; omega)
          have ei : ((dn.length : Nat) : Int) + ((d2.length : Nat) : Int) = ((dn.length + d2.length : Nat) : Int) := (Int.natCast_add _ _).symm
          dsimp only [lBy1, qS1, qS2, qS3, qS4, qS5, qS7, qS9, qS10, qS11, qS12, qS13, qS14, qE1, qE2, qE5, qE7, qE8, qE9, qE10, qE11, qE12, qE13, qE14, qE15, qE16, qE17, qE18, qE19, qE20, qE21, qE22, qEs1, qEs2, wpAll, qO1, qO2, qI1, qI2, qI3, w_add, w_addl, w_sub, w_mul, w_mull, w_fdiv, w_mod, w_pow, w_lt, w_le, w_gt, w_ge, w_eq, w_ne, w_isn, w_ist, w_isi, w_isl, w_abs, w_lent, w_lenl, w_intb, w_list, w_tuple, w_min, w_idxt0, w_idxt1, w_idxu0, w_idxu1, w_idxu2, w_idxl, w_slcl, w_tb, w_ti, w_tn, w_tt, w_tl, w_itt, w_itl, w_bindT1, w_bindT2, w_srcl, w_srct, w_cut2, w_cut1, w_cut1', w_cut0, w_ty1, w_ty2, w_ty3, w_ty4, w_ty5, w_ty6, w_ty7, w_ty8, w_ty9, w_ty10, w_ty11, w_ty12, w_ty13, w_ty14, w_ty15, w_ty16, w_ty17, w_ty18, w_ty19, w_ty20, w_ty21, w_mapc, w_mapn, w_appc, w_appn, w_repc, w_repn, w_start, w_lenc, w_ifT, w_ifF, w_ifFF, w_ifTF, w_nT, w_nF, w_anyT, w_anyF, w_d22, ifSome_some, ifLst_lst, ifTup_tup, ifInt_int, lget, lset, lsets, Nat.reduceSub, Nat.reduceAdd, List.length_nil, ↓reduceIte]
          rw [ei]
          refine ifSome.mk (getApp _ _ _) (ifSome.mk (place_nat (k := dn.length + d2.length) (by rw [List.length_map]; exact hi)) (ifSome.mk (v := .int (zs.getD (dn.length + d2.length) 0)) ?_ ?_))
          · rw [List.getElem?_map, List.getElem?_eq_getElem hi, List.getD_eq_getElem?_getD, List.getElem?_eq_getElem hi]; rfl
          refine ifSome.mk (hm' _) (ifSome.mk (place_nat hdl) (ifSome.mk hy ?_))
          refine ifSome.mk (hw' _) (ifSome.mk (place_nat (by rw [List.length_map]; exact hd2)) (ifSome.mk hz ⟨hb y (by rw [hr]; simp) z (by rw [ho]; simp), ?_⟩))
          refine ⟨⟨⟨Nat.le_refl _, Option.some_ne_none _⟩, Option.some_ne_none _⟩, ?_⟩
          refine ifSome.mk (getApp _ _ _) (ifSome.mk (place_nat (k := dn.length + d2.length) (by rw [List.length_map]; exact hi)) ?_)
          rw [setApp]
          refine hk2 _ _ ⟨d2 ++ [z], t2, zs.set (dn.length + d2.length) (zs.getD (dn.length + d2.length) 0 + y * z), _, by rw [ho, List.append_assoc]; rfl, by rw [List.length_append]; rfl, rfl, by rw [List.map_set], by rw [List.length_set]; exact hzl, fun t => ?_⟩
          rw [ev_set t _ hi, hev2, ev_append, ev1, Int.pow_add]; grind
      · rintro ρ2 H2 ⟨d2, t2, zs, o3, ho, hx2, rfl, rfl, hzl, hev2⟩
        cases t2 with
        | cons z t2 => rw [range'_len] at hx2; cases hx2
        | nil =>
          rw [List.append_nil] at ho
          subst ho
          refine hk _ _ ⟨dn ++ [y], td, zs, _, _, by rw [hr, List.append_assoc]; rfl, by rw [List.length_append]; rfl, rfl, rfl, hzl, fun t => ?_⟩
          rw [hev2, ev_append, ev1]; grind
  · rintro ρ H' ⟨dn, td, xs, o1, o2, hr, hx, rfl, rfl, hxl, hev⟩
    cases td with
    | cons y td => rw [range'_len] at hx; cases hx
    | nil =>
      rw [List.append_nil] at hr
      subst hr
      have : xs = mulP row o := ext_vals (by have := mulP_len hr0 ho0; (clear e hm hw hr0 ho0 hb hQ hr1 ho1 e0 hev hx; omega)) fun t => by
        show ev xs t = ev _ t
        rw [hev, ev_mulP]
      rw [this]; exact hQ

/-! the factors -/
end
end Mine

set_option autoImplicit false
set_option linter.unusedVariables false
namespace Mine

/-! values -/
end Mine

set_option autoImplicit false
set_option linter.unusedVariables false
namespace Mine

/-- the row goes up once from below nought to above nought in the stretch -/
structure UP (row : List Int) (p1 q1 p2 q2 : Int) : Prop where
  b1 : 0 < q1
  b2 : 0 < q2
  lt : p1 * q2 < p2 * q1
  lo : hval p1 q1 row < 0
  hi : 0 < hval p2 q2 row
  up : Up (hs (p1 * q2) (p2 * q1) (q1 * q2) row)
end Mine

set_option autoImplicit false
set_option linter.unusedVariables false
set_option linter.unusedSimpArgs false
set_option maxRecDepth 100000
namespace Mine
open PySem
/-- a value in its lowest form divides every other form -/
theorem low_le {p q a d : Int} (h1 : p.gcd q = 1) (hq : 0 < q) (hd : 0 < d) (e : p * d = a * q) : ∃ g : Int, 0 < g ∧ d = q * g ∧ a = p * g := by
  have hdv : q ∣ p * d := ⟨a, by rw [e, Int.mul_comm]⟩
  have h2 : q ∣ d := by
    have := Int.dvd_gcd_mul_iff_dvd_mul.mpr hdv
    rw [Int.gcd_comm, h1] at this
    rw [show d = ((1 : Nat) : Int) * d from (Int.one_mul d).symm]; exact this
  obtain ⟨g, rfl⟩ := h2
  refine ⟨g, Int.pos_of_mul_pos_right hd hq, rfl, ?_⟩
  have e2 : q * a = q * (p * g) := by grind
  exact Int.eq_of_mul_eq_mul_left (Int.ne_of_gt hq) e2
theorem Sm.of_le {k : Nat} {x y : Int} (h : Sm k y) (hx : x.natAbs ≤ y.natAbs) : Sm k x := Nat.lt_of_le_of_lt hx h
theorem low_sm' {k : Nat} {p q a d : Int} (h1 : p.gcd q = 1) (hq : 0 < q) (hd : 0 < d) (e : p * d = a * q) (sa : Sm k a) (sd : Sm k d) : Low k p q := by
  obtain ⟨g, hg, rfl, rfl⟩ := low_le h1 hq hd e
  have hg1 : 1 ≤ g.natAbs := by (clear h1 hq hd sd sa e; omega)
  refine ⟨sa.of_le ?_, sd.of_le ?_, hq, h1⟩
  · rw [Int.natAbs_mul]; exact Nat.le_mul_of_pos_right _ hg1
  · rw [Int.natAbs_mul]; exact Nat.le_mul_of_pos_right _ hg1
theorem Low.mono {k l : Nat} {p q : Int} (h : Low k p q) (hl : k ≤ l) : Low l p q := ⟨h.top.mono hl, h.bot.mono hl, h.pos, h.one⟩
theorem Low.neg {k : Nat} {p q : Int} (h : Low k p q) : Low k (-p) q := ⟨h.top.neg, h.bot, h.pos, by rw [Int.neg_gcd]; exact h.one⟩
section
variable {sub : Nat → Nat → Bool} {P : List Fn} {f n dv pa be ps pr ta sg : Nat} {H : Hp} {Q : V → Hp → Prop} {X : Nat → Hp → Prop}
theorem gcd_ok' {a b : Int} (hb : 0 < b) (hs : Sm 8000 b) : DivOk ((a.gcd b : Nat) : Int) := by
  have h0 : 0 < a.gcd b := Int.gcd_pos_of_ne_zero_right a (Int.ne_of_gt hb)
  have hle : a.gcd b ≤ b.natAbs := Nat.le_of_dvd (Int.natAbs_pos.mpr (Int.ne_of_gt hb)) (Int.natAbs_dvd_natAbs.mpr (Int.gcd_dvd_right a b))
  exact Int.natCast_ne_zero.mpr (Nat.ne_of_gt h0)
/-- part, the bottom above nought: the lowest form -/
theorem s_pp (e : P[f]? = some ⟨2, 3, bPPart dv⟩) (ed : P[dv]? = some ⟨2, 3, bPDiv⟩) {a b : Int} {k : Nat} (hb : 0 < b) (ha : Sm k a) (hs : Sm k b) (hk : k ≤ 8000) (hQ : ∀ p q : Int, Low k p q → p * b = a * q → Q (.tup [.int p, .int q]) H) : callN sub P (n + 2) f [.int a, .int b] H Q X := by
  refine callN_mk e rfl ?_
  dsimp only [bPPart, qS1, qS2, qS3, qS4, qS5, qS7, qS9, qS10, qS11, qS12, qS13, qS14, qE1, qE2, qE5, qE7, qE8, qE9, qE10, qE11, qE12, qE13, qE14, qE15, qE16, qE17, qE18, qE19, qE20, qE21, qE22, qEs1, qEs2, wpAll, qO1, qO2, qI1, qI2, qI3, w_add, w_addl, w_sub, w_mul, w_mull, w_fdiv, w_mod, w_pow, w_lt, w_le, w_gt, w_ge, w_eq, w_ne, w_isn, w_ist, w_isi, w_isl, w_abs, w_lent, w_lenl, w_intb, w_list, w_tuple, w_min, w_idxt0, w_idxt1, w_idxu0, w_idxu1, w_idxu2, w_idxl, w_slcl, w_tb, w_ti, w_tn, w_tt, w_tl, w_itt, w_itl, w_bindT1, w_bindT2, w_srcl, w_srct, w_cut2, w_cut1, w_cut1', w_cut0, w_ty1, w_ty2, w_ty3, w_ty4, w_ty5, w_ty6, w_ty7, w_ty8, w_ty9, w_ty10, w_ty11, w_ty12, w_ty13, w_ty14, w_ty15, w_ty16, w_ty17, w_ty18, w_ty19, w_ty20, w_ty21, w_mapc, w_mapn, w_appc, w_appn, w_repc, w_repn, w_start, w_lenc, w_ifT, w_ifF, w_ifFF, w_ifTF, w_nT, w_nF, w_anyT, w_anyF, w_d22, ifSome_some, ifLst_lst, ifTup_tup, ifInt_int, lget, lset, lsets, Nat.reduceSub, Nat.reduceAdd, List.length_nil, ↓reduceIte]
  rw [decide_eq_false (Int.ne_of_gt hb)]
  dsimp only [qS1, qS2, qS3, qS4, qS5, qS7, qS9, qS10, qS11, qS12, qS13, qS14, qE1, qE2, qE5, qE7, qE8, qE9, qE10, qE11, qE12, qE13, qE14, qE15, qE16, qE17, qE18, qE19, qE20, qE21, qE22, qEs1, qEs2, wpAll, qO1, qO2, qI1, qI2, qI3, w_add, w_addl, w_sub, w_mul, w_mull, w_fdiv, w_mod, w_pow, w_lt, w_le, w_gt, w_ge, w_eq, w_ne, w_isn, w_ist, w_isi, w_isl, w_abs, w_lent, w_lenl, w_intb, w_list, w_tuple, w_min, w_idxt0, w_idxt1, w_idxu0, w_idxu1, w_idxu2, w_idxl, w_slcl, w_tb, w_ti, w_tn, w_tt, w_tl, w_itt, w_itl, w_bindT1, w_bindT2, w_srcl, w_srct, w_cut2, w_cut1, w_cut1', w_cut0, w_ty1, w_ty2, w_ty3, w_ty4, w_ty5, w_ty6, w_ty7, w_ty8, w_ty9, w_ty10, w_ty11, w_ty12, w_ty13, w_ty14, w_ty15, w_ty16, w_ty17, w_ty18, w_ty19, w_ty20, w_ty21, w_mapc, w_mapn, w_appc, w_appn, w_repc, w_repn, w_start, w_lenc, w_ifT, w_ifF, w_ifFF, w_ifTF, w_nT, w_nF, w_anyT, w_anyF, w_d22, ifSome_some, ifLst_lst, ifTup_tup, ifInt_int, lget, lset, lsets, Nat.reduceSub, Nat.reduceAdd, List.length_nil, ↓reduceIte]
  refine s_pdiv ed ?_
  have ok := gcd_ok' (a := a) hb (hs.mono hk)
  rw [decide_eq_false (Int.not_lt.mpr (Int.le_of_lt hb))]
  have e1 := Int.fdiv_mul_cancel (Int.gcd_dvd_left a b)
  have e2 := Int.fdiv_mul_cancel (Int.gcd_dvd_right a b)
  refine ⟨ok, ok, hQ _ _ (low_of ha hs hb e1 e2) ?_⟩
  generalize a.fdiv ((a.gcd b : Nat) : Int) = p at *
  generalize b.fdiv ((a.gcd b : Nat) : Int) = q at *
  generalize ((a.gcd b : Nat) : Int) = g at *
  subst e1 e2; grind
/-- the law's own part -/
theorem s_lp (e : P[f]? = some ⟨2, 3, bPart dv⟩) (ed : P[dv]? = some ⟨2, 3, bDiv⟩) {a b : Int} {k : Nat} (hb : 0 < b) (ha : Sm k a) (hs : Sm k b) (hk : k ≤ 8000) (hQ : ∀ p q : Int, Low k p q → p * b = a * q → Q (.tup [.int p, .int q]) H) : callN sub P (n + 2) f [.int a, .int b] H Q X := by
  refine callN_mk e rfl ?_
  dsimp only [bPart, qS1, qS2, qS3, qS4, qS5, qS7, qS9, qS10, qS11, qS12, qS13, qS14, qE1, qE2, qE5, qE7, qE8, qE9, qE10, qE11, qE12, qE13, qE14, qE15, qE16, qE17, qE18, qE19, qE20, qE21, qE22, qEs1, qEs2, wpAll, qO1, qO2, qI1, qI2, qI3, w_add, w_addl, w_sub, w_mul, w_mull, w_fdiv, w_mod, w_pow, w_lt, w_le, w_gt, w_ge, w_eq, w_ne, w_isn, w_ist, w_isi, w_isl, w_abs, w_lent, w_lenl, w_intb, w_list, w_tuple, w_min, w_idxt0, w_idxt1, w_idxu0, w_idxu1, w_idxu2, w_idxl, w_slcl, w_tb, w_ti, w_tn, w_tt, w_tl, w_itt, w_itl, w_bindT1, w_bindT2, w_srcl, w_srct, w_cut2, w_cut1, w_cut1', w_cut0, w_ty1, w_ty2, w_ty3, w_ty4, w_ty5, w_ty6, w_ty7, w_ty8, w_ty9, w_ty10, w_ty11, w_ty12, w_ty13, w_ty14, w_ty15, w_ty16, w_ty17, w_ty18, w_ty19, w_ty20, w_ty21, w_mapc, w_mapn, w_appc, w_appn, w_repc, w_repn, w_start, w_lenc, w_ifT, w_ifF, w_ifFF, w_ifTF, w_nT, w_nF, w_anyT, w_anyF, w_d22, ifSome_some, ifLst_lst, ifTup_tup, ifInt_int, lget, lset, lsets, Nat.reduceSub, Nat.reduceAdd, List.length_nil, ↓reduceIte]
  refine s_div ed ?_
  have ok := gcd_ok' (a := a) hb (hs.mono hk)
  rw [decide_eq_false (Int.not_lt.mpr (Int.le_of_lt hb))]
  have e1 := Int.fdiv_mul_cancel (Int.gcd_dvd_left a b)
  have e2 := Int.fdiv_mul_cancel (Int.gcd_dvd_right a b)
  refine ⟨ok, ok, hQ _ _ (low_of ha hs hb e1 e2) ?_⟩
  generalize a.fdiv ((a.gcd b : Nat) : Int) = p at *
  generalize b.fdiv ((a.gcd b : Nat) : Int) = q at *
  generalize ((a.gcd b : Nat) : Int) = g at *
  subst e1 e2; grind
theorem s_ps (e : P[ps]? = some ⟨2, 2, bPSum pa⟩) (ep : P[pa]? = some ⟨2, 3, bPPart dv⟩) (ed : P[dv]? = some ⟨2, 3, bPDiv⟩) {p1 q1 p2 q2 : Int} {k l : Nat} (a1 : Low k p1 q1) (a2 : Low l p2 q2) (hk : k + l + 1 ≤ 8000)
    (hQ : ∀ p q : Int, Low (k + l + 1) p q → p * (q1 * q2) = (p1 * q2 + p2 * q1) * q → Q (.tup [.int p, .int q]) H) : callN sub P (n + 3) ps [.tup [.int p1, .int q1], .tup [.int p2, .int q2]] H Q X := by
  refine callN_mk e rfl ?_
  dsimp only [bPSum, qS1, qS2, qS3, qS4, qS5, qS7, qS9, qS10, qS11, qS12, qS13, qS14, qE1, qE2, qE5, qE7, qE8, qE9, qE10, qE11, qE12, qE13, qE14, qE15, qE16, qE17, qE18, qE19, qE20, qE21, qE22, qEs1, qEs2, wpAll, qO1, qO2, qI1, qI2, qI3, w_add, w_addl, w_sub, w_mul, w_mull, w_fdiv, w_mod, w_pow, w_lt, w_le, w_gt, w_ge, w_eq, w_ne, w_isn, w_ist, w_isi, w_isl, w_abs, w_lent, w_lenl, w_intb, w_list, w_tuple, w_min, w_idxt0, w_idxt1, w_idxu0, w_idxu1, w_idxu2, w_idxl, w_slcl, w_tb, w_ti, w_tn, w_tt, w_tl, w_itt, w_itl, w_bindT1, w_bindT2, w_srcl, w_srct, w_cut2, w_cut1, w_cut1', w_cut0, w_ty1, w_ty2, w_ty3, w_ty4, w_ty5, w_ty6, w_ty7, w_ty8, w_ty9, w_ty10, w_ty11, w_ty12, w_ty13, w_ty14, w_ty15, w_ty16, w_ty17, w_ty18, w_ty19, w_ty20, w_ty21, w_mapc, w_mapn, w_appc, w_appn, w_repc, w_repn, w_start, w_lenc, w_ifT, w_ifF, w_ifFF, w_ifTF, w_nT, w_nF, w_anyT, w_anyF, w_d22, ifSome_some, ifLst_lst, ifTup_tup, ifInt_int, lget, lset, lsets, Nat.reduceSub, Nat.reduceAdd, List.length_nil, ↓reduceIte]
  have hk1 : k ≤ 1048576 := by (clear e ep ed a1 a2 hQ; omega)
  have hl1 : l ≤ 1048576 := by (clear e ep ed a1 a2 hQ; omega)
  refine ⟨IntMulOk.sm a1.top a2.bot hk1 hl1, IntMulOk.sm a2.top a1.bot hl1 hk1, IntMulOk.sm a1.bot a2.bot hk1 hl1, ?_⟩
  exact s_pp ep ed (Int.mul_pos a1.pos a2.pos) ((a1.top.mul a2.bot).add ((a2.top.mul a1.bot).mono (by (clear e ep ed a1 a2 hk hQ hk1 hl1; omega)))) ((a1.bot.mul a2.bot).mono (by (clear e ep ed a1 a2 hk hQ hk1 hl1; omega))) hk hQ
noncomputable def bPProd (pa : Nat) : PS := (.seq (.ret (.call pa (.cons (.bin .mul (.idx (.var 0) (.cint 0)) (.idx (.var 1) (.cint 0))) (.cons (.bin .mul (.idx (.var 0) (.cint 1)) (.idx (.var 1) (.cint 1))) .nil))))
 .skip)
theorem s_pr (e : P[pr]? = some ⟨2, 2, bPProd pa⟩) (ep : P[pa]? = some ⟨2, 3, bPPart dv⟩) (ed : P[dv]? = some ⟨2, 3, bPDiv⟩) {p1 q1 p2 q2 : Int} {k l : Nat} (t1 : Sm k p1) (b1 : Sm k q1) (c1 : 0 < q1) (t2 : Sm l p2) (b2 : Sm l q2) (c2 : 0 < q2) (hk : k + l ≤ 8000)
    (hQ : ∀ p q : Int, Low (k + l) p q → p * (q1 * q2) = (p1 * p2) * q → Q (.tup [.int p, .int q]) H) : callN sub P (n + 3) pr [.tup [.int p1, .int q1], .tup [.int p2, .int q2]] H Q X := by
  refine callN_mk e rfl ?_
  dsimp only [bPProd, qS1, qS2, qS3, qS4, qS5, qS7, qS9, qS10, qS11, qS12, qS13, qS14, qE1, qE2, qE5, qE7, qE8, qE9, qE10, qE11, qE12, qE13, qE14, qE15, qE16, qE17, qE18, qE19, qE20, qE21, qE22, qEs1, qEs2, wpAll, qO1, qO2, qI1, qI2, qI3, w_add, w_addl, w_sub, w_mul, w_mull, w_fdiv, w_mod, w_pow, w_lt, w_le, w_gt, w_ge, w_eq, w_ne, w_isn, w_ist, w_isi, w_isl, w_abs, w_lent, w_lenl, w_intb, w_list, w_tuple, w_min, w_idxt0, w_idxt1, w_idxu0, w_idxu1, w_idxu2, w_idxl, w_slcl, w_tb, w_ti, w_tn, w_tt, w_tl, w_itt, w_itl, w_bindT1, w_bindT2, w_srcl, w_srct, w_cut2, w_cut1, w_cut1', w_cut0, w_ty1, w_ty2, w_ty3, w_ty4, w_ty5, w_ty6, w_ty7, w_ty8, w_ty9, w_ty10, w_ty11, w_ty12, w_ty13, w_ty14, w_ty15, w_ty16, w_ty17, w_ty18, w_ty19, w_ty20, w_ty21, w_mapc, w_mapn, w_appc, w_appn, w_repc, w_repn, w_start, w_lenc, w_ifT, w_ifF, w_ifFF, w_ifTF, w_nT, w_nF, w_anyT, w_anyF, w_d22, ifSome_some, ifLst_lst, ifTup_tup, ifInt_int, lget, lset, lsets, Nat.reduceSub, Nat.reduceAdd, List.length_nil, ↓reduceIte]
  have hk1 : k ≤ 1048576 := by (clear e ep ed t1 b1 c1 t2 b2 c2 hQ; omega)
  have hl1 : l ≤ 1048576 := by (clear e ep ed t1 b1 c1 t2 b2 c2 hQ; omega)
  refine ⟨IntMulOk.sm t1 t2 hk1 hl1, IntMulOk.sm b1 b2 hk1 hl1, ?_⟩
  exact s_pp ep ed (Int.mul_pos c1 c2) (t1.mul t2) (b1.mul b2) hk hQ
noncomputable def bTurn : PS := (.seq (.ret (.tup (.cons (.neg (.idx (.var 0) (.cint 0))) (.cons (.idx (.var 0) (.cint 1)) .nil))))
 .skip)
theorem s_ta (e : P[ta]? = some ⟨1, 1, bTurn⟩) {p q : Int} (hQ : Q (.tup [.int (-p), .int q]) H) : callN sub P (n + 1) ta [.tup [.int p, .int q]] H Q X := callN_mk e rfl hQ

noncomputable def cNarr (be ps ta : Nat) : PE := (.call be (.cons (.var 1) (.cons (.call ps (.cons (.var 4) (.cons (.call ta (.cons (.var 3) .nil)) .nil))) .nil)))
noncomputable def lNarr2 (sg : Nat) : PS := (.seq (.ite (.cmp .eq (.var 6) (.call sg (.cons (.var 2) (.cons (.var 3) .nil)))) (.seq (.assign 3 (.var 5))
 .skip) (.seq (.assign 4 (.var 5))
 .skip))
 .skip)
noncomputable def lNarr (ps pr ta sg : Nat) : PS := (.seq (.assign 5 (.call pr (.cons (.call ps (.cons (.var 3) (.cons (.var 4) .nil))) (.cons (.glob (Str.ofString "HALF") 1 2) .nil))))
 (.seq (.assign 6 (.call sg (.cons (.var 2) (.cons (.var 5) .nil))))
 (.seq (.ite (.cmp .eq (.var 6) (.cint 0)) (.seq (.assign 7 (.call pr (.cons (.var 1) (.cons (.glob (Str.ofString "QUARTER") 1 4) .nil))))
 (.seq (.ret (.tup (.cons (.var 2) (.cons (.call ps (.cons (.var 5) (.cons (.call ta (.cons (.var 7) .nil)) .nil))) (.cons (.call ps (.cons (.var 5) (.cons (.var 7) .nil))) .nil)))))
 .skip)) .skip)
 (lNarr2 sg))))
end
/-! the plain side of one step -/
end Mine

namespace Mine
theorem two_pow_pos (n : Nat) : (0 : Rat) < 2 ^ n := Rat.pow_pos (by decide)
/-- sequences with a rate -/
structure Sq where
  f : Nat → Rat
  c : ∃ K : Rat, ∀ n m, n ≤ m → (f n - f m) * 2 ^ n ≤ K ∧ (f m - f n) * 2 ^ n ≤ K
theorem Sq.bd (x : Sq) : ∃ B : Rat, 0 ≤ B ∧ ∀ n, x.f n ≤ B ∧ - B ≤ x.f n := by
  obtain ⟨K, h⟩ := x.c
  have h0 := h 0 0 (Nat.le_refl _)
  refine ⟨K + (x.f 0).abs, ?_, fun n => ?_⟩
  · have := @Rat.abs_nonneg (x.f 0); grind
  · have := h 0 n (Nat.zero_le _)
    rw [Rat.pow_zero, Rat.mul_one, Rat.mul_one] at this
    have a1 : x.f 0 ≤ (x.f 0).abs := by unfold Rat.abs; grind
    have a2 : - (x.f 0).abs ≤ x.f 0 := by unfold Rat.abs; grind
    grind
noncomputable def Sq.ofRat (q : Rat) : Sq := ⟨fun _ => q, 0, fun n m _ => by grind⟩
noncomputable def Sq.add (x y : Sq) : Sq := ⟨fun n => x.f n + y.f n, by
  obtain ⟨K, h⟩ := x.c; obtain ⟨L, g⟩ := y.c
  refine ⟨K + L, fun n m hm => ?_⟩
  have := h n m hm; have := g n m hm; grind⟩
noncomputable def Sq.neg (x : Sq) : Sq := ⟨fun n => - x.f n, by
  obtain ⟨K, h⟩ := x.c
  refine ⟨K, fun n m hm => ?_⟩
  have := h n m hm; grind⟩
theorem rmul_nonneg {a b : Rat} (ha : 0 ≤ a) (hb : 0 ≤ b) : 0 ≤ a * b := Rat.mul_nonneg ha hb
theorem mulb {u v B L : Rat} (h1 : u ≤ B) (h2 : -B ≤ u) (g1 : v ≤ L) (g2 : -L ≤ v) : u * v ≤ B * L ∧ -(B * L) ≤ u * v := by
  have e1 := rmul_nonneg (a := B - u) (b := L + v) (by grind) (by grind)
  have e2 := rmul_nonneg (a := B + u) (b := L - v) (by grind) (by grind)
  have e3 := rmul_nonneg (a := B - u) (b := L - v) (by grind) (by grind)
  have e4 := rmul_nonneg (a := B + u) (b := L + v) (by grind) (by grind)
  constructor <;> grind
noncomputable def Sq.mul (x y : Sq) : Sq := ⟨fun n => x.f n * y.f n, by
  obtain ⟨K, h⟩ := x.c; obtain ⟨L, g⟩ := y.c
  obtain ⟨B, hB, b⟩ := x.bd; obtain ⟨C, hC, c⟩ := y.bd
  refine ⟨B * L + C * K, fun n m hm => ?_⟩
  have h1 := h n m hm; have g1 := g n m hm
  have e1 := mulb (u := x.f n) (v := (y.f n - y.f m) * 2 ^ n) (B := B) (L := L) (b n).1 (b n).2 g1.1 (by grind)
  have e2 := mulb (u := y.f m) (v := (x.f n - x.f m) * 2 ^ n) (B := C) (L := K) (c m).1 (c m).2 h1.1 (by grind)
  constructor <;> grind⟩
noncomputable def Sq.le (x y : Sq) : Prop := ∃ K : Rat, ∀ n, (x.f n - y.f n) * 2 ^ n ≤ K
theorem Sq.le_refl (x : Sq) : x.le x := ⟨0, fun n => by grind⟩
theorem Sq.le_trans {x y z : Sq} : x.le y → y.le z → x.le z := fun ⟨K, h⟩ ⟨L, g⟩ => ⟨K + L, fun n => by have := h n; have := g n; grind⟩
theorem Sq.le_total (x y : Sq) : x.le y ∨ y.le x := by
  rcases Classical.em (x.le y) with h | h
  · exact .inl h
  · right
    obtain ⟨K, hx⟩ := x.c; obtain ⟨L, hy⟩ := y.c
    have : ∃ n, K + L < (x.f n - y.f n) * 2 ^ n := by
      refine Classical.byContradiction fun hn => h ⟨K + L, fun n => ?_⟩
      exact Rat.not_lt.mp fun hlt => hn ⟨n, hlt⟩
    obtain ⟨n, hn⟩ := this
    refine ⟨K + L, fun m => ?_⟩
    have p0 := two_pow_pos n
    have k0 : 0 ≤ K := by have := hx 0 0 (Nat.le_refl _); grind
    have l0 : 0 ≤ L := by have := hy 0 0 (Nat.le_refl _); grind
    rcases Nat.le_total n m with hm | hm
    · have a := hx n m hm; have b := hy n m hm
      have : 0 < (x.f m - y.f m) * 2 ^ n := by grind
      have h3 : 0 < x.f m - y.f m := by
        refine Rat.not_le.mp fun hle => ?_
        have := rmul_nonneg (a := - (x.f m - y.f m)) (b := 2 ^ n) (by grind) (Rat.le_of_lt p0)
        grind
      have := rmul_nonneg (Rat.le_of_lt h3) (Rat.le_of_lt (two_pow_pos m))
      grind
    · have a := hx m n hm; have b := hy m n hm
      have h3 : 0 < x.f n - y.f n := by
        refine Rat.not_le.mp fun hle => ?_
        have := rmul_nonneg (a := - (x.f n - y.f n)) (b := 2 ^ n) (by grind) (Rat.le_of_lt p0)
        grind
      have := rmul_nonneg (Rat.le_of_lt h3) (Rat.le_of_lt (two_pow_pos m))
      grind
noncomputable instance Sq.st : Setoid Sq := ⟨fun x y => x.le y ∧ y.le x, fun _ => ⟨Sq.le_refl _, Sq.le_refl _⟩, fun h => ⟨h.2, h.1⟩, fun h g => ⟨Sq.le_trans h.1 g.1, Sq.le_trans g.2 h.2⟩⟩
noncomputable def Re : Type := Quotient Sq.st
theorem Sq.add_le {x y z w : Sq} : x.le y → z.le w → (x.add z).le (y.add w) := fun ⟨K, h⟩ ⟨L, g⟩ => ⟨K + L, fun n => by
  have := h n; have := g n; show (x.f n + z.f n - (y.f n + w.f n)) * 2 ^ n ≤ K + L; grind⟩
theorem Sq.neg_le {x y : Sq} : x.le y → (y.neg).le x.neg := fun ⟨K, h⟩ => ⟨K, fun n => by
  have := h n; show (- y.f n - - x.f n) * 2 ^ n ≤ K; grind⟩
theorem Sq.mul_eqv {x y z w : Sq} (h : x ≈ y) (g : z ≈ w) : (x.mul z).le (y.mul w) := by
  obtain ⟨⟨K, h1⟩, K', h2⟩ := h; obtain ⟨⟨L, g1⟩, L', g2⟩ := g
  obtain ⟨B, hB, b⟩ := x.bd; obtain ⟨C, hC, c⟩ := w.bd
  have k0 : ∃ M : Rat, K ≤ M ∧ K' ≤ M := ⟨if K ≤ K' then K' else K, by grind⟩
  have l0 : ∃ M : Rat, L ≤ M ∧ L' ≤ M := ⟨if L ≤ L' then L' else L, by grind⟩
  obtain ⟨M, m1, m2⟩ := k0; obtain ⟨N, n1, n2⟩ := l0
  refine ⟨B * N + C * M, fun n => ?_⟩
  have p1 := h1 n; have p2 := h2 n; have q1 := g1 n; have q2 := g2 n
  have e1 := mulb (u := x.f n) (v := (z.f n - w.f n) * 2 ^ n) (B := B) (L := N) (b n).1 (b n).2 (by grind) (by grind)
  have e2 := mulb (u := w.f n) (v := (x.f n - y.f n) * 2 ^ n) (B := C) (L := M) (c n).1 (c n).2 (by grind) (by grind)
  show (x.f n * z.f n - y.f n * w.f n) * 2 ^ n ≤ _
  grind
theorem Sq.eqv_of {x y : Sq} (h : ∀ n, x.f n = y.f n) : x ≈ y := ⟨⟨0, fun n => by rw [h]; grind⟩, ⟨0, fun n => by rw [h]; grind⟩⟩
namespace Re
noncomputable def mk (x : Sq) : Re := Quotient.mk _ x
noncomputable instance : Add Re := ⟨Quotient.lift₂ (fun x y => mk (Sq.add x y)) fun _ _ _ _ h g => Quotient.sound ⟨Sq.add_le h.1 g.1, Sq.add_le h.2 g.2⟩⟩
noncomputable instance : Mul Re := ⟨Quotient.lift₂ (fun x y => mk (Sq.mul x y)) fun _ _ _ _ h g => Quotient.sound ⟨Sq.mul_eqv h g, Sq.mul_eqv (Setoid.symm h) (Setoid.symm g)⟩⟩
noncomputable instance : Neg Re := ⟨Quotient.lift (fun x => mk (Sq.neg x)) fun _ _ h => Quotient.sound ⟨Sq.neg_le h.2, Sq.neg_le h.1⟩⟩
noncomputable instance : Sub Re := ⟨fun x y => x + -y⟩
noncomputable instance : NatCast Re := ⟨fun n => mk (Sq.ofRat (n : Rat))⟩
noncomputable instance : IntCast Re := ⟨fun n => mk (Sq.ofRat (n : Rat))⟩
noncomputable instance (n : Nat) : OfNat Re n := ⟨((n : Nat) : Re)⟩
noncomputable def npow (x : Re) : Nat → Re
  | 0 => 1
  | n + 1 => npow x n * x
noncomputable instance : HPow Re Nat Re := ⟨npow⟩
noncomputable instance : SMul Nat Re := ⟨fun n x => (n : Re) * x⟩
noncomputable instance : SMul Int Re := ⟨fun n x => (n : Re) * x⟩
noncomputable def leR : Re → Re → Prop := Quotient.lift₂ Sq.le fun _ _ _ _ h g => propext ⟨fun k => Sq.le_trans (Sq.le_trans h.2 k) g.1, fun k => Sq.le_trans (Sq.le_trans h.1 k) g.2⟩
noncomputable instance : LE Re := ⟨leR⟩
noncomputable instance : LT Re := ⟨fun x y => ¬ y ≤ x⟩
theorem ext1 {x y : Sq} (h : ∀ n, x.f n = y.f n) : mk x = mk y := Quotient.sound (Sq.eqv_of h)
theorem ind1 {P : Re → Prop} (h : ∀ x, P (mk x)) : ∀ x, P x := Quotient.ind h
theorem add_c (x y : Re) : x + y = y + x := ind1 (P := fun x => x + y = y + x) (fun a => ind1 (P := fun y => mk a + y = y + mk a) (fun b => ext1 (x := a.add b) (y := b.add a) fun _ => Rat.add_comm _ _) y) x
noncomputable instance : Lean.Grind.CommRing Re where
  add_zero x := ind1 (P := fun x => x + 0 = x) (fun a => ext1 (x := a.add (.ofRat ((0 : Nat) : Rat))) (y := a) fun n => Rat.add_zero _) x
  add_comm := add_c
  add_assoc x y z := ind1 (P := fun x => x + y + z = x + (y + z)) (fun a => ind1 (P := fun y => mk a + y + z = mk a + (y + z)) (fun b => ind1 (P := fun z => mk a + mk b + z = mk a + (mk b + z)) (fun c => ext1 (x := (a.add b).add c) (y := a.add (b.add c)) fun n => Rat.add_assoc _ _ _) z) y) x
  mul_assoc x y z := ind1 (P := fun x => x * y * z = x * (y * z)) (fun a => ind1 (P := fun y => mk a * y * z = mk a * (y * z)) (fun b => ind1 (P := fun z => mk a * mk b * z = mk a * (mk b * z)) (fun c => ext1 (x := (a.mul b).mul c) (y := a.mul (b.mul c)) fun n => Rat.mul_assoc _ _ _) z) y) x
  mul_one x := ind1 (P := fun x => x * 1 = x) (fun a => ext1 (x := a.mul (.ofRat ((1 : Nat) : Rat))) (y := a) fun n => Rat.mul_one _) x
  one_mul x := ind1 (P := fun x => 1 * x = x) (fun a => ext1 (x := (Sq.ofRat ((1 : Nat) : Rat)).mul a) (y := a) fun n => Rat.one_mul _) x
  left_distrib x y z := ind1 (P := fun x => x * (y + z) = x * y + x * z) (fun a => ind1 (P := fun y => mk a * (y + z) = mk a * y + mk a * z) (fun b => ind1 (P := fun z => mk a * (mk b + z) = mk a * mk b + mk a * z) (fun c => ext1 (x := a.mul (b.add c)) (y := (a.mul b).add (a.mul c)) fun n => Rat.mul_add _ _ _) z) y) x
  right_distrib x y z := ind1 (P := fun x => (x + y) * z = x * z + y * z) (fun a => ind1 (P := fun y => (mk a + y) * z = mk a * z + y * z) (fun b => ind1 (P := fun z => (mk a + mk b) * z = mk a * z + mk b * z) (fun c => ext1 (x := (a.add b).mul c) (y := (a.mul c).add (b.mul c)) fun n => Rat.add_mul _ _ _) z) y) x
  zero_mul x := ind1 (P := fun x => 0 * x = 0) (fun a => ext1 (x := (Sq.ofRat ((0 : Nat) : Rat)).mul a) (y := .ofRat ((0 : Nat) : Rat)) fun n => Rat.zero_mul _) x
  mul_zero x := ind1 (P := fun x => x * 0 = 0) (fun a => ext1 (x := a.mul (.ofRat ((0 : Nat) : Rat))) (y := .ofRat ((0 : Nat) : Rat)) fun n => Rat.mul_zero _) x
  mul_comm x y := ind1 (P := fun x => x * y = y * x) (fun a => ind1 (P := fun y => mk a * y = y * mk a) (fun b => ext1 (x := a.mul b) (y := b.mul a) fun n => Rat.mul_comm _ _) y) x
  pow_zero x := rfl
  pow_succ x n := rfl
  ofNat_succ n := ext1 (x := .ofRat ((n + 1 : Nat) : Rat)) (y := (Sq.ofRat ((n : Nat) : Rat)).add (.ofRat ((1 : Nat) : Rat))) fun k => by show ((n + 1 : Nat) : Rat) = (n : Rat) + ((1 : Nat) : Rat); grind
  neg_add_cancel x := ind1 (P := fun x => -x + x = 0) (fun a => ext1 (x := a.neg.add a) (y := .ofRat ((0 : Nat) : Rat)) fun n => Rat.neg_add_cancel _) x
  sub_eq_add_neg x y := rfl
  neg_zsmul i x := ind1 (P := fun x => ((-i : Int) : Re) * x = -((i : Re) * x)) (fun a => ext1 (x := (Sq.ofRat ((-i : Int) : Rat)).mul a) (y := ((Sq.ofRat (i : Rat)).mul a).neg) fun n => by show ((-i : Int) : Rat) * a.f n = - ((i : Rat) * a.f n); rw [Rat.intCast_neg, Rat.neg_mul]) x
  zsmul_natCast_eq_nsmul n x := rfl
  intCast_neg i := ext1 (x := .ofRat ((-i : Int) : Rat)) (y := (Sq.ofRat (i : Rat)).neg) fun n => Rat.intCast_neg _
instance : Std.IsLinearOrder Re where
  le_refl x := ind1 (P := fun x => x ≤ x) (fun a => Sq.le_refl a) x
  le_trans x y z := ind1 (P := fun x => x ≤ y → y ≤ z → x ≤ z) (fun a => ind1 (P := fun y => mk a ≤ y → y ≤ z → mk a ≤ z) (fun b => ind1 (P := fun z => mk a ≤ mk b → mk b ≤ z → mk a ≤ z) (fun _ => Sq.le_trans) z) y) x
  le_antisymm x y := ind1 (P := fun x => x ≤ y → y ≤ x → x = y) (fun a => ind1 (P := fun y => mk a ≤ y → y ≤ mk a → mk a = y) (fun _ h g => Quotient.sound ⟨h, g⟩) y) x
  le_total x y := ind1 (P := fun x => x ≤ y ∨ y ≤ x) (fun a => ind1 (P := fun y => mk a ≤ y ∨ y ≤ mk a) (fun b => Sq.le_total a b) y) x
instance : Std.LawfulOrderLT Re where
  lt_iff x y := ⟨fun h => ⟨(Std.le_total (a := x) (b := y)).resolve_right h, h⟩, fun h => h.2⟩
instance : Lean.Grind.OrderedAdd Re where
  add_le_left_iff {x y} z := by
    refine ⟨fun h => ?_, fun h => ?_⟩
    · revert h
      exact ind1 (P := fun x => x ≤ y → x + z ≤ y + z) (fun a => ind1 (P := fun y => mk a ≤ y → mk a + z ≤ y + z) (fun b => ind1 (P := fun z => mk a ≤ mk b → mk a + z ≤ mk b + z) (fun c h => show Sq.le (a.add c) (b.add c) from Sq.add_le h (Sq.le_refl c)) z) y) x
    · have key : ∀ x y z : Re, x ≤ y → x + z ≤ y + z := fun x y z => ind1 (P := fun x => x ≤ y → x + z ≤ y + z) (fun a => ind1 (P := fun y => mk a ≤ y → mk a + z ≤ y + z) (fun b => ind1 (P := fun z => mk a ≤ mk b → mk a + z ≤ mk b + z) (fun c h => show Sq.le (a.add c) (b.add c) from Sq.add_le h (Sq.le_refl c)) z) y) x
      have := key _ _ (-z) h
      rwa [show x + z + -z = x by grind, show y + z + -z = y by grind] at this
theorem arch (K : Rat) : ∃ m : Nat, K < 2 ^ m := by
  refine ⟨K.num.natAbs, ?_⟩
  have h1 : K ≤ (K.num.natAbs : Rat) := by
    rw [Rat.le_iff]
    show K.num * ((1 : Nat) : Int) ≤ ((K.num.natAbs : Nat) : Int) * (K.den : Int)
    have d := K.den_pos
    have : ((K.num.natAbs : Nat) : Int) * 1 ≤ ((K.num.natAbs : Nat) : Int) * (K.den : Int) := Int.mul_le_mul_of_nonneg_left (by omega) (by (clear d; omega))
    (clear d; omega)
  have h2 : ∀ n : Nat, (n : Rat) < 2 ^ n := fun n => by
    have := Rat.natCast_lt_natCast.mpr (Nat.lt_two_pow_self (n := n))
    rwa [Rat.natCast_pow] at this
  have := h2 K.num.natAbs
  grind
theorem Sq.pos {x : Sq} (h : ¬ x.le (.ofRat ((0 : Nat) : Rat))) : ∃ n, ∀ m, n ≤ m → 1 < x.f m * 2 ^ n := by
  obtain ⟨K, hK⟩ := x.c
  refine Classical.byContradiction fun hn => h ⟨K + 1, fun n => ?_⟩
  refine Rat.not_lt.mp fun hlt => hn ⟨n, fun m hm => ?_⟩
  have := hK n m hm
  have e : (Sq.ofRat ((0 : Nat) : Rat)).f n = 0 := rfl
  rw [e] at hlt
  grind
theorem mul_pos {x y : Re} : 0 < x → 0 < y → 0 < x * y := by
  refine ind1 (P := fun x => 0 < x → 0 < y → 0 < x * y) (fun a => ind1 (P := fun y => 0 < mk a → 0 < y → 0 < mk a * y) (fun b h g => ?_) y) x
  obtain ⟨n, hn⟩ := Sq.pos (x := a) h
  obtain ⟨k, hk⟩ := Sq.pos (x := b) g
  rintro ⟨K, hK⟩
  obtain ⟨m, hm⟩ := arch K
  have a1 := hn (n + k + m) (by (clear h g hn hk hK hm; omega))
  have a2 := hk (n + k + m) (by (clear h g hn hk hK hm a1; omega))
  have a3 : (a.f (n + k + m) * b.f (n + k + m) - ((0 : Nat) : Rat)) * 2 ^ (n + k + m) ≤ K := hK (n + k + m)
  revert a1 a2 a3
  generalize a.f (n + k + m) = u
  generalize b.f (n + k + m) = v
  intro a1 a2 a3
  have e : (u * v - ((0 : Nat) : Rat)) * 2 ^ (n + k + m) = (u * 2 ^ n) * (v * 2 ^ k) * 2 ^ m := by rw [show ((0 : Nat) : Rat) = 0 from rfl]; grind
  have p1 : 0 < (u * 2 ^ n - 1) * (v * 2 ^ k - 1) := Rat.mul_pos (by grind) (by grind)
  have p2 : 0 < ((u * 2 ^ n) * (v * 2 ^ k) - 1) * 2 ^ m := Rat.mul_pos (by grind) (two_pow_pos m)
  grind
instance : Lean.Grind.OrderedRing Re where
  zero_lt_one := by
    rintro ⟨K, hK⟩
    obtain ⟨m, hm⟩ := arch K
    have : (((1 : Nat) : Rat) - ((0 : Nat) : Rat)) * 2 ^ m ≤ K := hK m
    rw [show ((0 : Nat) : Rat) = 0 from rfl, show ((1 : Nat) : Rat) = 1 from rfl] at this
    grind
  mul_lt_mul_of_pos_left {a b c} h g := by
    have := mul_pos (x := c) (y := b - a) g (by grind)
    rw [show c * (b - a) = c * b - c * a by grind] at this
    generalize c * b = u at *; generalize c * a = v at *
    grind
  mul_lt_mul_of_pos_right {a b c} h g := by
    have := mul_pos (x := c) (y := b - a) g (by grind)
    rw [show c * (b - a) = b * c - a * c by grind] at this
    generalize b * c = u at *; generalize a * c = v at *
    grind
example (x y : Re) (h : 0 < x) (g : x < y) : x * x < y * y := by
  have := mul_pos h h; have := mul_pos h (show 0 < y - x by grind); have := mul_pos (show 0 < y by grind) (show 0 < y - x by grind); grind
end Re
end Mine

namespace Mine
open Re
theorem l_sp {a b : Re} (h : a < b) : 0 < b - a := by grind
theorem l_sn {a b : Re} (h : a < b) : a - b < 0 := by grind
theorem l_sl {a b : Re} (h : a ≤ b) : 0 ≤ b - a := by grind
theorem l_tt {a b c : Re} (h : a < b) (g : b < c) : a < c := by grind
theorem l_tl {a b c : Re} (h : a < b) (g : b ≤ c) : a < c := by grind
theorem l_lt {a b c : Re} (h : a ≤ b) (g : b < c) : a < c := by grind
theorem l_ll {a b c : Re} (h : a ≤ b) (g : b ≤ c) : a ≤ c := by grind
theorem l_le {a b : Re} (h : a < b) : a ≤ b := by grind
theorem l_nl {a b : Re} (h : ¬ a < b) : b ≤ a := by grind
theorem l_nL {a b : Re} (h : ¬ a ≤ b) : b < a := by grind
end Mine

namespace Mine
theorem ex_sq : ∀ N : Nat, ∃ A : Nat, A * A ≤ N ∧ N < (A + 1) * (A + 1)
  | 0 => ⟨0, by decide, by decide⟩
  | N + 1 => by
    obtain ⟨A, h1, h2⟩ := ex_sq N
    rcases Nat.lt_or_ge (N + 1) ((A + 1) * (A + 1)) with h | h
    · exact ⟨A, Nat.le_succ_of_le h1, h⟩
    · exact ⟨A + 1, h, by have : (A + 1 + 1) * (A + 1 + 1) = (A + 1) * (A + 1) + 2 * A + 3 := by grind
                          omega⟩
theorem ex_rt (d n : Nat) : ∃ s : Rat, 0 ≤ s ∧ s * s ≤ (d : Rat) ∧ (d : Rat) * (2 ^ n * 2 ^ n) < (s * 2 ^ n + 1) * (s * 2 ^ n + 1) := by
  obtain ⟨A, h1, h2⟩ := ex_sq (d * (2 ^ n * 2 ^ n))
  have p := two_pow_pos n
  have hp : (2 : Rat) ^ n ≠ 0 := by grind
  have e : (A : Rat) / 2 ^ n * 2 ^ n = A := by rw [Rat.div_def, Rat.mul_assoc, Rat.inv_mul_cancel _ hp, Rat.mul_one]
  have c1 := Rat.natCast_le_natCast.mpr h1
  have c2 := Rat.natCast_lt_natCast.mpr h2
  simp only [Rat.natCast_mul, Rat.natCast_pow, Rat.natCast_add] at c1 c2
  have hs : 0 ≤ (A : Rat) / 2 ^ n := by rw [Rat.div_def]; exact Rat.mul_nonneg Rat.natCast_nonneg (Rat.le_of_lt (Rat.inv_pos.mpr p))
  refine ⟨(A : Rat) / 2 ^ n, hs, ?_, ?_⟩
  · generalize (A : Rat) / 2 ^ n = s at *
    generalize (2 : Rat) ^ n = q at *
    rw [← e] at c1
    refine Rat.not_lt.mp fun hl => ?_
    have := Rat.mul_pos (show 0 < s * s - d by grind) (Rat.mul_pos p p)
    have c3 : s * q * (s * q) ≤ (d : Rat) * (q * q) := c1
    grind
  · rw [e]; exact c2
noncomputable def rt (d : Nat) (n : Nat) : Rat := Classical.choose (ex_rt d n)
theorem rt_ok (d n : Nat) : 0 ≤ rt d n ∧ rt d n * rt d n ≤ (d : Rat) ∧ (d : Rat) * (2 ^ n * 2 ^ n) < (rt d n * 2 ^ n + 1) * (rt d n * 2 ^ n + 1) := Classical.choose_spec (ex_rt d n)
theorem sq_lt {a b : Rat} (hb : 0 ≤ b) (h : a * a < b * b) : a < b := by
  refine Rat.not_le.mp fun hl => ?_
  have := Rat.mul_nonneg (show 0 ≤ a - b by grind) (show 0 ≤ a + b by grind)
  grind
theorem rt_cmp (d n m : Nat) : (rt d m - rt d n) * 2 ^ n ≤ 1 := by
  obtain ⟨a1, a2, a3⟩ := rt_ok d n
  obtain ⟨b1, b2, b3⟩ := rt_ok d m
  have p := two_pow_pos n
  generalize (2 : Rat) ^ n = q at *
  have c := Rat.mul_nonneg (show 0 ≤ (d : Rat) - rt d m * rt d m by grind) (Rat.le_of_lt (Rat.mul_pos p p))
  have := sq_lt (a := rt d m * q) (b := rt d n * q + 1) (by have := Rat.mul_nonneg a1 (Rat.le_of_lt p); grind) (by grind)
  grind
theorem pow_mono {n m : Nat} (h : n ≤ m) : (2 : Rat) ^ n ≤ 2 ^ m := by
  have := Rat.natCast_le_natCast.mpr (Nat.pow_le_pow_right (show 0 < 2 by decide) h)
  rwa [Rat.natCast_pow, Rat.natCast_pow] at this
noncomputable def sqS (d : Nat) : Sq := ⟨rt d, 1, fun n m h => ⟨by
  have h1 := rt_cmp d m n
  have := pow_mono h
  have p := two_pow_pos n
  refine Rat.not_lt.mp fun hl => ?_
  have h2 : 0 < rt d n - rt d m := by
    refine Rat.not_le.mp fun hle => ?_
    have := Rat.mul_nonneg (show 0 ≤ - (rt d n - rt d m) by grind) (Rat.le_of_lt p)
    grind
  have := Rat.mul_nonneg (Rat.le_of_lt h2) (show 0 ≤ 2 ^ m - 2 ^ n by grind)
  grind, rt_cmp d n m⟩⟩
noncomputable def sqrt (d : Nat) : Re := Re.mk (sqS d)
theorem sqrt_nonneg (d : Nat) : 0 ≤ sqrt d := ⟨0, fun n => by
  have := Rat.mul_nonneg (rt_ok d n).1 (Rat.le_of_lt (two_pow_pos n))
  show (((0 : Nat) : Rat) - rt d n) * 2 ^ n ≤ 0
  rw [show ((0 : Nat) : Rat) = 0 from rfl]; grind⟩
theorem sqrt_sq (d : Nat) : sqrt d * sqrt d = (d : Re) := by
  have h1 : sqrt d * sqrt d ≤ (d : Re) := ⟨0, fun n => by
    have := Rat.mul_nonneg (show 0 ≤ (d : Rat) - rt d n * rt d n by have := (rt_ok d n).2.1; grind) (Rat.le_of_lt (two_pow_pos n))
    show (rt d n * rt d n - (d : Rat)) * 2 ^ n ≤ 0
    grind⟩
  have h2 : (d : Re) ≤ sqrt d * sqrt d := by
    obtain ⟨B, hB, hb⟩ := (sqS d).bd
    refine ⟨2 * B + 1, fun n => ?_⟩
    obtain ⟨a1, a2, a3⟩ := rt_ok d n
    have b1 : rt d n ≤ B := (hb n).1
    have p := pow_mono (Nat.zero_le n)
    rw [Rat.pow_zero] at p
    show ((d : Rat) - rt d n * rt d n) * 2 ^ n ≤ 2 * B + 1
    generalize (2 : Rat) ^ n = q at *
    generalize rt d n = s at *
    refine Rat.not_lt.mp fun hl => ?_
    have := Rat.mul_pos (show 0 < ((d : Rat) - s * s) * q - (2 * B + 1) by grind) (show 0 < q by grind)
    have := Rat.mul_nonneg (show 0 ≤ B - s by grind) (show 0 ≤ q by grind)
    grind
  exact Std.le_antisymm h1 h2
end Mine

namespace Mine
open Re
theorem ic_add (x y : Int) : ((x + y : Int) : Re) = x + y := ext1 (x := .ofRat ((x + y : Int) : Rat)) (y := (Sq.ofRat (x : Rat)).add (.ofRat (y : Rat))) fun _ => Rat.intCast_add _ _
theorem ic_mul (x y : Int) : ((x * y : Int) : Re) = x * y := ext1 (x := .ofRat ((x * y : Int) : Rat)) (y := (Sq.ofRat (x : Rat)).mul (.ofRat (y : Rat))) fun _ => Rat.intCast_mul _ _
theorem ic_neg (x : Int) : ((-x : Int) : Re) = -x := ext1 (x := .ofRat ((-x : Int) : Rat)) (y := (Sq.ofRat (x : Rat)).neg) fun _ => Rat.intCast_neg _
theorem ic_sub (x y : Int) : ((x - y : Int) : Re) = x - y := by rw [Int.sub_eq_add_neg, ic_add, ic_neg]; grind
theorem ic_zero : ((0 : Int) : Re) = 0 := rfl
theorem ic_pos {x : Int} (h : 0 < x) : (0 : Re) < (x : Re) := by
  obtain ⟨n, rfl⟩ : ∃ n : Nat, x = ((n + 1 : Nat) : Int) := ⟨(x - 1).toNat, by omega⟩
  induction n with
  | zero => exact Lean.Grind.OrderedRing.zero_lt_one
  | succ n ih =>
    have h1 := ih (by (clear ih h; omega))
    have : (((n + 1 + 1 : Nat) : Int) : Re) = ((n + 1 : Nat) : Int) + 1 := by
      rw [show ((n + 1 + 1 : Nat) : Int) = ((n + 1 : Nat) : Int) + 1 by (clear ih h h1; omega), ic_add]; rfl
    rw [this]; have := Lean.Grind.OrderedRing.zero_lt_one (R := Re); grind
theorem ic_lt {x y : Int} (h : x < y) : (x : Re) < (y : Re) := by
  have := ic_pos (x := y - x) (by omega)
  rw [ic_sub] at this; grind
theorem ic_le {x y : Int} (h : x ≤ y) : (x : Re) ≤ (y : Re) := by
  rcases Int.lt_or_eq_of_le h with h | h
  · have := ic_lt h; exact l_le (this)
  · rw [h]; exact Std.le_refl _
open Classical in
noncomputable def rsg (x : Re) : Int := if 0 < x then 1 else if x < 0 then -1 else 0
theorem rsg_pos {x : Re} (h : 0 < x) : rsg x = 1 := if_pos h
theorem rsg_neg {x : Re} (h : x < 0) : rsg x = -1 := by unfold rsg; rw [if_neg (by grind), if_pos h]
theorem rsg_zero : rsg 0 = 0 := by unfold rsg; rw [if_neg (by grind), if_neg (by grind)]
theorem rsg_cases (x : Re) : 0 < x ∨ x < 0 ∨ x = 0 := by
  rcases Classical.em (0 < x) with h | h
  · exact .inl h
  · rcases Classical.em (x < 0) with g | g
    · exact .inr (.inl g)
    · exact .inr (.inr (by grind))
theorem rsg_mul (x y : Re) : rsg (x * y) = rsg x * rsg y := by
  rcases rsg_cases x with h | h | h <;> rcases rsg_cases y with g | g | g
  · rw [rsg_pos h, rsg_pos g, rsg_pos (mul_pos h g)]; rfl
  · rw [rsg_pos h, rsg_neg g, rsg_neg (by have := mul_pos h (show 0 < -y by grind); grind)]; rfl
  · rw [g, show x * 0 = 0 by grind, rsg_zero, Int.mul_zero]
  · rw [rsg_neg h, rsg_pos g, rsg_neg (by have := mul_pos (show 0 < -x by grind) g; grind)]; rfl
  · rw [rsg_neg h, rsg_neg g, rsg_pos (by have := mul_pos (show 0 < -x by grind) (show 0 < -y by grind); grind)]; rfl
  · rw [g, show x * 0 = 0 by grind, rsg_zero, Int.mul_zero]
  · rw [h, show 0 * y = 0 by grind, rsg_zero, Int.zero_mul]
  · rw [h, show 0 * y = 0 by grind, rsg_zero, Int.zero_mul]
  · rw [h, show 0 * y = 0 by grind, rsg_zero, Int.zero_mul]
theorem rsg_negx (x : Re) : rsg (-x) = - rsg x := by
  rcases rsg_cases x with h | h | h
  · rw [rsg_pos h, rsg_neg (by grind)]
  · rw [rsg_neg h, rsg_pos (by grind)]; rfl
  · rw [h, show -(0 : Re) = 0 by grind, rsg_zero]; rfl
noncomputable def sg (n : Int) : Int := if n < 0 then -1 else if 0 < n then 1 else 0
theorem rsg_int (n : Int) : rsg (n : Re) = sg n := by
  unfold sg
  rcases Int.lt_trichotomy n 0 with h | h | h
  · rw [if_pos h, rsg_neg (ic_lt h)]
  · rw [h]; exact rsg_zero
  · rw [if_neg (by omega), if_pos h, rsg_pos (ic_pos h)]
noncomputable def twoS (x y a : Int) : Int := if 0 ≤ x ∧ 0 ≤ y then (if 0 < x ∨ 0 < y * a then 1 else 0) else if x ≤ 0 ∧ y ≤ 0 then 0 - (if x < 0 ∨ y * a < 0 then 1 else 0) else if 0 < x then sg (x * x - y * y * a) else sg (y * y * a - x * x)
theorem sqrt_pos {d : Nat} (h : 0 < d) : 0 < sqrt d := by
  have h0 := sqrt_nonneg d
  have h1 := sqrt_sq d
  have h2 : (0 : Re) < ((d : Nat) : Int) := ic_pos (by (clear h0 h1; omega))
  have h3 : (((d : Nat) : Int) : Re) = (d : Re) := rfl
  rw [h3, ← h1] at h2
  rcases rsg_cases (sqrt d) with g | g | g
  · exact g
  · exact l_tl (l_lt (h0) (g)) (h0)
  · rw [g] at h2; grind
theorem nonneg_mul {x y : Re} (h : 0 ≤ x) (g : 0 ≤ y) : 0 ≤ x * y := by
  rcases rsg_cases x with a | a | a
  · rcases rsg_cases y with b | b | b
    · have := mul_pos a b; exact l_le (this)
    · grind
    · rw [b]; grind
  · grind
  · rw [a]; grind
/-- x + y s and x - y s times each other -/
theorem conj_rsg {X Y : Re} (h : 0 < X - Y) : rsg (X + Y) = rsg (X * X - Y * Y) := by
  rw [show X * X - Y * Y = (X + Y) * (X - Y) by grind, rsg_mul, rsg_pos h, Int.mul_one]
theorem two_rsg (x y : Int) {a : Nat} (ha : 0 < a) : twoS x y a = rsg (x + y * sqrt a) := by
  have hs := sqrt_pos ha
  have hq : sqrt a * sqrt a = (((a : Nat) : Int) : Re) := sqrt_sq a
  have ha' : (0 : Int) < a := by (clear hs hq; omega)
  unfold twoS
  by_cases c1 : 0 ≤ x ∧ 0 ≤ y
  · rw [if_pos c1]
    have x0 := ic_le c1.1; have y0 := ic_le c1.2
    have m0 := nonneg_mul y0 (Std.le_of_lt hs)
    by_cases c2 : 0 < x ∨ 0 < y * a
    · rw [if_pos c2, rsg_pos]
      rcases c2 with c | c
      · have := ic_pos c; rw [ic_zero] at *; grind
      · have := mul_pos (ic_pos (Int.pos_of_mul_pos_left c ha')) hs; rw [ic_zero] at *; grind
    · have e1 : x = 0 := by (clear ha hs hq ha' x0 y0 m0; omega)
      have e2 : y = 0 := by
        rcases Int.lt_or_eq_of_le c1.2 with h | h
        · exact absurd (.inr (Int.mul_pos h ha')) c2
        · exact h.symm
      rw [if_neg c2, e1, e2, ic_zero, show (0 : Re) + 0 * sqrt a = 0 by grind, rsg_zero]
  rw [if_neg c1]
  by_cases d1 : x ≤ 0 ∧ y ≤ 0
  · rw [if_pos d1]
    have x0 := ic_le d1.1; have y0 := ic_le (show 0 ≤ -y by (clear ha hs hq ha' c1 x0; omega))
    have m0 := nonneg_mul y0 (Std.le_of_lt hs)
    rw [ic_neg] at *
    by_cases c2 : x < 0 ∨ y * a < 0
    · rw [if_pos c2, rsg_neg]; rfl
      rcases c2 with c | c
      · have := ic_lt c; rw [ic_zero] at *; grind
      · have hy : 0 < -y := by
          refine Int.pos_of_mul_pos_left (b := (a : Int)) ?_ ha'
          rw [Int.neg_mul]; (clear ha hs hq ha' c1 d1 x0 y0 m0; omega)
        have := mul_pos (ic_pos hy) hs; rw [ic_neg] at this; rw [ic_zero] at *; grind
    · have e1 : x = 0 := by (clear ha hs hq ha' c1 x0 y0 m0; omega)
      have e2 : y = 0 := by
        rcases Int.lt_or_eq_of_le d1.2 with h | h
        · exact absurd (.inr (by have := Int.mul_pos (show 0 < -y by (clear ha hs hq ha' c1 d1 x0 y0 m0 c2 e1; omega)) ha'; rw [Int.neg_mul] at this; (clear ha hs hq ha' c1 d1 x0 y0 m0 e1 h; omega))) c2
        · exact h
      rw [if_neg c2, e1, e2, ic_zero, show (0 : Re) + 0 * sqrt a = 0 by grind, rsg_zero]; rfl
  rw [if_neg d1]
  by_cases c3 : 0 < x
  · have hy : y < 0 := by (clear ha hs hq ha'; omega)
    have x0 := ic_pos c3
    have y0 := mul_pos (ic_pos (show 0 < -y by (clear ha hs hq ha' c1 d1 c3 x0; omega))) hs
    rw [ic_neg] at y0
    rw [if_pos c3, ← rsg_int, conj_rsg (by grind), ic_sub, ic_mul, ic_mul, ic_mul, ← hq]
    congr 1; grind
  · have hx : x < 0 := by (clear ha hs hq ha'; omega)
    have hy : 0 < y := by (clear ha hs hq ha' c1 c3; omega)
    have x0 := ic_pos (show 0 < -x by (clear ha hs hq ha' c1 d1 c3 hy; omega))
    have y0 := mul_pos (ic_pos hy) hs
    rw [ic_neg] at x0
    rw [if_neg c3, ← rsg_int, show (x : Re) + y * sqrt a = y * sqrt a + x by grind, conj_rsg (by grind), ic_sub, ic_mul, ic_mul, ic_mul, ← hq]
    congr 1; grind
end Mine

namespace Mine
open Re
noncomputable def four (x0 x1 x2 x3 a b : Int) : Int :=
  if 0 ≤ twoS x0 x1 a * twoS x2 x3 a then sg (twoS x0 x1 a + twoS x2 x3 a)
  else twoS x0 x1 a * twoS ((x0 * x0 + a * x1 * x1) - b * (x2 * x2 + a * x3 * x3)) ((x0 * x1 + x1 * x0) - b * (x2 * x3 + x3 * x2)) a
theorem rsg_sum {X Z s : Re} (hs : 0 < s) (h : 0 ≤ rsg X * rsg Z) : rsg (X + Z * s) = sg (rsg X + rsg Z) := by
  rcases rsg_cases X with x | x | x <;> rcases rsg_cases Z with z | z | z
  · have := mul_pos z hs; rw [rsg_pos x, rsg_pos z, rsg_pos (by grind)]; rfl
  · rw [rsg_pos x, rsg_neg z] at h; exact absurd h (by decide)
  · rw [z, rsg_zero, rsg_pos x, show X + 0 * s = X by grind, rsg_pos x]; rfl
  · rw [rsg_neg x, rsg_pos z] at h; exact absurd h (by decide)
  · have := mul_pos (show 0 < -Z by grind) hs; rw [rsg_neg x, rsg_neg z, rsg_neg (by grind)]; rfl
  · rw [z, rsg_zero, rsg_neg x, show X + 0 * s = X by grind, rsg_neg x]; rfl
  · have := mul_pos z hs; rw [x, rsg_zero, rsg_pos z, rsg_pos (by grind)]; rfl
  · have := mul_pos (show 0 < -Z by grind) hs; rw [x, rsg_zero, rsg_neg z, rsg_neg (by grind)]; rfl
  · rw [z, x, rsg_zero, show (0 : Re) + 0 * s = 0 by grind, rsg_zero]; rfl
theorem rsg_diff {X Z s : Re} (hs : 0 < s) (h : ¬ 0 ≤ rsg X * rsg Z) : rsg (X + Z * s) = rsg X * rsg (X * X - Z * Z * (s * s)) := by
  rcases rsg_cases X with x | x | x
  · rcases rsg_cases Z with z | z | z
    · rw [rsg_pos x, rsg_pos z] at h; exact absurd (by decide) h
    · have := mul_pos (show 0 < -Z by grind) hs
      rw [rsg_pos x, Int.one_mul, conj_rsg (by grind)]; congr 1; grind
    · rw [z, rsg_zero, Int.mul_zero] at h; exact absurd (by decide) h
  · rcases rsg_cases Z with z | z | z
    · have := mul_pos z hs
      have e := conj_rsg (X := -X) (Y := -(Z * s)) (by grind)
      rw [show -X + -(Z * s) = -(X + Z * s) by grind, rsg_negx] at e
      rw [rsg_neg x, show X * X - Z * Z * (s * s) = -X * -X - -(Z * s) * -(Z * s) by grind, ← e]; omega
    · rw [rsg_neg x, rsg_neg z] at h; exact absurd (by decide) h
    · rw [z, rsg_zero, Int.mul_zero] at h; exact absurd (by decide) h
  · rw [x, rsg_zero, Int.zero_mul] at h; exact absurd (by decide) h
theorem four_rsg (x0 x1 x2 x3 : Int) {a b : Nat} (ha : 0 < a) (hb : 0 < b) : four x0 x1 x2 x3 a b = rsg ((x0 + x1 * sqrt a) + (x2 + x3 * sqrt a) * sqrt b) := by
  unfold four
  rw [two_rsg _ _ ha, two_rsg _ _ ha, two_rsg _ _ ha]
  have hq : sqrt a * sqrt a = (((a : Nat) : Int) : Re) := sqrt_sq a
  have hr : sqrt b * sqrt b = (((b : Nat) : Int) : Re) := sqrt_sq b
  split
  next h => rw [rsg_sum (sqrt_pos hb) h]
  next h =>
    rw [rsg_diff (sqrt_pos hb) h, hr]
    congr 2
    simp only [ic_sub, ic_add, ic_mul]
    rw [← hq]; grind
end Mine

namespace Mine
open Re
open Classical in
noncomputable def ab (x : Re) : Re := if 0 ≤ x then x else -x
theorem ab_nonneg (x : Re) : 0 ≤ ab x := by unfold ab; split <;> grind
theorem ab_or (x : Re) : ab x = x ∨ ab x = -x := by unfold ab; split <;> simp
theorem ab_le (x : Re) : x ≤ ab x ∧ -x ≤ ab x := by unfold ab; split <;> grind
theorem ab_mul (x y : Re) : ab (x * y) = ab x * ab y := by
  have h := ab_nonneg x; have g := ab_nonneg y
  have k := nonneg_mul h g
  have e : ab (x * y) * ab (x * y) = (ab x * ab y) * (ab x * ab y) := by
    rcases ab_or x with a | a <;> rcases ab_or y with b | b <;> rcases ab_or (x * y) with c | c <;> rw [a, b, c] <;> grind
  have l := ab_nonneg (x * y)
  generalize ab (x * y) = p at *
  generalize ab x * ab y = q at *
  rcases rsg_cases (p - q) with d | d | d
  · have := mul_pos d (show 0 < p + q by grind); grind
  · have := mul_pos (show 0 < q - p by grind) (show 0 < p + q by grind); grind
  · grind
theorem ab_int {n : Int} (h : n ≠ 0) : 1 ≤ ab (n : Re) := by
  have one : ((1 : Int) : Re) = 1 := rfl
  rcases Int.lt_or_lt_of_ne h with h | h
  · have := ic_le (show 1 ≤ -n by (clear one; omega)); have := (ab_le (n : Re)).2; rw [ic_neg] at *; grind
  · have := ic_le (show 1 ≤ n by (clear one; omega)); have := (ab_le (n : Re)).1; grind
theorem ne_mul {x y : Re} (h : x * y = 0) (g : x ≠ 0) : y = 0 := by
  rcases rsg_cases x with a | a | a
  · rcases rsg_cases y with b | b | b
    · have := mul_pos a b; grind
    · have := mul_pos a (show 0 < -y by grind); grind
    · exact b
  · rcases rsg_cases y with b | b | b
    · have := mul_pos (show 0 < -x by grind) b; grind
    · have := mul_pos (show 0 < -x by grind) (show 0 < -y by grind); grind
    · exact b
  · exact absurd a g
theorem sep1 (u v : Int) (a : Nat) (h : (u : Re) + v * sqrt a ≠ 0) : 1 ≤ ab ((u : Re) + v * sqrt a) * (ab ((u : Re) - v * sqrt a) + 1) := by
  have hq : sqrt a * sqrt a = (((a : Nat) : Int) : Re) := sqrt_sq a
  have e : ((u : Re) + v * sqrt a) * ((u : Re) - v * sqrt a) = ((u * u - v * v * a : Int) : Re) := by
    simp only [ic_sub, ic_mul]; rw [← hq]; grind
  have k1 := ab_nonneg ((u : Re) + v * sqrt a)
  have k2 := ab_nonneg ((u : Re) - v * sqrt a)
  by_cases n0 : u * u - v * v * a = 0
  · rw [n0, ic_zero] at e
    have w := ne_mul e h
    have hu : u ≠ 0 := by
      intro hu; rw [hu, ic_zero] at w h; grind
    have h1 := ab_int hu
    have : (u : Re) + v * sqrt a = u + u := by grind
    rw [w, this]
    have h2 : ab ((u : Re) + u) = ab u + ab u := by
      unfold ab; split <;> split <;> grind
    have : ab (0 : Re) = 0 := by unfold ab; split <;> grind
    rw [h2, this]; grind
  · have h1 := ab_int n0
    rw [← e, ab_mul] at h1
    grind
theorem sqrt_ge1 {b : Nat} (hb : 0 < b) : 1 ≤ sqrt b := by
  have hr : sqrt b * sqrt b = (((b : Nat) : Int) : Re) := sqrt_sq b
  have h1 := ic_le (show (1 : Int) ≤ b by (clear hr; omega))
  have one : ((1 : Int) : Re) = 1 := rfl
  rw [one, ← hr] at h1
  have hs := sqrt_pos hb
  rcases rsg_cases (1 - sqrt b) with d | d | d
  · have := mul_pos d (show 0 < 1 + sqrt b by grind); grind
  · grind
  · grind
/-- two numbers that are not the same lie apart -/
theorem sep2 (x y z : Int) {a b : Nat} (hb : 0 < b) {g h w : Re} (eg : g = x + y * sqrt a + z * sqrt b) (eh : h = x + y * sqrt a - z * sqrt b)
    (ew : w = ((x * x + y * y * a - z * z * b : Int) : Re) - ((2 * x * y : Int) : Re) * sqrt a) (h0 : g ≠ 0) : 1 ≤ ab g * ((ab h + 1) * (ab w + 1)) := by
  have hq : sqrt a * sqrt a = (((a : Nat) : Int) : Re) := sqrt_sq a
  have hr : sqrt b * sqrt b = (((b : Nat) : Int) : Re) := sqrt_sq b
  have two' : ((2 : Int) : Re) = 2 := rfl
  have e : g * h = ((x * x + y * y * a - z * z * b : Int) : Re) + ((2 * x * y : Int) : Re) * sqrt a := by
    rw [eg, eh]; simp only [ic_sub, ic_add, ic_mul]; rw [← hq, ← hr, two']; grind
  have kg := ab_nonneg g; have kh := ab_nonneg h; have kw := ab_nonneg w
  rcases Classical.em (g * h = 0) with c | c
  · have hh := ne_mul c h0
    have hz : z ≠ 0 := by
      intro hz; rw [hz, ic_zero] at eg eh; exact h0 (by rw [← hh, eg, eh]; grind)
    have e2 : g = (z : Re) * (sqrt b + sqrt b) := by grind
    have h1 := ab_int hz
    have s1 := sqrt_ge1 hb
    have h2 : 1 ≤ ab (sqrt b + sqrt b) := by have := (ab_le (sqrt b + sqrt b)).1; grind
    have hg : 1 ≤ ab g := by
      rw [e2, ab_mul]
      have := nonneg_mul (show 0 ≤ ab (z : Re) - 1 by exact l_sl (h1)) (show 0 ≤ ab (sqrt b + sqrt b) by grind)
      grind
    have p1 := nonneg_mul kh kw
    have p2 := nonneg_mul (show 0 ≤ ab g - 1 by exact l_sl (hg)) (show 0 ≤ (ab h + 1) * (ab w + 1) by grind)
    grind
  · have s := sep1 _ _ a (e ▸ c)
    rw [← e, ← ew, ab_mul] at s
    have := nonneg_mul kg (show 0 ≤ ab w + 1 by grind)
    grind
end Mine

namespace Mine
open Re
noncomputable def evR : List Int → Re → Re
  | [], _ => 0
  | c :: r, t => (c : Re) + t * evR r t
theorem evR_addP (t : Re) : ∀ xs ys : List Int, evR (addP xs ys) t = evR xs t + evR ys t
  | [], ys => by rw [addP, evR]; grind
  | x :: xs, [] => by rw [addP]; show _ = _ + (0 : Re); grind
  | x :: xs, y :: ys => by rw [addP, evR, evR, evR, evR_addP t xs ys, ic_add]; grind
theorem evR_smul (c : Int) (t : Re) : ∀ xs : List Int, evR (smul c xs) t = c * evR xs t
  | [] => by show (0 : Re) = c * 0; grind
  | x :: xs => by
    have : smul c (x :: xs) = (c * x) :: smul c xs := rfl
    rw [this, evR, evR, evR_smul c t xs, ic_mul]; grind
theorem evR_mulP (t : Re) : ∀ xs ys : List Int, evR (mulP xs ys) t = evR xs t * evR ys t
  | [], ys => by rw [mulP, evR]; grind
  | x :: r, ys => by rw [mulP, evR_addP, evR_smul, evR, evR, evR_mulP t r ys, ic_zero]; grind
theorem ic_pow (q : Int) : ∀ n : Nat, ((q ^ n : Int) : Re) = (q : Re) ^ n
  | 0 => by rw [Int.pow_zero, Lean.Grind.Semiring.pow_zero]; rfl
  | n + 1 => by rw [Int.pow_succ, ic_mul, ic_pow q n]; grind
theorem hval_evR {p q : Int} {t : Re} (h : (q : Re) * t = p) : ∀ (xs : List Int) (c : Int), ((hval p q (c :: xs) : Int) : Re) = (q : Re) ^ xs.length * evR (c :: xs) t
  | [], c => by
    show ((0 * p + c * q ^ 0 : Int) : Re) = (q : Re) ^ 0 * ((c : Re) + t * 0)
    simp only [ic_add, ic_mul, ic_pow, ic_zero]; grind
  | d :: ys, c => by
    show ((hval p q (d :: ys) * p + c * q ^ (ys.length + 1) : Int) : Re) = (q : Re) ^ (ys.length + 1) * ((c : Re) + t * evR (d :: ys) t)
    rw [ic_add, ic_mul, ic_mul, ic_pow, hval_evR h ys d, ← h]; grind
end Mine

namespace Mine
open Re
/-- p by q -/
noncomputable def rq (p q : Int) : Re := Re.mk (.ofRat ((p : Rat) / q))
theorem rq_mul {p q : Int} (h : q ≠ 0) : (q : Re) * rq p q = p := ext1 (x := (Sq.ofRat (q : Rat)).mul (.ofRat ((p : Rat) / q))) (y := .ofRat (p : Rat)) fun _ => by
  show (q : Rat) * ((p : Rat) / q) = p
  have : (q : Rat) ≠ 0 := fun e => h (Rat.intCast_inj.mp e)
  rw [Rat.mul_comm, Rat.div_def, Rat.mul_assoc, Rat.inv_mul_cancel _ this, Rat.mul_one]
/-- al is the row's only root from lo to hi, and the row changes its sign there -/
structure RPeg (row : List Int) (lo hi al : Re) (σ : Int) : Prop where
  l : lo < al
  u : al < hi
  sg : σ = 1 ∨ σ = -1
  val : ∀ t, lo ≤ t → t ≤ hi → rsg (evR row t) = σ * rsg (t - al)
theorem RPeg.zero {row : List Int} {lo hi al t : Re} {σ : Int} (h : RPeg row lo hi al σ) (h1 : lo ≤ t) (h2 : t ≤ hi) (h3 : evR row t = 0) : t = al := by
  have e := h.val t h1 h2
  rw [h3, rsg_zero] at e
  rcases rsg_cases (t - al) with g | g | g
  · rw [rsg_pos g] at e; rcases h.sg with s | s <;> rw [s] at e <;> exact absurd e (by decide)
  · rw [rsg_neg g] at e; rcases h.sg with s | s <;> rw [s] at e <;> exact absurd e (by decide)
  · grind
theorem lt_of_mul {r a b : Re} (hr : 0 < r) (h : r * a < r * b) : a < b := by
  rcases rsg_cases (b - a) with g | g | g
  · grind
  · have := mul_pos hr (show 0 < a - b by grind); grind
  · have : a = b := by grind
    rw [this] at h; grind
end Mine

namespace Mine
open Re
theorem evR_zero (t : Re) : ∀ {xs : List Int}, (∀ x ∈ xs, x = 0) → evR xs t = 0
  | [], _ => rfl
  | x :: xs, h => by rw [evR, h x (.head _), ic_zero, evR_zero t fun y hy => h y (.tail _ hy)]; grind
/-- rows of the same values at whole numbers have the same values at all numbers -/
theorem evR_ext {xs ys : List Int} (h : ∀ t, ev xs t = ev ys t) (s : Re) : evR xs s = evR ys s := by
  have z := zero_of_vals (xs := addP xs (smul (-1) ys)) fun t _ => by
    show ev _ t = 0
    rw [ev_addP, ev_smul, h]; omega
  have e := evR_zero s z
  rw [evR_addP, evR_smul] at e
  have m : ((-1 : Int) : Re) = -1 := rfl
  rw [m] at e; grind
theorem dv_real {G A : List Int} (h : Dv (ev G) (ev A)) : ∃ (c : Int) (K : List Int), c ≠ 0 ∧ ∀ s, (c : Re) * evR A s = evR G s * evR K s := by
  obtain ⟨c, k, hc, ⟨K, hK⟩, e⟩ := h
  refine ⟨c, K, hc, fun s => ?_⟩
  have := evR_ext (xs := smul c A) (ys := mulP G K) (fun t => by rw [ev_smul, ev_mulP, e, hK]) s
  rwa [evR_smul, evR_mulP] at this
theorem comb_real {A B x : List Int} (h : Comb A B x) : ∃ (c : Int) (U W : List Int), c ≠ 0 ∧ ∀ s, (c : Re) * evR x s = evR U s * evR A s + evR W s * evR B s := by
  obtain ⟨c, u, v, hc, ⟨U, hU⟩, ⟨W, hW⟩, e⟩ := h
  refine ⟨c, U, W, hc, fun s => ?_⟩
  have := evR_ext (xs := smul c x) (ys := addP (mulP U A) (mulP W B)) (fun t => by rw [ev_smul, ev_addP, ev_mulP, ev_mulP, e, hU, hW]) s
  rwa [evR_smul, evR_addP, evR_mulP, evR_mulP] at this
end Mine

namespace Mine
open Re
/-- a polynomial function of n numbers -/
noncomputable def PR : Nat → (Re → Re) → Prop
  | 0, f => ∀ t, f t = 0
  | n + 1, f => ∃ c g, PR n g ∧ ∀ t, f t = c + t * g t
theorem PR.lin : ∀ {n : Nat} {f g : Re → Re} (r : Re), PR n f → PR n g → PR n fun t => f t + r * g t
  | 0, f, g, r, hf, hg => fun t => by show f t + r * g t = 0; rw [hf t, hg t]; grind
  | n + 1, f, g, r, ⟨c, f1, hf, ef⟩, ⟨d, g1, hg, eg⟩ => ⟨c + r * d, _, PR.lin r hf hg, fun t => by show f t + r * g t = _; rw [ef, eg]; grind⟩
theorem PR.up : ∀ {n : Nat} {f : Re → Re}, PR n f → PR (n + 1) f
  | 0, f, h => ⟨0, f, h, fun t => by rw [h t]; grind⟩
  | n + 1, f, ⟨c, g, hg, e⟩ => ⟨c, g, hg.up, e⟩
theorem PR.fac : ∀ {n : Nat} {f : Re → Re} (r : Re), PR (n + 1) f → ∃ g, PR n g ∧ ∀ t, f t = f r + (t - r) * g t
  | 0, f, r, ⟨c, g, hg, e⟩ => ⟨fun _ => 0, fun _ => rfl, fun t => by rw [e, e r, hg t, hg r]; grind⟩
  | n + 1, f, r, ⟨c, g, hg, e⟩ => by
    obtain ⟨h, hh, eh⟩ := PR.fac r hg
    refine ⟨_, PR.lin r hg hh.up, fun t => ?_⟩
    show f t = f r + (t - r) * (g t + r * h t)
    rw [e, e r, eh t]; grind
theorem pr_ev : ∀ xs : List Int, PR xs.length (evR xs)
  | [] => fun _ => rfl
  | c :: xs => ⟨(c : Re), evR xs, pr_ev xs, fun _ => rfl⟩
noncomputable def prodR : List Re → Re → Re
  | [], _ => 1
  | r :: rs, t => (t - r) * prodR rs t
/-- outside of lo .. hi -/
noncomputable def Out (lo hi r : Re) : Prop := r < lo ∨ hi < r
theorem one_ne : (1 : Re) ≠ 0 := by have := Lean.Grind.OrderedRing.zero_lt_one (R := Re); grind
theorem mul_nz {x y : Re} (h : x ≠ 0) (g : y ≠ 0) : x * y ≠ 0 := fun e => g (ne_mul e h)
theorem prodR_nz {lo hi t : Re} (h1 : lo ≤ t) (h2 : t ≤ hi) : ∀ {rs : List Re}, (∀ r ∈ rs, Out lo hi r) → prodR rs t ≠ 0
  | [], _ => one_ne
  | r :: rs, h => mul_nz (fun e => by rcases h r (.head _) with g | g <;> grind) (prodR_nz h1 h2 fun x hx => h x (.tail _ hx))
theorem out_sg {lo hi r : Re} (h : Out lo hi r) : ∃ σ : Int, (σ = 1 ∨ σ = -1) ∧ ∀ t, lo ≤ t → t ≤ hi → rsg (t - r) = σ := by
  rcases h with h | h
  · exact ⟨1, .inl rfl, fun t h1 _ => rsg_pos (by exact l_sp (l_tl (h) (h1)))⟩
  · exact ⟨-1, .inr rfl, fun t _ h2 => rsg_neg (by exact l_sn (l_lt (h2) (h)))⟩
theorem pm_mul {a b : Int} (h : a = 1 ∨ a = -1) (g : b = 1 ∨ b = -1) : a * b = 1 ∨ a * b = -1 := by
  rcases h with rfl | rfl <;> rcases g with rfl | rfl <;> decide
theorem prodR_sg {lo hi : Re} : ∀ {rs : List Re}, (∀ r ∈ rs, Out lo hi r) → ∃ σ : Int, (σ = 1 ∨ σ = -1) ∧ ∀ t, lo ≤ t → t ≤ hi → rsg (prodR rs t) = σ
  | [], _ => ⟨1, .inl rfl, fun _ _ _ => rsg_pos Lean.Grind.OrderedRing.zero_lt_one⟩
  | r :: rs, h => by
    obtain ⟨a, ha, ea⟩ := out_sg (h r (.head _))
    obtain ⟨b, hb, eb⟩ := prodR_sg fun x hx => h x (.tail _ hx)
    exact ⟨a * b, pm_mul ha hb, fun t h1 h2 => by rw [prodR, rsg_mul, ea t h1 h2, eb t h1 h2]⟩
theorem rsg_ne {x : Re} (h : x ≠ 0) : rsg x = 1 ∨ rsg x = -1 := by
  rcases rsg_cases x with g | g | g
  · exact .inl (rsg_pos g)
  · exact .inr (rsg_neg g)
  · exact absurd g h
theorem rcut {lo hi : Re} : ∀ {rs : List Re} {a b : Nat} {f g : Re → Re} {c : Re} {bad : Re → Prop}, PR (a + 1) f → PR (b + 1) g → a + b = rs.length → c ≠ 0 → rs.Pairwise (· ≠ ·) → (∀ r ∈ rs, ¬ bad r) →
    (∀ t, ¬ bad t → c * prodR rs t = f t * g t) → (∀ r ∈ rs, Out lo hi r) → (∃ t, lo ≤ t ∧ t ≤ hi ∧ ¬ bad t) → ∃ σ : Int, (σ = 1 ∨ σ = -1) ∧ ∀ t, lo ≤ t → t ≤ hi → rsg (f t) = σ
  | [], a, b, f, g, c, bad, hf, hg, hl, hc, _, _, e, _, ⟨t0, h1, h2, h3⟩ => by
    obtain rfl : a = 0 := by rw [List.length_nil] at hl; (clear hf hg hc e h1 h2 h3; omega)
    obtain ⟨c1, k, hk, ek⟩ := hf
    have hf : ∀ t, f t = c1 := fun t => by rw [ek, hk t]; grind
    have hc1 : c1 ≠ 0 := fun h => by
      have := e t0 h3
      rw [hf, h, show prodR [] t0 = 1 from rfl] at this
      exact hc (by grind)
    exact ⟨rsg c1, rsg_ne hc1, fun t _ _ => by rw [hf]⟩
  | r :: rs, a, b, f, g, c, bad, hf, hg, hl, hc, hp, hb, e, ho, ⟨t0, h1, h2, h3⟩ => by
    rw [List.length_cons] at hl
    have hr : ¬ bad r := hb r (.head _)
    have h0 : f r * g r = 0 := by rw [← e r hr, prodR]; grind
    have nz : f t0 * g t0 ≠ 0 := by rw [← e t0 h3]; exact mul_nz hc (prodR_nz h1 h2 ho)
    have hrs : ∀ x ∈ rs, x ≠ r := fun x hx => fun h => (List.pairwise_cons.mp hp).1 x hx h.symm
    have hb' : ∀ x ∈ rs, ¬ (bad x ∨ x = r) := fun x hx h => h.elim (hb x (.tail _ hx)) (hrs x hx)
    have ho' : ∀ x ∈ rs, Out lo hi x := fun x hx => ho x (.tail _ hx)
    have ht0 : ∃ t, lo ≤ t ∧ t ≤ hi ∧ ¬ (bad t ∨ t = r) := ⟨t0, h1, h2, fun h => h.elim h3 fun e => by rcases ho r (.head _) with g | g <;> grind⟩
    obtain ⟨f1, hf1, ef⟩ := hf.fac r
    obtain ⟨g1, hg1, eg⟩ := hg.fac r
    by_cases hz : f r = 0
    · have ef' : ∀ t, f t = (t - r) * f1 t := fun t => by rw [ef t, hz]; grind
      cases a with
      | zero => exact absurd (by rw [ef', hf1 t0]; grind) nz
      | succ a =>
        obtain ⟨σ, hσ, es⟩ := rcut (bad := fun t => bad t ∨ t = r) hf1 hg (by (clear hg hc hp hb e ho h1 h2 h3 hr h0 nz hrs hb' ho' ht0 ef hg1 eg hz ef' hf hf1; omega)) hc (List.pairwise_cons.mp hp).2 hb' (fun t ht => by
          have e1 := e t fun h => ht (.inl h)
          have hne : t - r ≠ 0 := fun h => ht (.inr (by grind))
          have e2 : (t - r) * (c * prodR rs t - f1 t * g t) = 0 := by rw [prodR, ef'] at e1; grind
          have := ne_mul e2 hne
          grind) ho' ht0
        obtain ⟨τ, hτ, et⟩ := out_sg (ho r (.head _))
        exact ⟨τ * σ, pm_mul hτ hσ, fun t k1 k2 => by rw [ef', rsg_mul, et t k1 k2, es t k1 k2]⟩
    · have hgz : g r = 0 := ne_mul h0 hz
      have eg' : ∀ t, g t = (t - r) * g1 t := fun t => by rw [eg t, hgz]; grind
      cases b with
      | zero => exact absurd (by rw [eg', hg1 t0]; grind) nz
      | succ b =>
        exact rcut (bad := fun t => bad t ∨ t = r) hf hg1 (by (clear hf hc hp hb e ho h1 h2 h3 hr h0 nz hrs hb' ho' ht0 hf1 ef eg hz hgz eg' hg hg1; omega)) hc (List.pairwise_cons.mp hp).2 hb' (fun t ht => by
          have e1 := e t fun h => ht (.inl h)
          have hne : t - r ≠ 0 := fun h => ht (.inr (by grind))
          have e2 : (t - r) * (c * prodR rs t - f t * g1 t) = 0 := by rw [prodR, eg'] at e1; grind
          have := ne_mul e2 hne
          grind) ho' ht0
theorem ic_ne {c : Int} (hc : c ≠ 0) : (c : Re) ≠ 0 := fun h => by
  have e := rsg_int c
  rw [h, rsg_zero] at e
  unfold sg at e
  rcases Int.lt_or_lt_of_ne hc with g | g
  · rw [if_pos g] at e; exact absurd e (by decide)
  · rw [if_neg (by (clear hc h e; omega)), if_pos g] at e; exact absurd e (by decide)
/-- al is the row's only root from lo to hi, and all roots are simple -/
structure RP (row : List Int) (lo hi al : Re) : Prop where
  l : lo < al
  u : al < hi
  fa : ∃ (c : Re) (rs : List Re), c ≠ 0 ∧ row.length = rs.length + 2 ∧ rs.Pairwise (· ≠ ·) ∧ (∀ r ∈ rs, Out lo hi r) ∧ ∀ t, evR row t = c * ((t - al) * prodR rs t)
theorem RP.sub {row : List Int} {lo hi al lo' hi' : Re} (h : RP row lo hi al) (h1 : lo ≤ lo') (h2 : lo' < al) (h3 : al < hi') (h4 : hi' ≤ hi) : RP row lo' hi' al := by
  obtain ⟨c, rs, k1, k2, k3, k4, k5⟩ := h.fa
  exact ⟨h2, h3, c, rs, k1, k2, k3, fun r hr => (k4 r hr).elim (fun g => .inl (by exact l_tl (g) (h1))) fun g => .inr (by exact l_lt (h4) (g)), k5⟩
theorem RP.sign {row : List Int} {lo hi al : Re} (h : RP row lo hi al) : ∃ σ : Int, (σ = 1 ∨ σ = -1) ∧ ∀ t, lo ≤ t → t ≤ hi → rsg (evR row t) = σ * rsg (t - al) := by
  obtain ⟨c, rs, k1, k2, k3, k4, k5⟩ := h.fa
  obtain ⟨a, ha, ea⟩ := prodR_sg k4
  refine ⟨rsg c * a, pm_mul (rsg_ne k1) ha, fun t h1 h2 => ?_⟩
  rw [k5, rsg_mul, rsg_mul, ea t h1 h2, Int.mul_assoc, Int.mul_comm a]
theorem RP.peg {row : List Int} {lo hi al : Re} (h : RP row lo hi al) : ∃ σ, RPeg row lo hi al σ := by
  obtain ⟨σ, hs, e⟩ := h.sign
  exact ⟨σ, h.l, h.u, hs, e⟩
theorem RP.div {A G K : List Int} {lo hi al : Re} {c : Int} (h : RP A lo hi al) (hc : c ≠ 0) (e : ∀ s, (c : Re) * evR A s = evR G s * evR K s) (hl : G.length + K.length = A.length + 1) (hG : G ≠ []) (hK : K ≠ []) :
    (evR G al = 0 ∧ ∃ σ : Int, (σ = 1 ∨ σ = -1) ∧ ∀ t, lo ≤ t → t ≤ hi → rsg (evR G t) = σ * rsg (t - al)) ∨ (evR G al ≠ 0 ∧ ∃ σ : Int, (σ = 1 ∨ σ = -1) ∧ ∀ t, lo ≤ t → t ≤ hi → rsg (evR G t) = σ) := by
  obtain ⟨c', rs, k1, k2, k3, k4, k5⟩ := h.fa
  have hc' := ic_ne hc
  have hG1 := List.length_pos_iff.mpr hG
  have hK1 := List.length_pos_iff.mpr hK
  obtain ⟨a, ha⟩ : ∃ a, G.length = a + 1 := ⟨G.length - 1, by (clear h hc e hG hK k1 k3 k4 k5 hc' hK1; omega)⟩
  obtain ⟨b, hb⟩ : ∃ b, K.length = b + 1 := ⟨K.length - 1, by (clear h hc e hG hK k1 k3 k4 k5 hc' hG1; omega)⟩
  have pG := pr_ev G
  have pK := pr_ev K
  rw [ha] at pG; rw [hb] at pK
  have ee : ∀ t, evR G t * evR K t = (c : Re) * c' * ((t - al) * prodR rs t) := fun t => by rw [← e, k5]; grind
  have hne : ∀ x ∈ rs, ¬ x = al := fun x hx h' => by have := h.l; have := h.u; rcases k4 x hx with g | g <;> grind
  have ht0 : ∃ t, lo ≤ t ∧ t ≤ hi ∧ ¬ t = al := ⟨lo, Std.le_refl _, by have := h.l; have := h.u; grind, by have := h.l; grind⟩
  have h0 : evR G al * evR K al = 0 := by rw [ee]; grind
  have cc := mul_nz hc' k1
  obtain ⟨f1, hf1, ef⟩ := pG.fac al
  obtain ⟨g1, hg1, eg⟩ := pK.fac al
  have nz : ∀ t, lo ≤ t → t ≤ hi → t ≠ al → evR G t * evR K t ≠ 0 := fun t h1 h2 h3 => by
    rw [ee]; exact mul_nz cc (mul_nz (fun h => h3 (by grind)) (prodR_nz h1 h2 k4))
  by_cases hz : evR G al = 0
  · refine .inl ⟨hz, ?_⟩
    have ef' : ∀ t, evR G t = (t - al) * f1 t := fun t => by rw [ef t, hz]; grind
    cases a with
    | zero =>
      obtain ⟨t0, q1, q2, q3⟩ := ht0
      exact absurd (by rw [ef', hf1 t0]; grind) (nz t0 q1 q2 q3)
    | succ a =>
      obtain ⟨σ, hσ, es⟩ := rcut (bad := fun t => t = al) hf1 pK (by (clear h hc e hG hK k1 k3 k4 k5 hc' hG1 hK1 pK ee hne ht0 h0 cc ef hg1 eg nz hz ef' pG hf1; omega)) cc k3 hne (fun t ht => by
        have hne : t - al ≠ 0 := fun h => ht (by grind)
        have e1 := ee t
        rw [ef'] at e1
        have := ne_mul (show (t - al) * ((c : Re) * c' * prodR rs t - f1 t * evR K t) = 0 by grind) hne
        grind) k4 ht0
      exact ⟨σ, hσ, fun t q1 q2 => by rw [ef', rsg_mul, es t q1 q2, Int.mul_comm]⟩
  · refine .inr ⟨hz, ?_⟩
    have hgz : evR K al = 0 := ne_mul h0 hz
    have eg' : ∀ t, evR K t = (t - al) * g1 t := fun t => by rw [eg t, hgz]; grind
    cases b with
    | zero =>
      obtain ⟨t0, q1, q2, q3⟩ := ht0
      exact absurd (by rw [eg', hg1 t0]; grind) (nz t0 q1 q2 q3)
    | succ b =>
      exact rcut (bad := fun t => t = al) pG hg1 (by (clear h hc e hG hK k1 k3 k4 k5 hc' hG1 hK1 pG ee hne ht0 h0 cc hf1 ef eg nz hz hgz eg' pK hg1; omega)) cc k3 hne (fun t ht => by
        have hne : t - al ≠ 0 := fun h => ht (by grind)
        have e1 := ee t
        rw [eg'] at e1
        have := ne_mul (show (t - al) * ((c : Re) * c' * prodR rs t - evR G t * g1 t) = 0 by grind) hne
        grind) k4 ht0
end Mine

namespace Mine
open Re
theorem dv_len {G A : List Int} (tG : Tr G) (tA : Tr A) (h : Dv (ev G) (ev A)) : ∃ (c : Int) (K : List Int), c ≠ 0 ∧ K ≠ [] ∧ G.length + K.length = A.length + 1 ∧ ∀ s, (c : Re) * evR A s = evR G s * evR K s := by
  obtain ⟨c, k, hc, pk, e⟩ := h
  have hu : ∃ t, k t ≠ 0 := by
    obtain ⟨t, ht⟩ := tA.nz
    refine ⟨t, fun h => ?_⟩
    have := e t
    rw [h, Int.mul_zero] at this
    exact (Int.mul_ne_zero hc ht) this
  obtain ⟨K, tK, hK⟩ := pk.tr hu
  have h1 : smul c A = mulP G K := ext_tr (.inr (tr_smul hc tA)) (.inr (tr_mulP tG tK)) fun t => by rw [ev_smul, ev_mulP, e, hK]
  refine ⟨c, K, hc, tK.ne, ?_, fun s => by rw [← evR_smul, h1, evR_mulP]⟩
  have := mulP_len tG.ne tK.ne
  rw [← h1, show (smul c A).length = A.length by unfold smul; rw [List.length_map]] at this
  (clear tG tA hc pk e hu tK hK h1; omega)
theorem same_sg {A B G : List Int} {l : Int} {lo1 hi1 lo2 hi2 lo hi al be : Re} (tA : Tr A) (tB : Tr B) (hA : RP A lo1 hi1 al) (hB : RP B lo2 hi2 be) (hG : Gcd A B G l)
    (h1 : lo1 ≤ lo) (h2 : lo2 ≤ lo) (h3 : lo = lo1 ∨ lo = lo2) (h4 : hi ≤ hi1) (h5 : hi ≤ hi2) (h6 : hi = hi1 ∨ hi = hi2) (hlt : lo < hi) : rsg (evR G lo) * rsg (evR G hi) < 0 ↔ al = be := by
  have tG : Tr G := ⟨l, hG.last, by have := hG.pos; (clear tA tB hA hB hG h1 h2 h3 h4 h5 h6 hlt; omega)⟩
  obtain ⟨c, K, hc, hK, hl, e⟩ := dv_len tG tA hG.d1
  obtain ⟨c2, K2, hc2, e2⟩ := dv_real hG.d2
  have al1 := hA.l
  have al2 := hA.u
  have be1 := hB.l
  have be2 := hB.u
  constructor
  · intro hs
    rcases hA.div hc e hl tG.ne hK with ⟨z, σ, hσ, es⟩ | ⟨z, σ, hσ, es⟩
    · have hB0 : evR B al = 0 := by
        have := e2 al
        rw [z] at this
        exact ne_mul (by rw [this]; grind) (ic_ne hc2)
      have s1 := es lo h1 (by exact l_le (l_tl (hlt) (h4)))
      have s2 := es hi (by exact l_le (l_lt (h1) (hlt))) h4
      -- al lies within lo .. hi
      rcases rsg_cases (al - lo) with g | g | g
      · rcases rsg_cases (hi - al) with k | k | k
        · obtain ⟨τ, hp⟩ := hB.peg
          exact hp.zero (by grind) (by grind) hB0
        · rw [s1, s2, rsg_neg (x := lo - al) (by grind), rsg_neg (x := hi - al) (by grind)] at hs
          rcases hσ with rfl | rfl <;> exact absurd hs (by decide)
        · obtain ⟨τ, hp⟩ := hB.peg
          exact hp.zero (by grind) (by grind) hB0
      · rw [s1, s2, rsg_pos (x := lo - al) (by grind), rsg_pos (x := hi - al) (by grind)] at hs
        rcases hσ with rfl | rfl <;> exact absurd hs (by decide)
      · obtain ⟨τ, hp⟩ := hB.peg
        exact hp.zero (by grind) (by grind) hB0
    · rw [es lo h1 (by exact l_le (l_tl (hlt) (h4))), es hi (by exact l_le (l_lt (h1) (hlt))) h4] at hs
      rcases hσ with rfl | rfl <;> exact absurd hs (by decide)
  · rintro rfl
    obtain ⟨c3, U, W, hc3, e3⟩ := comb_real hG.cb
    have zA : evR A al = 0 := by obtain ⟨c, rs, _, _, _, _, k5⟩ := hA.fa; rw [k5]; grind
    have zB : evR B al = 0 := by obtain ⟨c, rs, _, _, _, _, k5⟩ := hB.fa; rw [k5]; grind
    have z : evR G al = 0 := ne_mul (by rw [e3, zA, zB]; grind) (ic_ne hc3)
    rcases hA.div hc e hl tG.ne hK with ⟨_, σ, hσ, es⟩ | ⟨z', _⟩
    · rw [es lo h1 (by exact l_le (l_tl (hlt) (h4))), es hi (by exact l_le (l_lt (h1) (hlt))) h4, rsg_neg (x := lo - al) (by rcases h3 with rfl | rfl <;> (first | exact l_sn (al1) | exact l_sn (be1) | grind)), rsg_pos (x := hi - al) (by rcases h6 with rfl | rfl <;> (first | exact l_sp (al2) | exact l_sp (be2) | grind))]
      rcases hσ with rfl | rfl <;> decide
    · exact absurd z z'
theorem same_no {A B : List Int} {lo1 hi1 lo2 hi2 lo hi al be : Re} (hA : RP A lo1 hi1 al) (hB : RP B lo2 hi2 be) (h3 : lo = lo1 ∨ lo = lo2) (h6 : hi = hi1 ∨ hi = hi2) (hn : ¬ lo < hi) : al ≠ be := by
  rintro rfl
  have := hA.l; have := hA.u; have := hB.l; have := hB.u
  rcases h3 with rfl | rfl <;> rcases h6 with rfl | rfl <;> grind
end Mine

set_option autoImplicit false
namespace Mine
open Re
theorem ic_lt' {x y : Int} (h : (x : Re) < (y : Re)) : x < y := Int.not_le.mp fun g => by have := ic_le g; grind
theorem ic_le' {x y : Int} (h : (x : Re) ≤ (y : Re)) : x ≤ y := Int.not_lt.mp fun g => by have := ic_lt g; grind
theorem ic_inj {x y : Int} (h : (x : Re) = (y : Re)) : x = y := by
  have h1 : (x : Re) ≤ (y : Re) := by grind
  have h2 : (y : Re) ≤ (x : Re) := by grind
  have := ic_le' h1; have := ic_le' h2; (clear h h1 h2; omega)
theorem rcan {a x y : Re} (ha : a ≠ 0) (h : a * x = a * y) : x = y := by
  have := ne_mul (show a * (x - y) = 0 by grind) ha
  grind
theorem ic_pne {q : Int} (h : 0 < q) : (q : Re) ≠ 0 := ic_ne (Int.ne_of_gt h)
theorem val_lt {p1 q1 p2 q2 : Int} {x y : Re} (h1 : 0 < q1) (h2 : 0 < q2) (e1 : (q1 : Re) * x = p1) (e2 : (q2 : Re) * y = p2) : p1 * q2 < p2 * q1 ↔ x < y := by
  have hq : (0 : Re) < (q1 : Re) * q2 := mul_pos (ic_pos h1) (ic_pos h2)
  have i1 : ((p1 * q2 : Int) : Re) = (q1 : Re) * q2 * x := by rw [ic_mul, ← e1]; grind
  have i2 : ((p2 * q1 : Int) : Re) = (q1 : Re) * q2 * y := by rw [ic_mul, ← e2]; grind
  constructor
  · intro h
    have := ic_lt h
    rw [i1, i2] at this
    exact lt_of_mul hq this
  · intro h
    have k := mul_pos hq (show 0 < y - x by exact l_sp (h))
    refine ic_lt' ?_
    rw [i1, i2]
    rw [show (q1 : Re) * q2 * (y - x) = q1 * q2 * y - q1 * q2 * x by grind] at k
    clear i1 i2 e1 e2 hq; grind
theorem val_sum {p1 q1 p2 q2 p q : Int} {x y : Re} (h1 : 0 < q1) (h2 : 0 < q2) (e1 : (q1 : Re) * x = p1) (e2 : (q2 : Re) * y = p2) (e : p * (q1 * q2) = (p1 * q2 + p2 * q1) * q) : (q : Re) * (x + y) = p := by
  have hq : (q1 : Re) * q2 ≠ 0 := mul_nz (ic_pne h1) (ic_pne h2)
  have e' := congrArg (fun z : Int => (z : Re)) e
  simp only [ic_mul, ic_add] at e'
  refine rcan hq ?_
  rw [← e1, ← e2] at e'
  grind
theorem val_by {u v p q n : Int} {x : Re} (hv : 0 < v) (hq : 0 < q) (e1 : (v : Re) * x = u) (e : p * (v * n) = (u * 1) * q) : (n : Re) * rq p q = x := by
  have h : (q : Re) * v ≠ 0 := mul_nz (ic_pne hq) (ic_pne hv)
  have e' := congrArg (fun z : Int => (z : Re)) e
  rw [Int.mul_one] at e'
  simp only [ic_mul] at e'
  have e2 := rq_mul (p := p) (Int.ne_of_gt hq)
  refine rcan h ?_
  rw [← e1, ← e2] at e'
  grind
theorem pow_pos' {q : Int} (h : 0 < q) : ∀ n : Nat, 0 < q ^ n
  | 0 => by rw [Int.pow_zero]; decide
  | n + 1 => by rw [Int.pow_succ]; exact Int.mul_pos (pow_pos' h n) h
theorem val_neg {p q : Int} {x : Re} (e : (q : Re) * x = p) : (q : Re) * (-x) = ((-p : Int) : Re) := by rw [ic_neg, ← e]; grind
theorem sgn_ev {row : List Int} {p q : Int} {x : Re} (hr : row ≠ []) (hq : 0 < q) (e : (q : Re) * x = p) : sgn (hval p q row) = rsg (evR row x) := by
  cases row with
  | nil => exact absurd rfl hr
  | cons c xs =>
    have h := hval_evR e xs c
    have h2 := congrArg rsg h
    rw [rsg_int, rsg_mul, ← ic_pow, rsg_int] at h2
    have : sg (q ^ xs.length) = 1 := by
      have := pow_pos' hq xs.length
      unfold sg; rw [if_neg (by (clear hq e hr h h2; omega)), if_pos this]
    rw [this, Int.one_mul] at h2
    exact h2
/-- x is p by q in its lowest form, and a whole number of parts of D -/
structure Pt (D : Int) (x : Re) (p q : Int) : Prop where
  pos : 0 < q
  one : p.gcd q = 1
  val : (q : Re) * x = p
  un : ∃ a : Int, (D : Re) * x = a
theorem Pt.low {D B p q : Int} {x : Re} {k : Nat} (h : Pt D x p q) (hD : 0 < D) (hB : 1 ≤ B) (b1 : -(B : Re) ≤ x) (b2 : x ≤ B) (s : Sm k (D * B)) : Low k p q := by
  obtain ⟨a, ha⟩ := h.un
  have e : p * D = a * q := ic_inj (by rw [ic_mul, ic_mul, ← h.val, ← ha]; grind)
  have hD' := Std.le_of_lt (ic_pos hD)
  have i1 : a ≤ D * B := ic_le' (by rw [ic_mul, ← ha]; have := nonneg_mul hD' (show 0 ≤ (B : Re) - x by exact l_sl (b2)); clear e b1 s ha; grind)
  have i2 : -(D * B) ≤ a := ic_le' (by rw [ic_neg, ic_mul, ← ha]; have := nonneg_mul hD' (show 0 ≤ (B : Re) + x by grind); clear e b1 s ha; grind)
  have i3 : D ≤ D * B := by have := Int.mul_le_mul_of_nonneg_left hB (Int.le_of_lt hD); (clear h hD hB b1 b2 s ha e hD' i1 i2; omega)
  refine low_sm' h.one h.pos hD e (s.of_le ?_) (s.of_le ?_) <;> clear e ha b1 b2 hD' <;> (clear h hB s; omega)
theorem Pt.scale {D p q : Int} {x : Re} (h : Pt D x p q) (n : Int) : Pt (n * D) x p q := by
  obtain ⟨a, ha⟩ := h.un
  exact ⟨h.pos, h.one, h.val, n * a, by rw [ic_mul, ic_mul, ← ha]; grind⟩
theorem Pt.of_low {k : Nat} {D p q : Int} {x : Re} (h : Low k p q) (e : (q : Re) * x = p) (u : ∃ a : Int, (D : Re) * x = a) : Pt D x p q := ⟨h.pos, h.one, e, u⟩
/-- the least number -/
theorem least {P : Nat → Prop} (h : ∃ n, P n) : ∃ n, P n ∧ ∀ m, P m → n ≤ m := by
  obtain ⟨n, hn⟩ := h
  induction n using Nat.strongRecOn with
  | ind n ih =>
    by_cases g : ∃ m, m < n ∧ P m
    · obtain ⟨m, hm, pm⟩ := g; exact ih m hm pm
    · exact ⟨n, hn, fun m pm => Nat.not_lt.mp fun l => g ⟨m, l, pm⟩⟩
open Classical in
noncomputable def muI (I : Nat → Loc → Hp → Prop) (ρ : Loc) (H : Hp) : Nat := if h : ∃ n, I n ρ H then Classical.choose (least h) else 0
theorem muI_ok {I : Nat → Loc → Hp → Prop} {ρ : Loc} {H : Hp} (h : ∃ n, I n ρ H) : I (muI I ρ H) ρ H := by
  unfold muI; rw [dif_pos h]; exact (Classical.choose_spec (least h)).1
theorem muI_le {I : Nat → Loc → Hp → Prop} {ρ : Loc} {H : Hp} {n : Nat} (h : I n ρ H) : muI I ρ H ≤ n := by
  unfold muI; rw [dif_pos ⟨n, h⟩]; exact (Classical.choose_spec (least ⟨n, h⟩)).2 n h
/-- the next stretch -/
structure HalfO (D : Int) (al lo hi lo' hi' : Re) (x1 y1 x2 y2 : Int) : Prop where
  a1 : Pt (8 * D) lo' x1 y1
  a2 : Pt (8 * D) hi' x2 y2
  l1 : lo ≤ lo'
  l2 : lo' < al
  u1 : al < hi'
  u2 : hi' ≤ hi
  wd : 2 * (hi' - lo') ≤ hi - lo
end Mine

set_option autoImplicit false
set_option linter.unusedVariables false
set_option linter.unusedSimpArgs false
set_option maxRecDepth 100000
namespace Mine
open PySem
open Re
noncomputable abbrev pt (p q : Int) : V := .tup [.int p, .int q]
noncomputable def HalfI (H : Hp) (one wv v : V) (D : Int) (al lo hi : Re) (p1 q1 p2 q2 : Int) (n : Nat) (ρ : Loc) (H' : Hp) : Prop :=
  H' = H ∧ ∃ x1 y1 x2 y2 o5 o6 o7, ρ = [some one, some wv, some v, some (pt x1 y1), some (pt x2 y2), o5, o6, o7] ∧
    ((n = 1 ∧ x1 = p1 ∧ y1 = q1 ∧ x2 = p2 ∧ y2 = q2) ∨ (n = 0 ∧ ∃ lo' hi', HalfO D al lo hi lo' hi' x1 y1 x2 y2))
theorem wd_end {lo hi lo' hi' wr : Re} (h1 : 2 * wr = hi - lo) (h2 : 2 * (hi' - lo') ≤ hi - lo) : ¬ wr < hi' + -lo' := by grind
theorem wd_beg {lo hi al wr : Re} (h1 : 2 * wr = hi - lo) (l : lo < al) (u : al < hi) : wr < hi + -lo := by grind
theorem mid_in {lo hi m B : Re} (e : 2 * m = lo + hi) (h : lo < hi) (b1 : -B ≤ lo) (b2 : hi ≤ B) : lo < m ∧ m < hi ∧ -B ≤ m ∧ m ≤ B := by grind
theorem mid_un {D : Int} {lo hi m : Re} {a b : Int} (e : 2 * m = lo + hi) (h1 : (D : Re) * lo = a) (h2 : (D : Re) * hi = b) : ((8 * D : Int) : Re) * m = ((4 * (a + b) : Int) : Re) := by
  rw [ic_mul, ic_mul, ic_add, ← h1, ← h2]
  have e8 : ((8 : Int) : Re) = 8 := rfl
  have e4 : ((4 : Int) : Re) = 4 := rfl
  rw [e8, e4]
  have : (D : Re) * (2 * m) = D * (lo + hi) := by rw [e]
  grind
theorem end_un {D : Int} {lo hi m s : Re} {a b : Int} (e : 2 * m = lo + hi) (es : 8 * s = hi - lo) (h1 : (D : Re) * lo = a) (h2 : (D : Re) * hi = b) : ((8 * D : Int) : Re) * (m + -s) = ((4 * (a + b) - (b - a) : Int) : Re) ∧ ((8 * D : Int) : Re) * (m + s) = ((4 * (a + b) + (b - a) : Int) : Re) := by
  have h := mid_un e h1 h2
  have e8 : ((8 : Int) : Re) = 8 := rfl
  have k : ((8 * D : Int) : Re) * s = ((b - a : Int) : Re) := by
    rw [ic_mul, ic_sub, ← h1, ← h2, e8]
    have : (D : Re) * (8 * s) = D * (hi - lo) := by rw [es]
    grind
  constructor
  · rw [ic_sub, ← h, ← k]; grind
  · rw [ic_add, ← h, ← k]; grind
theorem end_in {lo hi m s al : Re} (e : 2 * m = lo + hi) (es : 8 * s = hi - lo) (h : lo < hi) (ea : m = al) : lo ≤ m + -s ∧ m + -s < al ∧ al < m + s ∧ m + s ≤ hi ∧ 2 * ((m + s) - (m + -s)) ≤ hi - lo := by
  have : 0 < s := by
    have h8 : (0 : Re) < 8 * s := by grind
    rcases rsg_cases s with g | g | g
    · exact g
    · grind
    · rw [g] at h8; grind
  grind
theorem rsg_is {x : Re} : rsg x = -1 ↔ x < 0 := by
  rcases rsg_cases x with g | g | g
  · rw [rsg_pos g]; constructor
    · intro h; exact absurd h (by decide)
    · intro h; grind
  · rw [rsg_neg g]; exact ⟨fun _ => g, fun _ => rfl⟩
  · rw [g, rsg_zero]; constructor
    · intro h; exact absurd h (by decide)
    · intro h; grind
theorem rsg_is0 {x : Re} : rsg x = 0 ↔ x = 0 := by
  rcases rsg_cases x with g | g | g
  · rw [rsg_pos g]; constructor
    · intro h; exact absurd h (by decide)
    · intro h; grind
  · rw [rsg_neg g]; constructor
    · intro h; exact absurd h (by decide)
    · intro h; grind
  · rw [g, rsg_zero]; exact ⟨fun _ => rfl, fun _ => rfl⟩
/-- the sign at the middle against the sign at the low end -/
theorem mid_sg {row : List Int} {lo hi al m : Re} (h : RP row lo hi al) (h1 : lo < m) (h2 : m < hi) : (rsg (evR row m) = 0 ↔ m = al) ∧ (rsg (evR row m) = rsg (evR row lo) ↔ m < al) := by
  obtain ⟨σ, hσ, e⟩ := h.sign
  have hl := h.l
  have hu := h.u
  have e1 := e m (Std.le_of_lt h1) (Std.le_of_lt h2)
  have e2 := e lo (Std.le_refl _) (Std.le_of_lt (by exact l_tt (h1) (h2)))
  rw [rsg_neg (x := lo - al) (by exact l_sn (hl))] at e2
  constructor
  · rw [e1]
    constructor
    · intro h0
      have : rsg (m - al) = 0 := by rcases hσ with rfl | rfl <;> (clear h h1 h2 hl hu e e1 e2; omega)
      have := rsg_is0.mp this
      grind
    · intro h0
      rw [rsg_is0.mpr (show m - al = 0 by grind), Int.mul_zero]
  · rw [e1, e2]
    constructor
    · intro h0
      have : rsg (m - al) = -1 := by rcases hσ with rfl | rfl <;> (clear h h1 h2 hl hu e e1 e2; omega)
      have := rsg_is.mp this
      grind
    · intro h0
      rw [rsg_is.mpr (show m - al < 0 by exact l_sn (h0))]
theorem nine_lt {row : List Int} (hl : row.length ≤ 4) : 200 + 1 + (row.length + 1) * (600 + 2) ≤ 1000000 := by
  omega
theorem ok6 {x y : Int} {k l : Nat} (h1 : Sm k x) (h2 : Sm l y) (hk : k ≤ 4000 := by decide) (hl : l ≤ 4000 := by decide) : IntMulOk x y := IntMulOk.sm h1 h2 (Nat.le_trans hk (by decide)) (Nat.le_trans hl (by decide))
section
noncomputable def bNarrK (kc be ps pr ta sg : Nat) : PS := (.seq (.ite (.cmp .le (.idx (.var 1) (.cint 0)) (.cint 0)) (.seq (.raise kc)
 .skip) .skip)
 (.seq (.unpack [2, 3, 4] (.var 0))
 (.seq (.whl (cNarr be ps ta) (lNarr ps pr ta sg))
 (.seq (.ret (.tup (.cons (.var 2) (.cons (.var 3) (.cons (.var 4) .nil)))))
 .skip))))
variable {sub : Nat → Nat → Bool} {P : List Fn} {f n dv pa be ps pr ta sg wo na ha kc : Nat} {H : Hp} {Q : V → Hp → Prop} {X : Nat → Hp → Prop}
theorem s_half (e : P[f]? = some ⟨2, 8, bNarrK kc be ps pr ta sg⟩) (eb : P[be]? = some ⟨2, 2, bBelow⟩) (es : P[ps]? = some ⟨2, 2, bPSum pa⟩) (er : P[pr]? = some ⟨2, 2, bPProd pa⟩) (et : P[ta]? = some ⟨1, 1, bTurn⟩) (eg : P[sg]? = some ⟨2, 5, bSign⟩) (ep : P[pa]? = some ⟨2, 3, bPPart dv⟩) (ed : P[dv]? = some ⟨2, 3, bPDiv⟩)
    {v : V} {row : List Int} {p1 q1 p2 q2 wp wq D B : Int} {al lo hi wr : Re} (hv : items H v = some (row.map .int)) (hsm : AllSm 200 row) (hl : row.length ≤ 4) (hr : RP row lo hi al)
    (a1 : Pt D lo p1 q1) (a2 : Pt D hi p2 q2) (hD : 0 < D) (hB : 1 ≤ B) (b1 : -(B : Re) ≤ lo) (b2 : hi ≤ B) (hk : Sm 600 (8 * D * B)) (w : Low 1204 wp wq) (hw : (wq : Re) * wr = wp) (hw2 : 2 * wr = hi - lo)
    (hQ : ∀ lo' hi' x1 y1 x2 y2, HalfO D al lo hi lo' hi' x1 y1 x2 y2 → Q (.tup [v, pt x1 y1, pt x2 y2]) H) :
    callN sub P (n + 4) f [.tup [v, pt p1 q1, pt p2 q2], pt wp wq] H Q X := by
  have hlh : lo < hi := by have := hr.l; have := hr.u; grind
  have hw0 : 0 < wp := by
    refine ic_lt' ?_
    rw [← hw, ic_zero]
    refine mul_pos (ic_pos w.pos) ?_
    grind
  have hrne : row ≠ [] := by obtain ⟨c, rs, _, h, _⟩ := hr.fa; intro h'; rw [h'] at h; cases h
  have hD8 : 0 < 8 * D := by (clear e eb es er et eg ep ed hv hsm hl hr a1 a2 hB b1 b2 hk w hw hw2 hQ hlh hw0 hrne; omega)
  have hB3 := nine_lt hl
  refine callN_mk e rfl ?_
  dsimp only [bNarrK, qS1, qS2, qS3, qS4, qS5, qS7, qS9, qS10, qS11, qS12, qS13, qS14, qE1, qE2, qE5, qE7, qE8, qE9, qE10, qE11, qE12, qE13, qE14, qE15, qE16, qE17, qE18, qE19, qE20, qE21, qE22, qEs1, qEs2, wpAll, qO1, qO2, qI1, qI2, qI3, w_add, w_addl, w_sub, w_mul, w_mull, w_fdiv, w_mod, w_pow, w_lt, w_le, w_gt, w_ge, w_eq, w_ne, w_isn, w_ist, w_isi, w_isl, w_abs, w_lent, w_lenl, w_intb, w_list, w_tuple, w_min, w_idxt0, w_idxt1, w_idxu0, w_idxu1, w_idxu2, w_idxl, w_slcl, w_tb, w_ti, w_tn, w_tt, w_tl, w_itt, w_itl, w_bindT1, w_bindT2, w_srcl, w_srct, w_cut2, w_cut1, w_cut1', w_cut0, w_ty1, w_ty2, w_ty3, w_ty4, w_ty5, w_ty6, w_ty7, w_ty8, w_ty9, w_ty10, w_ty11, w_ty12, w_ty13, w_ty14, w_ty15, w_ty16, w_ty17, w_ty18, w_ty19, w_ty20, w_ty21, w_mapc, w_mapn, w_appc, w_appn, w_repc, w_repn, w_start, w_lenc, w_ifT, w_ifF, w_ifFF, w_ifTF, w_nT, w_nF, w_anyT, w_anyF, w_d22, ifSome_some, ifLst_lst, ifTup_tup, ifInt_int, lget, lset, lsets, Nat.reduceSub, Nat.reduceAdd, List.length_nil, ↓reduceIte]
  rw [decide_eq_false (Int.not_le.mpr hw0)]
  dsimp only [qS1, qS2, qS3, qS4, qS5, qS7, qS9, qS10, qS11, qS12, qS13, qS14, qE1, qE2, qE5, qE7, qE8, qE9, qE10, qE11, qE12, qE13, qE14, qE15, qE16, qE17, qE18, qE19, qE20, qE21, qE22, qEs1, qEs2, wpAll, qO1, qO2, qI1, qI2, qI3, w_add, w_addl, w_sub, w_mul, w_mull, w_fdiv, w_mod, w_pow, w_lt, w_le, w_gt, w_ge, w_eq, w_ne, w_isn, w_ist, w_isi, w_isl, w_abs, w_lent, w_lenl, w_intb, w_list, w_tuple, w_min, w_idxt0, w_idxt1, w_idxu0, w_idxu1, w_idxu2, w_idxl, w_slcl, w_tb, w_ti, w_tn, w_tt, w_tl, w_itt, w_itl, w_bindT1, w_bindT2, w_srcl, w_srct, w_cut2, w_cut1, w_cut1', w_cut0, w_ty1, w_ty2, w_ty3, w_ty4, w_ty5, w_ty6, w_ty7, w_ty8, w_ty9, w_ty10, w_ty11, w_ty12, w_ty13, w_ty14, w_ty15, w_ty16, w_ty17, w_ty18, w_ty19, w_ty20, w_ty21, w_mapc, w_mapn, w_appc, w_appn, w_repc, w_repn, w_start, w_lenc, w_ifT, w_ifF, w_ifFF, w_ifTF, w_nT, w_nF, w_anyT, w_anyF, w_d22, ifSome_some, ifLst_lst, ifTup_tup, ifInt_int, lget, lset, lsets, Nat.reduceSub, Nat.reduceAdd, List.length_nil, ↓reduceIte]
  refine ⟨rfl, fun ρ H' => ∃ n, HalfI H (.tup [v, pt p1 q1, pt p2 q2]) (pt wp wq) v D al lo hi p1 q1 p2 q2 n ρ H', muI (HalfI H (.tup [v, pt p1 q1, pt p2 q2]) (pt wp wq) v D al lo hi p1 q1 p2 q2), ⟨1, rfl, p1, q1, p2, q2, _, _, _, rfl, .inl ⟨rfl, rfl, rfl, rfl, rfl⟩⟩, ?_⟩
  intro ρ H' hex
  have hI := muI_ok hex
  generalize muI (HalfI H (.tup [v, pt p1 q1, pt p2 q2]) (pt wp wq) v D al lo hi p1 q1 p2 q2) ρ H' = nn at *
  obtain ⟨rfl, x1, y1, x2, y2, o5, o6, o7, rfl, hc⟩ := hI
  dsimp only [cNarr, qS1, qS2, qS3, qS4, qS5, qS7, qS9, qS10, qS11, qS12, qS13, qS14, qE1, qE2, qE5, qE7, qE8, qE9, qE10, qE11, qE12, qE13, qE14, qE15, qE16, qE17, qE18, qE19, qE20, qE21, qE22, qEs1, qEs2, wpAll, qO1, qO2, qI1, qI2, qI3, w_add, w_addl, w_sub, w_mul, w_mull, w_fdiv, w_mod, w_pow, w_lt, w_le, w_gt, w_ge, w_eq, w_ne, w_isn, w_ist, w_isi, w_isl, w_abs, w_lent, w_lenl, w_intb, w_list, w_tuple, w_min, w_idxt0, w_idxt1, w_idxu0, w_idxu1, w_idxu2, w_idxl, w_slcl, w_tb, w_ti, w_tn, w_tt, w_tl, w_itt, w_itl, w_bindT1, w_bindT2, w_srcl, w_srct, w_cut2, w_cut1, w_cut1', w_cut0, w_ty1, w_ty2, w_ty3, w_ty4, w_ty5, w_ty6, w_ty7, w_ty8, w_ty9, w_ty10, w_ty11, w_ty12, w_ty13, w_ty14, w_ty15, w_ty16, w_ty17, w_ty18, w_ty19, w_ty20, w_ty21, w_mapc, w_mapn, w_appc, w_appn, w_repc, w_repn, w_start, w_lenc, w_ifT, w_ifF, w_ifFF, w_ifTF, w_nT, w_nF, w_anyT, w_anyF, w_d22, ifSome_some, ifLst_lst, ifTup_tup, ifInt_int, lget, lset, lsets, Nat.reduceSub, Nat.reduceAdd, List.length_nil, ↓reduceIte]
  rcases hc with ⟨rfl, rfl, rfl, rfl, rfl⟩ | ⟨rfl, lo', hi', O⟩
  · have L1 : Low 600 x1 y1 := (a1.scale 8).low hD8 hB b1 (by exact l_le (l_tl (hlh) (b2))) hk
    have L2 : Low 600 x2 y2 := (a2.scale 8).low hD8 hB (by exact l_le (l_lt (b1) (hlh))) b2 hk
    refine s_ta et ?_
    refine s_ps es ep ed L2 L1.neg (by decide) fun d1 d2 Dd hd => ?_
    refine s_below eb (ok6 w.top Dd.bot) (ok6 Dd.top w.bot) ?_
    dsimp only [qS1, qS2, qS3, qS4, qS5, qS7, qS9, qS10, qS11, qS12, qS13, qS14, qE1, qE2, qE5, qE7, qE8, qE9, qE10, qE11, qE12, qE13, qE14, qE15, qE16, qE17, qE18, qE19, qE20, qE21, qE22, qEs1, qEs2, wpAll, qO1, qO2, qI1, qI2, qI3, w_add, w_addl, w_sub, w_mul, w_mull, w_fdiv, w_mod, w_pow, w_lt, w_le, w_gt, w_ge, w_eq, w_ne, w_isn, w_ist, w_isi, w_isl, w_abs, w_lent, w_lenl, w_intb, w_list, w_tuple, w_min, w_idxt0, w_idxt1, w_idxu0, w_idxu1, w_idxu2, w_idxl, w_slcl, w_tb, w_ti, w_tn, w_tt, w_tl, w_itt, w_itl, w_bindT1, w_bindT2, w_srcl, w_srct, w_cut2, w_cut1, w_cut1', w_cut0, w_ty1, w_ty2, w_ty3, w_ty4, w_ty5, w_ty6, w_ty7, w_ty8, w_ty9, w_ty10, w_ty11, w_ty12, w_ty13, w_ty14, w_ty15, w_ty16, w_ty17, w_ty18, w_ty19, w_ty20, w_ty21, w_mapc, w_mapn, w_appc, w_appn, w_repc, w_repn, w_start, w_lenc, w_ifT, w_ifF, w_ifFF, w_ifTF, w_nT, w_nF, w_anyT, w_anyF, w_d22, ifSome_some, ifLst_lst, ifTup_tup, ifInt_int, lget, lset, lsets, Nat.reduceSub, Nat.reduceAdd, List.length_nil, ↓reduceIte]
    rw [decide_eq_true ((val_lt w.pos Dd.pos hw (val_sum a2.pos a1.pos a2.val (val_neg a1.val) hd)).mpr (wd_beg hw2 hr.l hr.u))]
    dsimp only [lNarr, qS1, qS2, qS3, qS4, qS5, qS7, qS9, qS10, qS11, qS12, qS13, qS14, qE1, qE2, qE5, qE7, qE8, qE9, qE10, qE11, qE12, qE13, qE14, qE15, qE16, qE17, qE18, qE19, qE20, qE21, qE22, qEs1, qEs2, wpAll, qO1, qO2, qI1, qI2, qI3, w_add, w_addl, w_sub, w_mul, w_mull, w_fdiv, w_mod, w_pow, w_lt, w_le, w_gt, w_ge, w_eq, w_ne, w_isn, w_ist, w_isi, w_isl, w_abs, w_lent, w_lenl, w_intb, w_list, w_tuple, w_min, w_idxt0, w_idxt1, w_idxu0, w_idxu1, w_idxu2, w_idxl, w_slcl, w_tb, w_ti, w_tn, w_tt, w_tl, w_itt, w_itl, w_bindT1, w_bindT2, w_srcl, w_srct, w_cut2, w_cut1, w_cut1', w_cut0, w_ty1, w_ty2, w_ty3, w_ty4, w_ty5, w_ty6, w_ty7, w_ty8, w_ty9, w_ty10, w_ty11, w_ty12, w_ty13, w_ty14, w_ty15, w_ty16, w_ty17, w_ty18, w_ty19, w_ty20, w_ty21, w_mapc, w_mapn, w_appc, w_appn, w_repc, w_repn, w_start, w_lenc, w_ifT, w_ifF, w_ifFF, w_ifTF, w_nT, w_nF, w_anyT, w_anyF, w_d22, ifSome_some, ifLst_lst, ifTup_tup, ifInt_int, lget, lset, lsets, Nat.reduceSub, Nat.reduceAdd, List.length_nil, ↓reduceIte]
    refine s_ps es ep ed L1 L2 (by decide) fun s1 s2 S hs => ?_
    refine s_pr er ep ed (l := 3) S.top S.bot S.pos (by unfold Sm; decide) (by unfold Sm; decide) (by decide) (by decide) fun m1 m2 M hm => ?_
    have em : 2 * rq m1 m2 = lo + hi := val_by (n := 2) S.pos M.pos (val_sum a1.pos a2.pos a1.val a2.val hs) hm
    have vm := rq_mul (p := m1) (Int.ne_of_gt M.pos)
    generalize rq m1 m2 = m at *
    obtain ⟨i1, i2, i3, i4⟩ := mid_in em hlh b1 b2
    obtain ⟨a, ha⟩ := a1.un
    obtain ⟨b, hb⟩ := a2.un
    have PM : Pt (8 * D) m m1 m2 := Pt.of_low M vm ⟨_, mid_un em ha hb⟩
    have LM : Low 600 m1 m2 := PM.low hD8 hB i3 i4 hk
    obtain ⟨g1, g2⟩ := mid_sg hr i1 i2
    refine s_sign eg hv hsm LM.top LM.bot hB3 ?_
    dsimp only [qS1, qS2, qS3, qS4, qS5, qS7, qS9, qS10, qS11, qS12, qS13, qS14, qE1, qE2, qE5, qE7, qE8, qE9, qE10, qE11, qE12, qE13, qE14, qE15, qE16, qE17, qE18, qE19, qE20, qE21, qE22, qEs1, qEs2, wpAll, qO1, qO2, qI1, qI2, qI3, w_add, w_addl, w_sub, w_mul, w_mull, w_fdiv, w_mod, w_pow, w_lt, w_le, w_gt, w_ge, w_eq, w_ne, w_isn, w_ist, w_isi, w_isl, w_abs, w_lent, w_lenl, w_intb, w_list, w_tuple, w_min, w_idxt0, w_idxt1, w_idxu0, w_idxu1, w_idxu2, w_idxl, w_slcl, w_tb, w_ti, w_tn, w_tt, w_tl, w_itt, w_itl, w_bindT1, w_bindT2, w_srcl, w_srct, w_cut2, w_cut1, w_cut1', w_cut0, w_ty1, w_ty2, w_ty3, w_ty4, w_ty5, w_ty6, w_ty7, w_ty8, w_ty9, w_ty10, w_ty11, w_ty12, w_ty13, w_ty14, w_ty15, w_ty16, w_ty17, w_ty18, w_ty19, w_ty20, w_ty21, w_mapc, w_mapn, w_appc, w_appn, w_repc, w_repn, w_start, w_lenc, w_ifT, w_ifF, w_ifFF, w_ifTF, w_nT, w_nF, w_anyT, w_anyF, w_d22, ifSome_some, ifLst_lst, ifTup_tup, ifInt_int, lget, lset, lsets, Nat.reduceSub, Nat.reduceAdd, List.length_nil, ↓reduceIte]
    rw [sgn_ev hrne M.pos vm]
    by_cases hz : rsg (evR row m) = 0
    · rw [decide_eq_true hz]
      dsimp only [qS1, qS2, qS3, qS4, qS5, qS7, qS9, qS10, qS11, qS12, qS13, qS14, qE1, qE2, qE5, qE7, qE8, qE9, qE10, qE11, qE12, qE13, qE14, qE15, qE16, qE17, qE18, qE19, qE20, qE21, qE22, qEs1, qEs2, wpAll, qO1, qO2, qI1, qI2, qI3, w_add, w_addl, w_sub, w_mul, w_mull, w_fdiv, w_mod, w_pow, w_lt, w_le, w_gt, w_ge, w_eq, w_ne, w_isn, w_ist, w_isi, w_isl, w_abs, w_lent, w_lenl, w_intb, w_list, w_tuple, w_min, w_idxt0, w_idxt1, w_idxu0, w_idxu1, w_idxu2, w_idxl, w_slcl, w_tb, w_ti, w_tn, w_tt, w_tl, w_itt, w_itl, w_bindT1, w_bindT2, w_srcl, w_srct, w_cut2, w_cut1, w_cut1', w_cut0, w_ty1, w_ty2, w_ty3, w_ty4, w_ty5, w_ty6, w_ty7, w_ty8, w_ty9, w_ty10, w_ty11, w_ty12, w_ty13, w_ty14, w_ty15, w_ty16, w_ty17, w_ty18, w_ty19, w_ty20, w_ty21, w_mapc, w_mapn, w_appc, w_appn, w_repc, w_repn, w_start, w_lenc, w_ifT, w_ifF, w_ifFF, w_ifTF, w_nT, w_nF, w_anyT, w_anyF, w_d22, ifSome_some, ifLst_lst, ifTup_tup, ifInt_int, lget, lset, lsets, Nat.reduceSub, Nat.reduceAdd, List.length_nil, ↓reduceIte]
      refine s_pr er ep ed (l := 3) w.top w.bot w.pos (by unfold Sm; decide) (by unfold Sm; decide) (by decide) (by decide) fun t1 t2 T ht => ?_
      have et4 : 4 * rq t1 t2 = wr := val_by (n := 4) w.pos T.pos hw ht
      have vt := rq_mul (p := t1) (Int.ne_of_gt T.pos)
      generalize rq t1 t2 = s at *
      have e8 : 8 * s = hi - lo := by grind
      refine s_ta et ?_
      refine s_ps es ep ed LM T.neg (by decide) fun z1 w1 Z1 hz1 => ?_
      refine s_ps es ep ed LM T (by decide) fun z2 w2 Z2 hz2 => ?_
      obtain ⟨u1, u2⟩ := end_un em e8 ha hb
      obtain ⟨k1, k2, k3, k4, k5⟩ := end_in em e8 hlh (g1.mp hz)
      exact hQ _ _ _ _ _ _ ⟨Pt.of_low Z1 (val_sum M.pos T.pos vm (val_neg vt) hz1) ⟨_, u1⟩, Pt.of_low Z2 (val_sum M.pos T.pos vm vt hz2) ⟨_, u2⟩, k1, k2, k3, k4, k5⟩
    · rw [decide_eq_false hz]
      dsimp only [lNarr2, qS1, qS2, qS3, qS4, qS5, qS7, qS9, qS10, qS11, qS12, qS13, qS14, qE1, qE2, qE5, qE7, qE8, qE9, qE10, qE11, qE12, qE13, qE14, qE15, qE16, qE17, qE18, qE19, qE20, qE21, qE22, qEs1, qEs2, wpAll, qO1, qO2, qI1, qI2, qI3, w_add, w_addl, w_sub, w_mul, w_mull, w_fdiv, w_mod, w_pow, w_lt, w_le, w_gt, w_ge, w_eq, w_ne, w_isn, w_ist, w_isi, w_isl, w_abs, w_lent, w_lenl, w_intb, w_list, w_tuple, w_min, w_idxt0, w_idxt1, w_idxu0, w_idxu1, w_idxu2, w_idxl, w_slcl, w_tb, w_ti, w_tn, w_tt, w_tl, w_itt, w_itl, w_bindT1, w_bindT2, w_srcl, w_srct, w_cut2, w_cut1, w_cut1', w_cut0, w_ty1, w_ty2, w_ty3, w_ty4, w_ty5, w_ty6, w_ty7, w_ty8, w_ty9, w_ty10, w_ty11, w_ty12, w_ty13, w_ty14, w_ty15, w_ty16, w_ty17, w_ty18, w_ty19, w_ty20, w_ty21, w_mapc, w_mapn, w_appc, w_appn, w_repc, w_repn, w_start, w_lenc, w_ifT, w_ifF, w_ifFF, w_ifTF, w_nT, w_nF, w_anyT, w_anyF, w_d22, ifSome_some, ifLst_lst, ifTup_tup, ifInt_int, lget, lset, lsets, Nat.reduceSub, Nat.reduceAdd, List.length_nil, ↓reduceIte]
      refine s_sign eg hv hsm L1.top L1.bot hB3 ?_
      dsimp only [qS1, qS2, qS3, qS4, qS5, qS7, qS9, qS10, qS11, qS12, qS13, qS14, qE1, qE2, qE5, qE7, qE8, qE9, qE10, qE11, qE12, qE13, qE14, qE15, qE16, qE17, qE18, qE19, qE20, qE21, qE22, qEs1, qEs2, wpAll, qO1, qO2, qI1, qI2, qI3, w_add, w_addl, w_sub, w_mul, w_mull, w_fdiv, w_mod, w_pow, w_lt, w_le, w_gt, w_ge, w_eq, w_ne, w_isn, w_ist, w_isi, w_isl, w_abs, w_lent, w_lenl, w_intb, w_list, w_tuple, w_min, w_idxt0, w_idxt1, w_idxu0, w_idxu1, w_idxu2, w_idxl, w_slcl, w_tb, w_ti, w_tn, w_tt, w_tl, w_itt, w_itl, w_bindT1, w_bindT2, w_srcl, w_srct, w_cut2, w_cut1, w_cut1', w_cut0, w_ty1, w_ty2, w_ty3, w_ty4, w_ty5, w_ty6, w_ty7, w_ty8, w_ty9, w_ty10, w_ty11, w_ty12, w_ty13, w_ty14, w_ty15, w_ty16, w_ty17, w_ty18, w_ty19, w_ty20, w_ty21, w_mapc, w_mapn, w_appc, w_appn, w_repc, w_repn, w_start, w_lenc, w_ifT, w_ifF, w_ifFF, w_ifTF, w_nT, w_nF, w_anyT, w_anyF, w_d22, ifSome_some, ifLst_lst, ifTup_tup, ifInt_int, lget, lset, lsets, Nat.reduceSub, Nat.reduceAdd, List.length_nil, ↓reduceIte]
      rw [sgn_ev hrne a1.pos a1.val]
      by_cases hs' : rsg (evR row m) = rsg (evR row lo)
      · rw [decide_eq_true hs']
        have hN : HalfI H' (.tup [v, pt x1 y1, pt x2 y2]) (pt wp wq) v D al lo hi x1 y1 x2 y2 0 [some (.tup [v, pt x1 y1, pt x2 y2]), some (pt wp wq), some v, some (pt m1 m2), some (pt x2 y2), some (pt m1 m2), some (.int (rsg (evR row m))), o7] H' :=
          ⟨rfl, _, _, _, _, _, _, _, rfl, .inr ⟨rfl, m, hi, PM, a2.scale 8, Std.le_of_lt i1, g2.mp hs', hr.u, Std.le_refl _, by clear g1 g2 hz hs' vm ha hb; grind⟩⟩
        exact ⟨⟨_, hN⟩, Nat.lt_of_le_of_lt (muI_le hN) (by decide)⟩
      · rw [decide_eq_false hs']
        have hma : al < m := by
          have n1 : ¬ m = al := fun h => hz (g1.mpr h)
          have n2 : ¬ m < al := fun h => hs' (g2.mpr h)
          clear g1 g2 hz hs' vm ha hb
          grind
        have hN : HalfI H' (.tup [v, pt x1 y1, pt x2 y2]) (pt wp wq) v D al lo hi x1 y1 x2 y2 0 [some (.tup [v, pt x1 y1, pt x2 y2]), some (pt wp wq), some v, some (pt x1 y1), some (pt m1 m2), some (pt m1 m2), some (.int (rsg (evR row m))), o7] H' :=
          ⟨rfl, _, _, _, _, _, _, _, rfl, .inr ⟨rfl, lo, m, a1.scale 8, PM, Std.le_refl _, hr.l, hma, Std.le_of_lt i2, by clear g1 g2 hz hs' vm ha hb; grind⟩⟩
        exact ⟨⟨_, hN⟩, Nat.lt_of_le_of_lt (muI_le hN) (by decide)⟩
  · have o1 := O.l1
    have o2 := O.u2
    have o3 := O.l2
    have o4 := O.u1
    have L1 : Low 600 x1 y1 := O.a1.low hD8 hB (by exact l_ll (b1) (o1)) (by grind) hk
    have L2 : Low 600 x2 y2 := O.a2.low hD8 hB (by grind) (by exact l_ll (o2) (b2)) hk
    refine s_ta et ?_
    refine s_ps es ep ed L2 L1.neg (by decide) fun d1 d2 Dd hd => ?_
    refine s_below eb (ok6 w.top Dd.bot) (ok6 Dd.top w.bot) ?_
    dsimp only [qS1, qS2, qS3, qS4, qS5, qS7, qS9, qS10, qS11, qS12, qS13, qS14, qE1, qE2, qE5, qE7, qE8, qE9, qE10, qE11, qE12, qE13, qE14, qE15, qE16, qE17, qE18, qE19, qE20, qE21, qE22, qEs1, qEs2, wpAll, qO1, qO2, qI1, qI2, qI3, w_add, w_addl, w_sub, w_mul, w_mull, w_fdiv, w_mod, w_pow, w_lt, w_le, w_gt, w_ge, w_eq, w_ne, w_isn, w_ist, w_isi, w_isl, w_abs, w_lent, w_lenl, w_intb, w_list, w_tuple, w_min, w_idxt0, w_idxt1, w_idxu0, w_idxu1, w_idxu2, w_idxl, w_slcl, w_tb, w_ti, w_tn, w_tt, w_tl, w_itt, w_itl, w_bindT1, w_bindT2, w_srcl, w_srct, w_cut2, w_cut1, w_cut1', w_cut0, w_ty1, w_ty2, w_ty3, w_ty4, w_ty5, w_ty6, w_ty7, w_ty8, w_ty9, w_ty10, w_ty11, w_ty12, w_ty13, w_ty14, w_ty15, w_ty16, w_ty17, w_ty18, w_ty19, w_ty20, w_ty21, w_mapc, w_mapn, w_appc, w_appn, w_repc, w_repn, w_start, w_lenc, w_ifT, w_ifF, w_ifFF, w_ifTF, w_nT, w_nF, w_anyT, w_anyF, w_d22, ifSome_some, ifLst_lst, ifTup_tup, ifInt_int, lget, lset, lsets, Nat.reduceSub, Nat.reduceAdd, List.length_nil, ↓reduceIte]
    rw [decide_eq_false (fun h => wd_end hw2 O.wd ((val_lt w.pos Dd.pos hw (val_sum O.a2.pos O.a1.pos O.a2.val (val_neg O.a1.val) hd)).mp h))]
    exact hQ _ _ _ _ _ _ O
end
end Mine

set_option autoImplicit false
set_option linter.unusedVariables false
set_option linter.unusedSimpArgs false
set_option maxRecDepth 100000
namespace Mine
open PySem
open Re
/-- a peg behind j turns -/
structure PD (row : List Int) (N : Int) (al lo hi : Re) (p1 q1 p2 q2 : Int) (j : Nat) : Prop where
  rp : RP row lo hi al
  tr : Tr row
  ln : row.length ≤ 4
  sm : AllSm 200 row
  n0 : 0 < N
  n1 : N ≤ 1073741824
  a1 : Pt (N * 8 ^ j) lo p1 q1
  a2 : Pt (N * 8 ^ j) hi p2 q2
  wd : ((2 ^ j : Int) : Re) * (hi - lo) ≤ ((64 : Int) : Re)
  b1 : -((1073741824 : Int) : Re) ≤ lo
  b2 : hi ≤ ((1073741824 : Int) : Re)
section
variable {row : List Int} {N : Int} {al lo hi : Re} {p1 q1 p2 q2 : Int} {j : Nat}
theorem PD.dpos (d : PD row N al lo hi p1 q1 p2 q2 j) : 0 < N * 8 ^ j := Int.mul_pos d.n0 (pow_pos' (by decide) j)
theorem PD.big (d : PD row N al lo hi p1 q1 p2 q2 j) (hj : j ≤ 120) : Sm 600 (8 * (N * 8 ^ j) * 1073741824) := by
  have h8 : Sm 4 (8 : Int) := by unfold Sm; decide
  have hN : Sm 31 N := by have := d.n0; have := d.n1; unfold Sm; have : (2 : Nat) ^ 31 = 2147483648 := by decide
                          (clear d hj h8 this; omega)
  have hp : Sm (4 * j + 1) ((8 : Int) ^ j) := h8.pow j
  have hB : Sm 31 (1073741824 : Int) := by unfold Sm; decide
  exact ((h8.mul (hN.mul hp)).mul hB).mono (by (clear d h8 hN hp hB; omega))
theorem PD.lh (d : PD row N al lo hi p1 q1 p2 q2 j) : lo < hi := by have := d.rp.l; have := d.rp.u; grind
theorem PD.low1 (d : PD row N al lo hi p1 q1 p2 q2 j) (hj : j ≤ 120) : Low 600 p1 q1 := by
  have h := d.lh; have h1 := d.b1; have h2 := d.b2
  exact (d.a1.scale 8).low (B := 1073741824) (Int.mul_pos (by decide) d.dpos) (by decide) h1 (by exact l_le (l_tl (h) (h2))) (d.big hj)
theorem PD.low2 (d : PD row N al lo hi p1 q1 p2 q2 j) (hj : j ≤ 120) : Low 600 p2 q2 := by
  have h := d.lh; have h1 := d.b1; have h2 := d.b2
  exact (d.a2.scale 8).low (B := 1073741824) (Int.mul_pos (by decide) d.dpos) (by decide) (by exact l_le (l_lt (h1) (h))) h2 (d.big hj)
theorem PD.step (d : PD row N al lo hi p1 q1 p2 q2 j) {lo' hi' : Re} {x1 y1 x2 y2 : Int} (o : HalfO (N * 8 ^ j) al lo hi lo' hi' x1 y1 x2 y2) : PD row N al lo' hi' x1 y1 x2 y2 (j + 1) := by
  have e : N * 8 ^ (j + 1) = 8 * (N * 8 ^ j) := by rw [Int.pow_succ]; grind
  have h1 := d.b1
  have h2 := d.b2
  have h3 := o.l1
  have h4 := o.u2
  refine ⟨d.rp.sub o.l1 o.l2 o.u1 o.u2, d.tr, d.ln, d.sm, d.n0, d.n1, by rw [e]; exact o.a1, by rw [e]; exact o.a2, ?_, by exact l_ll (h1) (h3), by exact l_ll (h4) (h2)⟩
  have h5 := o.wd
  have h6 := d.wd
  have h7 := nonneg_mul (Std.le_of_lt (ic_pos (pow_pos' (show (0 : Int) < 2 by decide) j))) (show 0 ≤ (hi - lo) - 2 * (hi' - lo') by exact l_sl (h5))
  rw [Int.pow_succ, ic_mul]
  have e2 : ((2 : Int) : Re) = 2 := rfl
  rw [e2]
  generalize ((2 ^ j : Int) : Re) = z at *
  grind
end
theorem rsg_sm (x : Re) : Sm 64 (rsg x) := by
  have e : (2 : Nat) ^ 64 = 18446744073709551616 := by decide
  rcases rsg_cases x with g | g | g
  · rw [rsg_pos g]; unfold Sm; (clear e g; omega)
  · rw [rsg_neg g]; unfold Sm; (clear e g; omega)
  · rw [g, rsg_zero]; unfold Sm; (clear e g; omega)
theorem mulP_one {A : List Int} (h : A ≠ []) : mulP [1] A = A := by
  cases A with
  | nil => exact absurd rfl h
  | cons x xs =>
    show (1 * x + 0) :: addP (smul 1 xs) [] = x :: xs
    have e : smul 1 xs = xs := by unfold smul; rw [show (fun x : Int => 1 * x) = id from funext fun x => Int.one_mul x, List.map_id]
    rw [e, Int.one_mul, Int.add_zero]
    cases xs <;> rfl
theorem fct_one : Fct [1] 1 1 := ⟨rfl, by decide, by decide, fun xs h => by rw [mulP_one (by rintro rfl; cases h)]; exact h, AllSm.cons (by unfold Sm; decide) .nil, by decide⟩
theorem turn_lt {al be lo1 hi1 lo2 hi2 : Re} {j : Nat} (hs : 1 ≤ ((2 ^ 100 : Int) : Re) * ab (al - be)) (l1 : lo1 < al) (u1 : al < hi1) (l2 : lo2 < be) (u2 : be < hi2) (h1 : lo2 < hi1) (h2 : lo1 < hi2)
    (w1 : ((2 ^ j : Int) : Re) * (hi1 - lo1) ≤ ((64 : Int) : Re)) (w2 : ((2 ^ j : Int) : Re) * (hi2 - lo2) ≤ ((64 : Int) : Re)) : j < 107 := by
  have hx : ab (al - be) < (hi1 - lo1) + (hi2 - lo2) := by rcases ab_or (al - be) with h | h <;> rw [h] <;> grind
  have hp := ic_pos (pow_pos' (show (0 : Int) < 2 by decide) j)
  have hM := ic_pos (show (0 : Int) < 2 ^ 100 by decide)
  have k1 := mul_pos hp (show 0 < (hi1 - lo1) + (hi2 - lo2) - ab (al - be) by exact l_sp (hx))
  have k2 : ((2 ^ j : Int) : Re) * ab (al - be) < ((128 : Int) : Re) := by
    have e : ((128 : Int) : Re) = ((64 : Int) : Re) + ((64 : Int) : Re) := by rw [← ic_add]; rfl
    rw [e]
    generalize ((2 ^ j : Int) : Re) = z at *
    generalize ((64 : Int) : Re) = y at *
    generalize ab (al - be) = x at *
    clear hs hx hM l1 u1 l2 u2 h1 h2 e
    grind
  have k3 := mul_pos hM (show 0 < ((128 : Int) : Re) - ((2 ^ j : Int) : Re) * ab (al - be) by exact l_sp (k2))
  have k4 := nonneg_mul (Std.le_of_lt hp) (show 0 ≤ ((2 ^ 100 : Int) : Re) * ab (al - be) - 1 by exact l_sl (hs))
  have k5 : ((2 ^ j : Int) : Re) < ((2 ^ 100 * 128 : Int) : Re) := by
    rw [ic_mul (2 ^ 100) 128]
    generalize ((2 ^ j : Int) : Re) = z at *
    generalize ((2 ^ 100 : Int) : Re) = y at *
    generalize ((128 : Int) : Re) = u at *
    generalize ab (al - be) = x at *
    clear hs hx hM l1 u1 l2 u2 h1 h2 k1 k2 hp w1 w2
    grind
  have k6 : (2 : Int) ^ j < 2 ^ 107 := ic_lt' k5
  refine Nat.not_le.mp fun h => ?_
  obtain ⟨m, rfl⟩ := Nat.exists_eq_add_of_le h
  have h1 : (1 : Int) ≤ 2 ^ m := pow_pos' (by decide) m
  have h2 := Int.mul_le_mul_of_nonneg_left h1 (show (0 : Int) ≤ 2 ^ 107 by decide)
  rw [← Int.pow_add, Int.mul_one] at h2
  exact Int.not_le.mpr k6 h2
section
variable {sub : Nat → Nat → Bool} {P : List Fn} {f n dv pa be ps pr ta sg wo na ha tr re wl ro co sa kc : Nat} {H : Hp} {Q : V → Hp → Prop} {X : Nat → Hp → Prop}
noncomputable def bWid (ps ta : Nat) : PS := (.seq (.ret (.call ps (.cons (.idx (.var 0) (.cint 2)) (.cons (.call ta (.cons (.idx (.var 0) (.cint 1)) .nil)) .nil))))
 .skip)
noncomputable def bHalv (na pr wo : Nat) : PS := (.seq (.ret (.call na (.cons (.var 0) (.cons (.call pr (.cons (.call wo (.cons (.var 0) .nil)) (.cons (.glob (Str.ofString "HALF") 1 2) .nil))) .nil))))
 .skip)
theorem s_halved (eh : P[f]? = some ⟨1, 1, bHalv na pr wo⟩) (ew : P[wo]? = some ⟨1, 1, bWid ps ta⟩) (e : P[na]? = some ⟨2, 8, bNarrK kc be ps pr ta sg⟩) (eb : P[be]? = some ⟨2, 2, bBelow⟩) (es : P[ps]? = some ⟨2, 2, bPSum pa⟩) (er : P[pr]? = some ⟨2, 2, bPProd pa⟩) (et : P[ta]? = some ⟨1, 1, bTurn⟩) (eg : P[sg]? = some ⟨2, 5, bSign⟩) (ep : P[pa]? = some ⟨2, 3, bPPart dv⟩) (ed : P[dv]? = some ⟨2, 3, bPDiv⟩)
    {v : V} {row : List Int} {p1 q1 p2 q2 N : Int} {al lo hi : Re} {j : Nat} (hv : items H v = some (row.map .int)) (d : PD row N al lo hi p1 q1 p2 q2 j) (hj : j ≤ 120)
    (hQ : ∀ lo' hi' x1 y1 x2 y2, PD row N al lo' hi' x1 y1 x2 y2 (j + 1) → Q (.tup [v, pt x1 y1, pt x2 y2]) H) :
    callN sub P (n + 5) f [.tup [v, pt p1 q1, pt p2 q2]] H Q X := by
  have L1 := d.low1 hj
  have L2 := d.low2 hj
  refine callN_mk eh rfl ?_
  dsimp only [bHalv, qS1, qS2, qS3, qS4, qS5, qS7, qS9, qS10, qS11, qS12, qS13, qS14, qE1, qE2, qE5, qE7, qE8, qE9, qE10, qE11, qE12, qE13, qE14, qE15, qE16, qE17, qE18, qE19, qE20, qE21, qE22, qEs1, qEs2, wpAll, qO1, qO2, qI1, qI2, qI3, w_add, w_addl, w_sub, w_mul, w_mull, w_fdiv, w_mod, w_pow, w_lt, w_le, w_gt, w_ge, w_eq, w_ne, w_isn, w_ist, w_isi, w_isl, w_abs, w_lent, w_lenl, w_intb, w_list, w_tuple, w_min, w_idxt0, w_idxt1, w_idxu0, w_idxu1, w_idxu2, w_idxl, w_slcl, w_tb, w_ti, w_tn, w_tt, w_tl, w_itt, w_itl, w_bindT1, w_bindT2, w_srcl, w_srct, w_cut2, w_cut1, w_cut1', w_cut0, w_ty1, w_ty2, w_ty3, w_ty4, w_ty5, w_ty6, w_ty7, w_ty8, w_ty9, w_ty10, w_ty11, w_ty12, w_ty13, w_ty14, w_ty15, w_ty16, w_ty17, w_ty18, w_ty19, w_ty20, w_ty21, w_mapc, w_mapn, w_appc, w_appn, w_repc, w_repn, w_start, w_lenc, w_ifT, w_ifF, w_ifFF, w_ifTF, w_nT, w_nF, w_anyT, w_anyF, w_d22, ifSome_some, ifLst_lst, ifTup_tup, ifInt_int, lget, lset, lsets, Nat.reduceSub, Nat.reduceAdd, List.length_nil, ↓reduceIte]
  refine callN_mk ew rfl ?_
  dsimp only [bWid, qS1, qS2, qS3, qS4, qS5, qS7, qS9, qS10, qS11, qS12, qS13, qS14, qE1, qE2, qE5, qE7, qE8, qE9, qE10, qE11, qE12, qE13, qE14, qE15, qE16, qE17, qE18, qE19, qE20, qE21, qE22, qEs1, qEs2, wpAll, qO1, qO2, qI1, qI2, qI3, w_add, w_addl, w_sub, w_mul, w_mull, w_fdiv, w_mod, w_pow, w_lt, w_le, w_gt, w_ge, w_eq, w_ne, w_isn, w_ist, w_isi, w_isl, w_abs, w_lent, w_lenl, w_intb, w_list, w_tuple, w_min, w_idxt0, w_idxt1, w_idxu0, w_idxu1, w_idxu2, w_idxl, w_slcl, w_tb, w_ti, w_tn, w_tt, w_tl, w_itt, w_itl, w_bindT1, w_bindT2, w_srcl, w_srct, w_cut2, w_cut1, w_cut1', w_cut0, w_ty1, w_ty2, w_ty3, w_ty4, w_ty5, w_ty6, w_ty7, w_ty8, w_ty9, w_ty10, w_ty11, w_ty12, w_ty13, w_ty14, w_ty15, w_ty16, w_ty17, w_ty18, w_ty19, w_ty20, w_ty21, w_mapc, w_mapn, w_appc, w_appn, w_repc, w_repn, w_start, w_lenc, w_ifT, w_ifF, w_ifFF, w_ifTF, w_nT, w_nF, w_anyT, w_anyF, w_d22, ifSome_some, ifLst_lst, ifTup_tup, ifInt_int, lget, lset, lsets, Nat.reduceSub, Nat.reduceAdd, List.length_nil, ↓reduceIte]
  refine s_ta et ?_
  refine s_ps es ep ed L2 L1.neg (by decide) fun d1 d2 Dd hd => ?_
  refine s_pr er ep ed (l := 3) Dd.top Dd.bot Dd.pos (by unfold Sm; decide) (by unfold Sm; decide) (by decide) (by decide) fun w1 w2 W hw => ?_
  have ew2 : 2 * rq w1 w2 = hi + -lo := val_by (n := 2) Dd.pos W.pos (val_sum d.a2.pos d.a1.pos d.a2.val (val_neg d.a1.val) hd) hw
  have vw := rq_mul (p := w1) (Int.ne_of_gt W.pos)
  generalize rq w1 w2 = wr at *
  exact s_half e eb es er et eg ep ed hv d.sm d.ln d.rp d.a1 d.a2 d.dpos (B := 1073741824) (by decide) d.b1 d.b2 (d.big hj) W vw (by grind) fun lo' hi' x1 y1 x2 y2 O => hQ _ _ _ _ _ _ (d.step O)
noncomputable def tSame1 (co sg : Nat) : PS := (.seq (.assign 4 (.call co (.cons (.idx (.var 0) (.cint 0)) (.cons (.idx (.var 1) (.cint 0)) .nil))))
 (.seq (.ret (.cmp .lt (.bin .mul (.call sg (.cons (.var 4) (.cons (.var 2) .nil))) (.call sg (.cons (.var 4) (.cons (.var 3) .nil)))) (.cint 0)))
 .skip))
noncomputable def tSame2 (be co sg : Nat) : PS := (.seq (.ite (.nt (.call be (.cons (.var 2) (.cons (.var 3) .nil)))) (.seq (.ret (.cbool false))
 .skip) .skip)
 (tSame1 co sg))
noncomputable def tSame3 (be co sg : Nat) : PS := (.seq (.assign 3 (.idx (.var 0) (.cint 2)))
 (.seq (.ite (.call be (.cons (.idx (.var 1) (.cint 2)) (.cons (.var 3) .nil))) (.seq (.assign 3 (.idx (.var 1) (.cint 2)))
 .skip) .skip)
 (tSame2 be co sg)))
noncomputable def bSame (be co sg : Nat) : PS := (.seq (.assign 2 (.idx (.var 0) (.cint 1)))
 (.seq (.ite (.call be (.cons (.var 2) (.cons (.idx (.var 1) (.cint 1)) .nil))) (.seq (.assign 2 (.idx (.var 1) (.cint 1)))
 .skip) .skip)
 (tSame3 be co sg)))
theorem nine_gt {l : Nat} (hl : l ≤ 4) : 4 * (200 + 1) * 3 ^ 4 + 1 + (l + 1) * (600 + 2) ≤ 1000000 := by omega
theorem len_gcd {A B G : List Int} {l : Int} (tA : Tr A) (hG : Gcd A B G l) : G.length ≤ A.length ∧ Tr G := by
  have tG : Tr G := ⟨l, hG.last, by have := hG.pos; (clear tA hG; omega)⟩
  obtain ⟨c, K, _, hK, hl, _⟩ := dv_len tG tA hG.d1
  have := List.length_pos_iff.mpr hK
  exact ⟨by (clear tA hG tG hK; omega), tG⟩
theorem s_same1 (eb : P[be]? = some ⟨2, 2, bBelow⟩) (eg : P[sg]? = some ⟨2, 5, bSign⟩) (e : P[co]? = some ⟨2, 3, bCommon ro re⟩) (eo : P[ro]? = some ⟨2, 3, bRest tr wl re⟩) (et : P[tr]? = some ⟨1, 2, bTrim⟩) (ew : P[wl]? = some ⟨4, 7, bWl⟩) (er : P[re]? = some ⟨1, 3, bRed dv ngQ⟩) (ed : P[dv]? = some ⟨2, 3, bPDiv⟩)
    {W : Nat → Prop} {NN : Loc → Hp → Prop} {R : V → Hp → Prop} {Y : Nat → Hp → Prop} {v w x1 x2 y1 y2 : V} {A B : List Int} {al bb lo hi lo1 hi1 lo2 hi2 : Re} {a b c d : Int} (hA : RP A lo1 hi1 al) (hB : RP B lo2 hi2 bb) (tA : Tr A) (tB : Tr B) (nA : A.length ≤ 4) (nB : B.length ≤ 4) (sA : AllSm 200 A) (sB : AllSm 200 B)
    (hv : items H v = some (A.map .int)) (hw : items H w = some (B.map .int)) (L1 : Low 600 a b) (e1 : (b : Re) * lo = a) (L2 : Low 600 c d) (e2 : (d : Re) * hi = c)
    (h1 : lo1 ≤ lo) (h2 : lo2 ≤ lo) (h3 : lo = lo1 ∨ lo = lo2) (h4 : hi ≤ hi1) (h5 : hi ≤ hi2) (h6 : hi = hi1 ∨ hi = hi2)
    (hR : ∀ H' β, H <+: H' → (β = true ↔ al = bb) → R (.bool β) H') :
    wpS sub (callN sub P (n + 4)) W (tSame2 be co sg) [some (.tup [v, x1, x2]), some (.tup [w, y1, y2]), some (pt a b), some (pt c d), none] H NN R Y := by
  dsimp only [tSame2, qS1, qS2, qS3, qS4, qS5, qS7, qS9, qS10, qS11, qS12, qS13, qS14, qE1, qE2, qE5, qE7, qE8, qE9, qE10, qE11, qE12, qE13, qE14, qE15, qE16, qE17, qE18, qE19, qE20, qE21, qE22, qEs1, qEs2, wpAll, qO1, qO2, qI1, qI2, qI3, w_add, w_addl, w_sub, w_mul, w_mull, w_fdiv, w_mod, w_pow, w_lt, w_le, w_gt, w_ge, w_eq, w_ne, w_isn, w_ist, w_isi, w_isl, w_abs, w_lent, w_lenl, w_intb, w_list, w_tuple, w_min, w_idxt0, w_idxt1, w_idxu0, w_idxu1, w_idxu2, w_idxl, w_slcl, w_tb, w_ti, w_tn, w_tt, w_tl, w_itt, w_itl, w_bindT1, w_bindT2, w_srcl, w_srct, w_cut2, w_cut1, w_cut1', w_cut0, w_ty1, w_ty2, w_ty3, w_ty4, w_ty5, w_ty6, w_ty7, w_ty8, w_ty9, w_ty10, w_ty11, w_ty12, w_ty13, w_ty14, w_ty15, w_ty16, w_ty17, w_ty18, w_ty19, w_ty20, w_ty21, w_mapc, w_mapn, w_appc, w_appn, w_repc, w_repn, w_start, w_lenc, w_ifT, w_ifF, w_ifFF, w_ifTF, w_nT, w_nF, w_anyT, w_anyF, w_d22, ifSome_some, ifLst_lst, ifTup_tup, ifInt_int, lget, lset, lsets, Nat.reduceSub, Nat.reduceAdd, List.length_nil, ↓reduceIte]
  refine s_below eb (ok6 L1.top L2.bot) (ok6 L2.top L1.bot) ?_
  dsimp only [qS1, qS2, qS3, qS4, qS5, qS7, qS9, qS10, qS11, qS12, qS13, qS14, qE1, qE2, qE5, qE7, qE8, qE9, qE10, qE11, qE12, qE13, qE14, qE15, qE16, qE17, qE18, qE19, qE20, qE21, qE22, qEs1, qEs2, wpAll, qO1, qO2, qI1, qI2, qI3, w_add, w_addl, w_sub, w_mul, w_mull, w_fdiv, w_mod, w_pow, w_lt, w_le, w_gt, w_ge, w_eq, w_ne, w_isn, w_ist, w_isi, w_isl, w_abs, w_lent, w_lenl, w_intb, w_list, w_tuple, w_min, w_idxt0, w_idxt1, w_idxu0, w_idxu1, w_idxu2, w_idxl, w_slcl, w_tb, w_ti, w_tn, w_tt, w_tl, w_itt, w_itl, w_bindT1, w_bindT2, w_srcl, w_srct, w_cut2, w_cut1, w_cut1', w_cut0, w_ty1, w_ty2, w_ty3, w_ty4, w_ty5, w_ty6, w_ty7, w_ty8, w_ty9, w_ty10, w_ty11, w_ty12, w_ty13, w_ty14, w_ty15, w_ty16, w_ty17, w_ty18, w_ty19, w_ty20, w_ty21, w_mapc, w_mapn, w_appc, w_appn, w_repc, w_repn, w_start, w_lenc, w_ifT, w_ifF, w_ifFF, w_ifTF, w_nT, w_nF, w_anyT, w_anyF, w_d22, ifSome_some, ifLst_lst, ifTup_tup, ifInt_int, lget, lset, lsets, Nat.reduceSub, Nat.reduceAdd, List.length_nil, ↓reduceIte]
  have hlt := val_lt L1.pos L2.pos e1 e2
  by_cases hc : a * d < c * b
  · rw [decide_eq_true hc]
    dsimp only [tSame1, qS1, qS2, qS3, qS4, qS5, qS7, qS9, qS10, qS11, qS12, qS13, qS14, qE1, qE2, qE5, qE7, qE8, qE9, qE10, qE11, qE12, qE13, qE14, qE15, qE16, qE17, qE18, qE19, qE20, qE21, qE22, qEs1, qEs2, wpAll, qO1, qO2, qI1, qI2, qI3, w_add, w_addl, w_sub, w_mul, w_mull, w_fdiv, w_mod, w_pow, w_lt, w_le, w_gt, w_ge, w_eq, w_ne, w_isn, w_ist, w_isi, w_isl, w_abs, w_lent, w_lenl, w_intb, w_list, w_tuple, w_min, w_idxt0, w_idxt1, w_idxu0, w_idxu1, w_idxu2, w_idxl, w_slcl, w_tb, w_ti, w_tn, w_tt, w_tl, w_itt, w_itl, w_bindT1, w_bindT2, w_srcl, w_srct, w_cut2, w_cut1, w_cut1', w_cut0, w_ty1, w_ty2, w_ty3, w_ty4, w_ty5, w_ty6, w_ty7, w_ty8, w_ty9, w_ty10, w_ty11, w_ty12, w_ty13, w_ty14, w_ty15, w_ty16, w_ty17, w_ty18, w_ty19, w_ty20, w_ty21, w_mapc, w_mapn, w_appc, w_appn, w_repc, w_repn, w_start, w_lenc, w_ifT, w_ifF, w_ifFF, w_ifTF, w_nT, w_nF, w_anyT, w_anyF, w_d22, ifSome_some, ifLst_lst, ifTup_tup, ifInt_int, lget, lset, lsets, Nat.reduceSub, Nat.reduceAdd, List.length_nil, ↓reduceIte]
    refine s_commonS e eo et ew er ed fct_one (A := A) (B := B) (N := 4) (K := 200) (by rw [mulP_one tA.ne]; exact hv) (by rw [mulT_tr tB, mulP_one tB.ne]; exact hw) tA (.inr tB) nA nB (by decide) sA sB (by decide) fun H1 i G l hp hi' hG sG => ?_
    obtain ⟨nG, tG⟩ := len_gcd tA hG
    rw [mulP_one tG.ne] at hi'
    have hz : 4 * (200 + 1) * 3 ^ 4 + 1 + (G.length + 1) * (600 + 2) ≤ 1000000 := nine_gt (Nat.le_trans nG nA)
    refine s_sign eg (v := .lst i) hi' sG L1.top L1.bot hz ?_
    refine s_sign eg (v := .lst i) hi' sG L2.top L2.bot hz ?_
    rw [sgn_ev tG.ne L1.pos e1, sgn_ev tG.ne L2.pos e2]
    refine ⟨IntMulOk.left (rsg_sm _), hR _ _ hp ?_⟩
    rw [decide_eq_true_iff]
    exact same_sg tA tB hA hB hG h1 h2 h3 h4 h5 h6 (hlt.mp hc)
  · rw [decide_eq_false hc]
    refine hR _ _ (List.prefix_refl _) ?_
    have := same_no hA hB h3 h6 (fun h => hc (hlt.mpr h))
    constructor
    · intro h; cases h
    · intro h; exact absurd h this
end
end Mine

set_option autoImplicit false
set_option linter.unusedVariables false
set_option linter.unusedSimpArgs false
set_option maxRecDepth 100000
namespace Mine
open PySem
open Re
section
variable {sub : Nat → Nat → Bool} {P : List Fn} {f n dv pa be ps pr ta sg wo na ha tr re wl ro co sa kc : Nat} {H : Hp} {Q : V → Hp → Prop} {X : Nat → Hp → Prop}
theorem s_same3 (eb : P[be]? = some ⟨2, 2, bBelow⟩) (eg : P[sg]? = some ⟨2, 5, bSign⟩) (e : P[co]? = some ⟨2, 3, bCommon ro re⟩) (eo : P[ro]? = some ⟨2, 3, bRest tr wl re⟩) (et : P[tr]? = some ⟨1, 2, bTrim⟩) (ew : P[wl]? = some ⟨4, 7, bWl⟩) (er : P[re]? = some ⟨1, 3, bRed dv ngQ⟩) (ed : P[dv]? = some ⟨2, 3, bPDiv⟩)
    {v w : V} {A B : List Int} {N M : Int} {al bb lo1 hi1 lo2 hi2 : Re} {p1 q1 p2 q2 r1 s1 r2 s2 : Int} (dA : PD A N al lo1 hi1 p1 q1 p2 q2 0) (dB : PD B M bb lo2 hi2 r1 s1 r2 s2 0) (hv : items H v = some (A.map .int)) (hw : items H w = some (B.map .int))
    {W : Nat → Prop} {NN : Loc → Hp → Prop} {R : V → Hp → Prop} {Y : Nat → Hp → Prop} {a b : Int} {lo : Re} (L : Low 600 a b) (hlo : (b : Re) * lo = a) (h1 : lo1 ≤ lo) (h2 : lo2 ≤ lo) (h3 : lo = lo1 ∨ lo = lo2)
    (hR : ∀ H' β, H <+: H' → (β = true ↔ al = bb) → R (.bool β) H') :
    wpS sub (callN sub P (n + 4)) W (tSame3 be co sg) [some (.tup [v, pt p1 q1, pt p2 q2]), some (.tup [w, pt r1 s1, pt r2 s2]), some (pt a b), none, none] H NN R Y := by
  have L2 := dA.low2 (by decide)
  have L4 := dB.low2 (by decide)
  have g2 := val_lt dB.a2.pos dA.a2.pos dB.a2.val dA.a2.val
  unfold tSame3
  generalize hT : tSame2 be co sg = T
  dsimp only [qS1, qS2, qS3, qS4, qS5, qS7, qS9, qS10, qS11, qS12, qS13, qS14, qE1, qE2, qE5, qE7, qE8, qE9, qE10, qE11, qE12, qE13, qE14, qE15, qE16, qE17, qE18, qE19, qE20, qE21, qE22, qEs1, qEs2, wpAll, qO1, qO2, qI1, qI2, qI3, w_add, w_addl, w_sub, w_mul, w_mull, w_fdiv, w_mod, w_pow, w_lt, w_le, w_gt, w_ge, w_eq, w_ne, w_isn, w_ist, w_isi, w_isl, w_abs, w_lent, w_lenl, w_intb, w_list, w_tuple, w_min, w_idxt0, w_idxt1, w_idxu0, w_idxu1, w_idxu2, w_idxl, w_slcl, w_tb, w_ti, w_tn, w_tt, w_tl, w_itt, w_itl, w_bindT1, w_bindT2, w_srcl, w_srct, w_cut2, w_cut1, w_cut1', w_cut0, w_ty1, w_ty2, w_ty3, w_ty4, w_ty5, w_ty6, w_ty7, w_ty8, w_ty9, w_ty10, w_ty11, w_ty12, w_ty13, w_ty14, w_ty15, w_ty16, w_ty17, w_ty18, w_ty19, w_ty20, w_ty21, w_mapc, w_mapn, w_appc, w_appn, w_repc, w_repn, w_start, w_lenc, w_ifT, w_ifF, w_ifFF, w_ifTF, w_nT, w_nF, w_anyT, w_anyF, w_d22, ifSome_some, ifLst_lst, ifTup_tup, ifInt_int, lget, lset, lsets, Nat.reduceSub, Nat.reduceAdd, List.length_nil, ↓reduceIte]
  refine s_below eb (ok6 L4.top L2.bot) (ok6 L2.top L4.bot) ?_
  dsimp only [qS1, qS2, qS3, qS4, qS5, qS7, qS9, qS10, qS11, qS12, qS13, qS14, qE1, qE2, qE5, qE7, qE8, qE9, qE10, qE11, qE12, qE13, qE14, qE15, qE16, qE17, qE18, qE19, qE20, qE21, qE22, qEs1, qEs2, wpAll, qO1, qO2, qI1, qI2, qI3, w_add, w_addl, w_sub, w_mul, w_mull, w_fdiv, w_mod, w_pow, w_lt, w_le, w_gt, w_ge, w_eq, w_ne, w_isn, w_ist, w_isi, w_isl, w_abs, w_lent, w_lenl, w_intb, w_list, w_tuple, w_min, w_idxt0, w_idxt1, w_idxu0, w_idxu1, w_idxu2, w_idxl, w_slcl, w_tb, w_ti, w_tn, w_tt, w_tl, w_itt, w_itl, w_bindT1, w_bindT2, w_srcl, w_srct, w_cut2, w_cut1, w_cut1', w_cut0, w_ty1, w_ty2, w_ty3, w_ty4, w_ty5, w_ty6, w_ty7, w_ty8, w_ty9, w_ty10, w_ty11, w_ty12, w_ty13, w_ty14, w_ty15, w_ty16, w_ty17, w_ty18, w_ty19, w_ty20, w_ty21, w_mapc, w_mapn, w_appc, w_appn, w_repc, w_repn, w_start, w_lenc, w_ifT, w_ifF, w_ifFF, w_ifTF, w_nT, w_nF, w_anyT, w_anyF, w_d22, ifSome_some, ifLst_lst, ifTup_tup, ifInt_int, lget, lset, lsets, Nat.reduceSub, Nat.reduceAdd, List.length_nil, ↓reduceIte]
  by_cases hc2 : r2 * q2 < p2 * s2
  · rw [decide_eq_true hc2]
    have k2 := g2.mp hc2
    dsimp only [qS1, qS2, qS3, qS4, qS5, qS7, qS9, qS10, qS11, qS12, qS13, qS14, qE1, qE2, qE5, qE7, qE8, qE9, qE10, qE11, qE12, qE13, qE14, qE15, qE16, qE17, qE18, qE19, qE20, qE21, qE22, qEs1, qEs2, wpAll, qO1, qO2, qI1, qI2, qI3, w_add, w_addl, w_sub, w_mul, w_mull, w_fdiv, w_mod, w_pow, w_lt, w_le, w_gt, w_ge, w_eq, w_ne, w_isn, w_ist, w_isi, w_isl, w_abs, w_lent, w_lenl, w_intb, w_list, w_tuple, w_min, w_idxt0, w_idxt1, w_idxu0, w_idxu1, w_idxu2, w_idxl, w_slcl, w_tb, w_ti, w_tn, w_tt, w_tl, w_itt, w_itl, w_bindT1, w_bindT2, w_srcl, w_srct, w_cut2, w_cut1, w_cut1', w_cut0, w_ty1, w_ty2, w_ty3, w_ty4, w_ty5, w_ty6, w_ty7, w_ty8, w_ty9, w_ty10, w_ty11, w_ty12, w_ty13, w_ty14, w_ty15, w_ty16, w_ty17, w_ty18, w_ty19, w_ty20, w_ty21, w_mapc, w_mapn, w_appc, w_appn, w_repc, w_repn, w_start, w_lenc, w_ifT, w_ifF, w_ifFF, w_ifTF, w_nT, w_nF, w_anyT, w_anyF, w_d22, ifSome_some, ifLst_lst, ifTup_tup, ifInt_int, lget, lset, lsets, Nat.reduceSub, Nat.reduceAdd, List.length_nil, ↓reduceIte]
    subst hT
    exact s_same1 eb eg e eo et ew er ed dA.rp dB.rp dA.tr dB.tr dA.ln dB.ln dA.sm dB.sm hv hw L hlo L4 dB.a2.val h1 h2 h3 (Std.le_of_lt k2) (Std.le_refl _) (.inr rfl) hR
  · rw [decide_eq_false hc2]
    have k2 : ¬ hi2 < hi1 := fun h => hc2 (g2.mpr h)
    dsimp only [qS1, qS2, qS3, qS4, qS5, qS7, qS9, qS10, qS11, qS12, qS13, qS14, qE1, qE2, qE5, qE7, qE8, qE9, qE10, qE11, qE12, qE13, qE14, qE15, qE16, qE17, qE18, qE19, qE20, qE21, qE22, qEs1, qEs2, wpAll, qO1, qO2, qI1, qI2, qI3, w_add, w_addl, w_sub, w_mul, w_mull, w_fdiv, w_mod, w_pow, w_lt, w_le, w_gt, w_ge, w_eq, w_ne, w_isn, w_ist, w_isi, w_isl, w_abs, w_lent, w_lenl, w_intb, w_list, w_tuple, w_min, w_idxt0, w_idxt1, w_idxu0, w_idxu1, w_idxu2, w_idxl, w_slcl, w_tb, w_ti, w_tn, w_tt, w_tl, w_itt, w_itl, w_bindT1, w_bindT2, w_srcl, w_srct, w_cut2, w_cut1, w_cut1', w_cut0, w_ty1, w_ty2, w_ty3, w_ty4, w_ty5, w_ty6, w_ty7, w_ty8, w_ty9, w_ty10, w_ty11, w_ty12, w_ty13, w_ty14, w_ty15, w_ty16, w_ty17, w_ty18, w_ty19, w_ty20, w_ty21, w_mapc, w_mapn, w_appc, w_appn, w_repc, w_repn, w_start, w_lenc, w_ifT, w_ifF, w_ifFF, w_ifTF, w_nT, w_nF, w_anyT, w_anyF, w_d22, ifSome_some, ifLst_lst, ifTup_tup, ifInt_int, lget, lset, lsets, Nat.reduceSub, Nat.reduceAdd, List.length_nil, ↓reduceIte]
    subst hT
    exact s_same1 eb eg e eo et ew er ed dA.rp dB.rp dA.tr dB.tr dA.ln dB.ln dA.sm dB.sm hv hw L hlo L2 dA.a2.val h1 h2 h3 (Std.le_refl _) (by exact l_nl k2) (.inl rfl) hR
theorem s_sameT {T : PS} (es : P[sa]? = some ⟨2, 5, (.seq (.assign 2 (.idx (.var 0) (.cint 1))) (.seq (.ite (.call be (.cons (.var 2) (.cons (.idx (.var 1) (.cint 1)) .nil))) (.seq (.assign 2 (.idx (.var 1) (.cint 1))) .skip) .skip) T))⟩) (eb : P[be]? = some ⟨2, 2, bBelow⟩) {v w : V} {p1 q1 p2 q2 r1 s1 r2 s2 : Int} (L1 : Low 600 p1 q1) (L3 : Low 600 r1 s1)
    (h1 : p1 * s1 < r1 * q1 → wpS sub (callN sub P (n + 4)) (fun m => H.length ≤ m) T [some (.tup [v, pt p1 q1, pt p2 q2]), some (.tup [w, pt r1 s1, pt r2 s2]), some (pt r1 s1), none, none] H (fun _ H' => Q .none H') Q X)
    (h2 : ¬ p1 * s1 < r1 * q1 → wpS sub (callN sub P (n + 4)) (fun m => H.length ≤ m) T [some (.tup [v, pt p1 q1, pt p2 q2]), some (.tup [w, pt r1 s1, pt r2 s2]), some (pt p1 q1), none, none] H (fun _ H' => Q .none H') Q X) :
    callN sub P (n + 5) sa [.tup [v, pt p1 q1, pt p2 q2], .tup [w, pt r1 s1, pt r2 s2]] H Q X := by
  refine callN_mk es rfl ?_
  dsimp only [qS1, qS2, qS3, qS4, qS5, qS7, qS9, qS10, qS11, qS12, qS13, qS14, qE1, qE2, qE5, qE7, qE8, qE9, qE10, qE11, qE12, qE13, qE14, qE15, qE16, qE17, qE18, qE19, qE20, qE21, qE22, qEs1, qEs2, wpAll, qO1, qO2, qI1, qI2, qI3, w_add, w_addl, w_sub, w_mul, w_mull, w_fdiv, w_mod, w_pow, w_lt, w_le, w_gt, w_ge, w_eq, w_ne, w_isn, w_ist, w_isi, w_isl, w_abs, w_lent, w_lenl, w_intb, w_list, w_tuple, w_min, w_idxt0, w_idxt1, w_idxu0, w_idxu1, w_idxu2, w_idxl, w_slcl, w_tb, w_ti, w_tn, w_tt, w_tl, w_itt, w_itl, w_bindT1, w_bindT2, w_srcl, w_srct, w_cut2, w_cut1, w_cut1', w_cut0, w_ty1, w_ty2, w_ty3, w_ty4, w_ty5, w_ty6, w_ty7, w_ty8, w_ty9, w_ty10, w_ty11, w_ty12, w_ty13, w_ty14, w_ty15, w_ty16, w_ty17, w_ty18, w_ty19, w_ty20, w_ty21, w_mapc, w_mapn, w_appc, w_appn, w_repc, w_repn, w_start, w_lenc, w_ifT, w_ifF, w_ifFF, w_ifTF, w_nT, w_nF, w_anyT, w_anyF, w_d22, ifSome_some, ifLst_lst, ifTup_tup, ifInt_int, lget, lset, lsets, Nat.reduceSub, Nat.reduceAdd, List.length_nil, ↓reduceIte]
  refine s_below eb (ok6 L1.top L3.bot) (ok6 L3.top L1.bot) ?_
  dsimp only [qS1, qS2, qS3, qS4, qS5, qS7, qS9, qS10, qS11, qS12, qS13, qS14, qE1, qE2, qE5, qE7, qE8, qE9, qE10, qE11, qE12, qE13, qE14, qE15, qE16, qE17, qE18, qE19, qE20, qE21, qE22, qEs1, qEs2, wpAll, qO1, qO2, qI1, qI2, qI3, w_add, w_addl, w_sub, w_mul, w_mull, w_fdiv, w_mod, w_pow, w_lt, w_le, w_gt, w_ge, w_eq, w_ne, w_isn, w_ist, w_isi, w_isl, w_abs, w_lent, w_lenl, w_intb, w_list, w_tuple, w_min, w_idxt0, w_idxt1, w_idxu0, w_idxu1, w_idxu2, w_idxl, w_slcl, w_tb, w_ti, w_tn, w_tt, w_tl, w_itt, w_itl, w_bindT1, w_bindT2, w_srcl, w_srct, w_cut2, w_cut1, w_cut1', w_cut0, w_ty1, w_ty2, w_ty3, w_ty4, w_ty5, w_ty6, w_ty7, w_ty8, w_ty9, w_ty10, w_ty11, w_ty12, w_ty13, w_ty14, w_ty15, w_ty16, w_ty17, w_ty18, w_ty19, w_ty20, w_ty21, w_mapc, w_mapn, w_appc, w_appn, w_repc, w_repn, w_start, w_lenc, w_ifT, w_ifF, w_ifFF, w_ifTF, w_nT, w_nF, w_anyT, w_anyF, w_d22, ifSome_some, ifLst_lst, ifTup_tup, ifInt_int, lget, lset, lsets, Nat.reduceSub, Nat.reduceAdd, List.length_nil, ↓reduceIte]
  by_cases hc1 : p1 * s1 < r1 * q1
  · rw [decide_eq_true hc1]
    exact h1 hc1
  · rw [decide_eq_false hc1]
    exact h2 hc1
theorem s_same (es : P[sa]? = some ⟨2, 5, bSame be co sg⟩) (eb : P[be]? = some ⟨2, 2, bBelow⟩) (eg : P[sg]? = some ⟨2, 5, bSign⟩) (e : P[co]? = some ⟨2, 3, bCommon ro re⟩) (eo : P[ro]? = some ⟨2, 3, bRest tr wl re⟩) (et : P[tr]? = some ⟨1, 2, bTrim⟩) (ew : P[wl]? = some ⟨4, 7, bWl⟩) (er : P[re]? = some ⟨1, 3, bRed dv ngQ⟩) (ed : P[dv]? = some ⟨2, 3, bPDiv⟩)
    {v w : V} {A B : List Int} {N M : Int} {al bb lo1 hi1 lo2 hi2 : Re} {p1 q1 p2 q2 r1 s1 r2 s2 : Int} (dA : PD A N al lo1 hi1 p1 q1 p2 q2 0) (dB : PD B M bb lo2 hi2 r1 s1 r2 s2 0) (hv : items H v = some (A.map .int)) (hw : items H w = some (B.map .int))
    (hQ : ∀ H' β, H <+: H' → (β = true ↔ al = bb) → Q (.bool β) H') :
    callN sub P (n + 5) sa [.tup [v, pt p1 q1, pt p2 q2], .tup [w, pt r1 s1, pt r2 s2]] H Q X := by
  have g1 := val_lt dA.a1.pos dB.a1.pos dA.a1.val dB.a1.val
  exact s_sameT (T := tSame3 be co sg) es eb (dA.low1 (by decide)) (dB.low1 (by decide)) (fun hc1 => s_same3 eb eg e eo et ew er ed dA dB hv hw (dB.low1 (by decide)) dB.a1.val (Std.le_of_lt (g1.mp hc1)) (Std.le_refl _) (.inr rfl) hQ)
    (fun hc1 => s_same3 eb eg e eo et ew er ed dA dB hv hw (dA.low1 (by decide)) dA.a1.val (Std.le_refl _) (Std.not_lt.mp fun h => hc1 (g1.mpr h)) (.inl rfl) hQ)
noncomputable def tComp1 (ha : Nat) : PS := (.seq (.assign 0 (.call ha (.cons (.var 0) .nil)))
 (.seq (.assign 1 (.call ha (.cons (.var 1) .nil)))
 .skip))
noncomputable def tComp2 (be ha : Nat) : PS := (.seq (.ite (.nt (.call be (.cons (.idx (.var 0) (.cint 1)) (.cons (.idx (.var 1) (.cint 2)) .nil)))) (.seq (.ret (.cint 1))
 .skip) .skip)
 (tComp1 ha))
noncomputable def lComp (be ha : Nat) : PS := (.seq (.ite (.nt (.call be (.cons (.idx (.var 1) (.cint 1)) (.cons (.idx (.var 0) (.cint 2)) .nil)))) (.seq (.ret (.neg (.cint 1)))
 .skip) .skip)
 (tComp2 be ha))
noncomputable def bComp (sa be ha : Nat) : PS := (.seq (.ite (.call sa (.cons (.var 0) (.cons (.var 1) .nil))) (.seq (.ret (.cint 0))
 .skip) .skip)
 (.seq (.whl (.cbool true) (lComp be ha))
 .skip))
noncomputable def CompI (H : Hp) (v w : V) (A B : List Int) (N M : Int) (al bb : Re) (n : Nat) (ρ : Loc) (H' : Hp) : Prop :=
  H' = H ∧ ∃ j lo1 hi1 lo2 hi2 p1 q1 p2 q2 r1 s1 r2 s2, n + j = 110 ∧ ρ = [some (.tup [v, pt p1 q1, pt p2 q2]), some (.tup [w, pt r1 s1, pt r2 s2])] ∧ PD A N al lo1 hi1 p1 q1 p2 q2 j ∧ PD B M bb lo2 hi2 r1 s1 r2 s2 j
theorem s_comp (ef : P[f]? = some ⟨2, 2, bComp sa be ha⟩) (es : P[sa]? = some ⟨2, 5, bSame be co sg⟩) (eb : P[be]? = some ⟨2, 2, bBelow⟩) (eg : P[sg]? = some ⟨2, 5, bSign⟩) (e : P[co]? = some ⟨2, 3, bCommon ro re⟩) (eo : P[ro]? = some ⟨2, 3, bRest tr wl re⟩) (et : P[tr]? = some ⟨1, 2, bTrim⟩) (ew : P[wl]? = some ⟨4, 7, bWl⟩) (er : P[re]? = some ⟨1, 3, bRed dv ngQ⟩) (ed : P[dv]? = some ⟨2, 3, bPDiv⟩)
    (eh : P[ha]? = some ⟨1, 1, bHalv na pr wo⟩) (ewo : P[wo]? = some ⟨1, 1, bWid ps ta⟩) (en : P[na]? = some ⟨2, 8, bNarrK kc be ps pr ta sg⟩) (eps : P[ps]? = some ⟨2, 2, bPSum pa⟩) (epr : P[pr]? = some ⟨2, 2, bPProd pa⟩) (eta : P[ta]? = some ⟨1, 1, bTurn⟩) (ep : P[pa]? = some ⟨2, 3, bPPart dv⟩)
    {v w : V} {A B : List Int} {N M : Int} {al bb lo1 hi1 lo2 hi2 : Re} {p1 q1 p2 q2 r1 s1 r2 s2 : Int} (dA : PD A N al lo1 hi1 p1 q1 p2 q2 0) (dB : PD B M bb lo2 hi2 r1 s1 r2 s2 0) (hv : items H v = some (A.map .int)) (hw : items H w = some (B.map .int))
    (hs : al ≠ bb → 1 ≤ ((2 ^ 100 : Int) : Re) * ab (al - bb))
    (hQ : ∀ H', H <+: H' → Q (.int (rsg (al - bb))) H') :
    callN sub P (n + 6) f [.tup [v, pt p1 q1, pt p2 q2], .tup [w, pt r1 s1, pt r2 s2]] H Q X := by
  refine callN_mk ef rfl ?_
  dsimp only [bComp, qS1, qS2, qS3, qS4, qS5, qS7, qS9, qS10, qS11, qS12, qS13, qS14, qE1, qE2, qE5, qE7, qE8, qE9, qE10, qE11, qE12, qE13, qE14, qE15, qE16, qE17, qE18, qE19, qE20, qE21, qE22, qEs1, qEs2, wpAll, qO1, qO2, qI1, qI2, qI3, w_add, w_addl, w_sub, w_mul, w_mull, w_fdiv, w_mod, w_pow, w_lt, w_le, w_gt, w_ge, w_eq, w_ne, w_isn, w_ist, w_isi, w_isl, w_abs, w_lent, w_lenl, w_intb, w_list, w_tuple, w_min, w_idxt0, w_idxt1, w_idxu0, w_idxu1, w_idxu2, w_idxl, w_slcl, w_tb, w_ti, w_tn, w_tt, w_tl, w_itt, w_itl, w_bindT1, w_bindT2, w_srcl, w_srct, w_cut2, w_cut1, w_cut1', w_cut0, w_ty1, w_ty2, w_ty3, w_ty4, w_ty5, w_ty6, w_ty7, w_ty8, w_ty9, w_ty10, w_ty11, w_ty12, w_ty13, w_ty14, w_ty15, w_ty16, w_ty17, w_ty18, w_ty19, w_ty20, w_ty21, w_mapc, w_mapn, w_appc, w_appn, w_repc, w_repn, w_start, w_lenc, w_ifT, w_ifF, w_ifFF, w_ifTF, w_nT, w_nF, w_anyT, w_anyF, w_d22, ifSome_some, ifLst_lst, ifTup_tup, ifInt_int, lget, lset, lsets, Nat.reduceSub, Nat.reduceAdd, List.length_nil, ↓reduceIte]
  refine s_same es eb eg e eo et ew er ed dA dB hv hw fun H1 β hp hβ => ?_
  cases β with
  | true =>
    have hab := hβ.mp rfl
    have h0 := hQ H1 hp
    rw [rsg_is0.mpr (show al - bb = 0 by grind)] at h0
    dsimp only [qS1, qS2, qS3, qS4, qS5, qS7, qS9, qS10, qS11, qS12, qS13, qS14, qE1, qE2, qE5, qE7, qE8, qE9, qE10, qE11, qE12, qE13, qE14, qE15, qE16, qE17, qE18, qE19, qE20, qE21, qE22, qEs1, qEs2, wpAll, qO1, qO2, qI1, qI2, qI3, w_add, w_addl, w_sub, w_mul, w_mull, w_fdiv, w_mod, w_pow, w_lt, w_le, w_gt, w_ge, w_eq, w_ne, w_isn, w_ist, w_isi, w_isl, w_abs, w_lent, w_lenl, w_intb, w_list, w_tuple, w_min, w_idxt0, w_idxt1, w_idxu0, w_idxu1, w_idxu2, w_idxl, w_slcl, w_tb, w_ti, w_tn, w_tt, w_tl, w_itt, w_itl, w_bindT1, w_bindT2, w_srcl, w_srct, w_cut2, w_cut1, w_cut1', w_cut0, w_ty1, w_ty2, w_ty3, w_ty4, w_ty5, w_ty6, w_ty7, w_ty8, w_ty9, w_ty10, w_ty11, w_ty12, w_ty13, w_ty14, w_ty15, w_ty16, w_ty17, w_ty18, w_ty19, w_ty20, w_ty21, w_mapc, w_mapn, w_appc, w_appn, w_repc, w_repn, w_start, w_lenc, w_ifT, w_ifF, w_ifFF, w_ifTF, w_nT, w_nF, w_anyT, w_anyF, w_d22, ifSome_some, ifLst_lst, ifTup_tup, ifInt_int, lget, lset, lsets, Nat.reduceSub, Nat.reduceAdd, List.length_nil, ↓reduceIte]
    exact h0
  | false =>
    have hne : al ≠ bb := fun h => by have := hβ.mpr h; cases this
    have hsep := hs hne
    have hv1 := itemsKeep hp hv
    have hw1 := itemsKeep hp hw
    have hQ1 := hQ H1 hp
    dsimp only [qS1, qS2, qS3, qS4, qS5, qS7, qS9, qS10, qS11, qS12, qS13, qS14, qE1, qE2, qE5, qE7, qE8, qE9, qE10, qE11, qE12, qE13, qE14, qE15, qE16, qE17, qE18, qE19, qE20, qE21, qE22, qEs1, qEs2, wpAll, qO1, qO2, qI1, qI2, qI3, w_add, w_addl, w_sub, w_mul, w_mull, w_fdiv, w_mod, w_pow, w_lt, w_le, w_gt, w_ge, w_eq, w_ne, w_isn, w_ist, w_isi, w_isl, w_abs, w_lent, w_lenl, w_intb, w_list, w_tuple, w_min, w_idxt0, w_idxt1, w_idxu0, w_idxu1, w_idxu2, w_idxl, w_slcl, w_tb, w_ti, w_tn, w_tt, w_tl, w_itt, w_itl, w_bindT1, w_bindT2, w_srcl, w_srct, w_cut2, w_cut1, w_cut1', w_cut0, w_ty1, w_ty2, w_ty3, w_ty4, w_ty5, w_ty6, w_ty7, w_ty8, w_ty9, w_ty10, w_ty11, w_ty12, w_ty13, w_ty14, w_ty15, w_ty16, w_ty17, w_ty18, w_ty19, w_ty20, w_ty21, w_mapc, w_mapn, w_appc, w_appn, w_repc, w_repn, w_start, w_lenc, w_ifT, w_ifF, w_ifFF, w_ifTF, w_nT, w_nF, w_anyT, w_anyF, w_d22, ifSome_some, ifLst_lst, ifTup_tup, ifInt_int, lget, lset, lsets, Nat.reduceSub, Nat.reduceAdd, List.length_nil, ↓reduceIte]
    refine ⟨fun ρ H' => ∃ n, CompI H1 v w A B N M al bb n ρ H', muI (CompI H1 v w A B N M al bb), ⟨110, rfl, 0, _, _, _, _, _, _, _, _, _, _, _, _, rfl, rfl, dA, dB⟩, ?_⟩
    intro ρ H' hex
    have hI := muI_ok hex
    generalize muI (CompI H1 v w A B N M al bb) ρ H' = nn at *
    obtain ⟨rfl, j, lo1, hi1, lo2, hi2, p1, q1, p2, q2, r1, s1, r2, s2, hn, rfl, dA, dB⟩ := hI
    have hj1 : j ≤ 120 := by (clear ef es eb eg e eo et ew er ed eh ewo en eps epr eta ep hv hw hs hQ hβ hne hsep hp hv1 hw1 hQ1 hex dA dB; omega)
    have L1 := dA.low1 hj1
    have L2 := dA.low2 hj1
    have L3 := dB.low1 hj1
    have L4 := dB.low2 hj1
    have a1 := dA.rp.l
    have a2 := dA.rp.u
    have b1 := dB.rp.l
    have b2 := dB.rp.u
    dsimp only [lComp]
    generalize hT : tComp2 be ha = T
    dsimp only [qS1, qS2, qS3, qS4, qS5, qS7, qS9, qS10, qS11, qS12, qS13, qS14, qE1, qE2, qE5, qE7, qE8, qE9, qE10, qE11, qE12, qE13, qE14, qE15, qE16, qE17, qE18, qE19, qE20, qE21, qE22, qEs1, qEs2, wpAll, qO1, qO2, qI1, qI2, qI3, w_add, w_addl, w_sub, w_mul, w_mull, w_fdiv, w_mod, w_pow, w_lt, w_le, w_gt, w_ge, w_eq, w_ne, w_isn, w_ist, w_isi, w_isl, w_abs, w_lent, w_lenl, w_intb, w_list, w_tuple, w_min, w_idxt0, w_idxt1, w_idxu0, w_idxu1, w_idxu2, w_idxl, w_slcl, w_tb, w_ti, w_tn, w_tt, w_tl, w_itt, w_itl, w_bindT1, w_bindT2, w_srcl, w_srct, w_cut2, w_cut1, w_cut1', w_cut0, w_ty1, w_ty2, w_ty3, w_ty4, w_ty5, w_ty6, w_ty7, w_ty8, w_ty9, w_ty10, w_ty11, w_ty12, w_ty13, w_ty14, w_ty15, w_ty16, w_ty17, w_ty18, w_ty19, w_ty20, w_ty21, w_mapc, w_mapn, w_appc, w_appn, w_repc, w_repn, w_start, w_lenc, w_ifT, w_ifF, w_ifFF, w_ifTF, w_nT, w_nF, w_anyT, w_anyF, w_d22, ifSome_some, ifLst_lst, ifTup_tup, ifInt_int, lget, lset, lsets, Nat.reduceSub, Nat.reduceAdd, List.length_nil, ↓reduceIte]
    refine s_below eb (ok6 L3.top L2.bot) (ok6 L2.top L3.bot) ?_
    dsimp only [qS1, qS2, qS3, qS4, qS5, qS7, qS9, qS10, qS11, qS12, qS13, qS14, qE1, qE2, qE5, qE7, qE8, qE9, qE10, qE11, qE12, qE13, qE14, qE15, qE16, qE17, qE18, qE19, qE20, qE21, qE22, qEs1, qEs2, wpAll, qO1, qO2, qI1, qI2, qI3, w_add, w_addl, w_sub, w_mul, w_mull, w_fdiv, w_mod, w_pow, w_lt, w_le, w_gt, w_ge, w_eq, w_ne, w_isn, w_ist, w_isi, w_isl, w_abs, w_lent, w_lenl, w_intb, w_list, w_tuple, w_min, w_idxt0, w_idxt1, w_idxu0, w_idxu1, w_idxu2, w_idxl, w_slcl, w_tb, w_ti, w_tn, w_tt, w_tl, w_itt, w_itl, w_bindT1, w_bindT2, w_srcl, w_srct, w_cut2, w_cut1, w_cut1', w_cut0, w_ty1, w_ty2, w_ty3, w_ty4, w_ty5, w_ty6, w_ty7, w_ty8, w_ty9, w_ty10, w_ty11, w_ty12, w_ty13, w_ty14, w_ty15, w_ty16, w_ty17, w_ty18, w_ty19, w_ty20, w_ty21, w_mapc, w_mapn, w_appc, w_appn, w_repc, w_repn, w_start, w_lenc, w_ifT, w_ifF, w_ifFF, w_ifTF, w_nT, w_nF, w_anyT, w_anyF, w_d22, ifSome_some, ifLst_lst, ifTup_tup, ifInt_int, lget, lset, lsets, Nat.reduceSub, Nat.reduceAdd, List.length_nil, ↓reduceIte]
    have g1 := val_lt dB.a1.pos dA.a2.pos dB.a1.val dA.a2.val
    have g2 := val_lt dA.a1.pos dB.a2.pos dA.a1.val dB.a2.val
    by_cases hc1 : r1 * q2 < p2 * s1
    · rw [decide_eq_true hc1]
      dsimp only [qS1, qS2, qS3, qS4, qS5, qS7, qS9, qS10, qS11, qS12, qS13, qS14, qE1, qE2, qE5, qE7, qE8, qE9, qE10, qE11, qE12, qE13, qE14, qE15, qE16, qE17, qE18, qE19, qE20, qE21, qE22, qEs1, qEs2, wpAll, qO1, qO2, qI1, qI2, qI3, w_add, w_addl, w_sub, w_mul, w_mull, w_fdiv, w_mod, w_pow, w_lt, w_le, w_gt, w_ge, w_eq, w_ne, w_isn, w_ist, w_isi, w_isl, w_abs, w_lent, w_lenl, w_intb, w_list, w_tuple, w_min, w_idxt0, w_idxt1, w_idxu0, w_idxu1, w_idxu2, w_idxl, w_slcl, w_tb, w_ti, w_tn, w_tt, w_tl, w_itt, w_itl, w_bindT1, w_bindT2, w_srcl, w_srct, w_cut2, w_cut1, w_cut1', w_cut0, w_ty1, w_ty2, w_ty3, w_ty4, w_ty5, w_ty6, w_ty7, w_ty8, w_ty9, w_ty10, w_ty11, w_ty12, w_ty13, w_ty14, w_ty15, w_ty16, w_ty17, w_ty18, w_ty19, w_ty20, w_ty21, w_mapc, w_mapn, w_appc, w_appn, w_repc, w_repn, w_start, w_lenc, w_ifT, w_ifF, w_ifFF, w_ifTF, w_nT, w_nF, w_anyT, w_anyF, w_d22, ifSome_some, ifLst_lst, ifTup_tup, ifInt_int, lget, lset, lsets, Nat.reduceSub, Nat.reduceAdd, List.length_nil, ↓reduceIte]
      subst hT
      dsimp only [tComp2]
      generalize hT : tComp1 ha = T
      dsimp only [qS1, qS2, qS3, qS4, qS5, qS7, qS9, qS10, qS11, qS12, qS13, qS14, qE1, qE2, qE5, qE7, qE8, qE9, qE10, qE11, qE12, qE13, qE14, qE15, qE16, qE17, qE18, qE19, qE20, qE21, qE22, qEs1, qEs2, wpAll, qO1, qO2, qI1, qI2, qI3, w_add, w_addl, w_sub, w_mul, w_mull, w_fdiv, w_mod, w_pow, w_lt, w_le, w_gt, w_ge, w_eq, w_ne, w_isn, w_ist, w_isi, w_isl, w_abs, w_lent, w_lenl, w_intb, w_list, w_tuple, w_min, w_idxt0, w_idxt1, w_idxu0, w_idxu1, w_idxu2, w_idxl, w_slcl, w_tb, w_ti, w_tn, w_tt, w_tl, w_itt, w_itl, w_bindT1, w_bindT2, w_srcl, w_srct, w_cut2, w_cut1, w_cut1', w_cut0, w_ty1, w_ty2, w_ty3, w_ty4, w_ty5, w_ty6, w_ty7, w_ty8, w_ty9, w_ty10, w_ty11, w_ty12, w_ty13, w_ty14, w_ty15, w_ty16, w_ty17, w_ty18, w_ty19, w_ty20, w_ty21, w_mapc, w_mapn, w_appc, w_appn, w_repc, w_repn, w_start, w_lenc, w_ifT, w_ifF, w_ifFF, w_ifTF, w_nT, w_nF, w_anyT, w_anyF, w_d22, ifSome_some, ifLst_lst, ifTup_tup, ifInt_int, lget, lset, lsets, Nat.reduceSub, Nat.reduceAdd, List.length_nil, ↓reduceIte]
      refine s_below eb (ok6 L1.top L4.bot) (ok6 L4.top L1.bot) ?_
      dsimp only [qS1, qS2, qS3, qS4, qS5, qS7, qS9, qS10, qS11, qS12, qS13, qS14, qE1, qE2, qE5, qE7, qE8, qE9, qE10, qE11, qE12, qE13, qE14, qE15, qE16, qE17, qE18, qE19, qE20, qE21, qE22, qEs1, qEs2, wpAll, qO1, qO2, qI1, qI2, qI3, w_add, w_addl, w_sub, w_mul, w_mull, w_fdiv, w_mod, w_pow, w_lt, w_le, w_gt, w_ge, w_eq, w_ne, w_isn, w_ist, w_isi, w_isl, w_abs, w_lent, w_lenl, w_intb, w_list, w_tuple, w_min, w_idxt0, w_idxt1, w_idxu0, w_idxu1, w_idxu2, w_idxl, w_slcl, w_tb, w_ti, w_tn, w_tt, w_tl, w_itt, w_itl, w_bindT1, w_bindT2, w_srcl, w_srct, w_cut2, w_cut1, w_cut1', w_cut0, w_ty1, w_ty2, w_ty3, w_ty4, w_ty5, w_ty6, w_ty7, w_ty8, w_ty9, w_ty10, w_ty11, w_ty12, w_ty13, w_ty14, w_ty15, w_ty16, w_ty17, w_ty18, w_ty19, w_ty20, w_ty21, w_mapc, w_mapn, w_appc, w_appn, w_repc, w_repn, w_start, w_lenc, w_ifT, w_ifF, w_ifFF, w_ifTF, w_nT, w_nF, w_anyT, w_anyF, w_d22, ifSome_some, ifLst_lst, ifTup_tup, ifInt_int, lget, lset, lsets, Nat.reduceSub, Nat.reduceAdd, List.length_nil, ↓reduceIte]
      by_cases hc2 : p1 * s2 < r2 * q1
      · rw [decide_eq_true hc2]
        have hj := turn_lt hsep a1 a2 b1 b2 (g1.mp hc1) (g2.mp hc2) dA.wd dB.wd
        dsimp only [qS1, qS2, qS3, qS4, qS5, qS7, qS9, qS10, qS11, qS12, qS13, qS14, qE1, qE2, qE5, qE7, qE8, qE9, qE10, qE11, qE12, qE13, qE14, qE15, qE16, qE17, qE18, qE19, qE20, qE21, qE22, qEs1, qEs2, wpAll, qO1, qO2, qI1, qI2, qI3, w_add, w_addl, w_sub, w_mul, w_mull, w_fdiv, w_mod, w_pow, w_lt, w_le, w_gt, w_ge, w_eq, w_ne, w_isn, w_ist, w_isi, w_isl, w_abs, w_lent, w_lenl, w_intb, w_list, w_tuple, w_min, w_idxt0, w_idxt1, w_idxu0, w_idxu1, w_idxu2, w_idxl, w_slcl, w_tb, w_ti, w_tn, w_tt, w_tl, w_itt, w_itl, w_bindT1, w_bindT2, w_srcl, w_srct, w_cut2, w_cut1, w_cut1', w_cut0, w_ty1, w_ty2, w_ty3, w_ty4, w_ty5, w_ty6, w_ty7, w_ty8, w_ty9, w_ty10, w_ty11, w_ty12, w_ty13, w_ty14, w_ty15, w_ty16, w_ty17, w_ty18, w_ty19, w_ty20, w_ty21, w_mapc, w_mapn, w_appc, w_appn, w_repc, w_repn, w_start, w_lenc, w_ifT, w_ifF, w_ifFF, w_ifTF, w_nT, w_nF, w_anyT, w_anyF, w_d22, ifSome_some, ifLst_lst, ifTup_tup, ifInt_int, lget, lset, lsets, Nat.reduceSub, Nat.reduceAdd, List.length_nil, ↓reduceIte]
        subst hT
        dsimp only [tComp1, qS1, qS2, qS3, qS4, qS5, qS7, qS9, qS10, qS11, qS12, qS13, qS14, qE1, qE2, qE5, qE7, qE8, qE9, qE10, qE11, qE12, qE13, qE14, qE15, qE16, qE17, qE18, qE19, qE20, qE21, qE22, qEs1, qEs2, wpAll, qO1, qO2, qI1, qI2, qI3, w_add, w_addl, w_sub, w_mul, w_mull, w_fdiv, w_mod, w_pow, w_lt, w_le, w_gt, w_ge, w_eq, w_ne, w_isn, w_ist, w_isi, w_isl, w_abs, w_lent, w_lenl, w_intb, w_list, w_tuple, w_min, w_idxt0, w_idxt1, w_idxu0, w_idxu1, w_idxu2, w_idxl, w_slcl, w_tb, w_ti, w_tn, w_tt, w_tl, w_itt, w_itl, w_bindT1, w_bindT2, w_srcl, w_srct, w_cut2, w_cut1, w_cut1', w_cut0, w_ty1, w_ty2, w_ty3, w_ty4, w_ty5, w_ty6, w_ty7, w_ty8, w_ty9, w_ty10, w_ty11, w_ty12, w_ty13, w_ty14, w_ty15, w_ty16, w_ty17, w_ty18, w_ty19, w_ty20, w_ty21, w_mapc, w_mapn, w_appc, w_appn, w_repc, w_repn, w_start, w_lenc, w_ifT, w_ifF, w_ifFF, w_ifTF, w_nT, w_nF, w_anyT, w_anyF, w_d22, ifSome_some, ifLst_lst, ifTup_tup, ifInt_int, lget, lset, lsets, Nat.reduceSub, Nat.reduceAdd, List.length_nil, ↓reduceIte]
        refine s_halved eh ewo en eb eps epr eta eg ep ed hv1 dA hj1 fun lo1' hi1' x1 y1 x2 y2 dA' => ?_
        refine s_halved eh ewo en eb eps epr eta eg ep ed hw1 dB hj1 fun lo2' hi2' z1 t1 z2 t2 dB' => ?_
        have hN : CompI H' v w A B N M al bb (nn - 1) [some (.tup [v, pt x1 y1, pt x2 y2]), some (.tup [w, pt z1 t1, pt z2 t2])] H' := ⟨rfl, j + 1, _, _, _, _, _, _, _, _, _, _, _, _, by (clear ef es eb eg e eo et ew er ed eh ewo en eps epr eta ep hv hw hs hQ hβ hne hsep hp hv1 hw1 hQ1 hex dA dB hj1 L1 L2 L3 L4 a1 a2 b1 b2 g1 g2 hc1 hc2 dA' dB'; omega), rfl, dA', dB'⟩
        exact ⟨⟨_, hN⟩, Nat.lt_of_le_of_lt (muI_le hN) (by (clear ef es eb eg e eo et ew er ed eh ewo en eps epr eta ep hv hw hs hQ hβ hne hsep hp hv1 hw1 hQ1 hex dA dB hj1 L1 L2 L3 L4 a1 a2 b1 b2 g1 g2 hc1 hc2 dA' dB' hN; omega))⟩
      · rw [decide_eq_false hc2]
        have k2 : ¬ lo1 < hi2 := fun h => hc2 (g2.mpr h)
        rw [rsg_pos (x := al - bb) (by exact l_sp (l_tt (l_tl (b2) (l_nl k2)) (a1)))] at hQ1
        exact hQ1
    · rw [decide_eq_false hc1]
      have k1 : ¬ lo2 < hi1 := fun h => hc1 (g1.mpr h)
      rw [rsg_neg (x := al - bb) (by exact l_sn (l_tt (l_tl (a2) (l_nl k1)) (b1)))] at hQ1
      exact hQ1
end
end Mine

set_option autoImplicit false
namespace Mine
open Re
theorem ab_bd {x c : Re} (h1 : -c ≤ x) (h2 : x ≤ c) : ab x ≤ c := by rcases ab_or x with h | h <;> rw [h] <;> (first | exact h2 | grind)
theorem bd_add {x y : Re} {c d : Int} (h : ab x ≤ c) (g : ab y ≤ d) : ab (x + y) ≤ ((c + d : Int) : Re) := by
  have := ab_le x; have := ab_le y
  rw [ic_add]; exact ab_bd (by grind) (by grind)
theorem ab_neg (x : Re) : ab (-x) = ab x := by
  have h1 := ab_le x; have h2 := ab_le (-x)
  rcases ab_or x with h | h <;> rcases ab_or (-x) with g | g <;> rw [h, g] <;> rw [h] at h1 <;> rw [g] at h2 <;> grind
theorem bd_sub {x y : Re} {c d : Int} (h : ab x ≤ c) (g : ab y ≤ d) : ab (x - y) ≤ ((c + d : Int) : Re) := by
  rw [show x - y = x + -y by grind]; exact bd_add h (by rw [ab_neg]; exact g)
theorem mul_le_mul' {a b c d : Re} (h0 : 0 ≤ a) (h1 : a ≤ c) (g0 : 0 ≤ b) (g1 : b ≤ d) : a * b ≤ c * d := by
  have k1 := nonneg_mul h0 (show 0 ≤ d - b by exact l_sl (g1))
  have k2 := nonneg_mul (show 0 ≤ d by exact l_ll (g0) (g1)) (show 0 ≤ c - a by exact l_sl (h1))
  grind
theorem bd_mul {x y : Re} {c d : Int} (h : ab x ≤ c) (g : ab y ≤ d) : ab (x * y) ≤ ((c * d : Int) : Re) := by
  rw [ab_mul, ic_mul]; exact mul_le_mul' (ab_nonneg x) h (ab_nonneg y) g
theorem bd_int {n c : Int} (h1 : -c ≤ n) (h2 : n ≤ c) : ab (n : Re) ≤ (c : Re) := ab_bd (by rw [← ic_neg]; exact ic_le h1) (ic_le h2)
theorem bd_mono {x : Re} {c d : Int} (h : ab x ≤ c) (hd : c ≤ d) : ab x ≤ (d : Re) := by have := ic_le hd; exact l_ll (h) (this)
theorem sq_lt_lt {x y : Re} (h0 : 0 ≤ y) (h : x * x < y * y) : x < y := by
  rcases rsg_cases (y - x) with g | g | g
  · grind
  · have := nonneg_mul (show 0 ≤ x - y by grind) (show 0 ≤ x + y by grind); grind
  · have : x = y := by grind
    rw [this] at h; grind
theorem sqrt_sq' (d : Nat) : sqrt d * sqrt d = (((d : Nat) : Int) : Re) := sqrt_sq d
theorem sqrt_lt {d : Nat} {A : Int} (hA : 0 ≤ A) (h : (d : Int) < A * A) : sqrt d < A := sq_lt_lt (by have := ic_le hA; rw [ic_zero] at this; exact this) (by rw [sqrt_sq', ← ic_mul]; exact ic_lt h)
theorem lt_sqrt {d : Nat} {A : Int} (h : A * A < (d : Int)) : (A : Re) < sqrt d := sq_lt_lt (sqrt_nonneg d) (by rw [sqrt_sq', ← ic_mul]; exact ic_lt h)
theorem bd_sqrt {d : Nat} {A : Int} (hA : 0 ≤ A) (h : (d : Int) < A * A) : ab (sqrt d) ≤ (A : Re) := by
  have h1 := sqrt_lt hA h
  have h2 := sqrt_nonneg d
  exact ab_bd (by grind) (by exact l_le (h1))
theorem sep_end {g t : Re} {R M : Int} (hR : 0 < R) (e : ab g = (R : Re) * t) (h0 : 0 ≤ t) {m : Re} (h : 1 ≤ ab g * m) (hm : m ≤ (M : Re)) (hM : R * M ≤ 2 ^ 100) : 1 ≤ ((2 ^ 100 : Int) : Re) * t := by
  have k1 := ic_le hM
  rw [ic_mul] at k1
  have hR' := ic_pos hR
  have k2 := nonneg_mul (nonneg_mul (Std.le_of_lt hR') h0) (show 0 ≤ (M : Re) - m by exact l_sl (hm))
  have k3 := nonneg_mul h0 (show 0 ≤ ((2 ^ 100 : Int) : Re) - (R : Re) * M by exact l_sl (k1))
  rw [e] at h
  generalize ((2 ^ 100 : Int) : Re) = z at *
  clear k1 e hM hm hR
  grind
theorem ab_pos_mul {R : Int} (hR : 0 < R) (x : Re) : ab ((R : Re) * x) = (R : Re) * ab x := by
  rw [ab_mul]
  have := Std.le_of_lt (ic_pos hR)
  rw [show ab (R : Re) = R by unfold ab; rw [if_pos this]]
theorem ne_of_scale {R : Int} (hR : 0 < R) {al be g : Re} (e : (R : Re) * (al - be) = g) (h : al ≠ be) : g ≠ 0 := fun h0 => h (by
  rw [h0] at e
  have := ne_mul e (ic_pne hR)
  grind)
theorem sep_two {R x y z X Y S : Int} {a b : Nat} {al be : Re} (hR : 0 < R) (hb : 0 < b) (e : (R : Re) * (al - be) = x + y * sqrt a + z * sqrt b) (hx : ab (x : Re) ≤ X) (hy : ab (y : Re) ≤ Y) (hz : ab (z : Re) ≤ Y) (ha : ab (sqrt a) ≤ S) (hbb : ab (sqrt b) ≤ S)
    (hM : R * ((X + Y * S + Y * S + 1) * ((X * X + Y * Y * (S * S) + Y * Y * (S * S)) + 2 * X * Y * S + 1)) ≤ 2 ^ 100) (h : al ≠ be) : 1 ≤ ((2 ^ 100 : Int) : Re) * ab (al - be) := by
  have h0 := ne_of_scale hR e h
  have s := sep2 x y z hb rfl rfl rfl h0
  have two' : ((2 : Int) : Re) = 2 := rfl
  have i0 : (0 : Re) ≤ 1 := Std.le_of_lt Lean.Grind.OrderedRing.zero_lt_one
  have b1 : ab ((x : Re) + y * sqrt a - z * sqrt b) + 1 ≤ ((X + Y * S + Y * S + 1 : Int) : Re) := by
    have := bd_sub (bd_add hx (bd_mul hy ha)) (bd_mul hz hbb)
    rw [ic_add _ 1]
    have one' : ((1 : Int) : Re) = 1 := rfl
    rw [one']; grind
  have b2 : ab (((x * x + y * y * a - z * z * b : Int) : Re) - ((2 * x * y : Int) : Re) * sqrt a) + 1 ≤ (((X * X + Y * Y * (S * S) + Y * Y * (S * S)) + 2 * X * Y * S + 1 : Int) : Re) := by
    have e1 : ((x * x + y * y * a - z * z * b : Int) : Re) = x * x + y * y * (sqrt a * sqrt a) - z * z * (sqrt b * sqrt b) := by rw [sqrt_sq', sqrt_sq']; simp only [ic_sub, ic_add, ic_mul]
    have e2 : ((2 * x * y : Int) : Re) = ((2 : Int) : Re) * x * y := by simp only [ic_mul]
    have t2 : ab ((2 : Int) : Re) ≤ ((2 : Int) : Re) := bd_int (by decide) (by decide)
    rw [e1, e2, ic_add _ 1]
    have := bd_sub (bd_sub (bd_add (bd_mul hx hx) (bd_mul (bd_mul hy hy) (bd_mul ha ha))) (bd_mul (bd_mul hz hz) (bd_mul hbb hbb))) (bd_mul (bd_mul (bd_mul t2 hx) hy) ha)
    have one' : ((1 : Int) : Re) = 1 := rfl
    rw [one']; grind
  have n1 := ab_nonneg ((x : Re) + y * sqrt a - z * sqrt b)
  have n2 := ab_nonneg (((x * x + y * y * a - z * z * b : Int) : Re) - ((2 * x * y : Int) : Re) * sqrt a)
  refine sep_end (g := (R : Re) * (al - be)) (t := ab (al - be)) hR (ab_pos_mul hR _) (ab_nonneg _) (by rw [e]; exact s) (Std.le_trans (mul_le_mul' (by grind) b1 (by grind) b2) (by rw [← ic_mul]; exact Std.le_refl _)) hM
theorem sep_one {R u v U Y S : Int} {a : Nat} {al be : Re} (hR : 0 < R) (e : (R : Re) * (al - be) = u + v * sqrt a) (hu : ab (u : Re) ≤ U) (hv : ab (v : Re) ≤ Y) (ha : ab (sqrt a) ≤ S) (hM : R * (U + Y * S + 1) ≤ 2 ^ 100) (h : al ≠ be) : 1 ≤ ((2 ^ 100 : Int) : Re) * ab (al - be) := by
  have h0 := ne_of_scale hR e h
  have s := sep1 u v a h0
  have i0 : (0 : Re) ≤ 1 := Std.le_of_lt Lean.Grind.OrderedRing.zero_lt_one
  have n1 := ab_nonneg ((u : Re) - v * sqrt a)
  refine sep_end (g := (R : Re) * (al - be)) (t := ab (al - be)) hR (ab_pos_mul hR _) (ab_nonneg _) (by rw [e]; exact s) (M := U + Y * S + 1) ?_ hM
  have := bd_sub hu (bd_mul hv ha)
  have one' : ((1 : Int) : Re) = 1 := rfl
  rw [ic_add _ 1, one']; grind
theorem val_bd {r c : Int} {x z : Re} (hr : 0 < r) (hc : 0 ≤ c) (e : (r : Re) * x = z) (g1 : -(c : Re) ≤ z) (g2 : z ≤ c) : -(c : Re) ≤ x ∧ x ≤ (c : Re) := by
  have hrc : c ≤ r * c := by have := Int.mul_le_mul_of_nonneg_right (show 1 ≤ r from hr) hc; (clear hr hc e g1 g2; omega)
  have hr' := ic_pos hr
  have g3 := ic_le hrc
  rw [ic_mul] at g3
  constructor
  · refine Std.not_lt.mp fun hn => ?_
    have := mul_pos hr' (show 0 < -(c : Re) - x by exact l_sp (hn))
    rw [show (r : Re) * (-(c : Re) - x) = -(r * c) - r * x by grind, e] at this
    clear e; grind
  · refine Std.not_lt.mp fun hn => ?_
    have := mul_pos hr' (show 0 < x - (c : Re) by exact l_sp (hn))
    rw [show (r : Re) * (x - (c : Re)) = r * x - r * c by grind, e] at this
    clear e; grind
end Mine

set_option autoImplicit false
set_option linter.unusedVariables false
namespace Mine
open Re
structure QD (p q r : Int) (d : Nat) : Prop where
  p1 : -1000000 ≤ p
  p2 : p ≤ 1000000
  q0 : (1 ≤ q ∧ q ≤ 6) ∨ (-6 ≤ q ∧ q ≤ -1)
  r1 : 1 ≤ r
  r2 : r ≤ 7
  d1 : 1 ≤ d
  d2 : d ≤ 30
noncomputable def qal (p q r : Int) (d : Nat) : Re := rq p r + rq q r * sqrt d
theorem qal_eq {p q r : Int} {d : Nat} (hr : 0 < r) : (r : Re) * qal p q r d = p + q * sqrt d := by
  unfold qal
  rw [← rq_mul (p := p) (Int.ne_of_gt hr), ← rq_mul (p := q) (Int.ne_of_gt hr)]; grind
theorem quad_eq {row : List Int} {p q r g : Int} {d : Nat} {al : Re} (hr : 0 < r) (hg : g ≠ 0) (e : smul g row = [p * p - q * q * d, -2 * p * r, r * r]) (ha : (r : Re) * al = p + q * sqrt d) :
    ∃ C : Re, C ≠ 0 ∧ ∀ t, evR row t = C * ((t - al) * (t - (2 * rq p r - al))) := by
  have hq : sqrt d * sqrt d = (((d : Nat) : Int) : Re) := sqrt_sq d
  have m2 : ((-2 : Int) : Re) = -2 := rfl
  have hC := rq_mul (p := r * r) hg
  have hp := rq_mul (p := p) (Int.ne_of_gt hr)
  rw [ic_mul] at hC
  refine ⟨rq (r * r) g, fun h => ?_, fun t => ?_⟩
  · rw [h] at hC
    exact mul_nz (ic_pne hr) (ic_pne hr) (by rw [← hC]; grind)
  · refine rcan (ic_ne hg) ?_
    rw [← evR_smul, e]
    show ((p * p - q * q * d : Int) : Re) + t * (((-2 * p * r : Int) : Re) + t * (((r * r : Int) : Re) + t * 0)) = _
    simp only [ic_sub, ic_mul]
    rw [← hq, m2]
    have h2 : (r : Re) * (2 * rq p r - al) = p - q * sqrt d := by rw [show (r : Re) * (2 * rq p r - al) = 2 * (r * rq p r) - r * al by grind, hp, ha]; grind
    have h3 : (g : Re) * (rq (r * r) g * ((t - al) * (t - (2 * rq p r - al)))) = ((r : Re) * t - r * al) * (r * t - r * (2 * rq p r - al)) := by
      rw [show (g : Re) * (rq (r * r) g * ((t - al) * (t - (2 * rq p r - al)))) = ((g : Re) * rq (r * r) g) * ((t - al) * (t - (2 * rq p r - al))) by grind, hC]
      generalize 2 * rq p r - al = x
      clear h2 hp hC e ha hq; grind
    rw [h3, ha, h2]
    clear h3 h2 hp hC e ha
    grind
theorem quad_rp {row : List Int} {p q r g : Int} {d : Nat} {al lo hi : Re} (hr : 0 < r) (hg : g ≠ 0) (e : smul g row = [p * p - q * q * d, -2 * p * r, r * r]) (ha : (r : Re) * al = p + q * sqrt d)
    (l : lo < al) (u : al < hi) (o : Out lo hi (2 * rq p r - al)) : RP row lo hi al := by
  obtain ⟨C, hC, h⟩ := quad_eq hr hg e ha
  have hl := smul_len (c := g) (xs := row)
  rw [e] at hl
  refine ⟨l, u, C, [2 * rq p r - al], hC, hl.symm, List.pairwise_singleton _ _, fun x hx => ?_, fun t => ?_⟩
  · rw [List.mem_singleton.mp hx]; exact o
  · rw [h, prodR, prodR]; grind
theorem quad_far {row : List Int} {p q r g f : Int} {d : Nat} {al lo hi : Re} (hr : 0 < r) (hg : g ≠ 0) (e : smul g row = [p * p - q * q * d, -2 * p * r, r * r]) (ha : (r : Re) * al = p + q * sqrt d)
    (l : lo < al) (u : al < hi) (o : Out lo hi (2 * rq p r - al)) (o2 : Out lo hi (-(f : Re))) (hne : 2 * rq p r - al ≠ -(f : Re)) : RP (mulP row [f, 1]) lo hi al := by
  obtain ⟨C, hC, h⟩ := quad_eq hr hg e ha
  have hl := smul_len (c := g) (xs := row)
  rw [e] at hl
  have hrne : row ≠ [] := by intro h; rw [h] at hl; cases hl
  have hl2 := mulP_len hrne (show [f, 1] ≠ [] by simp)
  rw [← hl] at hl2
  refine ⟨l, u, C, [2 * rq p r - al, -(f : Re)], hC, ?_, ?_, fun x hx => ?_, fun t => ?_⟩
  · exact Nat.succ.inj hl2
  · exact List.pairwise_cons.mpr ⟨fun x hx => by rw [List.mem_singleton.mp hx]; exact hne, List.pairwise_singleton _ _⟩
  · rcases List.mem_cons.mp hx with rfl | hx
    · exact o
    · rw [List.mem_singleton.mp hx]; exact o2
  · have one : ((1 : Int) : Re) = 1 := rfl
    have e : evR [f, 1] t = f + t := by show (f : Re) + t * (((1 : Int) : Re) + t * 0) = _; rw [one]; grind
    rw [evR_mulP, h, e, prodR, prodR, prodR]; grind
theorem rq_of {p q a r : Int} (hr : 0 < r) (e : p * r = a * q) : (q : Re) * rq a r = p := by
  have h := rq_mul (p := a) (Int.ne_of_gt hr)
  refine rcan (ic_pne hr) ?_
  have e' := congrArg (fun z : Int => (z : Re)) e
  simp only [ic_mul] at e'
  rw [show (r : Re) * (q * rq a r) = q * (r * rq a r) by grind, h]
  grind
theorem mk_pd {row : List Int} {r L U p1 q1 p2 q2 : Int} {al : Re} {k : Nat} (rp : RP row (rq L r) (rq U r) al) (tr : Tr row) (ln : row.length ≤ 4) (sm : AllSm 200 row) (r0 : 0 < r) (r1 : r ≤ 1073741824)
    (b1 : -1073741824 ≤ L) (b2 : L ≤ U) (b3 : U ≤ 1073741824) (w : U - L ≤ r * 64) (l1 : Low k p1 q1) (e1 : p1 * r = L * q1) (l2 : Low k p2 q2) (e2 : p2 * r = U * q2) : PD row r al (rq L r) (rq U r) p1 q1 p2 q2 0 := by
  have hL := rq_mul (p := L) (Int.ne_of_gt r0)
  have hU := rq_mul (p := U) (Int.ne_of_gt r0)
  have e0 : r * 8 ^ 0 = r := by rw [Int.pow_zero, Int.mul_one]
  have one : ((2 ^ 0 : Int) : Re) = 1 := rfl
  refine ⟨rp, tr, ln, sm, r0, r1, ⟨l1.pos, l1.one, rq_of r0 e1, L, by rw [e0]; exact hL⟩, ⟨l2.pos, l2.one, rq_of r0 e2, U, by rw [e0]; exact hU⟩, ?_, ?_, ?_⟩
  · rw [one]
    have := ic_le w
    rw [ic_sub, ic_mul, ← hL, ← hU] at this
    refine Std.not_lt.mp fun hn => ?_
    have k := mul_pos (ic_pos r0) (show 0 < rq U r - rq L r - ((64 : Int) : Re) by grind)
    generalize ((64 : Int) : Re) = z at *
    clear hL hU rp hn; grind
  · have h1 := ic_le b1
    have h2 := ic_le (show L ≤ 1073741824 by (clear rp tr ln sm b1 l1 e1 l2 e2 hL hU e0 one h1; omega))
    rw [ic_neg] at h1
    exact (val_bd (c := 1073741824) r0 (by decide) hL h1 h2).1
  · have h1 := ic_le (show -1073741824 ≤ U by (clear rp tr ln sm b3 l1 e1 l2 e2 hL hU e0 one; omega))
    have h2 := ic_le b3
    rw [ic_neg] at h1
    exact (val_bd (c := 1073741824) r0 (by decide) hU h1 h2).2
/-- where the other root lies, and the ends -/
theorem QD.up {p q r A : Int} {d : Nat} (h : QD p q r d) (hq : 0 < q) (hA : sqrt d < A) : rq p r < qal p q r d ∧ qal p q r d < rq (p + q * A) r ∧ Out (rq p r) (rq (p + q * A) r) (2 * rq p r - qal p q r d) := by
  have hr : 0 < r := by have := h.r1; (clear h hq hA; omega)
  have hr' := ic_pos hr
  have e := qal_eq (p := p) (q := q) (d := d) hr
  have eL := rq_mul (p := p) (Int.ne_of_gt hr)
  have eU := rq_mul (p := p + q * A) (Int.ne_of_gt hr)
  rw [ic_add, ic_mul] at eU
  have s := mul_pos (ic_pos hq) (sqrt_pos (show 0 < d from h.d1))
  have s2 := mul_pos (ic_pos hq) (show 0 < (A : Re) - sqrt d by exact l_sp (hA))
  generalize qal p q r d = al at *
  have k1 : rq p r < al := lt_of_mul hr' (by rw [e, eL]; grind)
  refine ⟨k1, lt_of_mul hr' (by rw [e, eU]; grind), .inl (by grind)⟩
theorem QD.dn {p q r A : Int} {d : Nat} (h : QD p q r d) (hq : q < 0) (hA : sqrt d < A) : rq (p + q * A) r < qal p q r d ∧ qal p q r d < rq p r ∧ Out (rq (p + q * A) r) (rq p r) (2 * rq p r - qal p q r d) := by
  have hr : 0 < r := by have := h.r1; (clear h hq hA; omega)
  have hr' := ic_pos hr
  have e := qal_eq (p := p) (q := q) (d := d) hr
  have eL := rq_mul (p := p) (Int.ne_of_gt hr)
  have eU := rq_mul (p := p + q * A) (Int.ne_of_gt hr)
  rw [ic_add, ic_mul] at eU
  have hq' := ic_pos (show 0 < -q by (clear h hA hr hr' e eL eU; omega))
  rw [ic_neg] at hq'
  have s := mul_pos hq' (sqrt_pos (show 0 < d from h.d1))
  have s2 := mul_pos hq' (show 0 < (A : Re) - sqrt d by exact l_sp (hA))
  generalize qal p q r d = al at *
  have k1 : al < rq p r := lt_of_mul hr' (by rw [e, eL]; grind)
  refine ⟨lt_of_mul hr' (by rw [e, eU]; grind), k1, .inr (by grind)⟩
theorem QD.bds {p q r : Int} {d : Nat} (h : QD p q r d) : ab ((q : Re) * sqrt d) ≤ ((36 : Int) : Re) :=
  bd_mul (c := 6) (d := 6) (bd_int (by have := h.q0; (clear h; omega)) (by have := h.q0; (clear h; omega))) (bd_sqrt (by decide) (by have := h.d2; (clear h; omega)))
/-- the far root lies outside -/
theorem QD.far {p q r f L U : Int} {d : Nat} (h : QD p q r d) (hf : f ≤ -100000000 ∨ 100000000 ≤ f) (bL : -2000000 ≤ L ∧ L ≤ 2000000) (bU : -2000000 ≤ U ∧ U ≤ 2000000) : Out (rq L r) (rq U r) (-(f : Re)) ∧ 2 * rq p r - qal p q r d ≠ -(f : Re) := by
  have hr : 0 < r := h.r1
  have vL := val_bd (c := 2000000) hr (by decide) (rq_mul (p := L) (Int.ne_of_gt hr)) (by rw [← ic_neg]; exact ic_le bL.1) (ic_le bL.2)
  have vU := val_bd (c := 2000000) hr (by decide) (rq_mul (p := U) (Int.ne_of_gt hr)) (by rw [← ic_neg]; exact ic_le bU.1) (ic_le bU.2)
  have e := qal_eq (p := p) (q := q) (d := d) hr
  have ep := rq_mul (p := p) (Int.ne_of_gt hr)
  have hs := bd_sub (bd_int (n := p) (c := 1000000) h.p1 h.p2) h.bds
  have hs2 := ab_le ((p : Re) - q * sqrt d)
  have k := ic_le (show (1000000 + 36 : Int) ≤ 2000000 by decide)
  have vX := val_bd (c := 2000000) (x := 2 * rq p r - qal p q r d) (z := (p : Re) - q * sqrt d) hr (by decide) (by
    rw [show (r : Re) * (2 * rq p r - qal p q r d) = 2 * (r * rq p r) - r * qal p q r d by grind, ep, e]; grind) (by clear vL vU e ep; grind) (by clear vL vU e ep; grind)
  generalize 2 * rq p r - qal p q r d = x at *
  clear e ep hs hs2 k
  rcases hf with hf | hf
  · have g := ic_le (show (2000001 : Int) ≤ -f by (clear h hr bL bU vL vU vX; omega))
    have g2 := ic_lt (show (2000000 : Int) < 2000001 by decide)
    rw [ic_neg] at g
    exact ⟨.inr (by grind), by grind⟩
  · have g := ic_le (show -f ≤ (-2000001 : Int) by (clear h hr bL bU vL vU vX; omega))
    have g2 := ic_lt (show (-2000001 : Int) < -2000000 by decide)
    rw [ic_neg f] at g
    rw [ic_neg 2000000] at g2
    exact ⟨.inl (by grind), by grind⟩
/-- a part as a peg -/
theorem part_rp {p q : Int} (hq : 0 < q) : RP [-p, q] (rq (p - q) q) (rq (p + q) q) (rq p q) := by
  have hq' := ic_pos hq
  have e := rq_mul (p := p) (Int.ne_of_gt hq)
  have e1 := rq_mul (p := p - q) (Int.ne_of_gt hq)
  have e2 := rq_mul (p := p + q) (Int.ne_of_gt hq)
  rw [ic_sub] at e1
  rw [ic_add] at e2
  refine ⟨lt_of_mul hq' (by rw [e, e1]; grind), lt_of_mul hq' (by rw [e, e2]; grind), q, [], ic_pne hq, rfl, .nil, (fun _ h => nomatch h), fun t => ?_⟩
  show ((-p : Int) : Re) + t * ((q : Re) + t * 0) = q * ((t - rq p q) * 1)
  rw [ic_neg, ← e]; grind
end Mine

set_option autoImplicit false
set_option linter.unusedVariables false
set_option linter.unusedSimpArgs false
set_option maxRecDepth 100000
namespace Mine
open PySem
section
variable {sub : Nat → Nat → Bool} {P : List Fn} {f n ls tw mu fo : Nat} {H : Hp} {Q : V → Hp → Prop} {X : Nat → Hp → Prop}
noncomputable def bLSign : PS := (.seq (.ite (.cmp .lt (.var 0) (.cint 0)) (.seq (.ret (.neg (.cint 1)))
 .skip) .skip)
 (.seq (.ret (.bi .int (.cons (.cmp .gt (.var 0) (.cint 0)) .nil)))
 .skip))
theorem s_lsign (e : P[f]? = some ⟨1, 1, bLSign⟩) {x : Int} (hQ : Q (.int (sg x)) H) : callN sub P (n + 1) f [.int x] H Q X := by
  refine callN_mk e rfl ?_
  dsimp only [bLSign, qS1, qS2, qS3, qS4, qS5, qS7, qS9, qS10, qS11, qS12, qS13, qS14, qE1, qE2, qE5, qE7, qE8, qE9, qE10, qE11, qE12, qE13, qE14, qE15, qE16, qE17, qE18, qE19, qE20, qE21, qE22, qEs1, qEs2, wpAll, qO1, qO2, qI1, qI2, qI3, w_add, w_addl, w_sub, w_mul, w_mull, w_fdiv, w_mod, w_pow, w_lt, w_le, w_gt, w_ge, w_eq, w_ne, w_isn, w_ist, w_isi, w_isl, w_abs, w_lent, w_lenl, w_intb, w_list, w_tuple, w_min, w_idxt0, w_idxt1, w_idxu0, w_idxu1, w_idxu2, w_idxl, w_slcl, w_tb, w_ti, w_tn, w_tt, w_tl, w_itt, w_itl, w_bindT1, w_bindT2, w_srcl, w_srct, w_cut2, w_cut1, w_cut1', w_cut0, w_ty1, w_ty2, w_ty3, w_ty4, w_ty5, w_ty6, w_ty7, w_ty8, w_ty9, w_ty10, w_ty11, w_ty12, w_ty13, w_ty14, w_ty15, w_ty16, w_ty17, w_ty18, w_ty19, w_ty20, w_ty21, w_mapc, w_mapn, w_appc, w_appn, w_repc, w_repn, w_start, w_lenc, w_ifT, w_ifF, w_ifFF, w_ifTF, w_nT, w_nF, w_anyT, w_anyF, w_d22, ifSome_some, ifLst_lst, ifTup_tup, ifInt_int, lget, lset, lsets, Nat.reduceSub, Nat.reduceAdd, List.length_nil, ↓reduceIte]
  unfold sg at hQ
  by_cases h1 : x < 0
  · rw [if_pos h1] at hQ
    rw [decide_eq_true h1]
    exact hQ
  · rw [if_neg h1] at hQ
    rw [decide_eq_false h1]
    dsimp only [qS1, qS2, qS3, qS4, qS5, qS7, qS9, qS10, qS11, qS12, qS13, qS14, qE1, qE2, qE5, qE7, qE8, qE9, qE10, qE11, qE12, qE13, qE14, qE15, qE16, qE17, qE18, qE19, qE20, qE21, qE22, qEs1, qEs2, wpAll, qO1, qO2, qI1, qI2, qI3, w_add, w_addl, w_sub, w_mul, w_mull, w_fdiv, w_mod, w_pow, w_lt, w_le, w_gt, w_ge, w_eq, w_ne, w_isn, w_ist, w_isi, w_isl, w_abs, w_lent, w_lenl, w_intb, w_list, w_tuple, w_min, w_idxt0, w_idxt1, w_idxu0, w_idxu1, w_idxu2, w_idxl, w_slcl, w_tb, w_ti, w_tn, w_tt, w_tl, w_itt, w_itl, w_bindT1, w_bindT2, w_srcl, w_srct, w_cut2, w_cut1, w_cut1', w_cut0, w_ty1, w_ty2, w_ty3, w_ty4, w_ty5, w_ty6, w_ty7, w_ty8, w_ty9, w_ty10, w_ty11, w_ty12, w_ty13, w_ty14, w_ty15, w_ty16, w_ty17, w_ty18, w_ty19, w_ty20, w_ty21, w_mapc, w_mapn, w_appc, w_appn, w_repc, w_repn, w_start, w_lenc, w_ifT, w_ifF, w_ifFF, w_ifTF, w_nT, w_nF, w_anyT, w_anyF, w_d22, ifSome_some, ifLst_lst, ifTup_tup, ifInt_int, lget, lset, lsets, Nat.reduceSub, Nat.reduceAdd, List.length_nil, ↓reduceIte]
    by_cases h2 : 0 < x
    · rw [if_pos h2] at hQ
      rw [decide_eq_true h2]
      exact hQ
    · rw [if_neg h2] at hQ
      rw [decide_eq_false h2]
      exact hQ
noncomputable def tTwo (ls : Nat) : PS := (.seq (.ite (.cmp .gt (.var 0) (.cint 0)) (.seq (.ret (.call ls (.cons (.bin .sub (.bin .mul (.var 0) (.var 0)) (.bin .mul (.bin .mul (.var 1) (.var 1)) (.var 2))) .nil)))
 .skip) .skip)
 (.seq (.ret (.call ls (.cons (.bin .sub (.bin .mul (.bin .mul (.var 1) (.var 1)) (.var 2)) (.bin .mul (.var 0) (.var 0))) .nil)))
 .skip))
noncomputable def tTwo3 (ls : Nat) : PS := (.seq (.ite (.and (.cons (.cmp .le (.var 0) (.cint 0)) (.cons (.cmp .le (.var 1) (.cint 0)) .nil))) (.seq (.ret (.bin .sub (.cint 0) (.bi .int (.cons (.or (.cons (.cmp .lt (.var 0) (.cint 0)) (.cons (.cmp .lt (.bin .mul (.var 1) (.var 2)) (.cint 0)) .nil))) .nil))))
 .skip) .skip)
 (tTwo ls))
noncomputable def bTwo (ls : Nat) : PS := (.seq (.ite (.and (.cons (.cmp .ge (.var 0) (.cint 0)) (.cons (.cmp .ge (.var 1) (.cint 0)) .nil))) (.seq (.ret (.bi .int (.cons (.or (.cons (.cmp .gt (.var 0) (.cint 0)) (.cons (.cmp .gt (.bin .mul (.var 1) (.var 2)) (.cint 0)) .nil))) .nil)))
 .skip) .skip)
 (tTwo3 ls))
theorem two_le (x y a : Int) : Sm 64 (twoS x y a) := by
  have e : (2 : Nat) ^ 64 = 18446744073709551616 := by decide
  have hs : ∀ n, -1 ≤ sg n ∧ sg n ≤ 1 := fun n => by unfold sg; split <;> (try split) <;> (clear e; omega)
  have h : -1 ≤ twoS x y a ∧ twoS x y a ≤ 1 := by
    unfold twoS
    have h1 := hs (x * x - y * y * a)
    have h2 := hs (y * y * a - x * x)
    generalize sg (x * x - y * y * a) = u at *
    generalize sg (y * y * a - x * x) = v at *
    split
    · split <;> decide
    · split
      · split <;> decide
      · split <;> assumption
  unfold Sm; (clear e hs; omega)
theorem s_two3 (el : P[ls]? = some ⟨1, 1, bLSign⟩) {W : Nat → Prop} {NN : Loc → Hp → Prop} {R : V → Hp → Prop} {Y : Nat → Hp → Prop} {x y a : Int} (mya : IntMulOk y a) (mxx : IntMulOk x x) (myy : IntMulOk y y) (myya : IntMulOk (y * y) a) (hn : ¬ (0 ≤ x ∧ 0 ≤ y)) (hQ : R (.int (twoS x y a)) H) :
    wpS sub (callN sub P (n + 1)) W (tTwo3 ls) [some (.int x), some (.int y), some (.int a)] H NN R Y := by
  unfold twoS at hQ
  rw [if_neg hn] at hQ
  dsimp only [tTwo3]
  generalize hT : tTwo ls = T
  have fin : ¬ (x ≤ 0 ∧ y ≤ 0) → wpS sub (callN sub P (n + 1)) W T [some (.int x), some (.int y), some (.int a)] H NN R Y := fun h => by
    subst hT
    rw [if_neg h] at hQ
    dsimp only [tTwo, qS1, qS2, qS3, qS4, qS5, qS7, qS9, qS10, qS11, qS12, qS13, qS14, qE1, qE2, qE5, qE7, qE8, qE9, qE10, qE11, qE12, qE13, qE14, qE15, qE16, qE17, qE18, qE19, qE20, qE21, qE22, qEs1, qEs2, wpAll, qO1, qO2, qI1, qI2, qI3, w_add, w_addl, w_sub, w_mul, w_mull, w_fdiv, w_mod, w_pow, w_lt, w_le, w_gt, w_ge, w_eq, w_ne, w_isn, w_ist, w_isi, w_isl, w_abs, w_lent, w_lenl, w_intb, w_list, w_tuple, w_min, w_idxt0, w_idxt1, w_idxu0, w_idxu1, w_idxu2, w_idxl, w_slcl, w_tb, w_ti, w_tn, w_tt, w_tl, w_itt, w_itl, w_bindT1, w_bindT2, w_srcl, w_srct, w_cut2, w_cut1, w_cut1', w_cut0, w_ty1, w_ty2, w_ty3, w_ty4, w_ty5, w_ty6, w_ty7, w_ty8, w_ty9, w_ty10, w_ty11, w_ty12, w_ty13, w_ty14, w_ty15, w_ty16, w_ty17, w_ty18, w_ty19, w_ty20, w_ty21, w_mapc, w_mapn, w_appc, w_appn, w_repc, w_repn, w_start, w_lenc, w_ifT, w_ifF, w_ifFF, w_ifTF, w_nT, w_nF, w_anyT, w_anyF, w_d22, ifSome_some, ifLst_lst, ifTup_tup, ifInt_int, lget, lset, lsets, Nat.reduceSub, Nat.reduceAdd, List.length_nil, ↓reduceIte]
    by_cases hx : 0 < x
    · rw [if_pos hx] at hQ
      rw [decide_eq_true hx]
      exact ⟨mxx, myy, myya, s_lsign el hQ⟩
    · rw [if_neg hx] at hQ
      rw [decide_eq_false hx]
      exact ⟨myy, myya, mxx, s_lsign el hQ⟩
  dsimp only [qS1, qS2, qS3, qS4, qS5, qS7, qS9, qS10, qS11, qS12, qS13, qS14, qE1, qE2, qE5, qE7, qE8, qE9, qE10, qE11, qE12, qE13, qE14, qE15, qE16, qE17, qE18, qE19, qE20, qE21, qE22, qEs1, qEs2, wpAll, qO1, qO2, qI1, qI2, qI3, w_add, w_addl, w_sub, w_mul, w_mull, w_fdiv, w_mod, w_pow, w_lt, w_le, w_gt, w_ge, w_eq, w_ne, w_isn, w_ist, w_isi, w_isl, w_abs, w_lent, w_lenl, w_intb, w_list, w_tuple, w_min, w_idxt0, w_idxt1, w_idxu0, w_idxu1, w_idxu2, w_idxl, w_slcl, w_tb, w_ti, w_tn, w_tt, w_tl, w_itt, w_itl, w_bindT1, w_bindT2, w_srcl, w_srct, w_cut2, w_cut1, w_cut1', w_cut0, w_ty1, w_ty2, w_ty3, w_ty4, w_ty5, w_ty6, w_ty7, w_ty8, w_ty9, w_ty10, w_ty11, w_ty12, w_ty13, w_ty14, w_ty15, w_ty16, w_ty17, w_ty18, w_ty19, w_ty20, w_ty21, w_mapc, w_mapn, w_appc, w_appn, w_repc, w_repn, w_start, w_lenc, w_ifT, w_ifF, w_ifFF, w_ifTF, w_nT, w_nF, w_anyT, w_anyF, w_d22, ifSome_some, ifLst_lst, ifTup_tup, ifInt_int, lget, lset, lsets, Nat.reduceSub, Nat.reduceAdd, List.length_nil, ↓reduceIte]
  by_cases h1 : x ≤ 0
  · rw [decide_eq_true h1]
    by_cases h2 : y ≤ 0
    · rw [decide_eq_true h2]
      rw [if_pos ⟨h1, h2⟩] at hQ
      dsimp only [qS1, qS2, qS3, qS4, qS5, qS7, qS9, qS10, qS11, qS12, qS13, qS14, qE1, qE2, qE5, qE7, qE8, qE9, qE10, qE11, qE12, qE13, qE14, qE15, qE16, qE17, qE18, qE19, qE20, qE21, qE22, qEs1, qEs2, wpAll, qO1, qO2, qI1, qI2, qI3, w_add, w_addl, w_sub, w_mul, w_mull, w_fdiv, w_mod, w_pow, w_lt, w_le, w_gt, w_ge, w_eq, w_ne, w_isn, w_ist, w_isi, w_isl, w_abs, w_lent, w_lenl, w_intb, w_list, w_tuple, w_min, w_idxt0, w_idxt1, w_idxu0, w_idxu1, w_idxu2, w_idxl, w_slcl, w_tb, w_ti, w_tn, w_tt, w_tl, w_itt, w_itl, w_bindT1, w_bindT2, w_srcl, w_srct, w_cut2, w_cut1, w_cut1', w_cut0, w_ty1, w_ty2, w_ty3, w_ty4, w_ty5, w_ty6, w_ty7, w_ty8, w_ty9, w_ty10, w_ty11, w_ty12, w_ty13, w_ty14, w_ty15, w_ty16, w_ty17, w_ty18, w_ty19, w_ty20, w_ty21, w_mapc, w_mapn, w_appc, w_appn, w_repc, w_repn, w_start, w_lenc, w_ifT, w_ifF, w_ifFF, w_ifTF, w_nT, w_nF, w_anyT, w_anyF, w_d22, ifSome_some, ifLst_lst, ifTup_tup, ifInt_int, lget, lset, lsets, Nat.reduceSub, Nat.reduceAdd, List.length_nil, ↓reduceIte]
      by_cases h3 : x < 0
      · rw [if_pos (.inl h3)] at hQ
        rw [decide_eq_true h3]
        exact hQ
      · rw [decide_eq_false h3]
        refine ⟨mya, ?_⟩
        by_cases h4 : y * a < 0
        · rw [if_pos (.inr h4)] at hQ
          rw [decide_eq_true h4]
          exact hQ
        · rw [if_neg (fun h => h.elim h3 h4)] at hQ
          rw [decide_eq_false h4]
          exact hQ
    · rw [decide_eq_false h2]
      exact fin fun h => h2 h.2
  · rw [decide_eq_false h1]
    exact fin fun h => h1 h.1
theorem s_two (e : P[f]? = some ⟨3, 3, bTwo ls⟩) (el : P[ls]? = some ⟨1, 1, bLSign⟩) {x y a : Int} (hx : Sm 1000 x) (hy : Sm 1000 y) (ha : Sm 1000 a) (hQ : Q (.int (twoS x y a)) H) : callN sub P (n + 2) f [.int x, .int y, .int a] H Q X := by
  have mya : IntMulOk y a := ok6 hy ha
  have mxx : IntMulOk x x := ok6 hx hx
  have myy : IntMulOk y y := ok6 hy hy
  have myya : IntMulOk (y * y) a := ok6 (hy.mul hy) ha
  refine callN_mk e rfl ?_
  have fin : ¬ (0 ≤ x ∧ 0 ≤ y) → wpS sub (callN sub P (n + 1)) (fun m => H.length ≤ m) (tTwo3 ls) [some (.int x), some (.int y), some (.int a)] H (fun _ H' => Q V.none H') Q X := fun h => s_two3 el mya mxx myy myya h hQ
  dsimp only [bTwo]
  revert fin
  generalize tTwo3 ls = T
  intro fin
  dsimp only [qS1, qS2, qS3, qS4, qS5, qS7, qS9, qS10, qS11, qS12, qS13, qS14, qE1, qE2, qE5, qE7, qE8, qE9, qE10, qE11, qE12, qE13, qE14, qE15, qE16, qE17, qE18, qE19, qE20, qE21, qE22, qEs1, qEs2, wpAll, qO1, qO2, qI1, qI2, qI3, w_add, w_addl, w_sub, w_mul, w_mull, w_fdiv, w_mod, w_pow, w_lt, w_le, w_gt, w_ge, w_eq, w_ne, w_isn, w_ist, w_isi, w_isl, w_abs, w_lent, w_lenl, w_intb, w_list, w_tuple, w_min, w_idxt0, w_idxt1, w_idxu0, w_idxu1, w_idxu2, w_idxl, w_slcl, w_tb, w_ti, w_tn, w_tt, w_tl, w_itt, w_itl, w_bindT1, w_bindT2, w_srcl, w_srct, w_cut2, w_cut1, w_cut1', w_cut0, w_ty1, w_ty2, w_ty3, w_ty4, w_ty5, w_ty6, w_ty7, w_ty8, w_ty9, w_ty10, w_ty11, w_ty12, w_ty13, w_ty14, w_ty15, w_ty16, w_ty17, w_ty18, w_ty19, w_ty20, w_ty21, w_mapc, w_mapn, w_appc, w_appn, w_repc, w_repn, w_start, w_lenc, w_ifT, w_ifF, w_ifFF, w_ifTF, w_nT, w_nF, w_anyT, w_anyF, w_d22, ifSome_some, ifLst_lst, ifTup_tup, ifInt_int, lget, lset, lsets, Nat.reduceSub, Nat.reduceAdd, List.length_nil, ↓reduceIte]
  by_cases h1 : 0 ≤ x
  · rw [decide_eq_true h1]
    by_cases h2 : 0 ≤ y
    · rw [decide_eq_true h2]
      unfold twoS at hQ
      rw [if_pos ⟨h1, h2⟩] at hQ
      dsimp only [qS1, qS2, qS3, qS4, qS5, qS7, qS9, qS10, qS11, qS12, qS13, qS14, qE1, qE2, qE5, qE7, qE8, qE9, qE10, qE11, qE12, qE13, qE14, qE15, qE16, qE17, qE18, qE19, qE20, qE21, qE22, qEs1, qEs2, wpAll, qO1, qO2, qI1, qI2, qI3, w_add, w_addl, w_sub, w_mul, w_mull, w_fdiv, w_mod, w_pow, w_lt, w_le, w_gt, w_ge, w_eq, w_ne, w_isn, w_ist, w_isi, w_isl, w_abs, w_lent, w_lenl, w_intb, w_list, w_tuple, w_min, w_idxt0, w_idxt1, w_idxu0, w_idxu1, w_idxu2, w_idxl, w_slcl, w_tb, w_ti, w_tn, w_tt, w_tl, w_itt, w_itl, w_bindT1, w_bindT2, w_srcl, w_srct, w_cut2, w_cut1, w_cut1', w_cut0, w_ty1, w_ty2, w_ty3, w_ty4, w_ty5, w_ty6, w_ty7, w_ty8, w_ty9, w_ty10, w_ty11, w_ty12, w_ty13, w_ty14, w_ty15, w_ty16, w_ty17, w_ty18, w_ty19, w_ty20, w_ty21, w_mapc, w_mapn, w_appc, w_appn, w_repc, w_repn, w_start, w_lenc, w_ifT, w_ifF, w_ifFF, w_ifTF, w_nT, w_nF, w_anyT, w_anyF, w_d22, ifSome_some, ifLst_lst, ifTup_tup, ifInt_int, lget, lset, lsets, Nat.reduceSub, Nat.reduceAdd, List.length_nil, ↓reduceIte]
      by_cases h3 : 0 < x
      · rw [if_pos (.inl h3)] at hQ
        rw [decide_eq_true h3]
        exact hQ
      · rw [decide_eq_false h3]
        refine ⟨mya, ?_⟩
        by_cases h4 : 0 < y * a
        · rw [if_pos (.inr h4)] at hQ
          rw [decide_eq_true h4]
          exact hQ
        · rw [if_neg (fun h => h.elim h3 h4)] at hQ
          rw [decide_eq_false h4]
          exact hQ
    · rw [decide_eq_false h2]
      exact fin fun h => h2 h.2
  · rw [decide_eq_false h1]
    exact fin fun h => h1 h.1
noncomputable def bMul2 : PS := (.seq (.ret (.lst (.cons (.bin .add (.bin .mul (.idx (.var 0) (.cint 0)) (.idx (.var 1) (.cint 0))) (.bin .mul (.bin .mul (.var 2) (.idx (.var 0) (.cint 1))) (.idx (.var 1) (.cint 1)))) (.cons (.bin .add (.bin .mul (.idx (.var 0) (.cint 0)) (.idx (.var 1) (.cint 1))) (.bin .mul (.idx (.var 0) (.cint 1)) (.idx (.var 1) (.cint 0)))) .nil))))
 .skip)
theorem idxL0 {i : Nat} {H : Hp} {Q : V → Prop} {x y : V} (h : H[i]? = some [x, y]) (hq : Q x) : ifSome H[i]? fun xs => ifSome (place xs.length 0) fun j => ifSome xs[j]? fun v => Q v := by rw [h]; exact hq
theorem idxL1 {i : Nat} {H : Hp} {Q : V → Prop} {x y : V} (h : H[i]? = some [x, y]) (hq : Q y) : ifSome H[i]? fun xs => ifSome (place xs.length 1) fun j => ifSome xs[j]? fun v => Q v := by rw [h]; exact hq
theorem s_mul2 (e : P[f]? = some ⟨3, 3, bMul2⟩) {i j : Nat} {x0 x1 y0 y1 a : Int} (hi : H[i]? = some [.int x0, .int x1]) (hj : H[j]? = some [.int y0, .int y1]) (sx0 : Sm 200 x0) (sx1 : Sm 200 x1) (sy0 : Sm 200 y0) (sy1 : Sm 200 y1) (sa : Sm 200 a)
    (hQ : Q (.lst H.length) (H ++ [[.int (x0 * y0 + a * x1 * y1), .int (x0 * y1 + x1 * y0)]])) : callN sub P (n + 1) f [.lst i, .lst j, .int a] H Q X := by
  refine callN_mk e rfl ?_
  dsimp only [bMul2, qS1, qS2, qS3, qS4, qS5, qS7, qS9, qS10, qS11, qS12, qS13, qS14, qE1, qE2, qE5, qE7, qE8, qE9, qE10, qE11, qE12, qE13, qE14, qE15, qE16, qE17, qE18, qE19, qE20, qE21, qE22, qEs1, qEs2, wpAll, qO1, qO2, qI1, qI2, qI3, w_add, w_addl, w_sub, w_mul, w_mull, w_fdiv, w_mod, w_pow, w_lt, w_le, w_gt, w_ge, w_eq, w_ne, w_isn, w_ist, w_isi, w_isl, w_abs, w_lent, w_lenl, w_intb, w_list, w_tuple, w_min, w_idxt0, w_idxt1, w_idxu0, w_idxu1, w_idxu2, w_idxl, w_slcl, w_tb, w_ti, w_tn, w_tt, w_tl, w_itt, w_itl, w_bindT1, w_bindT2, w_srcl, w_srct, w_cut2, w_cut1, w_cut1', w_cut0, w_ty1, w_ty2, w_ty3, w_ty4, w_ty5, w_ty6, w_ty7, w_ty8, w_ty9, w_ty10, w_ty11, w_ty12, w_ty13, w_ty14, w_ty15, w_ty16, w_ty17, w_ty18, w_ty19, w_ty20, w_ty21, w_mapc, w_mapn, w_appc, w_appn, w_repc, w_repn, w_start, w_lenc, w_ifT, w_ifF, w_ifFF, w_ifTF, w_nT, w_nF, w_anyT, w_anyF, w_d22, ifSome_some, ifLst_lst, ifTup_tup, ifInt_int, lget, lset, lsets, Nat.reduceSub, Nat.reduceAdd, List.length_nil, ↓reduceIte]
  refine idxL0 hi ?_
  refine idxL0 hj ⟨ok6 sx0 sy0, ?_⟩
  refine idxL1 hi ⟨ok6 sa sx1, ?_⟩
  refine idxL1 hj ⟨ok6 (sa.mul sx1) sy1, ?_⟩
  refine idxL0 hi ?_
  refine idxL1 hj ⟨ok6 sx0 sy1, ?_⟩
  refine idxL1 hi ?_
  exact idxL0 hj ⟨ok6 sx1 sy0, hQ⟩
noncomputable def tFour (tw mu : Nat) : PS := (.seq (.assign 5 (.call mu (.cons (.slc (.var 0) .no (.some (.cint 2))) (.cons (.slc (.var 0) .no (.some (.cint 2))) (.cons (.var 1) .nil)))))
 (.seq (.assign 6 (.call mu (.cons (.slc (.var 0) (.some (.cint 2)) .no) (.cons (.slc (.var 0) (.some (.cint 2)) .no) (.cons (.var 1) .nil)))))
 (.seq (.ret (.bin .mul (.var 3) (.call tw (.cons (.bin .sub (.idx (.var 5) (.cint 0)) (.bin .mul (.var 2) (.idx (.var 6) (.cint 0)))) (.cons (.bin .sub (.idx (.var 5) (.cint 1)) (.bin .mul (.var 2) (.idx (.var 6) (.cint 1)))) (.cons (.var 1) .nil))))))
 .skip)))
noncomputable def bFour (tw ls mu : Nat) : PS := (.seq (.assign 3 (.call tw (.cons (.idx (.var 0) (.cint 0)) (.cons (.idx (.var 0) (.cint 1)) (.cons (.var 1) .nil)))))
 (.seq (.assign 4 (.bin .mul (.call tw (.cons (.idx (.var 0) (.cint 2)) (.cons (.idx (.var 0) (.cint 3)) (.cons (.var 1) .nil)))) (.bi .int (.cons (.cmp .gt (.var 2) (.cint 0)) .nil))))
 (.seq (.ite (.cmp .ge (.bin .mul (.var 3) (.var 4)) (.cint 0)) (.seq (.ret (.call ls (.cons (.bin .add (.var 3) (.var 4)) .nil)))
 .skip) .skip)
 (tFour tw mu))))
theorem ix4 {i : Nat} {H : Hp} {Q : V → Prop} {x y z w : V} {k : Int} {v : V} (h : H[i]? = some [x, y, z, w]) (hk : (k = 0 ∧ v = x) ∨ (k = 1 ∧ v = y) ∨ (k = 2 ∧ v = z) ∨ (k = 3 ∧ v = w)) (hq : Q v) : ifSome H[i]? fun xs => ifSome (place xs.length k) fun j => ifSome xs[j]? fun v => Q v := by
  rw [h]
  rcases hk with ⟨rfl, rfl⟩ | ⟨rfl, rfl⟩ | ⟨rfl, rfl⟩ | ⟨rfl, rfl⟩ <;> exact hq
theorem s_four4 (et : P[tw]? = some ⟨3, 3, bTwo ls⟩) (el : P[ls]? = some ⟨1, 1, bLSign⟩) (em : P[mu]? = some ⟨3, 3, bMul2⟩) {W : Nat → Prop} {NN : Loc → Hp → Prop} {R : V → Hp → Prop} {Y : Nat → Hp → Prop} {m : Nat} {x0 x1 x2 x3 a b l : Int} {o : Option V} (hm : H[m]? = some [.int x0, .int x1, .int x2, .int x3])
    (s0 : Sm 200 x0) (s1 : Sm 200 x1) (s2 : Sm 200 x2) (s3 : Sm 200 x3) (sa : Sm 200 a) (sb : Sm 200 b) (hl : Sm 64 l)
    (hQ : ∀ H', H <+: H' → R (.int (l * twoS ((x0 * x0 + a * x1 * x1) - b * (x2 * x2 + a * x3 * x3)) ((x0 * x1 + x1 * x0) - b * (x2 * x3 + x3 * x2)) a)) H') :
    wpS sub (callN sub P (n + 2)) W (tFour tw mu) [some (.lst m), some (.int a), some (.int b), some (.int l), o, none, none] H NN R Y := by
  dsimp only [tFour, qS1, qS2, qS3, qS4, qS5, qS7, qS9, qS10, qS11, qS12, qS13, qS14, qE1, qE2, qE5, qE7, qE8, qE9, qE10, qE11, qE12, qE13, qE14, qE15, qE16, qE17, qE18, qE19, qE20, qE21, qE22, qEs1, qEs2, wpAll, qO1, qO2, qI1, qI2, qI3, w_add, w_addl, w_sub, w_mul, w_mull, w_fdiv, w_mod, w_pow, w_lt, w_le, w_gt, w_ge, w_eq, w_ne, w_isn, w_ist, w_isi, w_isl, w_abs, w_lent, w_lenl, w_intb, w_list, w_tuple, w_min, w_idxt0, w_idxt1, w_idxu0, w_idxu1, w_idxu2, w_idxl, w_slcl, w_tb, w_ti, w_tn, w_tt, w_tl, w_itt, w_itl, w_bindT1, w_bindT2, w_srcl, w_srct, w_cut2, w_cut1, w_cut1', w_cut0, w_ty1, w_ty2, w_ty3, w_ty4, w_ty5, w_ty6, w_ty7, w_ty8, w_ty9, w_ty10, w_ty11, w_ty12, w_ty13, w_ty14, w_ty15, w_ty16, w_ty17, w_ty18, w_ty19, w_ty20, w_ty21, w_mapc, w_mapn, w_appc, w_appn, w_repc, w_repn, w_start, w_lenc, w_ifT, w_ifF, w_ifFF, w_ifTF, w_nT, w_nF, w_anyT, w_anyF, w_d22, ifSome_some, ifLst_lst, ifTup_tup, ifInt_int, lget, lset, lsets, Nat.reduceSub, Nat.reduceAdd, List.length_nil, ↓reduceIte]
  refine ifSome.mk hm ?_
  dsimp only [qS1, qS2, qS3, qS4, qS5, qS7, qS9, qS10, qS11, qS12, qS13, qS14, qE1, qE2, qE5, qE7, qE8, qE9, qE10, qE11, qE12, qE13, qE14, qE15, qE16, qE17, qE18, qE19, qE20, qE21, qE22, qEs1, qEs2, wpAll, qO1, qO2, qI1, qI2, qI3, w_add, w_addl, w_sub, w_mul, w_mull, w_fdiv, w_mod, w_pow, w_lt, w_le, w_gt, w_ge, w_eq, w_ne, w_isn, w_ist, w_isi, w_isl, w_abs, w_lent, w_lenl, w_intb, w_list, w_tuple, w_min, w_idxt0, w_idxt1, w_idxu0, w_idxu1, w_idxu2, w_idxl, w_slcl, w_tb, w_ti, w_tn, w_tt, w_tl, w_itt, w_itl, w_bindT1, w_bindT2, w_srcl, w_srct, w_cut2, w_cut1, w_cut1', w_cut0, w_ty1, w_ty2, w_ty3, w_ty4, w_ty5, w_ty6, w_ty7, w_ty8, w_ty9, w_ty10, w_ty11, w_ty12, w_ty13, w_ty14, w_ty15, w_ty16, w_ty17, w_ty18, w_ty19, w_ty20, w_ty21, w_mapc, w_mapn, w_appc, w_appn, w_repc, w_repn, w_start, w_lenc, w_ifT, w_ifF, w_ifFF, w_ifTF, w_nT, w_nF, w_anyT, w_anyF, w_d22, ifSome_some, ifLst_lst, ifTup_tup, ifInt_int, lget, lset, lsets, Nat.reduceSub, Nat.reduceAdd, List.length_nil, ↓reduceIte]
  have h1 : (H ++ [[V.int x0, V.int x1]])[m]? = some [.int x0, .int x1, .int x2, .int x3] := getKeep (preApp _ _) hm
  refine ifSome.mk h1 ?_
  have g1 : (H ++ [[V.int x0, V.int x1]] ++ [[V.int x0, V.int x1]])[H.length]? = some [.int x0, .int x1] := getKeep (preApp _ _) (getApp _ _ _)
  have g2 : (H ++ [[V.int x0, V.int x1]] ++ [[V.int x0, V.int x1]])[(H ++ [[V.int x0, V.int x1]]).length]? = some [.int x0, .int x1] := getApp _ _ _
  refine s_mul2 em g1 g2 s0 s1 s0 s1 sa ?_
  have p1 : H <+: (H ++ [[V.int x0, V.int x1]] ++ [[V.int x0, V.int x1]]) := preTrans (preApp _ _) (preApp _ _)
  have eH : (H ++ [cut [V.int x0, V.int x1, V.int x2, V.int x3] 0 (clampAt 4 2)] ++ [cut [V.int x0, V.int x1, V.int x2, V.int x3] 0 (clampAt [V.int x0, V.int x1, V.int x2, V.int x3].length 2)]) = (H ++ [[V.int x0, V.int x1]] ++ [[V.int x0, V.int x1]]) := rfl
  rw [eH]
  generalize (H ++ [[V.int x0, V.int x1]] ++ [[V.int x0, V.int x1]]) = H2 at *
  clear eH
  have q1 : H <+: H2 ++ [[V.int (x0 * x0 + a * x1 * x1), V.int (x0 * x1 + x1 * x0)]] := preTrans p1 (preApp _ _)
  have u1 : (H2 ++ [[V.int (x0 * x0 + a * x1 * x1), V.int (x0 * x1 + x1 * x0)]])[H2.length]? = some [.int (x0 * x0 + a * x1 * x1), .int (x0 * x1 + x1 * x0)] := getApp _ _ _
  generalize H2 ++ [[V.int (x0 * x0 + a * x1 * x1), V.int (x0 * x1 + x1 * x0)]] = H3 at *
  have hm3 := getKeep q1 hm
  refine ifSome.mk hm3 ?_
  have hm4 : (H3 ++ [[V.int x2, V.int x3]])[m]? = some [.int x0, .int x1, .int x2, .int x3] := getKeep (preApp _ _) hm3
  refine ifSome.mk hm4 ?_
  have g3 : (H3 ++ [[V.int x2, V.int x3]] ++ [[V.int x2, V.int x3]])[H3.length]? = some [.int x2, .int x3] := getKeep (preApp _ _) (getApp _ _ _)
  have g4 : (H3 ++ [[V.int x2, V.int x3]] ++ [[V.int x2, V.int x3]])[(H3 ++ [[V.int x2, V.int x3]]).length]? = some [.int x2, .int x3] := getApp _ _ _
  refine s_mul2 em g3 g4 s2 s3 s2 s3 sa ?_
  have p3 : H3 <+: (H3 ++ [[V.int x2, V.int x3]] ++ [[V.int x2, V.int x3]]) := preTrans (preApp _ _) (preApp _ _)
  have eH : (H3 ++ [cut [V.int x0, V.int x1, V.int x2, V.int x3] (clampAt [V.int x0, V.int x1, V.int x2, V.int x3].length 2) [V.int x0, V.int x1, V.int x2, V.int x3].length] ++ [cut [V.int x0, V.int x1, V.int x2, V.int x3] (clampAt [V.int x0, V.int x1, V.int x2, V.int x3].length 2) [V.int x0, V.int x1, V.int x2, V.int x3].length]) = (H3 ++ [[V.int x2, V.int x3]] ++ [[V.int x2, V.int x3]]) := rfl
  rw [eH]
  generalize (H3 ++ [[V.int x2, V.int x3]] ++ [[V.int x2, V.int x3]]) = H4 at *
  clear eH
  have q3 : H3 <+: H4 ++ [[V.int (x2 * x2 + a * x3 * x3), V.int (x2 * x3 + x3 * x2)]] := preTrans p3 (preApp _ _)
  have u3 : (H4 ++ [[V.int (x2 * x2 + a * x3 * x3), V.int (x2 * x3 + x3 * x2)]])[H4.length]? = some [.int (x2 * x2 + a * x3 * x3), .int (x2 * x3 + x3 * x2)] := getApp _ _ _
  generalize H4 ++ [[V.int (x2 * x2 + a * x3 * x3), V.int (x2 * x3 + x3 * x2)]] = H5 at *
  have v1 := getKeep q3 u1
  have t0 : Sm 601 (x0 * x0 + a * x1 * x1) := Sm.add ((s0.mul s0).mono (by decide)) (((sa.mul s1).mul s1).mono (by decide))
  have t1 : Sm 601 (x0 * x1 + x1 * x0) := (Sm.add (s0.mul s1) (s1.mul s0)).mono (by decide)
  have t2 : Sm 601 (x2 * x2 + a * x3 * x3) := Sm.add ((s2.mul s2).mono (by decide)) (((sa.mul s3).mul s3).mono (by decide))
  have t3 : Sm 601 (x2 * x3 + x3 * x2) := (Sm.add (s2.mul s3) (s3.mul s2)).mono (by decide)
  refine idxL0 v1 ?_
  refine idxL0 u3 ⟨ok6 sb t2, ?_⟩
  refine idxL1 v1 ?_
  refine idxL1 u3 ⟨ok6 sb t3, ?_⟩
  dsimp only [qS1, qS2, qS3, qS4, qS5, qS7, qS9, qS10, qS11, qS12, qS13, qS14, qE1, qE2, qE5, qE7, qE8, qE9, qE10, qE11, qE12, qE13, qE14, qE15, qE16, qE17, qE18, qE19, qE20, qE21, qE22, qEs1, qEs2, wpAll, qO1, qO2, qI1, qI2, qI3, w_add, w_addl, w_sub, w_mul, w_mull, w_fdiv, w_mod, w_pow, w_lt, w_le, w_gt, w_ge, w_eq, w_ne, w_isn, w_ist, w_isi, w_isl, w_abs, w_lent, w_lenl, w_intb, w_list, w_tuple, w_min, w_idxt0, w_idxt1, w_idxu0, w_idxu1, w_idxu2, w_idxl, w_slcl, w_tb, w_ti, w_tn, w_tt, w_tl, w_itt, w_itl, w_bindT1, w_bindT2, w_srcl, w_srct, w_cut2, w_cut1, w_cut1', w_cut0, w_ty1, w_ty2, w_ty3, w_ty4, w_ty5, w_ty6, w_ty7, w_ty8, w_ty9, w_ty10, w_ty11, w_ty12, w_ty13, w_ty14, w_ty15, w_ty16, w_ty17, w_ty18, w_ty19, w_ty20, w_ty21, w_mapc, w_mapn, w_appc, w_appn, w_repc, w_repn, w_start, w_lenc, w_ifT, w_ifF, w_ifFF, w_ifTF, w_nT, w_nF, w_anyT, w_anyF, w_d22, ifSome_some, ifLst_lst, ifTup_tup, ifInt_int, lget, lset, lsets, Nat.reduceSub, Nat.reduceAdd, List.length_nil, ↓reduceIte]
  refine s_two et el ((Sm.sub (t0.mono (show _ ≤ 801 by decide)) ((sb.mul t2).mono (by decide))).mono (by decide)) ((Sm.sub (t1.mono (show _ ≤ 801 by decide)) ((sb.mul t3).mono (by decide))).mono (by decide)) (sa.mono (by decide)) ?_
  exact ⟨IntMulOk.left hl, hQ _ (preTrans q1 q3)⟩
theorem s_four (e : P[f]? = some ⟨3, 7, bFour tw ls mu⟩) (et : P[tw]? = some ⟨3, 3, bTwo ls⟩) (el : P[ls]? = some ⟨1, 1, bLSign⟩) (em : P[mu]? = some ⟨3, 3, bMul2⟩) {m : Nat} {x0 x1 x2 x3 a b : Int} (hm : H[m]? = some [.int x0, .int x1, .int x2, .int x3])
    (s0 : Sm 200 x0) (s1 : Sm 200 x1) (s2 : Sm 200 x2) (s3 : Sm 200 x3) (sa : Sm 200 a) (sb : Sm 200 b) (hb : 0 < b)
    (hQ : ∀ H', H <+: H' → Q (.int (four x0 x1 x2 x3 a b)) H') : callN sub P (n + 3) f [.lst m, .int a, .int b] H Q X := by
  refine callN_mk e rfl ?_
  unfold four at hQ
  have fin : ¬ 0 ≤ twoS x0 x1 a * twoS x2 x3 a → wpS sub (callN sub P (n + 2)) (fun m => H.length ≤ m) (tFour tw mu) [some (.lst m), some (.int a), some (.int b), some (.int (twoS x0 x1 a)), some (.int (twoS x2 x3 a * 1)), none, none] H (fun _ H' => Q .none H') Q X := fun h => by
    rw [if_neg h] at hQ
    exact s_four4 et el em hm s0 s1 s2 s3 sa sb (two_le _ _ _) hQ
  dsimp only [bFour]
  revert fin
  generalize tFour tw mu = T
  intro fin
  dsimp only [qS1, qS2, qS3, qS4, qS5, qS7, qS9, qS10, qS11, qS12, qS13, qS14, qE1, qE2, qE5, qE7, qE8, qE9, qE10, qE11, qE12, qE13, qE14, qE15, qE16, qE17, qE18, qE19, qE20, qE21, qE22, qEs1, qEs2, wpAll, qO1, qO2, qI1, qI2, qI3, w_add, w_addl, w_sub, w_mul, w_mull, w_fdiv, w_mod, w_pow, w_lt, w_le, w_gt, w_ge, w_eq, w_ne, w_isn, w_ist, w_isi, w_isl, w_abs, w_lent, w_lenl, w_intb, w_list, w_tuple, w_min, w_idxt0, w_idxt1, w_idxu0, w_idxu1, w_idxu2, w_idxl, w_slcl, w_tb, w_ti, w_tn, w_tt, w_tl, w_itt, w_itl, w_bindT1, w_bindT2, w_srcl, w_srct, w_cut2, w_cut1, w_cut1', w_cut0, w_ty1, w_ty2, w_ty3, w_ty4, w_ty5, w_ty6, w_ty7, w_ty8, w_ty9, w_ty10, w_ty11, w_ty12, w_ty13, w_ty14, w_ty15, w_ty16, w_ty17, w_ty18, w_ty19, w_ty20, w_ty21, w_mapc, w_mapn, w_appc, w_appn, w_repc, w_repn, w_start, w_lenc, w_ifT, w_ifF, w_ifFF, w_ifTF, w_nT, w_nF, w_anyT, w_anyF, w_d22, ifSome_some, ifLst_lst, ifTup_tup, ifInt_int, lget, lset, lsets, Nat.reduceSub, Nat.reduceAdd, List.length_nil, ↓reduceIte]
  refine ix4 hm (.inl ⟨rfl, rfl⟩) ?_
  refine ix4 hm (.inr (.inl ⟨rfl, rfl⟩)) ?_
  refine s_two et el (s0.mono (by decide)) (s1.mono (by decide)) (sa.mono (by decide)) ?_
  refine ix4 hm (.inr (.inr (.inl ⟨rfl, rfl⟩))) ?_
  refine ix4 hm (.inr (.inr (.inr ⟨rfl, rfl⟩))) ?_
  refine s_two et el (s2.mono (by decide)) (s3.mono (by decide)) (sa.mono (by decide)) ?_
  rw [decide_eq_true hb]
  refine ⟨IntMulOk.left (two_le _ _ _), ?_⟩
  dsimp only [qS1, qS2, qS3, qS4, qS5, qS7, qS9, qS10, qS11, qS12, qS13, qS14, qE1, qE2, qE5, qE7, qE8, qE9, qE10, qE11, qE12, qE13, qE14, qE15, qE16, qE17, qE18, qE19, qE20, qE21, qE22, qEs1, qEs2, wpAll, qO1, qO2, qI1, qI2, qI3, w_add, w_addl, w_sub, w_mul, w_mull, w_fdiv, w_mod, w_pow, w_lt, w_le, w_gt, w_ge, w_eq, w_ne, w_isn, w_ist, w_isi, w_isl, w_abs, w_lent, w_lenl, w_intb, w_list, w_tuple, w_min, w_idxt0, w_idxt1, w_idxu0, w_idxu1, w_idxu2, w_idxl, w_slcl, w_tb, w_ti, w_tn, w_tt, w_tl, w_itt, w_itl, w_bindT1, w_bindT2, w_srcl, w_srct, w_cut2, w_cut1, w_cut1', w_cut0, w_ty1, w_ty2, w_ty3, w_ty4, w_ty5, w_ty6, w_ty7, w_ty8, w_ty9, w_ty10, w_ty11, w_ty12, w_ty13, w_ty14, w_ty15, w_ty16, w_ty17, w_ty18, w_ty19, w_ty20, w_ty21, w_mapc, w_mapn, w_appc, w_appn, w_repc, w_repn, w_start, w_lenc, w_ifT, w_ifF, w_ifFF, w_ifTF, w_nT, w_nF, w_anyT, w_anyF, w_d22, ifSome_some, ifLst_lst, ifTup_tup, ifInt_int, lget, lset, lsets, Nat.reduceSub, Nat.reduceAdd, List.length_nil, ↓reduceIte]
  refine ⟨IntMulOk.left (two_le _ _ _), ?_⟩
  rw [show (twoS x2 x3 a * if true = true then 1 else 0) = twoS x2 x3 a from Int.mul_one _]
  by_cases h : 0 ≤ twoS x0 x1 a * twoS x2 x3 a
  · rw [decide_eq_true h]
    rw [if_pos h] at hQ
    dsimp only [qS1, qS2, qS3, qS4, qS5, qS7, qS9, qS10, qS11, qS12, qS13, qS14, qE1, qE2, qE5, qE7, qE8, qE9, qE10, qE11, qE12, qE13, qE14, qE15, qE16, qE17, qE18, qE19, qE20, qE21, qE22, qEs1, qEs2, wpAll, qO1, qO2, qI1, qI2, qI3, w_add, w_addl, w_sub, w_mul, w_mull, w_fdiv, w_mod, w_pow, w_lt, w_le, w_gt, w_ge, w_eq, w_ne, w_isn, w_ist, w_isi, w_isl, w_abs, w_lent, w_lenl, w_intb, w_list, w_tuple, w_min, w_idxt0, w_idxt1, w_idxu0, w_idxu1, w_idxu2, w_idxl, w_slcl, w_tb, w_ti, w_tn, w_tt, w_tl, w_itt, w_itl, w_bindT1, w_bindT2, w_srcl, w_srct, w_cut2, w_cut1, w_cut1', w_cut0, w_ty1, w_ty2, w_ty3, w_ty4, w_ty5, w_ty6, w_ty7, w_ty8, w_ty9, w_ty10, w_ty11, w_ty12, w_ty13, w_ty14, w_ty15, w_ty16, w_ty17, w_ty18, w_ty19, w_ty20, w_ty21, w_mapc, w_mapn, w_appc, w_appn, w_repc, w_repn, w_start, w_lenc, w_ifT, w_ifF, w_ifFF, w_ifTF, w_nT, w_nF, w_anyT, w_anyF, w_d22, ifSome_some, ifLst_lst, ifTup_tup, ifInt_int, lget, lset, lsets, Nat.reduceSub, Nat.reduceAdd, List.length_nil, ↓reduceIte]
    exact s_lsign el (hQ _ (List.prefix_refl _))
  · rw [decide_eq_false h]
    rw [Int.mul_one] at fin
    exact fin h
end
end Mine

set_option autoImplicit false
set_option linter.unusedVariables false
set_option linter.unusedSimpArgs false
set_option maxRecDepth 100000
namespace Mine
open PySem
open Re
theorem w_idx40 {x y z w : V} {H : Hp} {Q : V → Hp → Prop} : idxWp (.tup [x, y, z, w]) (.int 0) H Q = Q x H := rfl
theorem w_idx41 {x y z w : V} {H : Hp} {Q : V → Hp → Prop} : idxWp (.tup [x, y, z, w]) (.int 1) H Q = Q y H := rfl
theorem w_idx42 {x y z w : V} {H : Hp} {Q : V → Hp → Prop} : idxWp (.tup [x, y, z, w]) (.int 2) H Q = Q z H := rfl
theorem w_idx43 {x y z w : V} {H : Hp} {Q : V → Hp → Prop} : idxWp (.tup [x, y, z, w]) (.int 3) H Q = Q w H := rfl
theorem fm {x b : Int} (hb : 0 < b) : 0 ≤ x.fmod b ∧ x.fmod b < b := ⟨Int.fmod_nonneg_of_pos x hb, Int.fmod_lt_of_pos x hb⟩
section
variable {sub : Nat → Nat → Bool} {P : List Fn} {f n ce qu lp dv ld en sm sg be ps pr ta pa by_ wh : Nat} {H : Hp} {Q : V → Hp → Prop} {X : Nat → Hp → Prop}
noncomputable def tQuad1 (ce : Nat) : PS := (.seq (.assign 4 (.bin .add (.cint 1) (.bin .mod (.call ce (.cons (.var 0) (.cons (.bin .add (.var 1) (.cint 2)) .nil))) (.cint 7))))
 (.seq (.ret (.tup (.cons (.var 2) (.cons (.var 3) (.cons (.var 4) (.cons (.bin .add (.cint 1) (.bin .mod (.bin .fdiv (.call ce (.cons (.var 0) (.cons (.bin .add (.var 1) (.cint 3)) .nil))) (.cint 8)) (.cint 30))) .nil))))))
 .skip))
noncomputable def tQuad2 (ce : Nat) : PS := (.seq (.assign 3 (.bin .add (.cint 1) (.bin .mod (.call ce (.cons (.var 0) (.cons (.bin .add (.var 1) (.cint 1)) .nil))) (.cint 6))))
 (.seq (.ite (.cmp .eq (.bin .mod (.bin .fdiv (.call ce (.cons (.var 0) (.cons (.bin .add (.var 1) (.cint 1)) .nil))) (.cint 6)) (.cint 2)) (.cint 1)) (.seq (.assign 3 (.bin .sub (.cint 0) (.var 3)))
 .skip) .skip)
 (tQuad1 ce)))
noncomputable def bQuad (ce : Nat) : PS := (.seq (.assign 2 (.bin .sub (.bin .mod (.call ce (.cons (.var 0) (.cons (.var 1) .nil))) (.cint 19)) (.cint 9)))
 (.seq (.ite (.cmp .eq (.bin .mod (.call ce (.cons (.var 0) (.cons (.bin .add (.var 1) (.cint 3)) .nil))) (.cint 8)) (.cint 1)) (.seq (.assign 2 (.bin .sub (.bin .mod (.call ce (.cons (.var 0) (.cons (.var 1) .nil))) (.cint 2000001)) (.bin .pow (.cint 10) (.cint 6))))
 .skip) .skip)
 (tQuad2 ce)))
noncomputable abbrev qv (p q r : Int) (d : Nat) : V := .tup [.int p, .int q, .int r, .int (d : Int)]
theorem s_quad1 (ec : P[ce]? = some ⟨2, 2, bCell⟩) {W : Nat → Prop} {NN : Loc → Hp → Prop} {R : V → Hp → Prop} {Y : Nat → Hp → Prop} {m : Nat} {ns : List Int} {k p q : Int} (hm : H[m]? = some (ns.map .int)) (hk : 0 ≤ k)
    (p1 : -1000000 ≤ p) (p2 : p ≤ 1000000) (q0 : (1 ≤ q ∧ q ≤ 6) ∨ (-6 ≤ q ∧ q ≤ -1)) (hQ : ∀ r d, QD p q r d → R (qv p q r d) H) :
    wpS sub (callN sub P (n + 1)) W (tQuad1 ce) [some (.lst m), some (.int k), some (.int p), some (.int q), none] H NN R Y := by
  dsimp only [tQuad1, qS1, qS2, qS3, qS4, qS5, qS7, qS9, qS10, qS11, qS12, qS13, qS14, qE1, qE2, qE5, qE7, qE8, qE9, qE10, qE11, qE12, qE13, qE14, qE15, qE16, qE17, qE18, qE19, qE20, qE21, qE22, qEs1, qEs2, wpAll, qO1, qO2, qI1, qI2, qI3, w_add, w_addl, w_sub, w_mul, w_mull, w_fdiv, w_mod, w_pow, w_lt, w_le, w_gt, w_ge, w_eq, w_ne, w_isn, w_ist, w_isi, w_isl, w_abs, w_lent, w_lenl, w_intb, w_list, w_tuple, w_min, w_idxt0, w_idxt1, w_idxu0, w_idxu1, w_idxu2, w_idxl, w_slcl, w_tb, w_ti, w_tn, w_tt, w_tl, w_itt, w_itl, w_bindT1, w_bindT2, w_srcl, w_srct, w_cut2, w_cut1, w_cut1', w_cut0, w_ty1, w_ty2, w_ty3, w_ty4, w_ty5, w_ty6, w_ty7, w_ty8, w_ty9, w_ty10, w_ty11, w_ty12, w_ty13, w_ty14, w_ty15, w_ty16, w_ty17, w_ty18, w_ty19, w_ty20, w_ty21, w_mapc, w_mapn, w_appc, w_appn, w_repc, w_repn, w_start, w_lenc, w_ifT, w_ifF, w_ifFF, w_ifTF, w_nT, w_nF, w_anyT, w_anyF, w_d22, ifSome_some, ifLst_lst, ifTup_tup, ifInt_int, lget, lset, lsets, Nat.reduceSub, Nat.reduceAdd, List.length_nil, ↓reduceIte]
  refine s_cell ec (ns := ns) (by (clear ec hm p1 p2 q0 hQ; omega)) hm ?_
  refine ⟨by decide, ?_⟩
  dsimp only [qS1, qS2, qS3, qS4, qS5, qS7, qS9, qS10, qS11, qS12, qS13, qS14, qE1, qE2, qE5, qE7, qE8, qE9, qE10, qE11, qE12, qE13, qE14, qE15, qE16, qE17, qE18, qE19, qE20, qE21, qE22, qEs1, qEs2, wpAll, qO1, qO2, qI1, qI2, qI3, w_add, w_addl, w_sub, w_mul, w_mull, w_fdiv, w_mod, w_pow, w_lt, w_le, w_gt, w_ge, w_eq, w_ne, w_isn, w_ist, w_isi, w_isl, w_abs, w_lent, w_lenl, w_intb, w_list, w_tuple, w_min, w_idxt0, w_idxt1, w_idxu0, w_idxu1, w_idxu2, w_idxl, w_slcl, w_tb, w_ti, w_tn, w_tt, w_tl, w_itt, w_itl, w_bindT1, w_bindT2, w_srcl, w_srct, w_cut2, w_cut1, w_cut1', w_cut0, w_ty1, w_ty2, w_ty3, w_ty4, w_ty5, w_ty6, w_ty7, w_ty8, w_ty9, w_ty10, w_ty11, w_ty12, w_ty13, w_ty14, w_ty15, w_ty16, w_ty17, w_ty18, w_ty19, w_ty20, w_ty21, w_mapc, w_mapn, w_appc, w_appn, w_repc, w_repn, w_start, w_lenc, w_ifT, w_ifF, w_ifFF, w_ifTF, w_nT, w_nF, w_anyT, w_anyF, w_d22, ifSome_some, ifLst_lst, ifTup_tup, ifInt_int, lget, lset, lsets, Nat.reduceSub, Nat.reduceAdd, List.length_nil, ↓reduceIte]
  refine s_cell ec (ns := ns) (by (clear ec hm p1 p2 q0 hQ; omega)) hm ?_
  refine ⟨(show DivOk _ by unfold DivOk; decide), by decide, ?_⟩
  have h1 := fm (x := cellI ns (k + 2).toNat) (b := 7) (by decide)
  have h2 := fm (x := (cellI ns (k + 3).toNat).fdiv 8) (b := 30) (by decide)
  generalize (cellI ns (k + 2).toNat).fmod 7 = x at *
  generalize ((cellI ns (k + 3).toNat).fdiv 8).fmod 30 = y at *
  obtain ⟨d, hd⟩ : ∃ d : Nat, (d : Int) = 1 + y := ⟨(1 + y).toNat, by (clear ec hm hk p1 p2 q0 hQ h1; omega)⟩
  have := hQ (1 + x) d ⟨p1, p2, q0, by (clear ec hm hk p1 p2 q0 hQ h2 hd; omega), by (clear ec hm hk p1 p2 q0 hQ h2 hd; omega), by (clear ec hm hk p1 p2 q0 hQ h1; omega), by (clear ec hm hk p1 p2 q0 hQ h1; omega)⟩
  unfold qv at this
  rw [hd] at this
  exact this
theorem s_quad2 (ec : P[ce]? = some ⟨2, 2, bCell⟩) {W : Nat → Prop} {NN : Loc → Hp → Prop} {R : V → Hp → Prop} {Y : Nat → Hp → Prop} {m : Nat} {ns : List Int} {k p : Int} (hm : H[m]? = some (ns.map .int)) (hk : 0 ≤ k)
    (p1 : -1000000 ≤ p) (p2 : p ≤ 1000000) (hQ : ∀ q r d, QD p q r d → R (qv p q r d) H) :
    wpS sub (callN sub P (n + 1)) W (tQuad2 ce) [some (.lst m), some (.int k), some (.int p), none, none] H NN R Y := by
  have fin : ∀ q, ((1 ≤ q ∧ q ≤ 6) ∨ (-6 ≤ q ∧ q ≤ -1)) → wpS sub (callN sub P (n + 1)) W (tQuad1 ce) [some (.lst m), some (.int k), some (.int p), some (.int q), none] H NN R Y := fun q h => s_quad1 ec hm hk p1 p2 h fun r d => hQ q r d
  dsimp only [tQuad2]
  revert fin
  generalize tQuad1 ce = T
  intro fin
  dsimp only [qS1, qS2, qS3, qS4, qS5, qS7, qS9, qS10, qS11, qS12, qS13, qS14, qE1, qE2, qE5, qE7, qE8, qE9, qE10, qE11, qE12, qE13, qE14, qE15, qE16, qE17, qE18, qE19, qE20, qE21, qE22, qEs1, qEs2, wpAll, qO1, qO2, qI1, qI2, qI3, w_add, w_addl, w_sub, w_mul, w_mull, w_fdiv, w_mod, w_pow, w_lt, w_le, w_gt, w_ge, w_eq, w_ne, w_isn, w_ist, w_isi, w_isl, w_abs, w_lent, w_lenl, w_intb, w_list, w_tuple, w_min, w_idxt0, w_idxt1, w_idxu0, w_idxu1, w_idxu2, w_idxl, w_slcl, w_tb, w_ti, w_tn, w_tt, w_tl, w_itt, w_itl, w_bindT1, w_bindT2, w_srcl, w_srct, w_cut2, w_cut1, w_cut1', w_cut0, w_ty1, w_ty2, w_ty3, w_ty4, w_ty5, w_ty6, w_ty7, w_ty8, w_ty9, w_ty10, w_ty11, w_ty12, w_ty13, w_ty14, w_ty15, w_ty16, w_ty17, w_ty18, w_ty19, w_ty20, w_ty21, w_mapc, w_mapn, w_appc, w_appn, w_repc, w_repn, w_start, w_lenc, w_ifT, w_ifF, w_ifFF, w_ifTF, w_nT, w_nF, w_anyT, w_anyF, w_d22, ifSome_some, ifLst_lst, ifTup_tup, ifInt_int, lget, lset, lsets, Nat.reduceSub, Nat.reduceAdd, List.length_nil, ↓reduceIte]
  refine s_cell ec (ns := ns) (by (clear ec hm p1 p2 hQ fin; omega)) hm ?_
  refine ⟨by decide, ?_⟩
  dsimp only [qS1, qS2, qS3, qS4, qS5, qS7, qS9, qS10, qS11, qS12, qS13, qS14, qE1, qE2, qE5, qE7, qE8, qE9, qE10, qE11, qE12, qE13, qE14, qE15, qE16, qE17, qE18, qE19, qE20, qE21, qE22, qEs1, qEs2, wpAll, qO1, qO2, qI1, qI2, qI3, w_add, w_addl, w_sub, w_mul, w_mull, w_fdiv, w_mod, w_pow, w_lt, w_le, w_gt, w_ge, w_eq, w_ne, w_isn, w_ist, w_isi, w_isl, w_abs, w_lent, w_lenl, w_intb, w_list, w_tuple, w_min, w_idxt0, w_idxt1, w_idxu0, w_idxu1, w_idxu2, w_idxl, w_slcl, w_tb, w_ti, w_tn, w_tt, w_tl, w_itt, w_itl, w_bindT1, w_bindT2, w_srcl, w_srct, w_cut2, w_cut1, w_cut1', w_cut0, w_ty1, w_ty2, w_ty3, w_ty4, w_ty5, w_ty6, w_ty7, w_ty8, w_ty9, w_ty10, w_ty11, w_ty12, w_ty13, w_ty14, w_ty15, w_ty16, w_ty17, w_ty18, w_ty19, w_ty20, w_ty21, w_mapc, w_mapn, w_appc, w_appn, w_repc, w_repn, w_start, w_lenc, w_ifT, w_ifF, w_ifFF, w_ifTF, w_nT, w_nF, w_anyT, w_anyF, w_d22, ifSome_some, ifLst_lst, ifTup_tup, ifInt_int, lget, lset, lsets, Nat.reduceSub, Nat.reduceAdd, List.length_nil, ↓reduceIte]
  refine s_cell ec (ns := ns) (by (clear ec hm p1 p2 hQ fin; omega)) hm ?_
  refine ⟨(show DivOk _ by unfold DivOk; decide), by decide, ?_⟩
  dsimp only [qS1, qS2, qS3, qS4, qS5, qS7, qS9, qS10, qS11, qS12, qS13, qS14, qE1, qE2, qE5, qE7, qE8, qE9, qE10, qE11, qE12, qE13, qE14, qE15, qE16, qE17, qE18, qE19, qE20, qE21, qE22, qEs1, qEs2, wpAll, qO1, qO2, qI1, qI2, qI3, w_add, w_addl, w_sub, w_mul, w_mull, w_fdiv, w_mod, w_pow, w_lt, w_le, w_gt, w_ge, w_eq, w_ne, w_isn, w_ist, w_isi, w_isl, w_abs, w_lent, w_lenl, w_intb, w_list, w_tuple, w_min, w_idxt0, w_idxt1, w_idxu0, w_idxu1, w_idxu2, w_idxl, w_slcl, w_tb, w_ti, w_tn, w_tt, w_tl, w_itt, w_itl, w_bindT1, w_bindT2, w_srcl, w_srct, w_cut2, w_cut1, w_cut1', w_cut0, w_ty1, w_ty2, w_ty3, w_ty4, w_ty5, w_ty6, w_ty7, w_ty8, w_ty9, w_ty10, w_ty11, w_ty12, w_ty13, w_ty14, w_ty15, w_ty16, w_ty17, w_ty18, w_ty19, w_ty20, w_ty21, w_mapc, w_mapn, w_appc, w_appn, w_repc, w_repn, w_start, w_lenc, w_ifT, w_ifF, w_ifFF, w_ifTF, w_nT, w_nF, w_anyT, w_anyF, w_d22, ifSome_some, ifLst_lst, ifTup_tup, ifInt_int, lget, lset, lsets, Nat.reduceSub, Nat.reduceAdd, List.length_nil, ↓reduceIte]
  have h1 := fm (x := cellI ns (k + 1).toNat) (b := 6) (by decide)
  by_cases hc : ((cellI ns (k + 1).toNat).fdiv 6).fmod 2 = 1
  · rw [decide_eq_true hc]
    exact fin _ (.inr (by (clear ec hm hk p1 p2 hQ fin hc; omega)))
  · rw [decide_eq_false hc]
    exact fin _ (.inl (by (clear ec hm hk p1 p2 hQ fin hc; omega)))
theorem s_quad (e : P[f]? = some ⟨2, 5, bQuad ce⟩) (ec : P[ce]? = some ⟨2, 2, bCell⟩) {m : Nat} {ns : List Int} {k : Int} (hm : H[m]? = some (ns.map .int)) (hk : 0 ≤ k) (hQ : ∀ p q r d, QD p q r d → Q (qv p q r d) H) : callN sub P (n + 2) f [.lst m, .int k] H Q X := by
  have fin : ∀ p, -1000000 ≤ p → p ≤ 1000000 → wpS sub (callN sub P (n + 1)) (fun m => H.length ≤ m) (tQuad2 ce) [some (.lst m), some (.int k), some (.int p), none, none] H (fun _ H' => Q .none H') Q X := fun p h1 h2 => s_quad2 ec hm hk h1 h2 fun q r d => hQ p q r d
  refine callN_mk e rfl ?_
  dsimp only [bQuad]
  revert fin
  generalize tQuad2 ce = T
  intro fin
  dsimp only [qS1, qS2, qS3, qS4, qS5, qS7, qS9, qS10, qS11, qS12, qS13, qS14, qE1, qE2, qE5, qE7, qE8, qE9, qE10, qE11, qE12, qE13, qE14, qE15, qE16, qE17, qE18, qE19, qE20, qE21, qE22, qEs1, qEs2, wpAll, qO1, qO2, qI1, qI2, qI3, w_add, w_addl, w_sub, w_mul, w_mull, w_fdiv, w_mod, w_pow, w_lt, w_le, w_gt, w_ge, w_eq, w_ne, w_isn, w_ist, w_isi, w_isl, w_abs, w_lent, w_lenl, w_intb, w_list, w_tuple, w_min, w_idxt0, w_idxt1, w_idxu0, w_idxu1, w_idxu2, w_idxl, w_slcl, w_tb, w_ti, w_tn, w_tt, w_tl, w_itt, w_itl, w_bindT1, w_bindT2, w_srcl, w_srct, w_cut2, w_cut1, w_cut1', w_cut0, w_ty1, w_ty2, w_ty3, w_ty4, w_ty5, w_ty6, w_ty7, w_ty8, w_ty9, w_ty10, w_ty11, w_ty12, w_ty13, w_ty14, w_ty15, w_ty16, w_ty17, w_ty18, w_ty19, w_ty20, w_ty21, w_mapc, w_mapn, w_appc, w_appn, w_repc, w_repn, w_start, w_lenc, w_ifT, w_ifF, w_ifFF, w_ifTF, w_nT, w_nF, w_anyT, w_anyF, w_d22, ifSome_some, ifLst_lst, ifTup_tup, ifInt_int, lget, lset, lsets, Nat.reduceSub, Nat.reduceAdd, List.length_nil, ↓reduceIte]
  refine s_cell ec (ns := ns) (by (clear e ec hm hQ fin; omega)) hm ?_
  refine ⟨by decide, ?_⟩
  dsimp only [qS1, qS2, qS3, qS4, qS5, qS7, qS9, qS10, qS11, qS12, qS13, qS14, qE1, qE2, qE5, qE7, qE8, qE9, qE10, qE11, qE12, qE13, qE14, qE15, qE16, qE17, qE18, qE19, qE20, qE21, qE22, qEs1, qEs2, wpAll, qO1, qO2, qI1, qI2, qI3, w_add, w_addl, w_sub, w_mul, w_mull, w_fdiv, w_mod, w_pow, w_lt, w_le, w_gt, w_ge, w_eq, w_ne, w_isn, w_ist, w_isi, w_isl, w_abs, w_lent, w_lenl, w_intb, w_list, w_tuple, w_min, w_idxt0, w_idxt1, w_idxu0, w_idxu1, w_idxu2, w_idxl, w_slcl, w_tb, w_ti, w_tn, w_tt, w_tl, w_itt, w_itl, w_bindT1, w_bindT2, w_srcl, w_srct, w_cut2, w_cut1, w_cut1', w_cut0, w_ty1, w_ty2, w_ty3, w_ty4, w_ty5, w_ty6, w_ty7, w_ty8, w_ty9, w_ty10, w_ty11, w_ty12, w_ty13, w_ty14, w_ty15, w_ty16, w_ty17, w_ty18, w_ty19, w_ty20, w_ty21, w_mapc, w_mapn, w_appc, w_appn, w_repc, w_repn, w_start, w_lenc, w_ifT, w_ifF, w_ifFF, w_ifTF, w_nT, w_nF, w_anyT, w_anyF, w_d22, ifSome_some, ifLst_lst, ifTup_tup, ifInt_int, lget, lset, lsets, Nat.reduceSub, Nat.reduceAdd, List.length_nil, ↓reduceIte]
  refine s_cell ec (ns := ns) (by (clear e ec hm hQ fin; omega)) hm ?_
  refine ⟨by decide, ?_⟩
  dsimp only [qS1, qS2, qS3, qS4, qS5, qS7, qS9, qS10, qS11, qS12, qS13, qS14, qE1, qE2, qE5, qE7, qE8, qE9, qE10, qE11, qE12, qE13, qE14, qE15, qE16, qE17, qE18, qE19, qE20, qE21, qE22, qEs1, qEs2, wpAll, qO1, qO2, qI1, qI2, qI3, w_add, w_addl, w_sub, w_mul, w_mull, w_fdiv, w_mod, w_pow, w_lt, w_le, w_gt, w_ge, w_eq, w_ne, w_isn, w_ist, w_isi, w_isl, w_abs, w_lent, w_lenl, w_intb, w_list, w_tuple, w_min, w_idxt0, w_idxt1, w_idxu0, w_idxu1, w_idxu2, w_idxl, w_slcl, w_tb, w_ti, w_tn, w_tt, w_tl, w_itt, w_itl, w_bindT1, w_bindT2, w_srcl, w_srct, w_cut2, w_cut1, w_cut1', w_cut0, w_ty1, w_ty2, w_ty3, w_ty4, w_ty5, w_ty6, w_ty7, w_ty8, w_ty9, w_ty10, w_ty11, w_ty12, w_ty13, w_ty14, w_ty15, w_ty16, w_ty17, w_ty18, w_ty19, w_ty20, w_ty21, w_mapc, w_mapn, w_appc, w_appn, w_repc, w_repn, w_start, w_lenc, w_ifT, w_ifF, w_ifFF, w_ifTF, w_nT, w_nF, w_anyT, w_anyF, w_d22, ifSome_some, ifLst_lst, ifTup_tup, ifInt_int, lget, lset, lsets, Nat.reduceSub, Nat.reduceAdd, List.length_nil, ↓reduceIte]
  have h1 := fm (x := cellI ns k.toNat) (b := 19) (by decide)
  have h2 := fm (x := cellI ns k.toNat) (b := 2000001) (by decide)
  by_cases hc : (cellI ns (k + 3).toNat).fmod 8 = 1
  · rw [decide_eq_true hc]
    dsimp only [qS1, qS2, qS3, qS4, qS5, qS7, qS9, qS10, qS11, qS12, qS13, qS14, qE1, qE2, qE5, qE7, qE8, qE9, qE10, qE11, qE12, qE13, qE14, qE15, qE16, qE17, qE18, qE19, qE20, qE21, qE22, qEs1, qEs2, wpAll, qO1, qO2, qI1, qI2, qI3, w_add, w_addl, w_sub, w_mul, w_mull, w_fdiv, w_mod, w_pow, w_lt, w_le, w_gt, w_ge, w_eq, w_ne, w_isn, w_ist, w_isi, w_isl, w_abs, w_lent, w_lenl, w_intb, w_list, w_tuple, w_min, w_idxt0, w_idxt1, w_idxu0, w_idxu1, w_idxu2, w_idxl, w_slcl, w_tb, w_ti, w_tn, w_tt, w_tl, w_itt, w_itl, w_bindT1, w_bindT2, w_srcl, w_srct, w_cut2, w_cut1, w_cut1', w_cut0, w_ty1, w_ty2, w_ty3, w_ty4, w_ty5, w_ty6, w_ty7, w_ty8, w_ty9, w_ty10, w_ty11, w_ty12, w_ty13, w_ty14, w_ty15, w_ty16, w_ty17, w_ty18, w_ty19, w_ty20, w_ty21, w_mapc, w_mapn, w_appc, w_appn, w_repc, w_repn, w_start, w_lenc, w_ifT, w_ifF, w_ifFF, w_ifTF, w_nT, w_nF, w_anyT, w_anyF, w_d22, ifSome_some, ifLst_lst, ifTup_tup, ifInt_int, lget, lset, lsets, Nat.reduceSub, Nat.reduceAdd, List.length_nil, ↓reduceIte]
    refine s_cell ec (ns := ns) (by (clear e ec hm hQ fin h1 h2 hc; omega)) hm ?_
    refine ⟨by decide, by decide, by decide, by decide, ?_⟩
    show wpS _ _ _ T [_, _, some (.int ((cellI ns k.toNat).fmod 2000001 - 1000000)), _, _] _ _ _ _
    exact fin _ (by (clear e ec hm hk hQ fin h1 hc; omega)) (by (clear e ec hm hk hQ fin h1 hc; omega))
  · rw [decide_eq_false hc]
    exact fin _ (by (clear e ec hm hk hQ fin h2 hc; omega)) (by (clear e ec hm hk hQ fin h2 hc; omega))
noncomputable def tTq1 : PS := (.seq (.ret (.tup (.cons (.var 1) (.cons (.var 2) .nil))))
 .skip)
noncomputable def tTq2 : PS := (.seq (.ite (.cmp .eq (.var 3) (.cint 5)) (.seq (.assign 2 (.tup (.cons (.idx (.var 1) (.cint 0)) (.cons (.idx (.var 1) (.cint 1)) (.cons (.idx (.var 1) (.cint 2)) (.cons (.idx (.var 1) (.cint 3)) .nil))))))
 .skip) .skip)
 tTq1)
noncomputable def tTq3 : PS := (.seq (.ite (.or (.cons (.cmp .eq (.var 3) (.cint 3)) (.cons (.cmp .eq (.var 3) (.cint 4)) .nil))) (.seq (.assign 2 (.tup (.cons (.idx (.var 2) (.cint 0)) (.cons (.idx (.var 2) (.cint 1)) (.cons (.idx (.var 2) (.cint 2)) (.cons (.idx (.var 1) (.cint 3)) .nil))))))
 .skip) .skip)
 tTq2)
noncomputable def tTq4 : PS := (.seq (.ite (.cmp .eq (.var 3) (.cint 2)) (.seq (.assign 2 (.tup (.cons (.idx (.var 1) (.cint 0)) (.cons (.bin .sub (.cint 0) (.idx (.var 1) (.cint 1))) (.cons (.idx (.var 1) (.cint 2)) (.cons (.idx (.var 1) (.cint 3)) .nil))))))
 .skip) .skip)
 tTq3)
noncomputable def tTq5 : PS := (.seq (.ite (.cmp .eq (.var 3) (.cint 1)) (.seq (.assign 2 (.tup (.cons (.bin .sub (.cint 0) (.idx (.var 1) (.cint 0))) (.cons (.bin .sub (.cint 0) (.idx (.var 1) (.cint 1))) (.cons (.idx (.var 1) (.cint 2)) (.cons (.idx (.var 1) (.cint 3)) .nil))))))
 .skip) .skip)
 tTq4)
noncomputable def bTq (ce qu : Nat) : PS := (.seq (.assign 1 (.call qu (.cons (.var 0) (.cons (.cint 0) .nil))))
 (.seq (.assign 2 (.call qu (.cons (.var 0) (.cons (.cint 4) .nil))))
 (.seq (.assign 3 (.bin .mod (.call ce (.cons (.var 0) (.cons (.cint 8) .nil))) (.cint 8)))
 tTq5)))
theorem QD.negq {p q r : Int} {d : Nat} (h : QD p q r d) : QD p (0 - q) r d := ⟨h.p1, h.p2, by have := h.q0; (clear h; omega), h.r1, h.r2, h.d1, h.d2⟩
theorem QD.negp {p q r : Int} {d : Nat} (h : QD p q r d) : QD (0 - p) q r d := ⟨by have := h.p2; (clear h; omega), by have := h.p1; (clear h; omega), h.q0, h.r1, h.r2, h.d1, h.d2⟩
section
variable {Φ : Call} {W : Nat → Prop} {NN : Loc → Hp → Prop} {R : V → Hp → Prop} {Y : Nat → Hp → Prop} {p q r p' q' r' : Int} {d d' : Nat} {v : V} {way : Int}
theorem s_tq2 (h1 : QD p q r d) (h2 : QD p' q' r' d') (hQ : ∀ p' q' r' d', QD p' q' r' d' → R (.tup [qv p q r d, qv p' q' r' d']) H) : wpS sub Φ W tTq2 [some v, some (qv p q r d), some (qv p' q' r' d'), some (.int way)] H NN R Y := by
  have fin : ∀ {p' q' r' d'}, QD p' q' r' d' → wpS sub Φ W tTq1 [some v, some (qv p q r d), some (qv p' q' r' d'), some (.int way)] H NN R Y := fun h => hQ _ _ _ _ h
  dsimp only [tTq2]
  revert fin
  generalize tTq1 = T
  intro fin
  dsimp only [qS1, qS2, qS3, qS4, qS5, qS7, qS9, qS10, qS11, qS12, qS13, qS14, qE1, qE2, qE5, qE7, qE8, qE9, qE10, qE11, qE12, qE13, qE14, qE15, qE16, qE17, qE18, qE19, qE20, qE21, qE22, qEs1, qEs2, wpAll, qO1, qO2, qI1, qI2, qI3, w_add, w_addl, w_sub, w_mul, w_mull, w_fdiv, w_mod, w_pow, w_lt, w_le, w_gt, w_ge, w_eq, w_ne, w_isn, w_ist, w_isi, w_isl, w_abs, w_lent, w_lenl, w_intb, w_list, w_tuple, w_min, w_idxt0, w_idxt1, w_idxu0, w_idxu1, w_idxu2, w_idxl, w_slcl, w_tb, w_ti, w_tn, w_tt, w_tl, w_itt, w_itl, w_bindT1, w_bindT2, w_srcl, w_srct, w_cut2, w_cut1, w_cut1', w_cut0, w_ty1, w_ty2, w_ty3, w_ty4, w_ty5, w_ty6, w_ty7, w_ty8, w_ty9, w_ty10, w_ty11, w_ty12, w_ty13, w_ty14, w_ty15, w_ty16, w_ty17, w_ty18, w_ty19, w_ty20, w_ty21, w_mapc, w_mapn, w_appc, w_appn, w_repc, w_repn, w_start, w_lenc, w_ifT, w_ifF, w_ifFF, w_ifTF, w_nT, w_nF, w_anyT, w_anyF, w_d22, ifSome_some, ifLst_lst, ifTup_tup, ifInt_int, lget, lset, lsets, Nat.reduceSub, Nat.reduceAdd, List.length_nil, ↓reduceIte, w_idx40, w_idx41, w_idx42, w_idx43]
  by_cases hc : way = 5
  · rw [decide_eq_true hc]; exact fin h1
  · rw [decide_eq_false hc]; exact fin h2
theorem s_tq3 (h1 : QD p q r d) (h2 : QD p' q' r' d') (hQ : ∀ p' q' r' d', QD p' q' r' d' → R (.tup [qv p q r d, qv p' q' r' d']) H) : wpS sub Φ W tTq3 [some v, some (qv p q r d), some (qv p' q' r' d'), some (.int way)] H NN R Y := by
  have fin : ∀ {p' q' r' d'}, QD p' q' r' d' → wpS sub Φ W tTq2 [some v, some (qv p q r d), some (qv p' q' r' d'), some (.int way)] H NN R Y := fun h => s_tq2 h1 h hQ
  have h3 : QD p' q' r' d := ⟨h2.p1, h2.p2, h2.q0, h2.r1, h2.r2, h1.d1, h1.d2⟩
  dsimp only [tTq3]
  revert fin
  generalize tTq2 = T
  intro fin
  dsimp only [qS1, qS2, qS3, qS4, qS5, qS7, qS9, qS10, qS11, qS12, qS13, qS14, qE1, qE2, qE5, qE7, qE8, qE9, qE10, qE11, qE12, qE13, qE14, qE15, qE16, qE17, qE18, qE19, qE20, qE21, qE22, qEs1, qEs2, wpAll, qO1, qO2, qI1, qI2, qI3, w_add, w_addl, w_sub, w_mul, w_mull, w_fdiv, w_mod, w_pow, w_lt, w_le, w_gt, w_ge, w_eq, w_ne, w_isn, w_ist, w_isi, w_isl, w_abs, w_lent, w_lenl, w_intb, w_list, w_tuple, w_min, w_idxt0, w_idxt1, w_idxu0, w_idxu1, w_idxu2, w_idxl, w_slcl, w_tb, w_ti, w_tn, w_tt, w_tl, w_itt, w_itl, w_bindT1, w_bindT2, w_srcl, w_srct, w_cut2, w_cut1, w_cut1', w_cut0, w_ty1, w_ty2, w_ty3, w_ty4, w_ty5, w_ty6, w_ty7, w_ty8, w_ty9, w_ty10, w_ty11, w_ty12, w_ty13, w_ty14, w_ty15, w_ty16, w_ty17, w_ty18, w_ty19, w_ty20, w_ty21, w_mapc, w_mapn, w_appc, w_appn, w_repc, w_repn, w_start, w_lenc, w_ifT, w_ifF, w_ifFF, w_ifTF, w_nT, w_nF, w_anyT, w_anyF, w_d22, ifSome_some, ifLst_lst, ifTup_tup, ifInt_int, lget, lset, lsets, Nat.reduceSub, Nat.reduceAdd, List.length_nil, ↓reduceIte, w_idx40, w_idx41, w_idx42, w_idx43]
  by_cases hc : way = 3
  · rw [decide_eq_true hc]; exact fin h3
  · rw [decide_eq_false hc]
    by_cases hc : way = 4
    · rw [decide_eq_true hc]; exact fin h3
    · rw [decide_eq_false hc]; exact fin h2
theorem s_tq4 (h1 : QD p q r d) (h2 : QD p' q' r' d') (hQ : ∀ p' q' r' d', QD p' q' r' d' → R (.tup [qv p q r d, qv p' q' r' d']) H) : wpS sub Φ W tTq4 [some v, some (qv p q r d), some (qv p' q' r' d'), some (.int way)] H NN R Y := by
  have fin : ∀ {p' q' r' d'}, QD p' q' r' d' → wpS sub Φ W tTq3 [some v, some (qv p q r d), some (qv p' q' r' d'), some (.int way)] H NN R Y := fun h => s_tq3 h1 h hQ
  dsimp only [tTq4]
  revert fin
  generalize tTq3 = T
  intro fin
  dsimp only [qS1, qS2, qS3, qS4, qS5, qS7, qS9, qS10, qS11, qS12, qS13, qS14, qE1, qE2, qE5, qE7, qE8, qE9, qE10, qE11, qE12, qE13, qE14, qE15, qE16, qE17, qE18, qE19, qE20, qE21, qE22, qEs1, qEs2, wpAll, qO1, qO2, qI1, qI2, qI3, w_add, w_addl, w_sub, w_mul, w_mull, w_fdiv, w_mod, w_pow, w_lt, w_le, w_gt, w_ge, w_eq, w_ne, w_isn, w_ist, w_isi, w_isl, w_abs, w_lent, w_lenl, w_intb, w_list, w_tuple, w_min, w_idxt0, w_idxt1, w_idxu0, w_idxu1, w_idxu2, w_idxl, w_slcl, w_tb, w_ti, w_tn, w_tt, w_tl, w_itt, w_itl, w_bindT1, w_bindT2, w_srcl, w_srct, w_cut2, w_cut1, w_cut1', w_cut0, w_ty1, w_ty2, w_ty3, w_ty4, w_ty5, w_ty6, w_ty7, w_ty8, w_ty9, w_ty10, w_ty11, w_ty12, w_ty13, w_ty14, w_ty15, w_ty16, w_ty17, w_ty18, w_ty19, w_ty20, w_ty21, w_mapc, w_mapn, w_appc, w_appn, w_repc, w_repn, w_start, w_lenc, w_ifT, w_ifF, w_ifFF, w_ifTF, w_nT, w_nF, w_anyT, w_anyF, w_d22, ifSome_some, ifLst_lst, ifTup_tup, ifInt_int, lget, lset, lsets, Nat.reduceSub, Nat.reduceAdd, List.length_nil, ↓reduceIte, w_idx40, w_idx41, w_idx42, w_idx43]
  by_cases hc : way = 2
  · rw [decide_eq_true hc]; exact fin h1.negq
  · rw [decide_eq_false hc]; exact fin h2
theorem s_tq5 (h1 : QD p q r d) (h2 : QD p' q' r' d') (hQ : ∀ p' q' r' d', QD p' q' r' d' → R (.tup [qv p q r d, qv p' q' r' d']) H) : wpS sub Φ W tTq5 [some v, some (qv p q r d), some (qv p' q' r' d'), some (.int way)] H NN R Y := by
  have fin : ∀ {p' q' r' d'}, QD p' q' r' d' → wpS sub Φ W tTq4 [some v, some (qv p q r d), some (qv p' q' r' d'), some (.int way)] H NN R Y := fun h => s_tq4 h1 h hQ
  dsimp only [tTq5]
  revert fin
  generalize tTq4 = T
  intro fin
  dsimp only [qS1, qS2, qS3, qS4, qS5, qS7, qS9, qS10, qS11, qS12, qS13, qS14, qE1, qE2, qE5, qE7, qE8, qE9, qE10, qE11, qE12, qE13, qE14, qE15, qE16, qE17, qE18, qE19, qE20, qE21, qE22, qEs1, qEs2, wpAll, qO1, qO2, qI1, qI2, qI3, w_add, w_addl, w_sub, w_mul, w_mull, w_fdiv, w_mod, w_pow, w_lt, w_le, w_gt, w_ge, w_eq, w_ne, w_isn, w_ist, w_isi, w_isl, w_abs, w_lent, w_lenl, w_intb, w_list, w_tuple, w_min, w_idxt0, w_idxt1, w_idxu0, w_idxu1, w_idxu2, w_idxl, w_slcl, w_tb, w_ti, w_tn, w_tt, w_tl, w_itt, w_itl, w_bindT1, w_bindT2, w_srcl, w_srct, w_cut2, w_cut1, w_cut1', w_cut0, w_ty1, w_ty2, w_ty3, w_ty4, w_ty5, w_ty6, w_ty7, w_ty8, w_ty9, w_ty10, w_ty11, w_ty12, w_ty13, w_ty14, w_ty15, w_ty16, w_ty17, w_ty18, w_ty19, w_ty20, w_ty21, w_mapc, w_mapn, w_appc, w_appn, w_repc, w_repn, w_start, w_lenc, w_ifT, w_ifF, w_ifFF, w_ifTF, w_nT, w_nF, w_anyT, w_anyF, w_d22, ifSome_some, ifLst_lst, ifTup_tup, ifInt_int, lget, lset, lsets, Nat.reduceSub, Nat.reduceAdd, List.length_nil, ↓reduceIte, w_idx40, w_idx41, w_idx42, w_idx43]
  by_cases hc : way = 1
  · rw [decide_eq_true hc]; exact fin h1.negq.negp
  · rw [decide_eq_false hc]; exact fin h2
end
theorem s_tq (e : P[f]? = some ⟨1, 4, bTq ce qu⟩) (eq : P[qu]? = some ⟨2, 5, bQuad ce⟩) (ec : P[ce]? = some ⟨2, 2, bCell⟩) {m : Nat} {ns : List Int} (hm : H[m]? = some (ns.map .int)) (hQ : ∀ p q r d p' q' r' d', QD p q r d → QD p' q' r' d' → Q (.tup [qv p q r d, qv p' q' r' d']) H) : callN sub P (n + 3) f [.lst m] H Q X := by
  refine callN_mk e rfl ?_
  dsimp only [bTq, qS1, qS2, qS3, qS4, qS5, qS7, qS9, qS10, qS11, qS12, qS13, qS14, qE1, qE2, qE5, qE7, qE8, qE9, qE10, qE11, qE12, qE13, qE14, qE15, qE16, qE17, qE18, qE19, qE20, qE21, qE22, qEs1, qEs2, wpAll, qO1, qO2, qI1, qI2, qI3, w_add, w_addl, w_sub, w_mul, w_mull, w_fdiv, w_mod, w_pow, w_lt, w_le, w_gt, w_ge, w_eq, w_ne, w_isn, w_ist, w_isi, w_isl, w_abs, w_lent, w_lenl, w_intb, w_list, w_tuple, w_min, w_idxt0, w_idxt1, w_idxu0, w_idxu1, w_idxu2, w_idxl, w_slcl, w_tb, w_ti, w_tn, w_tt, w_tl, w_itt, w_itl, w_bindT1, w_bindT2, w_srcl, w_srct, w_cut2, w_cut1, w_cut1', w_cut0, w_ty1, w_ty2, w_ty3, w_ty4, w_ty5, w_ty6, w_ty7, w_ty8, w_ty9, w_ty10, w_ty11, w_ty12, w_ty13, w_ty14, w_ty15, w_ty16, w_ty17, w_ty18, w_ty19, w_ty20, w_ty21, w_mapc, w_mapn, w_appc, w_appn, w_repc, w_repn, w_start, w_lenc, w_ifT, w_ifF, w_ifFF, w_ifTF, w_nT, w_nF, w_anyT, w_anyF, w_d22, ifSome_some, ifLst_lst, ifTup_tup, ifInt_int, lget, lset, lsets, Nat.reduceSub, Nat.reduceAdd, List.length_nil, ↓reduceIte]
  refine s_quad eq ec hm (by decide) fun p q r d h1 => ?_
  refine s_quad eq ec hm (by decide) fun p' q' r' d' h2 => ?_
  refine s_cell ec (by decide) hm ⟨by decide, ?_⟩
  exact s_tq5 h1 h2 fun p' q' r' d' h => hQ _ _ _ _ _ _ _ _ h1 h
end
end Mine

set_option autoImplicit false
set_option linter.unusedVariables false
set_option linter.unusedSimpArgs false
set_option maxRecDepth 100000
namespace Mine
open PySem
open Re
noncomputable abbrev pvv (row : List Int) (p1 q1 p2 q2 : Int) : V := .tup [.tup (row.map .int), pt p1 q1, pt p2 q2]
theorem sm_le {k : Nat} {x c : Int} (h1 : -c ≤ x) (h2 : x ≤ c) (hc : Sm k c) : Sm k x := by unfold Sm at *; omega
/-- the ends of a quad peg -/
structure QE (p q r : Int) (d : Nat) (A L U p1 q1 p2 q2 : Int) : Prop where
  A1 : 1 ≤ A
  A6 : A ≤ 6
  Ad : (d : Int) < A * A
  or : (0 < q ∧ L = p ∧ U = p + q * A) ∨ (q < 0 ∧ L = p + q * A ∧ U = p)
  l1 : Low 40 p1 q1
  e1 : p1 * r = L * q1
  l2 : Low 40 p2 q2
  e2 : p2 * r = U * q2
structure QP (p q r : Int) (d : Nat) (row : List Int) (g A L U p1 q1 p2 q2 : Int) : Prop where
  qd : QD p q r d
  qe : QE p q r d A L U p1 q1 p2 q2
  hg : g ≠ 0
  e : smul g row = [p * p - q * q * d, -2 * p * r, r * r]
  tr : Tr row
  sm : AllSm 60 row
theorem QD.qA {p q r A : Int} {d : Nat} (h : QD p q r d) (hA : 1 ≤ A) (hA6 : A ≤ 6) : (0 < q → 0 < q * A ∧ q * A ≤ 36) ∧ (q < 0 → -36 ≤ q * A ∧ q * A < 0) := by
  constructor
  · intro hq
    have h2 : q ≤ 6 := by have := h.q0; (clear h hA hA6 hq; omega)
    have i1 := Int.mul_le_mul h2 hA6 (by (clear h hq h2; omega)) (by (clear h hA hA6 hq h2; omega))
    exact ⟨Int.mul_pos hq (by (clear h hq h2 i1; omega)), i1⟩
  · intro hq
    have h2 : -q ≤ 6 := by have := h.q0; (clear h hA hA6 hq; omega)
    have i1 := Int.mul_le_mul h2 hA6 (by (clear h hq h2; omega)) (by (clear h hA hA6 hq h2; omega))
    have i2 := Int.mul_pos (show 0 < -q by (clear h hA hA6 i1; omega)) (show 0 < A by (clear h hq h2 i1; omega))
    rw [Int.neg_mul] at i1 i2
    (clear h hA hA6 hq h2; omega)
section
variable {p q r : Int} {d : Nat} {row : List Int} {g A L U p1 q1 p2 q2 : Int}
theorem QP.len (h : QP p q r d row g A L U p1 q1 p2 q2) : row.length = 3 := by
  have hl := smul_len (c := g) (xs := row)
  rw [h.e] at hl; exact hl.symm
theorem QP.ends (h : QP p q r d row g A L U p1 q1 p2 q2) : rq L r < qal p q r d ∧ qal p q r d < rq U r ∧ Out (rq L r) (rq U r) (2 * rq p r - qal p q r d) := by
  have hA : sqrt d < A := sqrt_lt (by have := h.qe.A1; (clear h; omega)) h.qe.Ad
  rcases h.qe.or with ⟨hq, rfl, rfl⟩ | ⟨hq, rfl, rfl⟩
  · exact h.qd.up hq hA
  · exact h.qd.dn hq hA
theorem QP.LU (h : QP p q r d row g A L U p1 q1 p2 q2) : (-1000036 ≤ L ∧ U ≤ 1000036) ∧ L ≤ U ∧ U - L ≤ 36 := by
  have b1 := h.qd.p1
  have b2 := h.qd.p2
  obtain ⟨k1, k2⟩ := h.qd.qA h.qe.A1 h.qe.A6
  rcases h.qe.or with ⟨hq, rfl, rfl⟩ | ⟨hq, rfl, rfl⟩
  · have := k1 hq; (clear k1 k2 hq h; omega)
  · have := k2 hq; (clear k1 k2 hq h; omega)
theorem QP.mkpd (h : QP p q r d row g A L U p1 q1 p2 q2) {row' : List Int} (rp : RP row' (rq L r) (rq U r) (qal p q r d)) (tr : Tr row') (ln : row'.length ≤ 4) (sm : AllSm 200 row') : PD row' r (qal p q r d) (rq L r) (rq U r) p1 q1 p2 q2 0 := by
  have r1 := h.qd.r1
  have r2 := h.qd.r2
  obtain ⟨⟨k1, k2⟩, k3, k4⟩ := h.LU
  exact mk_pd rp tr ln sm r1 (Int.le_trans r2 (by decide)) (Int.le_trans (by decide) k1) k3 (Int.le_trans k2 (by decide)) (by (clear h rp tr ln sm k1 k2; omega)) h.qe.l1 h.qe.e1 h.qe.l2 h.qe.e2
theorem QP.pd (h : QP p q r d row g A L U p1 q1 p2 q2) : PD row r (qal p q r d) (rq L r) (rq U r) p1 q1 p2 q2 0 := by
  have hr : 0 < r := by have := h.qd.r1; (clear h; omega)
  obtain ⟨a1, a2, a3⟩ := h.ends
  exact h.mkpd (quad_rp hr h.hg h.e (qal_eq hr) a1 a2 a3) h.tr (by rw [h.len]; decide) (h.sm.mono (by decide))
theorem far_sm {f : Int} (hl : row.length = 3) (sm : AllSm 60 row) (hf : Sm 40 f) : AllSm 200 (mulP row [f, 1]) := by
  match row, hl with
  | [a, b, c], _ =>
    have sa : Sm 60 a := sm a (.head _)
    have sb : Sm 60 b := sm b (.tail _ (.head _))
    have sc : Sm 60 c := sm c (.tail _ (.tail _ (.head _)))
    have e : mulP [a, b, c] [f, 1] = [a * f + 0, a * 1 + (b * f + 0), b * 1 + (c * f + 0), c * 1] := rfl
    rw [e]
    simp only [Int.mul_one, Int.add_zero]
    refine .cons ((sa.mul hf).mono (by decide)) (.cons ((Sm.add (sa.mono (show 60 ≤ 100 by decide)) (sb.mul hf)).mono (by decide)) (.cons ((Sm.add (sb.mono (show 60 ≤ 100 by decide)) (sc.mul hf)).mono (by decide)) (.cons (sc.mono (by decide)) .nil)))
theorem QP.pdf (h : QP p q r d row g A L U p1 q1 p2 q2) {f : Int} (hf : f ≤ -100000000 ∨ 100000000 ≤ f) (sf : Sm 40 f) : PD (mulP row [f, 1]) r (qal p q r d) (rq L r) (rq U r) p1 q1 p2 q2 0 := by
  have hr : 0 < r := by have := h.qd.r1; (clear h hf sf; omega)
  obtain ⟨a1, a2, a3⟩ := h.ends
  obtain ⟨⟨k1, k2⟩, k3, k4⟩ := h.LU
  obtain ⟨o1, o2⟩ := h.qd.far (L := L) (U := U) hf (by (clear h hf sf hr a1 a2 a3; omega)) (by (clear h hf sf hr a1 a2 a3; omega))
  have hl := mulP_len h.tr.ne (show [f, 1] ≠ [] by simp)
  rw [h.len] at hl
  exact h.mkpd (quad_far hr h.hg h.e (qal_eq hr) a1 a2 a3 o1 o2) (tr_mulP h.tr (Tr.cons (Tr.one (by decide)))) (by simp at hl; (clear h hf sf hr a1 a2 a3 k1 k2 k3 k4 o1 o2; omega)) (far_sm h.len h.sm sf)
end
section
variable {sub : Nat → Nat → Bool} {P : List Fn} {f n ce qu lp dv ld en sm sg be ps pr ta pa by_ wh : Nat} {H : Hp} {Q : V → Hp → Prop} {X : Nat → Hp → Prop}
noncomputable def tEnds (lp : Nat) : PS := (.seq (.ite (.cmp .gt (.var 1) (.cint 0)) (.seq (.ret (.tup (.cons (.call lp (.cons (.var 0) (.cons (.var 2) .nil))) (.cons (.call lp (.cons (.bin .add (.var 0) (.bin .mul (.var 1) (.var 4))) (.cons (.var 2) .nil))) .nil))))
 .skip) .skip)
 (.seq (.ret (.tup (.cons (.call lp (.cons (.bin .add (.var 0) (.bin .mul (.var 1) (.var 4))) (.cons (.var 2) .nil))) (.cons (.call lp (.cons (.var 0) (.cons (.var 2) .nil))) .nil))))
 .skip))
noncomputable def cEnds : PE := (.cmp .le (.bin .mul (.var 4) (.var 4)) (.var 3))
noncomputable def lEnds : PS := (.seq (.assign 4 (.bin .add (.var 4) (.cint 1)))
 .skip)
noncomputable def bEnds (lp : Nat) : PS := (.seq (.assign 4 (.cint 1))
 (.seq (.whl cEnds lEnds)
 (tEnds lp)))
theorem s_ends2 (ep : P[lp]? = some ⟨2, 3, bPart ld⟩) (ed : P[ld]? = some ⟨2, 3, bDiv⟩) {W : Nat → Prop} {NN : Loc → Hp → Prop} {R : V → Hp → Prop} {Y : Nat → Hp → Prop} {p q r A : Int} {d : Nat} {x : V} (h : QD p q r d) (hA : 1 ≤ A) (hA6 : A ≤ 6) (hd : (d : Int) < A * A)
    (hQ : ∀ L U p1 q1 p2 q2, QE p q r d A L U p1 q1 p2 q2 → R (.tup [pt p1 q1, pt p2 q2]) H) :
    wpS sub (callN sub P (n + 2)) W (tEnds lp) [some (.int p), some (.int q), some (.int r), some x, some (.int A)] H NN R Y := by
  obtain ⟨k1, k2⟩ := h.qA hA hA6
  have b1 := h.p1
  have b2 := h.p2
  have r1 := h.r1
  have c40 : Sm 40 (2000000 : Int) := by unfold Sm; decide
  have sp : Sm 40 p := sm_le (by (clear ep ed h hA hA6 hd hQ k1 k2 r1 c40; omega)) (by (clear ep ed h hA hA6 hd hQ k1 k2 r1 c40; omega)) c40
  have sr : Sm 40 r := sm_le (by (clear ep ed h hA hA6 hd hQ k1 k2 b1 b2 c40 sp; omega)) (Int.le_trans h.r2 (by decide)) c40
  have sA : Sm 64 A := (sm_le (by (clear ep ed h hd hQ k1 k2 b1 b2 r1 c40 sp sr; omega)) (Int.le_trans hA6 (by decide)) c40).mono (by decide)
  dsimp only [tEnds, qS1, qS2, qS3, qS4, qS5, qS7, qS9, qS10, qS11, qS12, qS13, qS14, qE1, qE2, qE5, qE7, qE8, qE9, qE10, qE11, qE12, qE13, qE14, qE15, qE16, qE17, qE18, qE19, qE20, qE21, qE22, qEs1, qEs2, wpAll, qO1, qO2, qI1, qI2, qI3, w_add, w_addl, w_sub, w_mul, w_mull, w_fdiv, w_mod, w_pow, w_lt, w_le, w_gt, w_ge, w_eq, w_ne, w_isn, w_ist, w_isi, w_isl, w_abs, w_lent, w_lenl, w_intb, w_list, w_tuple, w_min, w_idxt0, w_idxt1, w_idxu0, w_idxu1, w_idxu2, w_idxl, w_slcl, w_tb, w_ti, w_tn, w_tt, w_tl, w_itt, w_itl, w_bindT1, w_bindT2, w_srcl, w_srct, w_cut2, w_cut1, w_cut1', w_cut0, w_ty1, w_ty2, w_ty3, w_ty4, w_ty5, w_ty6, w_ty7, w_ty8, w_ty9, w_ty10, w_ty11, w_ty12, w_ty13, w_ty14, w_ty15, w_ty16, w_ty17, w_ty18, w_ty19, w_ty20, w_ty21, w_mapc, w_mapn, w_appc, w_appn, w_repc, w_repn, w_start, w_lenc, w_ifT, w_ifF, w_ifFF, w_ifTF, w_nT, w_nF, w_anyT, w_anyF, w_d22, ifSome_some, ifLst_lst, ifTup_tup, ifInt_int, lget, lset, lsets, Nat.reduceSub, Nat.reduceAdd, List.length_nil, ↓reduceIte]
  by_cases hq : 0 < q
  · rw [decide_eq_true hq]
    have sU : Sm 40 (p + q * A) := by have := k1 hq; exact sm_le (by (clear ep ed h hA hA6 hd hQ k1 k2 r1 c40 sp sr sA hq; omega)) (by (clear ep ed h hA hA6 hd hQ k1 k2 r1 c40 sp sr sA hq; omega)) c40
    dsimp only [qS1, qS2, qS3, qS4, qS5, qS7, qS9, qS10, qS11, qS12, qS13, qS14, qE1, qE2, qE5, qE7, qE8, qE9, qE10, qE11, qE12, qE13, qE14, qE15, qE16, qE17, qE18, qE19, qE20, qE21, qE22, qEs1, qEs2, wpAll, qO1, qO2, qI1, qI2, qI3, w_add, w_addl, w_sub, w_mul, w_mull, w_fdiv, w_mod, w_pow, w_lt, w_le, w_gt, w_ge, w_eq, w_ne, w_isn, w_ist, w_isi, w_isl, w_abs, w_lent, w_lenl, w_intb, w_list, w_tuple, w_min, w_idxt0, w_idxt1, w_idxu0, w_idxu1, w_idxu2, w_idxl, w_slcl, w_tb, w_ti, w_tn, w_tt, w_tl, w_itt, w_itl, w_bindT1, w_bindT2, w_srcl, w_srct, w_cut2, w_cut1, w_cut1', w_cut0, w_ty1, w_ty2, w_ty3, w_ty4, w_ty5, w_ty6, w_ty7, w_ty8, w_ty9, w_ty10, w_ty11, w_ty12, w_ty13, w_ty14, w_ty15, w_ty16, w_ty17, w_ty18, w_ty19, w_ty20, w_ty21, w_mapc, w_mapn, w_appc, w_appn, w_repc, w_repn, w_start, w_lenc, w_ifT, w_ifF, w_ifFF, w_ifTF, w_nT, w_nF, w_anyT, w_anyF, w_d22, ifSome_some, ifLst_lst, ifTup_tup, ifInt_int, lget, lset, lsets, Nat.reduceSub, Nat.reduceAdd, List.length_nil, ↓reduceIte]
    refine s_lp ep ed (by (clear ep ed h hA hA6 hd hQ k1 k2 b1 b2 c40 sp sr sA hq sU; omega)) sp sr (by decide) fun p1 q1 l1 e1 => ?_
    refine ⟨IntMulOk.right sA, ?_⟩
    refine s_lp ep ed (by (clear ep ed h hA hA6 hd hQ k1 k2 b1 b2 c40 sp sr sA hq sU l1 e1; omega)) sU sr (by decide) fun p2 q2 l2 e2 => ?_
    exact hQ _ _ _ _ _ _ ⟨hA, hA6, hd, .inl ⟨hq, rfl, rfl⟩, l1, e1, l2, e2⟩
  · rw [decide_eq_false hq]
    have hq' : q < 0 := by have := h.q0; (clear ep ed h hA hA6 hd hQ k1 k2 b1 b2 r1 c40 sp sr sA; omega)
    have sU : Sm 40 (p + q * A) := by have := k2 hq'; exact sm_le (by (clear ep ed h hA hA6 hd hQ k1 k2 r1 c40 sp sr sA hq hq'; omega)) (by (clear ep ed h hA hA6 hd hQ k1 k2 r1 c40 sp sr sA hq hq'; omega)) c40
    refine ⟨IntMulOk.right sA, ?_⟩
    refine s_lp ep ed (by (clear ep ed h hA hA6 hd hQ k1 k2 b1 b2 c40 sp sr sA hq hq' sU; omega)) sU sr (by decide) fun p1 q1 l1 e1 => ?_
    refine s_lp ep ed (by (clear ep ed h hA hA6 hd hQ k1 k2 b1 b2 c40 sp sr sA hq hq' sU l1 e1; omega)) sp sr (by decide) fun p2 q2 l2 e2 => ?_
    exact hQ _ _ _ _ _ _ ⟨hA, hA6, hd, .inr ⟨hq', rfl, rfl⟩, l1, e1, l2, e2⟩
noncomputable def EndsI (H : Hp) (a b c e : V) (n : Nat) (ρ : Loc) (H' : Hp) : Prop := H' = H ∧ ∃ A : Int, (n : Int) + A = 6 ∧ 1 ≤ A ∧ ρ = [some a, some b, some c, some e, some (.int A)]
theorem s_ends (e : P[f]? = some ⟨4, 5, bEnds lp⟩) (ep : P[lp]? = some ⟨2, 3, bPart ld⟩) (ed : P[ld]? = some ⟨2, 3, bDiv⟩) {p q r : Int} {d : Nat} (h : QD p q r d)
    (hQ : ∀ A L U p1 q1 p2 q2, QE p q r d A L U p1 q1 p2 q2 → Q (.tup [pt p1 q1, pt p2 q2]) H) : callN sub P (n + 3) f [.int p, .int q, .int r, .int (d : Int)] H Q X := by
  refine callN_mk e rfl ?_
  have fin : ∀ A, 1 ≤ A → A ≤ 6 → (d : Int) < A * A → wpS sub (callN sub P (n + 2)) (fun m => H.length ≤ m) (tEnds lp) [some (.int p), some (.int q), some (.int r), some (.int (d : Int)), some (.int A)] H (fun _ H' => Q .none H') Q X := fun A h1 h2 h3 => s_ends2 ep ed h h1 h2 h3 fun L U p1 q1 p2 q2 o => hQ A L U p1 q1 p2 q2 o
  dsimp only [bEnds]
  revert fin
  generalize tEnds lp = T
  intro fin
  dsimp only [qS1, qS2, qS3, qS4, qS5, qS7, qS9, qS10, qS11, qS12, qS13, qS14, qE1, qE2, qE5, qE7, qE8, qE9, qE10, qE11, qE12, qE13, qE14, qE15, qE16, qE17, qE18, qE19, qE20, qE21, qE22, qEs1, qEs2, wpAll, qO1, qO2, qI1, qI2, qI3, w_add, w_addl, w_sub, w_mul, w_mull, w_fdiv, w_mod, w_pow, w_lt, w_le, w_gt, w_ge, w_eq, w_ne, w_isn, w_ist, w_isi, w_isl, w_abs, w_lent, w_lenl, w_intb, w_list, w_tuple, w_min, w_idxt0, w_idxt1, w_idxu0, w_idxu1, w_idxu2, w_idxl, w_slcl, w_tb, w_ti, w_tn, w_tt, w_tl, w_itt, w_itl, w_bindT1, w_bindT2, w_srcl, w_srct, w_cut2, w_cut1, w_cut1', w_cut0, w_ty1, w_ty2, w_ty3, w_ty4, w_ty5, w_ty6, w_ty7, w_ty8, w_ty9, w_ty10, w_ty11, w_ty12, w_ty13, w_ty14, w_ty15, w_ty16, w_ty17, w_ty18, w_ty19, w_ty20, w_ty21, w_mapc, w_mapn, w_appc, w_appn, w_repc, w_repn, w_start, w_lenc, w_ifT, w_ifF, w_ifFF, w_ifTF, w_nT, w_nF, w_anyT, w_anyF, w_d22, ifSome_some, ifLst_lst, ifTup_tup, ifInt_int, lget, lset, lsets, Nat.reduceSub, Nat.reduceAdd, List.length_nil, ↓reduceIte]
  refine ⟨fun ρ H' => ∃ n, EndsI H (.int p) (.int q) (.int r) (.int (d : Int)) n ρ H', muI (EndsI H (.int p) (.int q) (.int r) (.int (d : Int))), ⟨5, rfl, 1, rfl, by decide, rfl⟩, ?_⟩
  intro ρ H' hex
  have hI := muI_ok hex
  generalize muI (EndsI H (.int p) (.int q) (.int r) (.int (d : Int))) ρ H' = nn at *
  obtain ⟨rfl, A, hn, hA, rfl⟩ := hI
  dsimp only [cEnds, qS1, qS2, qS3, qS4, qS5, qS7, qS9, qS10, qS11, qS12, qS13, qS14, qE1, qE2, qE5, qE7, qE8, qE9, qE10, qE11, qE12, qE13, qE14, qE15, qE16, qE17, qE18, qE19, qE20, qE21, qE22, qEs1, qEs2, wpAll, qO1, qO2, qI1, qI2, qI3, w_add, w_addl, w_sub, w_mul, w_mull, w_fdiv, w_mod, w_pow, w_lt, w_le, w_gt, w_ge, w_eq, w_ne, w_isn, w_ist, w_isi, w_isl, w_abs, w_lent, w_lenl, w_intb, w_list, w_tuple, w_min, w_idxt0, w_idxt1, w_idxu0, w_idxu1, w_idxu2, w_idxl, w_slcl, w_tb, w_ti, w_tn, w_tt, w_tl, w_itt, w_itl, w_bindT1, w_bindT2, w_srcl, w_srct, w_cut2, w_cut1, w_cut1', w_cut0, w_ty1, w_ty2, w_ty3, w_ty4, w_ty5, w_ty6, w_ty7, w_ty8, w_ty9, w_ty10, w_ty11, w_ty12, w_ty13, w_ty14, w_ty15, w_ty16, w_ty17, w_ty18, w_ty19, w_ty20, w_ty21, w_mapc, w_mapn, w_appc, w_appn, w_repc, w_repn, w_start, w_lenc, w_ifT, w_ifF, w_ifFF, w_ifTF, w_nT, w_nF, w_anyT, w_anyF, w_d22, ifSome_some, ifLst_lst, ifTup_tup, ifInt_int, lget, lset, lsets, Nat.reduceSub, Nat.reduceAdd, List.length_nil, ↓reduceIte]
  have hA6 : A ≤ 6 := by (clear e ep ed h hQ fin hex; omega)
  refine ⟨IntMulOk.left (sm_le (c := 6) (by (clear e ep ed h hQ fin hex hA6; omega)) hA6 (by unfold Sm; decide)), ?_⟩
  by_cases hc : A * A ≤ (d : Int)
  · rw [decide_eq_true hc]
    have hA5 : A ≤ 5 := Int.not_lt.mp fun hl => by
      have := Int.mul_le_mul (show 6 ≤ A by (clear e ep ed h hQ fin hex hA6 hc; omega)) (show 6 ≤ A by (clear e ep ed h hQ fin hex hA6 hc; omega)) (by decide) (by (clear e ep ed h hQ fin hex hA6 hc; omega))
      have := h.d2
      (clear e ep ed h hQ fin hn hA hex hA6 hl; omega)
    dsimp only [lEnds, qS1, qS2, qS3, qS4, qS5, qS7, qS9, qS10, qS11, qS12, qS13, qS14, qE1, qE2, qE5, qE7, qE8, qE9, qE10, qE11, qE12, qE13, qE14, qE15, qE16, qE17, qE18, qE19, qE20, qE21, qE22, qEs1, qEs2, wpAll, qO1, qO2, qI1, qI2, qI3, w_add, w_addl, w_sub, w_mul, w_mull, w_fdiv, w_mod, w_pow, w_lt, w_le, w_gt, w_ge, w_eq, w_ne, w_isn, w_ist, w_isi, w_isl, w_abs, w_lent, w_lenl, w_intb, w_list, w_tuple, w_min, w_idxt0, w_idxt1, w_idxu0, w_idxu1, w_idxu2, w_idxl, w_slcl, w_tb, w_ti, w_tn, w_tt, w_tl, w_itt, w_itl, w_bindT1, w_bindT2, w_srcl, w_srct, w_cut2, w_cut1, w_cut1', w_cut0, w_ty1, w_ty2, w_ty3, w_ty4, w_ty5, w_ty6, w_ty7, w_ty8, w_ty9, w_ty10, w_ty11, w_ty12, w_ty13, w_ty14, w_ty15, w_ty16, w_ty17, w_ty18, w_ty19, w_ty20, w_ty21, w_mapc, w_mapn, w_appc, w_appn, w_repc, w_repn, w_start, w_lenc, w_ifT, w_ifF, w_ifFF, w_ifTF, w_nT, w_nF, w_anyT, w_anyF, w_d22, ifSome_some, ifLst_lst, ifTup_tup, ifInt_int, lget, lset, lsets, Nat.reduceSub, Nat.reduceAdd, List.length_nil, ↓reduceIte]
    have hN : EndsI H' (.int p) (.int q) (.int r) (.int (d : Int)) (nn - 1) [some (.int p), some (.int q), some (.int r), some (.int (d : Int)), some (.int (A + 1))] H' := ⟨rfl, A + 1, by (clear e ep ed h hQ fin hex hA6 hc; omega), by (clear e ep ed h hQ fin hex hA6 hc; omega), rfl⟩
    exact ⟨⟨_, hN⟩, Nat.lt_of_le_of_lt (muI_le hN) (by (clear e ep ed h hQ fin hex hA6 hc hN; omega))⟩
  · rw [decide_eq_false hc]
    exact fin A hA hA6 (Int.not_le.mp hc)
noncomputable def bQPeg (en sm : Nat) : PS := (.seq (.assign 4 (.call en (.cons (.var 0) (.cons (.var 1) (.cons (.var 2) (.cons (.var 3) .nil))))))
 (.seq (.ret (.tup (.cons (.bi .tuple (.cons (.call sm (.cons (.lst (.cons (.bin .sub (.bin .mul (.var 0) (.var 0)) (.bin .mul (.bin .mul (.var 1) (.var 1)) (.var 3))) (.cons (.bin .mul (.bin .mul (.neg (.cint 2)) (.var 0)) (.var 2)) (.cons (.bin .mul (.var 2) (.var 2)) .nil)))) .nil)) .nil)) (.cons (.idx (.var 4) (.cint 0)) (.cons (.idx (.var 4) (.cint 1)) .nil)))))
 .skip))
theorem QD.sm64 {p q r : Int} {d : Nat} (h : QD p q r d) : Sm 64 p ∧ Sm 64 q ∧ Sm 64 r ∧ Sm 64 (d : Int) := by
  have c6 : Sm 64 (1000000 : Int) := by unfold Sm; decide
  have b1 := h.p1
  have b2 := h.p2
  have q0 := h.q0
  have d2 := h.d2
  have r1 := h.r1
  have r2 := h.r2
  exact ⟨sm_le b1 b2 c6, sm_le (by (clear h c6 b1 b2 d2 r1 r2; omega)) (by (clear h c6 b1 b2 d2 r1 r2; omega)) c6, sm_le (by (clear h c6 b1 b2 q0 d2; omega)) (by (clear h c6 b1 b2 q0 d2; omega)) c6, sm_le (by (clear h c6 b1 b2 q0 r1 r2; omega)) (by (clear h c6 b1 b2 q0 r1 r2; omega)) c6⟩
theorem QD.row_sm {p q r : Int} {d : Nat} (h : QD p q r d) : AllSm 60 [p * p - q * q * d, -2 * p * r, r * r] := by
  have b1 := h.p1
  have b2 := h.p2
  have r1 := h.r1
  have r2 := h.r2
  have d2 := h.d2
  have q0 := h.q0
  have sp : Sm 20 p := by unfold Sm; have : (2 : Nat) ^ 20 = 1048576 := by decide
                          (clear h r1 r2 d2 q0 this; omega)
  have sq : Sm 4 q := by unfold Sm; (clear h b1 b2 r1 r2 d2 sp; omega)
  have sr : Sm 4 r := by unfold Sm; (clear h b1 b2 d2 q0 sp sq; omega)
  have sd : Sm 5 (d : Int) := by unfold Sm; (clear h b1 b2 r1 r2 q0 sp sq sr; omega)
  have s2 : Sm 2 (-2 : Int) := by unfold Sm; decide
  exact .cons ((Sm.sub ((sp.mul sp).mono (show 20 + 20 ≤ 50 by decide)) (((sq.mul sq).mul sd).mono (by decide))).mono (by decide)) (.cons (((s2.mul sp).mul sr).mono (by decide)) (.cons ((sr.mul sr).mono (by decide)) .nil))
theorem ngL_ok {Φ : Call} (g : Int) (ρ : Loc) (H' : Hp) (Z : V → Hp → Prop) (hg : lget ρ 1 = some (.int g)) (hz : Z (.int (-g)) H') : wpE sub Φ ngL ρ H' Z := by
  dsimp only [ngL, qE1, qE2, qE5, qE7, qE8, qE9, qE10, qE11, qE12, qE13, qE14, qE15, qE16, qE17, qE18, qE19, qE20, qE21, qE22]
  refine ifSome.mk hg ?_
  show Z (.int (0 - g)) H'
  rw [Int.zero_sub]; exact hz
theorem s_qpeg (e : P[f]? = some ⟨4, 5, bQPeg en sm⟩) (ee : P[en]? = some ⟨4, 5, bEnds lp⟩) (ep : P[lp]? = some ⟨2, 3, bPart ld⟩) (ed : P[ld]? = some ⟨2, 3, bDiv⟩) (es : P[sm]? = some ⟨1, 3, bRed ld ngL⟩) {p q r : Int} {d : Nat} (h : QD p q r d)
    (hQ : ∀ H' row g A L U p1 q1 p2 q2, H <+: H' → QP p q r d row g A L U p1 q1 p2 q2 → Q (pvv row p1 q1 p2 q2) H') : callN sub P (n + 4) f [.int p, .int q, .int r, .int (d : Int)] H Q X := by
  refine callN_mk e rfl ?_
  dsimp only [bQPeg, qS1, qS2, qS3, qS4, qS5, qS7, qS9, qS10, qS11, qS12, qS13, qS14, qE1, qE2, qE5, qE7, qE8, qE9, qE10, qE11, qE12, qE13, qE14, qE15, qE16, qE17, qE18, qE19, qE20, qE21, qE22, qEs1, qEs2, wpAll, qO1, qO2, qI1, qI2, qI3, w_add, w_addl, w_sub, w_mul, w_mull, w_fdiv, w_mod, w_pow, w_lt, w_le, w_gt, w_ge, w_eq, w_ne, w_isn, w_ist, w_isi, w_isl, w_abs, w_lent, w_lenl, w_intb, w_list, w_tuple, w_min, w_idxt0, w_idxt1, w_idxu0, w_idxu1, w_idxu2, w_idxl, w_slcl, w_tb, w_ti, w_tn, w_tt, w_tl, w_itt, w_itl, w_bindT1, w_bindT2, w_srcl, w_srct, w_cut2, w_cut1, w_cut1', w_cut0, w_ty1, w_ty2, w_ty3, w_ty4, w_ty5, w_ty6, w_ty7, w_ty8, w_ty9, w_ty10, w_ty11, w_ty12, w_ty13, w_ty14, w_ty15, w_ty16, w_ty17, w_ty18, w_ty19, w_ty20, w_ty21, w_mapc, w_mapn, w_appc, w_appn, w_repc, w_repn, w_start, w_lenc, w_ifT, w_ifF, w_ifFF, w_ifTF, w_nT, w_nF, w_anyT, w_anyF, w_d22, ifSome_some, ifLst_lst, ifTup_tup, ifInt_int, lget, lset, lsets, Nat.reduceSub, Nat.reduceAdd, List.length_nil, ↓reduceIte]
  refine s_ends ee ep ed h fun A L U p1 q1 p2 q2 qe => ?_
  obtain ⟨sp, sq, sr, sd⟩ := h.sm64
  have r1 := h.r1
  refine ⟨IntMulOk.left sp, IntMulOk.left sq, IntMulOk.right sd, IntMulOk.right sp, IntMulOk.right sr, IntMulOk.left sr, ?_⟩
  have hl : [p * p - q * q * (d : Int), -2 * p * r, r * r].getLast? = some (r * r) := rfl
  have hr0 : r * r ≠ 0 := Int.mul_ne_zero (by (clear e ee ep ed es h hQ qe sp sq sr sd hl; omega)) (by (clear e ee ep ed es h hQ qe sp sq sr sd hl; omega))
  have hmem := List.mem_of_getLast? hl
  refine s_red (n := n + 2) (ng := ngL) ngL_ok es (fun a b H' Z X' hz => s_div ed hz) (v := .lst H.length) (row := [p * p - q * q * (d : Int), -2 * p * r, r * r]) (getApp _ _ _) hl hr0 (by simp) ?_
  dsimp only [qS1, qS2, qS3, qS4, qS5, qS7, qS9, qS10, qS11, qS12, qS13, qS14, qE1, qE2, qE5, qE7, qE8, qE9, qE10, qE11, qE12, qE13, qE14, qE15, qE16, qE17, qE18, qE19, qE20, qE21, qE22, qEs1, qEs2, wpAll, qO1, qO2, qI1, qI2, qI3, w_add, w_addl, w_sub, w_mul, w_mull, w_fdiv, w_mod, w_pow, w_lt, w_le, w_gt, w_ge, w_eq, w_ne, w_isn, w_ist, w_isi, w_isl, w_abs, w_lent, w_lenl, w_intb, w_list, w_tuple, w_min, w_idxt0, w_idxt1, w_idxu0, w_idxu1, w_idxu2, w_idxl, w_slcl, w_tb, w_ti, w_tn, w_tt, w_tl, w_itt, w_itl, w_bindT1, w_bindT2, w_srcl, w_srct, w_cut2, w_cut1, w_cut1', w_cut0, w_ty1, w_ty2, w_ty3, w_ty4, w_ty5, w_ty6, w_ty7, w_ty8, w_ty9, w_ty10, w_ty11, w_ty12, w_ty13, w_ty14, w_ty15, w_ty16, w_ty17, w_ty18, w_ty19, w_ty20, w_ty21, w_mapc, w_mapn, w_appc, w_appn, w_repc, w_repn, w_start, w_lenc, w_ifT, w_ifF, w_ifFF, w_ifTF, w_nT, w_nF, w_anyT, w_anyF, w_d22, ifSome_some, ifLst_lst, ifTup_tup, ifInt_int, lget, lset, lsets, Nat.reduceSub, Nat.reduceAdd, List.length_nil, ↓reduceIte]
  refine ifSome.mk (getApp _ _ _) ?_
  exact hQ _ _ _ A L U _ _ _ _ (preTrans (preApp _ _) (preApp _ _)) ⟨h, qe, gOf_ne hmem hr0, redI_smul, tr_red hl hr0, redI_sm hmem hr0 h.row_sm⟩
end
end Mine

set_option autoImplicit false
set_option linter.unusedVariables false
set_option linter.unusedSimpArgs false
set_option maxRecDepth 100000
namespace Mine
open PySem
open Re
theorem sm26 {x : Int} (h : Sm 26 x) : -67108864 ≤ x ∧ x ≤ 67108864 := by
  have : (2 : Nat) ^ 26 = 67108864 := by decide
  unfold Sm at h; (clear this; omega)
theorem part_pd {l : Nat} {p q p1 q1 p2 q2 : Int} (h : Low 26 p q) (l1 : Low l p1 q1) (e1 : p1 * q = (p - q) * q1) (l2 : Low l p2 q2) (e2 : p2 * q = (p + q) * q2) :
    PD [-p, q] q (rq p q) (rq (p - q) q) (rq (p + q) q) p1 q1 p2 q2 0 := by
  have h0 := h.pos
  have hp := sm26 h.top
  have hq := sm26 h.bot
  exact mk_pd (part_rp h0) (Tr.cons (Tr.one (Int.ne_of_gt h0))) (by simp) (.cons (h.top.neg.mono (by decide)) (.cons (h.bot.mono (by decide)) .nil)) h0 (by (clear h l1 e1 l2 e2 hp; omega)) (by (clear h l1 e1 l2 e2; omega)) (by (clear h l1 e1 l2 e2 hp; omega)) (by (clear h l1 e1 l2 e2; omega)) (by (clear h l1 e1 l2 e2 hp; omega)) l1 e1 l2 e2
/-- a part as a peg, the stretch seen from nearer numbers -/
theorem part_pd' {k l : Nat} {p q p1 q1 p2 q2 : Int} (h : Low k p q) (hk : k ≤ 200) (hq : q ≤ 1073741824) (b : ∃ m : Int, -1000000000 ≤ m ∧ m ≤ 1000000000 ∧ (m : Re) ≤ rq p q ∧ rq p q ≤ ((m + 1 : Int) : Re)) (l1 : Low l p1 q1) (e1 : p1 * q = (p - q) * q1) (l2 : Low l p2 q2) (e2 : p2 * q = (p + q) * q2) :
    PD [-p, q] q (rq p q) (rq (p - q) q) (rq (p + q) q) p1 q1 p2 q2 0 := by
  have r0 := h.pos
  have hL := rq_mul (p := p - q) (Int.ne_of_gt r0)
  have hU := rq_mul (p := p + q) (Int.ne_of_gt r0)
  have hM := rq_mul (p := p) (Int.ne_of_gt r0)
  have e0 : q * 8 ^ 0 = q := by rw [Int.pow_zero, Int.mul_one]
  have one : ((2 ^ 0 : Int) : Re) = 1 := rfl
  have one' : ((1 : Int) : Re) = 1 := rfl
  have dL : rq (p - q) q = rq p q - 1 := rcan (ic_pne r0) (by rw [hL, ic_sub, ← hM]; grind)
  have dU : rq (p + q) q = rq p q + 1 := rcan (ic_pne r0) (by rw [hU, ic_add, ← hM]; grind)
  obtain ⟨m, m1, m2, m3, m4⟩ := b
  refine ⟨part_rp r0, Tr.cons (Tr.one (Int.ne_of_gt r0)), by simp, .cons (h.top.neg.mono hk) (.cons (h.bot.mono hk) .nil), r0, hq, ⟨l1.pos, l1.one, rq_of r0 e1, p - q, by rw [e0]; exact hL⟩, ⟨l2.pos, l2.one, rq_of r0 e2, p + q, by rw [e0]; exact hU⟩, ?_, ?_, ?_⟩
  · rw [one, dL, dU]
    have := ic_le (show (1 + 1 : Int) ≤ 64 by decide)
    rw [ic_add, one'] at this
    generalize ((64 : Int) : Re) = z at *
    clear hL hU hM m3 m4 dL dU; grind
  · rw [dL]
    have := ic_le (show (-1073741824 : Int) ≤ m - 1 by (clear h hk hq l1 e1 l2 e2 r0 hL hU hM e0 one one' dL dU m3 m4; omega))
    rw [ic_sub, ic_neg, one'] at this
    clear hL hU hM m4 dL dU; grind
  · rw [dU]
    have := ic_le (show (m + 1 + 1 : Int) ≤ 1073741824 by (clear h hk hq l1 e1 l2 e2 r0 hL hU hM e0 one one' dL dU m3 m4; omega))
    rw [ic_add _ 1, one'] at this
    clear hL hU hM m3 dL dU; grind
section
variable {sub : Nat → Nat → Bool} {P : List Fn} {f n ce qu lp dv ld en sm sg be ps pr ta pa by_ wh : Nat} {H : Hp} {Q : V → Hp → Prop} {X : Nat → Hp → Prop}
noncomputable def bOther (by_ : Nat) : PS := (.seq (.assign 2 (.bin .add (.bin .pow (.cint 10) (.cint 8)) (.bin .mod (.var 1) (.cint 1000))))
 (.seq (.ret (.tup (.cons (.bi .tuple (.cons (.call by_ (.cons (.bi .list (.cons (.idx (.var 0) (.cint 0)) .nil)) (.cons (.lst (.cons (.bin .mul (.var 2) (.bin .sub (.cint 1) (.bin .mul (.cint 2) (.bin .mod (.var 1) (.cint 2))))) (.cons (.cint 1) .nil))) .nil))) .nil)) (.cons (.idx (.var 0) (.cint 1)) (.cons (.idx (.var 0) (.cint 2)) .nil)))))
 .skip))
theorem s_other (e : P[f]? = some ⟨2, 3, bOther by_⟩) (eb : P[by_]? = some ⟨2, 5, bBy⟩) {row : List Int} {p1 q1 p2 q2 t : Int} (hl : row.length = 3) (sm : AllSm 60 row)
    (hQ : ∀ H' f, H <+: H' → (f ≤ -100000000 ∨ 100000000 ≤ f) → Sm 40 f → Q (pvv (mulP row [f, 1]) p1 q1 p2 q2) H') : callN sub P (n + 2) f [pvv row p1 q1 p2 q2, .int t] H Q X := by
  refine callN_mk e rfl ?_
  dsimp only [bOther, qS1, qS2, qS3, qS4, qS5, qS7, qS9, qS10, qS11, qS12, qS13, qS14, qE1, qE2, qE5, qE7, qE8, qE9, qE10, qE11, qE12, qE13, qE14, qE15, qE16, qE17, qE18, qE19, qE20, qE21, qE22, qEs1, qEs2, wpAll, qO1, qO2, qI1, qI2, qI3, w_add, w_addl, w_sub, w_mul, w_mull, w_fdiv, w_mod, w_pow, w_lt, w_le, w_gt, w_ge, w_eq, w_ne, w_isn, w_ist, w_isi, w_isl, w_abs, w_lent, w_lenl, w_intb, w_list, w_tuple, w_min, w_idxt0, w_idxt1, w_idxu0, w_idxu1, w_idxu2, w_idxl, w_slcl, w_tb, w_ti, w_tn, w_tt, w_tl, w_itt, w_itl, w_bindT1, w_bindT2, w_srcl, w_srct, w_cut2, w_cut1, w_cut1', w_cut0, w_ty1, w_ty2, w_ty3, w_ty4, w_ty5, w_ty6, w_ty7, w_ty8, w_ty9, w_ty10, w_ty11, w_ty12, w_ty13, w_ty14, w_ty15, w_ty16, w_ty17, w_ty18, w_ty19, w_ty20, w_ty21, w_mapc, w_mapn, w_appc, w_appn, w_repc, w_repn, w_start, w_lenc, w_ifT, w_ifF, w_ifFF, w_ifTF, w_nT, w_nF, w_anyT, w_anyF, w_d22, ifSome_some, ifLst_lst, ifTup_tup, ifInt_int, lget, lset, lsets, Nat.reduceSub, Nat.reduceAdd, List.length_nil, ↓reduceIte]
  refine ⟨by decide, by decide, by decide, by decide, ?_⟩
  have h1 := fm (x := t) (b := 1000) (by decide)
  have h2 := fm (x := t) (b := 2) (by decide)
  generalize t.fmod 1000 = u at *
  have e8 : (10 : Int) ^ (8 : Int).toNat = 100000000 := rfl
  rw [e8]
  refine ⟨by decide, IntMulOk.left (show Sm 64 2 by unfold Sm; decide), ?_⟩
  generalize t.fmod 2 = b at *
  have hb : b = 0 ∨ b = 1 := by (clear e eb hl sm hQ h1 e8; omega)
  have e40 : (2 : Nat) ^ 40 = 1099511627776 := by decide
  have hf : ((100000000 + u) * (1 - 2 * b) ≤ -100000000 ∨ 100000000 ≤ (100000000 + u) * (1 - 2 * b)) ∧ Sm 40 ((100000000 + u) * (1 - 2 * b)) := by
    rcases hb with rfl | rfl
    · exact ⟨.inr (by (clear e eb hl sm hQ e8 e40 h2; omega)), by unfold Sm; (clear e eb hl sm hQ e8 e40 h2; omega)⟩
    · exact ⟨.inl (by (clear e eb hl sm hQ e8 e40 h2; omega)), by unfold Sm; (clear e eb hl sm hQ e8 e40 h2; omega)⟩
  refine ⟨IntMulOk.right (by unfold Sm; have : (2 : Nat) ^ 64 = 18446744073709551616 := by decide
                             (clear e eb hl sm hQ h1 e8 hb e40 hf this; omega)), ?_⟩
  generalize (100000000 + u) * (1 - 2 * b) = g at *
  have g1 : (H ++ [row.map V.int] ++ [[V.int g, V.int 1]])[H.length]? = some (row.map .int) := getKeep (preApp _ _) (getApp _ _ _)
  have g2 : (H ++ [row.map V.int] ++ [[V.int g, V.int 1]])[(H ++ [row.map V.int]).length]? = some ([g, 1].map .int) := getApp _ _ _
  refine s_byG eb g1 g2 (by intro h; rw [h] at hl; cases hl) (by simp) (by rw [hl]; simp) (fun x hx y hy => ?_) ?_
  · have sx := sm x hx
    exact IntMulOk.left (sx.mono (by decide))
  · dsimp only [qS1, qS2, qS3, qS4, qS5, qS7, qS9, qS10, qS11, qS12, qS13, qS14, qE1, qE2, qE5, qE7, qE8, qE9, qE10, qE11, qE12, qE13, qE14, qE15, qE16, qE17, qE18, qE19, qE20, qE21, qE22, qEs1, qEs2, wpAll, qO1, qO2, qI1, qI2, qI3, w_add, w_addl, w_sub, w_mul, w_mull, w_fdiv, w_mod, w_pow, w_lt, w_le, w_gt, w_ge, w_eq, w_ne, w_isn, w_ist, w_isi, w_isl, w_abs, w_lent, w_lenl, w_intb, w_list, w_tuple, w_min, w_idxt0, w_idxt1, w_idxu0, w_idxu1, w_idxu2, w_idxl, w_slcl, w_tb, w_ti, w_tn, w_tt, w_tl, w_itt, w_itl, w_bindT1, w_bindT2, w_srcl, w_srct, w_cut2, w_cut1, w_cut1', w_cut0, w_ty1, w_ty2, w_ty3, w_ty4, w_ty5, w_ty6, w_ty7, w_ty8, w_ty9, w_ty10, w_ty11, w_ty12, w_ty13, w_ty14, w_ty15, w_ty16, w_ty17, w_ty18, w_ty19, w_ty20, w_ty21, w_mapc, w_mapn, w_appc, w_appn, w_repc, w_repn, w_start, w_lenc, w_ifT, w_ifF, w_ifFF, w_ifTF, w_nT, w_nF, w_anyT, w_anyF, w_d22, ifSome_some, ifLst_lst, ifTup_tup, ifInt_int, lget, lset, lsets, Nat.reduceSub, Nat.reduceAdd, List.length_nil, ↓reduceIte]
    refine ifSome.mk (getApp _ _ _) ?_
    exact hQ _ g (preTrans (preTrans (preApp _ _) (preApp _ _)) (preApp _ _)) hf.1 hf.2
noncomputable def bOfp (ps : Nat) : PS := (.seq (.ret (.tup (.cons (.tup (.cons (.neg (.idx (.var 0) (.cint 0))) (.cons (.idx (.var 0) (.cint 1)) .nil))) (.cons (.call ps (.cons (.var 0) (.cons (.tup (.cons (.neg (.cint 1)) (.cons (.cint 1) .nil))) .nil))) (.cons (.call ps (.cons (.var 0) (.cons (.tup (.cons (.cint 1) (.cons (.cint 1) .nil))) .nil))) .nil)))))
 .skip)
theorem s_ofp (e : P[f]? = some ⟨1, 1, bOfp ps⟩) (es : P[ps]? = some ⟨2, 2, bPSum pa⟩) (ep : P[pa]? = some ⟨2, 3, bPPart dv⟩) (ed : P[dv]? = some ⟨2, 3, bPDiv⟩) {p q : Int} {k : Nat} (h : Low k p q) (hk : k ≤ 200)
    (hQ : ∀ p1 q1 p2 q2, Low (k + 3) p1 q1 → p1 * q = (p - q) * q1 → Low (k + 3) p2 q2 → p2 * q = (p + q) * q2 → Q (pvv [-p, q] p1 q1 p2 q2) H) : callN sub P (n + 4) f [pt p q] H Q X := by
  refine callN_mk e rfl ?_
  dsimp only [bOfp, qS1, qS2, qS3, qS4, qS5, qS7, qS9, qS10, qS11, qS12, qS13, qS14, qE1, qE2, qE5, qE7, qE8, qE9, qE10, qE11, qE12, qE13, qE14, qE15, qE16, qE17, qE18, qE19, qE20, qE21, qE22, qEs1, qEs2, wpAll, qO1, qO2, qI1, qI2, qI3, w_add, w_addl, w_sub, w_mul, w_mull, w_fdiv, w_mod, w_pow, w_lt, w_le, w_gt, w_ge, w_eq, w_ne, w_isn, w_ist, w_isi, w_isl, w_abs, w_lent, w_lenl, w_intb, w_list, w_tuple, w_min, w_idxt0, w_idxt1, w_idxu0, w_idxu1, w_idxu2, w_idxl, w_slcl, w_tb, w_ti, w_tn, w_tt, w_tl, w_itt, w_itl, w_bindT1, w_bindT2, w_srcl, w_srct, w_cut2, w_cut1, w_cut1', w_cut0, w_ty1, w_ty2, w_ty3, w_ty4, w_ty5, w_ty6, w_ty7, w_ty8, w_ty9, w_ty10, w_ty11, w_ty12, w_ty13, w_ty14, w_ty15, w_ty16, w_ty17, w_ty18, w_ty19, w_ty20, w_ty21, w_mapc, w_mapn, w_appc, w_appn, w_repc, w_repn, w_start, w_lenc, w_ifT, w_ifF, w_ifFF, w_ifTF, w_nT, w_nF, w_anyT, w_anyF, w_d22, ifSome_some, ifLst_lst, ifTup_tup, ifInt_int, lget, lset, lsets, Nat.reduceSub, Nat.reduceAdd, List.length_nil, ↓reduceIte]
  have m1 : Low 2 (-1) 1 := ⟨by unfold Sm; decide, by unfold Sm; decide, by decide, by decide⟩
  have m2 : Low 2 1 1 := ⟨by unfold Sm; decide, by unfold Sm; decide, by decide, by decide⟩
  refine s_ps es ep ed h m1 (by (clear e es ep ed h hQ m1 m2; omega)) fun p1 q1 l1 e1 => ?_
  refine s_ps es ep ed h m2 (by (clear e es ep ed h hQ m1 m2 l1 e1; omega)) fun p2 q2 l2 e2 => ?_
  exact hQ _ _ _ _ l1 (by rw [Int.mul_one] at e1; rw [e1]; grind) l2 (by rw [Int.mul_one] at e2; rw [e2]; grind)
noncomputable def tSgp2 (sg : Nat) : PS := (.seq (.ite (.cmp .eq (.call sg (.cons (.var 1) (.cons (.var 2) .nil))) (.call sg (.cons (.var 1) (.cons (.tup (.cons (.cint 0) (.cons (.cint 1) .nil))) .nil)))) (.seq (.ret (.cint 1))
 .skip) .skip)
 (.seq (.ret (.neg (.cint 1)))
 .skip))
noncomputable def tSgp3 (sg : Nat) : PS := (.seq (.ite (.cmp .eq (.idx (.var 1) (.cint 0)) (.cint 0)) (.seq (.ret (.cint 0))
 .skip) .skip)
 (tSgp2 sg))
noncomputable def tSgp4 (sg : Nat) : PS := (.seq (.ite (.cmp .le (.idx (.var 3) (.cint 0)) (.cint 0)) (.seq (.ret (.neg (.cint 1)))
 .skip) .skip)
 (tSgp3 sg))
noncomputable def bSgp (sg : Nat) : PS := (.seq (.unpack [1, 2, 3] (.var 0))
 (.seq (.ite (.cmp .ge (.idx (.var 2) (.cint 0)) (.cint 0)) (.seq (.ret (.cint 1))
 .skip) .skip)
 (tSgp4 sg)))
theorem evR_at0 (c : Int) (xs : List Int) : evR (c :: xs) 0 = c := by rw [evR]; grind
theorem s_sgp3 (eg : P[sg]? = some ⟨2, 5, bSign⟩) {W : Nat → Prop} {NN : Loc → Hp → Prop} {R : V → Hp → Prop} {Y : Nat → Hp → Prop} {row : List Int} {N : Int} {al lo hi : Re} {p1 q1 p2 q2 : Int} {o : V} (h : PD row N al lo hi p1 q1 p2 q2 0) (h1 : lo < 0) (h2 : 0 < hi)
    (hQ : R (.int (rsg al)) H) :
    wpS sub (callN sub P (n + 1)) W (tSgp3 sg) [some o, some (.tup (row.map .int)), some (pt p1 q1), some (pt p2 q2)] H NN R Y := by
  obtain ⟨g1, g2⟩ := mid_sg h.rp h1 h2
  cases hrow : row with
  | nil => exact absurd hrow h.tr.ne
  | cons c xs =>
    have e0 : evR row 0 = c := by rw [hrow]; exact evR_at0 c xs
    have hlen : ((c :: xs).map V.int).length = xs.length + 1 := by simp
    have L1 := h.low1 (by decide)
    have n4 := h.ln
    rw [e0] at g1 g2
    have fin : c ≠ 0 → wpS sub (callN sub P (n + 1)) W (tSgp2 sg) [some o, some (.tup ((c :: xs).map .int)), some (pt p1 q1), some (pt p2 q2)] H NN R Y := fun hc => by
      rw [← hrow]
      dsimp only [tSgp2, qS1, qS2, qS3, qS4, qS5, qS7, qS9, qS10, qS11, qS12, qS13, qS14, qE1, qE2, qE5, qE7, qE8, qE9, qE10, qE11, qE12, qE13, qE14, qE15, qE16, qE17, qE18, qE19, qE20, qE21, qE22, qEs1, qEs2, wpAll, qO1, qO2, qI1, qI2, qI3, w_add, w_addl, w_sub, w_mul, w_mull, w_fdiv, w_mod, w_pow, w_lt, w_le, w_gt, w_ge, w_eq, w_ne, w_isn, w_ist, w_isi, w_isl, w_abs, w_lent, w_lenl, w_intb, w_list, w_tuple, w_min, w_idxt0, w_idxt1, w_idxu0, w_idxu1, w_idxu2, w_idxl, w_slcl, w_tb, w_ti, w_tn, w_tt, w_tl, w_itt, w_itl, w_bindT1, w_bindT2, w_srcl, w_srct, w_cut2, w_cut1, w_cut1', w_cut0, w_ty1, w_ty2, w_ty3, w_ty4, w_ty5, w_ty6, w_ty7, w_ty8, w_ty9, w_ty10, w_ty11, w_ty12, w_ty13, w_ty14, w_ty15, w_ty16, w_ty17, w_ty18, w_ty19, w_ty20, w_ty21, w_mapc, w_mapn, w_appc, w_appn, w_repc, w_repn, w_start, w_lenc, w_ifT, w_ifF, w_ifFF, w_ifTF, w_nT, w_nF, w_anyT, w_anyF, w_d22, ifSome_some, ifLst_lst, ifTup_tup, ifInt_int, lget, lset, lsets, Nat.reduceSub, Nat.reduceAdd, List.length_nil, ↓reduceIte]
      refine s_sign eg (v := .tup (row.map .int)) rfl h.sm L1.top L1.bot (nine_lt n4) ?_
      refine s_sign eg (v := .tup (row.map .int)) rfl h.sm (L := 600) Sm.zero Sm.one (nine_lt n4) ?_
      have z0 : ((1 : Int) : Re) * 0 = ((0 : Int) : Re) := by rw [ic_zero]; grind
      rw [sgn_ev h.tr.ne L1.pos h.a1.val, sgn_ev h.tr.ne (by decide) z0, e0]
      dsimp only [qS1, qS2, qS3, qS4, qS5, qS7, qS9, qS10, qS11, qS12, qS13, qS14, qE1, qE2, qE5, qE7, qE8, qE9, qE10, qE11, qE12, qE13, qE14, qE15, qE16, qE17, qE18, qE19, qE20, qE21, qE22, qEs1, qEs2, wpAll, qO1, qO2, qI1, qI2, qI3, w_add, w_addl, w_sub, w_mul, w_mull, w_fdiv, w_mod, w_pow, w_lt, w_le, w_gt, w_ge, w_eq, w_ne, w_isn, w_ist, w_isi, w_isl, w_abs, w_lent, w_lenl, w_intb, w_list, w_tuple, w_min, w_idxt0, w_idxt1, w_idxu0, w_idxu1, w_idxu2, w_idxl, w_slcl, w_tb, w_ti, w_tn, w_tt, w_tl, w_itt, w_itl, w_bindT1, w_bindT2, w_srcl, w_srct, w_cut2, w_cut1, w_cut1', w_cut0, w_ty1, w_ty2, w_ty3, w_ty4, w_ty5, w_ty6, w_ty7, w_ty8, w_ty9, w_ty10, w_ty11, w_ty12, w_ty13, w_ty14, w_ty15, w_ty16, w_ty17, w_ty18, w_ty19, w_ty20, w_ty21, w_mapc, w_mapn, w_appc, w_appn, w_repc, w_repn, w_start, w_lenc, w_ifT, w_ifF, w_ifFF, w_ifTF, w_nT, w_nF, w_anyT, w_anyF, w_d22, ifSome_some, ifLst_lst, ifTup_tup, ifInt_int, lget, lset, lsets, Nat.reduceSub, Nat.reduceAdd, List.length_nil, ↓reduceIte]
      by_cases hs : rsg (evR row lo) = rsg (c : Re)
      · rw [decide_eq_true hs]
        have := g2.mp hs.symm
        rw [rsg_pos this] at hQ
        exact hQ
      · rw [decide_eq_false hs]
        have n1 : ¬ 0 < al := fun h => hs (g2.mpr h).symm
        have n2 : ¬ (0 : Re) = al := fun h => by
          have := g1.mpr h
          rw [rsg_int] at this
          unfold Mine.sg at this
          split at this
          · exact absurd this (by decide)
          · split at this
            · exact absurd this (by decide)
            · (clear eg h1 h2 hQ g2 g1 hrow e0 hlen L1 n4 z0 n1 h this; omega)
        rw [rsg_neg (x := al) (by grind)] at hQ
        exact hQ
    dsimp only [tSgp3]
    revert fin
    generalize tSgp2 sg = T
    intro fin
    dsimp only [qS1, qS2, qS3, qS4, qS5, qS7, qS9, qS10, qS11, qS12, qS13, qS14, qE1, qE2, qE5, qE7, qE8, qE9, qE10, qE11, qE12, qE13, qE14, qE15, qE16, qE17, qE18, qE19, qE20, qE21, qE22, qEs1, qEs2, wpAll, qO1, qO2, qI1, qI2, qI3, w_add, w_addl, w_sub, w_mul, w_mull, w_fdiv, w_mod, w_pow, w_lt, w_le, w_gt, w_ge, w_eq, w_ne, w_isn, w_ist, w_isi, w_isl, w_abs, w_lent, w_lenl, w_intb, w_list, w_tuple, w_min, w_idxt0, w_idxt1, w_idxu0, w_idxu1, w_idxu2, w_idxl, w_slcl, w_tb, w_ti, w_tn, w_tt, w_tl, w_itt, w_itl, w_bindT1, w_bindT2, w_srcl, w_srct, w_cut2, w_cut1, w_cut1', w_cut0, w_ty1, w_ty2, w_ty3, w_ty4, w_ty5, w_ty6, w_ty7, w_ty8, w_ty9, w_ty10, w_ty11, w_ty12, w_ty13, w_ty14, w_ty15, w_ty16, w_ty17, w_ty18, w_ty19, w_ty20, w_ty21, w_mapc, w_mapn, w_appc, w_appn, w_repc, w_repn, w_start, w_lenc, w_ifT, w_ifF, w_ifFF, w_ifTF, w_nT, w_nF, w_anyT, w_anyF, w_d22, ifSome_some, ifLst_lst, ifTup_tup, ifInt_int, lget, lset, lsets, Nat.reduceSub, Nat.reduceAdd, List.length_nil, ↓reduceIte, w_idxg]
    refine ifSome.mk (v := 0) (show place _ ((0 : Nat) : Int) = some 0 from place_nat (by rw [hlen]; (clear eg h h1 h2 hQ g2 g1 hrow e0 hlen L1 n4 fin; omega))) ?_
    refine ifSome.mk (v := .int c) rfl ?_
    dsimp only [qS1, qS2, qS3, qS4, qS5, qS7, qS9, qS10, qS11, qS12, qS13, qS14, qE1, qE2, qE5, qE7, qE8, qE9, qE10, qE11, qE12, qE13, qE14, qE15, qE16, qE17, qE18, qE19, qE20, qE21, qE22, qEs1, qEs2, wpAll, qO1, qO2, qI1, qI2, qI3, w_add, w_addl, w_sub, w_mul, w_mull, w_fdiv, w_mod, w_pow, w_lt, w_le, w_gt, w_ge, w_eq, w_ne, w_isn, w_ist, w_isi, w_isl, w_abs, w_lent, w_lenl, w_intb, w_list, w_tuple, w_min, w_idxt0, w_idxt1, w_idxu0, w_idxu1, w_idxu2, w_idxl, w_slcl, w_tb, w_ti, w_tn, w_tt, w_tl, w_itt, w_itl, w_bindT1, w_bindT2, w_srcl, w_srct, w_cut2, w_cut1, w_cut1', w_cut0, w_ty1, w_ty2, w_ty3, w_ty4, w_ty5, w_ty6, w_ty7, w_ty8, w_ty9, w_ty10, w_ty11, w_ty12, w_ty13, w_ty14, w_ty15, w_ty16, w_ty17, w_ty18, w_ty19, w_ty20, w_ty21, w_mapc, w_mapn, w_appc, w_appn, w_repc, w_repn, w_start, w_lenc, w_ifT, w_ifF, w_ifFF, w_ifTF, w_nT, w_nF, w_anyT, w_anyF, w_d22, ifSome_some, ifLst_lst, ifTup_tup, ifInt_int, lget, lset, lsets, Nat.reduceSub, Nat.reduceAdd, List.length_nil, ↓reduceIte]
    by_cases hc : c = 0
    · rw [decide_eq_true hc]
      have := g1.mp (by rw [hc]; exact rsg_zero)
      rw [← this, rsg_zero] at hQ
      exact hQ
    · rw [decide_eq_false hc]
      exact fin hc
theorem s_sgp (e : P[f]? = some ⟨1, 4, bSgp sg⟩) (eg : P[sg]? = some ⟨2, 5, bSign⟩) {row : List Int} {N : Int} {al lo hi : Re} {p1 q1 p2 q2 : Int} (h : PD row N al lo hi p1 q1 p2 q2 0) (hQ : Q (.int (rsg al)) H) : callN sub P (n + 2) f [pvv row p1 q1 p2 q2] H Q X := by
  have l := h.rp.l
  have u := h.rp.u
  have v1 := h.a1.val
  have v2 := h.a2.val
  have s1 : 0 ≤ p1 ↔ 0 ≤ lo := by
    have := val_lt (q2 := 1) (p2 := 0) (y := 0) h.a1.pos (by decide) v1 (by rw [ic_zero]; grind)
    rw [Int.mul_one, Int.zero_mul] at this
    constructor
    · intro hp; exact Std.not_lt.mp fun hl => by have := this.mpr hl; (clear e eg h hQ l u v1 v2 hl; omega)
    · intro hl; exact Int.not_lt.mp fun hp => by have := this.mp hp; grind
  have s2 : p2 ≤ 0 ↔ hi ≤ 0 := by
    have := val_lt (q1 := 1) (p1 := 0) (x := 0) (by decide) h.a2.pos (by rw [ic_zero]; grind) v2
    rw [Int.mul_one, Int.zero_mul] at this
    constructor
    · intro hp; exact Std.not_lt.mp fun hl => by have := this.mpr hl; (clear e eg h hQ l u v1 v2 s1 hl; omega)
    · intro hl; exact Int.not_lt.mp fun hp => by have := this.mp hp; grind
  have fin : lo < 0 → wpS sub (callN sub P (n + 1)) (fun m => H.length ≤ m) (tSgp4 sg) [some (pvv row p1 q1 p2 q2), some (.tup (row.map .int)), some (pt p1 q1), some (pt p2 q2)] H (fun _ H' => Q .none H') Q X := fun hlo => by
    have fin3 : 0 < hi → wpS sub (callN sub P (n + 1)) (fun m => H.length ≤ m) (tSgp3 sg) [some (pvv row p1 q1 p2 q2), some (.tup (row.map .int)), some (pt p1 q1), some (pt p2 q2)] H (fun _ H' => Q .none H') Q X := fun hhi => s_sgp3 eg h hlo hhi hQ
    dsimp only [tSgp4]
    revert fin3
    generalize tSgp3 sg = T
    intro fin3
    dsimp only [qS1, qS2, qS3, qS4, qS5, qS7, qS9, qS10, qS11, qS12, qS13, qS14, qE1, qE2, qE5, qE7, qE8, qE9, qE10, qE11, qE12, qE13, qE14, qE15, qE16, qE17, qE18, qE19, qE20, qE21, qE22, qEs1, qEs2, wpAll, qO1, qO2, qI1, qI2, qI3, w_add, w_addl, w_sub, w_mul, w_mull, w_fdiv, w_mod, w_pow, w_lt, w_le, w_gt, w_ge, w_eq, w_ne, w_isn, w_ist, w_isi, w_isl, w_abs, w_lent, w_lenl, w_intb, w_list, w_tuple, w_min, w_idxt0, w_idxt1, w_idxu0, w_idxu1, w_idxu2, w_idxl, w_slcl, w_tb, w_ti, w_tn, w_tt, w_tl, w_itt, w_itl, w_bindT1, w_bindT2, w_srcl, w_srct, w_cut2, w_cut1, w_cut1', w_cut0, w_ty1, w_ty2, w_ty3, w_ty4, w_ty5, w_ty6, w_ty7, w_ty8, w_ty9, w_ty10, w_ty11, w_ty12, w_ty13, w_ty14, w_ty15, w_ty16, w_ty17, w_ty18, w_ty19, w_ty20, w_ty21, w_mapc, w_mapn, w_appc, w_appn, w_repc, w_repn, w_start, w_lenc, w_ifT, w_ifF, w_ifFF, w_ifTF, w_nT, w_nF, w_anyT, w_anyF, w_d22, ifSome_some, ifLst_lst, ifTup_tup, ifInt_int, lget, lset, lsets, Nat.reduceSub, Nat.reduceAdd, List.length_nil, ↓reduceIte]
    by_cases hc : p2 ≤ 0
    · rw [decide_eq_true hc]
      have := s2.mp hc
      rw [rsg_neg (x := al) (by exact l_tl (u) (this))] at hQ
      exact hQ
    · rw [decide_eq_false hc]
      exact fin3 (by have : ¬ hi ≤ 0 := fun h => hc (s2.mpr h)
                     exact l_nL this)
  refine callN_mk e rfl ?_
  dsimp only [bSgp]
  revert fin
  generalize tSgp4 sg = T
  intro fin
  dsimp only [qS1, qS2, qS3, qS4, qS5, qS7, qS9, qS10, qS11, qS12, qS13, qS14, qE1, qE2, qE5, qE7, qE8, qE9, qE10, qE11, qE12, qE13, qE14, qE15, qE16, qE17, qE18, qE19, qE20, qE21, qE22, qEs1, qEs2, wpAll, qO1, qO2, qI1, qI2, qI3, w_add, w_addl, w_sub, w_mul, w_mull, w_fdiv, w_mod, w_pow, w_lt, w_le, w_gt, w_ge, w_eq, w_ne, w_isn, w_ist, w_isi, w_isl, w_abs, w_lent, w_lenl, w_intb, w_list, w_tuple, w_min, w_idxt0, w_idxt1, w_idxu0, w_idxu1, w_idxu2, w_idxl, w_slcl, w_tb, w_ti, w_tn, w_tt, w_tl, w_itt, w_itl, w_bindT1, w_bindT2, w_srcl, w_srct, w_cut2, w_cut1, w_cut1', w_cut0, w_ty1, w_ty2, w_ty3, w_ty4, w_ty5, w_ty6, w_ty7, w_ty8, w_ty9, w_ty10, w_ty11, w_ty12, w_ty13, w_ty14, w_ty15, w_ty16, w_ty17, w_ty18, w_ty19, w_ty20, w_ty21, w_mapc, w_mapn, w_appc, w_appn, w_repc, w_repn, w_start, w_lenc, w_ifT, w_ifF, w_ifFF, w_ifTF, w_nT, w_nF, w_anyT, w_anyF, w_d22, ifSome_some, ifLst_lst, ifTup_tup, ifInt_int, lget, lset, lsets, Nat.reduceSub, Nat.reduceAdd, List.length_nil, ↓reduceIte]
  refine ⟨rfl, ?_⟩
  by_cases hc : 0 ≤ p1
  · rw [decide_eq_true hc]
    have := s1.mp hc
    rw [rsg_pos (x := al) (by exact l_lt (this) (l))] at hQ
    exact hQ
  · rw [decide_eq_false hc]
    exact fin (by have : ¬ 0 ≤ lo := fun h => hc (s1.mpr h)
                  exact l_nL this)
noncomputable def bIs (wh : Nat) : PS := (.seq (.ret (.and (.cons (.call wh (.cons (.var 0) .nil)) (.cons (.cmp .eq (.var 0) (.var 1)) .nil))))
 .skip)
theorem s_is (e : P[f]? = some ⟨2, 2, bIs wh⟩) (ew : P[wh]? = some ⟨1, 1, bWhole⟩) {x y : Int} (h : x = y) (hQ : Q (.bool true) H) : callN sub P (n + 2) f [.int x, .int y] H Q X := by
  refine callN_mk e rfl ?_
  dsimp only [bIs, qS1, qS2, qS3, qS4, qS5, qS7, qS9, qS10, qS11, qS12, qS13, qS14, qE1, qE2, qE5, qE7, qE8, qE9, qE10, qE11, qE12, qE13, qE14, qE15, qE16, qE17, qE18, qE19, qE20, qE21, qE22, qEs1, qEs2, wpAll, qO1, qO2, qI1, qI2, qI3, w_add, w_addl, w_sub, w_mul, w_mull, w_fdiv, w_mod, w_pow, w_lt, w_le, w_gt, w_ge, w_eq, w_ne, w_isn, w_ist, w_isi, w_isl, w_abs, w_lent, w_lenl, w_intb, w_list, w_tuple, w_min, w_idxt0, w_idxt1, w_idxu0, w_idxu1, w_idxu2, w_idxl, w_slcl, w_tb, w_ti, w_tn, w_tt, w_tl, w_itt, w_itl, w_bindT1, w_bindT2, w_srcl, w_srct, w_cut2, w_cut1, w_cut1', w_cut0, w_ty1, w_ty2, w_ty3, w_ty4, w_ty5, w_ty6, w_ty7, w_ty8, w_ty9, w_ty10, w_ty11, w_ty12, w_ty13, w_ty14, w_ty15, w_ty16, w_ty17, w_ty18, w_ty19, w_ty20, w_ty21, w_mapc, w_mapn, w_appc, w_appn, w_repc, w_repn, w_start, w_lenc, w_ifT, w_ifF, w_ifFF, w_ifTF, w_nT, w_nF, w_anyT, w_anyF, w_d22, ifSome_some, ifLst_lst, ifTup_tup, ifInt_int, lget, lset, lsets, Nat.reduceSub, Nat.reduceAdd, List.length_nil, ↓reduceIte]
  refine s_whole ew ?_
  dsimp only [qS1, qS2, qS3, qS4, qS5, qS7, qS9, qS10, qS11, qS12, qS13, qS14, qE1, qE2, qE5, qE7, qE8, qE9, qE10, qE11, qE12, qE13, qE14, qE15, qE16, qE17, qE18, qE19, qE20, qE21, qE22, qEs1, qEs2, wpAll, qO1, qO2, qI1, qI2, qI3, w_add, w_addl, w_sub, w_mul, w_mull, w_fdiv, w_mod, w_pow, w_lt, w_le, w_gt, w_ge, w_eq, w_ne, w_isn, w_ist, w_isi, w_isl, w_abs, w_lent, w_lenl, w_intb, w_list, w_tuple, w_min, w_idxt0, w_idxt1, w_idxu0, w_idxu1, w_idxu2, w_idxl, w_slcl, w_tb, w_ti, w_tn, w_tt, w_tl, w_itt, w_itl, w_bindT1, w_bindT2, w_srcl, w_srct, w_cut2, w_cut1, w_cut1', w_cut0, w_ty1, w_ty2, w_ty3, w_ty4, w_ty5, w_ty6, w_ty7, w_ty8, w_ty9, w_ty10, w_ty11, w_ty12, w_ty13, w_ty14, w_ty15, w_ty16, w_ty17, w_ty18, w_ty19, w_ty20, w_ty21, w_mapc, w_mapn, w_appc, w_appn, w_repc, w_repn, w_start, w_lenc, w_ifT, w_ifF, w_ifFF, w_ifTF, w_nT, w_nF, w_anyT, w_anyF, w_d22, ifSome_some, ifLst_lst, ifTup_tup, ifInt_int, lget, lset, lsets, Nat.reduceSub, Nat.reduceAdd, List.length_nil, ↓reduceIte]
  rw [decide_eq_true h]
  exact hQ
end
end Mine

set_option autoImplicit false
set_option maxRecDepth 100000
namespace Mine
namespace L08
open PySem
/- 0: divisor(one, other) rank 1; vars 0=one, 1=other, 2=rest -/
noncomputable def t_divisor_1 : PS := (.seq (.ret (.var 0))
 .skip)
noncomputable def c_divisor_1 : PE := (.cmp .gt (.var 1) (.cint 0))
noncomputable def l_divisor_1 : PS := (.seq (.assign 2 (.bin .mod (.var 0) (.var 1)))
 (.seq (.assign 0 (.var 1))
 (.seq (.assign 1 (.var 2))
 .skip)))
noncomputable def b_divisor : PS := (.seq (.assign 0 (.bi .abs (.cons (.var 0) .nil)))
 (.seq (.assign 1 (.bi .abs (.cons (.var 1) .nil)))
 (.seq (.whl c_divisor_1 l_divisor_1)
 t_divisor_1)))
noncomputable def v_divisor : List Str := ["one", "other", "rest"]
/- 1: part(top, bottom) rank 2; vars 0=top, 1=bottom, 2=many -/
noncomputable def t_part_1 : PS := (.seq (.ret (.tup (.cons (.bin .fdiv (.var 0) (.var 2)) (.cons (.bin .fdiv (.var 1) (.var 2)) .nil))))
 .skip)
noncomputable def t_part_2 : PS := (.seq (.assign 2 (.call 0 (.cons (.var 0) (.cons (.var 1) .nil))))
 (.seq (.ite (.cmp .lt (.var 1) (.cint 0)) (.seq (.assign 2 (.neg (.var 2)))
 .skip) .skip)
 t_part_1))
noncomputable def b_part : PS := (.seq (.ite (.cmp .eq (.var 1) (.cint 0)) (.seq (.raise 1)
 .skip) .skip)
 t_part_2)
noncomputable def v_part : List Str := ["top", "bottom", "many"]
/- 2: below(one, other) rank 1; vars 0=one, 1=other -/
noncomputable def b_below : PS := (.seq (.ret (.cmp .lt (.bin .mul (.idx (.var 0) (.cint 0)) (.idx (.var 1) (.cint 1))) (.bin .mul (.idx (.var 1) (.cint 0)) (.idx (.var 0) (.cint 1)))))
 .skip)
noncomputable def v_below : List Str := ["one", "other"]
/- 3: part_sum(one, other) rank 3; vars 0=one, 1=other -/
noncomputable def b_part_sum : PS := (.seq (.ret (.call 1 (.cons (.bin .add (.bin .mul (.idx (.var 0) (.cint 0)) (.idx (.var 1) (.cint 1))) (.bin .mul (.idx (.var 1) (.cint 0)) (.idx (.var 0) (.cint 1)))) (.cons (.bin .mul (.idx (.var 0) (.cint 1)) (.idx (.var 1) (.cint 1))) .nil))))
 .skip)
noncomputable def v_part_sum : List Str := ["one", "other"]
/- 4: part_product(one, other) rank 3; vars 0=one, 1=other -/
noncomputable def b_part_product : PS := (.seq (.ret (.call 1 (.cons (.bin .mul (.idx (.var 0) (.cint 0)) (.idx (.var 1) (.cint 0))) (.cons (.bin .mul (.idx (.var 0) (.cint 1)) (.idx (.var 1) (.cint 1))) .nil))))
 .skip)
noncomputable def v_part_product : List Str := ["one", "other"]
/- 5: turned_about(one) rank 1; vars 0=one -/
noncomputable def b_turned_about : PS := (.seq (.ret (.tup (.cons (.neg (.idx (.var 0) (.cint 0))) (.cons (.idx (.var 0) (.cint 1)) .nil))))
 .skip)
noncomputable def v_turned_about : List Str := ["one"]
/- 6: sign_at(row, at) rank 1; vars 0=row, 1=at, 2=value, 3=scale, 4=number -/
noncomputable def t_sign_at_1 : PS := (.seq (.ret (.bi .int (.cons (.cmp .gt (.var 2) (.cint 0)) .nil)))
 .skip)
noncomputable def t_sign_at_2 : PS := (.seq (.ite (.cmp .lt (.var 2) (.cint 0)) (.seq (.ret (.neg (.cint 1)))
 .skip) .skip)
 t_sign_at_1)
noncomputable def l_sign_at_1 : PS := (.seq (.assign 2 (.bin .add (.bin .mul (.var 2) (.idx (.var 1) (.cint 0))) (.bin .mul (.var 4) (.var 3))))
 (.seq (.assign 3 (.bin .mul (.var 3) (.idx (.var 1) (.cint 1))))
 .skip))
noncomputable def b_sign_at : PS := (.seq (.assign 2 (.cint 0))
 (.seq (.assign 3 (.cint 1))
 (.seq (.forr 4 (.rev (.var 0)) l_sign_at_1)
 t_sign_at_2)))
noncomputable def v_sign_at : List Str := ["row", "at", "value", "scale", "number"]
/- 7: trimmed(row) rank 1; vars 0=row, 1=found -/
noncomputable def t_trimmed_1 : PS := (.seq (.ret (.var 1))
 .skip)
noncomputable def c_trimmed_1 : PE := (.and (.cons (.var 1) (.cons (.cmp .eq (.idx (.var 1) (.neg (.cint 1))) (.cint 0)) .nil)))
noncomputable def l_trimmed_1 : PS := (.seq (.pop 1)
 .skip)
noncomputable def b_trimmed : PS := (.seq (.assign 1 (.bi .list (.cons (.var 0) .nil)))
 (.seq (.whl c_trimmed_1 l_trimmed_1)
 t_trimmed_1))
noncomputable def v_trimmed : List Str := ["row", "found"]
/- 8: reduced(row) rank 2; vars 0=row, 1=many, 2=number -/
noncomputable def e_reduced_1 : PE := (.bin .fdiv (.var 0) (.var 1))
noncomputable def t_reduced_1 : PS := (.seq (.ret (.comp e_reduced_1 1 [1] (.seq (.var 0)) .no))
 .skip)
noncomputable def t_reduced_2 : PS := (.seq (.ite (.cmp .lt (.idx (.var 0) (.neg (.cint 1))) (.cint 0)) (.seq (.assign 1 (.neg (.var 1)))
 .skip) .skip)
 t_reduced_1)
noncomputable def l_reduced_1 : PS := (.seq (.assign 1 (.call 0 (.cons (.var 1) (.cons (.var 2) .nil))))
 .skip)
noncomputable def b_reduced : PS := (.seq (.assign 1 (.cint 0))
 (.seq (.forr 2 (.seq (.var 0)) l_reduced_1)
 t_reduced_2))
noncomputable def v_reduced : List Str := ["row", "many", "number"]
/- 9: without_last(left, other, many, scale) rank 1; vars 0=left, 1=other, 2=many, 3=scale, 4=found, 5=ahead, 6=k -/
noncomputable def t_without_last_1 : PS := (.seq (.ret (.var 4))
 .skip)
noncomputable def l_without_last_1 : PS := (.seq (.setidx 4 (.bin .add (.var 5) (.var 6)) (.bin .sub (.idx (.var 4) (.bin .add (.var 5) (.var 6))) (.bin .mul (.var 2) (.idx (.var 1) (.var 6)))))
 .skip)
noncomputable def e_without_last_1 : PE := (.bin .mul (.var 0) (.var 1))
noncomputable def b_without_last : PS := (.seq (.assign 4 (.comp e_without_last_1 1 [3] (.seq (.var 0)) .no))
 (.seq (.assign 5 (.bin .sub (.bi .len (.cons (.var 0) .nil)) (.bi .len (.cons (.var 1) .nil))))
 (.seq (.forr 6 (.rng (.cons (.bi .len (.cons (.var 1) .nil)) .nil)) l_without_last_1)
 t_without_last_1)))
noncomputable def v_without_last : List Str := ["left", "other", "many", "scale", "found", "ahead", "k"]
/- 10: rest_of(one, other) rank 3; vars 0=one, 1=other, 2=left -/
noncomputable def t_rest_of_1 : PS := (.seq (.ret (.var 2))
 .skip)
noncomputable def c_rest_of_1 : PE := (.cmp .ge (.bi .len (.cons (.var 2) .nil)) (.bi .len (.cons (.var 1) .nil)))
noncomputable def l_rest_of_1 : PS := (.seq (.assign 2 (.call 7 (.cons (.call 9 (.cons (.var 2) (.cons (.var 1) (.cons (.idx (.var 2) (.neg (.cint 1))) (.cons (.idx (.var 1) (.neg (.cint 1))) .nil))))) .nil)))
 (.seq (.ite (.var 2) (.seq (.assign 2 (.call 8 (.cons (.var 2) .nil)))
 .skip) .skip)
 .skip))
noncomputable def b_rest_of : PS := (.seq (.assign 2 (.bi .list (.cons (.var 0) .nil)))
 (.seq (.whl c_rest_of_1 l_rest_of_1)
 t_rest_of_1))
noncomputable def v_rest_of : List Str := ["one", "other", "left"]
/- 11: common(one, other) rank 4; vars 0=one, 1=other, 2=rest -/
noncomputable def t_common_1 : PS := (.seq (.ret (.call 8 (.cons (.var 0) .nil)))
 .skip)
noncomputable def c_common_1 : PE := (.var 1)
noncomputable def l_common_1 : PS := (.seq (.assign 2 (.call 10 (.cons (.var 0) (.cons (.var 1) .nil))))
 (.seq (.assign 0 (.var 1))
 (.seq (.assign 1 (.var 2))
 .skip)))
noncomputable def b_common : PS := (.seq (.whl c_common_1 l_common_1)
 t_common_1)
noncomputable def v_common : List Str := ["one", "other", "rest"]
/- 12: of_part(at) rank 4; vars 0=at -/
noncomputable def b_of_part : PS := (.seq (.ret (.tup (.cons (.tup (.cons (.neg (.idx (.var 0) (.cint 0))) (.cons (.idx (.var 0) (.cint 1)) .nil))) (.cons (.call 3 (.cons (.var 0) (.cons (.tup (.cons (.neg (.cint 1)) (.cons (.cint 1) .nil))) .nil))) (.cons (.call 3 (.cons (.var 0) (.cons (.tup (.cons (.cint 1) (.cons (.cint 1) .nil))) .nil))) .nil)))))
 .skip)
noncomputable def v_of_part : List Str := ["at"]
/- 13: width_of(one) rank 4; vars 0=one -/
noncomputable def b_width_of : PS := (.seq (.ret (.call 3 (.cons (.idx (.var 0) (.cint 2)) (.cons (.call 5 (.cons (.idx (.var 0) (.cint 1)) .nil)) .nil))))
 .skip)
noncomputable def v_width_of : List Str := ["one"]
/- 14: narrowed(one, width) rank 4; vars 0=one, 1=width, 2=row, 3=low, 4=high, 5=middle, 6=side, 7=step -/
noncomputable def t_narrowed_1 : PS := (.seq (.ret (.tup (.cons (.var 2) (.cons (.var 3) (.cons (.var 4) .nil)))))
 .skip)
noncomputable def c_narrowed_1 : PE := (.call 2 (.cons (.var 1) (.cons (.call 3 (.cons (.var 4) (.cons (.call 5 (.cons (.var 3) .nil)) .nil))) .nil)))
noncomputable def t_narrowed_2 : PS := (.seq (.ite (.cmp .eq (.var 6) (.call 6 (.cons (.var 2) (.cons (.var 3) .nil)))) (.seq (.assign 3 (.var 5))
 .skip) (.seq (.assign 4 (.var 5))
 .skip))
 .skip)
noncomputable def l_narrowed_1 : PS := (.seq (.assign 5 (.call 4 (.cons (.call 3 (.cons (.var 3) (.cons (.var 4) .nil))) (.cons (.glob (Str.ofString "HALF") 1 2) .nil))))
 (.seq (.assign 6 (.call 6 (.cons (.var 2) (.cons (.var 5) .nil))))
 (.seq (.ite (.cmp .eq (.var 6) (.cint 0)) (.seq (.assign 7 (.call 4 (.cons (.var 1) (.cons (.glob (Str.ofString "QUARTER") 1 4) .nil))))
 (.seq (.ret (.tup (.cons (.var 2) (.cons (.call 3 (.cons (.var 5) (.cons (.call 5 (.cons (.var 7) .nil)) .nil))) (.cons (.call 3 (.cons (.var 5) (.cons (.var 7) .nil))) .nil)))))
 .skip)) .skip)
 t_narrowed_2)))
noncomputable def t_narrowed_3 : PS := (.seq (.unpack [2, 3, 4] (.var 0))
 (.seq (.whl c_narrowed_1 l_narrowed_1)
 t_narrowed_1))
noncomputable def b_narrowed : PS := (.seq (.ite (.cmp .le (.idx (.var 1) (.cint 0)) (.cint 0)) (.seq (.raise 2)
 .skip) .skip)
 t_narrowed_3)
noncomputable def v_narrowed : List Str := ["one", "width", "row", "low", "high", "middle", "side", "step"]
/- 15: halved(one) rank 5; vars 0=one -/
noncomputable def b_halved : PS := (.seq (.ret (.call 14 (.cons (.var 0) (.cons (.call 4 (.cons (.call 13 (.cons (.var 0) .nil)) (.cons (.glob (Str.ofString "HALF") 1 2) .nil))) .nil))))
 .skip)
noncomputable def v_halved : List Str := ["one"]
/- 16: is_same(one, other) rank 5; vars 0=one, 1=other, 2=low, 3=high, 4=shared -/
noncomputable def t_is_same_1 : PS := (.seq (.assign 4 (.call 11 (.cons (.idx (.var 0) (.cint 0)) (.cons (.idx (.var 1) (.cint 0)) .nil))))
 (.seq (.ret (.cmp .lt (.bin .mul (.call 6 (.cons (.var 4) (.cons (.var 2) .nil))) (.call 6 (.cons (.var 4) (.cons (.var 3) .nil)))) (.cint 0)))
 .skip))
noncomputable def t_is_same_2 : PS := (.seq (.ite (.nt (.call 2 (.cons (.var 2) (.cons (.var 3) .nil)))) (.seq (.ret (.cbool false))
 .skip) .skip)
 t_is_same_1)
noncomputable def t_is_same_3 : PS := (.seq (.assign 3 (.idx (.var 0) (.cint 2)))
 (.seq (.ite (.call 2 (.cons (.idx (.var 1) (.cint 2)) (.cons (.var 3) .nil))) (.seq (.assign 3 (.idx (.var 1) (.cint 2)))
 .skip) .skip)
 t_is_same_2))
noncomputable def b_is_same : PS := (.seq (.assign 2 (.idx (.var 0) (.cint 1)))
 (.seq (.ite (.call 2 (.cons (.var 2) (.cons (.idx (.var 1) (.cint 1)) .nil))) (.seq (.assign 2 (.idx (.var 1) (.cint 1)))
 .skip) .skip)
 t_is_same_3))
noncomputable def v_is_same : List Str := ["one", "other", "low", "high", "shared"]
/- 17: compare(one, other) rank 6; vars 0=one, 1=other -/
noncomputable def c_compare_1 : PE := (.cbool true)
noncomputable def t_compare_1 : PS := (.seq (.assign 0 (.call 15 (.cons (.var 0) .nil)))
 (.seq (.assign 1 (.call 15 (.cons (.var 1) .nil)))
 .skip))
noncomputable def t_compare_2 : PS := (.seq (.ite (.nt (.call 2 (.cons (.idx (.var 0) (.cint 1)) (.cons (.idx (.var 1) (.cint 2)) .nil)))) (.seq (.ret (.cint 1))
 .skip) .skip)
 t_compare_1)
noncomputable def l_compare_1 : PS := (.seq (.ite (.nt (.call 2 (.cons (.idx (.var 1) (.cint 1)) (.cons (.idx (.var 0) (.cint 2)) .nil)))) (.seq (.ret (.neg (.cint 1)))
 .skip) .skip)
 t_compare_2)
noncomputable def t_compare_3 : PS := (.seq (.whl c_compare_1 l_compare_1)
 .skip)
noncomputable def b_compare : PS := (.seq (.ite (.call 16 (.cons (.var 0) (.cons (.var 1) .nil))) (.seq (.ret (.cint 0))
 .skip) .skip)
 t_compare_3)
noncomputable def v_compare : List Str := ["one", "other"]
/- 18: sign_of_peg(one) rank 2; vars 0=one, 1=row, 2=low, 3=high -/
noncomputable def t_sign_of_peg_1 : PS := (.seq (.ret (.neg (.cint 1)))
 .skip)
noncomputable def t_sign_of_peg_2 : PS := (.seq (.ite (.cmp .eq (.call 6 (.cons (.var 1) (.cons (.var 2) .nil))) (.call 6 (.cons (.var 1) (.cons (.tup (.cons (.cint 0) (.cons (.cint 1) .nil))) .nil)))) (.seq (.ret (.cint 1))
 .skip) .skip)
 t_sign_of_peg_1)
noncomputable def t_sign_of_peg_3 : PS := (.seq (.ite (.cmp .eq (.idx (.var 1) (.cint 0)) (.cint 0)) (.seq (.ret (.cint 0))
 .skip) .skip)
 t_sign_of_peg_2)
noncomputable def t_sign_of_peg_4 : PS := (.seq (.ite (.cmp .le (.idx (.var 3) (.cint 0)) (.cint 0)) (.seq (.ret (.neg (.cint 1)))
 .skip) .skip)
 t_sign_of_peg_3)
noncomputable def b_sign_of_peg : PS := (.seq (.unpack [1, 2, 3] (.var 0))
 (.seq (.ite (.cmp .ge (.idx (.var 2) (.cint 0)) (.cint 0)) (.seq (.ret (.cint 1))
 .skip) .skip)
 t_sign_of_peg_4))
noncomputable def v_sign_of_peg : List Str := ["one", "row", "low", "high"]
/- 19: _law_whole(_law_found) rank 1; vars 0=_law_found -/
noncomputable def b_law_whole : PS := (.seq (.ret (.and (.cons (.isi (.var 0) [.int]) (.cons (.nt (.isi (.var 0) [.bool])) .nil))))
 .skip)
noncomputable def v_law_whole : List Str := ["_law_found"]
/- 20: _law_cell_at(_law_script, _law_k) rank 1; vars 0=_law_script, 1=_law_k -/
noncomputable def t_law_cell_at_1 : PS := (.seq (.ret (.cint 0))
 .skip)
noncomputable def b_law_cell_at : PS := (.seq (.ite (.cmp .lt (.var 1) (.bi .len (.cons (.var 0) .nil))) (.seq (.ret (.idx (.var 0) (.var 1)))
 .skip) .skip)
 t_law_cell_at_1)
noncomputable def v_law_cell_at : List Str := ["_law_script", "_law_k"]
/- 21: _law_divisor(_law_one, _law_other) rank 1; vars 0=_law_one, 1=_law_other, 2=_law_over -/
noncomputable def t_law_divisor_1 : PS := (.seq (.ret (.bi .abs (.cons (.var 0) .nil)))
 .skip)
noncomputable def c_law_divisor_1 : PE := (.cmp .ne (.var 1) (.cint 0))
noncomputable def l_law_divisor_1 : PS := (.seq (.assign 2 (.bin .mod (.var 0) (.var 1)))
 (.seq (.assign 0 (.var 1))
 (.seq (.assign 1 (.var 2))
 .skip)))
noncomputable def b_law_divisor : PS := (.seq (.whl c_law_divisor_1 l_law_divisor_1)
 t_law_divisor_1)
noncomputable def v_law_divisor : List Str := ["_law_one", "_law_other", "_law_over"]
/- 22: _law_part(_law_top, _law_bottom) rank 2; vars 0=_law_top, 1=_law_bottom, 2=_law_by_here -/
noncomputable def t_law_part_1 : PS := (.seq (.ret (.tup (.cons (.bin .fdiv (.var 0) (.var 2)) (.cons (.bin .fdiv (.var 1) (.var 2)) .nil))))
 .skip)
noncomputable def b_law_part : PS := (.seq (.assign 2 (.call 21 (.cons (.var 0) (.cons (.var 1) .nil))))
 (.seq (.ite (.cmp .lt (.var 1) (.cint 0)) (.seq (.assign 2 (.bin .sub (.cint 0) (.var 2)))
 .skip) .skip)
 t_law_part_1))
noncomputable def v_law_part : List Str := ["_law_top", "_law_bottom", "_law_by_here"]
/- 23: _law_smallest(_law_row) rank 2; vars 0=_law_row, 1=_law_by_here, 2=_law_one -/
noncomputable def e_law_smallest_1 : PE := (.bin .fdiv (.var 0) (.var 1))
noncomputable def t_law_smallest_1 : PS := (.seq (.ret (.comp e_law_smallest_1 1 [1] (.seq (.var 0)) .no))
 .skip)
noncomputable def t_law_smallest_2 : PS := (.seq (.ite (.cmp .lt (.idx (.var 0) (.neg (.cint 1))) (.cint 0)) (.seq (.assign 1 (.bin .sub (.cint 0) (.var 1)))
 .skip) .skip)
 t_law_smallest_1)
noncomputable def l_law_smallest_1 : PS := (.seq (.assign 1 (.call 21 (.cons (.var 1) (.cons (.var 2) .nil))))
 .skip)
noncomputable def b_law_smallest : PS := (.seq (.assign 1 (.cint 0))
 (.seq (.forr 2 (.seq (.var 0)) l_law_smallest_1)
 t_law_smallest_2))
noncomputable def v_law_smallest : List Str := ["_law_row", "_law_by_here", "_law_one"]
/- 24: _law_by(_law_row, _law_other) rank 1; vars 0=_law_row, 1=_law_other, 2=_law_found, 3=_law_k, 4=_law_j -/
noncomputable def t_law_by_1 : PS := (.seq (.ret (.var 2))
 .skip)
noncomputable def l_law_by_1 : PS := (.seq (.setidx 2 (.bin .add (.var 3) (.var 4)) (.bin .add (.idx (.var 2) (.bin .add (.var 3) (.var 4))) (.bin .mul (.idx (.var 0) (.var 3)) (.idx (.var 1) (.var 4)))))
 .skip)
noncomputable def l_law_by_2 : PS := (.seq (.forr 4 (.rng (.cons (.bi .len (.cons (.var 1) .nil)) .nil)) l_law_by_1)
 .skip)
noncomputable def e_law_by_1 : PE := (.cint 0)
noncomputable def b_law_by : PS := (.seq (.assign 2 (.comp e_law_by_1 1 [] (.rng (.cons (.bin .sub (.bin .add (.bi .len (.cons (.var 0) .nil)) (.bi .len (.cons (.var 1) .nil))) (.cint 1)) .nil)) .no))
 (.seq (.forr 3 (.rng (.cons (.bi .len (.cons (.var 0) .nil)) .nil)) l_law_by_2)
 t_law_by_1))
noncomputable def v_law_by : List Str := ["_law_row", "_law_other", "_law_found", "_law_k", "_law_j"]
/- 25: _law_sign(_law_number) rank 1; vars 0=_law_number -/
noncomputable def t_law_sign_1 : PS := (.seq (.ret (.bi .int (.cons (.cmp .gt (.var 0) (.cint 0)) .nil)))
 .skip)
noncomputable def b_law_sign : PS := (.seq (.ite (.cmp .lt (.var 0) (.cint 0)) (.seq (.ret (.neg (.cint 1)))
 .skip) .skip)
 t_law_sign_1)
noncomputable def v_law_sign : List Str := ["_law_number"]
/- 26: _law_two(_law_x, _law_y, _law_a) rank 2; vars 0=_law_x, 1=_law_y, 2=_law_a -/
noncomputable def t_law_two_1 : PS := (.seq (.ret (.call 25 (.cons (.bin .sub (.bin .mul (.bin .mul (.var 1) (.var 1)) (.var 2)) (.bin .mul (.var 0) (.var 0))) .nil)))
 .skip)
noncomputable def t_law_two_2 : PS := (.seq (.ite (.cmp .gt (.var 0) (.cint 0)) (.seq (.ret (.call 25 (.cons (.bin .sub (.bin .mul (.var 0) (.var 0)) (.bin .mul (.bin .mul (.var 1) (.var 1)) (.var 2))) .nil)))
 .skip) .skip)
 t_law_two_1)
noncomputable def t_law_two_3 : PS := (.seq (.ite (.and (.cons (.cmp .le (.var 0) (.cint 0)) (.cons (.cmp .le (.var 1) (.cint 0)) .nil))) (.seq (.ret (.bin .sub (.cint 0) (.bi .int (.cons (.or (.cons (.cmp .lt (.var 0) (.cint 0)) (.cons (.cmp .lt (.bin .mul (.var 1) (.var 2)) (.cint 0)) .nil))) .nil))))
 .skip) .skip)
 t_law_two_2)
noncomputable def b_law_two : PS := (.seq (.ite (.and (.cons (.cmp .ge (.var 0) (.cint 0)) (.cons (.cmp .ge (.var 1) (.cint 0)) .nil))) (.seq (.ret (.bi .int (.cons (.or (.cons (.cmp .gt (.var 0) (.cint 0)) (.cons (.cmp .gt (.bin .mul (.var 1) (.var 2)) (.cint 0)) .nil))) .nil)))
 .skip) .skip)
 t_law_two_3)
noncomputable def v_law_two : List Str := ["_law_x", "_law_y", "_law_a"]
/- 27: _law_four(_law_one, _law_a, _law_b) rank 3; vars 0=_law_one, 1=_law_a, 2=_law_b, 3=_law_left, 4=_law_right, 5=_law_x, 6=_law_y -/
noncomputable def t_law_four_1 : PS := (.seq (.assign 5 (.call 28 (.cons (.slc (.var 0) .no (.some (.cint 2))) (.cons (.slc (.var 0) .no (.some (.cint 2))) (.cons (.var 1) .nil)))))
 (.seq (.assign 6 (.call 28 (.cons (.slc (.var 0) (.some (.cint 2)) .no) (.cons (.slc (.var 0) (.some (.cint 2)) .no) (.cons (.var 1) .nil)))))
 (.seq (.ret (.bin .mul (.var 3) (.call 26 (.cons (.bin .sub (.idx (.var 5) (.cint 0)) (.bin .mul (.var 2) (.idx (.var 6) (.cint 0)))) (.cons (.bin .sub (.idx (.var 5) (.cint 1)) (.bin .mul (.var 2) (.idx (.var 6) (.cint 1)))) (.cons (.var 1) .nil))))))
 .skip)))
noncomputable def b_law_four : PS := (.seq (.assign 3 (.call 26 (.cons (.idx (.var 0) (.cint 0)) (.cons (.idx (.var 0) (.cint 1)) (.cons (.var 1) .nil)))))
 (.seq (.assign 4 (.bin .mul (.call 26 (.cons (.idx (.var 0) (.cint 2)) (.cons (.idx (.var 0) (.cint 3)) (.cons (.var 1) .nil)))) (.bi .int (.cons (.cmp .gt (.var 2) (.cint 0)) .nil))))
 (.seq (.ite (.cmp .ge (.bin .mul (.var 3) (.var 4)) (.cint 0)) (.seq (.ret (.call 25 (.cons (.bin .add (.var 3) (.var 4)) .nil)))
 .skip) .skip)
 t_law_four_1)))
noncomputable def v_law_four : List Str := ["_law_one", "_law_a", "_law_b", "_law_left", "_law_right", "_law_x", "_law_y"]
/- 28: _law_mul(_law_x, _law_y, _law_a) rank 1; vars 0=_law_x, 1=_law_y, 2=_law_a -/
noncomputable def b_law_mul : PS := (.seq (.ret (.lst (.cons (.bin .add (.bin .mul (.idx (.var 0) (.cint 0)) (.idx (.var 1) (.cint 0))) (.bin .mul (.bin .mul (.var 2) (.idx (.var 0) (.cint 1))) (.idx (.var 1) (.cint 1)))) (.cons (.bin .add (.bin .mul (.idx (.var 0) (.cint 0)) (.idx (.var 1) (.cint 1))) (.bin .mul (.idx (.var 0) (.cint 1)) (.idx (.var 1) (.cint 0)))) .nil))))
 .skip)
noncomputable def v_law_mul : List Str := ["_law_x", "_law_y", "_law_a"]
/- 29: _law_product(_law_one, _law_two_here, _law_a, _law_b) rank 2; vars 0=_law_one, 1=_law_two_here, 2=_law_a, 3=_law_b, 4=_law_x, 5=_law_y, 6=_law_z, 7=_law_w -/
noncomputable def b_law_product : PS := (.seq (.assign 4 (.call 28 (.cons (.slc (.var 0) .no (.some (.cint 2))) (.cons (.slc (.var 1) .no (.some (.cint 2))) (.cons (.var 2) .nil)))))
 (.seq (.assign 5 (.call 28 (.cons (.slc (.var 0) (.some (.cint 2)) .no) (.cons (.slc (.var 1) (.some (.cint 2)) .no) (.cons (.var 2) .nil)))))
 (.seq (.assign 6 (.call 28 (.cons (.slc (.var 0) .no (.some (.cint 2))) (.cons (.slc (.var 1) (.some (.cint 2)) .no) (.cons (.var 2) .nil)))))
 (.seq (.assign 7 (.call 28 (.cons (.slc (.var 0) (.some (.cint 2)) .no) (.cons (.slc (.var 1) .no (.some (.cint 2))) (.cons (.var 2) .nil)))))
 (.seq (.ret (.lst (.cons (.bin .add (.idx (.var 4) (.cint 0)) (.bin .mul (.var 3) (.idx (.var 5) (.cint 0)))) (.cons (.bin .add (.idx (.var 4) (.cint 1)) (.bin .mul (.var 3) (.idx (.var 5) (.cint 1)))) (.cons (.bin .add (.idx (.var 6) (.cint 0)) (.idx (.var 7) (.cint 0))) (.cons (.bin .add (.idx (.var 6) (.cint 1)) (.idx (.var 7) (.cint 1))) .nil))))))
 .skip)))))
noncomputable def v_law_product : List Str := ["_law_one", "_law_two_here", "_law_a", "_law_b", "_law_x", "_law_y", "_law_z", "_law_w"]
/- 30: _law_many(_law_one, _law_by_here) rank 1; vars 0=_law_one, 1=_law_by_here -/
noncomputable def e_law_many_1 : PE := (.bin .mul (.var 1) (.var 0))
noncomputable def b_law_many : PS := (.seq (.ret (.comp e_law_many_1 1 [1] (.seq (.var 0)) .no))
 .skip)
noncomputable def v_law_many : List Str := ["_law_one", "_law_by_here"]
/- 31: _law_and(_law_one, _law_two_here) rank 1; vars 0=_law_one, 1=_law_two_here -/
noncomputable def e_law_and_1 : PE := (.bin .add (.idx (.var 1) (.var 0)) (.idx (.var 2) (.var 0)))
noncomputable def b_law_and : PS := (.seq (.ret (.comp e_law_and_1 1 [0, 1] (.rng (.cons (.cint 4) .nil)) .no))
 .skip)
noncomputable def v_law_and : List Str := ["_law_one", "_law_two_here"]
/- 32: _law_ends(_law_p, _law_q, _law_r, _law_d) rank 3; vars 0=_law_p, 1=_law_q, 2=_law_r, 3=_law_d, 4=_law_above -/
noncomputable def t_law_ends_1 : PS := (.seq (.ret (.tup (.cons (.call 22 (.cons (.bin .add (.var 0) (.bin .mul (.var 1) (.var 4))) (.cons (.var 2) .nil))) (.cons (.call 22 (.cons (.var 0) (.cons (.var 2) .nil))) .nil))))
 .skip)
noncomputable def t_law_ends_2 : PS := (.seq (.ite (.cmp .gt (.var 1) (.cint 0)) (.seq (.ret (.tup (.cons (.call 22 (.cons (.var 0) (.cons (.var 2) .nil))) (.cons (.call 22 (.cons (.bin .add (.var 0) (.bin .mul (.var 1) (.var 4))) (.cons (.var 2) .nil))) .nil))))
 .skip) .skip)
 t_law_ends_1)
noncomputable def c_law_ends_1 : PE := (.cmp .le (.bin .mul (.var 4) (.var 4)) (.var 3))
noncomputable def l_law_ends_1 : PS := (.seq (.assign 4 (.bin .add (.var 4) (.cint 1)))
 .skip)
noncomputable def b_law_ends : PS := (.seq (.assign 4 (.cint 1))
 (.seq (.whl c_law_ends_1 l_law_ends_1)
 t_law_ends_2))
noncomputable def v_law_ends : List Str := ["_law_p", "_law_q", "_law_r", "_law_d", "_law_above"]
/- 33: _law_quad_peg(_law_p, _law_q, _law_r, _law_d) rank 4; vars 0=_law_p, 1=_law_q, 2=_law_r, 3=_law_d, 4=_law_ends_here -/
noncomputable def b_law_quad_peg : PS := (.seq (.assign 4 (.call 32 (.cons (.var 0) (.cons (.var 1) (.cons (.var 2) (.cons (.var 3) .nil))))))
 (.seq (.ret (.tup (.cons (.bi .tuple (.cons (.call 23 (.cons (.lst (.cons (.bin .sub (.bin .mul (.var 0) (.var 0)) (.bin .mul (.bin .mul (.var 1) (.var 1)) (.var 3))) (.cons (.bin .mul (.bin .mul (.neg (.cint 2)) (.var 0)) (.var 2)) (.cons (.bin .mul (.var 2) (.var 2)) .nil)))) .nil)) .nil)) (.cons (.idx (.var 4) (.cint 0)) (.cons (.idx (.var 4) (.cint 1)) .nil)))))
 .skip))
noncomputable def v_law_quad_peg : List Str := ["_law_p", "_law_q", "_law_r", "_law_d", "_law_ends_here"]
/- 34: _law_quad(_law_script, _law_k) rank 2; vars 0=_law_script, 1=_law_k, 2=_law_p, 3=_law_q, 4=_law_r -/
noncomputable def t_law_quad_1 : PS := (.seq (.assign 4 (.bin .add (.cint 1) (.bin .mod (.call 20 (.cons (.var 0) (.cons (.bin .add (.var 1) (.cint 2)) .nil))) (.cint 7))))
 (.seq (.ret (.tup (.cons (.var 2) (.cons (.var 3) (.cons (.var 4) (.cons (.bin .add (.cint 1) (.bin .mod (.bin .fdiv (.call 20 (.cons (.var 0) (.cons (.bin .add (.var 1) (.cint 3)) .nil))) (.cint 8)) (.cint 30))) .nil))))))
 .skip))
noncomputable def t_law_quad_2 : PS := (.seq (.assign 3 (.bin .add (.cint 1) (.bin .mod (.call 20 (.cons (.var 0) (.cons (.bin .add (.var 1) (.cint 1)) .nil))) (.cint 6))))
 (.seq (.ite (.cmp .eq (.bin .mod (.bin .fdiv (.call 20 (.cons (.var 0) (.cons (.bin .add (.var 1) (.cint 1)) .nil))) (.cint 6)) (.cint 2)) (.cint 1)) (.seq (.assign 3 (.bin .sub (.cint 0) (.var 3)))
 .skip) .skip)
 t_law_quad_1))
noncomputable def b_law_quad : PS := (.seq (.assign 2 (.bin .sub (.bin .mod (.call 20 (.cons (.var 0) (.cons (.var 1) .nil))) (.cint 19)) (.cint 9)))
 (.seq (.ite (.cmp .eq (.bin .mod (.call 20 (.cons (.var 0) (.cons (.bin .add (.var 1) (.cint 3)) .nil))) (.cint 8)) (.cint 1)) (.seq (.assign 2 (.bin .sub (.bin .mod (.call 20 (.cons (.var 0) (.cons (.var 1) .nil))) (.cint 2000001)) (.bin .pow (.cint 10) (.cint 6))))
 .skip) .skip)
 t_law_quad_2))
noncomputable def v_law_quad : List Str := ["_law_script", "_law_k", "_law_p", "_law_q", "_law_r"]
/- 35: _law_two_quads(_law_script) rank 3; vars 0=_law_script, 1=_law_one, 2=_law_two_here, 3=_law_way -/
noncomputable def t_law_two_quads_1 : PS := (.seq (.ret (.tup (.cons (.var 1) (.cons (.var 2) .nil))))
 .skip)
noncomputable def t_law_two_quads_2 : PS := (.seq (.ite (.cmp .eq (.var 3) (.cint 5)) (.seq (.assign 2 (.tup (.cons (.idx (.var 1) (.cint 0)) (.cons (.idx (.var 1) (.cint 1)) (.cons (.idx (.var 1) (.cint 2)) (.cons (.idx (.var 1) (.cint 3)) .nil))))))
 .skip) .skip)
 t_law_two_quads_1)
noncomputable def t_law_two_quads_3 : PS := (.seq (.ite (.or (.cons (.cmp .eq (.var 3) (.cint 3)) (.cons (.cmp .eq (.var 3) (.cint 4)) .nil))) (.seq (.assign 2 (.tup (.cons (.idx (.var 2) (.cint 0)) (.cons (.idx (.var 2) (.cint 1)) (.cons (.idx (.var 2) (.cint 2)) (.cons (.idx (.var 1) (.cint 3)) .nil))))))
 .skip) .skip)
 t_law_two_quads_2)
noncomputable def t_law_two_quads_4 : PS := (.seq (.ite (.cmp .eq (.var 3) (.cint 2)) (.seq (.assign 2 (.tup (.cons (.idx (.var 1) (.cint 0)) (.cons (.bin .sub (.cint 0) (.idx (.var 1) (.cint 1))) (.cons (.idx (.var 1) (.cint 2)) (.cons (.idx (.var 1) (.cint 3)) .nil))))))
 .skip) .skip)
 t_law_two_quads_3)
noncomputable def b_law_two_quads : PS := (.seq (.assign 1 (.call 34 (.cons (.var 0) (.cons (.cint 0) .nil))))
 (.seq (.assign 2 (.call 34 (.cons (.var 0) (.cons (.cint 4) .nil))))
 (.seq (.assign 3 (.bin .mod (.call 20 (.cons (.var 0) (.cons (.cint 8) .nil))) (.cint 8)))
 (.seq (.ite (.cmp .eq (.var 3) (.cint 1)) (.seq (.assign 2 (.tup (.cons (.bin .sub (.cint 0) (.idx (.var 1) (.cint 0))) (.cons (.bin .sub (.cint 0) (.idx (.var 1) (.cint 1))) (.cons (.idx (.var 1) (.cint 2)) (.cons (.idx (.var 1) (.cint 3)) .nil))))))
 .skip) .skip)
 t_law_two_quads_4))))
noncomputable def v_law_two_quads : List Str := ["_law_script", "_law_one", "_law_two_here", "_law_way"]
/- 36: _law_other_row(_law_one, _law_draw) rank 2; vars 0=_law_one, 1=_law_draw, 2=_law_far -/
noncomputable def b_law_other_row : PS := (.seq (.assign 2 (.bin .add (.bin .pow (.cint 10) (.cint 8)) (.bin .mod (.var 1) (.cint 1000))))
 (.seq (.ret (.tup (.cons (.bi .tuple (.cons (.call 24 (.cons (.bi .list (.cons (.idx (.var 0) (.cint 0)) .nil)) (.cons (.lst (.cons (.bin .mul (.var 2) (.bin .sub (.cint 1) (.bin .mul (.cint 2) (.bin .mod (.var 1) (.cint 2))))) (.cons (.cint 1) .nil))) .nil))) .nil)) (.cons (.idx (.var 0) (.cint 1)) (.cons (.idx (.var 0) (.cint 2)) .nil)))))
 .skip))
noncomputable def v_law_other_row : List Str := ["_law_one", "_law_draw", "_law_far"]
/- 37: _law_is(_law_found, _law_due) rank 2; vars 0=_law_found, 1=_law_due -/
noncomputable def b_law_is : PS := (.seq (.ret (.and (.cons (.call 19 (.cons (.var 0) .nil)) (.cons (.cmp .eq (.var 0) (.var 1)) .nil))))
 .skip)
noncomputable def v_law_is : List Str := ["_law_found", "_law_due"]
/- 38: _law_near(_law_cell) rank 7; vars 0=_law_cell, 1=_law_many_here, 2=_law_root, 3=_law_at, 4=_law_other -/
noncomputable def t_law_near_1 : PS := (.seq (.assign 4 (.tup (.cons (.tup (.cons (.bin .sub (.neg (.cint 2)) (.bin .mul (.var 1) (.var 1))) (.cons (.cint 0) (.cons (.cint 1) .nil)))) (.cons (.tup (.cons (.var 1) (.cons (.cint 1) .nil))) (.cons (.tup (.cons (.bin .add (.var 1) (.cint 2)) (.cons (.cint 1) .nil))) .nil)))))
 (.seq (.ret (.and (.cons (.call 37 (.cons (.call 17 (.cons (.var 2) (.cons (.var 4) .nil))) (.cons (.neg (.cint 1)) .nil))) (.cons (.call 37 (.cons (.call 17 (.cons (.var 4) (.cons (.var 2) .nil))) (.cons (.cint 1) .nil))) .nil))))
 .skip))
noncomputable def t_law_near_2 : PS := (.seq (.assign 3 (.call 22 (.cons (.bin .add (.bin .mul (.bin .mul (.cint 2) (.var 1)) (.var 1)) (.cint 1)) (.cons (.bin .mul (.cint 2) (.var 1)) .nil))))
 (.seq (.ite (.cmp .eq (.bin .mod (.var 0) (.cint 3)) (.cint 1)) (.seq (.ret (.and (.cons (.call 37 (.cons (.call 17 (.cons (.var 2) (.cons (.call 12 (.cons (.var 3) .nil)) .nil))) (.cons (.neg (.cint 1)) .nil))) (.cons (.call 37 (.cons (.call 17 (.cons (.call 12 (.cons (.var 3) .nil)) (.cons (.var 2) .nil))) (.cons (.cint 1) .nil))) .nil))))
 .skip) .skip)
 t_law_near_1))
noncomputable def b_law_near : PS := (.seq (.assign 1 (.bin .add (.cint 1) (.bin .mod (.bin .fdiv (.var 0) (.cint 3)) (.bin .pow (.cint 10) (.cint 7)))))
 (.seq (.assign 2 (.tup (.cons (.tup (.cons (.bin .sub (.neg (.cint 1)) (.bin .mul (.var 1) (.var 1))) (.cons (.cint 0) (.cons (.cint 1) .nil)))) (.cons (.tup (.cons (.var 1) (.cons (.cint 1) .nil))) (.cons (.tup (.cons (.bin .add (.var 1) (.cint 1)) (.cons (.cint 1) .nil))) .nil)))))
 (.seq (.ite (.cmp .eq (.bin .mod (.var 0) (.cint 3)) (.cint 0)) (.seq (.ret (.and (.cons (.call 37 (.cons (.call 17 (.cons (.var 2) (.cons (.call 12 (.cons (.tup (.cons (.var 1) (.cons (.cint 1) .nil))) .nil)) .nil))) (.cons (.cint 1) .nil))) (.cons (.call 37 (.cons (.call 17 (.cons (.call 12 (.cons (.tup (.cons (.var 1) (.cons (.cint 1) .nil))) .nil)) (.cons (.var 2) .nil))) (.cons (.neg (.cint 1)) .nil))) .nil))))
 .skip) .skip)
 t_law_near_2)))
noncomputable def v_law_near : List Str := ["_law_cell", "_law_many_here", "_law_root", "_law_at", "_law_other"]
/- 39: law(_law_script) rank 8; vars 0=_law_script, 1=_law_pair, 2=_law_one, 3=_law_two_here, 4=_law_a, 5=_law_b, 6=_law_left, 7=_law_right, 8=_law_gap, 9=_law_due, 10=_law_at -/
noncomputable def t_law_1 : PS := (.seq (.assign 10 (.call 22 (.cons (.bin .sub (.bin .mod (.call 20 (.cons (.var 0) (.cons (.cint 10) .nil))) (.cint 61)) (.cint 30)) (.cons (.bin .add (.cint 1) (.bin .mod (.call 20 (.cons (.var 0) (.cons (.cint 11) .nil))) (.cint 9))) .nil))))
 (.seq (.assign 9 (.call 26 (.cons (.bin .sub (.bin .mul (.idx (.var 2) (.cint 0)) (.idx (.var 10) (.cint 1))) (.bin .mul (.idx (.var 10) (.cint 0)) (.idx (.var 2) (.cint 2)))) (.cons (.bin .mul (.idx (.var 2) (.cint 1)) (.idx (.var 10) (.cint 1))) (.cons (.var 4) .nil)))))
 (.seq (.ret (.and (.cons (.call 37 (.cons (.call 17 (.cons (.var 6) (.cons (.call 12 (.cons (.var 10) .nil)) .nil))) (.cons (.var 9) .nil))) (.cons (.call 37 (.cons (.call 17 (.cons (.call 12 (.cons (.var 10) .nil)) (.cons (.var 6) .nil))) (.cons (.bin .sub (.cint 0) (.var 9)) .nil))) .nil))))
 .skip)))
noncomputable def t_law_2 : PS := (.seq (.ite (.nt (.call 37 (.cons (.call 18 (.cons (.var 7) .nil)) (.cons (.call 26 (.cons (.idx (.var 3) (.cint 0)) (.cons (.idx (.var 3) (.cint 1)) (.cons (.var 5) .nil)))) .nil)))) (.seq (.ret (.cbool false))
 .skip) .skip)
 t_law_1)
noncomputable def t_law_3 : PS := (.seq (.ite (.nt (.call 37 (.cons (.call 18 (.cons (.var 6) .nil)) (.cons (.call 26 (.cons (.idx (.var 2) (.cint 0)) (.cons (.idx (.var 2) (.cint 1)) (.cons (.var 4) .nil)))) .nil)))) (.seq (.ret (.cbool false))
 .skip) .skip)
 t_law_2)
noncomputable def t_law_4 : PS := (.seq (.assign 8 (.lst (.cons (.bin .sub (.bin .mul (.idx (.var 2) (.cint 0)) (.idx (.var 3) (.cint 2))) (.bin .mul (.idx (.var 3) (.cint 0)) (.idx (.var 2) (.cint 2)))) (.cons (.bin .mul (.idx (.var 2) (.cint 1)) (.idx (.var 3) (.cint 2))) (.cons (.bin .sub (.cint 0) (.bin .mul (.idx (.var 3) (.cint 1)) (.idx (.var 2) (.cint 2)))) (.cons (.cint 0) .nil))))))
 (.seq (.assign 9 (.call 27 (.cons (.var 8) (.cons (.var 4) (.cons (.var 5) .nil)))))
 (.seq (.ite (.or (.cons (.nt (.call 37 (.cons (.call 17 (.cons (.var 6) (.cons (.var 7) .nil))) (.cons (.var 9) .nil)))) (.cons (.nt (.call 37 (.cons (.call 17 (.cons (.var 7) (.cons (.var 6) .nil))) (.cons (.bin .sub (.cint 0) (.var 9)) .nil)))) .nil))) (.seq (.ret (.cbool false))
 .skip) .skip)
 t_law_3)))
noncomputable def t_law_5 : PS := (.seq (.ite (.cmp .eq (.bin .mod (.call 20 (.cons (.var 0) (.cons (.cint 9) .nil))) (.cint 4)) (.cint 3)) (.seq (.assign 6 (.call 36 (.cons (.var 6) (.cons (.bin .fdiv (.call 20 (.cons (.var 0) (.cons (.cint 9) .nil))) (.cint 4)) .nil))))
 .skip) .skip)
 t_law_4)
noncomputable def t_law_6 : PS := (.seq (.assign 1 (.call 35 (.cons (.var 0) .nil)))
 (.seq (.assign 2 (.idx (.var 1) (.cint 0)))
 (.seq (.assign 3 (.idx (.var 1) (.cint 1)))
 (.seq (.assign 4 (.idx (.var 2) (.cint 3)))
 (.seq (.assign 5 (.idx (.var 3) (.cint 3)))
 (.seq (.assign 6 (.call 33 (.cons (.idx (.var 2) (.cint 0)) (.cons (.idx (.var 2) (.cint 1)) (.cons (.idx (.var 2) (.cint 2)) (.cons (.var 4) .nil))))))
 (.seq (.assign 7 (.call 33 (.cons (.idx (.var 3) (.cint 0)) (.cons (.idx (.var 3) (.cint 1)) (.cons (.idx (.var 3) (.cint 2)) (.cons (.var 5) .nil))))))
 (.seq (.ite (.cmp .eq (.bin .mod (.call 20 (.cons (.var 0) (.cons (.cint 9) .nil))) (.cint 2)) (.cint 1)) (.seq (.assign 7 (.call 36 (.cons (.var 7) (.cons (.bin .fdiv (.call 20 (.cons (.var 0) (.cons (.cint 9) .nil))) (.cint 4)) .nil))))
 .skip) .skip)
 t_law_5))))))))
noncomputable def b_law : PS := (.seq (.ite (.cmp .eq (.bin .mod (.call 20 (.cons (.var 0) (.cons (.cint 12) .nil))) (.cint 6)) (.cint 1)) (.seq (.ret (.call 38 (.cons (.bin .fdiv (.call 20 (.cons (.var 0) (.cons (.cint 12) .nil))) (.cint 6)) .nil)))
 .skip) .skip)
 t_law_6)
noncomputable def v_law : List Str := ["_law_script", "_law_pair", "_law_one", "_law_two_here", "_law_a", "_law_b", "_law_left", "_law_right", "_law_gap", "_law_due", "_law_at"]
noncomputable def fnNames : List Str := [(Str.ofString "divisor"), (Str.ofString "part"), (Str.ofString "below"), (Str.ofString "part_sum"), (Str.ofString "part_product"), (Str.ofString "turned_about"), (Str.ofString "sign_at"), (Str.ofString "trimmed"), (Str.ofString "reduced"), (Str.ofString "without_last"), (Str.ofString "rest_of"), (Str.ofString "common"), (Str.ofString "of_part"), (Str.ofString "width_of"), (Str.ofString "narrowed"), (Str.ofString "halved"), (Str.ofString "is_same"), (Str.ofString "compare"), (Str.ofString "sign_of_peg"), (Str.ofString "_law_whole"), (Str.ofString "_law_cell_at"), (Str.ofString "_law_divisor"), (Str.ofString "_law_part"), (Str.ofString "_law_smallest"), (Str.ofString "_law_by"), (Str.ofString "_law_sign"), (Str.ofString "_law_two"), (Str.ofString "_law_four"), (Str.ofString "_law_mul"), (Str.ofString "_law_product"), (Str.ofString "_law_many"), (Str.ofString "_law_and"), (Str.ofString "_law_ends"), (Str.ofString "_law_quad_peg"), (Str.ofString "_law_quad"), (Str.ofString "_law_two_quads"), (Str.ofString "_law_other_row"), (Str.ofString "_law_is"), (Str.ofString "_law_near"), (Str.ofString "law")]
noncomputable def clsNames : List Str := ["PegError", "NoPart", "NoStretch", "ValueError"]
noncomputable def fnTab : List Fn := [⟨2, 3, b_divisor⟩, ⟨2, 3, b_part⟩, ⟨2, 2, b_below⟩, ⟨2, 2, b_part_sum⟩, ⟨2, 2, b_part_product⟩, ⟨1, 1, b_turned_about⟩, ⟨2, 5, b_sign_at⟩, ⟨1, 2, b_trimmed⟩, ⟨1, 3, b_reduced⟩, ⟨4, 7, b_without_last⟩, ⟨2, 3, b_rest_of⟩, ⟨2, 3, b_common⟩, ⟨1, 1, b_of_part⟩, ⟨1, 1, b_width_of⟩, ⟨2, 8, b_narrowed⟩, ⟨1, 1, b_halved⟩, ⟨2, 5, b_is_same⟩, ⟨2, 2, b_compare⟩, ⟨1, 4, b_sign_of_peg⟩, ⟨1, 1, b_law_whole⟩, ⟨2, 2, b_law_cell_at⟩, ⟨2, 3, b_law_divisor⟩, ⟨2, 3, b_law_part⟩, ⟨1, 3, b_law_smallest⟩, ⟨2, 5, b_law_by⟩, ⟨1, 1, b_law_sign⟩, ⟨3, 3, b_law_two⟩, ⟨3, 7, b_law_four⟩, ⟨3, 3, b_law_mul⟩, ⟨4, 8, b_law_product⟩, ⟨2, 2, b_law_many⟩, ⟨2, 2, b_law_and⟩, ⟨4, 5, b_law_ends⟩, ⟨4, 5, b_law_quad_peg⟩, ⟨2, 5, b_law_quad⟩, ⟨1, 4, b_law_two_quads⟩, ⟨2, 3, b_law_other_row⟩, ⟨2, 2, b_law_is⟩, ⟨1, 5, b_law_near⟩, ⟨1, 11, b_law⟩]
noncomputable def varTab : List (List Str) := [v_divisor, v_part, v_below, v_part_sum, v_part_product, v_turned_about, v_sign_at, v_trimmed, v_reduced, v_without_last, v_rest_of, v_common, v_of_part, v_width_of, v_narrowed, v_halved, v_is_same, v_compare, v_sign_of_peg, v_law_whole, v_law_cell_at, v_law_divisor, v_law_part, v_law_smallest, v_law_by, v_law_sign, v_law_two, v_law_four, v_law_mul, v_law_product, v_law_many, v_law_and, v_law_ends, v_law_quad_peg, v_law_quad, v_law_two_quads, v_law_other_row, v_law_is, v_law_near, v_law]
end L08
end Mine

set_option autoImplicit false
set_option linter.unusedVariables false
set_option linter.unusedSimpArgs false
set_option maxRecDepth 100000
namespace Mine
open PySem
open Re
theorem rq_one (n : Int) : rq n 1 = n := by
  have := rq_mul (p := n) (q := 1) (by decide)
  have one' : ((1 : Int) : Re) = 1 := rfl
  rw [one'] at this; grind
theorem low_one {n : Int} {k : Nat} (h : Sm (k + 1) n) : Low (k + 1) n 1 := ⟨h, Sm.one, by decide, Int.gcd_one⟩
theorem near_f {n : Int} (h1 : 1 ≤ n) (h2 : n ≤ 10000000) : 0 ≤ n * n ∧ n * n ≤ 100000000000000 ∧ Sm 26 n ∧ Sm 64 n := by
  have hnn := Int.mul_le_mul h2 h2 (by omega) (by decide)
  have s : Sm 26 n := sm_le (c := 10000000) (by (clear hnn; omega)) h2 (by unfold Sm; decide)
  exact ⟨Int.mul_nonneg (by (clear hnn s; omega)) (by (clear hnn s; omega)), hnn, s, s.mono (by decide)⟩
theorem near_hi {n c : Int} (h1 : 1 ≤ n) (hc : c = 1 ∨ c = 2) : n * n + c < (n + c) * (n + c) := by
  rcases hc with rfl | rfl
  · have : (n + 1) * (n + 1) = n * n + 2 * n + 1 := by grind
    omega
  · have : (n + 2) * (n + 2) = n * n + 4 * n + 4 := by grind
    omega
theorem near_pd {n c : Int} {d : Nat} (h1 : 1 ≤ n) (h2 : n ≤ 10000000) (hc : c = 1 ∨ c = 2) (hd : (d : Int) = n * n + c) : PD [-c - n * n, 0, 1] 1 (sqrt d) (rq n 1) (rq (n + c) 1) n 1 (n + c) 1 0 := by
  obtain ⟨f1, f2, f3, f4⟩ := near_f h1 h2
  have hn0 : 0 < n := h1
  have c0 : 0 < c := by (clear h1 h2 hd f1 f2 f3 f4 hn0; omega)
  have c2 : c ≤ 2 := by (clear h1 h2 hd f1 f2 f3 f4 hn0 c0; omega)
  have one' : ((1 : Int) : Re) = 1 := rfl
  have hlo : rq n 1 < sqrt d := by rw [rq_one]; exact lt_sqrt (by rw [hd]; exact Int.lt_add_of_pos_right _ c0)
  have hhi : sqrt d < rq (n + c) 1 := by rw [rq_one]; exact sqrt_lt (by (clear hc hd f1 f2 f3 f4 hn0 one' hlo; omega)) (by rw [hd]; exact near_hi h1 hc)
  have sq0 := sqrt_nonneg d
  have hn' := ic_pos hn0
  have ho : 2 * rq 0 1 - sqrt d < rq n 1 := by rw [rq_one, rq_one, ic_zero]; clear hlo hhi; grind
  have sc : Sm 26 c := sm_le (c := 2) (by (clear h1 h2 hc hd f1 f2 f3 f4 hn0 one' hlo hhi sq0 hn' ho; omega)) c2 (by unfold Sm; decide)
  have snn : Sm 52 (n * n) := f3.mul f3
  refine mk_pd (k := 27) (quad_rp (p := 0) (q := 1) (r := 1) (g := 1) (d := d) (by decide) (by decide) ?_ (by rw [one', ic_zero]; clear ho hlo hhi; grind) hlo hhi (.inl ho)) (Tr.cons (Tr.cons (Tr.one (by decide)))) (by simp) ?_ (by decide) (by decide) (by (clear hc hd f1 f2 f3 f4 hn0 c0 c2 one' hlo hhi sq0 hn' ho sc snn; omega)) (by (clear h1 h2 hc hd f1 f2 f3 f4 hn0 one' hlo hhi sq0 hn' ho sc snn; omega)) (by (clear hc hd f1 f2 f3 f4 hn0 one' hlo hhi sq0 hn' ho sc snn; omega)) (by (clear h1 h2 hc hd f1 f2 f3 f4 hn0 one' hlo hhi sq0 hn' ho sc snn; omega)) (low_one (k := 26) (f3.mono (by decide))) rfl (low_one (k := 26) (f3.add sc)) rfl
  · show [1 * (-c - n * n), 1 * 0, 1 * 1] = _
    have : (1 : Int) * (-c - n * n) = 0 * 0 - 1 * 1 * d := by (clear h1 h2 hc f1 f2 f3 f4 hn0 c0 c2 one' hlo hhi sq0 hn' ho sc snn; omega)
    rw [this]; rfl
  · exact .cons ((Sm.sub (sc.neg.mono (show 26 ≤ 52 by decide)) snn).mono (by decide)) (.cons Sm.zero (.cons Sm.one .nil))
theorem near_lt {n p q : Int} {d : Nat} (h1 : 1 ≤ n) (hq : 0 < q) (hd : (d : Int) = n * n + 1) (e : p * (2 * n) = (2 * n * n + 1) * q) : sqrt d < rq p q ∧ n * q ≤ p ∧ p ≤ (n + 1) * q := by
  have hn2 : 0 < 2 * n := by (clear hq hd e; omega)
  have k1 : n * q ≤ p := by
    have : (n * q) * (2 * n) ≤ p * (2 * n) := by rw [e]; have : (2 * n * n + 1) * q = (n * q) * (2 * n) + q := by grind
                                                 (clear h1 hd e hn2; omega)
    exact Int.le_of_mul_le_mul_right this hn2
  have k2 : p ≤ (n + 1) * q := by
    have : p * (2 * n) ≤ ((n + 1) * q) * (2 * n) := by
      rw [e]
      have e2 : ((n + 1) * q) * (2 * n) = (2 * n * n + 1) * q + (2 * n - 1) * q := by grind
      have := Int.mul_pos (show 0 < 2 * n - 1 by (clear hq hd e hn2 k1 e2; omega)) hq
      (clear h1 hq hd e hn2 k1; omega)
    exact Int.le_of_mul_le_mul_right this hn2
  refine ⟨?_, k1, k2⟩
  have hq' := ic_pos hq
  refine lt_of_mul hq' ?_
  rw [rq_mul (Int.ne_of_gt hq)]
  have hp : 0 ≤ p := Int.le_trans (Int.mul_nonneg (by (clear hq hd e hn2 k1 k2 hq'; omega)) (by (clear h1 hd e hn2 k1 k2 hq'; omega))) k1
  refine sq_lt_lt (by have := ic_le hp; rw [ic_zero] at this; exact this) ?_
  rw [show (q : Re) * sqrt d * (q * sqrt d) = q * q * (sqrt d * sqrt d) by grind, sqrt_sq', ← ic_mul, ← ic_mul, ← ic_mul]
  refine ic_lt ?_
  have e2 : (p * p) * ((2 * n) * (2 * n)) = (q * q * d) * ((2 * n) * (2 * n)) + q * q := by
    have : (p * (2 * n)) * (p * (2 * n)) = ((2 * n * n + 1) * q) * ((2 * n * n + 1) * q) := by rw [e]
    rw [hd]; grind
  have := Int.mul_pos hq hq
  have h4 : 0 < (2 * n) * (2 * n) := Int.mul_pos hn2 hn2
  exact Int.lt_of_mul_lt_mul_right (by (clear h1 hq hd e hn2 k1 k2 hq' hp h4; omega) : (q * q * d) * ((2 * n) * (2 * n)) < (p * p) * ((2 * n) * (2 * n))) (Int.le_of_lt h4)
theorem rsg_swap (x y : Re) : rsg (y - x) = - rsg (x - y) := by rw [← rsg_negx]; congr 1; grind
theorem sep_swap {x y : Re} (h : x ≠ y → 1 ≤ ((2 ^ 100 : Int) : Re) * ab (x - y)) : y ≠ x → 1 ≤ ((2 ^ 100 : Int) : Re) * ab (y - x) := fun hn => by
  have := h (fun e => hn e.symm)
  rw [show y - x = -(x - y) by grind, ab_neg]; exact this
theorem QD.sep {p q r p' q' r' : Int} {d d' : Nat} (h : QD p q r d) (h' : QD p' q' r' d') : ((r * r' : Int) : Re) * (qal p q r d - qal p' q' r' d') = ((p * r' - p' * r : Int) : Re) + ((q * r' : Int) : Re) * sqrt d + ((0 - q' * r : Int) : Re) * sqrt d' := by
  have e := qal_eq (p := p) (q := q) (d := d) (show 0 < r by have := h.r1; (clear h h'; omega))
  have e' := qal_eq (p := p') (q := q') (d := d') (show 0 < r' by have := h'.r1; (clear h h' e; omega))
  have z : ((0 : Int) : Re) = 0 := rfl
  simp only [ic_sub, ic_mul, z]
  rw [show (r : Re) * r' * (qal p q r d - qal p' q' r' d') = r' * (r * qal p q r d) - r * (r' * qal p' q' r' d') by grind, e, e']
  grind
theorem QD.apart {p q r p' q' r' : Int} {d d' : Nat} (h : QD p q r d) (h' : QD p' q' r' d') : qal p q r d ≠ qal p' q' r' d' → 1 ≤ ((2 ^ 100 : Int) : Re) * ab (qal p q r d - qal p' q' r' d') := by
  have r1 := h.r1; have r2 := h.r2; have r1' := h'.r1; have r2' := h'.r2
  have p1 := h.p1; have p2 := h.p2; have p1' := h'.p1; have p2' := h'.p2
  have q0 := h.q0; have q0' := h'.q0
  have hR : 0 < r * r' := Int.mul_pos (by (clear h h' r1' r2' p1 p2 p1' p2' q0 q0'; omega)) (by (clear h h' r1 r2 p1 p2 p1' p2' q0 q0'; omega))
  have hR2 : r * r' ≤ 49 := Int.mul_le_mul r2 r2' (by (clear h h' r1 r2 p1 p2 p1' p2' q0 q0' hR; omega)) (by decide)
  have bp := bd_int (n := p) (c := 1000000) (by (clear h h' r1 r2 r1' r2' p2 p1' p2' q0 q0' hR hR2; omega)) (by (clear h h' r1 r2 r1' r2' p1 p1' p2' q0 q0' hR hR2; omega))
  have bp' := bd_int (n := p') (c := 1000000) (by (clear h h' r1 r2 r1' r2' p1 p2 p2' q0 q0' hR hR2 bp; omega)) (by (clear h h' r1 r2 r1' r2' p1 p2 p1' q0 q0' hR hR2 bp; omega))
  have bq := bd_int (n := q) (c := 6) (by (clear h h' r1 r2 r1' r2' p1 p2 p1' p2' hR hR2 bp bp'; omega)) (by (clear h h' r1 r2 r1' r2' p1 p2 p1' p2' hR hR2 bp bp'; omega))
  have bq' := bd_int (n := q') (c := 6) (by (clear h h' r1 r2 r1' r2' p1 p2 p1' p2' q0 hR hR2 bp bp' bq; omega)) (by (clear h h' r1 r2 r1' r2' p1 p2 p1' p2' q0 hR hR2 bp bp' bq; omega))
  have br := bd_int (n := r) (c := 7) (by (clear h h' r1' r2' p1 p2 p1' p2' q0 q0' hR hR2 bp bp' bq bq'; omega)) (by (clear h h' r1 r1' r2' p1 p2 p1' p2' q0 q0' hR hR2 bp bp' bq bq'; omega))
  have br' := bd_int (n := r') (c := 7) (by (clear h h' r1 r2 p1 p2 p1' p2' q0 q0' hR hR2 bp bp' bq bq' br; omega)) (by (clear h h' r1 r2 r1' p1 p2 p1' p2' q0 q0' hR hR2 bp bp' bq bq' br; omega))
  have z0 := bd_int (n := 0) (c := 0) (by decide) (by decide)
  have hx : ab (((p * r' - p' * r : Int)) : Re) ≤ ((14000000 : Int) : Re) := by rw [ic_sub, ic_mul, ic_mul]; exact bd_mono (bd_sub (bd_mul bp br') (bd_mul bp' br)) (by decide)
  have hy : ab (((q * r' : Int)) : Re) ≤ ((42 : Int) : Re) := by rw [ic_mul]; exact bd_mono (bd_mul bq br') (by decide)
  have hz : ab (((0 - q' * r : Int)) : Re) ≤ ((42 : Int) : Re) := by rw [ic_sub, ic_mul]; exact bd_mono (bd_sub z0 (bd_mul bq' br)) (by decide)
  refine sep_two (S := 6) hR (show 0 < d' from h'.d1) (h.sep h') hx hy hz (bd_sqrt (by decide) (by have := h.d2; (clear h h' r1 r2 r1' r2' p1 p2 p1' p2' q0 q0' hR hR2 bp bp' bq bq' br br' z0 hx hy hz; omega))) (bd_sqrt (by decide) (by have := h'.d2; (clear h h' r1 r2 r1' r2' p1 p2 p1' p2' q0 q0' hR hR2 bp bp' bq bq' br br' z0 hx hy hz; omega))) ?_
  exact Int.le_trans (Int.mul_le_mul_of_nonneg_right hR2 (by decide)) (by decide)
theorem QD.sepP {p q r a b : Int} {d : Nat} (h : QD p q r d) (hb : 0 < b) : ((r * b : Int) : Re) * (qal p q r d - rq a b) = ((p * b - a * r : Int) : Re) + ((q * b : Int) : Re) * sqrt d := by
  have e := qal_eq (p := p) (q := q) (d := d) (show 0 < r by have := h.r1; (clear h hb; omega))
  have e' := rq_mul (p := a) (Int.ne_of_gt hb)
  simp only [ic_sub, ic_mul]
  rw [show (r : Re) * b * (qal p q r d - rq a b) = b * (r * qal p q r d) - r * (b * rq a b) by grind, e, e']
  grind
theorem bd_sm5 {x : Int} (h : Sm 5 x) : ab (x : Re) ≤ ((32 : Int) : Re) := by
  unfold Sm at h
  exact bd_int (by omega) (by omega)
theorem QD.apartP {p q r a b : Int} {d : Nat} (h : QD p q r d) (L : Low 5 a b) : qal p q r d ≠ rq a b → 1 ≤ ((2 ^ 100 : Int) : Re) * ab (qal p q r d - rq a b) := by
  have r1 := h.r1; have r2 := h.r2
  have q0 := h.q0
  have hb := L.pos
  have hR : 0 < r * b := Int.mul_pos (by (clear h L q0 hb; omega)) hb
  have hR2 : r * b ≤ 224 := Int.mul_le_mul r2 (show b ≤ 32 by have := L.bot; unfold Sm at this; (clear h L r1 r2 q0 hb hR; omega)) (Int.le_of_lt hb) (by decide)
  have bp := bd_int (n := p) (c := 1000000) h.p1 h.p2
  have ba := bd_sm5 L.top
  have bq := bd_int (n := q) (c := 6) (by (clear h L r1 r2 hb hR hR2 bp ba; omega)) (by (clear h L r1 r2 hb hR hR2 bp ba; omega))
  have br := bd_int (n := r) (c := 7) (by (clear h L q0 hb hR hR2 bp ba bq; omega)) r2
  have bb := bd_sm5 L.bot
  have hx : ab (((p * b - a * r : Int)) : Re) ≤ ((90000210 : Int) : Re) := by rw [ic_sub, ic_mul, ic_mul]; exact bd_mono (bd_sub (bd_mul bp bb) (bd_mul ba br)) (by decide)
  have hy : ab (((q * b : Int)) : Re) ≤ ((192 : Int) : Re) := by rw [ic_mul]; exact bd_mono (bd_mul bq bb) (by decide)
  refine sep_one (S := 6) hR (h.sepP hb) hx hy (bd_sqrt (by decide) (by have := h.d2; (clear h L r1 r2 q0 hb hR hR2 bp ba bq br bb hx hy; omega))) ?_
  exact Int.le_trans (Int.mul_le_mul_of_nonneg_right hR2 (by decide)) (by decide)
theorem near_ap {n p q : Int} {d : Nat} (h1 : 1 ≤ n) (h2 : n ≤ 10000000) (hd : (d : Int) = n * n + 1) (hq : 0 < q) (hq2 : q ≤ 20000000) (hp : 0 ≤ p) (hp2 : p ≤ 300000000000000) : sqrt d ≠ rq p q → 1 ≤ ((2 ^ 100 : Int) : Re) * ab (sqrt d - rq p q) := by
  have hnn := Int.mul_le_mul h2 h2 (by (clear hd hq hq2 hp hp2; omega)) (by decide)
  have e' := rq_mul (p := p) (Int.ne_of_gt hq)
  refine sep_one (R := q) (u := -p) (v := q) (U := 300000000000000) (Y := 20000000) (S := 20000000) hq ?_ (bd_int (by (clear h1 h2 hd hq hq2 hnn e'; omega)) (by (clear h1 h2 hd hq hq2 hnn e'; omega))) (bd_int (by (clear h1 h2 hd hp hp2 hnn e'; omega)) (by (clear h1 h2 hd hq hp hp2 hnn e'; omega))) (bd_sqrt (d := d) (by decide) (by (clear h1 h2 hq hq2 hp hp2 e'; omega))) ?_
  · rw [ic_neg, ← e']; grind
  · exact Int.le_trans (Int.mul_le_mul_of_nonneg_right hq2 (by decide)) (by decide)
theorem near_ap2 {n : Int} {d d' : Nat} (h1 : 1 ≤ n) (h2 : n ≤ 10000000) (hd : (d : Int) = n * n + 1) (hd' : (d' : Int) = n * n + 2) : sqrt d ≠ sqrt d' → 1 ≤ ((2 ^ 100 : Int) : Re) * ab (sqrt d - sqrt d') := by
  have hnn := Int.mul_le_mul h2 h2 (by (clear hd hd'; omega)) (by decide)
  have hn0 : 0 ≤ n * n := Int.mul_nonneg (by (clear hd hd' hnn; omega)) (by (clear hd hd' hnn; omega))
  have one' : ((1 : Int) : Re) = 1 := rfl
  refine sep_two (R := 1) (x := 0) (y := 1) (z := -1) (X := 0) (Y := 1) (S := 20000000) (by decide) (show 0 < d' by (clear h1 h2 one'; omega)) ?_ (bd_int (by decide) (by decide)) (bd_int (by decide) (by decide)) (bd_int (by decide) (by decide)) (bd_sqrt (d := d) (by decide) (by (clear h1 h2 one'; omega))) (bd_sqrt (d := d') (by decide) (by (clear h1 h2 one'; omega))) (by decide)
  rw [ic_neg, one', ic_zero]; grind
theorem rsg_scale {R : Int} (hR : 0 < R) {x y : Re} (e : (R : Re) * x = y) : rsg y = rsg x := by rw [← e, rsg_mul, rsg_pos (ic_pos hR), Int.one_mul]
theorem QD.sgn1 {p q r : Int} {d : Nat} (h : QD p q r d) : twoS p q d = rsg (qal p q r d) := by
  have hr : 0 < r := by have := h.r1; (clear h; omega)
  rw [two_rsg p q h.d1]; exact rsg_scale hr (qal_eq hr)
theorem QD.sgnP {p q r a b : Int} {d : Nat} (h : QD p q r d) (hb : 0 < b) : twoS (p * b - a * r) (q * b) d = rsg (qal p q r d - rq a b) := by
  rw [two_rsg _ _ h.d1]; exact rsg_scale (R := r * b) (Int.mul_pos (by have := h.r1; (clear h hb; omega)) hb) (h.sepP hb)
theorem QD.sgnQ {p q r p' q' r' : Int} {d d' : Nat} (h : QD p q r d) (h' : QD p' q' r' d') : four (p * r' - p' * r) (q * r') (0 - q' * r) 0 d d' = rsg (qal p q r d - qal p' q' r' d') := by
  rw [four_rsg _ _ _ _ h.d1 h'.d1]
  refine rsg_scale (R := r * r') (Int.mul_pos (by have := h.r1; (clear h h'; omega)) (by have := h'.r1; (clear h h'; omega))) ?_
  rw [h.sep h']
  have z : ((0 : Int) : Re) = 0 := rfl
  rw [z]; grind
namespace L08
noncomputable def nosub : Nat → Nat → Bool := fun _ _ => false
section
variable {n : Nat} {H : Hp} {Q : V → Hp → Prop} {X : Nat → Hp → Prop}
theorem s_cmp {A B : List Int} {N M : Int} {al bb lo1 hi1 lo2 hi2 : Re} {p1 q1 p2 q2 r1 s1 r2 s2 : Int} (dA : PD A N al lo1 hi1 p1 q1 p2 q2 0) (dB : PD B M bb lo2 hi2 r1 s1 r2 s2 0) (hs : al ≠ bb → 1 ≤ ((2 ^ 100 : Int) : Re) * ab (al - bb))
    (hQ : ∀ H', H <+: H' → Q (.int (rsg (al - bb))) H') : callN nosub fnTab (n + 6) 17 [pvv A p1 q1 p2 q2, pvv B r1 s1 r2 s2] H Q X :=
  s_comp (sa := 16) (be := 2) (ha := 15) (co := 11) (sg := 6) (ro := 10) (re := 8) (tr := 7) (wl := 9) (dv := 0) (na := 14) (pr := 4) (wo := 13) (ps := 3) (ta := 5) (pa := 1) (kc := 2) rfl rfl rfl rfl rfl rfl rfl rfl rfl rfl rfl rfl rfl rfl rfl rfl rfl dA dB rfl rfl hs hQ
theorem s_of {p q : Int} {k : Nat} (h : Low k p q) (hk : k ≤ 200) (hQ : ∀ p1 q1 p2 q2, Low (k + 3) p1 q1 → p1 * q = (p - q) * q1 → Low (k + 3) p2 q2 → p2 * q = (p + q) * q2 → Q (pvv [-p, q] p1 q1 p2 q2) H) : callN nosub fnTab (n + 4) 12 [pt p q] H Q X :=
  s_ofp (ps := 3) (pa := 1) (dv := 0) rfl rfl rfl rfl h hk hQ
theorem s_isl {x y : Int} (h : x = y) (hQ : Q (.bool true) H) : callN nosub fnTab (n + 2) 37 [.int x, .int y] H Q X := s_is (wh := 19) rfl rfl h hQ
theorem s_near1 {W : Nat → Prop} {NN : Loc → Hp → Prop} {R : V → Hp → Prop} {Y : Nat → Hp → Prop} {m : Int} {o3 : Option V} {v : V} (h1 : 1 ≤ m) (h2 : m ≤ 10000000) (hQ : ∀ H', H <+: H' → R (.bool true) H') :
    wpS nosub (callN nosub fnTab (n + 6)) W t_law_near_1 [some v, some (.int m), some (pvv [-1 - m * m, 0, 1] m 1 (m + 1) 1), o3, none] H NN R Y := by
  obtain ⟨hn0, hnn, sm26, sm⟩ := near_f h1 h2
  obtain ⟨d, hd⟩ : ∃ d : Nat, (d : Int) = m * m + 1 := ⟨(m * m + 1).toNat, by (clear h1 h2 hQ sm26 sm; omega)⟩
  obtain ⟨d', hd'⟩ : ∃ d : Nat, (d : Int) = m * m + 2 := ⟨(m * m + 2).toNat, by (clear h1 h2 hQ sm26 sm; omega)⟩
  have P1 := near_pd h1 h2 (.inl rfl) hd
  have P2 := near_pd h1 h2 (.inr rfl) hd'
  have ap := near_ap2 h1 h2 hd hd'
  have lt : sqrt d < sqrt d' := sq_lt_lt (sqrt_nonneg _) (by rw [sqrt_sq', sqrt_sq']; exact ic_lt (by (clear h1 h2 hQ hn0 hnn sm26 sm P1 P2 ap; omega)))
  have s1 : rsg (sqrt d - sqrt d') = -1 := rsg_neg (by exact l_sn (lt))
  have s2 : rsg (sqrt d' - sqrt d) = 1 := rsg_pos (by exact l_sp (lt))
  dsimp only [t_law_near_1, qS1, qS2, qS3, qS4, qS5, qS7, qS9, qS10, qS11, qS12, qS13, qS14, qE1, qE2, qE5, qE7, qE8, qE9, qE10, qE11, qE12, qE13, qE14, qE15, qE16, qE17, qE18, qE19, qE20, qE21, qE22, qEs1, qEs2, wpAll, qO1, qO2, qI1, qI2, qI3, w_add, w_addl, w_sub, w_mul, w_mull, w_fdiv, w_mod, w_pow, w_lt, w_le, w_gt, w_ge, w_eq, w_ne, w_isn, w_ist, w_isi, w_isl, w_abs, w_lent, w_lenl, w_intb, w_list, w_tuple, w_min, w_idxt0, w_idxt1, w_idxu0, w_idxu1, w_idxu2, w_idxl, w_slcl, w_tb, w_ti, w_tn, w_tt, w_tl, w_itt, w_itl, w_bindT1, w_bindT2, w_srcl, w_srct, w_cut2, w_cut1, w_cut1', w_cut0, w_ty1, w_ty2, w_ty3, w_ty4, w_ty5, w_ty6, w_ty7, w_ty8, w_ty9, w_ty10, w_ty11, w_ty12, w_ty13, w_ty14, w_ty15, w_ty16, w_ty17, w_ty18, w_ty19, w_ty20, w_ty21, w_mapc, w_mapn, w_appc, w_appn, w_repc, w_repn, w_start, w_lenc, w_ifT, w_ifF, w_ifFF, w_ifTF, w_nT, w_nF, w_anyT, w_anyF, w_d22, ifSome_some, ifLst_lst, ifTup_tup, ifInt_int, lget, lset, lsets, Nat.reduceSub, Nat.reduceAdd, List.length_nil, ↓reduceIte]
  refine ⟨IntMulOk.left sm, ?_⟩
  refine s_cmp P1 P2 ap fun H1 hp1 => ?_
  refine s_isl s1 ?_
  dsimp only [qS1, qS2, qS3, qS4, qS5, qS7, qS9, qS10, qS11, qS12, qS13, qS14, qE1, qE2, qE5, qE7, qE8, qE9, qE10, qE11, qE12, qE13, qE14, qE15, qE16, qE17, qE18, qE19, qE20, qE21, qE22, qEs1, qEs2, wpAll, qO1, qO2, qI1, qI2, qI3, w_add, w_addl, w_sub, w_mul, w_mull, w_fdiv, w_mod, w_pow, w_lt, w_le, w_gt, w_ge, w_eq, w_ne, w_isn, w_ist, w_isi, w_isl, w_abs, w_lent, w_lenl, w_intb, w_list, w_tuple, w_min, w_idxt0, w_idxt1, w_idxu0, w_idxu1, w_idxu2, w_idxl, w_slcl, w_tb, w_ti, w_tn, w_tt, w_tl, w_itt, w_itl, w_bindT1, w_bindT2, w_srcl, w_srct, w_cut2, w_cut1, w_cut1', w_cut0, w_ty1, w_ty2, w_ty3, w_ty4, w_ty5, w_ty6, w_ty7, w_ty8, w_ty9, w_ty10, w_ty11, w_ty12, w_ty13, w_ty14, w_ty15, w_ty16, w_ty17, w_ty18, w_ty19, w_ty20, w_ty21, w_mapc, w_mapn, w_appc, w_appn, w_repc, w_repn, w_start, w_lenc, w_ifT, w_ifF, w_ifFF, w_ifTF, w_nT, w_nF, w_anyT, w_anyF, w_d22, ifSome_some, ifLst_lst, ifTup_tup, ifInt_int, lget, lset, lsets, Nat.reduceSub, Nat.reduceAdd, List.length_nil, ↓reduceIte]
  refine s_cmp P2 P1 (sep_swap ap) fun H2 hp2 => ?_
  refine s_isl s2 ?_
  exact hQ _ (preTrans hp1 hp2)
theorem s_near2 {W : Nat → Prop} {NN : Loc → Hp → Prop} {R : V → Hp → Prop} {Y : Nat → Hp → Prop} {m c : Int} (h1 : 1 ≤ m) (h2 : m ≤ 10000000) (hQ : ∀ H', H <+: H' → R (.bool true) H') :
    wpS nosub (callN nosub fnTab (n + 6)) W t_law_near_2 [some (.int c), some (.int m), some (pvv [-1 - m * m, 0, 1] m 1 (m + 1) 1), none, none] H NN R Y := by
  have fin : ∀ o3, wpS nosub (callN nosub fnTab (n + 6)) W t_law_near_1 [some (.int c), some (.int m), some (pvv [-1 - m * m, 0, 1] m 1 (m + 1) 1), o3, none] H NN R Y := fun o3 => s_near1 h1 h2 hQ
  obtain ⟨hn0, hnn, sm26, sm⟩ := near_f h1 h2
  obtain ⟨d, hd⟩ : ∃ d : Nat, (d : Int) = m * m + 1 := ⟨(m * m + 1).toNat, by (clear h1 h2 hQ fin sm26 sm; omega)⟩
  have P1 := near_pd h1 h2 (.inl rfl) hd
  have em : 2 * m * m = 2 * (m * m) := Int.mul_assoc _ _ _
  have s2m : Sm 60 (2 * m) := (Sm.mul (show Sm 2 2 by unfold Sm; decide) sm26).mono (by decide)
  have sA : Sm 60 (2 * m * m + 1) := (Sm.add (((Sm.mul (show Sm 2 2 by unfold Sm; decide) sm26).mul sm26).mono (show _ ≤ 59 by decide)) Sm.one).mono (by decide)
  dsimp only [t_law_near_2]
  revert fin
  generalize t_law_near_1 = T
  intro fin
  dsimp only [qS1, qS2, qS3, qS4, qS5, qS7, qS9, qS10, qS11, qS12, qS13, qS14, qE1, qE2, qE5, qE7, qE8, qE9, qE10, qE11, qE12, qE13, qE14, qE15, qE16, qE17, qE18, qE19, qE20, qE21, qE22, qEs1, qEs2, wpAll, qO1, qO2, qI1, qI2, qI3, w_add, w_addl, w_sub, w_mul, w_mull, w_fdiv, w_mod, w_pow, w_lt, w_le, w_gt, w_ge, w_eq, w_ne, w_isn, w_ist, w_isi, w_isl, w_abs, w_lent, w_lenl, w_intb, w_list, w_tuple, w_min, w_idxt0, w_idxt1, w_idxu0, w_idxu1, w_idxu2, w_idxl, w_slcl, w_tb, w_ti, w_tn, w_tt, w_tl, w_itt, w_itl, w_bindT1, w_bindT2, w_srcl, w_srct, w_cut2, w_cut1, w_cut1', w_cut0, w_ty1, w_ty2, w_ty3, w_ty4, w_ty5, w_ty6, w_ty7, w_ty8, w_ty9, w_ty10, w_ty11, w_ty12, w_ty13, w_ty14, w_ty15, w_ty16, w_ty17, w_ty18, w_ty19, w_ty20, w_ty21, w_mapc, w_mapn, w_appc, w_appn, w_repc, w_repn, w_start, w_lenc, w_ifT, w_ifF, w_ifFF, w_ifTF, w_nT, w_nF, w_anyT, w_anyF, w_d22, ifSome_some, ifLst_lst, ifTup_tup, ifInt_int, lget, lset, lsets, Nat.reduceSub, Nat.reduceAdd, List.length_nil, ↓reduceIte]
  refine ⟨IntMulOk.right sm, IntMulOk.right sm, IntMulOk.right sm, ?_⟩
  refine s_lp (dv := 21) (k := 60) (a := 2 * m * m + 1) (b := 2 * m) rfl rfl (show 0 < 2 * m by (clear hQ hn0 hnn sm26 sm hd P1 em s2m sA fin; omega)) sA s2m (by decide) fun p q L e => ?_
  obtain ⟨lt, k1, k2⟩ := near_lt h1 L.pos hd e
  have hm2 : 0 < 2 * m := by (clear hQ hn0 hnn sm26 sm hd P1 em s2m sA fin L e lt k1 k2; omega)
  obtain ⟨g, hg, eg1, eg2⟩ := low_le L.one L.pos hm2 e
  have hq2 : q ≤ 20000000 := Int.le_trans (Int.le_of_dvd hm2 ⟨g, eg1⟩) (by (clear hQ hn0 hnn sm26 sm hd P1 em s2m sA fin L e lt k1 k2 hm2 hg eg1 eg2; omega))
  have hp0 : 0 ≤ p := Int.le_trans (Int.mul_nonneg (by (clear hQ hn0 hnn sm26 sm hd P1 em s2m sA fin L e lt k1 k2 hm2 hg eg1 eg2 hq2; omega)) (Int.le_of_lt L.pos)) k1
  have hp2 : p ≤ 300000000000000 := Int.le_trans (Int.le_of_dvd (by (clear h1 h2 hQ sm26 sm P1 s2m sA fin L e lt k1 k2 hm2 hg eg1 eg2 hq2 hp0; omega)) ⟨g, eg2⟩) (by (clear h1 h2 hQ sm26 sm P1 s2m sA fin L e lt k1 k2 hm2 hg eg1 eg2 hq2 hp0; omega))
  have s1 : rsg (sqrt d - rq p q) = -1 := rsg_neg (by exact l_sn (lt))
  have s2 : rsg (rq p q - sqrt d) = 1 := rsg_pos (by exact l_sp (lt))
  have ap := near_ap h1 h2 hd L.pos hq2 hp0 hp2
  have hb : ∃ m : Int, -1000000000 ≤ m ∧ m ≤ 1000000000 ∧ (m : Re) ≤ rq p q ∧ rq p q ≤ ((m + 1 : Int) : Re) := by
    refine ⟨m, by (clear hQ hn0 hnn sm26 sm hd P1 em s2m sA fin L e lt k1 k2 hm2 hg eg1 eg2 hq2 hp0 hp2 s1 s2 ap; omega), by (clear hQ hn0 hnn sm26 sm hd P1 em s2m sA fin L e lt k1 k2 hm2 hg eg1 eg2 hq2 hp0 hp2 s1 s2 ap; omega), ?_, ?_⟩
    · refine Std.not_lt.mp fun hl => ?_
      have := mul_pos (ic_pos L.pos) (show 0 < (m : Re) - rq p q by exact l_sp (hl))
      have k := ic_le k1
      rw [ic_mul, ← rq_mul (p := p) (Int.ne_of_gt L.pos)] at k
      clear lt s1 s2 ap P1 hl; grind
    · refine Std.not_lt.mp fun hl => ?_
      have := mul_pos (ic_pos L.pos) (show 0 < rq p q - ((m + 1 : Int) : Re) by exact l_sp (hl))
      have k := ic_le k2
      rw [ic_mul, ← rq_mul (p := p) (Int.ne_of_gt L.pos)] at k
      generalize ((m + 1 : Int) : Re) = z at *
      clear lt s1 s2 ap P1 hl; grind
  by_cases hc : c.fmod 3 = 1
  · refine ⟨by decide, ?_⟩
    rw [decide_eq_true hc]
    dsimp only [qS1, qS2, qS3, qS4, qS5, qS7, qS9, qS10, qS11, qS12, qS13, qS14, qE1, qE2, qE5, qE7, qE8, qE9, qE10, qE11, qE12, qE13, qE14, qE15, qE16, qE17, qE18, qE19, qE20, qE21, qE22, qEs1, qEs2, wpAll, qO1, qO2, qI1, qI2, qI3, w_add, w_addl, w_sub, w_mul, w_mull, w_fdiv, w_mod, w_pow, w_lt, w_le, w_gt, w_ge, w_eq, w_ne, w_isn, w_ist, w_isi, w_isl, w_abs, w_lent, w_lenl, w_intb, w_list, w_tuple, w_min, w_idxt0, w_idxt1, w_idxu0, w_idxu1, w_idxu2, w_idxl, w_slcl, w_tb, w_ti, w_tn, w_tt, w_tl, w_itt, w_itl, w_bindT1, w_bindT2, w_srcl, w_srct, w_cut2, w_cut1, w_cut1', w_cut0, w_ty1, w_ty2, w_ty3, w_ty4, w_ty5, w_ty6, w_ty7, w_ty8, w_ty9, w_ty10, w_ty11, w_ty12, w_ty13, w_ty14, w_ty15, w_ty16, w_ty17, w_ty18, w_ty19, w_ty20, w_ty21, w_mapc, w_mapn, w_appc, w_appn, w_repc, w_repn, w_start, w_lenc, w_ifT, w_ifF, w_ifFF, w_ifTF, w_nT, w_nF, w_anyT, w_anyF, w_d22, ifSome_some, ifLst_lst, ifTup_tup, ifInt_int, lget, lset, lsets, Nat.reduceSub, Nat.reduceAdd, List.length_nil, ↓reduceIte]
    refine s_of L (by decide) fun p1 q1 p2 q2 l1 e1 l2 e2 => ?_
    have P2 := part_pd' L (by decide) (by (clear h1 h2 hQ hn0 hnn sm26 sm hd P1 em s2m sA fin L e lt k1 k2 hm2 hg eg1 eg2 hp0 hp2 s1 s2 ap hc l1 e1 l2 e2; omega)) hb l1 e1 l2 e2
    refine s_cmp P1 P2 ap fun H1 hp1 => ?_
    refine s_isl s1 ?_
    dsimp only [qS1, qS2, qS3, qS4, qS5, qS7, qS9, qS10, qS11, qS12, qS13, qS14, qE1, qE2, qE5, qE7, qE8, qE9, qE10, qE11, qE12, qE13, qE14, qE15, qE16, qE17, qE18, qE19, qE20, qE21, qE22, qEs1, qEs2, wpAll, qO1, qO2, qI1, qI2, qI3, w_add, w_addl, w_sub, w_mul, w_mull, w_fdiv, w_mod, w_pow, w_lt, w_le, w_gt, w_ge, w_eq, w_ne, w_isn, w_ist, w_isi, w_isl, w_abs, w_lent, w_lenl, w_intb, w_list, w_tuple, w_min, w_idxt0, w_idxt1, w_idxu0, w_idxu1, w_idxu2, w_idxl, w_slcl, w_tb, w_ti, w_tn, w_tt, w_tl, w_itt, w_itl, w_bindT1, w_bindT2, w_srcl, w_srct, w_cut2, w_cut1, w_cut1', w_cut0, w_ty1, w_ty2, w_ty3, w_ty4, w_ty5, w_ty6, w_ty7, w_ty8, w_ty9, w_ty10, w_ty11, w_ty12, w_ty13, w_ty14, w_ty15, w_ty16, w_ty17, w_ty18, w_ty19, w_ty20, w_ty21, w_mapc, w_mapn, w_appc, w_appn, w_repc, w_repn, w_start, w_lenc, w_ifT, w_ifF, w_ifFF, w_ifTF, w_nT, w_nF, w_anyT, w_anyF, w_d22, ifSome_some, ifLst_lst, ifTup_tup, ifInt_int, lget, lset, lsets, Nat.reduceSub, Nat.reduceAdd, List.length_nil, ↓reduceIte]
    refine s_of L (by decide) fun p1 q1 p2 q2 l1 e1 l2 e2 => ?_
    have P2 := part_pd' L (by decide) (by (clear h1 h2 hQ hn0 hnn sm26 sm hd P1 em s2m sA fin L e lt k1 k2 hm2 hg eg1 eg2 hp0 hp2 s1 s2 ap hc P2 hp1 l1 e1 l2 e2; omega)) hb l1 e1 l2 e2
    refine s_cmp P2 P1 (sep_swap ap) fun H2 hp2 => ?_
    refine s_isl s2 ?_
    exact hQ _ (preTrans hp1 hp2)
  · refine ⟨by decide, ?_⟩
    rw [decide_eq_false hc]
    exact fin _
theorem s_near {c : Int} (hQ : ∀ H', H <+: H' → Q (.bool true) H') : callN nosub fnTab (n + 7) 38 [.int c] H Q X := by
  refine callN_mk (d := ⟨1, 5, b_law_near⟩) rfl rfl ?_
  have fin : ∀ m, 1 ≤ m → m ≤ 10000000 → wpS nosub (callN nosub fnTab (n + 6)) (fun m => H.length ≤ m) t_law_near_2 [some (.int c), some (.int m), some (pvv [-1 - m * m, 0, 1] m 1 (m + 1) 1), none, none] H (fun _ H' => Q .none H') Q X := fun m h1 h2 => s_near2 h1 h2 hQ
  dsimp only [b_law_near]
  revert fin
  generalize t_law_near_2 = T
  intro fin
  dsimp only [qS1, qS2, qS3, qS4, qS5, qS7, qS9, qS10, qS11, qS12, qS13, qS14, qE1, qE2, qE5, qE7, qE8, qE9, qE10, qE11, qE12, qE13, qE14, qE15, qE16, qE17, qE18, qE19, qE20, qE21, qE22, qEs1, qEs2, wpAll, qO1, qO2, qI1, qI2, qI3, w_add, w_addl, w_sub, w_mul, w_mull, w_fdiv, w_mod, w_pow, w_lt, w_le, w_gt, w_ge, w_eq, w_ne, w_isn, w_ist, w_isi, w_isl, w_abs, w_lent, w_lenl, w_intb, w_list, w_tuple, w_min, w_idxt0, w_idxt1, w_idxu0, w_idxu1, w_idxu2, w_idxl, w_slcl, w_tb, w_ti, w_tn, w_tt, w_tl, w_itt, w_itl, w_bindT1, w_bindT2, w_srcl, w_srct, w_cut2, w_cut1, w_cut1', w_cut0, w_ty1, w_ty2, w_ty3, w_ty4, w_ty5, w_ty6, w_ty7, w_ty8, w_ty9, w_ty10, w_ty11, w_ty12, w_ty13, w_ty14, w_ty15, w_ty16, w_ty17, w_ty18, w_ty19, w_ty20, w_ty21, w_mapc, w_mapn, w_appc, w_appn, w_repc, w_repn, w_start, w_lenc, w_ifT, w_ifF, w_ifFF, w_ifTF, w_nT, w_nF, w_anyT, w_anyF, w_d22, ifSome_some, ifLst_lst, ifTup_tup, ifInt_int, lget, lset, lsets, Nat.reduceSub, Nat.reduceAdd, List.length_nil, ↓reduceIte]
  refine ⟨(show DivOk _ by unfold DivOk; decide), by decide, by decide, by decide, by decide, ?_⟩
  have h := fm (x := c.fdiv 3) (b := 10 ^ (7 : Int).toNat) (by decide)
  have e7 : (10 : Int) ^ (7 : Int).toNat = 10000000 := rfl
  rw [e7] at h ⊢
  generalize (c.fdiv 3).fmod 10000000 = u at *
  have h1 : 1 ≤ 1 + u := by (clear hQ fin e7; omega)
  have h2 : 1 + u ≤ 10000000 := by (clear hQ fin e7 h1; omega)
  generalize 1 + u = m at *
  obtain ⟨hn0, hnn, sm26, sm⟩ := near_f h1 h2
  refine ⟨IntMulOk.left sm, by decide, ?_⟩
  by_cases hc : c.fmod 3 = 0
  · rw [decide_eq_true hc]
    obtain ⟨d, hd⟩ : ∃ d : Nat, (d : Int) = m * m + 1 := ⟨(m * m + 1).toNat, by (clear hQ fin e7 h h1 h2 sm26 sm hc; omega)⟩
    have P1 := near_pd h1 h2 (.inl rfl) hd
    have L : Low 26 m 1 := low_one (k := 25) sm26
    have lt : rq m 1 < sqrt d := by rw [rq_one]; exact lt_sqrt (by (clear hQ fin e7 h h1 h2 hn0 hnn sm26 sm hc P1 L; omega))
    have s1 : rsg (sqrt d - rq m 1) = 1 := rsg_pos (by exact l_sp (lt))
    have s2 : rsg (rq m 1 - sqrt d) = -1 := rsg_neg (by exact l_sn (lt))
    have ap := near_ap h1 h2 hd (show (0 : Int) < 1 by decide) (by decide) (show 0 ≤ m by (clear hQ fin e7 h hn0 hnn sm26 sm hc hd P1 L lt s1 s2; omega)) (by (clear hQ fin e7 h hn0 hnn sm26 sm hc hd P1 L lt s1 s2; omega))
    dsimp only [qS1, qS2, qS3, qS4, qS5, qS7, qS9, qS10, qS11, qS12, qS13, qS14, qE1, qE2, qE5, qE7, qE8, qE9, qE10, qE11, qE12, qE13, qE14, qE15, qE16, qE17, qE18, qE19, qE20, qE21, qE22, qEs1, qEs2, wpAll, qO1, qO2, qI1, qI2, qI3, w_add, w_addl, w_sub, w_mul, w_mull, w_fdiv, w_mod, w_pow, w_lt, w_le, w_gt, w_ge, w_eq, w_ne, w_isn, w_ist, w_isi, w_isl, w_abs, w_lent, w_lenl, w_intb, w_list, w_tuple, w_min, w_idxt0, w_idxt1, w_idxu0, w_idxu1, w_idxu2, w_idxl, w_slcl, w_tb, w_ti, w_tn, w_tt, w_tl, w_itt, w_itl, w_bindT1, w_bindT2, w_srcl, w_srct, w_cut2, w_cut1, w_cut1', w_cut0, w_ty1, w_ty2, w_ty3, w_ty4, w_ty5, w_ty6, w_ty7, w_ty8, w_ty9, w_ty10, w_ty11, w_ty12, w_ty13, w_ty14, w_ty15, w_ty16, w_ty17, w_ty18, w_ty19, w_ty20, w_ty21, w_mapc, w_mapn, w_appc, w_appn, w_repc, w_repn, w_start, w_lenc, w_ifT, w_ifF, w_ifFF, w_ifTF, w_nT, w_nF, w_anyT, w_anyF, w_d22, ifSome_some, ifLst_lst, ifTup_tup, ifInt_int, lget, lset, lsets, Nat.reduceSub, Nat.reduceAdd, List.length_nil, ↓reduceIte]
    refine s_of L (by decide) fun p1 q1 p2 q2 l1 e1 l2 e2 => ?_
    have P2 := part_pd L l1 e1 l2 e2
    refine s_cmp P1 P2 ap fun H1 hp1 => ?_
    refine s_isl s1 ?_
    dsimp only [qS1, qS2, qS3, qS4, qS5, qS7, qS9, qS10, qS11, qS12, qS13, qS14, qE1, qE2, qE5, qE7, qE8, qE9, qE10, qE11, qE12, qE13, qE14, qE15, qE16, qE17, qE18, qE19, qE20, qE21, qE22, qEs1, qEs2, wpAll, qO1, qO2, qI1, qI2, qI3, w_add, w_addl, w_sub, w_mul, w_mull, w_fdiv, w_mod, w_pow, w_lt, w_le, w_gt, w_ge, w_eq, w_ne, w_isn, w_ist, w_isi, w_isl, w_abs, w_lent, w_lenl, w_intb, w_list, w_tuple, w_min, w_idxt0, w_idxt1, w_idxu0, w_idxu1, w_idxu2, w_idxl, w_slcl, w_tb, w_ti, w_tn, w_tt, w_tl, w_itt, w_itl, w_bindT1, w_bindT2, w_srcl, w_srct, w_cut2, w_cut1, w_cut1', w_cut0, w_ty1, w_ty2, w_ty3, w_ty4, w_ty5, w_ty6, w_ty7, w_ty8, w_ty9, w_ty10, w_ty11, w_ty12, w_ty13, w_ty14, w_ty15, w_ty16, w_ty17, w_ty18, w_ty19, w_ty20, w_ty21, w_mapc, w_mapn, w_appc, w_appn, w_repc, w_repn, w_start, w_lenc, w_ifT, w_ifF, w_ifFF, w_ifTF, w_nT, w_nF, w_anyT, w_anyF, w_d22, ifSome_some, ifLst_lst, ifTup_tup, ifInt_int, lget, lset, lsets, Nat.reduceSub, Nat.reduceAdd, List.length_nil, ↓reduceIte]
    refine s_of L (by decide) fun p1 q1 p2 q2 l1 e1 l2 e2 => ?_
    have P2 := part_pd L l1 e1 l2 e2
    refine s_cmp P2 P1 (sep_swap ap) fun H2 hp2 => ?_
    refine s_isl s2 ?_
    exact hQ _ (preTrans hp1 hp2)
  · rw [decide_eq_false hc]
    exact fin m h1 h2
end
section
variable {ns : List Int} {H : Hp} {W : Nat → Prop} {NN : Loc → Hp → Prop} {Y : Nat → Hp → Prop} {R : V → Hp → Prop} {A B : List Int} {N M : Int} {lo1 hi1 lo2 hi2 : Re} {p1 q1 p2 q2 r1 s1 r2 s2 : Int} {p q r p' q' r' : Int} {d d' : Nat} {o1 o3 o5 o7 o8 o9 : Option V}
theorem tail1 (hR : ∀ H', R (.bool true) H') (h0 : H[0]? = some (ns.map .int)) (h : QD p q r d) (dA : PD A N (qal p q r d) lo1 hi1 p1 q1 p2 q2 0) :
    wpS nosub (callN nosub fnTab 7) W t_law_1 [some (.lst 0), o1, some (qv p q r d), o3, some (.int d), o5, some (pvv A p1 q1 p2 q2), o7, o8, o9, none] H NN R Y := by
  dsimp only [t_law_1, qS1, qS2, qS3, qS4, qS5, qS7, qS9, qS10, qS11, qS12, qS13, qS14, qE1, qE2, qE5, qE7, qE8, qE9, qE10, qE11, qE12, qE13, qE14, qE15, qE16, qE17, qE18, qE19, qE20, qE21, qE22, qEs1, qEs2, wpAll, qO1, qO2, qI1, qI2, qI3, w_add, w_addl, w_sub, w_mul, w_mull, w_fdiv, w_mod, w_pow, w_lt, w_le, w_gt, w_ge, w_eq, w_ne, w_isn, w_ist, w_isi, w_isl, w_abs, w_lent, w_lenl, w_intb, w_list, w_tuple, w_min, w_idxt0, w_idxt1, w_idxu0, w_idxu1, w_idxu2, w_idxl, w_slcl, w_tb, w_ti, w_tn, w_tt, w_tl, w_itt, w_itl, w_bindT1, w_bindT2, w_srcl, w_srct, w_cut2, w_cut1, w_cut1', w_cut0, w_ty1, w_ty2, w_ty3, w_ty4, w_ty5, w_ty6, w_ty7, w_ty8, w_ty9, w_ty10, w_ty11, w_ty12, w_ty13, w_ty14, w_ty15, w_ty16, w_ty17, w_ty18, w_ty19, w_ty20, w_ty21, w_mapc, w_mapn, w_appc, w_appn, w_repc, w_repn, w_start, w_lenc, w_ifT, w_ifF, w_ifFF, w_ifTF, w_nT, w_nF, w_anyT, w_anyF, w_d22, ifSome_some, ifLst_lst, ifTup_tup, ifInt_int, lget, lset, lsets, Nat.reduceSub, Nat.reduceAdd, List.length_nil, ↓reduceIte, w_idx40, w_idx41, w_idx42, w_idx43]
  refine s_cell rfl (ns := ns) (by decide) h0 ?_
  refine ⟨by decide, ?_⟩
  dsimp only [qS1, qS2, qS3, qS4, qS5, qS7, qS9, qS10, qS11, qS12, qS13, qS14, qE1, qE2, qE5, qE7, qE8, qE9, qE10, qE11, qE12, qE13, qE14, qE15, qE16, qE17, qE18, qE19, qE20, qE21, qE22, qEs1, qEs2, wpAll, qO1, qO2, qI1, qI2, qI3, w_add, w_addl, w_sub, w_mul, w_mull, w_fdiv, w_mod, w_pow, w_lt, w_le, w_gt, w_ge, w_eq, w_ne, w_isn, w_ist, w_isi, w_isl, w_abs, w_lent, w_lenl, w_intb, w_list, w_tuple, w_min, w_idxt0, w_idxt1, w_idxu0, w_idxu1, w_idxu2, w_idxl, w_slcl, w_tb, w_ti, w_tn, w_tt, w_tl, w_itt, w_itl, w_bindT1, w_bindT2, w_srcl, w_srct, w_cut2, w_cut1, w_cut1', w_cut0, w_ty1, w_ty2, w_ty3, w_ty4, w_ty5, w_ty6, w_ty7, w_ty8, w_ty9, w_ty10, w_ty11, w_ty12, w_ty13, w_ty14, w_ty15, w_ty16, w_ty17, w_ty18, w_ty19, w_ty20, w_ty21, w_mapc, w_mapn, w_appc, w_appn, w_repc, w_repn, w_start, w_lenc, w_ifT, w_ifF, w_ifFF, w_ifTF, w_nT, w_nF, w_anyT, w_anyF, w_d22, ifSome_some, ifLst_lst, ifTup_tup, ifInt_int, lget, lset, lsets, Nat.reduceSub, Nat.reduceAdd, List.length_nil, ↓reduceIte]
  refine s_cell rfl (ns := ns) (by decide) h0 ?_
  refine ⟨by decide, ?_⟩
  dsimp only [qS1, qS2, qS3, qS4, qS5, qS7, qS9, qS10, qS11, qS12, qS13, qS14, qE1, qE2, qE5, qE7, qE8, qE9, qE10, qE11, qE12, qE13, qE14, qE15, qE16, qE17, qE18, qE19, qE20, qE21, qE22, qEs1, qEs2, wpAll, qO1, qO2, qI1, qI2, qI3, w_add, w_addl, w_sub, w_mul, w_mull, w_fdiv, w_mod, w_pow, w_lt, w_le, w_gt, w_ge, w_eq, w_ne, w_isn, w_ist, w_isi, w_isl, w_abs, w_lent, w_lenl, w_intb, w_list, w_tuple, w_min, w_idxt0, w_idxt1, w_idxu0, w_idxu1, w_idxu2, w_idxl, w_slcl, w_tb, w_ti, w_tn, w_tt, w_tl, w_itt, w_itl, w_bindT1, w_bindT2, w_srcl, w_srct, w_cut2, w_cut1, w_cut1', w_cut0, w_ty1, w_ty2, w_ty3, w_ty4, w_ty5, w_ty6, w_ty7, w_ty8, w_ty9, w_ty10, w_ty11, w_ty12, w_ty13, w_ty14, w_ty15, w_ty16, w_ty17, w_ty18, w_ty19, w_ty20, w_ty21, w_mapc, w_mapn, w_appc, w_appn, w_repc, w_repn, w_start, w_lenc, w_ifT, w_ifF, w_ifFF, w_ifTF, w_nT, w_nF, w_anyT, w_anyF, w_d22, ifSome_some, ifLst_lst, ifTup_tup, ifInt_int, lget, lset, lsets, Nat.reduceSub, Nat.reduceAdd, List.length_nil, ↓reduceIte]
  have c1 := fm (x := cellI ns (10 : Int).toNat) (b := 61) (by decide)
  have c2 := fm (x := cellI ns (11 : Int).toNat) (b := 9) (by decide)
  generalize (cellI ns (10 : Int).toNat).fmod 61 = x at *
  generalize (cellI ns (11 : Int).toNat).fmod 9 = y at *
  refine s_lp (dv := 21) (k := 5) (a := x - 30) (b := 1 + y) rfl rfl (by (clear hR h0 h dA c1; omega)) (by unfold Sm; (clear hR h0 h dA c2; omega)) (by unfold Sm; (clear hR h0 h dA c1; omega)) (by decide) fun a b L e => ?_
  have hb := L.pos
  obtain ⟨sp, sq, sr, sd⟩ := h.sm64
  have sa : Sm 64 a := L.top.mono (by decide)
  have sb : Sm 64 b := L.bot.mono (by decide)
  dsimp only [qS1, qS2, qS3, qS4, qS5, qS7, qS9, qS10, qS11, qS12, qS13, qS14, qE1, qE2, qE5, qE7, qE8, qE9, qE10, qE11, qE12, qE13, qE14, qE15, qE16, qE17, qE18, qE19, qE20, qE21, qE22, qEs1, qEs2, wpAll, qO1, qO2, qI1, qI2, qI3, w_add, w_addl, w_sub, w_mul, w_mull, w_fdiv, w_mod, w_pow, w_lt, w_le, w_gt, w_ge, w_eq, w_ne, w_isn, w_ist, w_isi, w_isl, w_abs, w_lent, w_lenl, w_intb, w_list, w_tuple, w_min, w_idxt0, w_idxt1, w_idxu0, w_idxu1, w_idxu2, w_idxl, w_slcl, w_tb, w_ti, w_tn, w_tt, w_tl, w_itt, w_itl, w_bindT1, w_bindT2, w_srcl, w_srct, w_cut2, w_cut1, w_cut1', w_cut0, w_ty1, w_ty2, w_ty3, w_ty4, w_ty5, w_ty6, w_ty7, w_ty8, w_ty9, w_ty10, w_ty11, w_ty12, w_ty13, w_ty14, w_ty15, w_ty16, w_ty17, w_ty18, w_ty19, w_ty20, w_ty21, w_mapc, w_mapn, w_appc, w_appn, w_repc, w_repn, w_start, w_lenc, w_ifT, w_ifF, w_ifFF, w_ifTF, w_nT, w_nF, w_anyT, w_anyF, w_d22, ifSome_some, ifLst_lst, ifTup_tup, ifInt_int, lget, lset, lsets, Nat.reduceSub, Nat.reduceAdd, List.length_nil, ↓reduceIte, w_idx40, w_idx41, w_idx42, w_idx43]
  refine ⟨IntMulOk.left sp, IntMulOk.left sa, IntMulOk.left sq, ?_⟩
  refine s_two (ls := 25) rfl rfl ((Sm.sub (sp.mul sb) (sa.mul sr)).mono (by decide)) ((sq.mul sb).mono (by decide)) (sd.mono (by decide)) ?_
  rw [h.sgnP hb]
  have ap := h.apartP L
  refine s_of L (by decide) fun u1 v1 u2 v2 l1 e1 l2 e2 => ?_
  have P2 := part_pd (L.mono (by decide)) l1 e1 l2 e2
  refine s_cmp dA P2 ap fun H1 hp1 => ?_
  refine s_isl rfl ?_
  dsimp only [qS1, qS2, qS3, qS4, qS5, qS7, qS9, qS10, qS11, qS12, qS13, qS14, qE1, qE2, qE5, qE7, qE8, qE9, qE10, qE11, qE12, qE13, qE14, qE15, qE16, qE17, qE18, qE19, qE20, qE21, qE22, qEs1, qEs2, wpAll, qO1, qO2, qI1, qI2, qI3, w_add, w_addl, w_sub, w_mul, w_mull, w_fdiv, w_mod, w_pow, w_lt, w_le, w_gt, w_ge, w_eq, w_ne, w_isn, w_ist, w_isi, w_isl, w_abs, w_lent, w_lenl, w_intb, w_list, w_tuple, w_min, w_idxt0, w_idxt1, w_idxu0, w_idxu1, w_idxu2, w_idxl, w_slcl, w_tb, w_ti, w_tn, w_tt, w_tl, w_itt, w_itl, w_bindT1, w_bindT2, w_srcl, w_srct, w_cut2, w_cut1, w_cut1', w_cut0, w_ty1, w_ty2, w_ty3, w_ty4, w_ty5, w_ty6, w_ty7, w_ty8, w_ty9, w_ty10, w_ty11, w_ty12, w_ty13, w_ty14, w_ty15, w_ty16, w_ty17, w_ty18, w_ty19, w_ty20, w_ty21, w_mapc, w_mapn, w_appc, w_appn, w_repc, w_repn, w_start, w_lenc, w_ifT, w_ifF, w_ifFF, w_ifTF, w_nT, w_nF, w_anyT, w_anyF, w_d22, ifSome_some, ifLst_lst, ifTup_tup, ifInt_int, lget, lset, lsets, Nat.reduceSub, Nat.reduceAdd, List.length_nil, ↓reduceIte]
  refine s_of L (by decide) fun u1 v1 u2 v2 l1 e1 l2 e2 => ?_
  have P2 := part_pd (L.mono (by decide)) l1 e1 l2 e2
  refine s_cmp P2 dA (sep_swap ap) fun H2 hp2 => ?_
  refine s_isl (by rw [rsg_swap (qal p q r d) (rq a b)]; (clear hR h0 h dA c1 c2 L e hb sp sq sr sd sa sb ap hp1 l1 e1 l2 e2 P2 hp2; omega)) ?_
  exact hR _
theorem tail3 (hR : ∀ H', R (.bool true) H') (h0 : H[0]? = some (ns.map .int)) (h : QD p q r d) (h' : QD p' q' r' d') (dA : PD A N (qal p q r d) lo1 hi1 p1 q1 p2 q2 0) (dB : PD B M (qal p' q' r' d') lo2 hi2 r1 s1 r2 s2 0) :
    wpS nosub (callN nosub fnTab 7) W t_law_3 [some (.lst 0), o1, some (qv p q r d), some (qv p' q' r' d'), some (.int d), some (.int d'), some (pvv A p1 q1 p2 q2), some (pvv B r1 s1 r2 s2), o8, o9, none] H NN R Y := by
  have fin1 : wpS nosub (callN nosub fnTab 7) W t_law_1 [some (.lst 0), o1, some (qv p q r d), some (qv p' q' r' d'), some (.int d), some (.int d'), some (pvv A p1 q1 p2 q2), some (pvv B r1 s1 r2 s2), o8, o9, none] H NN R Y := tail1 hR h0 h dA
  have fin2 : wpS nosub (callN nosub fnTab 7) W t_law_2 [some (.lst 0), o1, some (qv p q r d), some (qv p' q' r' d'), some (.int d), some (.int d'), some (pvv A p1 q1 p2 q2), some (pvv B r1 s1 r2 s2), o8, o9, none] H NN R Y := by
    dsimp only [t_law_2]
    revert fin1
    generalize t_law_1 = T
    intro fin1
    dsimp only [qS1, qS2, qS3, qS4, qS5, qS7, qS9, qS10, qS11, qS12, qS13, qS14, qE1, qE2, qE5, qE7, qE8, qE9, qE10, qE11, qE12, qE13, qE14, qE15, qE16, qE17, qE18, qE19, qE20, qE21, qE22, qEs1, qEs2, wpAll, qO1, qO2, qI1, qI2, qI3, w_add, w_addl, w_sub, w_mul, w_mull, w_fdiv, w_mod, w_pow, w_lt, w_le, w_gt, w_ge, w_eq, w_ne, w_isn, w_ist, w_isi, w_isl, w_abs, w_lent, w_lenl, w_intb, w_list, w_tuple, w_min, w_idxt0, w_idxt1, w_idxu0, w_idxu1, w_idxu2, w_idxl, w_slcl, w_tb, w_ti, w_tn, w_tt, w_tl, w_itt, w_itl, w_bindT1, w_bindT2, w_srcl, w_srct, w_cut2, w_cut1, w_cut1', w_cut0, w_ty1, w_ty2, w_ty3, w_ty4, w_ty5, w_ty6, w_ty7, w_ty8, w_ty9, w_ty10, w_ty11, w_ty12, w_ty13, w_ty14, w_ty15, w_ty16, w_ty17, w_ty18, w_ty19, w_ty20, w_ty21, w_mapc, w_mapn, w_appc, w_appn, w_repc, w_repn, w_start, w_lenc, w_ifT, w_ifF, w_ifFF, w_ifTF, w_nT, w_nF, w_anyT, w_anyF, w_d22, ifSome_some, ifLst_lst, ifTup_tup, ifInt_int, lget, lset, lsets, Nat.reduceSub, Nat.reduceAdd, List.length_nil, ↓reduceIte, w_idx40, w_idx41, w_idx42, w_idx43]
    refine s_sgp (sg := 6) rfl rfl dB ?_
    refine s_two (ls := 25) rfl rfl (h'.sm64.1.mono (by decide)) (h'.sm64.2.1.mono (by decide)) (h'.sm64.2.2.2.mono (by decide)) ?_
    refine s_isl h'.sgn1.symm ?_
    exact fin1
  dsimp only [t_law_3]
  revert fin2
  generalize t_law_2 = T
  intro fin2
  dsimp only [qS1, qS2, qS3, qS4, qS5, qS7, qS9, qS10, qS11, qS12, qS13, qS14, qE1, qE2, qE5, qE7, qE8, qE9, qE10, qE11, qE12, qE13, qE14, qE15, qE16, qE17, qE18, qE19, qE20, qE21, qE22, qEs1, qEs2, wpAll, qO1, qO2, qI1, qI2, qI3, w_add, w_addl, w_sub, w_mul, w_mull, w_fdiv, w_mod, w_pow, w_lt, w_le, w_gt, w_ge, w_eq, w_ne, w_isn, w_ist, w_isi, w_isl, w_abs, w_lent, w_lenl, w_intb, w_list, w_tuple, w_min, w_idxt0, w_idxt1, w_idxu0, w_idxu1, w_idxu2, w_idxl, w_slcl, w_tb, w_ti, w_tn, w_tt, w_tl, w_itt, w_itl, w_bindT1, w_bindT2, w_srcl, w_srct, w_cut2, w_cut1, w_cut1', w_cut0, w_ty1, w_ty2, w_ty3, w_ty4, w_ty5, w_ty6, w_ty7, w_ty8, w_ty9, w_ty10, w_ty11, w_ty12, w_ty13, w_ty14, w_ty15, w_ty16, w_ty17, w_ty18, w_ty19, w_ty20, w_ty21, w_mapc, w_mapn, w_appc, w_appn, w_repc, w_repn, w_start, w_lenc, w_ifT, w_ifF, w_ifFF, w_ifTF, w_nT, w_nF, w_anyT, w_anyF, w_d22, ifSome_some, ifLst_lst, ifTup_tup, ifInt_int, lget, lset, lsets, Nat.reduceSub, Nat.reduceAdd, List.length_nil, ↓reduceIte, w_idx40, w_idx41, w_idx42, w_idx43]
  refine s_sgp (sg := 6) rfl rfl dA ?_
  refine s_two (ls := 25) rfl rfl (h.sm64.1.mono (by decide)) (h.sm64.2.1.mono (by decide)) (h.sm64.2.2.2.mono (by decide)) ?_
  refine s_isl h.sgn1.symm ?_
  exact fin2
theorem tail4 (hR : ∀ H', R (.bool true) H') (h0 : H[0]? = some (ns.map .int)) (h : QD p q r d) (h' : QD p' q' r' d') (dA : PD A N (qal p q r d) lo1 hi1 p1 q1 p2 q2 0) (dB : PD B M (qal p' q' r' d') lo2 hi2 r1 s1 r2 s2 0) :
    wpS nosub (callN nosub fnTab 7) W t_law_4 [some (.lst 0), o1, some (qv p q r d), some (qv p' q' r' d'), some (.int d), some (.int d'), some (pvv A p1 q1 p2 q2), some (pvv B r1 s1 r2 s2), none, none, none] H NN R Y := by
  obtain ⟨sp, sq, sr, sd⟩ := h.sm64
  obtain ⟨sp', sq', sr', sd'⟩ := h'.sm64
  have fin : ∀ H' o8 o9, H <+: H' → wpS nosub (callN nosub fnTab 7) W t_law_3 [some (.lst 0), o1, some (qv p q r d), some (qv p' q' r' d'), some (.int d), some (.int d'), some (pvv A p1 q1 p2 q2), some (pvv B r1 s1 r2 s2), o8, o9, none] H' NN R Y := fun H' o8 o9 hp => tail3 hR (getKeep hp h0) h h' dA dB
  dsimp only [t_law_4]
  revert fin
  generalize t_law_3 = T
  intro fin
  dsimp only [qS1, qS2, qS3, qS4, qS5, qS7, qS9, qS10, qS11, qS12, qS13, qS14, qE1, qE2, qE5, qE7, qE8, qE9, qE10, qE11, qE12, qE13, qE14, qE15, qE16, qE17, qE18, qE19, qE20, qE21, qE22, qEs1, qEs2, wpAll, qO1, qO2, qI1, qI2, qI3, w_add, w_addl, w_sub, w_mul, w_mull, w_fdiv, w_mod, w_pow, w_lt, w_le, w_gt, w_ge, w_eq, w_ne, w_isn, w_ist, w_isi, w_isl, w_abs, w_lent, w_lenl, w_intb, w_list, w_tuple, w_min, w_idxt0, w_idxt1, w_idxu0, w_idxu1, w_idxu2, w_idxl, w_slcl, w_tb, w_ti, w_tn, w_tt, w_tl, w_itt, w_itl, w_bindT1, w_bindT2, w_srcl, w_srct, w_cut2, w_cut1, w_cut1', w_cut0, w_ty1, w_ty2, w_ty3, w_ty4, w_ty5, w_ty6, w_ty7, w_ty8, w_ty9, w_ty10, w_ty11, w_ty12, w_ty13, w_ty14, w_ty15, w_ty16, w_ty17, w_ty18, w_ty19, w_ty20, w_ty21, w_mapc, w_mapn, w_appc, w_appn, w_repc, w_repn, w_start, w_lenc, w_ifT, w_ifF, w_ifFF, w_ifTF, w_nT, w_nF, w_anyT, w_anyF, w_d22, ifSome_some, ifLst_lst, ifTup_tup, ifInt_int, lget, lset, lsets, Nat.reduceSub, Nat.reduceAdd, List.length_nil, ↓reduceIte, w_idx40, w_idx41, w_idx42, w_idx43]
  refine ⟨IntMulOk.left sp, IntMulOk.left sp', IntMulOk.left sq, IntMulOk.left sq', ?_⟩
  refine s_four (tw := 26) (ls := 25) (mu := 28) rfl rfl rfl rfl (getApp _ _ _) ((Sm.sub (sp.mul sr') (sp'.mul sr)).mono (by decide)) ((sq.mul sr').mono (by decide)) ((Sm.sub (Sm.zero (k := 128)) (sq'.mul sr)).mono (by decide)) Sm.zero (sd.mono (by decide)) (sd'.mono (by decide)) (by have := h'.d1; (clear hR h0 h h' dA dB sp sq sr sd sp' sq' sr' sd' fin; omega)) fun H1 hp1 => ?_
  rw [h.sgnQ h']
  have ap := h.apart h'
  refine s_cmp dA dB ap fun H2 hp2 => ?_
  refine s_isl rfl ?_
  dsimp only [qS1, qS2, qS3, qS4, qS5, qS7, qS9, qS10, qS11, qS12, qS13, qS14, qE1, qE2, qE5, qE7, qE8, qE9, qE10, qE11, qE12, qE13, qE14, qE15, qE16, qE17, qE18, qE19, qE20, qE21, qE22, qEs1, qEs2, wpAll, qO1, qO2, qI1, qI2, qI3, w_add, w_addl, w_sub, w_mul, w_mull, w_fdiv, w_mod, w_pow, w_lt, w_le, w_gt, w_ge, w_eq, w_ne, w_isn, w_ist, w_isi, w_isl, w_abs, w_lent, w_lenl, w_intb, w_list, w_tuple, w_min, w_idxt0, w_idxt1, w_idxu0, w_idxu1, w_idxu2, w_idxl, w_slcl, w_tb, w_ti, w_tn, w_tt, w_tl, w_itt, w_itl, w_bindT1, w_bindT2, w_srcl, w_srct, w_cut2, w_cut1, w_cut1', w_cut0, w_ty1, w_ty2, w_ty3, w_ty4, w_ty5, w_ty6, w_ty7, w_ty8, w_ty9, w_ty10, w_ty11, w_ty12, w_ty13, w_ty14, w_ty15, w_ty16, w_ty17, w_ty18, w_ty19, w_ty20, w_ty21, w_mapc, w_mapn, w_appc, w_appn, w_repc, w_repn, w_start, w_lenc, w_ifT, w_ifF, w_ifFF, w_ifTF, w_nT, w_nF, w_anyT, w_anyF, w_d22, ifSome_some, ifLst_lst, ifTup_tup, ifInt_int, lget, lset, lsets, Nat.reduceSub, Nat.reduceAdd, List.length_nil, ↓reduceIte]
  refine s_cmp dB dA (sep_swap ap) fun H3 hp3 => ?_
  refine s_isl (by rw [rsg_swap (qal p q r d) (qal p' q' r' d')]; (clear hR h0 h h' dA dB sp sq sr sd sp' sq' sr' sd' fin hp1 ap hp2 hp3; omega)) ?_
  exact fin _ _ _ (preTrans (preApp _ _) (preTrans hp1 (preTrans hp2 hp3)))
theorem tail6 (hR : ∀ H', R (.bool true) H') (h0 : H[0]? = some (ns.map .int)) : wpS nosub (callN nosub fnTab 7) W t_law_6 [some (.lst 0), none, none, none, none, none, none, none, none, none, none] H NN R Y := by
  have fin5 : ∀ {H' : Hp} {p q r p' q' r' : Int} {d d' : Nat} {row B : List Int} {M g A L U p1 q1 p2 q2 r1 s1 r2 s2 : Int} {lo2 hi2 : Re}, H <+: H' → QP p q r d row g A L U p1 q1 p2 q2 → QD p' q' r' d' → PD B M (qal p' q' r' d') lo2 hi2 r1 s1 r2 s2 0 →
      wpS nosub (callN nosub fnTab 7) W t_law_5 [some (.lst 0), some (.tup [qv p q r d, qv p' q' r' d']), some (qv p q r d), some (qv p' q' r' d'), some (.int d), some (.int d'), some (pvv row p1 q1 p2 q2), some (pvv B r1 s1 r2 s2), none, none, none] H' NN R Y := fun {H' p q r p' q' r' d d' row B M g A L U p1 q1 p2 q2 r1 s1 r2 s2 lo2 hi2} hp qp h' dB => by
    have h0' := getKeep hp h0
    have fin4 : ∀ {H2 : Hp} {A : List Int} {N : Int} {lo1 hi1 : Re}, H' <+: H2 → PD A N (qal p q r d) lo1 hi1 p1 q1 p2 q2 0 → wpS nosub (callN nosub fnTab 7) W t_law_4 [some (.lst 0), some (.tup [qv p q r d, qv p' q' r' d']), some (qv p q r d), some (qv p' q' r' d'), some (.int d), some (.int d'), some (pvv A p1 q1 p2 q2), some (pvv B r1 s1 r2 s2), none, none, none] H2 NN R Y := fun hp2 dA => tail4 hR (getKeep hp2 h0') qp.qd h' dA dB
    dsimp only [t_law_5]
    revert fin4
    generalize t_law_4 = T
    intro fin4
    dsimp only [qS1, qS2, qS3, qS4, qS5, qS7, qS9, qS10, qS11, qS12, qS13, qS14, qE1, qE2, qE5, qE7, qE8, qE9, qE10, qE11, qE12, qE13, qE14, qE15, qE16, qE17, qE18, qE19, qE20, qE21, qE22, qEs1, qEs2, wpAll, qO1, qO2, qI1, qI2, qI3, w_add, w_addl, w_sub, w_mul, w_mull, w_fdiv, w_mod, w_pow, w_lt, w_le, w_gt, w_ge, w_eq, w_ne, w_isn, w_ist, w_isi, w_isl, w_abs, w_lent, w_lenl, w_intb, w_list, w_tuple, w_min, w_idxt0, w_idxt1, w_idxu0, w_idxu1, w_idxu2, w_idxl, w_slcl, w_tb, w_ti, w_tn, w_tt, w_tl, w_itt, w_itl, w_bindT1, w_bindT2, w_srcl, w_srct, w_cut2, w_cut1, w_cut1', w_cut0, w_ty1, w_ty2, w_ty3, w_ty4, w_ty5, w_ty6, w_ty7, w_ty8, w_ty9, w_ty10, w_ty11, w_ty12, w_ty13, w_ty14, w_ty15, w_ty16, w_ty17, w_ty18, w_ty19, w_ty20, w_ty21, w_mapc, w_mapn, w_appc, w_appn, w_repc, w_repn, w_start, w_lenc, w_ifT, w_ifF, w_ifFF, w_ifTF, w_nT, w_nF, w_anyT, w_anyF, w_d22, ifSome_some, ifLst_lst, ifTup_tup, ifInt_int, lget, lset, lsets, Nat.reduceSub, Nat.reduceAdd, List.length_nil, ↓reduceIte]
    refine s_cell rfl (ns := ns) (by decide) h0' ?_
    refine ⟨by decide, ?_⟩
    dsimp only [qS1, qS2, qS3, qS4, qS5, qS7, qS9, qS10, qS11, qS12, qS13, qS14, qE1, qE2, qE5, qE7, qE8, qE9, qE10, qE11, qE12, qE13, qE14, qE15, qE16, qE17, qE18, qE19, qE20, qE21, qE22, qEs1, qEs2, wpAll, qO1, qO2, qI1, qI2, qI3, w_add, w_addl, w_sub, w_mul, w_mull, w_fdiv, w_mod, w_pow, w_lt, w_le, w_gt, w_ge, w_eq, w_ne, w_isn, w_ist, w_isi, w_isl, w_abs, w_lent, w_lenl, w_intb, w_list, w_tuple, w_min, w_idxt0, w_idxt1, w_idxu0, w_idxu1, w_idxu2, w_idxl, w_slcl, w_tb, w_ti, w_tn, w_tt, w_tl, w_itt, w_itl, w_bindT1, w_bindT2, w_srcl, w_srct, w_cut2, w_cut1, w_cut1', w_cut0, w_ty1, w_ty2, w_ty3, w_ty4, w_ty5, w_ty6, w_ty7, w_ty8, w_ty9, w_ty10, w_ty11, w_ty12, w_ty13, w_ty14, w_ty15, w_ty16, w_ty17, w_ty18, w_ty19, w_ty20, w_ty21, w_mapc, w_mapn, w_appc, w_appn, w_repc, w_repn, w_start, w_lenc, w_ifT, w_ifF, w_ifFF, w_ifTF, w_nT, w_nF, w_anyT, w_anyF, w_d22, ifSome_some, ifLst_lst, ifTup_tup, ifInt_int, lget, lset, lsets, Nat.reduceSub, Nat.reduceAdd, List.length_nil, ↓reduceIte]
    by_cases hc : (cellI ns (9 : Int).toNat).fmod 4 = 3
    · rw [decide_eq_true hc]
      dsimp only [qS1, qS2, qS3, qS4, qS5, qS7, qS9, qS10, qS11, qS12, qS13, qS14, qE1, qE2, qE5, qE7, qE8, qE9, qE10, qE11, qE12, qE13, qE14, qE15, qE16, qE17, qE18, qE19, qE20, qE21, qE22, qEs1, qEs2, wpAll, qO1, qO2, qI1, qI2, qI3, w_add, w_addl, w_sub, w_mul, w_mull, w_fdiv, w_mod, w_pow, w_lt, w_le, w_gt, w_ge, w_eq, w_ne, w_isn, w_ist, w_isi, w_isl, w_abs, w_lent, w_lenl, w_intb, w_list, w_tuple, w_min, w_idxt0, w_idxt1, w_idxu0, w_idxu1, w_idxu2, w_idxl, w_slcl, w_tb, w_ti, w_tn, w_tt, w_tl, w_itt, w_itl, w_bindT1, w_bindT2, w_srcl, w_srct, w_cut2, w_cut1, w_cut1', w_cut0, w_ty1, w_ty2, w_ty3, w_ty4, w_ty5, w_ty6, w_ty7, w_ty8, w_ty9, w_ty10, w_ty11, w_ty12, w_ty13, w_ty14, w_ty15, w_ty16, w_ty17, w_ty18, w_ty19, w_ty20, w_ty21, w_mapc, w_mapn, w_appc, w_appn, w_repc, w_repn, w_start, w_lenc, w_ifT, w_ifF, w_ifFF, w_ifTF, w_nT, w_nF, w_anyT, w_anyF, w_d22, ifSome_some, ifLst_lst, ifTup_tup, ifInt_int, lget, lset, lsets, Nat.reduceSub, Nat.reduceAdd, List.length_nil, ↓reduceIte]
      refine s_cell rfl (ns := ns) (by decide) h0' ?_
      refine ⟨(show DivOk _ by unfold DivOk; decide), ?_⟩
      dsimp only [qS1, qS2, qS3, qS4, qS5, qS7, qS9, qS10, qS11, qS12, qS13, qS14, qE1, qE2, qE5, qE7, qE8, qE9, qE10, qE11, qE12, qE13, qE14, qE15, qE16, qE17, qE18, qE19, qE20, qE21, qE22, qEs1, qEs2, wpAll, qO1, qO2, qI1, qI2, qI3, w_add, w_addl, w_sub, w_mul, w_mull, w_fdiv, w_mod, w_pow, w_lt, w_le, w_gt, w_ge, w_eq, w_ne, w_isn, w_ist, w_isi, w_isl, w_abs, w_lent, w_lenl, w_intb, w_list, w_tuple, w_min, w_idxt0, w_idxt1, w_idxu0, w_idxu1, w_idxu2, w_idxl, w_slcl, w_tb, w_ti, w_tn, w_tt, w_tl, w_itt, w_itl, w_bindT1, w_bindT2, w_srcl, w_srct, w_cut2, w_cut1, w_cut1', w_cut0, w_ty1, w_ty2, w_ty3, w_ty4, w_ty5, w_ty6, w_ty7, w_ty8, w_ty9, w_ty10, w_ty11, w_ty12, w_ty13, w_ty14, w_ty15, w_ty16, w_ty17, w_ty18, w_ty19, w_ty20, w_ty21, w_mapc, w_mapn, w_appc, w_appn, w_repc, w_repn, w_start, w_lenc, w_ifT, w_ifF, w_ifFF, w_ifTF, w_nT, w_nF, w_anyT, w_anyF, w_d22, ifSome_some, ifLst_lst, ifTup_tup, ifInt_int, lget, lset, lsets, Nat.reduceSub, Nat.reduceAdd, List.length_nil, ↓reduceIte]
      refine s_other (by_ := 24) rfl rfl qp.len qp.sm fun H2 f hp2 hf sf => ?_
      exact fin4 hp2 (qp.pdf hf sf)
    · rw [decide_eq_false hc]
      exact fin4 (List.prefix_refl _) qp.pd
  dsimp only [t_law_6]
  revert fin5
  generalize t_law_5 = T
  intro fin5
  dsimp only [qS1, qS2, qS3, qS4, qS5, qS7, qS9, qS10, qS11, qS12, qS13, qS14, qE1, qE2, qE5, qE7, qE8, qE9, qE10, qE11, qE12, qE13, qE14, qE15, qE16, qE17, qE18, qE19, qE20, qE21, qE22, qEs1, qEs2, wpAll, qO1, qO2, qI1, qI2, qI3, w_add, w_addl, w_sub, w_mul, w_mull, w_fdiv, w_mod, w_pow, w_lt, w_le, w_gt, w_ge, w_eq, w_ne, w_isn, w_ist, w_isi, w_isl, w_abs, w_lent, w_lenl, w_intb, w_list, w_tuple, w_min, w_idxt0, w_idxt1, w_idxu0, w_idxu1, w_idxu2, w_idxl, w_slcl, w_tb, w_ti, w_tn, w_tt, w_tl, w_itt, w_itl, w_bindT1, w_bindT2, w_srcl, w_srct, w_cut2, w_cut1, w_cut1', w_cut0, w_ty1, w_ty2, w_ty3, w_ty4, w_ty5, w_ty6, w_ty7, w_ty8, w_ty9, w_ty10, w_ty11, w_ty12, w_ty13, w_ty14, w_ty15, w_ty16, w_ty17, w_ty18, w_ty19, w_ty20, w_ty21, w_mapc, w_mapn, w_appc, w_appn, w_repc, w_repn, w_start, w_lenc, w_ifT, w_ifF, w_ifFF, w_ifTF, w_nT, w_nF, w_anyT, w_anyF, w_d22, ifSome_some, ifLst_lst, ifTup_tup, ifInt_int, lget, lset, lsets, Nat.reduceSub, Nat.reduceAdd, List.length_nil, ↓reduceIte]
  refine s_tq (ce := 20) (qu := 34) rfl rfl rfl h0 fun p q r d p' q' r' d' h h' => ?_
  dsimp only [qS1, qS2, qS3, qS4, qS5, qS7, qS9, qS10, qS11, qS12, qS13, qS14, qE1, qE2, qE5, qE7, qE8, qE9, qE10, qE11, qE12, qE13, qE14, qE15, qE16, qE17, qE18, qE19, qE20, qE21, qE22, qEs1, qEs2, wpAll, qO1, qO2, qI1, qI2, qI3, w_add, w_addl, w_sub, w_mul, w_mull, w_fdiv, w_mod, w_pow, w_lt, w_le, w_gt, w_ge, w_eq, w_ne, w_isn, w_ist, w_isi, w_isl, w_abs, w_lent, w_lenl, w_intb, w_list, w_tuple, w_min, w_idxt0, w_idxt1, w_idxu0, w_idxu1, w_idxu2, w_idxl, w_slcl, w_tb, w_ti, w_tn, w_tt, w_tl, w_itt, w_itl, w_bindT1, w_bindT2, w_srcl, w_srct, w_cut2, w_cut1, w_cut1', w_cut0, w_ty1, w_ty2, w_ty3, w_ty4, w_ty5, w_ty6, w_ty7, w_ty8, w_ty9, w_ty10, w_ty11, w_ty12, w_ty13, w_ty14, w_ty15, w_ty16, w_ty17, w_ty18, w_ty19, w_ty20, w_ty21, w_mapc, w_mapn, w_appc, w_appn, w_repc, w_repn, w_start, w_lenc, w_ifT, w_ifF, w_ifFF, w_ifTF, w_nT, w_nF, w_anyT, w_anyF, w_d22, ifSome_some, ifLst_lst, ifTup_tup, ifInt_int, lget, lset, lsets, Nat.reduceSub, Nat.reduceAdd, List.length_nil, ↓reduceIte, w_idx40, w_idx41, w_idx42, w_idx43]
  refine s_qpeg (en := 32) (sm := 23) (lp := 22) (ld := 21) rfl rfl rfl rfl rfl h fun H1 row g A L U p1 q1 p2 q2 hp1 qp => ?_
  refine s_qpeg (en := 32) (sm := 23) (lp := 22) (ld := 21) rfl rfl rfl rfl rfl h' fun H2 row' g' A' L' U' r1 s1 r2 s2 hp2 qp' => ?_
  have h2 := getKeep (preTrans hp1 hp2) h0
  refine s_cell rfl (ns := ns) (by decide) h2 ?_
  refine ⟨by decide, ?_⟩
  dsimp only [qS1, qS2, qS3, qS4, qS5, qS7, qS9, qS10, qS11, qS12, qS13, qS14, qE1, qE2, qE5, qE7, qE8, qE9, qE10, qE11, qE12, qE13, qE14, qE15, qE16, qE17, qE18, qE19, qE20, qE21, qE22, qEs1, qEs2, wpAll, qO1, qO2, qI1, qI2, qI3, w_add, w_addl, w_sub, w_mul, w_mull, w_fdiv, w_mod, w_pow, w_lt, w_le, w_gt, w_ge, w_eq, w_ne, w_isn, w_ist, w_isi, w_isl, w_abs, w_lent, w_lenl, w_intb, w_list, w_tuple, w_min, w_idxt0, w_idxt1, w_idxu0, w_idxu1, w_idxu2, w_idxl, w_slcl, w_tb, w_ti, w_tn, w_tt, w_tl, w_itt, w_itl, w_bindT1, w_bindT2, w_srcl, w_srct, w_cut2, w_cut1, w_cut1', w_cut0, w_ty1, w_ty2, w_ty3, w_ty4, w_ty5, w_ty6, w_ty7, w_ty8, w_ty9, w_ty10, w_ty11, w_ty12, w_ty13, w_ty14, w_ty15, w_ty16, w_ty17, w_ty18, w_ty19, w_ty20, w_ty21, w_mapc, w_mapn, w_appc, w_appn, w_repc, w_repn, w_start, w_lenc, w_ifT, w_ifF, w_ifFF, w_ifTF, w_nT, w_nF, w_anyT, w_anyF, w_d22, ifSome_some, ifLst_lst, ifTup_tup, ifInt_int, lget, lset, lsets, Nat.reduceSub, Nat.reduceAdd, List.length_nil, ↓reduceIte]
  by_cases hc : (cellI ns (9 : Int).toNat).fmod 2 = 1
  · rw [decide_eq_true hc]
    dsimp only [qS1, qS2, qS3, qS4, qS5, qS7, qS9, qS10, qS11, qS12, qS13, qS14, qE1, qE2, qE5, qE7, qE8, qE9, qE10, qE11, qE12, qE13, qE14, qE15, qE16, qE17, qE18, qE19, qE20, qE21, qE22, qEs1, qEs2, wpAll, qO1, qO2, qI1, qI2, qI3, w_add, w_addl, w_sub, w_mul, w_mull, w_fdiv, w_mod, w_pow, w_lt, w_le, w_gt, w_ge, w_eq, w_ne, w_isn, w_ist, w_isi, w_isl, w_abs, w_lent, w_lenl, w_intb, w_list, w_tuple, w_min, w_idxt0, w_idxt1, w_idxu0, w_idxu1, w_idxu2, w_idxl, w_slcl, w_tb, w_ti, w_tn, w_tt, w_tl, w_itt, w_itl, w_bindT1, w_bindT2, w_srcl, w_srct, w_cut2, w_cut1, w_cut1', w_cut0, w_ty1, w_ty2, w_ty3, w_ty4, w_ty5, w_ty6, w_ty7, w_ty8, w_ty9, w_ty10, w_ty11, w_ty12, w_ty13, w_ty14, w_ty15, w_ty16, w_ty17, w_ty18, w_ty19, w_ty20, w_ty21, w_mapc, w_mapn, w_appc, w_appn, w_repc, w_repn, w_start, w_lenc, w_ifT, w_ifF, w_ifFF, w_ifTF, w_nT, w_nF, w_anyT, w_anyF, w_d22, ifSome_some, ifLst_lst, ifTup_tup, ifInt_int, lget, lset, lsets, Nat.reduceSub, Nat.reduceAdd, List.length_nil, ↓reduceIte]
    refine s_cell rfl (ns := ns) (by decide) h2 ?_
    refine ⟨(show DivOk _ by unfold DivOk; decide), ?_⟩
    dsimp only [qS1, qS2, qS3, qS4, qS5, qS7, qS9, qS10, qS11, qS12, qS13, qS14, qE1, qE2, qE5, qE7, qE8, qE9, qE10, qE11, qE12, qE13, qE14, qE15, qE16, qE17, qE18, qE19, qE20, qE21, qE22, qEs1, qEs2, wpAll, qO1, qO2, qI1, qI2, qI3, w_add, w_addl, w_sub, w_mul, w_mull, w_fdiv, w_mod, w_pow, w_lt, w_le, w_gt, w_ge, w_eq, w_ne, w_isn, w_ist, w_isi, w_isl, w_abs, w_lent, w_lenl, w_intb, w_list, w_tuple, w_min, w_idxt0, w_idxt1, w_idxu0, w_idxu1, w_idxu2, w_idxl, w_slcl, w_tb, w_ti, w_tn, w_tt, w_tl, w_itt, w_itl, w_bindT1, w_bindT2, w_srcl, w_srct, w_cut2, w_cut1, w_cut1', w_cut0, w_ty1, w_ty2, w_ty3, w_ty4, w_ty5, w_ty6, w_ty7, w_ty8, w_ty9, w_ty10, w_ty11, w_ty12, w_ty13, w_ty14, w_ty15, w_ty16, w_ty17, w_ty18, w_ty19, w_ty20, w_ty21, w_mapc, w_mapn, w_appc, w_appn, w_repc, w_repn, w_start, w_lenc, w_ifT, w_ifF, w_ifFF, w_ifTF, w_nT, w_nF, w_anyT, w_anyF, w_d22, ifSome_some, ifLst_lst, ifTup_tup, ifInt_int, lget, lset, lsets, Nat.reduceSub, Nat.reduceAdd, List.length_nil, ↓reduceIte]
    refine s_other (by_ := 24) rfl rfl qp'.len qp'.sm fun H3 f hp3 hf sf => ?_
    exact fin5 (preTrans hp1 (preTrans hp2 hp3)) qp h' (qp'.pdf hf sf)
  · rw [decide_eq_false hc]
    exact fin5 (preTrans hp1 hp2) qp h' qp'.pd
end
theorem spec (ns : List Int) (h : ns.length ≤ 63) : callN nosub fnTab 8 39 [.lst 0] [ns.map .int] (fun v _ => v = .bool true) (fun _ _ => False) := by
  have h0 : [ns.map V.int][0]? = some (ns.map V.int) := rfl
  have fin : wpS nosub (callN nosub fnTab 7) (fun m => [ns.map V.int].length ≤ m) t_law_6 [some (.lst 0), none, none, none, none, none, none, none, none, none, none] [ns.map V.int] (fun _ _ => V.none = .bool true) (fun v _ => v = .bool true) (fun _ _ => False) := tail6 (fun _ => rfl) h0
  refine callN_mk (d := ⟨1, 11, b_law⟩) rfl rfl ?_
  dsimp only [b_law]
  revert fin
  generalize t_law_6 = T
  intro fin
  dsimp only [qS1, qS2, qS3, qS4, qS5, qS7, qS9, qS10, qS11, qS12, qS13, qS14, qE1, qE2, qE5, qE7, qE8, qE9, qE10, qE11, qE12, qE13, qE14, qE15, qE16, qE17, qE18, qE19, qE20, qE21, qE22, qEs1, qEs2, wpAll, qO1, qO2, qI1, qI2, qI3, w_add, w_addl, w_sub, w_mul, w_mull, w_fdiv, w_mod, w_pow, w_lt, w_le, w_gt, w_ge, w_eq, w_ne, w_isn, w_ist, w_isi, w_isl, w_abs, w_lent, w_lenl, w_intb, w_list, w_tuple, w_min, w_idxt0, w_idxt1, w_idxu0, w_idxu1, w_idxu2, w_idxl, w_slcl, w_tb, w_ti, w_tn, w_tt, w_tl, w_itt, w_itl, w_bindT1, w_bindT2, w_srcl, w_srct, w_cut2, w_cut1, w_cut1', w_cut0, w_ty1, w_ty2, w_ty3, w_ty4, w_ty5, w_ty6, w_ty7, w_ty8, w_ty9, w_ty10, w_ty11, w_ty12, w_ty13, w_ty14, w_ty15, w_ty16, w_ty17, w_ty18, w_ty19, w_ty20, w_ty21, w_mapc, w_mapn, w_appc, w_appn, w_repc, w_repn, w_start, w_lenc, w_ifT, w_ifF, w_ifFF, w_ifTF, w_nT, w_nF, w_anyT, w_anyF, w_d22, ifSome_some, ifLst_lst, ifTup_tup, ifInt_int, lget, lset, lsets, Nat.reduceSub, Nat.reduceAdd, List.length_nil, ↓reduceIte]
  refine s_cell rfl (ns := ns) (by decide) h0 ?_
  refine ⟨by decide, ?_⟩
  dsimp only [qS1, qS2, qS3, qS4, qS5, qS7, qS9, qS10, qS11, qS12, qS13, qS14, qE1, qE2, qE5, qE7, qE8, qE9, qE10, qE11, qE12, qE13, qE14, qE15, qE16, qE17, qE18, qE19, qE20, qE21, qE22, qEs1, qEs2, wpAll, qO1, qO2, qI1, qI2, qI3, w_add, w_addl, w_sub, w_mul, w_mull, w_fdiv, w_mod, w_pow, w_lt, w_le, w_gt, w_ge, w_eq, w_ne, w_isn, w_ist, w_isi, w_isl, w_abs, w_lent, w_lenl, w_intb, w_list, w_tuple, w_min, w_idxt0, w_idxt1, w_idxu0, w_idxu1, w_idxu2, w_idxl, w_slcl, w_tb, w_ti, w_tn, w_tt, w_tl, w_itt, w_itl, w_bindT1, w_bindT2, w_srcl, w_srct, w_cut2, w_cut1, w_cut1', w_cut0, w_ty1, w_ty2, w_ty3, w_ty4, w_ty5, w_ty6, w_ty7, w_ty8, w_ty9, w_ty10, w_ty11, w_ty12, w_ty13, w_ty14, w_ty15, w_ty16, w_ty17, w_ty18, w_ty19, w_ty20, w_ty21, w_mapc, w_mapn, w_appc, w_appn, w_repc, w_repn, w_start, w_lenc, w_ifT, w_ifF, w_ifFF, w_ifTF, w_nT, w_nF, w_anyT, w_anyF, w_d22, ifSome_some, ifLst_lst, ifTup_tup, ifInt_int, lget, lset, lsets, Nat.reduceSub, Nat.reduceAdd, List.length_nil, ↓reduceIte]
  by_cases hc : (cellI ns (12 : Int).toNat).fmod 6 = 1
  · rw [decide_eq_true hc]
    dsimp only [qS1, qS2, qS3, qS4, qS5, qS7, qS9, qS10, qS11, qS12, qS13, qS14, qE1, qE2, qE5, qE7, qE8, qE9, qE10, qE11, qE12, qE13, qE14, qE15, qE16, qE17, qE18, qE19, qE20, qE21, qE22, qEs1, qEs2, wpAll, qO1, qO2, qI1, qI2, qI3, w_add, w_addl, w_sub, w_mul, w_mull, w_fdiv, w_mod, w_pow, w_lt, w_le, w_gt, w_ge, w_eq, w_ne, w_isn, w_ist, w_isi, w_isl, w_abs, w_lent, w_lenl, w_intb, w_list, w_tuple, w_min, w_idxt0, w_idxt1, w_idxu0, w_idxu1, w_idxu2, w_idxl, w_slcl, w_tb, w_ti, w_tn, w_tt, w_tl, w_itt, w_itl, w_bindT1, w_bindT2, w_srcl, w_srct, w_cut2, w_cut1, w_cut1', w_cut0, w_ty1, w_ty2, w_ty3, w_ty4, w_ty5, w_ty6, w_ty7, w_ty8, w_ty9, w_ty10, w_ty11, w_ty12, w_ty13, w_ty14, w_ty15, w_ty16, w_ty17, w_ty18, w_ty19, w_ty20, w_ty21, w_mapc, w_mapn, w_appc, w_appn, w_repc, w_repn, w_start, w_lenc, w_ifT, w_ifF, w_ifFF, w_ifTF, w_nT, w_nF, w_anyT, w_anyF, w_d22, ifSome_some, ifLst_lst, ifTup_tup, ifInt_int, lget, lset, lsets, Nat.reduceSub, Nat.reduceAdd, List.length_nil, ↓reduceIte]
    refine s_cell rfl (ns := ns) (by decide) h0 ?_
    refine ⟨(show DivOk _ by unfold DivOk; decide), ?_⟩
    dsimp only [qS1, qS2, qS3, qS4, qS5, qS7, qS9, qS10, qS11, qS12, qS13, qS14, qE1, qE2, qE5, qE7, qE8, qE9, qE10, qE11, qE12, qE13, qE14, qE15, qE16, qE17, qE18, qE19, qE20, qE21, qE22, qEs1, qEs2, wpAll, qO1, qO2, qI1, qI2, qI3, w_add, w_addl, w_sub, w_mul, w_mull, w_fdiv, w_mod, w_pow, w_lt, w_le, w_gt, w_ge, w_eq, w_ne, w_isn, w_ist, w_isi, w_isl, w_abs, w_lent, w_lenl, w_intb, w_list, w_tuple, w_min, w_idxt0, w_idxt1, w_idxu0, w_idxu1, w_idxu2, w_idxl, w_slcl, w_tb, w_ti, w_tn, w_tt, w_tl, w_itt, w_itl, w_bindT1, w_bindT2, w_srcl, w_srct, w_cut2, w_cut1, w_cut1', w_cut0, w_ty1, w_ty2, w_ty3, w_ty4, w_ty5, w_ty6, w_ty7, w_ty8, w_ty9, w_ty10, w_ty11, w_ty12, w_ty13, w_ty14, w_ty15, w_ty16, w_ty17, w_ty18, w_ty19, w_ty20, w_ty21, w_mapc, w_mapn, w_appc, w_appn, w_repc, w_repn, w_start, w_lenc, w_ifT, w_ifF, w_ifFF, w_ifTF, w_nT, w_nF, w_anyT, w_anyF, w_d22, ifSome_some, ifLst_lst, ifTup_tup, ifInt_int, lget, lset, lsets, Nat.reduceSub, Nat.reduceAdd, List.length_nil, ↓reduceIte]
    exact s_near fun _ _ => rfl
  · rw [decide_eq_false hc]
    exact fin
end L08
end Mine

open PySem PyProof.Rows PySem.Calls PySem.W
set_option Elab.async false
set_option maxRecDepth 100000
set_option maxHeartbeats 8000000
set_option linter.unusedVariables false
namespace Mine
theorem boot_size (w : World) : ((boot_heap w.params).isNs mainGlobals, (boot_heap w.params).objs.size, (boot_heap w.params).nsMap mainGlobals "__annotations__") = (true, 11, some (.ref 6)) := by kernel_rfl
noncomputable def vw08 : Program := PySem.W.view PySem.Challenge.pw_uf020007_08 [1, 2, 3, 5, 6, 7, 8, 9, 10, 12, 13, 14, 15, 16, 17, 19, 20, 21, 22, 23, 24, 25, 26, 27, 29, 30, 31, 32, 33, 34, 35, 36, 37, 38, 39, 40, 41, 42, 43, 44, 45, 46, 47, 48, 49]
noncomputable def k08_3_0 (P : Params) : List DictEntry := [{ hash := PyData.keyHash P (Str.ofString "__name__"), key := Value.str (Str.ofString "__name__") 165, val := Value.str (Str.ofString "law_uf020007_08") 413 }, { hash := PyData.keyHash P (Str.ofString "__doc__"), key := Value.str (Str.ofString "__doc__") 166, val := Value.none }, { hash := PyData.keyHash P (Str.ofString "__package__"), key := Value.str (Str.ofString "__package__") 167, val := Value.none }, { hash := PyData.keyHash P (Str.ofString "__loader__"), key := Value.str (Str.ofString "__loader__") 168, val := Value.builtin "__main__.__loader__#opaque" }, { hash := PyData.keyHash P (Str.ofString "__spec__"), key := Value.str (Str.ofString "__spec__") 169, val := Value.none }, { hash := PyData.keyHash P (Str.ofString "__annotations__"), key := Value.str (Str.ofString "__annotations__") 170, val := Value.ref 6 }, { hash := PyData.keyHash P (Str.ofString "__builtins__"), key := Value.str (Str.ofString "__builtins__") 171, val := Value.ref 4 }, { hash := PyData.keyHash P (Str.ofString "__file__"), key := Value.str (Str.ofString "__file__") 173, val := Value.str (Str.ofString "/claim/cut.py") 172 }]
noncomputable def k08_3_1 (P : Params) : List DictEntry := [{ hash := PyData.keyHash P (Str.ofString "__cached__"), key := Value.str (Str.ofString "__cached__") 174, val := Value.none }, { hash := PyData.keyHash P (Str.ofString "PegError"), key := Value.str (Str.ofString "PegError") 206, val := Value.ref 24 }, { hash := PyData.keyHash P (Str.ofString "NoPart"), key := Value.str (Str.ofString "NoPart") 222, val := Value.ref 37 }, { hash := PyData.keyHash P (Str.ofString "NoStretch"), key := Value.str (Str.ofString "NoStretch") 238, val := Value.ref 49 }, { hash := PyData.keyHash P (Str.ofString "divisor"), key := Value.str (Str.ofString "divisor") 249, val := Value.ref 58 }, { hash := PyData.keyHash P (Str.ofString "part"), key := Value.str (Str.ofString "part") 258, val := Value.ref 65 }, { hash := PyData.keyHash P (Str.ofString "below"), key := Value.str (Str.ofString "below") 266, val := Value.ref 72 }, { hash := PyData.keyHash P (Str.ofString "part_sum"), key := Value.str (Str.ofString "part_sum") 274, val := Value.ref 79 }]
noncomputable def k08_3_2 (P : Params) : List DictEntry := [{ hash := PyData.keyHash P (Str.ofString "part_product"), key := Value.str (Str.ofString "part_product") 282, val := Value.ref 86 }, { hash := PyData.keyHash P (Str.ofString "turned_about"), key := Value.str (Str.ofString "turned_about") 289, val := Value.ref 93 }, { hash := PyData.keyHash P (Str.ofString "sign_at"), key := Value.str (Str.ofString "sign_at") 302, val := Value.ref 100 }, { hash := PyData.keyHash P (Str.ofString "trimmed"), key := Value.str (Str.ofString "trimmed") 310, val := Value.ref 107 }, { hash := PyData.keyHash P (Str.ofString "reduced"), key := Value.str (Str.ofString "reduced") 316, val := Value.ref 112 }, { hash := PyData.keyHash P (Str.ofString "without_last"), key := Value.str (Str.ofString "without_last") 322, val := Value.ref 117 }, { hash := PyData.keyHash P (Str.ofString "rest_of"), key := Value.str (Str.ofString "rest_of") 331, val := Value.ref 124 }, { hash := PyData.keyHash P (Str.ofString "common"), key := Value.str (Str.ofString "common") 340, val := Value.ref 131 }]
noncomputable def k08_3_3 (P : Params) : List DictEntry := [{ hash := PyData.keyHash P (Str.ofString "HALF"), key := Value.str (Str.ofString "HALF") 345, val := Value.ref 132 }, { hash := PyData.keyHash P (Str.ofString "QUARTER"), key := Value.str (Str.ofString "QUARTER") 348, val := Value.ref 133 }, { hash := PyData.keyHash P (Str.ofString "of_part"), key := Value.str (Str.ofString "of_part") 355, val := Value.ref 140 }, { hash := PyData.keyHash P (Str.ofString "width_of"), key := Value.str (Str.ofString "width_of") 362, val := Value.ref 147 }, { hash := PyData.keyHash P (Str.ofString "narrowed"), key := Value.str (Str.ofString "narrowed") 376, val := Value.ref 154 }, { hash := PyData.keyHash P (Str.ofString "halved"), key := Value.str (Str.ofString "halved") 383, val := Value.ref 161 }, { hash := PyData.keyHash P (Str.ofString "is_same"), key := Value.str (Str.ofString "is_same") 394, val := Value.ref 168 }, { hash := PyData.keyHash P (Str.ofString "compare"), key := Value.str (Str.ofString "compare") 402, val := Value.ref 175 }]
noncomputable def k08_3_4 (P : Params) : List DictEntry := [{ hash := PyData.keyHash P (Str.ofString "sign_of_peg"), key := Value.str (Str.ofString "sign_of_peg") 412, val := Value.ref 182 }, { hash := PyData.keyHash P (Str.ofString "_law_whole"), key := Value.str (Str.ofString "_law_whole") 421, val := Value.ref 189 }, { hash := PyData.keyHash P (Str.ofString "_law_cell_at"), key := Value.str (Str.ofString "_law_cell_at") 429, val := Value.ref 196 }, { hash := PyData.keyHash P (Str.ofString "_law_divisor"), key := Value.str (Str.ofString "_law_divisor") 438, val := Value.ref 203 }, { hash := PyData.keyHash P (Str.ofString "_law_part"), key := Value.str (Str.ofString "_law_part") 447, val := Value.ref 210 }, { hash := PyData.keyHash P (Str.ofString "_law_smallest"), key := Value.str (Str.ofString "_law_smallest") 453, val := Value.ref 215 }, { hash := PyData.keyHash P (Str.ofString "_law_by"), key := Value.str (Str.ofString "_law_by") 459, val := Value.ref 220 }, { hash := PyData.keyHash P (Str.ofString "_law_sign"), key := Value.str (Str.ofString "_law_sign") 466, val := Value.ref 227 }]
noncomputable def k08_3_5 (P : Params) : List DictEntry := [{ hash := PyData.keyHash P (Str.ofString "_law_two"), key := Value.str (Str.ofString "_law_two") 475, val := Value.ref 234 }, { hash := PyData.keyHash P (Str.ofString "_law_four"), key := Value.str (Str.ofString "_law_four") 488, val := Value.ref 241 }, { hash := PyData.keyHash P (Str.ofString "_law_mul"), key := Value.str (Str.ofString "_law_mul") 497, val := Value.ref 248 }, { hash := PyData.keyHash P (Str.ofString "_law_product"), key := Value.str (Str.ofString "_law_product") 511, val := Value.ref 255 }, { hash := PyData.keyHash P (Str.ofString "_law_many"), key := Value.str (Str.ofString "_law_many") 517, val := Value.ref 260 }, { hash := PyData.keyHash P (Str.ofString "_law_and"), key := Value.str (Str.ofString "_law_and") 523, val := Value.ref 265 }, { hash := PyData.keyHash P (Str.ofString "_law_ends"), key := Value.str (Str.ofString "_law_ends") 534, val := Value.ref 272 }, { hash := PyData.keyHash P (Str.ofString "_law_quad_peg"), key := Value.str (Str.ofString "_law_quad_peg") 545, val := Value.ref 279 }]
noncomputable def k08_3_6 (P : Params) : List DictEntry := [{ hash := PyData.keyHash P (Str.ofString "_law_quad"), key := Value.str (Str.ofString "_law_quad") 556, val := Value.ref 286 }, { hash := PyData.keyHash P (Str.ofString "_law_two_quads"), key := Value.str (Str.ofString "_law_two_quads") 566, val := Value.ref 293 }, { hash := PyData.keyHash P (Str.ofString "_law_other_row"), key := Value.str (Str.ofString "_law_other_row") 575, val := Value.ref 300 }, { hash := PyData.keyHash P (Str.ofString "_law_is"), key := Value.str (Str.ofString "_law_is") 583, val := Value.ref 307 }, { hash := PyData.keyHash P (Str.ofString "_law_near"), key := Value.str (Str.ofString "_law_near") 594, val := Value.ref 314 }, { hash := PyData.keyHash P (Str.ofString "law"), key := Value.str (Str.ofString "law") 611, val := Value.ref 321 }]
noncomputable def k08_3 (P : Params) : Obj := { cls := Value.type "dict", data := Data.dict ⟨k08_3_0 P ++ (k08_3_1 P ++ (k08_3_2 P ++ (k08_3_3 P ++ (k08_3_4 P ++ (k08_3_5 P ++ (k08_3_6 P))))))⟩ 54 }
noncomputable def k08_132 (P : Params) : Obj := { cls := Value.type "tuple", data := Data.seq #[Value.int 1 343, Value.int 2 344] }
noncomputable def k08_133 (P : Params) : Obj := { cls := Value.type "tuple", data := Data.seq #[Value.int 1 346, Value.int 4 347] }
noncomputable def K08 : Params → Frag := fun P => [(nat_lit 3, k08_3 P), (nat_lit 132, k08_132 P), (nat_lit 133, k08_133 P)]
noncomputable def as08 : List Addr := [3, 132, 133]
noncomputable def E08 (w : World) (os : OsState) := endsT PySem.Challenge.pw_uf020007_08 vw08 [] (fun s => xlAt vw08 [] s && recOk (RowW.records PySem.Challenge.rw_uf020007_08.row.toRowW) s) (fun s => as08.map s.heap.get?) 11 (some (.ref 6)) 4500 w os
noncomputable def G08 (w : World) := some (true, openGood vw08 [], (K08 w.params).map fun p => some p.2)
theorem run08 (w : World) (os : OsState) : E08 w os = G08 w := by kernel_rfl
theorem left08 : LeftO PySem.Challenge.pw_uf020007_08 vw08 [] (fun s => xlAt vw08 [] s && recOk (RowW.records PySem.Challenge.rw_uf020007_08.row.toRowW) s) (fun s => as08.map s.heap.get?) (fun w => (K08 w.params).map fun p => some p.2) 4500 :=
  leftO_of (by kernel_rfl) (by kernel_rfl) (fun s => by kernel_rfl) boot_size run08
end Mine
namespace Mine
noncomputable def L08.gc : GC := ⟨L08.fnNames, L08.clsNames, [(Str.ofString "HALF", 1, 2), (Str.ofString "QUARTER", 1, 4)]⟩
theorem L08.chk : chkAll L08.gc ((recsOf vw08).map toDef) L08.fnTab L08.varTab = true := by decide +kernel
end Mine
theorem PySem.Challenge.cw_uf020007_08_holds : PySem.Challenge.rw_uf020007_08.Holds := by
  w_on
  o_law
  refine holds_open (q := Mine.vw08) (loose := []) (XP := XL Mine.vw08 []) (YP := InK Mine.K08) (N := 4500) Mine.left08 (InK.of (fun _ => by kernel_rfl)) InK.keeps (fun s e => xl_of s (Bool.and_eq_true_iff.mp e).1) XL.keeps (by rfl) (by rfl) (by rfl) (fun s e => recFacts_of (Bool.and_eq_true_iff.mp e).2) (by rfl) (by first | assumption | decide +kernel) (by decide +kernel) ⟨rfl, rfl, rfl, rfl, rfl, by decide +kernel⟩ ?hw ?hc
  case hw => w_witness2
  k_fill
  intro w s₀ s₁ mg mb G Y fa o pm cd doc dV kV ho hd hcd hD hmg hg args vals as hpre hlay hrd hwl hlo
  have KX : (Mine.K08 w.params).In s₁.heap := Y
  refine Ground.open G ?_
  intro T B D TE TW
  have GF0 := Mine.gf_plain (gc := ⟨Mine.L08.gc.fns, Mine.L08.gc.cls, []⟩) T (by decide +kernel) rfl (by decide +kernel) (by decide +kernel)
  have mH := mg_of KX T.g (show nsIn (Mine.K08 w.params) mainGlobals (Str.ofString "HALF") = some (some (.ref 132)) by k_is)
  have mQ := mg_of KX T.g (show nsIn (Mine.K08 w.params) mainGlobals (Str.ofString "QUARTER") = some (some (.ref 133)) by k_is)
  have GF1 : Mine.GF ⟨mg, mb, Mine.fnAddr mg Mine.L08.gc.fns, fun _ => .none⟩ Mine.L08.gc ((recsOf Mine.vw08).map Mine.toDef) s₁.heap := Mine.gf_globs GF0 (fun x a b hx => by
    rcases List.mem_cons.mp hx with hx | hx
    · cases hx
      exact ⟨132, 343, 344, mH, Mine.k08_132 w.params, KX 132 _ rfl, rfl, _, rfl⟩
    · rcases List.mem_cons.mp hx with hx | hx
      · cases hx
        exact ⟨133, 346, 347, mQ, Mine.k08_133 w.params, KX 133 _ rfl, rfl, _, rfl⟩
      · cases hx)
  wrow_args hpre hlay hrd hwl hlo
  all_goals (
    first | refine callC_kw (enter_call ?_) | refine enter_call ?_ | refine callC_kw (enter_callW ?_) | refine enter_callW ?_ | w_how
    w_top on
    try refine codeAny_mono ?_ (fun _ _ g => GoodW.toG g)
    rename_i hL hlay1 _ _ _ _ _ _ _ hLs _ _ _ hI _ hcond _
    refine Mine.run_law rfl (gc := Mine.L08.gc) (P := Mine.L08.fnTab) (VT := Mine.L08.varTab) (sub := Mine.L08.nosub) (k := 39) (n := 8) (x := "law")
      GF1 (by decide +kernel) Mine.L08.chk (by decide) hLs hI (by omega) (by decide +kernel) hmg (by decide) (Mine.L08.spec _ (by omega)) ?_
    · intro h' tk kp
      exact ⟨.inl ⟨_, .bool true, [], rfl, by intro cls; rfl, .bool true, (by first | rfl | exact postW_of rfl rfl (by decide +kernel)), unshared_nil⟩, kp, rfl, hg⟩)

