import PyProof.Rows.All
import Wide.All
import OpenK.AllK
import Wide.FinOn
import Open.Row
import PyProof.Fits
import PyProof.SameEqv
import PyProof.Rows.InDataRows
import PyProof.TupleOfSeq
import PyProof.ListCopy
import PyProof.Rows.TupMore
import KE.KRevIter
import PyProof.Rows.Range3
import PyProof.CompFree
import PyProof.CompUse
import PyProof.FitsBits
import KE.KTryDeep
import PyProof.ExcBaseAll.ValueError
import PyProof.ExcArgsOwn
import PyProof.ExcAttrAll.ValueError
import KE.RegKTryMore
import KE.RegKIsAll
import PySem.Challenge.RW_uf020007_03
set_option Elab.async false
set_option autoImplicit false
set_option genSizeOf false
set_option genInjectivity false
namespace Mine
open PySem

/-! the mini language: values, expressions, statements -/

inductive V where
  | int (i : Int)
  | bool (b : Bool)
  | none
  | str (s : Str)
  | tup (xs : List V)
  | lst (n : Nat)
  | fn (k : Nat)
  | exc (k : Nat)

abbrev Hp := List (List V)
abbrev Loc := List (Option V)

inductive BOp where
  | add | sub | mul | fdiv | mod | pow
inductive COp where
  | lt | le | gt | ge | eq | ne | isin | notin | is
inductive Bi where
  | abs | len | int | list | tuple | min | listrev
inductive Ty where
  | int | bool | tuple | list | cls (k : Nat)

mutual
inductive PE where
  | cint (i : Int)
  | cbool (b : Bool)
  | cstr (s : Str)
  | cnone
  | var (i : Nat)
  | fnv (k : Nat)
  | glob (x : Str) (a b : Int)
  | bin (op : BOp) (a b : PE)
  | neg (a : PE)
  | nt (a : PE)
  | cmp (op : COp) (a b : PE)
  | and (es : PEs)
  | or (es : PEs)
  | call (f : Nat) (es : PEs)
  | callv (i : Nat) (es : PEs)
  | bi (b : Bi) (es : PEs)
  | isi (a : PE) (ts : List Ty)
  | idx (a b : PE)
  | slc (a : PE) (lo hi : PO)
  | tup (es : PEs)
  | lst (es : PEs)
  | comp (elt : PE) (tg : Nat) (caps : List Nat) (it : PI) (cond : PO)
inductive PEs where
  | nil
  | cons (e : PE) (r : PEs)
inductive PO where
  | no
  | some (e : PE)
inductive PI where
  | seq (e : PE)
  | rev (e : PE)
  | rng (es : PEs)
end

inductive PS where
  | skip
  | seq (a b : PS)
  | assign (i : Nat) (e : PE)
  | unpack (xs : List Nat) (e : PE)
  | setidx (i : Nat) (k e : PE)
  | app (i : Nat) (e : PE)
  | pop (i : Nat)
  | rev (i : Nat)
  | ret (e : PE)
  | ite (c : PE) (a b : PS)
  | whl (c : PE) (b : PS)
  | forr (i : Nat) (it : PI) (b : PS)
  | raise (k : Nat)
  | opaq
  | rett (f : Nat) (es : PEs)
  | asst (i f : Nat) (es : PEs)
  | itet (a b : PE) (f : Nat) (es : PEs) (x : Nat) (s t : PS)
  | randt (cs : List (Nat × PEs))

/-! locals -/
noncomputable def lget : Loc → Nat → Option V
  | [], _ => none
  | x :: _, 0 => x
  | _ :: r, n + 1 => lget r n
noncomputable def lset : Loc → Nat → V → Loc
  | [], _, _ => []
  | _ :: r, 0, v => some v :: r
  | x :: r, n + 1, v => x :: lset r n v
noncomputable def lsets : Loc → List Nat → List V → Loc
  | ρ, i :: is, v :: vs => lsets (lset ρ i v) is vs
  | ρ, _, _ => ρ

/-! looks -/
noncomputable def items (H : Hp) : V → Option (List V)
  | .tup xs => some xs
  | .lst n => H[n]?
  | _ => none
noncomputable def truthV (H : Hp) : V → Option Bool
  | .bool b => some b
  | .int i => some (i != 0)
  | .none => some false
  | .tup xs => some (!xs.isEmpty)
  | .lst n => (H[n]?).map fun xs => !xs.isEmpty
  | _ => none
noncomputable def datOf (H : Hp) : Nat → V → Option PyData
  | _, .int i => some (.int i)
  | _, .bool b => some (.bool b)
  | _, .none => some .none
  | _, .str s => if PyData.strOk s = true then some (.str s) else none
  | n + 1, .tup xs => (xs.mapM (datOf H n)).map .tuple
  | n + 1, .lst k => match H[k]? with
    | some xs => (xs.mapM (datOf H n)).map .list
    | none => none
  | _, _ => none
noncomputable def place (n : Nat) (k : Int) : Option Nat :=
  if 0 ≤ k then (if k < n then some k.toNat else none) else (if 0 ≤ k + n then some (k + n).toNat else none)
noncomputable def clampAt (n : Nat) (k : Int) : Nat :=
  (max 0 (min (if k < 0 then k + n else k) n)).toNat
noncomputable def cut (xs : List V) (lo hi : Nat) : List V := (xs.take hi).drop lo

end Mine

set_option autoImplicit false
namespace Mine
open PySem

abbrev Call := Nat → List V → Hp → (V → Hp → Prop) → (Nat → Hp → Prop) → Prop
/-- a bound on lists' lengths -/
noncomputable def lim : Nat := 1000000

/-- the look gives something, and that fits -/
noncomputable def ifSome {β : Type} (o : Option β) (P : β → Prop) : Prop := match o with
  | some v => P v
  | none => False
theorem ifSome_some {β : Type} {v : β} {P : β → Prop} : ifSome (some v) P = P v := rfl
theorem ifSome.get {β : Type} {o : Option β} {P : β → Prop} (q : ifSome o P) : ∃ v, o = some v ∧ P v := by
  cases o with
  | none => exact False.elim q
  | some v => exact ⟨v, rfl, q⟩
theorem ifSome.mk {β : Type} {o : Option β} {P : β → Prop} {v : β} (e : o = some v) (q : P v) : ifSome o P := by rw [e]; exact q
noncomputable def ifLst (o : Option V) (P : Nat → Prop) : Prop := match o with
  | some (.lst n) => P n
  | _ => False
theorem ifLst_lst {n : Nat} {P : Nat → Prop} : ifLst (some (.lst n)) P = P n := rfl
theorem ifLst.get {o : Option V} {P : Nat → Prop} (q : ifLst o P) : ∃ n, o = some (.lst n) ∧ P n := by
  cases o with
  | none => exact False.elim q
  | some v => cases v <;> first | exact False.elim q | exact ⟨_, rfl, q⟩
noncomputable def ifTup (v : V) (P : List V → Prop) : Prop := match v with
  | .tup xs => P xs
  | _ => False
theorem ifTup_tup {xs : List V} {P : List V → Prop} : ifTup (.tup xs) P = P xs := rfl
noncomputable def ifInt (v : V) (P : Int → Prop) : Prop := match v with
  | .int i => P i
  | _ => False
theorem ifInt_int {i : Int} {P : Int → Prop} : ifInt (.int i) P = P i := rfl
theorem ifInt.get {v : V} {P : Int → Prop} (q : ifInt v P) : ∃ i, v = .int i ∧ P i := by
  cases v <;> first | exact False.elim q | exact ⟨_, rfl, q⟩

noncomputable def DivOk (b : Int) : Prop := b ≠ 0

noncomputable def binWp (op : BOp) (x y : V) (H : Hp) (Q : V → Hp → Prop) : Prop :=
  match op, x, y with
  | .add, .int a, .int b => Q (.int (a + b)) H
  | .add, .lst m, .lst n => ifSome H[m]? fun xs => ifSome H[n]? fun ys => xs.length + ys.length ≤ lim ∧ Q (.lst H.length) (H ++ [xs ++ ys])
  | .sub, .int a, .int b => Q (.int (a - b)) H
  | .mul, .int a, .int b => IntMulOk a b ∧ Q (.int (a * b)) H
  | .mul, .lst m, .int k => ∃ x, H[m]? = some [x] ∧ 0 ≤ k ∧ k ≤ lim ∧ Q (.lst H.length) (H ++ [List.replicate k.toNat x])
  | .fdiv, .int a, .int b => DivOk b ∧ Q (.int (a.fdiv b)) H
  | .mod, .int a, .int b => b ≠ 0 ∧ Q (.int (a.fmod b)) H
  | .pow, .int a, .int b => 0 ≤ b ∧ b ≤ 1000 ∧ a.natAbs < 2 ^ 64 ∧ Q (.int (a ^ b.toNat)) H
  | _, _, _ => False

noncomputable def eqWp (x y : V) (H : Hp) (Q : Bool → Prop) : Prop :=
  ∃ da db, datOf H 4 x = some da ∧ datOf H 4 y = some db ∧ Q (PyData.eqv da db)

noncomputable def cmpWp (op : COp) (x y : V) (H : Hp) (Q : V → Hp → Prop) : Prop :=
  match op, x, y with
  | .lt, .int a, .int b => Q (.bool (decide (a < b))) H
  | .le, .int a, .int b => Q (.bool (decide (a ≤ b))) H
  | .gt, .int a, .int b => Q (.bool (decide (b < a))) H
  | .ge, .int a, .int b => Q (.bool (decide (b ≤ a))) H
  | .eq, .int a, .int b => Q (.bool (decide (a = b))) H
  | .ne, .int a, .int b => Q (.bool (!decide (a = b))) H
  | .eq, x, y => eqWp x y H fun b => Q (.bool b) H
  | .ne, x, y => eqWp x y H fun b => Q (.bool (!b)) H
  | .is, x, .none => Q (.bool (match x with | .none => true | _ => false)) H
  | .isin, x, .lst n => ∃ da ds, datOf H 3 x = some da ∧ datOf H 4 (.lst n) = some (.list ds) ∧ (∀ y ∈ ds, SeqAt.noMix y da = true) ∧ Q (.bool (ds.any fun d => PyData.eqv d da)) H
  | .notin, x, .lst n => ∃ da ds, datOf H 3 x = some da ∧ datOf H 4 (.lst n) = some (.list ds) ∧ (∀ y ∈ ds, SeqAt.noMix y da = true) ∧ Q (.bool (!ds.any fun d => PyData.eqv d da)) H
  | _, _, _ => False

noncomputable def biWp (b : Bi) (vs : List V) (H : Hp) (Q : V → Hp → Prop) : Prop :=
  match b, vs with
  | .abs, [.int a] => Q (.int (if a < 0 then -a else a)) H
  | .len, [x] => ifSome (items H x) fun xs => Q (.int xs.length) H
  | .int, [.bool b] => Q (.int (if b then 1 else 0)) H
  | .list, [x] => ifSome (items H x) fun xs => Q (.lst H.length) (H ++ [xs])
  | .tuple, [x] => ifSome (items H x) fun xs => Q (.tup xs) H
  | .listrev, [x] => ∃ xs, items H x = some xs ∧ Q (.lst H.length) (H ++ [xs.reverse])
  | .min, [.int a, .int b] => Q (.int (if b < a then b else a)) H
  | _, _ => False

/-- the class table: subclass relation by numbers -/
noncomputable def isTy (sub : Nat → Nat → Bool) (v : V) (t : Ty) : Option Bool :=
  match v, t with
  | .exc c, .cls k => some (sub c k)
  | .exc _, _ => none
  | .fn _, _ => none
  | _, .cls _ => none
  | .int _, .int => some true
  | .bool _, .int => some true
  | .bool _, .bool => some true
  | .tup _, .tuple => some true
  | .lst _, .list => some true
  | _, _ => some false

noncomputable def idxWp (x y : V) (H : Hp) (Q : V → Hp → Prop) : Prop :=
  match y with
  | .int k => ifSome (items H x) fun xs => ifSome (place xs.length k) fun i => ifSome xs[i]? fun v => Q v H
  | _ => False

noncomputable def cutAt (n : Nat) (lo hi : Option V) : Option (Nat × Nat) :=
  match lo, hi with
  | some (.int a), some (.int b) => some (clampAt n a, clampAt n b)
  | none, some (.int b) => some (0, clampAt n b)
  | some (.int a), none => some (clampAt n a, n)
  | none, none => some (0, n)
  | _, _ => none

noncomputable def slcWp (x : V) (lo hi : Option V) (H : Hp) (Q : V → Hp → Prop) : Prop :=
  match x with
  | .tup xs => (∃ a, lo = some (.int a) ∧ hi = none ∧ 1 ≤ a ∧ a ≤ xs.length ∧ Q (.tup (xs.drop a.toNat)) H) ∨ (lo = none ∧ hi = some (.int (-1)) ∧ xs ≠ [] ∧ Q (.tup xs.dropLast) H)
  | .lst n => ifSome H[n]? fun xs => ifSome (cutAt xs.length lo hi) fun p => Q (.lst H.length) (H ++ [cut xs p.1 p.2])
  | _ => False

/-- ints of a range -/
noncomputable def rangeL (a b c : Int) : List Int := (List.range (Builtin.Range.rangeSize a b c).toNat).map fun (i : Nat) => a + c * (i : Int)
noncomputable def smallI (a : Int) : Prop := -(2 ^ 40) < a ∧ a < 2 ^ 40
noncomputable def rngOf : List V → Option (Int × Int × Int)
  | [.int b] => some (0, b, 1)
  | [.int a, .int b] => some (a, b, 1)
  | [.int a, .int b, .int c] => some (a, b, c)
  | _ => none
noncomputable def rngWp (vs : List V) (H : Hp) (Q : List V → Option Nat → Hp → Prop) : Prop :=
  ∃ a b c, rngOf vs = some (a, b, c) ∧ smallI a ∧ smallI b ∧ (c = 1 ∨ c = -1 ∨ c = 2) ∧ Q ((rangeL a b c).map V.int) none H

/-- the list that a loop reads -/
noncomputable def srcOf : V → Option Nat
  | .lst n => some n
  | _ => none

noncomputable def compGo (step : V → Hp → (Option V → Hp → Prop) → Prop) : List V → Hp → (List V → Hp → Prop) → Prop
  | [], H, Q => Q [] H
  | x :: xs, H, Q => step x H fun o H1 => compGo step xs H1 fun ys H2 => Q (match o with | some y => y :: ys | none => ys) H2

noncomputable def bindT (tg : Nat) (x : V) : Option Loc :=
  match tg, x with
  | 1, x => some [some x]
  | 2, .tup [a, b] => some [some a, some b]
  | _, _ => none

section
variable (sub : Nat → Nat → Bool) (Φ : Call)
mutual
noncomputable def wpE : PE → Loc → Hp → (V → Hp → Prop) → Prop
  | .cint i, _, H, Q => Q (.int i) H
  | .cbool b, _, H, Q => Q (.bool b) H
  | .cstr s, _, H, Q => Q (.str s) H
  | .cnone, _, H, Q => Q .none H
  | .var i, ρ, H, Q => ifSome (lget ρ i) fun v => Q v H
  | .fnv k, _, H, Q => Q (.fn k) H
  | .glob _ a b, _, H, Q => Q (.tup [.int a, .int b]) H
  | .bin op a b, ρ, H, Q => wpE a ρ H fun x H1 => wpE b ρ H1 fun y H2 => binWp op x y H2 Q
  | .neg a, ρ, H, Q => wpE a ρ H fun x H1 => match x with | .int i => Q (.int (-i)) H1 | _ => False
  | .nt a, ρ, H, Q => wpE a ρ H fun x H1 => ifSome (truthV H1 x) fun t => Q (.bool (!t)) H1
  | .cmp op a b, ρ, H, Q => wpE a ρ H fun x H1 => wpE b ρ H1 fun y H2 => cmpWp op x y H2 Q
  | .and es, ρ, H, Q => wpAll true es ρ H Q
  | .or es, ρ, H, Q => wpAll false es ρ H Q
  | .call f es, ρ, H, Q => wpEs es ρ H fun vs H1 => Φ f vs H1 Q fun _ _ => False
  | .callv _ _, _, _, _ => False
  | .bi b es, ρ, H, Q => wpEs es ρ H fun vs H1 => biWp b vs H1 Q
  | .isi a ts, ρ, H, Q => wpE a ρ H fun x H1 => ifSome (ts.mapM (isTy sub x)) fun bs => Q (.bool (bs.any id)) H1
  | .idx a b, ρ, H, Q => wpE a ρ H fun x H1 => wpE b ρ H1 fun y H2 => idxWp x y H2 Q
  | .slc a lo hi, ρ, H, Q => wpE a ρ H fun x H1 => wpO lo ρ H1 fun l H2 => wpO hi ρ H2 fun h H3 => slcWp x l h H3 Q
  | .tup es, ρ, H, Q => wpEs es ρ H fun vs H1 => Q (.tup vs) H1
  | .lst es, ρ, H, Q => wpEs es ρ H fun vs H1 => Q (.lst H1.length) (H1 ++ [vs])
  | .comp elt tg caps it cond, ρ, H, Q => wpI it ρ H fun xs _ H1 => xs.length ≤ lim ∧ compGo (fun x H2 k => ifSome (bindT tg x) fun ρt =>
      wpO cond (ρt ++ caps.map (lget ρ)) H2 fun c H3 => ifSome (match c with | some c => truthV H3 c | none => some true) fun t =>
        if t then wpE elt (ρt ++ caps.map (lget ρ)) H3 fun y H4 => k (some y) H4 else k none H3) xs H1 fun ys H5 => Q (.lst H5.length) (H5 ++ [ys])
noncomputable def wpEs : PEs → Loc → Hp → (List V → Hp → Prop) → Prop
  | .nil, _, H, Q => Q [] H
  | .cons e r, ρ, H, Q => wpE e ρ H fun v H1 => wpEs r ρ H1 fun vs H2 => Q (v :: vs) H2
noncomputable def wpAll (b : Bool) : PEs → Loc → Hp → (V → Hp → Prop) → Prop
  | .nil, _, _, _ => False
  | .cons e .nil, ρ, H, Q => wpE e ρ H Q
  | .cons e r, ρ, H, Q => wpE e ρ H fun v H1 => ifSome (truthV H1 v) fun t => if t = b then wpAll b r ρ H1 Q else Q v H1
noncomputable def wpO : PO → Loc → Hp → (Option V → Hp → Prop) → Prop
  | .no, _, H, Q => Q none H
  | .some e, ρ, H, Q => wpE e ρ H fun v H1 => Q (some v) H1
noncomputable def wpI : PI → Loc → Hp → (List V → Option Nat → Hp → Prop) → Prop
  | .seq e, ρ, H, Q => wpE e ρ H fun v H1 => ifSome (items H1 v) fun xs => Q xs (srcOf v) H1
  | .rev e, ρ, H, Q => wpE e ρ H fun v H1 => ifSome (items H1 v) fun xs => Q xs.reverse (srcOf v) H1
  | .rng es, ρ, H, Q => wpEs es ρ H fun vs H1 => rngWp vs H1 Q
end

noncomputable def forGo (body : Loc → Hp → (Loc → Hp → Prop) → Prop) (i : Nat) : List V → Loc → Hp → (Loc → Hp → Prop) → Prop
  | [], ρ, H, N => N ρ H
  | x :: xs, ρ, H, N => body (lset ρ i x) H fun ρ' H' => forGo body i xs ρ' H' N

noncomputable def listAt (W : Nat → Prop) (ρ : Loc) (H : Hp) (i : Nat) (Q : Nat → List V → Prop) : Prop :=
  ifLst (lget ρ i) fun n => W n ∧ ifSome H[n]? fun xs => Q n xs

/-- calls that may catch and give back True, one behind the other -/
noncomputable def wpT : List (Nat × PEs) → Loc → Hp → (V → Hp → Prop) → Prop
  | [], _, H, R => R (.bool true) H
  | c :: r, ρ, H, R => wpEs sub Φ c.2 ρ H fun vs H1 => Φ (c.1 + 1000) vs H1 (fun v H2 => v = .bool true ∧ wpT r ρ H2 R) fun _ _ => False

/-- W: the lists that may be written -/
noncomputable def wpS : (Nat → Prop) → PS → Loc → Hp → (Loc → Hp → Prop) → (V → Hp → Prop) → (Nat → Hp → Prop) → Prop
  | _, .skip, ρ, H, N, _, _ => N ρ H
  | W, .seq a b, ρ, H, N, R, X => wpS W a ρ H (fun ρ1 H1 => wpS W b ρ1 H1 N R X) R X
  | _, .assign i e, ρ, H, N, _, _ => wpE sub Φ e ρ H fun v H1 => N (lset ρ i v) H1
  | _, .unpack is e, ρ, H, N, _, _ => wpE sub Φ e ρ H fun v H1 => ifTup v fun vs => vs.length = is.length ∧ N (lsets ρ is vs) H1
  | W, .setidx i k e, ρ, H, N, _, _ => wpE sub Φ e ρ H fun v H1 => ifLst (lget ρ i) fun n => W n ∧ wpE sub Φ k ρ H1 fun kv H2 => ifInt kv fun j => ifSome H2[n]? fun xs =>
      ifSome (place xs.length j) fun p => N ρ (H2.set n (xs.set p v))
  | W, .app i e, ρ, H, N, _, _ => ifLst (lget ρ i) fun n => W n ∧ wpE sub Φ e ρ H fun v H1 => ifSome H1[n]? fun xs => xs.length < lim ∧ N ρ (H1.set n (xs ++ [v]))
  | W, .pop i, ρ, H, N, _, _ => listAt W ρ H i fun n xs => ∃ ys k, xs = ys ++ [.int k] ∧ N ρ (H.set n ys)
  | W, .rev i, ρ, H, N, _, _ => listAt W ρ H i fun n xs => N ρ (H.set n xs.reverse)
  | _, .ret e, ρ, H, _, R, _ => wpE sub Φ e ρ H R
  | W, .ite c a b, ρ, H, N, R, X => wpE sub Φ c ρ H fun v H1 => ifSome (truthV H1 v) fun t => if t then wpS W a ρ H1 N R X else wpS W b ρ H1 N R X
  | W, .whl c b, ρ, H, N, R, _ => ∃ (I : Loc → Hp → Prop) (μ : Loc → Hp → Nat), I ρ H ∧ ∀ ρ1 H1, I ρ1 H1 → wpE sub Φ c ρ1 H1 fun v H2 => ifSome (truthV H2 v) fun t =>
      if t then wpS W b ρ1 H2 (fun ρ3 H3 => I ρ3 H3 ∧ μ ρ3 H3 < μ ρ1 H1) R (fun _ _ => False) else N ρ1 H2
  | W, .forr i it b, ρ, H, N, R, _ => wpI sub Φ it ρ H fun xs src H1 => forGo (fun ρ2 H2 k => wpS (fun m => W m ∧ some m ≠ src) b ρ2 H2 k R fun _ _ => False) i xs ρ H1 N
  | _, .raise k, _, H, _, _, X => X k H
  | _, .opaq, _, _, _, _, _ => False
  | _, .rett f es, ρ, H, _, R, _ => wpEs sub Φ es ρ H fun vs H1 => Φ (f + 1000) vs H1 R fun _ _ => False
  | _, .asst i f es, ρ, H, N, _, _ => wpEs sub Φ es ρ H fun vs H1 => Φ (f + 1000) vs H1 (fun v H2 => N (lset ρ i v) H2) fun _ _ => False
  | W, .itet a b f es x _ t, ρ, H, N, R, X => wpE sub Φ a ρ H fun v H1 => ifSome (truthV H1 v) fun t1 => t1 = false ∧ wpE sub Φ b ρ H1 fun v H2 => ifSome (truthV H2 v) fun t2 => t2 = false ∧ wpEs sub Φ es ρ H2 fun vs H3 => Φ (f + 1000) vs H3
      (fun v H4 => ifSome (lget ρ x) fun y => cmpWp .ne v y H4 fun r H5 => ifSome (truthV H5 r) fun t3 => t3 = false ∧ wpS W t ρ H5 N R X) fun _ _ => False
  | _, .randt cs, ρ, H, _, R, _ => wpT sub Φ cs ρ H R
end

section
set_option autoImplicit true
set_option relaxedAutoImplicit true
variable {sub : Nat → Nat → Bool} {Φ : Call}
theorem qE1 : wpE sub Φ (.cint i) z1 H Q = (Q (.int i) H) := rfl
theorem qE2 : wpE sub Φ (.cbool b) z1 H Q = (Q (.bool b) H) := rfl
theorem qE3 : wpE sub Φ (.cstr s) z1 H Q = (Q (.str s) H) := rfl
theorem qE4 : wpE sub Φ (.cnone) z1 H Q = (Q .none H) := rfl
theorem qE5 : wpE sub Φ (.var i) ρ H Q = (ifSome (lget ρ i) fun v => Q v H) := rfl
theorem qE6 : wpE sub Φ (.fnv k) z1 H Q = (Q (.fn k) H) := rfl
theorem qE7 : wpE sub Φ (.glob y1 a b) z1 H Q = (Q (.tup [.int a, .int b]) H) := rfl
theorem qE8 : wpE sub Φ (.bin op a b) ρ H Q = (wpE sub Φ a ρ H fun x H1 => wpE sub Φ b ρ H1 fun y H2 => binWp op x y H2 Q) := rfl
theorem qE9 : wpE sub Φ (.neg a) ρ H Q = (wpE sub Φ a ρ H fun x H1 => match x with | .int i => Q (.int (-i)) H1 | _ => False) := rfl
theorem qE10 : wpE sub Φ (.nt a) ρ H Q = (wpE sub Φ a ρ H fun x H1 => ifSome (truthV H1 x) fun t => Q (.bool (!t)) H1) := rfl
theorem qE11 : wpE sub Φ (.cmp op a b) ρ H Q = (wpE sub Φ a ρ H fun x H1 => wpE sub Φ b ρ H1 fun y H2 => cmpWp op x y H2 Q) := rfl
theorem qE12 : wpE sub Φ (.and es) ρ H Q = (wpAll sub Φ true es ρ H Q) := rfl
theorem qE13 : wpE sub Φ (.or es) ρ H Q = (wpAll sub Φ false es ρ H Q) := rfl
theorem qE14 : wpE sub Φ (.call f es) ρ H Q = (wpEs sub Φ es ρ H fun vs H1 => Φ f vs H1 Q fun _ _ => False) := rfl
theorem qE15 : wpE sub Φ (.callv y1 y2) z1 z2 z3 = (False) := rfl
theorem qE16 : wpE sub Φ (.bi b es) ρ H Q = (wpEs sub Φ es ρ H fun vs H1 => biWp b vs H1 Q) := rfl
theorem qE17 : wpE sub Φ (.isi a ts) ρ H Q = (wpE sub Φ a ρ H fun x H1 => ifSome (ts.mapM (isTy sub x)) fun bs => Q (.bool (bs.any id)) H1) := rfl
theorem qE18 : wpE sub Φ (.idx a b) ρ H Q = (wpE sub Φ a ρ H fun x H1 => wpE sub Φ b ρ H1 fun y H2 => idxWp x y H2 Q) := rfl
theorem qE19 : wpE sub Φ (.slc a lo hi) ρ H Q = (wpE sub Φ a ρ H fun x H1 => wpO sub Φ lo ρ H1 fun l H2 => wpO sub Φ hi ρ H2 fun h H3 => slcWp x l h H3 Q) := rfl
theorem qE20 : wpE sub Φ (.tup es) ρ H Q = (wpEs sub Φ es ρ H fun vs H1 => Q (.tup vs) H1) := rfl
theorem qE21 : wpE sub Φ (.lst es) ρ H Q = (wpEs sub Φ es ρ H fun vs H1 => Q (.lst H1.length) (H1 ++ [vs])) := rfl
theorem qE22 : wpE sub Φ (.comp elt tg caps it cnd) ρ H Q = (wpI sub Φ it ρ H fun xs _ H1 => xs.length ≤ lim ∧ compGo (fun x H2 k => ifSome (bindT tg x) fun ρt => wpO sub Φ cnd (ρt ++ caps.map (lget ρ)) H2 fun c H3 => ifSome (match c with | some c => truthV H3 c | none => some true) fun t => if t then wpE sub Φ elt (ρt ++ caps.map (lget ρ)) H3 fun y H4 => k (some y) H4 else k none H3) xs H1 fun ys H5 => Q (.lst H5.length) (H5 ++ [ys])) := rfl
theorem qEs1 : wpEs sub Φ (.nil) z1 H Q = (Q [] H) := rfl
theorem qEs2 : wpEs sub Φ (.cons e r) ρ H Q = (wpE sub Φ e ρ H fun v H1 => wpEs sub Φ r ρ H1 fun vs H2 => Q (v :: vs) H2) := rfl
theorem qO1 : wpO sub Φ (.no) z1 H Q = (Q none H) := rfl
theorem qO2 : wpO sub Φ (.some e) ρ H Q = (wpE sub Φ e ρ H fun v H1 => Q (some v) H1) := rfl
theorem qI1 : wpI sub Φ (.seq e) ρ H Q = (wpE sub Φ e ρ H fun v H1 => ifSome (items H1 v) fun xs => Q xs (srcOf v) H1) := rfl
theorem qI2 : wpI sub Φ (.rev e) ρ H Q = (wpE sub Φ e ρ H fun v H1 => ifSome (items H1 v) fun xs => Q xs.reverse (srcOf v) H1) := rfl
theorem qI3 : wpI sub Φ (.rng es) ρ H Q = (wpEs sub Φ es ρ H fun vs H1 => rngWp vs H1 Q) := rfl
theorem qS1 : wpS sub Φ z0 (.skip) ρ H N z5 z6 = (N ρ H) := rfl
theorem qS2 : wpS sub Φ W (.seq a b) ρ H N R X = (wpS sub Φ W a ρ H (fun ρ1 H1 => wpS sub Φ W b ρ1 H1 N R X) R X) := rfl
theorem qS3 : wpS sub Φ z0 (.assign i e) ρ H N z5 z6 = (wpE sub Φ e ρ H fun v H1 => N (lset ρ i v) H1) := rfl
theorem qS4 : wpS sub Φ z0 (.unpack is e) ρ H N z5 z6 = (wpE sub Φ e ρ H fun v H1 => ifTup v fun vs => vs.length = is.length ∧ N (lsets ρ is vs) H1) := rfl
theorem qS5 : wpS sub Φ W (.setidx i k e) ρ H N z5 z6 = (wpE sub Φ e ρ H fun v H1 => ifLst (lget ρ i) fun n => W n ∧ wpE sub Φ k ρ H1 fun kv H2 => ifInt kv fun j => ifSome H2[n]? fun xs => ifSome (place xs.length j) fun p => N ρ (H2.set n (xs.set p v))) := rfl
theorem qS6 : wpS sub Φ W (.app i e) ρ H N z5 z6 = (ifLst (lget ρ i) fun n => W n ∧ wpE sub Φ e ρ H fun v H1 => ifSome H1[n]? fun xs => xs.length < lim ∧ N ρ (H1.set n (xs ++ [v]))) := rfl
theorem qS7 : wpS sub Φ W (.pop i) ρ H N z5 z6 = (listAt W ρ H i fun n xs => ∃ ys k, xs = ys ++ [.int k] ∧ N ρ (H.set n ys)) := rfl
theorem qS8 : wpS sub Φ W (.rev i) ρ H N z5 z6 = (listAt W ρ H i fun n xs => N ρ (H.set n xs.reverse)) := rfl
theorem qS9 : wpS sub Φ z0 (.ret e) ρ H z4 R z6 = (wpE sub Φ e ρ H R) := rfl
theorem qS10 : wpS sub Φ W (.ite c a b) ρ H N R X = (wpE sub Φ c ρ H fun v H1 => ifSome (truthV H1 v) fun t => if t then wpS sub Φ W a ρ H1 N R X else wpS sub Φ W b ρ H1 N R X) := rfl
theorem qS11 : wpS sub Φ W (.whl c b) ρ H N R z6 = (∃ (I : Loc → Hp → Prop) (μ : Loc → Hp → Nat), I ρ H ∧ ∀ ρ1 H1, I ρ1 H1 → wpE sub Φ c ρ1 H1 fun v H2 => ifSome (truthV H2 v) fun t => if t then wpS sub Φ W b ρ1 H2 (fun ρ3 H3 => I ρ3 H3 ∧ μ ρ3 H3 < μ ρ1 H1) R (fun _ _ => False) else N ρ1 H2) := rfl
theorem qS12 : wpS sub Φ W (.forr i it b) ρ H N R z6 = (wpI sub Φ it ρ H fun xs src H1 => forGo (fun ρ2 H2 k => wpS sub Φ (fun m => W m ∧ some m ≠ src) b ρ2 H2 k R fun _ _ => False) i xs ρ H1 N) := rfl
theorem qS13 : wpS sub Φ z0 (.raise k) z2 H z4 z5 X = (X k H) := rfl
theorem qS14 : wpS sub Φ z0 (.opaq) z2 z3 z4 z5 z6 = (False) := rfl
theorem qS15 : wpS sub Φ z0 (.rett f es) ρ H z4 R z6 = (wpEs sub Φ es ρ H fun vs H1 => Φ (f + 1000) vs H1 R fun _ _ => False) := rfl
theorem qS16 : wpS sub Φ z0 (.asst i f es) ρ H N z5 z6 = (wpEs sub Φ es ρ H fun vs H1 => Φ (f + 1000) vs H1 (fun v H2 => N (lset ρ i v) H2) fun _ _ => False) := rfl
theorem qS17 : wpS sub Φ W (.itet a b f es x y1 t) ρ H N R X = (wpE sub Φ a ρ H fun v H1 => ifSome (truthV H1 v) fun t1 => t1 = false ∧ wpE sub Φ b ρ H1 fun v H2 => ifSome (truthV H2 v) fun t2 => t2 = false ∧ wpEs sub Φ es ρ H2 fun vs H3 => Φ (f + 1000) vs H3 (fun v H4 => ifSome (lget ρ x) fun y => cmpWp .ne v y H4 fun r H5 => ifSome (truthV H5 r) fun t3 => t3 = false ∧ wpS sub Φ W t ρ H5 N R X) fun _ _ => False) := rfl
theorem qS18 : wpS sub Φ z0 (.randt cs) ρ H z4 R z6 = (wpT sub Φ cs ρ H R) := rfl
end

structure Fn where
  np : Nat
  nv : Nat
  body : PS

noncomputable def startLoc (np nv : Nat) (vs : List V) : Loc := vs.map some ++ List.replicate (nv - np) none

noncomputable def callN (sub : Nat → Nat → Bool) (P : List Fn) : Nat → Call
  | 0 => fun _ _ _ _ _ => False
  | n + 1 => fun f vs H Q X => ∃ d, P[f]? = some d ∧ vs.length = d.np ∧ wpS sub (callN sub P n) (fun m => H.length ≤ m) d.body (startLoc d.np d.nv vs) H (fun _ H' => Q .none H') Q X

/-- the law's own frame: calls, and calls that may catch (from 1000 on) -/
noncomputable def topC (Ψ : Nat → List V → Hp → (V → Hp → Prop) → Prop) (c : Call) : Call := fun k vs H Q Y => (k < 1000 ∧ c k vs H Q Y) ∨ (1000 ≤ k ∧ Ψ (k - 1000) vs H Q)
theorem topC_c {Ψ : Nat → List V → Hp → (V → Hp → Prop) → Prop} {c : Call} {k : Nat} {vs : List V} {H : Hp} {Q : V → Hp → Prop} {Y : Nat → Hp → Prop} (hk : k < 1000) (h : c k vs H Q Y) : topC Ψ c k vs H Q Y := .inl ⟨hk, h⟩
theorem topC_t {Ψ : Nat → List V → Hp → (V → Hp → Prop) → Prop} {c : Call} {k : Nat} {vs : List V} {H : Hp} {Q : V → Hp → Prop} {Y : Nat → Hp → Prop} (h : Ψ k vs H Q) : topC Ψ c (k + 1000) vs H Q Y := .inr ⟨Nat.le_add_left _ _, by rw [Nat.add_sub_cancel]; exact h⟩

end Mine

set_option autoImplicit false
namespace Mine
open PySem

/-- what the matcher knows of the text: the functions' names, the classes' names -/
structure GC where
  fns : List Str
  cls : List Str
  globs : List (Str × Int × Int)
/-- and of the scope -/
structure MC where
  g : GC
  scope : Scope
  names : List Str

noncomputable def MC.isGlob (c : MC) (x : Str) : Bool := decide (c.scope.names.lookup x = some NameKind.globalImplicit) && !(x == Str.ofString "__debug__")
noncomputable def MC.isVar (c : MC) (i : Nat) (x : Str) : Bool := decide (c.names[i]? = some x) && !(x == Str.ofString "__debug__") && !(x == Str.ofString "__classdict__") &&
  (decide (c.scope.names.lookup x = some NameKind.local) || decide (c.scope.names.lookup x = some NameKind.cell) || decide (c.scope.names.lookup x = some NameKind.free))
noncomputable def MC.isNm (c : MC) (e : Expr) (x : Str) : Bool := match e with
  | .Name y _ => y == x && c.isGlob y
  | _ => false

noncomputable def opOf : BOp → Operator
  | .add => .Add | .sub => .Sub | .mul => .Mult | .fdiv => .FloorDiv | .mod => .Mod | .pow => .Pow
noncomputable def cmpOf : COp → CmpOp
  | .lt => .Lt | .le => .LtE | .gt => .Gt | .ge => .GtE | .eq => .Eq | .ne => .NotEq | .isin => .In | .notin => .NotIn | .is => .Is
noncomputable def biName : Bi → Str
  | .abs => "abs" | .len => "len" | .int => "int" | .list => "list" | .tuple => "tuple" | .min => "min" | .listrev => "list"

noncomputable def Bi.isRev : Bi → Bool
  | .listrev => true
  | _ => false
noncomputable def Ty.isCls : Ty → Bool
  | .cls _ => true
  | _ => false
noncomputable def notCompM (e : Expr) : Bool := match e with | .ListComp .. | .SetComp .. | .DictComp .. => false | _ => true
noncomputable def notStarM (e : Expr) : Bool := match e with | .Starred .. => false | _ => true
noncomputable def MC.isTyp (c : MC) (t : Ty) (e : Expr) : Bool := match t with
  | .int => c.isNm e "int"
  | .bool => c.isNm e "bool"
  | .tuple => c.isNm e "tuple"
  | .list => c.isNm e "list"
  | .cls k => match c.g.cls[k]? with | some x => c.isNm e x | none => false
noncomputable def MC.areTyps (c : MC) : List Ty → List Expr → Bool
  | [], [] => true
  | t :: ts, e :: es => c.isTyp t e && c.areTyps ts es
  | _, _ => false

/-- the comprehension's scope: the targets local, the captured names free, all else global -/
noncomputable def compScopeOk (sc : Scope) (ts cs : List Str) : Bool :=
  decide (sc.kind = ScopeKind.function) && sc.names.all (fun p => match p.2 with
    | .local => (p.1 == Str.ofString ".0" || ts.contains p.1) && decide (sc.names.lookup p.1 = some NameKind.local)
    | .free => cs.contains p.1
    | .globalImplicit => true
    | _ => false) && ts.all (fun n => decide (sc.names.lookup n = some NameKind.local)) && cs.all (fun n => decide (sc.names.lookup n = some NameKind.free))

noncomputable def capNames (c : MC) (caps : List Nat) : Option (List Str) := caps.mapM fun i => c.names[i]?

noncomputable def MC.varNm (c : MC) (i : Nat) (e : Expr) : Bool := match e with
  | .Name x _ => c.isVar i x
  | _ => false
noncomputable def MC.fnNm (c : MC) (k : Nat) (e : Expr) : Bool := match c.g.fns[k]? with
  | some x => c.isNm e x
  | none => false
noncomputable def MC.clsNm (c : MC) (k : Nat) (e : Expr) : Bool := match c.g.cls[k]? with
  | some x => c.isNm e x
  | none => false
/-- the comprehension's one target -/
noncomputable def tgtName (e : Expr) : Option Str := match e with
  | .Name x _ => some x
  | _ => none
noncomputable def isOne {α : Type} (l : List α) : Option α := match l with
  | [x] => some x
  | _ => none
noncomputable def MC.isiOk (c : MC) (ts : List Ty) (e : Expr) : Bool := match e with
  | .Tuple es _ _ => decide (2 ≤ ts.length) && ts.all Ty.isCls && c.areTyps ts es
  | e => c.areTyps ts [e]
noncomputable def notSlice (e : Expr) : Bool := match e with | .Slice .. => false | _ => true
noncomputable def notSetM (e : Expr) : Bool := match e with | .Set .. => false | _ => true

mutual
noncomputable def matchE (c : MC) : PE → Expr → Bool
  | .cint i, e => match e with | .Constant k _ _ => (match k with | .int j => decide (i = j) | _ => false) | _ => false
  | .cbool b, e => match e with | .Constant k _ _ => (match k with | .bool d => decide (b = d) | _ => false) | _ => false
  | .cstr s, e => match e with | .Constant k _ _ => (match k with | .str t => decide (s = t) | _ => false) | _ => false
  | .cnone, e => match e with | .Constant k _ _ => (match k with | .none => true | _ => false) | _ => false
  | .var i, e => c.varNm i e
  | .fnv k, e => c.fnNm k e
  | .glob x a b, e => c.g.globs.contains (x, a, b) && c.isNm e x
  | .bin op a b, e => match e with | .BinOp l o r _ => decide (o = opOf op) && matchE c a l && matchE c b r | _ => false
  | .neg a, e => match e with | .UnaryOp o x _ => decide (o = .USub) && matchE c a x | _ => false
  | .nt a, e => match e with | .UnaryOp o x _ => decide (o = .Not) && matchE c a x | _ => false
  | .cmp op a b, e => match e with | .Compare l os rs _ => (match isOne os, isOne rs with | some o, some r => decide (o = cmpOf op) && !behindInMarks o r && matchE c a l && matchE c b r | _, _ => false) | _ => false
  | .and es, e => match e with | .BoolOp o vs _ => decide (o = .And) && matchEs c es vs | _ => false
  | .or es, e => match e with | .BoolOp o vs _ => decide (o = .Or) && matchEs c es vs | _ => false
  | .call f es, e => match e with | .Call g as kw _ => kw.isEmpty && c.fnNm f g && !as.isEmpty && matchEs c es as | _ => false
  | .callv _ _, _ => false
  | .bi b es, e => match e with | .Call f as kw _ => !b.isRev && kw.isEmpty && c.isNm f (biName b) && !as.isEmpty && matchEs c es as | _ => false
  | .isi a ts, e => match e with
    | .Call f as kw _ => (match as with
      | x :: ys => (match isOne ys with | some t => kw.isEmpty && c.isNm f "isinstance" && matchE c a x && notStarM x && c.isiOk ts t | none => false)
      | [] => false)
    | _ => false
  | .idx a b, e => match e with | .Subscript x i _ => matchE c a x && matchE c b i && notSlice i | _ => false
  | .slc a lo hi, e => match e with | .Subscript x i _ => (match i with | .Slice l h st _ => st.isNone && matchE c a x && matchO c lo l && matchO c hi h | _ => false) | _ => false
  | .tup es, e => match e with | .Tuple vs _ _ => decide (vs.length ≤ 1000) && matchEs c es vs | _ => false
  | .lst es, e => match e with | .List vs _ => decide (vs.length ≤ 1000) && matchEs c es vs | _ => false
  | .comp elt tg caps it cond, e => match e with
    | .ListComp x gs sc _ => (match isOne gs with
      | some gn => (match tgtName gn.target, capNames c caps with
        | some tx, some cs => decide (gn.is_async = 0) && decide (tg = 1) && cs.all (fun n => decide (c.scope.names.lookup n = some NameKind.cell) || decide (c.scope.names.lookup n = some NameKind.free)) && compScopeOk sc [tx] cs &&
          matchI c it gn.iter && matchE ⟨c.g, sc, [tx] ++ cs⟩ elt x && matchIfs ⟨c.g, sc, [tx] ++ cs⟩ cond gn.ifs
        | _, _ => false)
      | none => false)
    | _ => false
noncomputable def matchEs (c : MC) : PEs → List Expr → Bool
  | .nil, es => es.isEmpty
  | .cons e r, es => match es with | x :: xs => matchE c e x && notStarM x && matchEs c r xs | [] => false
noncomputable def matchO (c : MC) : PO → Option Expr → Bool
  | .no, o => o.isNone
  | .some e, o => match o with | some x => matchE c e x | none => false
noncomputable def matchIfs (c : MC) : PO → List Expr → Bool
  | .no, o => o.isEmpty
  | .some e, o => match isOne o with | some x => matchE c e x | none => false
noncomputable def matchI (c : MC) : PI → Expr → Bool
  | .seq e, x => matchE c e x && notSetM x
  | .rev _, _ => false
  | .rng es, x => match x with | .Call f as kw _ => kw.isEmpty && c.isNm f "range" && !as.isEmpty && matchEs c es as | _ => false
end

/-- x.m(..) -/
noncomputable def MC.isMeth (c : MC) (i : Nat) (m : Str) (e : Expr) (cp : Pos) : Bool := match e with
  | .Attribute y a ap => c.varNm i y && a == m && decide (ap.endLine = cp.line)
  | _ => false

noncomputable def isStrC (e : Expr) : Bool := match e with | .Constant k _ _ => (match k with | .str _ => true | _ => false) | _ => false
noncomputable def matchT (c : MC) : List (Nat × PEs) → List Expr → Bool
  | [], vs => vs.isEmpty
  | p :: r, vs => match vs with | v :: ws => matchE c (.call p.1 p.2) v && matchT c r ws | [] => false
noncomputable def isAnd (e : Expr) : Option (List Expr) := match e with | .BoolOp o vs _ => (match o with | .And => some vs | .Or => none) | _ => none
mutual
noncomputable def matchS (c : MC) : PS → Stmt → Bool
  | .skip, _ => false
  | .seq _ _, _ => false
  | .assign i e, s => match s with | .Assign ts v _ => (match isOne ts with | some t => c.varNm i t && matchE c e v && (notCompM v || (match e with | .comp .. => true | _ => false)) | none => false) | _ => false
  | .unpack _ _, _ => false
  | .setidx i k e, s => match s with | .Assign ts v _ => (match isOne ts with | some t => (match t with | .Subscript y j _ => c.varNm i y && matchE c k j && matchE c e v && notCompM v | _ => false) | none => false) | _ => false
  | .app i e, s => match s with | .Expr x _ => (match x with | .Call f as kw cp => (match isOne as with | some v => kw.isEmpty && c.isMeth i (Str.ofString "append") f cp && matchE c e v && notStarM v | none => false) | _ => false) | _ => false
  | .pop i, s => match s with | .Expr x _ => (match x with | .Call f as kw cp => as.isEmpty && kw.isEmpty && c.isMeth i (Str.ofString "pop") f cp | _ => false) | _ => false
  | .rev i, s => match s with | .Expr x _ => (match x with | .Call f as kw cp => as.isEmpty && kw.isEmpty && c.isMeth i (Str.ofString "reverse") f cp | _ => false) | _ => false
  | .ret e, s => match s with | .Return o _ => (match o with | some v => matchE c e v | none => false) | _ => false
  | .ite t a b, s => match s with | .If v x y _ => matchE c t v && matchB c a x && matchB c b y | _ => false
  | .whl t b, s => match s with | .While v x y _ => y.isEmpty && matchE c t v && matchB c b x | _ => false
  | .forr i it b, s => match s with | .For t v y z _ => z.isEmpty && c.varNm i t && matchI c it v && matchB c b y | _ => false
  | .raise k, s => match s with | .Raise o o2 _ => o2.isNone && (match o with | some x => (match x with | .Call f as kw _ => kw.isEmpty && c.clsNm k f && (match isOne as with | some a => isStrC a | none => false) | _ => false) | none => false) | _ => false
  | .opaq, _ => false
  | .rett _ _, _ => false
  | .asst _ _ _, _ => false
  | .itet _ _ _ _ _ _ _, _ => false
  | .randt cs, s => match s with | .Return o _ => (match o with | some v => (match isAnd v with | some vs => !cs.isEmpty && matchT c cs vs | none => false) | none => false) | _ => false
noncomputable def matchB (c : MC) : PS → List Stmt → Bool
  | .skip, b => b.isEmpty
  | .seq a r, b => match b with | s :: ss => matchS c a s && matchB c r ss | [] => false
  | .assign _ _, _ => false
  | .unpack _ _, _ => false
  | .setidx _ _ _, _ => false
  | .app _ _, _ => false
  | .pop _, _ => false
  | .rev _, _ => false
  | .ret _, _ => false
  | .ite _ _ _, _ => false
  | .whl _ _, _ => false
  | .forr _ _ _, _ => false
  | .raise _, _ => false
  | .opaq, _ => true
  | .rett _ _, _ => false
  | .asst _ _ _, _ => false
  | .itet _ _ _ _ _ _ _, _ => false
  | .randt _, _ => false
end

end Mine

set_option autoImplicit false
set_option linter.unusedVariables false
namespace Mine
open PySem PyProof.Rows

abbrev KeepsH (h h' : Heap) : Prop := ∀ b o, h.get? b = some o → h'.get? b = some o
theorem KeepsH.trans {h h' h'' : Heap} (a : KeepsH h h') (b : KeepsH h' h'') : KeepsH h h'' := fun x o e => b x o (a x o e)
theorem KeepsH.refl (h : Heap) : KeepsH h h := fun _ _ e => e

/-- what is known of the top's globals: fa: a function's address, ca: a class's address -/
structure GV where
  mg : Str → Option Value
  mb : Str → Option Value
  fa : Nat → Addr
  ca : Nat → Value

mutual
inductive Rep (G : GV) (α : List Addr) (h : Heap) : Value → V → Prop
  | int (i : Int) (t : Tok) : Rep G α h (.int i t) (.int i)
  | bool (b : Bool) : Rep G α h (.bool b) (.bool b)
  | none : Rep G α h .none .none
  | str (s : Str) (t : Tok) : Rep G α h (.str s t) (.str s)
  | tup {a : Addr} {vs : List Value} {xs : List V} : IsTup h a vs.toArray → Reps G α h vs xs → xs.length ≤ lim → Rep G α h (.ref a) (.tup xs)
  | lst {a : Addr} {n : Nat} : α[n]? = some a → Rep G α h (.ref a) (.lst n)
  | fn {a : Addr} {k : Nat} : a = G.fa k → Rep G α h (.ref a) (.fn k)
inductive Reps (G : GV) (α : List Addr) (h : Heap) : List Value → List V → Prop
  | nil : Reps G α h [] []
  | cons {v : Value} {d : V} {vs : List Value} {ds : List V} : Rep G α h v d → Reps G α h vs ds → Reps G α h (v :: vs) (d :: ds)
end

section
variable {G : GV} {α : List Addr} {h : Heap} {u : Value}
noncomputable def RepOut (G : GV) (α : List Addr) (h : Heap) (u : Value) : V → Prop
  | .int i => ∃ t, u = .int i t
  | .bool b => u = .bool b
  | .none => u = .none
  | .str s => ∃ t, u = .str s t
  | .tup xs => ∃ a vs, u = .ref a ∧ IsTup h a (List.toArray vs) ∧ Reps G α h vs xs ∧ xs.length ≤ lim
  | .lst n => ∃ a, u = .ref a ∧ α[n]? = some a
  | .fn k => u = .ref (G.fa k)
  | .exc _ => False
theorem Rep.out {x : V} (r : Rep G α h u x) : RepOut G α h u x := by
  cases r with
  | int i t => exact ⟨t, rfl⟩
  | bool b => exact rfl
  | none => exact rfl
  | str s t => exact ⟨t, rfl⟩
  | tup t r z => exact ⟨_, _, rfl, t, r, z⟩
  | lst e => exact ⟨_, rfl, e⟩
  | fn e => exact congrArg _ e
theorem Rep.int_inv {i : Int} (r : Rep G α h u (.int i)) : ∃ t, u = .int i t := r.out
theorem Rep.bool_inv {b : Bool} (r : Rep G α h u (.bool b)) : u = .bool b := r.out
theorem Rep.none_inv (r : Rep G α h u .none) : u = .none := r.out
theorem Rep.lst_inv {n : Nat} (r : Rep G α h u (.lst n)) : ∃ a, u = .ref a ∧ α[n]? = some a := r.out
noncomputable def RepsOut (G : GV) (α : List Addr) (h : Heap) (vs : List Value) : List V → Prop
  | [] => vs = []
  | d :: ds => ∃ v vs', vs = v :: vs' ∧ Rep G α h v d ∧ Reps G α h vs' ds
theorem Reps.out {vs : List Value} {ds : List V} (r : Reps G α h vs ds) : RepsOut G α h vs ds := by
  cases r with
  | nil => exact rfl
  | cons a b => exact ⟨_, _, rfl, a, b⟩
theorem Reps.one_inv {vs : List Value} {d : V} (r : Reps G α h vs [d]) : ∃ v, vs = [v] ∧ Rep G α h v d := by
  obtain ⟨v, vs', e, a, b⟩ := r.out
  cases b.out
  exact ⟨v, e, a⟩
theorem Reps.two_inv {vs : List Value} {d e : V} (r : Reps G α h vs [d, e]) : ∃ v w, vs = [v, w] ∧ Rep G α h v d ∧ Rep G α h w e := by
  obtain ⟨v, vs', e, a, b⟩ := r.out
  obtain ⟨w, rfl, c⟩ := b.one_inv
  exact ⟨v, w, e, a, c⟩
end

/-- a heap in which every tuple stands as it stood -/
noncomputable def KeepsT (h h' : Heap) : Prop := ∀ a items, IsTup h a items → IsTup h' a items
theorem KeepsT.of {h h' : Heap} (k : KeepsH h h') : KeepsT h h' := fun _ _ x => x.keeps k

mutual
theorem Rep.mono {G : GV} {α α' : List Addr} {h h' : Heap} (ha : ∀ (n : Nat) (a : Addr), α[n]? = some a → α'[n]? = some a) (k : KeepsT h h') :
    ∀ {v : Value} {d : V}, Rep G α h v d → Rep G α' h' v d
  | _, _, .int i t => .int i t
  | _, _, .bool b => .bool b
  | _, _, .none => .none
  | _, _, .str s t => .str s t
  | _, _, .tup t r z => .tup (k _ _ t) (Reps.mono ha k r) z
  | _, _, .lst e => .lst (ha _ _ e)
  | _, _, .fn e => .fn e
theorem Reps.mono {G : GV} {α α' : List Addr} {h h' : Heap} (ha : ∀ (n : Nat) (a : Addr), α[n]? = some a → α'[n]? = some a) (k : KeepsT h h') :
    ∀ {vs : List Value} {ds : List V}, Reps G α h vs ds → Reps G α' h' vs ds
  | _, _, .nil => .nil
  | _, _, .cons r rs => .cons (Rep.mono ha k r) (Reps.mono ha k rs)
end

theorem ext_app {α β : List Addr} (n : Nat) (a : Addr) (e : α[n]? = some a) : (α ++ β)[n]? = some a := by
  have hl : n < α.length := (List.getElem?_eq_some_iff.mp e).1
  rw [List.getElem?_append_left hl]; exact e
theorem Rep.up {G : GV} {α β : List Addr} {h h' : Heap} {v : Value} {d : V} (r : Rep G α h v d) (k : KeepsH h h') : Rep G (α ++ β) h' v d := r.mono ext_app (.of k)
theorem Reps.up {G : GV} {α β : List Addr} {h h' : Heap} {v : List Value} {d : List V} (r : Reps G α h v d) (k : KeepsH h h') : Reps G (α ++ β) h' v d := r.mono ext_app (.of k)

theorem Reps.len {G : GV} {α : List Addr} {h : Heap} : ∀ {vs : List Value} {ds : List V}, Reps G α h vs ds → vs.length = ds.length
  | _, _, .nil => rfl
  | _, _, .cons _ r => by simp [r.len]
theorem Reps.get {G : GV} {α : List Addr} {h : Heap} : ∀ {vs : List Value} {ds : List V}, Reps G α h vs ds → ∀ {n : Nat} {d : V}, ds[n]? = some d → ∃ v, vs[n]? = some v ∧ Rep G α h v d
  | _, _, .nil, n, d, e => by simp at e
  | _, _, .cons r rs, 0, d, e => by simp at e; subst e; exact ⟨_, rfl, r⟩
  | _, _, .cons r rs, n + 1, d, e => by
    simp at e
    obtain ⟨v, a, b⟩ := rs.get e
    exact ⟨v, by simpa using a, b⟩
theorem Reps.get' {G : GV} {α : List Addr} {h : Heap} : ∀ {vs : List Value} {ds : List V}, Reps G α h vs ds → ∀ {n : Nat} {v : Value}, vs[n]? = some v → ∃ d, ds[n]? = some d ∧ Rep G α h v d
  | _, _, .nil, n, d, e => by simp at e
  | _, _, .cons r rs, 0, d, e => by simp at e; subst e; exact ⟨_, rfl, r⟩
  | _, _, .cons r rs, n + 1, d, e => by
    simp at e
    obtain ⟨v, a, b⟩ := rs.get' e
    exact ⟨v, by simpa using a, b⟩
theorem Reps.append {G : GV} {α : List Addr} {h : Heap} : ∀ {vs vs' : List Value} {ds ds' : List V}, Reps G α h vs ds → Reps G α h vs' ds' → Reps G α h (vs ++ vs') (ds ++ ds')
  | _, _, _, _, .nil, r => r
  | _, _, _, _, .cons a b, r => .cons a (b.append r)
theorem Reps.take {G : GV} {α : List Addr} {h : Heap} : ∀ {vs : List Value} {ds : List V} (n : Nat), Reps G α h vs ds → Reps G α h (vs.take n) (ds.take n)
  | _, _, 0, _ => by simpa using Reps.nil
  | _, _, _ + 1, .nil => .nil
  | _, _, n + 1, .cons a b => .cons a (b.take n)
theorem Reps.drop {G : GV} {α : List Addr} {h : Heap} : ∀ {vs : List Value} {ds : List V} (n : Nat), Reps G α h vs ds → Reps G α h (vs.drop n) (ds.drop n)
  | _, _, 0, r => r
  | _, _, _ + 1, .nil => .nil
  | _, _, n + 1, .cons _ b => b.drop n
theorem Reps.reverse {G : GV} {α : List Addr} {h : Heap} : ∀ {vs : List Value} {ds : List V}, Reps G α h vs ds → Reps G α h vs.reverse ds.reverse
  | _, _, .nil => .nil
  | _, _, .cons a b => by rw [List.reverse_cons, List.reverse_cons]; exact b.reverse.append (.cons a .nil)
theorem Reps.set {G : GV} {α : List Addr} {h : Heap} {v : Value} {d : V} (r : Rep G α h v d) : ∀ {vs : List Value} {ds : List V} (n : Nat), Reps G α h vs ds → Reps G α h (vs.set n v) (ds.set n d)
  | _, _, _, .nil => .nil
  | _, _, 0, .cons _ b => .cons r b
  | _, _, n + 1, .cons a b => .cons a (b.set r n)
theorem Reps.dropLast {G : GV} {α : List Addr} {h : Heap} {vs : List Value} {ds : List V} (r : Reps G α h vs ds) : Reps G α h vs.dropLast ds.dropLast := by
  rw [List.dropLast_eq_take, List.dropLast_eq_take, r.len]; exact r.take _
theorem Reps.replicate {G : GV} {α : List Addr} {h : Heap} {v : Value} {d : V} (r : Rep G α h v d) : ∀ n : Nat, Reps G α h (List.replicate n v) (List.replicate n d)
  | 0 => .nil
  | n + 1 => .cons r (Reps.replicate r n)

/-- the mini heap's lists stand in the heap -/
structure HR (G : GV) (α : List Addr) (h : Heap) (H : Hp) : Prop where
  len : α.length = H.length
  nodup : α.Nodup
  pos : 1 ≤ H.length
  lst : ∀ (n : Nat) (a : Addr) (xs : List V), α[n]? = some a → H[n]? = some xs → ∃ vs : List Value, h.IsList a vs.toArray ∧ Reps G α h vs xs ∧ xs.length ≤ lim ∧ (n ≠ 0 → h.PlainList a vs.toArray)

theorem HR.at {G : GV} {α : List Addr} {h : Heap} {H : Hp} (r : HR G α h H) {n : Nat} {a : Addr} (e : α[n]? = some a) : ∃ xs, H[n]? = some xs := by
  have : n < H.length := by rw [← r.len]; exact (List.getElem?_eq_some_iff.mp e).1
  exact ⟨H[n], List.getElem?_eq_getElem this⟩
theorem isList_keeps {h h' : Heap} {a : Addr} {items : Array Value} (x : h.IsList a items) (k : KeepsH h h') : h'.IsList a items := let ⟨o, ho, r⟩ := x; ⟨o, k _ _ ho, r⟩
theorem plainList_keeps {h h' : Heap} {a : Addr} {items : Array Value} (x : h.PlainList a items) (k : KeepsH h h') : h'.PlainList a items := let ⟨n, e⟩ := x; ⟨n, k _ _ e⟩

theorem HR.keeps {G : GV} {α : List Addr} {h h' : Heap} {H : Hp} (r : HR G α h H) (k : KeepsH h h') : HR G α h' H :=
  ⟨r.len, r.nodup, r.pos, fun n a xs e1 e2 => let ⟨vs, l, q, z, p⟩ := r.lst n a xs e1 e2; ⟨vs, isList_keeps l k, q.mono (fun _ _ e => e) (.of k), z, fun hn => plainList_keeps (p hn) k⟩⟩

/-- a new list -/
theorem HR.push {G : GV} {α : List Addr} {h h' : Heap} {H : Hp} (r : HR G α h H) (k : KeepsH h h') {a : Addr} (ha : a ∉ α) {vs : List Value} {xs : List V} (hl : h'.PlainList a vs.toArray) (q : Reps G α h' vs xs) (z : xs.length ≤ lim) :
    HR G (α ++ [a]) h' (H ++ [xs]) := by
  refine ⟨by simp [r.len], ?_, by simp, fun n b ys e1 e2 => ?_⟩
  · rw [List.nodup_append]
    refine ⟨r.nodup, by simp, fun x hx y hy => ?_⟩
    simp at hy; subst hy; intro e; subst e; exact ha hx
  · by_cases hn : n < α.length
    · rw [List.getElem?_append_left hn] at e1
      rw [List.getElem?_append_left (r.len ▸ hn)] at e2
      obtain ⟨vs, l, q, z', p⟩ := r.lst n b ys e1 e2
      exact ⟨vs, isList_keeps l k, q.up k, z', fun hn => plainList_keeps (p hn) k⟩
    · have hn' : n = α.length := by
        have := (List.getElem?_eq_some_iff.mp e1).1
        simp at this; omega
      subst hn'
      rw [List.getElem?_append_right (Nat.le_refl _)] at e1
      rw [List.getElem?_append_right (by rw [r.len]; exact Nat.le_refl _)] at e2
      simp [r.len] at e1 e2
      subst e1 e2
      exact ⟨vs, hl.isList, q.mono ext_app (.of (.refl _)), z, fun _ => hl⟩

/-- a list is written -/
theorem HR.set {G : GV} {α : List Addr} {h h' : Heap} {H : Hp} (r : HR G α h H) {n : Nat} {a : Addr} (e : α[n]? = some a) {xs₀ : List V} (e0 : H[n]? = some xs₀) (hs : Heap.SameBut a h h') {vs : List Value} {xs : List V} (hl : h'.PlainList a vs.toArray) (q : Reps G α h vs xs) (z : xs.length ≤ lim) :
    KeepsT h h' ∧ HR G α h' (H.set n xs) := by
  obtain ⟨vs₀, ⟨o₀, ho₀, hc₀, _⟩, _⟩ := r.lst n a xs₀ e e0
  have kt : KeepsT h h' := fun b items x => by
    refine x.extBut hs.extBut fun q => ?_
    subst q
    obtain ⟨o, ho, hc, _⟩ := x
    rw [ho₀] at ho; cases ho
    rw [hc₀] at hc; exact absurd hc (by decide)
  refine ⟨kt, by simp [r.len], r.nodup, by simpa using r.pos, fun m b ys e1 e2 => ?_⟩
  by_cases hm : m = n
  · subst hm
    rw [e] at e1; cases e1
    have hlt : m < H.length := by rw [← r.len]; exact (List.getElem?_eq_some_iff.mp e).1
    rw [List.getElem?_set_self hlt] at e2
    cases e2
    exact ⟨vs, hl.isList, q.mono (fun _ _ e => e) kt, z, fun _ => hl⟩
  · rw [List.getElem?_set_ne (Ne.symm hm)] at e2
    obtain ⟨vs', l, q', z', p⟩ := r.lst m b ys e1 e2
    have hab : b ≠ a := fun hba => by
      subst hba
      have h1 := (List.getElem?_eq_some_iff.mp e1)
      have h2 := (List.getElem?_eq_some_iff.mp e)
      obtain ⟨l1, g1⟩ := h1
      obtain ⟨l2, g2⟩ := h2
      exact hm ((List.getElem_inj r.nodup).mp (g1.trans g2.symm))
    exact ⟨vs', l.extBut hs.extBut hab, q'.mono (fun _ _ e => e) kt, z', fun hn => let ⟨n', e'⟩ := p hn; ⟨n', hs.extBut _ _ hab e'⟩⟩

end Mine

set_option autoImplicit false
set_option linter.unusedSimpArgs false
set_option linter.unusedVariables false
namespace Mine
open PySem PyProof.Rows PySem.Calls

/-- a def of the text -/
structure DefT where
  name : Str
  params : Arguments
  body : List Stmt
  scope : Scope

noncomputable def bltNames : List Str := ["abs", "len", "int", "list", "tuple", "min", "isinstance", "reversed", "range", "bool"]

/-- what the top is known to hold -/
structure GF (G : GV) (gc : GC) (DT : List DefT) (h : Heap) : Prop where
  g : h.Ns mainGlobals G.mg
  b : h.Ns builtinsNs G.mb
  nolimit : h.NoLimit
  seer : h.NoSeer
  fn : ∀ (k : Nat) (x : Str), gc.fns[k]? = some x → G.mg x = some (.ref (G.fa k)) ∧ ∃ d o pm cd doc, DT[k]? = some d ∧ d.name = x ∧ h.get? (G.fa k) = some o ∧
    o.data = .func (docDef d.name d.params d.body d.scope pm cd doc) ∧ h.CodeRec cd d.name
  blt : ∀ x ∈ bltNames, G.mg x = none ∧ G.mb x = bootBuiltins x
  glob : ∀ x a b, (x, a, b) ∈ gc.globs → ∃ t ta tb, G.mg x = some (.ref t) ∧ IsTup h t #[.int a ta, .int b tb]

theorem GF.keeps {G : GV} {gc : GC} {DT : List DefT} {h h' : Heap} (F : GF G gc DT h) (k : KeepsH h h') : GF G gc DT h' where
  g := F.g.keeps k
  b := F.b.keeps k
  nolimit := F.nolimit.keeps k
  seer := F.seer.keeps k
  fn := fun i x e => let ⟨a, d, o, pm, cd, doc, b, c, f, g, r⟩ := F.fn i x e; ⟨a, d, o, pm, cd, doc, b, c, k _ _ f, g, r.keeps k⟩
  blt := F.blt
  glob := fun x a b e => let ⟨t, ta, tb, m, i⟩ := F.glob x a b e; ⟨t, ta, tb, m, i.keeps k⟩

structure EnvOk (c : MC) (env : Env) : Prop where
  kind : env.scope.kind = .function
  globals : env.globals = mainGlobals
  builtins : env.builtins = builtinsNs
  loc : ∀ x, c.scope.names.lookup x = some NameKind.local → env.kindOf x = some .local
  glob : ∀ x, c.scope.names.lookup x = some NameKind.globalImplicit → env.kindOf x = some .globalImplicit
  cel : ∀ x, c.scope.names.lookup x = some NameKind.cell → env.kindOf x = some .cell
  fre : ∀ x, c.scope.names.lookup x = some NameKind.free → env.kindOf x = some .cell ∨ env.kindOf x = some .free
  cells : ∀ x, env.kindOf x = some .cell ∨ env.kindOf x = some .free → ∃ a, env.cells.lookup x = some a

noncomputable def VarAt (env : Env) (h : Heap) (x : Str) (v : Value) : Prop :=
  (env.kindOf x = some .local ∧ ∃ m, h.Ns env.locals m ∧ m x = some v) ∨
  ((env.kindOf x = some .cell ∨ env.kindOf x = some .free) ∧ ∃ c, env.cells.lookup x = some c ∧ h.IsCell c (some v))

theorem isCell_keeps {h h' : Heap} {c : Addr} {v : Option Value} (x : h.IsCell c v) (k : KeepsH h h') : h'.IsCell c v := let ⟨o, ho, r⟩ := x; ⟨o, k _ _ ho, r⟩
theorem VarAt.keeps {env : Env} {h h' : Heap} {x : Str} {v : Value} (a : VarAt env h x v) (k : KeepsH h h') : VarAt env h' x v := by
  rcases a with ⟨a, m, b, c⟩ | ⟨a, c, b, d⟩
  · exact .inl ⟨a, m, b.keeps k, c⟩
  · exact .inr ⟨a, c, b, isCell_keeps d k⟩

/-- the frame's variables -/
noncomputable def FI (G : GV) (c : MC) (env : Env) (α : List Addr) (h : Heap) (ρ : Loc) : Prop :=
  ∀ (i : Nat) (x : Str) (d : V), c.names[i]? = some x → lget ρ i = some d → ∃ v, VarAt env h x v ∧ Rep G α h v d
theorem FI.up {G : GV} {c : MC} {env : Env} {α β : List Addr} {h h' : Heap} {ρ : Loc} (F : FI G c env α h ρ) (k : KeepsH h h') : FI G c env (α ++ β) h' ρ :=
  fun i x d e1 e2 => let ⟨v, a, b⟩ := F i x d e1 e2; ⟨v, a.keeps k, b.up k⟩

/-- the post of a look: the heap has grown, the mini heap too -/
inductive Post {γ δ : Type} (G : GV) (RR : List Addr → Heap → γ → δ → Prop) (s : Shared) (α : List Addr) (H : Hp) (Q : δ → Hp → Prop) (v : γ) (s' : Shared) : Prop
  | mk (h' : Heap) (tk : Nat) (β : List Addr) (K : Hp) (d : δ) (e : s' = { s with heap := h', toks := tk }) (k : KeepsH s.heap h') (f : ∀ b ∈ β, s.heap.get? b = none) (R : HR G (α ++ β) h' (H ++ K)) (r : RR (α ++ β) h' v d) (q : Q d (H ++ K))

section
variable {prog : Program} {w : World} {A : Around} {E : Value → Shared → Prop} {s : Shared} {G : GV} {α : List Addr} {H : Hp}

theorem Post.same {γ δ : Type} {RR : List Addr → Heap → γ → δ → Prop} {Q : δ → Hp → Prop} {v : γ} {d : δ} (R : HR G α s.heap H) (r : RR α s.heap v d) (q : Q d H) (tk : Nat) : Post G RR s α H Q v { s with toks := tk } :=
  ⟨s.heap, tk, [], [], d, rfl, .refl _, by simp, by simpa using R, by simpa using r, by simpa using q⟩
theorem Post.same' {γ δ : Type} {RR : List Addr → Heap → γ → δ → Prop} {Q : δ → Hp → Prop} {v : γ} {d : δ} (R : HR G α s.heap H) (r : RR α s.heap v d) (q : Q d H) : Post G RR s α H Q v s :=
  Post.same R r q s.toks

theorem Post.trans {γ δ : Type} {RR : List Addr → Heap → γ → δ → Prop} {Q : δ → Hp → Prop} {v : γ} {s' : Shared} {h₁ : Heap} {tk₁ : Nat} {β : List Addr} {K : Hp}
    (k : KeepsH s.heap h₁) (f : ∀ b ∈ β, s.heap.get? b = none) (p : Post G RR { s with heap := h₁, toks := tk₁ } (α ++ β) (H ++ K) Q v s') : Post G RR s α H Q v s' := by
  obtain ⟨h', tk, β', K', d, rfl, k', f', R, r, q⟩ := p
  refine ⟨h', tk, β ++ β', K ++ K', d, rfl, k.trans k', fun b hb => ?_, by simpa using R, by simpa using r, by simpa using q⟩
  rcases List.mem_append.mp hb with hb | hb
  · exact f b hb
  · cases e : s.heap.get? b with
    | none => rfl
    | some o => have := k b o e; rw [show h₁.get? b = none from f' b hb] at this; cases this

/-- one look, then the next -/
theorem Post.then {γ δ γ' δ' : Type} {RR : List Addr → Heap → γ → δ → Prop} {RR' : List Addr → Heap → γ' → δ' → Prop} {Q : δ → Hp → Prop} {Q' : δ' → Hp → Prop} {v : γ} {s₁ : Shared} {t : Sem γ'}
    (p : Post G RR s α H Q v s₁)
    (h : ∀ h₁ tk₁ β K d, KeepsH s.heap h₁ → (∀ b ∈ β, s.heap.get? b = none) → HR G (α ++ β) h₁ (H ++ K) → RR (α ++ β) h₁ v d → Q d (H ++ K) →
      wpAny (model prog w) A t (Post G RR' { s with heap := h₁, toks := tk₁ } (α ++ β) (H ++ K) Q') E { s with heap := h₁, toks := tk₁ }) :
    wpAny (model prog w) A t (Post G RR' s α H Q') E s₁ := by
  obtain ⟨h', tk, β, K, d, rfl, k, f, R, r, q⟩ := p
  exact wpAny_mono (h h' tk β K d k f R r q) (fun _ _ x => x.trans k f) fun _ _ x => x

/-- the same, where the end is any post that the walk wants -/
theorem Post.go {γ δ γ' : Type} {RR : List Addr → Heap → γ → δ → Prop} {Q : δ → Hp → Prop} {v : γ} {s₁ : Shared} {t : Sem γ'} {Z : γ' → Shared → Prop}
    (p : Post G RR s α H Q v s₁)
    (h : ∀ h₁ tk₁ β K d, KeepsH s.heap h₁ → (∀ b ∈ β, s.heap.get? b = none) → HR G (α ++ β) h₁ (H ++ K) → RR (α ++ β) h₁ v d → Q d (H ++ K) →
      wpAny (model prog w) A t Z E { s with heap := h₁, toks := tk₁ }) :
    wpAny (model prog w) A t Z E s₁ := by
  obtain ⟨h', tk, β, K, d, rfl, k, f, R, r, q⟩ := p
  exact h h' tk β K d k f R r q
end

theorem MC.isVar_spec {c : MC} {i : Nat} {x : Str} (h : c.isVar i x = true) : c.names[i]? = some x ∧ (x == Str.ofString "__debug__") = false ∧ (x == Str.ofString "__classdict__") = false ∧
    (c.scope.names.lookup x = some NameKind.local ∨ c.scope.names.lookup x = some NameKind.cell ∨ c.scope.names.lookup x = some NameKind.free) := by
  unfold MC.isVar at h
  simp only [Bool.and_eq_true, Bool.or_eq_true, decide_eq_true_eq, Bool.not_eq_true'] at h
  obtain ⟨⟨⟨a, b⟩, d⟩, e⟩ := h
  exact ⟨a, b, d, by rcases e with (e | e) | e <;> simp [e]⟩
theorem MC.isGlob_spec {c : MC} {x : Str} (h : c.isGlob x = true) : c.scope.names.lookup x = some NameKind.globalImplicit ∧ (x == Str.ofString "__debug__") = false := by
  unfold MC.isGlob at h
  simpa only [Bool.and_eq_true, decide_eq_true_eq, Bool.not_eq_true'] using h
theorem MC.isNm_spec {c : MC} {e : Expr} {x : Str} (h : c.isNm e x = true) : ∃ pos, e = .Name x pos ∧ c.isGlob x = true := by
  unfold MC.isNm at h
  split at h
  · simp only [Bool.and_eq_true, beq_iff_eq] at h
    obtain ⟨rfl, h⟩ := h
    exact ⟨_, rfl, h⟩
  · cases h

section
variable {M : Model} {A : Around} {E : Value → Shared → Prop} {s : Shared} {c : MC} {env : Env} {Q : Value → Shared → Prop}

theorem load_var {i : Nat} {x : Str} {pos : Pos} {v : Value} (O : EnvOk c env) (hx : c.isVar i x = true) (hv : VarAt env s.heap x v) (h : Q v s) : wpAny M A (eval (.Name x pos) env) Q E s := by
  obtain ⟨_, hd, hn, _⟩ := MC.isVar_spec hx
  refine wpAny_Name ?_ hd
  rcases hv with ⟨k, m, hm, e⟩ | ⟨k | k, cc, hc, hv⟩
  · exact wpAny_loadName_local O.kind k hm e h
  · exact wpAny_loadName_cell O.kind k hc hv h
  · exact wpAny_loadName_free O.kind k hc hv h hn

theorem load_glob {G : GV} {x : Str} {pos : Pos} {v : Value} (O : EnvOk c env) (hx : c.isGlob x = true) (hg : s.heap.Ns mainGlobals G.mg) (hv : G.mg x = some v) (h : Q v s) : wpAny M A (eval (.Name x pos) env) Q E s := by
  obtain ⟨hk, hd⟩ := MC.isGlob_spec hx
  exact Name_function_global O.kind (O.glob x hk) (loadGlobal_global (O.globals ▸ hg) hv h) hd
theorem load_blt {G : GV} {x : Str} {pos : Pos} {v : Value} (O : EnvOk c env) (hx : c.isGlob x = true) (hg : s.heap.Ns mainGlobals G.mg) (hm : G.mg x = none) (hb : s.heap.Ns builtinsNs G.mb) (hv : G.mb x = some v) (h : Q v s) :
    wpAny M A (eval (.Name x pos) env) Q E s := by
  obtain ⟨hk, hd⟩ := MC.isGlob_spec hx
  exact Name_function_global O.kind (O.glob x hk) (loadGlobal_builtin (O.globals ▸ hg) hm (O.builtins ▸ hb) hv h) hd
end

/-- what the calls are known to give -/
structure AOk (prog : Program) (A : Around) : Prop where
  handled : A.handled = none
  units : A.units + 100 < cLine
  py : ∀ (w : World) (s : Shared), s.heap.NoLimit → s.heap.NoSeer → PylongRoom (model prog w) A s

noncomputable def SCall (prog : Program) (w : World) (G : GV) (gc : GC) (DT : List DefT) (A : Around) (Φ : Call) : Prop :=
  ∀ (f : Nat) (x : Str) (vs : List V) (H : Hp) (Q : V → Hp → Prop), gc.fns[f]? = some x → Φ f vs H Q (fun _ _ => False) → ∀ (s : Shared) (α : List Addr) (vals : List Value) (E : Value → Shared → Prop),
    GF G gc DT s.heap → HR G α s.heap H → Reps G α s.heap vals vs → wpAny (model prog w) A (call (.ref (G.fa f)) vals) (Post G (Rep G) s α H Q) E s

structure SX where
  prog : Program
  w : World
  G : GV
  DT : List DefT
  A : Around
  sub : Nat → Nat → Bool
  Φ : Call

/-- the soundness of an expression -/
noncomputable def SE (X : SX) (c : MC) (pe : PE) (e : Expr) : Prop :=
  ∀ (env : Env) (s : Shared) (α : List Addr) (ρ : Loc) (H : Hp) (Q : V → Hp → Prop) (E : Value → Shared → Prop), EnvOk c env → GF X.G c.g X.DT s.heap → HR X.G α s.heap H → FI X.G c env α s.heap ρ →
    wpE X.sub X.Φ pe ρ H Q → wpAny (model X.prog X.w) X.A (eval e env) (Post X.G (Rep X.G) s α H Q) E s
noncomputable def SEs (X : SX) (c : MC) (pes : PEs) (es : List Expr) : Prop :=
  ∀ (env : Env) (s : Shared) (α : List Addr) (ρ : Loc) (H : Hp) (Q : List V → Hp → Prop) (E : Value → Shared → Prop) (pos : Pos), EnvOk c env → GF X.G c.g X.DT s.heap → HR X.G α s.heap H → FI X.G c env α s.heap ρ →
    wpEs X.sub X.Φ pes ρ H Q → wpAny (model X.prog X.w) X.A (spliced (backTo pos (starEach es env))) (Post X.G (fun α h vs ds => Reps X.G α h vs ds ∧ vs.length = es.length) s α H Q) E s

section
variable {X : SX} {c : MC}

theorem se_cint {i k : _} {pos : Pos} : SE X c (.cint i) (.Constant (.int i) k pos) := fun env s α ρ H Q E _ _ R _ q =>
  wpAny_Constant_int (Post.same R (Rep.int _ _) q _)
theorem se_cbool {i k : _} {pos : Pos} : SE X c (.cbool i) (.Constant (.bool i) k pos) := fun env s α ρ H Q E _ _ R _ q =>
  wpAny_Constant_bool (Post.same' R (Rep.bool _) q)
theorem se_cnone {k : _} {pos : Pos} : SE X c .cnone (.Constant .none k pos) := fun env s α ρ H Q E _ _ R _ q =>
  wpAny_Constant_none (Post.same' R Rep.none q)
theorem se_cstr {i k : _} {pos : Pos} : SE X c (.cstr i) (.Constant (.str i) k pos) := fun env s α ρ H Q E _ _ R _ q =>
  wpAny_Constant_str (Post.same R (Rep.str _ _) q _)
theorem se_var {i : Nat} {x : Str} {pos : Pos} (hx : c.isVar i x = true) : SE X c (.var i) (.Name x pos) := fun env s α ρ H Q E O _ R F q => by
  obtain ⟨v, e, q⟩ := ifSome.get q
  obtain ⟨u, hu, r⟩ := F i x v (MC.isVar_spec hx).1 e
  exact load_var O hx hu (Post.same' R r q)
theorem se_fnv {i : Nat} {x : Str} {pos : Pos} (hf : c.g.fns[i]? = some x) (hx : c.isGlob x = true) : SE X c (.fnv i) (.Name x pos) := fun env s α ρ H Q E O T R F q =>
  load_glob O hx T.g (T.fn i x hf).1 (Post.same' R (Rep.fn rfl) q)
theorem se_glob {x : Str} {a b : Int} {e : Expr} (hf : (x, a, b) ∈ c.g.globs) (hx : c.isNm e x = true) : SE X c (.glob x a b) e := fun env s α ρ H Q E O T R F q => by
  obtain ⟨pos, rfl, hx2⟩ := MC.isNm_spec hx
  obtain ⟨t, ta, tb, hm, ht⟩ := T.glob x a b hf
  exact load_glob O hx2 T.g hm (Post.same' R (Rep.tup (vs := [.int a ta, .int b tb]) ht (.cons (.int _ _) (.cons (.int _ _) .nil)) (by show 2 ≤ lim; decide)) q)

theorem ses_nil : SEs X c .nil [] := fun env s α ρ H Q E pos _ _ R _ q => args_nil (Post.same' R ⟨Reps.nil, rfl⟩ q)
theorem ses_cons {pe : PE} {e : Expr} {ps : PEs} {es : List Expr} (hs : (match e with | .Starred .. => false | _ => true) = true) (h1 : SE X c pe e) (h2 : SEs X c ps es) : SEs X c (.cons pe ps) (e :: es) :=
  fun env s α ρ H Q E pos O T R F q => by
  have he : starEach (e :: es) env = (false, eval e env) :: starEach es env := by cases e <;> first | rfl | cases hs
  refine args_cons (wpAny_mono (h1 env s α ρ H _ E O T R F q) (fun v s₁ p => ?_) fun _ _ x => x) he
  refine p.go fun h₁ tk₁ β K d k f R' r q' => ?_
  refine wpAny_mono (h2 env _ (α ++ β) ρ (H ++ K) _ E pos O (T.keeps k) R' (F.up k) q') (fun vs s₂ p₂ => ?_) fun _ _ x => x
  obtain ⟨h₂, tk₂, β₂, K₂, ds, rfl, k₂, f₂, R₂, r₂, q₂⟩ := p₂
  refine Post.trans (tk₁ := tk₁) k f ⟨h₂, tk₂, β₂, K₂, d :: ds, rfl, k₂, f₂, R₂, ⟨.cons (r.up k₂) r₂.1, by simp [r₂.2]⟩, q₂⟩

theorem keeps_push (h : Heap) (o : Obj) : KeepsH h (h.push o) := fun _ _ e => Heap.get?_push_of_some o e
theorem size_none (h : Heap) : h.get? h.objs.size = none := by
  cases e : h.get? h.objs.size with
  | none => rfl
  | some o => exact absurd (Heap.lt_size e) (Nat.lt_irrefl _)
theorem lim_le : lim ≤ sizeLine := by rw [sizeLine_eq]; decide

/-- a new tuple -/
theorem Post.newTup {s : Shared} {G : GV} {α : List Addr} {H : Hp} {vs : List Value} {xs : List V} {Q : V → Hp → Prop} (R : HR G α s.heap H) (r : Reps G α s.heap vs xs) (z : xs.length ≤ lim) (q : Q (.tup xs) H) {n : Nat} (tk : Nat) :
    Post G (Rep G) s α H Q (.ref s.heap.objs.size) { s with heap := s.heap.push { cls := .type "tuple", data := .seq vs.toArray n }, toks := tk } := by
  refine ⟨_, tk, [], [], .tup xs, rfl, keeps_push _ _, by simp, by simpa using R.keeps (keeps_push _ _), ?_, by simpa using q⟩
  exact Rep.tup (vs := vs) ⟨_, Heap.get?_push_size _ rfl, rfl, n, rfl⟩ (r.up (keeps_push _ _)) z
/-- a new list -/
theorem Post.newLst {s : Shared} {G : GV} {α : List Addr} {H : Hp} {vs : List Value} {xs : List V} {Q : V → Hp → Prop} (R : HR G α s.heap H) {h' : Heap} (k : KeepsH s.heap h') (r : Reps G α h' vs xs) (z : xs.length ≤ lim) (q : Q (.lst H.length) (H ++ [xs]))
    {D : Addr} (hD : s.heap.get? D = none) (hl : h'.PlainList D vs.toArray) (tk : Nat) :
    Post G (Rep G) s α H Q (.ref D) { s with heap := h', toks := tk } := by
  refine ⟨h', tk, [D], [xs], .lst H.length, rfl, k, by simpa using hD, R.push k (fun hm => ?_) hl r z, ?_, q⟩
  · obtain ⟨n, hn⟩ := List.mem_iff_getElem?.mp hm
    obtain ⟨ys, hy⟩ := R.at hn
    obtain ⟨us, ⟨o, ho, _⟩, _⟩ := R.lst n D ys hn hy
    rw [hD] at ho; cases ho
  · refine Rep.lst ?_
    rw [List.getElem?_append_right (by rw [R.len]; exact Nat.le_refl _)]; simp [R.len]
theorem Post.newLst' {s : Shared} {G : GV} {α : List Addr} {H : Hp} {vs : List Value} {xs : List V} {Q : V → Hp → Prop} (R : HR G α s.heap H) (r : Reps G α s.heap vs xs) (z : xs.length ≤ lim) (q : Q (.lst H.length) (H ++ [xs])) {n : Nat} (tk : Nat) :
    Post G (Rep G) s α H Q (.ref s.heap.objs.size) { s with heap := s.heap.push { cls := .type "list", data := .seq vs.toArray n }, toks := tk } :=
  Post.newLst R (keeps_push _ _) (r.mono (fun _ _ e => e) (.of (keeps_push _ _))) z q (size_none _) ⟨n, Heap.get?_push_size _ rfl⟩ tk

theorem se_tup {ps : PEs} {es : List Expr} {k : Nat} {pos : Pos} (hn : es.length ≤ 1000) (h : SEs X c ps es) : SE X c (.tup ps) (.Tuple es k pos) := fun env s α ρ H Q E O T R F q => by
  refine wpAny_Tuple (wpAny_mono (h env s α ρ H _ E pos O T R F q) (fun vs s₁ p => ?_) fun _ _ x => x)
  obtain ⟨h₁, tk₁, β, K, ds, rfl, k₁, f, R', r, q'⟩ := p
  have hl := r.1.len
  refine ⟨by rw [r.2]; exact Nat.le_trans hn (Nat.le_trans (by decide) lim_le), Post.trans (tk₁ := tk₁) (K := K) k₁ f ?_⟩
  exact Post.newTup (s := { s with heap := h₁, toks := tk₁ }) R' r.1 (by rw [← hl, r.2]; exact Nat.le_trans hn (by decide)) q' tk₁
theorem se_lst {ps : PEs} {es : List Expr} {pos : Pos} (hn : es.length ≤ 1000) (h : SEs X c ps es) : SE X c (.lst ps) (.List es pos) := fun env s α ρ H Q E O T R F q => by
  refine wpAny_List (wpAny_mono (h env s α ρ H _ E pos O T R F q) (fun vs s₁ p => ?_) fun _ _ x => x)
  obtain ⟨h₁, tk₁, β, K, ds, rfl, k₁, f, R', r, q'⟩ := p
  have hl := r.1.len
  refine ⟨by rw [r.2]; exact Nat.le_trans hn (Nat.le_trans (by decide) lim_le), Post.trans (tk₁ := tk₁) (K := K) k₁ f ?_⟩
  exact Post.newLst' (s := { s with heap := h₁, toks := tk₁ }) R' r.1 (by rw [← hl, r.2]; exact Nat.le_trans hn (by decide)) q' tk₁

/-! two operands -/
theorem two {a b : PE} {l r : Expr} {ρ : Loc} {env : Env} {s : Shared} {α : List Addr} {H : Hp} {E : Value → Shared → Prop} {Q : V → V → Hp → Prop} {Z : Value → Value → Shared → Prop} (h1 : SE X c a l) (h2 : SE X c b r)
    (O : EnvOk c env) (T : GF X.G c.g X.DT s.heap) (R : HR X.G α s.heap H) (F : FI X.G c env α s.heap ρ)
    (q : wpE X.sub X.Φ a ρ H fun x H1 => wpE X.sub X.Φ b ρ H1 fun y H2 => Q x y H2)
    (hz : ∀ h' tk β K u v x y, KeepsH s.heap h' → (∀ b ∈ β, s.heap.get? b = none) → HR X.G (α ++ β) h' (H ++ K) → Rep X.G (α ++ β) h' u x → Rep X.G (α ++ β) h' v y → Q x y (H ++ K) → Z u v { s with heap := h', toks := tk }) :
    wpAny (model X.prog X.w) X.A (eval l env) (fun u s₁ => wpAny (model X.prog X.w) X.A (eval r env) (fun v s₂ => Z u v s₂) E s₁) E s := by
  refine wpAny_mono (h1 env s α ρ H _ E O T R F q) (fun u s₁ p => ?_) fun _ _ x => x
  refine p.go fun h₁ tk₁ β K d k f R' r q' => ?_
  refine wpAny_mono (h2 env _ (α ++ β) ρ (H ++ K) _ E O (T.keeps k) R' (F.up k) q') (fun v s₂ p₂ => ?_) fun _ _ x => x
  obtain ⟨h₂, tk₂, β₂, K₂, e, rfl, k₂, f₂, R₂, r₂, q₂⟩ := p₂
  have := hz h₂ tk₂ (β ++ β₂) (K ++ K₂) u v d e (k.trans k₂) (fun b hb => ?_) (by simpa using R₂) (by simpa using (r.up (β := β₂) k₂)) (by simpa using r₂) (by simpa using q₂)
  · exact this
  · rcases List.mem_append.mp hb with hb | hb
    · exact f b hb
    · cases e : s.heap.get? b with
      | none => rfl
      | some o => have := k b o e; rw [show h₁.get? b = none from f₂ b hb] at this; cases this

section
variable {prog : Program} {w : World} {A : Around} {E : Value → Shared → Prop} {s : Shared} {G : GV} {α : List Addr} {H : Hp} {Q : V → Hp → Prop}
theorem add_lists' {l b : Addr} {vs ws : List Value} {Z : Value → Shared → Prop} (hl : s.heap.IsList l vs.toArray) (hb : s.heap.IsList b ws.toArray) (hsz : vs.length + ws.length ≤ sizeLine)
    (h : Z (.ref s.heap.objs.size) { s with heap := s.heap.push { cls := .type "list", data := .seq (vs ++ ws).toArray } }) : wpAny (model prog w) A (binaryOp .Add (.ref l) (.ref b)) Z E s := by
  obtain ⟨⟨c1, d1, t1, sl1⟩, o1, e1, n1, f1⟩ := hl
  obtain ⟨⟨c2, d2, t2, sl2⟩, o2, e2, n2, f2⟩ := hb
  dsimp only at e1 f1 e2 f2
  subst e1 f1 e2 f2
  refine concat_meets ⟨_, o1, rfl⟩ ⟨_, o2, rfl⟩ noFill_list_add seq_list_add PySem.F.slot_list_add PySem.F.entry_list_add (PySem.F.args_list_add_2 _ _) (list_addW l b vs.toArray ws.toArray n1 n2 d1 d2 sl1 sl2 (by simpa using hsz)) ⟨o1, o2, ?_⟩
  simpa using h
end
end
end Mine

set_option autoImplicit false
set_option linter.unusedSimpArgs false
set_option linter.unusedVariables false
namespace Mine
open PySem PyProof.Rows PySem.Calls

section
variable {prog : Program} {w : World} {A : Around} {E : Value → Shared → Prop} {s : Shared} {G : GV} {α : List Addr} {H : Hp} {Q : V → Hp → Prop}

theorem HR.getList (R : HR G α s.heap H) {a : Addr} {n : Nat} {xs : List V} (e : α[n]? = some a) (h : H[n]? = some xs) : ∃ vs : List Value, s.heap.IsList a vs.toArray ∧ Reps G α s.heap vs xs ∧ xs.length ≤ lim ∧ vs.length ≤ lim := by
  obtain ⟨vs, l, r, z, _⟩ := R.lst n a xs e h
  exact ⟨vs, l, r, z, by rw [r.len]; exact z⟩

/-- the items of a sequence -/
theorem seqOf {v : Value} {d : V} {xs : List V} (R : HR G α s.heap H) (r : Rep G α s.heap v d) (e : items H d = some xs) :
    ∃ (a : Addr) (vs : List Value), v = .ref a ∧ Reps G α s.heap vs xs ∧ xs.length ≤ lim ∧ vs.length ≤ lim ∧ ((IsTup s.heap a vs.toArray ∧ ∃ ys, d = .tup ys) ∨ (s.heap.IsList a vs.toArray ∧ ∃ n, d = .lst n)) := by
  cases r with
  | tup t q z => cases e; exact ⟨_, _, rfl, q, z, by rw [q.len]; exact z, .inl ⟨t, _, rfl⟩⟩
  | lst q =>
    obtain ⟨vs, l, r, z, y⟩ := R.getList q e
    exact ⟨_, vs, rfl, r, z, y, .inr ⟨l, _, rfl⟩⟩
  | _ => cases e

theorem fold_replicate (v : Value) : ∀ n : Nat, List.foldl (fun x1 x2 : Array Value => x1 ++ x2) #[] (List.replicate n #[v]) = (List.replicate n v).toArray := by
  intro n
  have key : ∀ (n : Nat) (acc : Array Value), List.foldl (fun x1 x2 : Array Value => x1 ++ x2) acc (List.replicate n #[v]) = acc ++ (List.replicate n v).toArray := by
    intro n
    induction n with
    | zero => intro acc; simp
    | succ n ih =>
      intro acc
      rw [List.replicate_succ, List.foldl_cons, ih, List.replicate_succ]
      apply Array.ext'
      simp
  rw [key]; simp

theorem mul_list' {l : Addr} {v : Value} {k : Int} {u : Tok} {Z : Value → Shared → Prop} (hl : s.heap.IsList l [v].toArray) (h0 : 0 ≤ k) (h1 : k ≤ lim)
    (h : Z (.ref s.heap.objs.size) { s with heap := s.heap.push { cls := .type "list", data := .seq (List.replicate k.toNat v).toArray } }) : wpAny (model prog w) A (binaryOp .Mult (.ref l) (.int k u)) Z E s := by
  obtain ⟨⟨c1, d1, t1, sl1⟩, o1, e1, n1, f1⟩ := hl
  dsimp only at e1 f1
  subst e1 f1
  have hk : k.toNat ≤ 1000000 := by have h2 : k ≤ 1000000 := h1; (clear h1 h o1; omega)
  have hk' : k ≤ 1000000 := h1
  refine wpAny_binaryOp_repeat_ref (T := "list") (U := "int") (by decide) ⟨_, o1, rfl⟩ (fun s' => typeIs_int s' k u) noFill_list_mul F.fills_int_mul F.slot_int_rmul repeat_list F.slot_int_index.lookup
    (call_meets F.slot_int_rmul (typeIs_int s k u) F.entry_int_rmul (F.args_int_rmul_2 _ _) (lm_int_rmul_list_any k u l [v].toArray n1 d1 sl1)
      ⟨o1, rfl, ⟨_, o1, rfl⟩, call_meets F.slot_list_mul ⟨_, o1, rfl⟩ F.entry_list_mul (F.args_list_mul_2 _ _)
        (lm_list_mul_any l [v].toArray n1 d1 sl1 k u (by simp [Builtin.List.listFitsIndex]; (clear h1 h o1 hk; omega)) (by simp; (clear h1 h o1 hk; omega)) (by simp [Builtin.List.listTooLong, sizeLine]; (clear h1 h o1 hk; omega)))
        ⟨o1, ?_⟩⟩)
  have e : (if ([v].toArray).isEmpty = true then 0 else k.toNat) = k.toNat := by simp
  rw [e, show ([v].toArray : Array Value) = #[v] from rfl, fold_replicate]
  exact h

theorem binOp_sound {op : BOp} {u v : Value} {x y : V} (hP : PylongRoom (model prog w) A s) (R : HR G α s.heap H) (ru : Rep G α s.heap u x) (rv : Rep G α s.heap v y) (q : binWp op x y H Q) :
    wpAny (model prog w) A (binaryOp (opOf op) u v) (Post G (Rep G) s α H Q) E s := by
  cases op
  · cases x <;> first | exact False.elim q | skip
    · cases y <;> first | exact False.elim q | skip
      obtain ⟨t, rfl⟩ := ru.int_inv
      obtain ⟨t', rfl⟩ := rv.int_inv
      exact add_int (Post.same R (.int _ _) q _)
    · cases y <;> first | exact False.elim q | skip
      obtain ⟨a, rfl, e1⟩ := ru.lst_inv
      obtain ⟨b, rfl, e2⟩ := rv.lst_inv
      obtain ⟨xs, h1, q⟩ := ifSome.get q
      obtain ⟨ys, h2, hz, q⟩ := ifSome.get q
      obtain ⟨vs, l1, r1, z1, z1'⟩ := R.getList e1 h1
      obtain ⟨ws, l2, r2, z2, z2'⟩ := R.getList e2 h2
      have hlen : vs.length + ws.length ≤ lim := by rw [r1.len, r2.len]; exact hz
      exact add_lists' l1 l2 (Nat.le_trans hlen lim_le) (Post.newLst' R (r1.append r2) (by rw [List.length_append]; exact hz) q s.toks)
  · cases x <;> first | exact False.elim q | skip
    cases y <;> first | exact False.elim q | skip
    obtain ⟨t, rfl⟩ := ru.int_inv
    obtain ⟨t', rfl⟩ := rv.int_inv
    exact sub_int (Post.same R (.int _ _) q _)
  · cases x <;> first | exact False.elim q | skip
    · cases y <;> first | exact False.elim q | skip
      obtain ⟨t, rfl⟩ := ru.int_inv
      obtain ⟨t', rfl⟩ := rv.int_inv
      exact mul_int (Post.same R (.int _ _) q.2 _) q.1
    · cases y <;> first | exact False.elim q | skip
      rename_i k
      obtain ⟨a, rfl, e1⟩ := ru.lst_inv
      obtain ⟨t', rfl⟩ := rv.int_inv
      obtain ⟨x, h1, h0, hk, q⟩ := q
      obtain ⟨vs, l1, r1, z1, z1'⟩ := R.getList e1 h1
      obtain ⟨v, rfl, rx⟩ := r1.one_inv
      have hk' : k.toNat ≤ lim := by have h2 : k ≤ 1000000 := hk; show _ ≤ 1000000; (clear hP R e1 ru rv h1 hk q z1 rx l1 r1 z1'; omega)
      exact mul_list' l1 h0 hk (Post.newLst' R (Reps.replicate rx k.toNat) (by rw [List.length_replicate]; exact hk') q s.toks)
  · cases x <;> first | exact False.elim q | skip
    cases y <;> first | exact False.elim q | skip
    rename_i i j
    obtain ⟨t, rfl⟩ := ru.int_inv
    obtain ⟨t', rfl⟩ := rv.int_inv
    replace q : DivOk j ∧ Q (.int (i.fdiv j)) H := q
    exact floordiv_int q.1 (Post.same R (.int _ _) q.2 _) (Or.inr hP)
  · cases x <;> first | exact False.elim q | skip
    cases y <;> first | exact False.elim q | skip
    obtain ⟨t, rfl⟩ := ru.int_inv
    obtain ⟨t', rfl⟩ := rv.int_inv
    exact mod_int' q.1 (Post.same R (.int _ _) q.2 _)
  · cases x <;> first | exact False.elim q | skip
    cases y <;> first | exact False.elim q | skip
    obtain ⟨t, rfl⟩ := ru.int_inv
    obtain ⟨t', rfl⟩ := rv.int_inv
    exact pow_int_small q.1 (by have := q.2.1; (clear hP R q ru rv; omega)) q.2.2.1 (Post.same R (.int _ _) q.2.2.2 _)

/-! data -/
theorem map_of {β γ : Type} {f : β → γ} {o : Option β} {c : γ} (h : o.map f = some c) : ∃ b, o = some b ∧ f b = c := by
  cases o with
  | none => cases h
  | some b => cases h; exact ⟨b, rfl, rfl⟩
theorem str_of {s : Str} {d : PyData} (e : (if PyData.strOk s = true then some (PyData.str s) else none) = some d) : PyData.strOk s = true ∧ .str s = d := by
  by_cases h : PyData.strOk s = true
  · rw [if_pos h] at e; cases e; exact ⟨h, rfl⟩
  · rw [if_neg h] at e; cases e
theorem lst_of {H : Hp} {n k : Nat} {xs : List V} {d : PyData} (e : datOf H (n + 1) (.lst k) = some d) (h : H[k]? = some xs) : (xs.mapM (datOf H n)).map .list = some d := by
  have e' : (match H[k]? with | some xs => (xs.mapM (datOf H n)).map .list | none => none) = some d := e
  rw [h] at e'; exact e'
theorem lst_no {H : Hp} {n k : Nat} {d : PyData} (e : datOf H (n + 1) (.lst k) = some d) (h : H[k]? = none) : False := by
  have e' : (match H[k]? with | some xs => (xs.mapM (datOf H n)).map .list | none => none) = some d := e
  rw [h] at e'; cases e'
mutual
theorem datReads (R : HR G α s.heap H) : ∀ (n : Nat) {v : Value} {x : V} {d : PyData}, Rep G α s.heap v x → datOf H n x = some d → ∃ as, Reads s.heap v d as
  | n, _, _, d, .int i t, e => by cases n <;> (cases e; exact ⟨_, .int _ _⟩)
  | n, _, _, d, .bool b, e => by cases n <;> (cases e; exact ⟨_, .bool _⟩)
  | n, _, _, d, .none, e => by cases n <;> (cases e; exact ⟨_, .none⟩)
  | n, _, _, d, .str _ _, e => by cases n <;> (obtain ⟨_, rfl⟩ := str_of e; exact ⟨_, .str _ _⟩)
  | 0, _, _, d, .tup t q z, e => by cases e
  | n + 1, _, _, d, .tup (vs := vs) t q z, e => by
    obtain ⟨ds, e1, rfl⟩ := map_of e
    obtain ⟨as, r⟩ := datReadsAll R n q e1
    obtain ⟨o, ho, hc, k, hd⟩ := t
    exact ⟨_, .tuple ho hc hd (by simpa using r)⟩
  | 0, _, _, d, .lst _, e => by cases e
  | n + 1, _, _, d, .lst (n := m) ha, e => by
    cases hx : H[m]? with
    | some xs =>
      obtain ⟨ds, e1, rfl⟩ := map_of (lst_of e hx)
      obtain ⟨vs, ⟨o, ho, hc, k, hd⟩, q, _⟩ := R.lst m _ xs ha hx
      obtain ⟨as, r⟩ := datReadsAll R n q e1
      exact ⟨_, .list ho hc hd (by simpa using r)⟩
    | none => exact (lst_no e hx).elim
  | n, _, _, d, .fn _, e => by cases n <;> cases e
theorem datReadsAll (R : HR G α s.heap H) : ∀ (n : Nat) {vs : List Value} {xs : List V} {ds : List PyData}, Reps G α s.heap vs xs → xs.mapM (datOf H n) = some ds → ∃ as, ReadsAll s.heap vs ds as
  | n, _, _, ds, .nil, e => by simp at e; subst e; exact ⟨_, .nil⟩
  | n, _, _, ds, .cons a b, e => by
    simp only [List.mapM_cons, Option.bind_eq_bind, Option.bind_eq_some_iff, Option.pure_def, Option.some.injEq] at e
    obtain ⟨d, e1, ds', e2, rfl⟩ := e
    obtain ⟨as, r⟩ := datReads R n a e1
    obtain ⟨bs, r2⟩ := datReadsAll R n b e2
    exact ⟨_, .cons r r2⟩
end
end
end Mine

set_option autoImplicit false
set_option linter.unusedSimpArgs false
set_option linter.unusedVariables false
namespace Mine
open PySem PyProof.Rows PySem.Calls

theorem datShapeAll (H : Hp) (n : Nat) (ih : ∀ {x : V} {d : PyData}, datOf H n x = some d → d.canLay0 = true ∧ d.depth ≤ n + 1) :
    ∀ {xs : List V} {ds : List PyData}, xs.mapM (datOf H n) = some ds → PyData.canLayAll0 ds = true ∧ PyData.depthAll ds ≤ n + 1
  | [], ds, e => by simp at e; subst e; simp [PyData.canLayAll0, PyData.depthAll]
  | x :: xs, ds, e => by
    simp only [List.mapM_cons, Option.bind_eq_bind, Option.bind_eq_some_iff, Option.pure_def, Option.some.injEq] at e
    obtain ⟨d, e1, ds', e2, rfl⟩ := e
    have h1 := ih e1
    have h2 := datShapeAll H n ih e2
    simp only [PyData.canLayAll0, PyData.depthAll, Bool.and_eq_true]
    exact ⟨⟨h1.1, h2.1⟩, by (clear ih e1 e2; omega)⟩
theorem datShape (H : Hp) : ∀ (n : Nat) {x : V} {d : PyData}, datOf H n x = some d → d.canLay0 = true ∧ d.depth ≤ n + 1
  | n, .int i, d, e => by cases n <;> (cases e; simp [PyData.canLay0, PyData.depth])
  | n, .bool i, d, e => by cases n <;> (cases e; simp [PyData.canLay0, PyData.depth])
  | n, .none, d, e => by cases n <;> (cases e; simp [PyData.canLay0, PyData.depth])
  | n, .str i, d, e => by cases n <;> (obtain ⟨h, rfl⟩ := str_of e; simp [PyData.canLay0, PyData.depth, h])
  | 0, .tup xs, d, e => by cases e
  | n + 1, .tup xs, d, e => by
    obtain ⟨ds, e1, rfl⟩ := map_of e
    have := datShapeAll H n (fun e => datShape H n e) e1
    simp only [PyData.canLay0, PyData.depth]
    exact ⟨this.1, by (clear e; omega)⟩
  | 0, .lst k, d, e => by cases e
  | n + 1, .lst k, d, e => by
    cases hx : H[k]? with
    | some xs =>
      obtain ⟨ds, e1, rfl⟩ := map_of (lst_of e hx)
      have := datShapeAll H n (fun e => datShape H n e) e1
      simp only [PyData.canLay0, PyData.depth]
      exact ⟨this.1, by (clear e; omega)⟩
    | none => exact (lst_no e hx).elim
  | n, .fn k, d, e => by cases n <;> cases e
  | n, .exc k, d, e => by cases n <;> cases e

theorem shaped_of_dat {H : Hp} {n : Nat} {x : V} {d : PyData} (e : datOf H n x = some d) (hn : n ≤ 60) : SeqAt.shaped d = true := by
  have := datShape H n e
  unfold SeqAt.shaped
  rw [Bool.and_eq_true]
  exact ⟨this.1, decide_eq_true (by (clear e; omega))⟩

section
variable {prog : Program} {w : World} {A : Around} {E : Value → Shared → Prop} {s : Shared} {G : GV} {α : List Addr} {H : Hp} {Q : V → Hp → Prop}

theorem cmp_sound {op : COp} {u v : Value} {x y : V} (hA : AOk prog A) (R : HR G α s.heap H) (ru : Rep G α s.heap u x) (rv : Rep G α s.heap v y) (q : cmpWp op x y H Q) :
    wpAny (model prog w) A (compareOp (cmpOf op) u v) (Post G (Rep G) s α H Q) E s := by
  have hu := hA.units
  have eqs : ∀ Q', eqWp x y H Q' → ∃ da db as bs, Reads s.heap u da as ∧ Reads s.heap v db bs ∧ datOf H 4 x = some da ∧ datOf H 4 y = some db ∧ Q' (PyData.eqv da db) := fun Q' q => by
    obtain ⟨da, db, e1, e2, q⟩ := q
    obtain ⟨as, r1⟩ := datReads R 4 ru e1
    obtain ⟨bs, r2⟩ := datReads R 4 rv e2
    exact ⟨da, db, as, bs, r1, r2, e1, e2, q⟩
  have hE : eqWp x y H (fun b => Q (.bool b) H) → wpAny (model prog w) A (compareOp .Eq u v) (Post G (Rep G) s α H Q) E s := fun q => by
    obtain ⟨da, db, as, bs, r1, r2, e1, e2, q⟩ := eqs _ q
    exact SeqAt.compareEq_shaped r1 r2 (shaped_of_dat e1 (by decide)) (shaped_of_dat e2 (by decide)) (by (clear hA R ru rv eqs r1 r2 e1 e2 q; omega)) (Post.same' R (.bool _) q)
  have hN : eqWp x y H (fun b => Q (.bool (!b)) H) → wpAny (model prog w) A (compareOp .NotEq u v) (Post G (Rep G) s α H Q) E s := fun q => by
    obtain ⟨da, db, as, bs, r1, r2, e1, e2, q⟩ := eqs _ q
    exact SeqAt.compareNe_shaped r1 r2 (shaped_of_dat e1 (by decide)) (shaped_of_dat e2 (by decide)) (by (clear hA R ru rv eqs hE r1 r2 e1 e2 q; omega)) (Post.same' R (.bool _) q)
  cases op
  · cases x <;> first | exact False.elim q | skip
    cases y <;> first | exact False.elim q | skip
    obtain ⟨t, rfl⟩ := ru.int_inv
    obtain ⟨t', rfl⟩ := rv.int_inv
    exact lt_int (Post.same' R (.bool _) q)
  · cases x <;> first | exact False.elim q | skip
    cases y <;> first | exact False.elim q | skip
    obtain ⟨t, rfl⟩ := ru.int_inv
    obtain ⟨t', rfl⟩ := rv.int_inv
    exact le_int (Post.same' R (.bool _) q)
  · cases x <;> first | exact False.elim q | skip
    cases y <;> first | exact False.elim q | skip
    obtain ⟨t, rfl⟩ := ru.int_inv
    obtain ⟨t', rfl⟩ := rv.int_inv
    exact gt_int (Post.same' R (.bool _) q)
  · cases x <;> first | exact False.elim q | skip
    cases y <;> first | exact False.elim q | skip
    obtain ⟨t, rfl⟩ := ru.int_inv
    obtain ⟨t', rfl⟩ := rv.int_inv
    exact ge_int (Post.same' R (.bool _) q)
  · cases x <;> first | exact hE q | skip
    cases y <;> first | exact hE q | skip
    obtain ⟨t, rfl⟩ := ru.int_inv
    obtain ⟨t', rfl⟩ := rv.int_inv
    exact eq_int (Post.same' R (.bool _) q)
  · cases x <;> first | exact hN q | skip
    cases y <;> first | exact hN q | skip
    obtain ⟨t, rfl⟩ := ru.int_inv
    obtain ⟨t', rfl⟩ := rv.int_inv
    exact ne_int (Post.same' R (.bool _) q)
  · cases y <;> first | exact False.elim q | skip
    obtain ⟨da, ds, e1, e2, hn, q⟩ := q
    obtain ⟨as, r1⟩ := datReads R 3 ru e1
    obtain ⟨bs, r2⟩ := datReads R 4 rv e2
    refine in_list_dataH r2 r1 (shaped_of_dat e2 (by decide)) (shaped_of_dat e1 (by decide)) (by (clear hA R ru rv eqs hE hN e1 e2 hn q r1 r2; omega)) hn (Post.same' R (.bool _) ?_)
    rw [← any_eqv_countIn da ds hn]; exact q
  · cases y <;> first | exact False.elim q | skip
    obtain ⟨da, ds, e1, e2, hn, q⟩ := q
    obtain ⟨as, r1⟩ := datReads R 3 ru e1
    obtain ⟨bs, r2⟩ := datReads R 4 rv e2
    refine notIn_list_dataH r2 r1 (shaped_of_dat e2 (by decide)) (shaped_of_dat e1 (by decide)) (by (clear hA R ru rv eqs hE hN e1 e2 hn q r1 r2; omega)) hn (Post.same' R (.bool _) ?_)
    rw [any_eqv_countIn da ds hn] at q
    exact q
  · cases y <;> first | exact False.elim q | skip
    cases rv.none_inv
    refine is_none (Post.same' R (.bool _) ?_)
    cases ru <;> exact q

theorem truth_sound {u : Value} {x : V} {t : Bool} {Z : Bool → Shared → Prop} (R : HR G α s.heap H) (ru : Rep G α s.heap u x) (e : truthV H x = some t) (h : ∀ tk, Z t { s with toks := tk }) :
    wpAny (model prog w) A (truthy u) Z E s := by
  cases ru with
  | int i tk => cases e; exact truthy_int (h s.toks)
  | bool b => cases e; exact wpAny_truthy_bool (h s.toks)
  | none => cases e; exact fun _ _ _ => h s.toks
  | str z tk => cases e
  | tup ht q z =>
    cases e
    have hl := q.len
    refine truthy_tuple ht (by have : _ ≤ 1000000 := z; simp; (clear R ht q z h; omega)) ?_
    rename_i vs xs
    have : (!vs.toArray.isEmpty) = !xs.isEmpty := by cases q <;> simp
    rw [this]; exact h _
  | lst ha =>
    obtain ⟨xs, hx, rfl⟩ := map_of e
    obtain ⟨vs, l, q, z, z'⟩ := R.getList ha hx
    refine wpAny_truthy_list l (by have : _ ≤ 1000000 := z'; simp; (clear R ha hx h l q z z'; omega)) ?_
    have : (!vs.toArray.isEmpty) = !xs.isEmpty := by cases q <;> simp
    rw [this]; exact h _
  | fn _ => cases e
end
end Mine

set_option autoImplicit false
set_option linter.unusedSimpArgs false
set_option linter.unusedVariables false
namespace Mine
open PySem PyProof.Rows PySem.Calls

noncomputable def SC (X : SX) (c : MC) (pe : PE) (e : Expr) : Prop :=
  ∀ (env : Env) (s : Shared) (α : List Addr) (ρ : Loc) (H : Hp) (Q : Bool → Hp → Prop) (E : Value → Shared → Prop), EnvOk c env → GF X.G c.g X.DT s.heap → HR X.G α s.heap H → FI X.G c env α s.heap ρ →
    wpE X.sub X.Φ pe ρ H (fun v H' => ifSome (truthV H' v) fun t => Q t H') → wpAny (model X.prog X.w) X.A (isTrue e env (eval e env)) (Post X.G (fun _ _ a b => a = b) s α H Q) E s

noncomputable def PlainTest (e : Expr) : Prop := ∀ (env : Env) (whole : Sem Value), isTrue e env whole = (do let v ← whole; standAt e.pos; holding [v] (truthy v))

section
variable {X : SX} {c : MC}

theorem sc_of_se {pe : PE} {e : Expr} (h : SE X c pe e) (he : PlainTest e) : SC X c pe e := fun env s α ρ H Q E O T R F q => by
  refine wpAny_isTrue_value (wpAny_mono (h env s α ρ H _ E O T R F q) (fun v s₁ p => ?_) fun _ _ x => x) (he env _)
  obtain ⟨h₁, tk₁, β, K, d, rfl, k, f, R', r, q⟩ := p
  obtain ⟨t, e, q⟩ := ifSome.get q
  exact truth_sound (s := { s with heap := h₁, toks := tk₁ }) R' r e fun tk => ⟨h₁, tk, β, K, t, rfl, k, f, R', rfl, q⟩

theorem se_bin {op : BOp} {a b : PE} {l r : Expr} {pos : Pos} (hA : AOk X.prog X.A) (h1 : SE X c a l) (h2 : SE X c b r) : SE X c (.bin op a b) (.BinOp l (opOf op) r pos) := fun env s α ρ H Q E O T R F q => by
  refine wpAny_BinOp (two h1 h2 O T R F (Q := fun x y H2 => binWp op x y H2 Q) q fun h' tk β K u v x y k f R' ru rv q' => ?_)
  exact wpAny_mono (binOp_sound (s := { s with heap := h', toks := tk }) (hA.py _ _ (T.nolimit.keeps k) (T.seer.keeps k)) R' ru rv q') (fun _ _ p => p.trans k f) fun _ _ x => x

theorem se_neg {a : PE} {l : Expr} {pos : Pos} (h1 : SE X c a l) : SE X c (.neg a) (.UnaryOp .USub l pos) := fun env s α ρ H Q E O T R F q => by
  refine wpAny_UnaryOp (wpAny_mono (h1 env s α ρ H _ E O T R F q) (fun v s₁ p => ?_) fun _ _ x => x)
  refine p.then fun h₁ tk₁ β K d k f R' r q' => ?_
  cases d <;> first | exact q'.elim | skip
  cases r
  exact neg_int (Post.same R' (.int _ _) q' _)

theorem se_nt {a : PE} {l : Expr} {pos : Pos} (h1 : SE X c a l) : SE X c (.nt a) (.UnaryOp .Not l pos) := fun env s α ρ H Q E O T R F q => by
  refine wpAny_UnaryOp (wpAny_mono (h1 env s α ρ H _ E O T R F q) (fun v s₁ p => ?_) fun _ _ x => x)
  refine p.then fun h₁ tk₁ β K d k f R' r q' => ?_
  obtain ⟨t, e, q'⟩ := ifSome.get q'
  exact not_value (truth_sound (s := { s with heap := h₁, toks := tk₁ }) R' r e fun tk => Post.same (s := { s with heap := h₁, toks := tk₁ }) R' (.bool _) q' tk)
theorem sc_nt {a : PE} {l : Expr} {pos : Pos} (h1 : SC X c a l) : SC X c (.nt a) (.UnaryOp .Not l pos) := fun env s α ρ H Q E O T R F q => by
  refine wpAny_isTrue_Not (wpAny_mono (h1 env s α ρ H (fun t => Q (!t)) E O T R F ?_) (fun v s₁ p => ?_) fun _ _ x => x)
  · exact q
  · obtain ⟨h₁, tk₁, β, K, d, rfl, k, f, R', rfl, q'⟩ := p
    exact ⟨h₁, tk₁, β, K, _, rfl, k, f, R', rfl, q'⟩

theorem se_cmp {op : COp} {a b : PE} {l r : Expr} {pos : Pos} (hA : AOk X.prog X.A) (hm : behindInMarks (cmpOf op) r = false) (h1 : SE X c a l) (h2 : SE X c b r) : SE X c (.cmp op a b) (.Compare l [cmpOf op] [r] pos) := fun env s α ρ H Q E O T R F q => by
  refine wpAny_Compare1 (two h1 h2 O T R F (Q := fun x y H2 => cmpWp op x y H2 Q) q fun h' tk β K u v x y k f R' ru rv q' => ?_) hm
  exact wpAny_mono (cmp_sound (s := { s with heap := h', toks := tk }) hA R' ru rv q') (fun _ _ p => p.trans k f) fun _ _ x => x
theorem sc_cmp {op : COp} {a b : PE} {l r : Expr} {pos : Pos} (hA : AOk X.prog X.A) (hm : behindInMarks (cmpOf op) r = false) (h1 : SE X c a l) (h2 : SE X c b r) : SC X c (.cmp op a b) (.Compare l [cmpOf op] [r] pos) := fun env s α ρ H Q E O T R F q => by
  refine wpAny_isTrue_Compare1 (two h1 h2 O T R F (Q := fun x y H2 => cmpWp op x y H2 _) q fun h' tk β K u v x y k f R' ru rv q' => ?_) hm
  refine wpAny_mono (cmp_sound (s := { s with heap := h', toks := tk }) hA R' ru rv q') (fun v s₁ p => ?_) fun _ _ x => x
  obtain ⟨h₂, tk₂, β₂, K₂, d, rfl, k₂, f₂, R₂, r₂, q₂⟩ := p
  obtain ⟨t, e, q₂⟩ := ifSome.get q₂
  refine truth_sound (s := { s with heap := h₂, toks := tk₂ }) R₂ r₂ e fun tk' => ?_
  exact Post.trans (tk₁ := tk) k f ⟨h₂, tk', β₂, K₂, t, rfl, k₂, f₂, R₂, rfl, q₂⟩

/-! and, or -/
noncomputable def SAll (X : SX) (c : MC) (b : Bool) (ps : PEs) (es : List Expr) : Prop :=
  ∀ (env : Env) (s : Shared) (α : List Addr) (ρ : Loc) (H : Hp) (Q : V → Hp → Prop) (E : Value → Shared → Prop) (pos : Pos), EnvOk c env → GF X.G c.g X.DT s.heap → HR X.G α s.heap H → FI X.G c env α s.heap ρ →
    wpAll X.sub X.Φ b ps ρ H Q → wpAny (model X.prog X.w) X.A (boolOp pos (if b then .And else .Or) (evalEach es env)) (Post X.G (Rep X.G) s α H Q) E s
noncomputable def SAllC (X : SX) (c : MC) (b : Bool) (ps : PEs) (es : List Expr) : Prop :=
  ∀ (env : Env) (s : Shared) (α : List Addr) (ρ : Loc) (H : Hp) (Q : Bool → Hp → Prop) (E : Value → Shared → Prop), EnvOk c env → GF X.G c.g X.DT s.heap → HR X.G α s.heap H → FI X.G c env α s.heap ρ →
    wpAll X.sub X.Φ b ps ρ H (fun v H' => ifSome (truthV H' v) fun t => Q t H') → wpAny (model X.prog X.w) X.A (allTrue (if b then .And else .Or) es env) (Post X.G (fun _ _ a b => a = b) s α H Q) E s

theorem sall_nil {b : Bool} : SAll X c b .nil [] := fun env s α ρ H Q E pos O T R F q => (by simp [wpAll] at q)
theorem sallc_nil {b : Bool} : SAllC X c b .nil [] := fun env s α ρ H Q E O T R F q => (by simp [wpAll] at q)
theorem sall_one {b : Bool} {a : PE} {e : Expr} (h : SE X c a e) : SAll X c b (.cons a .nil) [e] := fun env s α ρ H Q E pos O T R F q => by
  simp only [wpAll] at q
  cases b <;> exact h env s α ρ H Q E O T R F q
theorem sall_cons {b : Bool} {a a2 : PE} {r : PEs} {e e2 : Expr} {es : List Expr} (h1 : SE X c a e) (h2 : SAll X c b (.cons a2 r) (e2 :: es)) : SAll X c b (.cons a (.cons a2 r)) (e :: e2 :: es) := fun env s α ρ H Q E pos O T R F q => by
  simp only [wpAll] at q
  have key : wpAny (model X.prog X.w) X.A (eval e env >>= fun v => do
      standAt pos
      let t ← holding [v] (truthy v)
      match (if b then BoolOp.And else BoolOp.Or), t with
      | .And, false | .Or, true => pure v
      | _, _ => boolOp pos (if b then .And else .Or) (evalEach (e2 :: es) env)) (Post X.G (Rep X.G) s α H Q) E s := by
    refine wpAny_bind (wpAny_mono (h1 env s α ρ H _ E O T R F q) (fun v s₁ p => ?_) fun _ _ x => x)
    refine p.then fun h₁ tk₁ β K d k f R' rr q' => ?_
    obtain ⟨t, e, q'⟩ := ifSome.get q'
    refine wpAny_bind (wpAny_standAt (wpAny_bind (wpAny_holding (truth_sound (s := { s with heap := h₁, toks := tk₁ }) R' rr e fun tk => ?_))))
    have step : wpAny (model X.prog X.w) X.A (boolOp pos (if b then .And else .Or) (evalEach (e2 :: es) env)) (Post X.G (Rep X.G) { s with heap := h₁, toks := tk } (α ++ β) (H ++ K) Q) E { s with heap := h₁, toks := tk } →
        wpAny (model X.prog X.w) X.A (boolOp pos (if b then .And else .Or) (evalEach (e2 :: es) env)) (Post X.G (Rep X.G) { s with heap := h₁, toks := tk₁ } (α ++ β) (H ++ K) Q) E { s with heap := h₁, toks := tk } := fun h =>
      wpAny_mono h (fun _ _ ⟨h', tk', β', K', d', e', a', b', c', r', q''⟩ => ⟨h', tk', β', K', d', e', a', b', c', r', q''⟩) fun _ _ x => x
    cases b <;> cases t <;> simp only [Bool.false_eq_true, Bool.true_eq_false, if_true, if_false] at q' ⊢
    · exact step (h2 env { s with heap := h₁, toks := tk } (α ++ β) ρ (H ++ K) Q E pos O (T.keeps k) R' (F.up k) q')
    · exact wpAny_pure (Post.same (s := { s with heap := h₁, toks := tk₁ }) R' rr q' tk)
    · exact wpAny_pure (Post.same (s := { s with heap := h₁, toks := tk₁ }) R' rr q' tk)
    · exact step (h2 env { s with heap := h₁, toks := tk } (α ++ β) ρ (H ++ K) Q E pos O (T.keeps k) R' (F.up k) q')
  exact key
theorem sallc_one {b : Bool} {a : PE} {e : Expr} (h : SC X c a e) : SAllC X c b (.cons a .nil) [e] := fun env s α ρ H Q E O T R F q => by
  simp only [wpAll] at q
  cases b
  · refine wpAny_allTrue_Or_cons (wpAny_mono (h env s α ρ H Q E O T R F q) (fun v s₁ p => ?_) fun _ _ x => x)
    cases v
    · exact wpAny_allTrue_Or_nil p
    · exact p
  · refine wpAny_allTrue_And_cons (wpAny_mono (h env s α ρ H Q E O T R F q) (fun v s₁ p => ?_) fun _ _ x => x)
    cases v
    · exact p
    · exact wpAny_allTrue_And_nil p
theorem sallc_cons {b : Bool} {a a2 : PE} {r : PEs} {e e2 : Expr} {es : List Expr} (h1 : SC X c a e) (h2 : SAllC X c b (.cons a2 r) (e2 :: es)) : SAllC X c b (.cons a (.cons a2 r)) (e :: e2 :: es) := fun env s α ρ H Q E O T R F q => by
  simp only [wpAll] at q
  have e0 : (fun (v : V) (H1 : Hp) => ifSome (truthV H1 v) fun t => if t = b then wpAll X.sub X.Φ b (.cons a2 r) ρ H1 (fun v H' => ifSome (truthV H' v) fun t => Q t H') else ifSome (truthV H1 v) fun t => Q t H1) =
      fun v H1 => ifSome (truthV H1 v) fun t => if t = b then wpAll X.sub X.Φ b (.cons a2 r) ρ H1 (fun v H' => ifSome (truthV H' v) fun t => Q t H') else Q t H1 := by
    funext v H1
    generalize truthV H1 v = o
    cases o <;> rfl
  rw [e0] at q
  have h := h1 env s α ρ H _ E O T R F q
  cases b
  · refine wpAny_allTrue_Or_cons (wpAny_mono h (fun v s₁ p => ?_) fun _ _ x => x)
    cases v
    · simp only [Bool.false_eq_true, if_false]
      refine p.then fun h₁ tk₁ β K d k f R' rr q' => ?_
      subst rr
      simp only [if_true] at q'
      exact h2 env { s with heap := h₁, toks := tk₁ } (α ++ β) ρ (H ++ K) Q E O (T.keeps k) R' (F.up k) q'
    · obtain ⟨h', tk', β', K', d', e', k', f', R', rfl, q'⟩ := p
      exact ⟨h', tk', β', K', _, e', k', f', R', rfl, q'⟩
  · refine wpAny_allTrue_And_cons (wpAny_mono h (fun v s₁ p => ?_) fun _ _ x => x)
    cases v
    · obtain ⟨h', tk', β', K', d', e', k', f', R', rfl, q'⟩ := p
      exact ⟨h', tk', β', K', _, e', k', f', R', rfl, q'⟩
    · simp only [if_true]
      refine p.then fun h₁ tk₁ β K d k f R' rr q' => ?_
      subst rr
      simp only [if_true] at q'
      exact h2 env { s with heap := h₁, toks := tk₁ } (α ++ β) ρ (H ++ K) Q E O (T.keeps k) R' (F.up k) q'
theorem se_and {ps : PEs} {es : List Expr} {pos : Pos} (h : SAll X c true ps es) : SE X c (.and ps) (.BoolOp .And es pos) := fun env s α ρ H Q E O T R F q => by
  rw [arm_eval_BoolOp]; exact h env s α ρ H Q E pos O T R F (by simpa only [qE1, qE2, qE3, qE4, qE5, qE6, qE7, qE8, qE9, qE10, qE11, qE12, qE13, qE14, qE15, qE16, qE17, qE18, qE19, qE20, qE21, qE22] using q)
theorem se_or {ps : PEs} {es : List Expr} {pos : Pos} (h : SAll X c false ps es) : SE X c (.or ps) (.BoolOp .Or es pos) := fun env s α ρ H Q E O T R F q => by
  rw [arm_eval_BoolOp]; exact h env s α ρ H Q E pos O T R F (by simpa only [qE1, qE2, qE3, qE4, qE5, qE6, qE7, qE8, qE9, qE10, qE11, qE12, qE13, qE14, qE15, qE16, qE17, qE18, qE19, qE20, qE21, qE22] using q)
theorem sc_and {ps : PEs} {es : List Expr} {pos : Pos} (h : SAllC X c true ps es) : SC X c (.and ps) (.BoolOp .And es pos) := fun env s α ρ H Q E O T R F q =>
  wpAny_isTrue_BoolOp (h env s α ρ H Q E O T R F (by simpa only [qE1, qE2, qE3, qE4, qE5, qE6, qE7, qE8, qE9, qE10, qE11, qE12, qE13, qE14, qE15, qE16, qE17, qE18, qE19, qE20, qE21, qE22] using q))
theorem sc_or {ps : PEs} {es : List Expr} {pos : Pos} (h : SAllC X c false ps es) : SC X c (.or ps) (.BoolOp .Or es pos) := fun env s α ρ H Q E O T R F q =>
  wpAny_isTrue_BoolOp (h env s α ρ H Q E O T R F (by simpa only [qE1, qE2, qE3, qE4, qE5, qE6, qE7, qE8, qE9, qE10, qE11, qE12, qE13, qE14, qE15, qE16, qE17, qE18, qE19, qE20, qE21, qE22] using q))
end
end Mine

set_option autoImplicit false
set_option linter.unusedSimpArgs false
set_option linter.unusedVariables false
namespace Mine
open PySem PyProof.Rows PySem.Calls

noncomputable def notStar (e : Expr) : Bool := match e with | .Starred .. => false | _ => true
noncomputable def noStar (es : List Expr) : Bool := es.all notStar
theorem starEach_cons {e : Expr} {es : List Expr} {env : Env} (h : notStar e = true) : starEach (e :: es) env = (false, eval e env) :: starEach es env := by
  cases e <;> first | rfl | cases h
theorem star_any {pos : Pos} {env : Env} : ∀ {es : List Expr}, noStar es = true → (backTo pos (starEach es env)).any (·.1) = false
  | [], _ => rfl
  | e :: es, h => by
    simp only [noStar, List.all_cons, Bool.and_eq_true] at h
    rw [starEach_cons h.1]
    show (false || (backTo pos (starEach es env)).any (·.1)) = false
    rw [star_any h.2]; rfl

section
variable {X : SX} {c : MC}

/-- a call of an own def -/
theorem call_fn {f : Nat} {x : Str} {ps : PEs} {e : Expr} {es : List Expr} {pos : Pos} (hΦ : SCall X.prog X.w X.G c.g X.DT X.A X.Φ) (hf : c.g.fns[f]? = some x) (hn : notStar e = true) (h : SEs X c ps (e :: es))
    (env : Env) (s : Shared) (α : List Addr) (ρ : Loc) (H : Hp) (Q : V → Hp → Prop) (E : Value → Shared → Prop) (O : EnvOk c env) (T : GF X.G c.g X.DT s.heap) (R : HR X.G α s.heap H) (F : FI X.G c env α s.heap ρ)
    (q : wpEs X.sub X.Φ ps ρ H fun vs H1 => X.Φ f vs H1 Q fun _ _ => False) :
    wpAny (model X.prog X.w) X.A (callWith pos (.ref (X.G.fa f)) [] (backTo pos (starEach (e :: es) env)) []) (Post X.G (Rep X.G) s α H Q) E s := by
  obtain ⟨_, d, o, pm, cd, doc, _, _, ho, hd, _⟩ := T.fn f x hf
  refine callWith_def hd (wpAny_mono (h env s α ρ H _ E pos O T R F q) (fun vs s₁ p => ?_) fun _ _ y => y) (starEach_cons hn)
  obtain ⟨h₁, tk₁, β, K, ds, rfl, k, f', R', r, q'⟩ := p
  refine ⟨k _ _ ho, ?_⟩
  exact wpAny_mono (hΦ f x ds (H ++ K) Q hf q' { s with heap := h₁, toks := tk₁ } (α ++ β) vs E (T.keeps k) R' r.1) (fun _ _ p => p.trans k f') fun _ _ y => y

theorem se_call {f : Nat} {x : Str} {ps : PEs} {e : Expr} {es : List Expr} {p pos : Pos} (hΦ : SCall X.prog X.w X.G c.g X.DT X.A X.Φ) (hf : c.g.fns[f]? = some x) (hx : c.isGlob x = true) (hn : notStar e = true) (h : SEs X c ps (e :: es)) :
    SE X c (.call f ps) (.Call (.Name x p) (e :: es) [] pos) := fun env s α ρ H Q E O T R F q =>
  Call_ (load_glob O hx T.g (T.fn f x hf).1 (call_fn hΦ hf hn h env s α ρ H Q E O T R F (by simpa only [qE1, qE2, qE3, qE4, qE5, qE6, qE7, qE8, qE9, qE10, qE11, qE12, qE13, qE14, qE15, qE16, qE17, qE18, qE19, qE20, qE21, qE22] using q)))

theorem bootAbs : bootBuiltins "abs" = some (.builtin "abs") := by boot_by_name
theorem bootLen : bootBuiltins "len" = some (.builtin "len") := by boot_by_name
theorem bootInt : bootBuiltins "int" = some (.type "int") := by boot_by_name
theorem bootList : bootBuiltins "list" = some (.type "list") := by boot_by_name
theorem bootTuple : bootBuiltins "tuple" = some (.type "tuple") := by boot_by_name
theorem bootMin : bootBuiltins "min" = some (.builtin "min") := by boot_by_name
theorem bootIsi : bootBuiltins "isinstance" = some (.builtin "isinstance") := by boot_by_name
theorem bootRange : bootBuiltins "range" = some (.type "range") := by boot_by_name
theorem bootBool : bootBuiltins "bool" = some (.type "bool") := by boot_by_name

/-- a built-in's name -/
theorem load_b {x : Str} {v : Value} {pos : Pos} {env : Env} {s : Shared} {Q : Value → Shared → Prop} {E : Value → Shared → Prop} (hb : bootBuiltins x = some v) (hm : x ∈ bltNames) (hx : c.isGlob x = true) (O : EnvOk c env) (T : GF X.G c.g X.DT s.heap) (h : Q v s) :
    wpAny (model X.prog X.w) X.A (eval (.Name x pos) env) Q E s :=
  load_blt O hx T.g (T.blt x hm).1 T.b ((T.blt x hm).2.trans hb) h

/-- a call of a built-in function -/
theorem call_b {x : Str} {id : String} {ps : PEs} {e : Expr} {es : List Expr} {p pos : Pos} {env : Env} {s : Shared} {α : List Addr} {ρ : Loc} {H : Hp} {Q : V → Hp → Prop} {Q1 : List V → Hp → Prop} {E : Value → Shared → Prop}
    (hb : bootBuiltins x = some (.builtin id)) (hm : x ∈ bltNames) (hx : c.isGlob x = true) (hn : noStar (e :: es) = true) (h : SEs X c ps (e :: es)) (O : EnvOk c env) (T : GF X.G c.g X.DT s.heap) (R : HR X.G α s.heap H) (F : FI X.G c env α s.heap ρ)
    (q : wpEs X.sub X.Φ ps ρ H Q1)
    (hz : ∀ h' tk β K vs ds, KeepsH s.heap h' → HR X.G (α ++ β) h' (H ++ K) → Reps X.G (α ++ β) h' vs ds → Q1 ds (H ++ K) →
      wpAny (model X.prog X.w) X.A (call (.builtin id) vs) (Post X.G (Rep X.G) { s with heap := h', toks := tk } (α ++ β) (H ++ K) Q) E { s with heap := h', toks := tk }) :
    wpAny (model X.prog X.w) X.A (eval (.Call (.Name x p) (e :: es) [] pos) env) (Post X.G (Rep X.G) s α H Q) E s := by
  simp only [noStar, List.all_cons, Bool.and_eq_true] at hn
  refine Call_ (load_b hb hm hx O T (callWith_builtin1 (wpAny_mono (h env s α ρ H _ E pos O T R F q) (fun vs s₁ p => ?_) fun _ _ y => y) (starEach_cons hn.1) (star_any hn.2)))
  exact p.then fun h₁ tk₁ β K d k f R' r q' => hz h₁ tk₁ β K vs d k R' r.1 q'
theorem call_t {x : Str} {id : String} {ps : PEs} {e : Expr} {es : List Expr} {p pos : Pos} {env : Env} {s : Shared} {α : List Addr} {ρ : Loc} {H : Hp} {Q : V → Hp → Prop} {Q1 : List V → Hp → Prop} {E : Value → Shared → Prop}
    (hb : bootBuiltins x = some (.type id)) (hm : x ∈ bltNames) (hx : c.isGlob x = true) (hn : noStar (e :: es) = true) (h : SEs X c ps (e :: es)) (O : EnvOk c env) (T : GF X.G c.g X.DT s.heap) (R : HR X.G α s.heap H) (F : FI X.G c env α s.heap ρ)
    (q : wpEs X.sub X.Φ ps ρ H Q1)
    (hz : ∀ h' tk β K vs ds, KeepsH s.heap h' → HR X.G (α ++ β) h' (H ++ K) → Reps X.G (α ++ β) h' vs ds → Q1 ds (H ++ K) →
      wpAny (model X.prog X.w) X.A (call (.type id) vs) (Post X.G (Rep X.G) { s with heap := h', toks := tk } (α ++ β) (H ++ K) Q) E { s with heap := h', toks := tk }) :
    wpAny (model X.prog X.w) X.A (eval (.Call (.Name x p) (e :: es) [] pos) env) (Post X.G (Rep X.G) s α H Q) E s := by
  simp only [noStar, List.all_cons, Bool.and_eq_true] at hn
  refine Call_ (load_b hb hm hx O T (callWith_type1 (wpAny_mono (h env s α ρ H _ E pos O T R F q) (fun vs s₁ p => ?_) fun _ _ y => y) (starEach_cons hn.1) (star_any hn.2)))
  exact p.then fun h₁ tk₁ β K d k f R' r q' => hz h₁ tk₁ β K vs d k R' r.1 q'
end
end Mine

set_option autoImplicit false
namespace Mine
open PySem PyProof PyProof.Rows

section
variable {prog : Program} {w : World} {A : Around} {E : Value → Shared → Prop} {s : Shared}

theorem adjust_front (n : Nat) (hn : 1 ≤ n) : Builtin.Slice.sliceAdjust none (some (-1)) 1 (n : Int) = (0, (n : Int) - 1) := by
  unfold Builtin.Slice.sliceAdjust
  have h1 : ¬ ((1 : Int) < 0) := by (clear hn; omega)
  have h2 : (-1 : Int) < 0 := by (clear hn h1; omega)
  simp only [h1, h2, if_false, if_true]
  congr 1
  (clear h1 h2; omega)
theorem places_front (n : Nat) (hn : 1 ≤ n) : Builtin.Slice.slicePlaces 0 ((n : Int) - 1) 1 = n - 1 := by
  unfold Builtin.Slice.slicePlaces
  have h1 : (1 : Int) > 0 := by (clear hn; omega)
  simp only [h1, if_true, Int.ediv_one]
  split <;> (clear h1; omega)

theorem sliceApplied_front {sl : Addr} {n : Nat} {u : Tok} {Q : Int × Int × Nat → Shared → Prop} (hs : s.heap.IsSliceOf sl .none (.int (-1) u) .none) (hn : 1 ≤ n) (h : Q (0, 1, n - 1) s) :
    wpAny (model prog w) A (Builtin.Slice.sliceApplied (.ref sl) (pure (n : Int))) Q E s := by
  obtain ⟨os, hos, hcs, hds⟩ := id hs
  unfold Builtin.Slice.sliceApplied Builtin.Slice.sliceFields
  refine wpAny_bind (wpAny_bind (wpAny_field hos hds (x := .none) rfl (wpAny_bind (wpAny_field hos hds (x := .int (-1) u) rfl (wpAny_bind (wpAny_field hos hds (x := .none) rfl (wpAny_pure ?_)))))))
  refine wpAny_bind (slicePart_none ?_)
  show wpAny _ _ (if ((1 : Int) == 0) = true then _ else _) _ _ s
  rw [if_neg (by decide)]
  refine wpAny_bind (slicePart_none (wpAny_bind (slicePart_int (wpAny_bind (wpAny_pure ?_)))))
  show wpAny _ _ (match Builtin.Slice.sliceAdjust none (some (-1)) 1 (n : Int) with | (lo, hi) => pure (lo, (1 : Int), Builtin.Slice.slicePlaces lo hi 1)) _ _ s
  rw [adjust_front n hn]
  show wpAny _ _ (pure ((0 : Int), (1 : Int), Builtin.Slice.slicePlaces 0 ((n : Int) - 1) 1)) _ _ s
  rw [places_front n hn]
  exact wpAny_pure h

theorem pick_front (xs : Array Value) : ((List.range (xs.size - 1)).filterMap fun (k : Nat) => xs[((0 : Int) + (k : Int) * 1).toNat]?).toArray = xs.toList.dropLast.toArray := by
  have e : (fun (k : Nat) => xs[((0 : Int) + (k : Int) * 1).toNat]?) = fun k => xs[0 + k]? := by
    funext k
    have : ((0 : Int) + (k : Int) * 1).toNat = 0 + k := by omega
    rw [this]
  rw [e]
  have := pick_run xs 0 (xs.size - 1)
  rw [List.filterMap_map] at this
  have e2 : ((fun x => xs[x]?) ∘ fun x => 0 + x) = fun k => xs[0 + k]? := rfl
  rw [e2] at this
  rw [this, List.dropLast_eq_take]
  rfl

theorem getItem_tuple_front {t sl : Addr} {items : Array Value} {u : Tok} {Q : Value → Shared → Prop} (ht : IsTup s.heap t items) (hs : s.heap.IsSliceOf sl .none (.int (-1) u) .none) (h1 : 1 ≤ items.size)
    (h : Q (.ref s.heap.objs.size) { s with heap := s.heap.push { cls := .type "tuple", data := .seq items.toList.dropLast.toArray } })
    (hsz : items.size ≤ sizeLine) : wpAny (model prog w) A (getItem (.ref t) (.ref sl)) Q E s := by
  have hdrop : sizeOk (.seq items.toList.dropLast.toArray) := by
    show items.toList.dropLast.toArray.size ≤ sizeLine
    rw [List.size_toArray, List.length_dropLast, Array.length_toList]
    (clear ht hs h; omega)
  obtain ⟨os, hos, hcs, hds⟩ := id hs
  have hTs : s.TypeIs (.ref sl) "slice" := ⟨os, hos, hcs⟩
  unfold getItem
  try with_reducible refine wpAny_holding ?_
  first | refine wpAny_bind (wpAny_pure ?_) | skip
  refine wpAny_bind (wpAny_sequenceKey ht.typeIs (by decide) ?_)
  refine wpAny_bind (wpAny_callSpecial?_slot (name := Str.ofString "__getitem__") ht.typeIs slot_tuple_getitem
    (wpAny_call_entry slot_tuple_getitem ht.typeIs entry_tuple_getitem ?_ (args_tuple_getitem _ _)))
  show wpAny _ _ (Builtin.Tuple.tupleItemsOf (.ref t) >>= _) _ _ s
  refine wpAny_bind (tupleItemsOf_ ht ?_)
  refine wpAny_bind (wpAny_typeOf hTs ?_)
  rw [if_pos (by decide)]
  refine wpAny_bind (sliceApplied_front hs h1 ?_)
  have hno : ¬ (((0 : Int) == 0 && (1 : Int) == 1 && (items.size - 1) == items.size) = true) := by
    have : ((items.size - 1) == items.size) = false := by rw [beq_eq_false_iff_ne]; (clear ht hs h hsz hdrop hos hcs hds hTs; omega)
    rw [this]; simp
  show wpAny _ _ (if ((0 : Int) == 0 && (1 : Int) == 1 && (items.size - 1) == items.size) = true then _ else _) _ _ s
  rw [if_neg hno, pick_front items]
  first
    | exact wpAny_bind (m := Builtin.Tuple.tupleExact _) (wpAny_newObj_type (wpAny_pure ⟨_, rfl, wpAny_pure h⟩) hdrop)
    | exact wpAny_bind (m := Builtin.Tuple.tupleExact _) (wpAny_newObj_type (wpAny_bind (wpAny_pure (wpAny_pure ⟨_, rfl, wpAny_pure h⟩))) hdrop)
    | exact wpAny_bind (wpAny_bind (m := Builtin.Tuple.tupleExact _) (wpAny_newObj_type (wpAny_pure (wpAny_pure ⟨_, rfl, wpAny_pure h⟩)) hdrop))
    | exact wpAny_bind (wpAny_bind (m := Builtin.Tuple.tupleExact _) (wpAny_newObj_type (wpAny_pure ⟨_, rfl, wpAny_pure h⟩) hdrop))
end
end Mine

set_option autoImplicit false
set_option linter.unusedSimpArgs false
set_option linter.unusedVariables false
namespace Mine
open PySem PyProof.Rows PySem.Calls

section
variable {prog : Program} {w : World} {A : Around} {E : Value → Shared → Prop} {s : Shared} {G : GV} {α : List Addr} {H : Hp} {Q : V → Hp → Prop}

/-- list(x) -/
theorem list_of {v : Value} {d : V} {xs : List V} (R : HR G α s.heap H) (r : Rep G α s.heap v d) (e : items H d = some xs) (q : Q (.lst H.length) (H ++ [xs])) :
    wpAny (model prog w) A (call (.type "list") [v]) (Post G (Rep G) s α H Q) E s := by
  obtain ⟨a, vs, rfl, rs, z, z', hk⟩ := seqOf R r e
  have hsz : vs.toArray.size ≤ sizeLine := by rw [List.size_toArray]; exact Nat.le_trans z' lim_le
  have go : ∀ h' c', KeepsH s.heap h' → h'.get? s.heap.objs.size = some { cls := .type "list", dict := none, data := .seq vs.toArray c', slots := #[] } → Post G (Rep G) s α H Q (.ref s.heap.objs.size) { s with heap := h' } := fun h' c' k hg =>
    Post.newLst R k (rs.mono (fun _ _ e => e) (.of k)) z q (size_none _) ⟨c', hg⟩ s.toks
  rcases hk with ⟨⟨o, ho, hc, n, hd⟩, _⟩ | ⟨⟨o, ho, hc, n, hd⟩, _⟩
  · exact call_list_seq a (.inr rfl) ho hc hd go hsz
  · exact call_list_seq a (.inl rfl) ho hc hd go hsz
/-- tuple(x) -/
theorem tuple_of {v : Value} {d : V} {xs : List V} (R : HR G α s.heap H) (r : Rep G α s.heap v d) (e : items H d = some xs) (q : Q (.tup xs) H) :
    wpAny (model prog w) A (call (.type "tuple") [v]) (Post G (Rep G) s α H Q) E s := by
  obtain ⟨a, vs, rfl, rs, z, z', hk⟩ := seqOf R r e
  have hsz : vs.toArray.size ≤ sizeLine := by rw [List.size_toArray]; exact Nat.le_trans z' lim_le
  rcases hk with ⟨ht, ys, rfl⟩ | ⟨hl, n, rfl⟩
  · cases e
    exact call_tuple_tup ht (Post.same' R r q)
  · refine call_tuple_list hl (fun h' k => ?_) hsz
    have k2 : KeepsH s.heap (h'.push { cls := .type "tuple", data := .seq vs.toArray }) := KeepsH.trans k (keeps_push _ _)
    refine ⟨_, s.toks, [], [], .tup xs, rfl, k2, by simp, by simpa using R.keeps k2, ?_, by simpa using q⟩
    exact Rep.tup (vs := vs) ⟨_, Heap.get?_push_size _ rfl, rfl, _, rfl⟩ (rs.up k2) z
/-- len(x) -/
theorem len_of {v : Value} {d : V} {xs : List V} (R : HR G α s.heap H) (r : Rep G α s.heap v d) (e : items H d = some xs) (q : Q (.int xs.length) H) :
    wpAny (model prog w) A (call (.builtin "len") [v]) (Post G (Rep G) s α H Q) E s := by
  obtain ⟨a, vs, rfl, rs, z, z', hk⟩ := seqOf R r e
  have hz : (vs.toArray.size : Int) < 2 ^ 63 := by have : vs.length ≤ 1000000 := z'; simp; (clear R e q r rs z z' hk; omega)
  have hl : ((vs.toArray.size : Nat) : Int) = xs.length := by simp [rs.len]
  rcases hk with ⟨ht, _⟩ | ⟨hl', _⟩
  · exact len_tuple ht hz (by rw [hl]; exact Post.same R (.int _ _) q _)
  · exact len_list hl' hz (by rw [hl]; exact Post.same R (.int _ _) q _)

theorem bi_sound {b : Bi} {vs : List Value} {ds : List V} (hA : AOk prog A) (R : HR G α s.heap H) (r : Reps G α s.heap vs ds) (q : biWp b ds H Q) :
    match b with
    | .abs => wpAny (model prog w) A (call (.builtin "abs") vs) (Post G (Rep G) s α H Q) E s
    | .len => wpAny (model prog w) A (call (.builtin "len") vs) (Post G (Rep G) s α H Q) E s
    | .int => wpAny (model prog w) A (call (.type "int") vs) (Post G (Rep G) s α H Q) E s
    | .list => wpAny (model prog w) A (call (.type "list") vs) (Post G (Rep G) s α H Q) E s
    | .tuple => wpAny (model prog w) A (call (.type "tuple") vs) (Post G (Rep G) s α H Q) E s
    | .min => wpAny (model prog w) A (call (.builtin "min") vs) (Post G (Rep G) s α H Q) E s
    | .listrev => True := by
  cases b
  · rcases ds with _ | ⟨d, _ | ⟨_, _⟩⟩ <;> first | exact False.elim q | skip
    · cases d <;> first | exact False.elim q | skip
      obtain ⟨v, rfl, a⟩ := r.one_inv
      obtain ⟨t, rfl⟩ := a.int_inv
      exact call_abs_int fun u tk => Post.same R (.int _ _) q tk
    · cases d <;> exact False.elim q
  · rcases ds with _ | ⟨d, _ | ⟨_, _⟩⟩ <;> first | exact False.elim q | skip
    obtain ⟨v, rfl, a⟩ := r.one_inv
    obtain ⟨xs, e, q⟩ := ifSome.get q; exact len_of R a e q
  · rcases ds with _ | ⟨d, _ | ⟨_, _⟩⟩ <;> first | exact False.elim q | skip
    · cases d <;> first | exact False.elim q | skip
      obtain ⟨v, rfl, a⟩ := r.one_inv
      cases a.bool_inv
      exact call_int_bool (Post.same R (.int _ _) q _)
    · cases d <;> exact False.elim q
  · rcases ds with _ | ⟨d, _ | ⟨_, _⟩⟩ <;> first | exact False.elim q | skip
    obtain ⟨v, rfl, a⟩ := r.one_inv
    obtain ⟨xs, e, q⟩ := ifSome.get q; exact list_of R a e q
  · rcases ds with _ | ⟨d, _ | ⟨_, _⟩⟩ <;> first | exact False.elim q | skip
    obtain ⟨v, rfl, a⟩ := r.one_inv
    obtain ⟨xs, e, q⟩ := ifSome.get q; exact tuple_of R a e q
  · rcases ds with _ | ⟨d, _ | ⟨d', _ | ⟨_, _⟩⟩⟩ <;> first | exact False.elim q | (cases d <;> first | exact False.elim q | skip)
    all_goals (cases d' <;> first | exact False.elim q | skip)
    obtain ⟨v, v', rfl, a, a'⟩ := r.two_inv
    obtain ⟨tx, rfl⟩ := a.int_inv
    obtain ⟨ty, rfl⟩ := a'.int_inv
    rename_i x y
    refine min_two_ints hA.handled fun h' tk k => ?_
    have : (if y < x then Value.int y ty else Value.int x tx) = Value.int (if y < x then y else x) (if y < x then ty else tx) := by split <;> rfl
    rw [this]
    exact ⟨h', tk, [], [], _, rfl, k, List.forall_mem_nil _, by rw [List.append_nil, List.append_nil]; exact R.keeps k, .int _ _, by rw [List.append_nil]; exact q⟩
  · trivial

theorem place_spec {n i : Nat} {k : Int} (h : place n k = some i) : i < n ∧ ((0 ≤ k ∧ k = i) ∨ (k < 0 ∧ k + n = i)) := by
  unfold place at h
  split at h
  · split at h
    · cases h; omega
    · cases h
  · split at h
    · cases h; omega
    · cases h
theorem place_seq {n i : Nat} {k : Int} (h : place n k = some i) : seqIndex? k n = some i := by
  obtain ⟨h1, h2⟩ := place_spec h
  unfold seqIndex?
  rcases h2 with ⟨h0, h2⟩ | ⟨h0, h2⟩
  · have : ¬ k < 0 := by (clear h h1 h2; omega)
    simp only [this, if_false, Bool.and_eq_true, decide_eq_true_eq]
    rw [if_pos ⟨h0, by (clear h h0 this; omega)⟩]; congr 1; (clear h h1 this; omega)
  · simp only [h0, if_true, Bool.and_eq_true, decide_eq_true_eq]
    rw [if_pos ⟨by (clear h h1 h0; omega), by (clear h h0; omega)⟩]; congr 1; (clear h h1 h0; omega)

/-- x[k] -/
theorem idx_sound {value slice : Expr} {u v : Value} {x y : V} (hs : ∀ o i, subscripted slice false o i = operate [o, i] (getItem o i)) (R : HR G α s.heap H) (ru : Rep G α s.heap u x) (rv : Rep G α s.heap v y) (q : idxWp x y H Q) :
    wpAny (model prog w) A (subscriptTail value slice u v) (Post G (Rep G) s α H Q) E s := by
  cases rv with
  | int k t =>
    · obtain ⟨xs, e, q⟩ := ifSome.get q
      obtain ⟨i, hp, q⟩ := ifSome.get q
      obtain ⟨d, hd, q⟩ := ifSome.get q
      obtain ⟨a, vs, rfl, rs, z, z', hk⟩ := seqOf R ru e
      obtain ⟨val, hval, rd⟩ := rs.get hd
      have hz : vs.length ≤ 1000000 := z'
      have hlen := rs.len
      rw [← hlen] at hp
      obtain ⟨h1, h2⟩ := place_spec hp
      have hval' : vs.toArray[i]? = some val := by simpa using hval
      have b1 : -(2 ^ 63) ≤ k := by (clear hs R e hd q hp ru rs z z' hk hval rd hlen h1 hval'; omega)
      have b2 : k < 2 ^ 63 := by (clear hs R e hd q hp ru rs z z' hk hval rd hlen hval' b1; omega)
      rcases hk with ⟨ht, _⟩ | ⟨hl, _⟩
      · exact item_tupleT (j := i) ht b1 b2 (place_seq hp) hval (Post.same' R rd q) (hs _ _)
      · rcases h2 with ⟨h0, h2⟩ | ⟨h0, h2⟩
        · exact tail_any hl.typeIs slot_list_getitem.lookup (wpAny_getItem_list hl h0 b2 (by rw [show k.toNat = i by (clear hs R e hd q hp ru rs z z' hval rd hz hlen h1 hval' hl; omega)]; exact hval') (Post.same' R rd q)) (hs _ _)
        · refine tail_any hl.typeIs slot_list_getitem.lookup (wpAny_getItem_list_neg hl h0 (by simp; (clear hs R e hd q hp ru rs z z' hval rd hz hlen h1 hval' b1 b2 hl h0; omega)) b1 ?_ (Post.same' R rd q)) (hs _ _)
          rw [show (k + (vs.toArray.size : Int)).toNat = i by simp; (clear hs R e hd q hp ru rs z z' hval rd hlen h1 hval' hl; omega)]; exact hval'
  | _ => exact False.elim q

theorem clip_eq (n : Nat) (k : Int) : clipAt n k = clampAt n k := rfl

/-- x[lo:hi] -/
theorem slc_sound {value slice : Expr} {u l h : Value} {x : V} {lo hi : Option V} {sl : Addr} (hs : ∀ o i, subscripted slice false o i = operate [i, o] (getItem o i)) (R : HR G α s.heap H) (ru : Rep G α s.heap u x)
    (hsl : s.heap.IsSliceOf sl l h .none) (rl : (l = .none ∧ lo = none) ∨ ∃ a ta, l = .int a ta ∧ lo = some (.int a)) (rh : (h = .none ∧ hi = none) ∨ ∃ a ta, h = .int a ta ∧ hi = some (.int a)) (q : slcWp x lo hi H Q) :
    wpAny (model prog w) A (subscriptTail value slice u (.ref sl)) (Post G (Rep G) s α H Q) E s := by
  unfold slcWp at q
  split at q
  · rename_i xs0
    rcases q with ⟨a, rfl, rfl, h1, h2, q⟩ | ⟨rfl, rfl, h1, q⟩
    · rcases rl with ⟨_, e⟩ | ⟨b, tb, rfl, e⟩
      · cases e
      rcases rh with ⟨rfl, _⟩ | ⟨c, tc, _, e'⟩
      · cases e
        cases ru with
        | tup ht rs z =>
          have hz : _ ≤ 1000000 := z
          have hlen := rs.len
          have hcast : ((a.toNat : Nat) : Int) = a := by (clear hs R h2 q hsl ht rs z hz hlen; omega)
          refine tail_any ht.typeIs slot_tuple_getitem.lookup (getItem_tuple_from (a := a.toNat) (u := tb) ht (by rw [hcast]; exact hsl) (by (clear hs R h2 q hsl ht rs z hz hlen; omega)) (by simp; (clear hs R h1 q hsl ht rs z hz; omega)) ?_ (by simp; have := lim_le; (clear hs R h1 h2 q hsl ht rs hz hcast; omega))) (hs _ _)
          simp only
          exact Post.newTup R (rs.drop a.toNat) (by rw [List.length_drop]; have : lim = 1000000 := rfl; (clear hs R q hsl ht rs z; omega)) q s.toks
      · cases e'
    · rcases rl with ⟨rfl, _⟩ | ⟨b, tb, _, e⟩
      · rcases rh with ⟨_, e⟩ | ⟨c, tc, rfl, e⟩
        · cases e
        · cases e
          cases ru with
          | tup ht rs z =>
            have hz : _ ≤ 1000000 := z
            have hlen := rs.len
            have hx : 1 ≤ xs0.length := by cases xs0 with | nil => exact (h1 rfl).elim | cons a b => simp
            refine tail_any ht.typeIs slot_tuple_getitem.lookup (getItem_tuple_front (u := tc) ht hsl (by simp; (clear hs R h1 q hsl ht rs z; omega)) ?_ (by simp; have := lim_le; (clear hs R h1 q hsl ht rs hz hx; omega))) (hs _ _)
            simp only
            refine Post.newTup R ?_ ?_ q s.toks
            · rw [List.dropLast_eq_take, List.dropLast_eq_take, ← hlen]; exact rs.take _
            · rw [List.length_dropLast]; have : lim = 1000000 := rfl; (clear hs R h1 q hsl ht rs z; omega)
      · cases e
  · rename_i n
    obtain ⟨xs, hx, q⟩ := ifSome.get q
    obtain ⟨p, hc, q⟩ := ifSome.get q
    cases ru with
    | lst ha =>
      obtain ⟨vs, hl, rs, z, z'⟩ := R.getList ha hx
      have hlen := rs.len
      have hsz : vs.toArray.size ≤ sizeLine := by rw [List.size_toArray]; exact Nat.le_trans z' lim_le
      have key : ∀ (lo' hi' : Option Int), IsPart l lo' → IsPart h hi' → ((vs.toArray.toList.drop (lo'.elim 0 (clipAt vs.toArray.size))).take (hi'.elim vs.toArray.size (clipAt vs.toArray.size) - lo'.elim 0 (clipAt vs.toArray.size))) = (vs.take p.2).drop p.1 →
          wpAny (model prog w) A (subscriptTail value slice (.ref _) (.ref sl)) (Post G (Rep G) s α H Q) E s := fun lo' hi' pl ph he => by
        refine tail_any hl.typeIs slot_list_getitem.lookup (wpAny_getItem_list_slice (st := none) hl hsl pl ph .none (by intro e; cases e) ?_ hsz) (hs _ _)
        rw [slicePick_plain, he]
        refine Post.newLst' R ((rs.take p.2).drop p.1) ?_ q s.toks
        rw [List.length_drop, List.length_take]; (clear hs R hsl rl rh hx hc q ha hl rs z hsz pl ph he; omega)
      have dt : ∀ a b : Nat, ((vs.toArray.toList.drop a).take (b - a)) = (vs.take b).drop a := fun a b => by simp [List.drop_take]
      unfold cutAt at hc
      rcases rl with ⟨rfl, rfl⟩ | ⟨a, ta, rfl, rfl⟩ <;> rcases rh with ⟨rfl, rfl⟩ | ⟨b, tb, rfl, rfl⟩ <;> simp only [Option.some.injEq] at hc <;> subst hc
      · refine key none none .none .none ?_
        simp [hlen]
      · refine key none (some b) .none (.int _ _) ?_
        simp [hlen, clip_eq]
      · refine key (some a) none (.int _ _) .none ?_
        rw [dt]; simp [hlen, clip_eq]
      · refine key (some a) (some b) (.int _ _) (.int _ _) ?_
        rw [dt]; simp [hlen, clip_eq]
  · exact q.elim
end
end Mine

set_option autoImplicit false
set_option linter.unusedVariables false
set_option maxRecDepth 100000
namespace Mine
open PySem PyProof.Rows PySem.Calls

noncomputable def IsRv (h : Heap) (a t : Addr) (i : Int) : Prop := ∃ o, h.get? a = some o ∧ o.cls = .type "reversed" ∧ o.data = .fields #[.ref t, rawInt i]

section
variable {prog : Program} {w : World} {A : Around} {E : Value → Shared → Prop} {s : Shared}
end
end Mine

set_option autoImplicit false
set_option linter.unusedSimpArgs false
set_option linter.unusedVariables false
namespace Mine
open PySem PyProof.Rows PySem.Calls

theorem Reps.inv1 {G : GV} {α : List Addr} {h : Heap} {vs : List Value} {a : V} (r : Reps G α h vs [a]) : ∃ v, vs = [v] ∧ Rep G α h v a := by
  cases r with | cons x r => cases r with | nil => exact ⟨_, rfl, x⟩
theorem Reps.inv2 {G : GV} {α : List Addr} {h : Heap} {vs : List Value} {a b : V} (r : Reps G α h vs [a, b]) : ∃ v w, vs = [v, w] ∧ Rep G α h v a ∧ Rep G α h w b := by
  cases r with | cons x r => obtain ⟨w, rfl, y⟩ := r.inv1; exact ⟨_, _, rfl, x, y⟩
theorem Reps.inv3 {G : GV} {α : List Addr} {h : Heap} {vs : List Value} {a b c : V} (r : Reps G α h vs [a, b, c]) : ∃ v w u, vs = [v, w, u] ∧ Rep G α h v a ∧ Rep G α h w b ∧ Rep G α h u c := by
  cases r with | cons x r => obtain ⟨w, u, rfl, y, z⟩ := r.inv2; exact ⟨_, _, _, rfl, x, y, z⟩

/-- an iterator over the items xs; s: the state ahead of it -/
noncomputable def ItOk (prog : Program) (w : World) (A : Around) (G : GV) (s : Shared) (α : List Addr) (xs : List V) (src : Option Nat) (it : Value) (s₂ : Shared) : Prop :=
  ∃ I fp wr P St h tk, it = .ref I ∧ s₂ = { s with heap := h, toks := tk } ∧ KeepsH s.heap h ∧ Walks prog w A I fp wr xs.length P St ∧ St 0 h ∧ (∀ b ∈ wr, s.heap.get? b = none) ∧
    (∀ i h, St i h → ∀ b ∈ wr, ∃ o vs, h.get? b = some o ∧ o.data = .fields vs) ∧ (∀ b ∈ fp, ∃ o, h.get? b = some o) ∧ (∀ b ∈ fp, b ∉ wr → (∃ n, src = some n ∧ α[n]? = some b) ∨ ∃ items, IsTup h b items) ∧ (∀ i v, i < xs.length → P i v → ∃ d, xs[i]? = some d ∧ Rep G α h v d)

section
variable {prog : Program} {w : World} {A : Around} {E : Value → Shared → Prop} {s : Shared} {G : GV} {α : List Addr} {H : Hp}

theorem iter_seq {v : Value} {d : V} {xs : List V} (hA : AOk prog A) (R : HR G α s.heap H) (r : Rep G α s.heap v d) (e : items H d = some xs) :
    wpAny (model prog w) A (pyIter v) (ItOk prog w A G s α xs (srcOf d)) E s := by
  obtain ⟨a, vs, rfl, rs, z, z', hk⟩ := seqOf R r e
  rcases hk with ⟨ht, ys, rfl⟩ | ⟨hl, n, rfl⟩
  · refine wpAny_pyIter_tuple ht ?_
    have hlt : a < s.heap.objs.size := let ⟨o, ho, _⟩ := ht; Heap.lt_size ho
    have hne : a ≠ s.heap.objs.size := Nat.ne_of_lt hlt
    have k := keeps_push s.heap { cls := .type "tuple_iterator", data := .fields #[.ref a, .int 0 0] }
    have ht' := ht.keeps k
    have W := Walks.tuple (prog := prog) (w := w) hA.handled s.heap.objs.size a hne vs.toArray
    have hsz : vs.toArray.size = xs.length := by rw [List.size_toArray, rs.len]
    rw [hsz] at W
    refine ⟨_, _, _, _, _, _, s.toks, rfl, rfl, k, W, ⟨⟨_, Heap.get?_push_size _ rfl, rfl, rfl⟩, ht'⟩, ?_, ?_, ?_, ?_, ?_⟩
    · intro b hb; simp at hb; subst hb; exact size_none _
    · rintro i h ⟨⟨o, ho, _, hd⟩, _⟩ b hb; simp at hb; subst hb; exact ⟨o, _, ho, hd⟩
    · intro b hb; simp at hb
      rcases hb with rfl | rfl
      · exact ⟨_, Heap.get?_push_size _ rfl⟩
      · obtain ⟨o, ho, _⟩ := ht'; exact ⟨o, ho⟩
    · intro b hb hw; simp at hb hw
      rcases hb with rfl | rfl
      · exact absurd rfl hw
      · exact .inr ⟨_, ht'⟩
    · intro i v _ hv
      obtain ⟨d, hd, r⟩ := rs.get' (by simpa using hv)
      exact ⟨d, hd, r.mono (fun _ _ e => e) (.of k)⟩
  · refine wpAny_pyIter_list hl ?_
    have hlt : a < s.heap.objs.size := let ⟨o, ho, _⟩ := hl; Heap.lt_size ho
    have hne : a ≠ s.heap.objs.size := Nat.ne_of_lt hlt
    have k := keeps_push s.heap { cls := .type "list_iterator", data := .fields #[.ref a, .int 0 0] }
    have hl' := isList_keeps hl k
    have W := Walks.list (prog := prog) (w := w) hA.handled s.heap.objs.size a hne vs.toArray
    have hsz : vs.toArray.size = xs.length := by rw [List.size_toArray, rs.len]
    rw [hsz] at W
    refine ⟨_, _, _, _, _, _, s.toks, rfl, rfl, k, W, ⟨⟨_, Heap.get?_push_size _ rfl, rfl, rfl⟩, hl'⟩, ?_, ?_, ?_, ?_, ?_⟩
    · intro b hb; simp at hb; subst hb; exact size_none _
    · rintro i h ⟨⟨o, ho, _, hd⟩, _⟩ b hb; simp at hb; subst hb; exact ⟨o, _, ho, hd⟩
    · intro b hb; simp at hb
      rcases hb with rfl | rfl
      · exact ⟨_, Heap.get?_push_size _ rfl⟩
      · obtain ⟨o, ho, _⟩ := hl'; exact ⟨o, ho⟩
    · intro b hb hw; simp at hb hw
      rcases hb with rfl | rfl
      · exact absurd rfl hw
      · cases r with
        | lst ha => exact .inl ⟨n, rfl, ha⟩
    · intro i v _ hv
      obtain ⟨d, hd, r⟩ := rs.get' (by simpa using hv)
      exact ⟨d, hd, r.mono (fun _ _ e => e) (.of k)⟩

theorem rangeSize_nonneg {a b c : Int} (hc : c = 1 ∨ c = -1 ∨ c = 2) : 0 ≤ Builtin.Range.rangeSize a b c := by
  unfold Builtin.Range.rangeSize
  rcases hc with rfl | rfl | rfl <;> simp <;> (split <;> omega)
theorem rangeSize_le {a b c : Int} (hc : c = 1 ∨ c = -1 ∨ c = 2) (ha : smallI a) (hb : smallI b) : Builtin.Range.rangeSize a b c ≤ 2 ^ 41 := by
  unfold Builtin.Range.rangeSize
  obtain ⟨a1, a2⟩ := ha
  obtain ⟨b1, b2⟩ := hb
  rcases hc with rfl | rfl | rfl <;> simp <;> (split <;> omega)

theorem iter_range {a b c : Int} {t u v : Tok} {r : Addr} (hA : AOk prog A) (hr : IsRange s.heap r a b c t u v) (ha : smallI a) (hb : smallI b) (hc : c = 1 ∨ c = -1 ∨ c = 2) :
    wpAny (model prog w) A (pyIter (.ref r)) (ItOk prog w A G s α ((rangeL a b c).map V.int) none) E s := by
  have hsm : Builtin.Range.small a b c = true := by
    have h1 := rangeSize_nonneg (a := a) (b := b) hc
    have h2 := rangeSize_le hc ha hb
    obtain ⟨a1, a2⟩ := ha
    obtain ⟨b1, b2⟩ := hb
    have f : ∀ x : Int, -(2 ^ 63) ≤ x → x < 2 ^ 63 → Builtin.Range.rangeFitsLong x = true := fun x p q => by
      unfold Builtin.Range.rangeFitsLong
      rw [Bool.and_eq_true]; exact ⟨decide_eq_true p, decide_eq_true q⟩
    unfold Builtin.Range.small
    rw [f a (by (clear hA hr hc h1 h2 b1 b2 f; omega)) (by (clear hA hr hc h1 h2 b1 b2 f; omega)), f b (by (clear hA hr hc h1 h2 a1 a2 f; omega)) (by (clear hA hr hc h1 h2 a1 a2 f; omega)), f c (by (clear hA hr h1 h2 a1 a2 b1 b2 f; omega)) (by (clear hA hr h1 h2 a1 a2 b1 b2 f; omega)), f _ (by (clear hA hr hc a1 a2 b1 b2 f; omega)) (by (clear hA hr hc a1 a2 b1 b2 f; omega))]
    rcases hc with rfl | rfl | rfl
    · rw [if_pos (by decide), f _ (by (clear hA a1 a2 f hr h1 h2; omega)) (by (clear hA a1 a2 f hr h1 h2; omega))]; simp
    · rw [if_neg (by decide), f _ (by (clear hA a1 a2 f hr h1 h2; omega)) (by (clear hA a1 a2 f hr h1 h2; omega))]; simp
    · rw [if_pos (by decide), f _ (by (clear hA a1 a2 f hr h1 h2; omega)) (by (clear hA a1 a2 f hr h1 h2; omega))]; simp
  refine wpAny_pyIter_range hr hsm ?_
  have k := keeps_push s.heap { cls := .type "range_iterator", data := .fields #[rawInt a, rawInt (Builtin.Range.rangeSize a b c), rawInt c] }
  have hn : 0 ≤ Builtin.Range.rangeSize a b c := rangeSize_nonneg hc
  have hlen : ((rangeL a b c).map V.int).length = (Builtin.Range.rangeSize a b c).toNat := by simp [rangeL]
  have W := Walks.range (prog := prog) (w := w) hA.handled s.heap.objs.size a c (Builtin.Range.rangeSize a b c).toNat
  rw [← hlen] at W
  refine ⟨_, _, _, _, _, _, s.toks, rfl, rfl, k, W, ?_, ?_, ?_, ?_, ?_, ?_⟩
  · show IsRangeIter _ _ _ _ _
    rw [hlen]
    have e1 : a + ((0 : Nat) : Int) * c = a := by simp
    have e2 : (((Builtin.Range.rangeSize a b c).toNat : Nat) : Int) - ((0 : Nat) : Int) = Builtin.Range.rangeSize a b c := by (clear hA hr ha hb hc hsm k W e1; omega)
    rw [e1, e2]
    exact Heap.get?_push_size _ rfl
  · intro b hb; simp at hb; subst hb; exact size_none _
  · intro i h hi b hb; simp at hb; subst hb; exact ⟨_, _, hi, rfl⟩
  · intro b hb; simp at hb; subst hb; exact ⟨_, Heap.get?_push_size _ rfl⟩
  · intro b hb hw; exact absurd hb hw
  · rintro i v hi ⟨t, rfl⟩
    rw [hlen] at hi
    refine ⟨.int (a + i * c), ?_, .int _ _⟩
    simp [rangeL, List.getElem?_range hi, Int.mul_comm]

end

/-- the state from which a loop is walked -/
noncomputable def ItPost (X : SX) (s : Shared) (α : List Addr) (H : Hp) (Q : List V → Option Nat → Hp → Prop) (it : Value) (s₂ : Shared) : Prop :=
  ∃ h₁ tk₁ β K xs src, KeepsH s.heap h₁ ∧ (∀ b ∈ β, s.heap.get? b = none) ∧ HR X.G (α ++ β) h₁ (H ++ K) ∧ ItOk X.prog X.w X.A X.G { s with heap := h₁, toks := tk₁ } (α ++ β) xs src it s₂ ∧ Q xs src (H ++ K)

noncomputable def SI (X : SX) (c : MC) (pi : PI) (e : Expr) : Prop :=
  ∀ (env : Env) (s : Shared) (α : List Addr) (ρ : Loc) (H : Hp) (Q : List V → Option Nat → Hp → Prop) (E : Value → Shared → Prop), EnvOk c env → GF X.G c.g X.DT s.heap → HR X.G α s.heap H → FI X.G c env α s.heap ρ →
    wpI X.sub X.Φ pi ρ H Q → wpAny (model X.prog X.w) X.A (eval e env) (fun xv s₁ => wpAny (model X.prog X.w) X.A (pyIter xv) (ItPost X s α H Q) E s₁) E s

section
variable {X : SX} {c : MC}
theorem si_seq {pe : PE} {e : Expr} (hA : AOk X.prog X.A) (h : SE X c pe e) : SI X c (.seq pe) e := fun env s α ρ H Q E O T R F q => by
  simp only [qI1, qI2, qI3] at q
  refine wpAny_mono (h env s α ρ H _ E O T R F q) (fun v s₁ p => ?_) fun _ _ x => x
  obtain ⟨h₁, tk₁, β, K, d, rfl, k, f, R', r, q⟩ := p
  obtain ⟨xs, e, q⟩ := ifSome.get q
  exact wpAny_mono (iter_seq (s := { s with heap := h₁, toks := tk₁ }) hA R' r e) (fun it s₂ p => ⟨h₁, tk₁, β, K, xs, _, k, f, R', p, q⟩) fun _ _ x => x

theorem si_rng {ps : PEs} {e : Expr} {es : List Expr} {p pos : Pos} (hA : AOk X.prog X.A) (hx : c.isGlob "range" = true) (hn : noStar (e :: es) = true) (h : SEs X c ps (e :: es)) : SI X c (.rng ps) (.Call (.Name "range" p) (e :: es) [] pos) := fun env s α ρ H Q E O T R F q => by
  simp only [qI1, qI2, qI3] at q
  simp only [noStar, List.all_cons, Bool.and_eq_true] at hn
  refine Call_ (load_b bootRange (by simp [bltNames]) hx O T (callWith_type1 (wpAny_mono (h env s α ρ H _ E pos O T R F q) (fun vs s₁ p => ?_) fun _ _ y => y) (starEach_cons hn.1) (star_any hn.2)))
  obtain ⟨h₁, tk₁, β, K, ds, rfl, k, f, R', r, a, b, cc, hr, ha, hb, hc, q⟩ := p
  obtain ⟨r, _⟩ := r
  have fin : ∀ (o : Obj) (tk : Nat) (t u v : Tok), o = { cls := .type "range", data := .fields #[.int a t, .int b u, .int cc v] } →
      wpAny (model X.prog X.w) X.A (pyIter (.ref h₁.objs.size)) (ItPost X s α H Q) E { s with heap := h₁.push o, toks := tk } := fun o tk t u v ho => by
    subst ho
    refine wpAny_mono (iter_range (s := { s with heap := h₁.push _, toks := tk }) (G := X.G) (α := α ++ β) hA (IsRange.new h₁ a b cc t u v) ha hb hc) (fun it s₂ p => ?_) fun _ _ x => x
    refine ⟨_, tk, β, K, _, _, KeepsH.trans k (keeps_push _ _), f, R'.keeps (keeps_push _ _), p, q⟩
  unfold rngOf at hr
  split at hr
  · cases hr
    obtain ⟨v1, rfl, x1⟩ := r.inv1
    cases x1
    exact call_range_1 (s := { s with heap := h₁, toks := tk₁ }) (fin _ _ _ _ _ rfl)
  · cases hr
    obtain ⟨v1, v2, rfl, x1, x2⟩ := r.inv2
    cases x1; cases x2
    exact call_range_2 (s := { s with heap := h₁, toks := tk₁ }) (fin _ _ _ _ _ rfl)
  · cases hr
    obtain ⟨v1, v2, v3, rfl, x1, x2, x3⟩ := r.inv3
    cases x1; cases x2; cases x3
    exact call_range_3 (s := { s with heap := h₁, toks := tk₁ }) (by (clear hA hx h O T R F hn k f R' ha hb q fin r; omega)) (fin _ _ _ _ _ rfl) (Or.inl (PyProof.noPylong_small (by (clear hA hx h O T R F hn k f R' ha hb q fin r; omega))))
  · cases hr
end
end Mine

set_option autoImplicit false
set_option linter.unusedSimpArgs false
set_option linter.unusedVariables false
namespace Mine
open PySem PyProof.Rows PySem.Calls

/-! what is no list and no tuple may turn -/
noncomputable def KeepsLT (h h' : Heap) : Prop := ∀ a o items n, h.get? a = some o → o.data = .seq items n → h'.get? a = some o
theorem KeepsLT.trans {h h' h'' : Heap} (a : KeepsLT h h') (b : KeepsLT h' h'') : KeepsLT h h'' := fun x o _ _ e d => b x o _ _ (a x o _ _ e d) d
theorem KeepsLT.tup {h h' : Heap} (k : KeepsLT h h') : KeepsT h h' := fun a items ⟨o, ho, hc, n, hd⟩ => ⟨o, k a o _ _ ho hd, hc, n, hd⟩
theorem KeepsLT.list {h h' : Heap} (k : KeepsLT h h') {a : Addr} {items : Array Value} (x : h.IsList a items) : h'.IsList a items := let ⟨o, ho, hc, n, hd⟩ := x; ⟨o, k a o _ _ ho hd, hc, n, hd⟩
theorem KeepsLT.plain {h h' : Heap} (k : KeepsLT h h') {a : Addr} {items : Array Value} (x : h.PlainList a items) : h'.PlainList a items := let ⟨n, e⟩ := x; ⟨n, k a _ _ _ e rfl⟩
theorem HR.lt' {G : GV} {α : List Addr} {h h' : Heap} {H : Hp} (r : HR G α h H) (k : KeepsLT h h') : HR G α h' H :=
  ⟨r.len, r.nodup, r.pos, fun n a xs e1 e2 => let ⟨vs, l, q, z, p⟩ := r.lst n a xs e1 e2; ⟨vs, k.list l, q.mono (fun _ _ e => e) k.tup, z, fun hn => k.plain (p hn)⟩⟩
theorem KeepsLT.sameBut {h h' : Heap} {b : Addr} (hs : Heap.SameBut b h h') (hb : ∀ o, h.get? b = some o → ∀ items n, o.data ≠ .seq items n) : KeepsLT h h' := fun a o items n e d => by
  by_cases hab : a = b
  · subst hab; exact absurd d (hb o e items n)
  · exact hs.extBut a o hab e
theorem ns_notSeq {h : Heap} {b : Addr} {m : Str → Option Value} (hn : h.Ns b m) : ∀ o, h.get? b = some o → ∀ items n, o.data ≠ .seq items n := fun o e items n d => by
  obtain ⟨o', es, ep, ho, hd, _⟩ := hn
  rw [ho] at e; cases e; rw [hd] at d; cases d

/-! the names of a comprehension's scope -/
theorem lookup_relabel {env : Env} : ∀ {names : List (Str × NameKind)} {x : Str} {k : NameKind}, names.lookup x = some k →
    (names.map fun (n, k) => if (k == NameKind.free && env.scope.kind == .function && env.kindOf n == some .cell) then (n, NameKind.cell) else (n, k)).lookup x =
      some (if (k == NameKind.free && env.scope.kind == .function && env.kindOf x == some .cell) then NameKind.cell else k)
  | [], _, _, h => by simp at h
  | (n, k') :: r, x, k, h => by
    have ih := @lookup_relabel env r x k
    show List.lookup x ((if (k' == NameKind.free && env.scope.kind == .function && env.kindOf n == some .cell) = true then (n, NameKind.cell) else (n, k')) :: _) = _
    cases hx : x == n with
    | true =>
      have hx' := beq_iff_eq.mp hx
      subst hx'
      simp only [List.lookup_cons, beq_self_eq_true] at h
      cases h
      by_cases hc : (k' == NameKind.free && env.scope.kind == .function && env.kindOf x == some .cell) = true
      · rw [if_pos hc, if_pos hc, List.lookup_cons, beq_self_eq_true]
      · rw [if_neg hc, if_neg hc, List.lookup_cons, beq_self_eq_true]
    | false =>
      simp only [List.lookup_cons, hx] at h
      by_cases hc : (k' == NameKind.free && env.scope.kind == .function && env.kindOf n == some .cell) = true
      · rw [if_pos hc]; simp only [List.lookup_cons, hx]; exact ih h
      · rw [if_neg hc]; simp only [List.lookup_cons, hx]; exact ih h
theorem lookup_relabel_none {env : Env} : ∀ {names : List (Str × NameKind)} {x : Str}, names.lookup x = none →
    (names.map fun (n, k) => if (k == NameKind.free && env.scope.kind == .function && env.kindOf n == some .cell) then (n, NameKind.cell) else (n, k)).lookup x = none
  | [], _, h => by simp
  | (n, k') :: r, x, h => by
    have ih := @lookup_relabel_none env r x
    show List.lookup x ((if (k' == NameKind.free && env.scope.kind == .function && env.kindOf n == some .cell) = true then (n, NameKind.cell) else (n, k')) :: _) = _
    cases hx : x == n with
    | true => simp [List.lookup_cons, hx] at h
    | false =>
      simp only [List.lookup_cons, hx] at h
      by_cases hc : (k' == NameKind.free && env.scope.kind == .function && env.kindOf n == some .cell) = true
      · rw [if_pos hc]; simp only [List.lookup_cons, hx]; exact ih h
      · rw [if_neg hc]; simp only [List.lookup_cons, hx]; exact ih h

noncomputable def closL (env : Env) : List (Str × NameKind) → List (Str × Addr) → List (Str × Addr)
  | [], acc => acc
  | (n, k) :: r, acc => closL env r (if k == .free then (n, (env.cells.lookup n).getD 0) :: acc else acc)
theorem closL_eq (env : Env) : ∀ (names : List (Str × NameKind)) (acc : List (Str × Addr)), (∀ x ∈ names, x.2 = .free → ∃ c, env.cells.lookup x.1 = some c) →
    (forIn names acc fun x (r : List (Str × Addr)) => (if x.2 == .free then do let c ← cellOf env x.1; pure (ForInStep.yield ((x.1, c) :: r)) else pure (ForInStep.yield r) : Sem (ForInStep (List (Str × Addr))))) = pure (closL env names acc)
  | [], acc, _ => rfl
  | (n, k) :: r, acc, h => by
    rw [List.forIn_cons]
    by_cases hk : k = .free
    · subst hk
      obtain ⟨c, hc⟩ := h _ List.mem_cons_self rfl
      dsimp only at hc
      have e : cellOf env n = pure c := by unfold cellOf; rw [hc]
      simp only [beq_self_eq_true, if_true, e, pure_bind, closL, hc, Option.getD_some]
      exact closL_eq env r _ fun x hx => h x (List.mem_cons_of_mem _ hx)
    · have hb : (k == NameKind.free) = false := by simpa using hk
      simp only [hb, Bool.false_eq_true, if_false, pure_bind, closL]
      exact closL_eq env r _ fun x hx => h x (List.mem_cons_of_mem _ hx)
theorem closureFor_closL {scope : Scope} {env : Env} (h : ∀ x ∈ scope.names, x.2 = .free → ∃ c, env.cells.lookup x.1 = some c) : closureFor scope env = pure (closL env scope.names []) := by
  have e := closL_eq env scope.names [] h
  unfold closureFor
  first
  | exact e
  | (simp only [bind_pure]; exact e)
theorem closL_look (env : Env) (n : Str) : ∀ (names : List (Str × NameKind)) (acc : List (Str × Addr)), ((n, NameKind.free) ∈ names ∨ acc.lookup n = some ((env.cells.lookup n).getD 0)) → (closL env names acc).lookup n = some ((env.cells.lookup n).getD 0)
  | [], acc, h => by
    rcases h with h | h
    · simp at h
    · exact h
  | (m, k) :: r, acc, h => by
    unfold closL
    refine closL_look env n r _ ?_
    by_cases hk : k = .free
    · subst hk
      simp only [beq_self_eq_true, if_true]
      by_cases hm : n = m
      · subst hm; right; simp [List.lookup_cons]
      · rcases h with h | h
        · left
          rcases List.mem_cons.mp h with h | h
          · cases h; exact absurd rfl hm
          · exact h
        · right
          have : (n == m) = false := by simpa using hm
          simp [List.lookup_cons, this, h]
    · have hb : (k == NameKind.free) = false := by simpa using hk
      simp only [hb, Bool.false_eq_true, if_false]
      rcases h with h | h
      · left
        rcases List.mem_cons.mp h with h | h
        · cases h; exact absurd rfl hk
        · exact h
      · right; exact h
theorem mem_of_lookupN {names : List (Str × NameKind)} {x : Str} {k : NameKind} (h : names.lookup x = some k) : (x, k) ∈ names := by
  induction names with
  | nil => simp at h
  | cons p r ih =>
    obtain ⟨n, k'⟩ := p
    rw [List.lookup_cons] at h
    cases hx : x == n with
    | true => rw [hx] at h; cases h; rw [beq_iff_eq.mp hx]; exact List.mem_cons_self
    | false => rw [hx] at h; exact List.mem_cons_of_mem _ (ih h)

/-- the variables of the comprehension's own scope -/
structure CompOk (c : MC) (sc : Scope) (x : Str) (cs : List Str) (caps : List Nat) : Prop where
  kind : sc.kind = .function
  loc : ∀ p ∈ sc.names, p.2 = .local → p.1 = Str.ofString ".0" ∨ p.1 = x
  fre : ∀ p ∈ sc.names, p.2 = .free → p.1 ∈ cs
  nocell : ∀ p ∈ sc.names, p.2 ≠ .cell
  tx : sc.names.lookup x = some .local
  cap : ∀ n ∈ cs, sc.names.lookup n = some .free
  out : ∀ n ∈ cs, c.scope.names.lookup n = some NameKind.cell ∨ c.scope.names.lookup n = some NameKind.free
  names : ∀ y ∈ sc.names, y.2 = .local → sc.names.lookup y.1 = some .local
  cp : ∀ (i j : Nat), caps[i]? = some j → ∃ n, cs[i]? = some n ∧ c.names[j]? = some n

theorem CompOk.outer {c : MC} {sc : Scope} {x : Str} {cs : List Str} {caps : List Nat} {env : Env} (K : CompOk c sc x cs caps) (O : EnvOk c env) {n : Str} (hn : n ∈ cs) : (env.kindOf n = some .cell ∨ env.kindOf n = some .free) ∧ ∃ a, env.cells.lookup n = some a := by
  have h : env.kindOf n = some .cell ∨ env.kindOf n = some .free := by
    rcases K.out n hn with h | h
    · exact .inl (O.cel n h)
    · exact O.fre n h
  exact ⟨h, O.cells n h⟩
theorem CompOk.clos {c : MC} {sc : Scope} {x : Str} {cs : List Str} {caps : List Nat} {env : Env} (K : CompOk c sc x cs caps) (O : EnvOk c env) : closureFor sc env = pure (closL env sc.names []) :=
  closureFor_closL fun p hp hf => (K.outer O (K.fre p hp hf)).2
theorem CompOk.closLook {c : MC} {sc : Scope} {x : Str} {cs : List Str} {caps : List Nat} {env : Env} (K : CompOk c sc x cs caps) (O : EnvOk c env) {n : Str} (hn : n ∈ cs) {a : Addr} (ha : env.cells.lookup n = some a) : (closL env sc.names []).lookup n = some a := by
  rw [closL_look env n sc.names [] (.inl (mem_of_lookupN (K.cap n hn))), ha]; rfl

theorem CompOk.env {c : MC} {sc : Scope} {x : Str} {cs : List Str} {caps : List Nat} {env : Env} (K : CompOk c sc x cs caps) (O : EnvOk c env) (C : Addr) : EnvOk ⟨c.g, sc, x :: cs⟩ (compEnvC sc (closL env sc.names []) C env) where
  kind := K.kind
  globals := O.globals
  builtins := O.builtins
  loc := fun y h => lookup_relabel (env := env) h
  glob := fun y h => lookup_relabel (env := env) h
  cel := fun y h => absurd rfl (K.nocell _ (mem_of_lookupN h))
  fre := fun y h => by
    have := lookup_relabel (env := env) h
    by_cases hc : ((NameKind.free == NameKind.free && env.scope.kind == .function && env.kindOf y == some .cell)) = true
    · rw [if_pos hc] at this; exact .inl this
    · rw [if_neg hc] at this; exact .inr this
  cells := fun y h => by
    have hy : y ∈ cs := by
      cases hl : sc.names.lookup y with
      | none =>
        have := lookup_relabel_none (env := env) hl
        have h' : (compEnvC sc (closL env sc.names []) C env).kindOf y = none := this
        rw [h'] at h; rcases h with h | h <;> cases h
      | some k =>
        have := lookup_relabel (env := env) hl
        have h' : (compEnvC sc (closL env sc.names []) C env).kindOf y = _ := this
        rw [h'] at h
        have hm := mem_of_lookupN hl
        cases k with
        | free => exact K.fre _ hm rfl
        | cell => exact absurd rfl (K.nocell _ hm)
        | _ => simp at h
    obtain ⟨a, ha⟩ := (K.outer O hy).2
    exact ⟨a, K.closLook O hy ha⟩

theorem lget_map {ρ : Loc} : ∀ {caps : List Nat} {i : Nat} {d : V}, lget (caps.map (lget ρ)) i = some d → ∃ j, caps[i]? = some j ∧ lget ρ j = some d
  | [], i, d, h => by simp [lget] at h
  | j :: r, 0, d, h => ⟨j, rfl, h⟩
  | j :: r, i + 1, d, h => by
    obtain ⟨k, a, b⟩ := lget_map (caps := r) h
    exact ⟨k, by simpa using a, b⟩

theorem CompOk.vars {G : GV} {c : MC} {sc : Scope} {x : Str} {cs : List Str} {caps : List Nat} {env : Env} {α : List Addr} {h h' : Heap} {ρ : Loc} {β : List Addr} {C : Addr} {m : Str → Option Value} {v : Value} {d : V}
    (K : CompOk c sc x cs caps) (O : EnvOk c env) (F : FI G c env α h ρ) (k : KeepsH h h') (hn : h'.Ns C m) (hm : m x = some v) (r : Rep G (α ++ β) h' v d) :
    FI G ⟨c.g, sc, x :: cs⟩ (compEnvC sc (closL env sc.names []) C env) (α ++ β) h' (some d :: caps.map (lget ρ)) := by
  intro i y e hy he
  cases i with
  | zero =>
    simp at hy; subst hy
    simp [lget] at he; subst he
    exact ⟨v, .inl ⟨(K.env O C).loc x K.tx, m, hn, hm⟩, r⟩
  | succ i =>
    simp at hy
    obtain ⟨j, hj, hd⟩ := lget_map he
    obtain ⟨n, hn1, hn2⟩ := K.cp i j hj
    have hyn : n = y := by rw [hn1] at hy; exact Option.some.inj hy
    rw [hyn] at hn1 hn2
    have hmem : y ∈ cs := List.mem_of_getElem? hn1
    obtain ⟨u, hu, ru⟩ := F j y e hn2 hd
    refine ⟨u, ?_, ru.up k⟩
    obtain ⟨hk, a, ha⟩ := K.outer O hmem
    rcases hu with ⟨hl, _⟩ | ⟨_, cc, hc, hv⟩
    · rcases hk with hk | hk <;> rw [hk] at hl <;> cases hl
    · rw [ha] at hc; cases hc
      exact .inr ⟨(K.env O C).fre y (K.cap y hmem), a, K.closLook O hmem ha, isCell_keeps hv k⟩
end Mine

set_option autoImplicit false
set_option linter.unusedSimpArgs false
set_option linter.unusedVariables false
namespace Mine
open PySem PyProof.Rows PySem.Calls

section
variable {X : SX} {c : MC}

noncomputable def SIfs (X : SX) (c : MC) (po : PO) (ifs : List Expr) : Prop :=
  match po with
  | .no => ifs = []
  | .some pe => ∃ e, ifs = [e] ∧ SC X c pe e

theorem ifs_sound {po : PO} {ifs : List Expr} (h : SIfs X c po ifs) (env : Env) (s : Shared) (α : List Addr) (ρ : Loc) (H : Hp) (Q : Bool → Hp → Prop) (E : Value → Shared → Prop) (O : EnvOk c env) (T : GF X.G c.g X.DT s.heap) (R : HR X.G α s.heap H)
    (F : FI X.G c env α s.heap ρ) (q : wpO X.sub X.Φ po ρ H fun c H3 => ifSome (match c with | some c => truthV H3 c | none => some true) fun t => Q t H3) :
    wpAny (model X.prog X.w) X.A (forIn ifs true fun c r => if r = true then do let ok ← isTrue c env (eval c env); pure (ForInStep.yield ok) else pure (ForInStep.yield r)) (Post X.G (fun _ _ a b => a = b) s α H Q) E s := by
  cases po with
  | no =>
    cases h
    simp only [qO1, qO2] at q
    exact wpAny_pure (Post.same' (d := true) R rfl q)
  | some pe =>
    obtain ⟨e, rfl, h⟩ := h
    simp only [qO1, qO2] at q
    rw [List.forIn_cons]
    simp only [if_true]
    refine wpAny_bind (wpAny_bind (wpAny_mono (h env s α ρ H Q E O T R F q) (fun b s₁ p => wpAny_pure ?_) fun _ _ x => x))
    simp only [List.forIn_nil]
    exact wpAny_pure p

/-- the state behind a comprehension's loop -/
noncomputable def CompEnd (X : SX) (s : Shared) (α : List Addr) (H : Hp) (Q : List V → Hp → Prop) (D C : Addr) (s' : Shared) : Prop :=
  ∃ h' tk β K ys ds m, s' = { s with heap := h', toks := tk } ∧ KeepsH s.heap h' ∧ (∀ b ∈ β, s.heap.get? b = none) ∧ HR X.G (α ++ β) h' (H ++ K) ∧ s.heap.get? D = none ∧ s.heap.get? C = none ∧ D ≠ C ∧ D ∉ α ++ β ∧
    h'.PlainList D ys.toArray ∧ Reps X.G (α ++ β) h' ys ds ∧ ds.length ≤ lim ∧ h'.Ns C m ∧ Q ds (H ++ K)

theorem comp_core {elt : Expr} {iter : Expr} {x : Str} {px pos : Pos} {ifs : List Expr} {sc : Scope} {cs : List Str} {pelt : PE} {caps : List Nat} {cond : PO}
    (K : CompOk c sc x cs caps) (h1 : SE X ⟨c.g, sc, x :: cs⟩ pelt elt) (h2 : SIfs X ⟨c.g, sc, x :: cs⟩ cond ifs)
    (env : Env) (s : Shared) (α : List Addr) (ρ : Loc) (H : Hp) (Q : List V → Hp → Prop) (E : Value → Shared → Prop) (O : EnvOk c env) (T : GF X.G c.g X.DT s.heap) (F : FI X.G c env α s.heap ρ)
    (it : Value) (s₂ : Shared)
    (hit : ItPost X s α H (fun xs _ H1 => xs.length ≤ lim ∧ compGo (fun x H2 k => ifSome (bindT 1 x) fun ρt =>
      wpO X.sub X.Φ cond (ρt ++ caps.map (lget ρ)) H2 fun c H3 => ifSome (match c with | some c => truthV H3 c | none => some true) fun t =>
        if t then wpE X.sub X.Φ pelt (ρt ++ caps.map (lget ρ)) H3 fun y H4 => k (some y) H4 else k none H3) xs H1 Q) it s₂)
    (RR : Value → Addr → Result → Shared → Prop) (hRR : ∀ D C s', CompEnd X s α H Q D C s' → RR (.ref D) C (.ok .next) s') :
    wpAny (model X.prog X.w) X.A (newList []) (fun acc s₃ => wpAny (model X.prog X.w) X.A (newFunctionEnv sc env.globals (closL env sc.names []) [] env.qual none .none (some env)) (fun cenv s₄ =>
      codeAny (model X.prog X.w) X.A (.compStart (.ListComp elt [⟨.Name x px, iter, ifs, 0⟩] sc pos) 0 it acc { cenv with scope := relabel sc env }) (RR acc cenv.locals) s₄) E s₃) E s₂ := by
  obtain ⟨h₁, tk₁, β₁, K₁, xs, src, k₁, f₁, R₁, ⟨I, fp, wr, P, St, h₂, tk₂, rfl, rfl, k₂, W, hst, hwr, hfield, hfp, hsrc, hP⟩, hlen, hgo⟩ := hit
  dsimp only at k₂ hwr
  refine wpAny_newObj_type (wpAny_newFunctionEnv K.nocell (by intro y hy; simp at hy) (fun h₃ hns₃ hsb₃ => ?_) K.kind)
  dsimp only at hns₃ hsb₃ ⊢
  generalize hH2 : h₂.push { cls := .type "list", dict := none, data := .seq ([] : List Value).toArray } = H2 at hns₃ hsb₃ ⊢
  have hC : H2.objs.size = h₂.objs.size + 1 := by rw [← hH2, Heap.size_push]
  have hDC : h₂.objs.size ≠ H2.objs.size := by rw [hC]; exact Nat.ne_of_lt (Nat.lt_succ_self _)
  generalize hCC : H2.objs.size = C at hns₃ hsb₃ hDC hC ⊢
  generalize hDD : h₂.objs.size = D at hDC hC ⊢
  have deadD : h₂.get? D = none := by rw [← hDD]; exact size_none _
  have deadC : h₂.get? C = none := by
    cases e : h₂.get? C with
    | none => rfl
    | some o => exact absurd (Heap.lt_size e) (by rw [hDD, hC]; exact Nat.not_lt.mpr (Nat.le_succ _))
  have aliveNe : ∀ b o, h₂.get? b = some o → b ≠ D ∧ b ≠ C := fun b o e => ⟨fun q => (by rw [q, deadD] at e; cases e), fun q => (by rw [q, deadC] at e; cases e)⟩
  have old : KeepsH h₂ h₃ := fun b o e => hsb₃.extBut b o (aliveNe b o e).2 (Heap.get?_push_of_some _ (hH2 ▸ Heap.get?_push_of_some _ e))
  have hacc : h₃.PlainList D ([] : List Value).toArray := ⟨_, hsb₃.extBut _ _ hDC (Heap.get?_push_of_some _ (hH2 ▸ hDD ▸ Heap.get?_push_size _ rfl))⟩
  have hst₃ : St 0 h₃ := W.frame _ _ _ hst fun b _ o e => old b o e
  have hDf : D ∉ fp := fun hm => by obtain ⟨o, e⟩ := hfp _ hm; rw [deadD] at e; cases e
  have hCf : C ∉ fp := fun hm => by obtain ⟨o, e⟩ := hfp _ hm; rw [deadC] at e; cases e
  have hDw : D ∉ wr := fun hm => hDf (W.sub _ hm)
  have hCw : C ∉ wr := fun hm => hCf (W.sub _ hm)
  have deadS : ∀ b, h₁.get? b = none → s.heap.get? b = none := fun b e => by
    cases e' : s.heap.get? b with
    | none => rfl
    | some o => have := k₁ b o e'; rw [e] at this; cases this
  have deadS2 : ∀ b, h₂.get? b = none → s.heap.get? b = none := fun b e => deadS b (by
    cases e' : h₁.get? b with
    | none => rfl
    | some o => have := k₂ b o e'; rw [e] at this; cases this)
  -- whatever keeps h₂ off wr keeps s
  have keepS : ∀ h' : Heap, (∀ b o, b ∉ wr → h₂.get? b = some o → h'.get? b = some o) → KeepsH s.heap h' := fun h' hk b o e =>
    hk b o (fun hm => by have := hwr b hm; rw [k₁ b o e] at this; cases this) (k₂ b o (k₁ b o e))
  have keepT : ∀ h' : Heap, (∀ b o, b ∉ wr → h₂.get? b = some o → h'.get? b = some o) → KeepsT h₂ h' := fun h' hk => by
    refine KeepsLT.tup fun a o items n e d => hk a o (fun hm => ?_) e
    obtain ⟨o', vs, e', d'⟩ := hfield 0 h₂ hst a hm
    rw [e] at e'; cases e'; rw [d] at d'; cases d'
  have D₁ : D ∉ α ++ β₁ := fun hm => by
    obtain ⟨n, hn⟩ := List.mem_iff_getElem?.mp hm
    obtain ⟨ys, hy⟩ := R₁.at hn
    obtain ⟨us, ⟨o, ho, _⟩, _⟩ := R₁.lst n D ys hn hy
    have := k₂ _ _ ho; rw [deadD] at this; cases this
  let step : V → Hp → (Option V → Hp → Prop) → Prop := fun x H2 k => ifSome (bindT 1 x) fun ρt =>
      wpO X.sub X.Φ cond (ρt ++ caps.map (lget ρ)) H2 fun c H3 => ifSome (match c with | some c => truthV H3 c | none => some true) fun t =>
        if t then wpE X.sub X.Φ pelt (ρt ++ caps.map (lget ρ)) H3 fun y H4 => k (some y) H4 else k none H3
  let Inv : Nat → Shared → Prop := fun n s' => ∃ i h' tk γ KK ys ds m, s' = { s with heap := h', toks := tk } ∧ i ≤ xs.length ∧ n = xs.length + 1 - i ∧ St i h' ∧ (∀ b o, b ∉ wr → h₂.get? b = some o → h'.get? b = some o) ∧
    (∀ b ∈ β₁ ++ γ, s.heap.get? b = none) ∧ D ∉ α ++ (β₁ ++ γ) ∧ HR X.G (α ++ (β₁ ++ γ)) h' (H ++ KK) ∧ h'.PlainList D ys.toArray ∧ Reps X.G (α ++ (β₁ ++ γ)) h' ys ds ∧ ds.length ≤ i ∧ h'.Ns C m ∧
    compGo step (xs.drop i) (H ++ KK) (fun r H2 => Q (ds ++ r) H2)
  have loop : ∀ s₃ : Shared, s₃ = { s with heap := h₃, toks := tk₂ + ([] : List (Str × Value)).length } →
      codeAny (model X.prog X.w) X.A (.compLoop (.ListComp elt [⟨.Name x px, iter, ifs, 0⟩] sc pos) 0 (.ref I) (.ref D) (compEnvC sc (closL env sc.names []) C env)) (RR (.ref D) C) s₃ := by
    rintro s₃ rfl
    refine codeAny_compLoop_tests Inv ?_ (xs.length + 1) ⟨0, h₃, _, [], K₁, [], [], _, rfl, Nat.zero_le _, rfl, hst₃, fun b o _ e => old b o e, by simpa using f₁, by simpa using D₁, ?_, hacc, .nil, Nat.le_refl _, hns₃, ?_⟩
    · rintro n s' ⟨i, h', tk, γ, KK, ys, ds, m, rfl, hi, rfl, hsti, hkeep, hfresh, hD', R', hpl, rys, hdl, hns, hgo'⟩
      by_cases hlt : i < xs.length
      · refine W.item i _ _ _ hlt hsti fun v h'' tk' hPv hst'' hk'' => ?_
        have lt1 : KeepsLT h' h'' := fun a o items n e d => hk'' a o (fun hm => by
          obtain ⟨o', vs, e', d'⟩ := hfield i h' hsti a hm
          rw [e] at e'; cases e'; rw [d] at d'; cases d') e
        have hns'' : h''.Ns C m := hns.at' fun o e => hk'' C o hCw e
        refine wpAny_assign_Name (wpAny_storeName_local ((K.env O C).loc x K.tx) hns'' (fun h₄ hns₄ hsb₄ => ?_) (by simp [compEnvC, relabel, K.kind]))
        have lt2 : KeepsLT h'' h₄ := KeepsLT.sameBut hsb₄ (ns_notSeq hns'')
        have hkeep₄ : ∀ b o, b ∉ wr → h₂.get? b = some o → h₄.get? b = some o := fun b o hb e => hsb₄.extBut b o (aliveNe b o e).2 (hk'' b o hb (hkeep b o hb e))
        have st₄ : St (i + 1) h₄ := W.frame _ _ _ hst'' fun b hb o e => hsb₄.extBut b o (fun (q : b = C) => hCf (q ▸ hb)) e
        have R₄ := (R'.lt' lt1).lt' lt2
        have kS := keepS h₄ hkeep₄
        obtain ⟨d, hd, rd⟩ := hP i v hlt hPv
        have rd₄ : Rep X.G (α ++ (β₁ ++ γ)) h₄ v d := by
          have := rd.mono (α' := (α ++ β₁) ++ γ) ext_app (keepT h₄ hkeep₄)
          rwa [List.append_assoc] at this
        have hdrop : xs.drop i = d :: xs.drop (i + 1) := by
          obtain ⟨hl, he⟩ := List.getElem?_eq_some_iff.mp hd
          rw [List.drop_eq_getElem_cons hl, he]
        rw [hdrop] at hgo'
        simp only [compGo] at hgo'
        obtain ⟨ρt, hρ, hgo'⟩ := ifSome.get hgo'
        simp only [bindT, Option.some.injEq] at hρ
        subst hρ
        have FI₄ := K.vars O F kS hns₄ (if_pos rfl) rd₄
        have T₄ : GF X.G c.g X.DT h₄ := T.keeps kS
        refine wpAny_mono (ifs_sound h2 (compEnvC sc (closL env sc.names []) C env) { s with heap := h₄, toks := tk' + 1 } (α ++ (β₁ ++ γ)) _ (H ++ KK) _ _ (K.env O C) T₄ R₄ FI₄ hgo') (fun ok s₅ p => ?_) fun _ _ x => x
        obtain ⟨h₅, tk₅, γ₅, K₅, t, rfl, k₅, f₅, R₅, rfl, q₅⟩ := p
        dsimp only at k₅ f₅
        have hD5 : D ∉ (α ++ (β₁ ++ γ)) ++ γ₅ := fun hm => by
          rcases List.mem_append.mp hm with hm | hm
          · exact hD' hm
          · have := f₅ _ hm
            obtain ⟨nn, hh⟩ := lt2.plain (lt1.plain hpl)
            rw [hh] at this; cases this
        have fr5 : ∀ b ∈ β₁ ++ (γ ++ γ₅), s.heap.get? b = none := fun b hb => by
          rw [← List.append_assoc] at hb
          rcases List.mem_append.mp hb with hb | hb
          · exact hfresh b hb
          · cases e : s.heap.get? b with
            | none => rfl
            | some o => have := kS b o e; rw [f₅ b hb] at this; cases this
        have keep5 : ∀ b o, b ∉ wr → h₂.get? b = some o → h₅.get? b = some o := fun b o hb e => k₅ b o (hkeep₄ b o hb e)
        have ns5 := hns₄.keeps k₅
        have st5 : St (i + 1) h₅ := W.frame _ _ _ st₄ fun b _ o e => k₅ b o e
        have pl5 : h₅.PlainList D ys.toArray := plainList_keeps (lt2.plain (lt1.plain hpl)) k₅
        have rys5 : Reps X.G ((α ++ (β₁ ++ γ)) ++ γ₅) h₅ ys ds := ((rys.mono (fun _ _ e => e) (lt1.trans lt2).tup).up k₅)
        cases ok with
        | false =>
          simp only [Bool.false_eq_true, if_false] at q₅ ⊢
          refine ⟨xs.length + 1 - (i + 1), by (clear K h1 h2 O T F hRR k₁ f₁ R₁ k₂ W hst hwr hfield hfp hsrc hP hlen hgo hH2 hCC hns₃ hsb₃ hDD hDC hC deadD deadC aliveNe old hacc hst₃ hDf hCf hDw hCw deadS deadS2 keepS keepT D₁ hi hsti hkeep hfresh hD' R' hpl rys hdl hns hPv hst'' hk'' lt1 hns'' hns₄ hsb₄ lt2 hkeep₄ st₄ R₄ kS hd rd rd₄ hdrop hgo' FI₄ T₄ k₅ f₅ R₅ hD5 fr5 keep5 ns5 st5 pl5 rys5 q₅; omega), i + 1, h₅, tk₅, γ ++ γ₅, KK ++ K₅, ys, ds, _, rfl, hlt, rfl, st5, keep5, fr5, by simpa using hD5, by simpa using R₅, pl5, by simpa using rys5, by (clear K h1 h2 O T F hRR k₁ f₁ R₁ k₂ W hst hwr hfield hfp hsrc hP hlen hgo hH2 hCC hns₃ hsb₃ hDD hDC hC deadD deadC aliveNe old hacc hst₃ hDf hCf hDw hCw deadS deadS2 keepS keepT D₁ hi hsti hkeep hfresh hD' R' hpl rys hns hlt hPv hst'' hk'' lt1 hns'' hns₄ hsb₄ lt2 hkeep₄ st₄ R₄ kS hd rd rd₄ hdrop hgo' FI₄ T₄ k₅ f₅ R₅ hD5 fr5 keep5 ns5 st5 pl5 rys5 q₅; omega), ns5, ?_⟩
          simpa using q₅
        | true =>
          simp only [if_true] at q₅ ⊢
          refine wpAny_mono (h1 (compEnvC sc (closL env sc.names []) C env) { s with heap := h₅, toks := tk₅ } ((α ++ (β₁ ++ γ)) ++ γ₅) _ ((H ++ KK) ++ K₅) _ _ (K.env O C) (T₄.keeps k₅) R₅ (FI₄.up k₅) q₅) (fun y s₆ p => ?_) fun _ _ x => x
          obtain ⟨h₆, tk₆, γ₆, K₆, e, rfl, k₆, f₆, R₆, r₆, q₆⟩ := p
          dsimp only at k₆ f₆
          have pl6 := plainList_keeps pl5 k₆
          have hlen6 : ys.length ≤ lim := by rw [rys5.len]; (clear K h1 h2 O T F hRR k₁ f₁ R₁ k₂ W hst hwr hfield hfp hsrc hP hgo hH2 hCC hns₃ hsb₃ hDD hDC hC deadD deadC aliveNe old hacc hst₃ hDf hCf hDw hCw deadS deadS2 keepS keepT D₁ hi hsti hkeep hfresh hD' R' hpl rys hns hPv hst'' hk'' lt1 hns'' hns₄ hsb₄ lt2 hkeep₄ st₄ R₄ kS hd rd rd₄ hdrop hgo' FI₄ T₄ k₅ f₅ R₅ hD5 fr5 keep5 ns5 st5 pl5 rys5 q₅ k₆ f₆ R₆ r₆ q₆ pl6; omega)
          refine wpAny_list_append_plain (s := { s with heap := h₆, toks := tk₆ }) pl6 (fun h₇ pl7 hsb₇ => ?_) (by simp; have := lim_le; (clear K h1 h2 O T F hRR k₁ f₁ R₁ k₂ W hst hwr hfield hfp hsrc hP hlen hgo hH2 hCC hns₃ hsb₃ hDD hDC hC deadD deadC aliveNe old hacc hst₃ hDf hCf hDw hCw deadS deadS2 keepS keepT D₁ hi hsti hkeep hfresh hD' R' hpl rys hdl hns hlt hPv hst'' hk'' lt1 hns'' hns₄ hsb₄ lt2 hkeep₄ st₄ R₄ kS hd rd rd₄ hdrop hgo' FI₄ T₄ k₅ f₅ R₅ hD5 fr5 keep5 ns5 st5 pl5 rys5 q₅ k₆ f₆ R₆ r₆ q₆ pl6; omega))
          have hD6 : D ∉ ((α ++ (β₁ ++ γ)) ++ γ₅) ++ γ₆ := fun hm => by
            rcases List.mem_append.mp hm with hm | hm
            · exact hD5 hm
            · have := f₆ _ hm
              obtain ⟨nn, hh⟩ := pl5
              rw [hh] at this; cases this
          have fr6 : ∀ b ∈ β₁ ++ (γ ++ γ₅ ++ γ₆), s.heap.get? b = none := fun b hb => by
            rw [← List.append_assoc] at hb
            rcases List.mem_append.mp hb with hb | hb
            · exact fr5 b hb
            · cases e : s.heap.get? b with
              | none => rfl
              | some o => have := k₅ b o (kS b o e); rw [f₆ b hb] at this; cases this
          -- only D is written
          have nD : ∀ b ∈ (((α ++ (β₁ ++ γ)) ++ γ₅) ++ γ₆), b ≠ D := fun b hb q => hD6 (q ▸ hb)
          have tup7 : KeepsT h₆ h₇ := fun a items x => x.extBut hsb₇.extBut fun q => by
            subst q
            obtain ⟨o, ho, hc, _⟩ := x
            obtain ⟨nn, hh⟩ := pl6
            rw [hh] at ho; cases ho; simp at hc
          have R₇ : HR X.G (((α ++ (β₁ ++ γ)) ++ γ₅) ++ γ₆) h₇ (((H ++ KK) ++ K₅) ++ K₆) :=
            ⟨R₆.len, R₆.nodup, R₆.pos, fun n a xs e1 e2 => by
              obtain ⟨vs, l, q, z, p⟩ := R₆.lst n a xs e1 e2
              have hne := nD a (List.mem_of_getElem? e1)
              exact ⟨vs, l.extBut hsb₇.extBut hne, q.mono (fun _ _ e => e) tup7, z, fun hn => let ⟨n', e'⟩ := p hn; ⟨n', hsb₇.extBut _ _ hne e'⟩⟩⟩
          have aliveD : ∀ b o, h₂.get? b = some o → b ≠ D := fun b o e => (aliveNe b o e).1
          have ns7 := (ns5.keeps k₆).extBut hsb₇.extBut (Ne.symm hDC)
          refine ⟨xs.length + 1 - (i + 1), by (clear K h1 h2 O T F hRR k₁ f₁ R₁ k₂ W hst hwr hfield hfp hsrc hP hlen hgo hH2 hCC hns₃ hsb₃ hDD hDC hC deadD deadC aliveNe old hacc hst₃ hDf hCf hDw hCw deadS deadS2 keepS keepT D₁ hi hsti hkeep hfresh hD' R' hpl rys hdl hns hPv hst'' hk'' lt1 hns'' hns₄ hsb₄ lt2 hkeep₄ st₄ R₄ kS hd rd rd₄ hdrop hgo' FI₄ T₄ k₅ f₅ R₅ hD5 fr5 keep5 ns5 st5 pl5 rys5 q₅ k₆ f₆ R₆ r₆ q₆ pl6 hlen6 pl7 hsb₇ hD6 fr6 nD tup7 R₇ aliveD ns7; omega), i + 1, h₇, tk₆, γ ++ γ₅ ++ γ₆, KK ++ K₅ ++ K₆, ys ++ [y], ds ++ [e], _, rfl, hlt, rfl, ?_, ?_, fr6, by simpa using hD6, by simpa using R₇, ?_, ?_, by simp; (clear K h1 h2 O T F hRR k₁ f₁ R₁ k₂ W hst hwr hfield hfp hsrc hP hlen hgo hH2 hCC hns₃ hsb₃ hDD hDC hC deadD deadC aliveNe old hacc hst₃ hDf hCf hDw hCw deadS deadS2 keepS keepT D₁ hi hsti hkeep hfresh hD' R' hpl rys hns hlt hPv hst'' hk'' lt1 hns'' hns₄ hsb₄ lt2 hkeep₄ st₄ R₄ kS hd rd rd₄ hdrop hgo' FI₄ T₄ k₅ f₅ R₅ hD5 fr5 keep5 ns5 st5 pl5 rys5 q₅ k₆ f₆ R₆ r₆ q₆ pl6 hlen6 pl7 hsb₇ hD6 fr6 nD tup7 R₇ aliveD ns7; omega), ns7, ?_⟩
          · exact W.frame _ _ _ st5 fun b hb o eo => hsb₇.extBut b o (fun q => hDf (q ▸ hb)) (k₆ b o eo)
          · exact fun b o hb eo => hsb₇.extBut b o (aliveD b o eo) (k₆ b o (keep5 b o hb eo))
          · simpa using pl7
          · have : Reps X.G (((α ++ (β₁ ++ γ)) ++ γ₅) ++ γ₆) h₆ (ys ++ [y]) (ds ++ [e]) := (rys5.up k₆).append (.cons r₆ .nil)
            simpa using this.mono (fun _ _ e => e) tup7
          · simpa using q₆
      · have hin : i = xs.length := by (clear K h1 h2 O T F hRR k₁ f₁ R₁ k₂ W hst hwr hfield hfp hsrc hP hlen hgo hH2 hCC hns₃ hsb₃ hDD hDC hC deadD deadC aliveNe old hacc hst₃ hDf hCf hDw hCw deadS deadS2 keepS keepT D₁ hsti hkeep hfresh hD' R' hpl rys hdl hns hgo'; omega)
        subst hin
        refine W.done _ _ _ hsti fun h'' tk' hk'' => ?_
        have lt1 : KeepsLT h' h'' := fun a o items n e d => hk'' a o (fun hm => by
          obtain ⟨o', vs, e', d'⟩ := hfield _ h' hsti a hm
          rw [e] at e'; cases e'; rw [d] at d'; cases d') e
        refine hRR D C _ ⟨h'', tk', β₁ ++ γ, KK, ys, ds, m, rfl, keepS h'' fun b o hb e => hk'' b o hb (hkeep b o hb e), hfresh, R'.lt' lt1, deadS2 _ deadD, deadS2 _ deadC, hDC, hD', lt1.plain hpl, rys.mono (fun _ _ e => e) lt1.tup, by (clear K h1 h2 O T F hRR k₁ f₁ R₁ k₂ W hst hwr hfield hfp hsrc hP hgo hH2 hCC hns₃ hsb₃ hDD hDC hC deadD deadC aliveNe old hacc hst₃ hDf hCf hDw hCw deadS deadS2 keepS keepT D₁ hkeep hfresh hD' R' hpl rys hns hi hsti hgo' hlt hk'' lt1; omega), hns.at' fun o e => hk'' C o hCw e, ?_⟩
        simpa [compGo] using hgo'
    · simpa using (R₁.keeps k₂).keeps old
    · simp only [List.drop_zero, List.nil_append]; exact hgo
  exact codeAny_compStart_list (loop _ rfl) (W.self 0 _ _ _ hst₃ (loop _ rfl))
end
end Mine

set_option autoImplicit false
set_option linter.unusedSimpArgs false
set_option linter.unusedVariables false
namespace Mine
open PySem PyProof.Rows PySem.Calls

noncomputable def notSet (e : Expr) : Bool := match e with | .Set .. => false | _ => true
theorem folded_pure {e : Expr} (h : notSet e = true) (env : Env) (x : Value) : foldedSetIterable e env x = pure x := by
  cases e <;> first | rfl | cases h

section
variable {X : SX} {c : MC}

theorem compEnd_post {s : Shared} {α : List Addr} {H : Hp} {Q : V → Hp → Prop} {D C : Addr} {s' : Shared} (p : CompEnd X s α H (fun ys H5 => Q (.lst H5.length) (H5 ++ [ys])) D C s') {h'' : Heap} (hs : Heap.SameBut C s'.heap h'') :
    Post X.G (Rep X.G) s α H Q (.ref D) { s' with heap := h'' } := by
  obtain ⟨h', tk, β, K, ys, ds, m, rfl, k, f, R, dD, dC, hDC, hD, hpl, rys, z, hn, q⟩ := p
  have lt : KeepsLT h' h'' := KeepsLT.sameBut hs (ns_notSeq hn)
  have kk : KeepsH s.heap h'' := fun b o e => hs.extBut b o (fun q => by rw [q, dC] at e; cases e) (k b o e)
  have R' := R.lt' lt
  refine ⟨h'', tk, β ++ [D], K ++ [ds], .lst (H ++ K).length, rfl, kk, ?_, ?_, ?_, by simpa using q⟩
  · intro b hb
    rcases List.mem_append.mp hb with hb | hb
    · exact f b hb
    · simp at hb; subst hb; exact dD
  · have := R'.push (.refl _) hD (lt.plain hpl) (rys.mono (fun _ _ e => e) lt.tup) z
    simpa using this
  · refine Rep.lst ?_
    rw [← R.len, ← List.append_assoc, List.getElem?_append_right (Nat.le_refl _)]; simp

theorem se_comp {elt iter : Expr} {x : Str} {px pos : Pos} {ifs : List Expr} {sc : Scope} {cs : List Str} {pelt : PE} {caps : List Nat} {pit : PI} {cond : PO}
    (K : CompOk c sc x cs caps) (h1 : SE X ⟨c.g, sc, x :: cs⟩ pelt elt) (h2 : SIfs X ⟨c.g, sc, x :: cs⟩ cond ifs) (h3 : SI X c pit iter) (hns : notSet iter = true) :
    SE X c (.comp pelt 1 caps pit cond) (.ListComp elt [⟨.Name x px, iter, ifs, 0⟩] sc pos) := fun env s α ρ H Q E O T R F q => by
  simp only [qE1, qE2, qE3, qE4, qE5, qE6, qE7, qE8, qE9, qE10, qE11, qE12, qE13, qE14, qE15, qE16, qE17, qE18, qE19, qE20, qE21, qE22] at q
  rw [eval_ListComp]
  refine wpAny_comprehension_free (use := none) rfl (folded_pure hns env) (K.clos O) K.kind K.names (wpAny_mono (h3 env s α ρ H _ E O T R F q) (fun xv s₁ p => wpAny_mono p (fun it s₂ p => ?_) fun _ _ e => e) fun _ _ e => e)
  refine comp_core K h1 h2 env s α ρ H _ E O T F it s₂ p (fun acc C => compPost (model X.prog X.w) X.A E none (Post X.G (Rep X.G) s α H Q) acc C) fun D C s' p => ?_
  obtain ⟨m, hm⟩ : ∃ m, s'.heap.Ns C m := by obtain ⟨h', tk, β, K, ys, ds, m, rfl, k, f, R, dD, dC, hDC, hD, hpl, rys, z, hn, q⟩ := p; exact ⟨m, hn⟩
  exact ⟨m, hm, fun h' hs => compEnd_post p hs⟩

theorem se_idx {a b : PE} {x i : Expr} {pos : Pos} (hs : (match i with | .Slice .. => false | _ => true) = true) (h1 : SE X c a x) (h2 : SE X c b i) : SE X c (.idx a b) (.Subscript x i pos) := fun env s α ρ H Q E O T R F q => by
  simp only [qE1, qE2, qE3, qE4, qE5, qE6, qE7, qE8, qE9, qE10, qE11, qE12, qE13, qE14, qE15, qE16, qE17, qE18, qE19, qE20, qE21, qE22] at q
  refine Subscript_ (two h1 h2 O T R F (Q := fun x y H2 => idxWp x y H2 Q) q fun h' tk β K u v x y k f R' ru rv q' => ?_)
  refine wpAny_mono (idx_sound (s := { s with heap := h', toks := tk }) (fun o i' => ?_) R' ru rv q') (fun _ _ p => p.trans k f) fun _ _ x => x
  cases i <;> first | rfl | cases hs

noncomputable def SO (X : SX) (c : MC) (po : PO) (o : Option Expr) : Prop :=
  match po with
  | .no => o = none
  | .some pe => ∃ e, o = some e ∧ SE X c pe e

/-- a slice's end -/
theorem so_sound {po : PO} {o : Option Expr} (h : SO X c po o) (env : Env) (s : Shared) (α : List Addr) (ρ : Loc) (H : Hp) (Q : Option V → Hp → Prop) (E : Value → Shared → Prop) (O : EnvOk c env) (T : GF X.G c.g X.DT s.heap) (R : HR X.G α s.heap H)
    (F : FI X.G c env α s.heap ρ) (q : wpO X.sub X.Φ po ρ H Q) :
    wpAny (model X.prog X.w) X.A (valueOrNone (evalOpt o env)) (Post X.G (fun α h v (d : Option V) => match d with | none => v = .none | some d => Rep X.G α h v d) s α H Q) E s := by
  cases po with
  | no =>
    cases h
    simp only [qO1, qO2] at q
    exact wpAny_pure (Post.same' (d := none) R rfl q)
  | some pe =>
    obtain ⟨e, rfl, h⟩ := h
    simp only [qO1, qO2] at q
    refine wpAny_mono (h env s α ρ H _ E O T R F q) (fun v s₁ p => ?_) fun _ _ x => x
    obtain ⟨h₁, tk₁, β, K, d, e, k, f, R', r, q⟩ := p
    exact ⟨h₁, tk₁, β, K, some d, e, k, f, R', r, q⟩

theorem slc_ends {x : V} {lo hi : Option V} {H : Hp} {Q : V → Hp → Prop} (q : slcWp x lo hi H Q) : (lo = none ∨ ∃ a, lo = some (.int a)) ∧ (hi = none ∨ ∃ a, hi = some (.int a)) := by
  unfold slcWp at q
  split at q
  · rcases q with ⟨a, e1, e2, _⟩ | ⟨e1, e2, _⟩
    · exact ⟨.inr ⟨a, e1⟩, .inl e2⟩
    · exact ⟨.inl e1, .inr ⟨_, e2⟩⟩
  · obtain ⟨xs, _, q⟩ := ifSome.get q
    obtain ⟨p, hc, _⟩ := ifSome.get q
    unfold cutAt at hc
    split at hc
    · exact ⟨.inr ⟨_, rfl⟩, .inr ⟨_, rfl⟩⟩
    · exact ⟨.inl rfl, .inr ⟨_, rfl⟩⟩
    · exact ⟨.inr ⟨_, rfl⟩, .inl rfl⟩
    · exact ⟨.inl rfl, .inl rfl⟩
    · cases hc
  · exact q.elim

theorem se_slc {a : PE} {lo hi : PO} {x : Expr} {l h : Option Expr} {p pos : Pos} (h1 : SE X c a x) (h2 : SO X c lo l) (h3 : SO X c hi h) : SE X c (.slc a lo hi) (.Subscript x (.Slice l h none p) pos) := fun env s α ρ H Q E O T R F q => by
  simp only [qE1, qE2, qE3, qE4, qE5, qE6, qE7, qE8, qE9, qE10, qE11, qE12, qE13, qE14, qE15, qE16, qE17, qE18, qE19, qE20, qE21, qE22] at q
  refine Subscript_ (wpAny_mono (h1 env s α ρ H _ E O T R F q) (fun u s₁ p₁ => ?_) fun _ _ x => x)
  refine p₁.go fun h₁ tk₁ β₁ K₁ d₁ k₁ f₁ R₁ r₁ q₁ => ?_
  rw [arm_eval_Slice]
  refine wpAny_bind (wpAny_mono (so_sound h2 env { s with heap := h₁, toks := tk₁ } (α ++ β₁) ρ (H ++ K₁) _ E O (T.keeps k₁) R₁ (F.up k₁) q₁) (fun lv s₂ p₂ => ?_) fun _ _ x => x)
  refine p₂.go fun h₂ tk₂ β₂ K₂ d₂ k₂ f₂ R₂ r₂ q₂ => ?_
  dsimp only at k₂ f₂ ⊢
  refine wpAny_bind (wpAny_holding (wpAny_mono (so_sound h3 env { s with heap := h₂, toks := tk₂ } (α ++ β₁ ++ β₂) ρ (H ++ K₁ ++ K₂) _ E O (T.keeps (k₁.trans k₂)) R₂ ((F.up k₁).up k₂) q₂) (fun hv s₃ p₃ => ?_) fun _ _ x => x))
  refine p₃.go fun h₃ tk₃ β₃ K₃ d₃ k₃ f₃ R₃ r₃ q₃ => ?_
  dsimp only at k₃ f₃ ⊢
  refine wpAny_bind (wpAny_holding (wpAny_pure ?_))
  refine wpAny_newObj_type ?_ (by show Array.size _ ≤ _; rw [sizeLine_eq]; simp)
  dsimp only
  have k4 := keeps_push h₃ { cls := .type "slice", data := .fields #[lv, hv, .none] }
  have kk : KeepsH s.heap (h₃.push { cls := .type "slice", data := .fields #[lv, hv, .none] }) := ((k₁.trans k₂).trans k₃).trans k4
  have ff : ∀ b ∈ β₁ ++ β₂ ++ β₃, s.heap.get? b = none := fun b hb => by
    rcases List.mem_append.mp hb with hb | hb
    · rcases List.mem_append.mp hb with hb | hb
      · exact f₁ b hb
      · cases e : s.heap.get? b with
        | none => rfl
        | some o => have := k₁ b o e; rw [f₂ b hb] at this; cases this
    · cases e : s.heap.get? b with
      | none => rfl
      | some o => have := k₂ b o (k₁ b o e); rw [f₃ b hb] at this; cases this
  have ru : Rep X.G (α ++ (β₁ ++ β₂ ++ β₃)) (h₃.push { cls := .type "slice", data := .fields #[lv, hv, .none] }) u d₁ := by
    have := ((r₁.up (β := β₂) k₂).up (β := β₃) k₃).mono (fun _ _ e => e) (.of k4)
    simpa using this
  have R4 : HR X.G (α ++ (β₁ ++ β₂ ++ β₃)) (h₃.push { cls := .type "slice", data := .fields #[lv, hv, .none] }) (H ++ (K₁ ++ K₂ ++ K₃)) := by
    have := R₃.keeps k4
    simpa using this
  have q4 : slcWp d₁ d₂ d₃ (H ++ (K₁ ++ K₂ ++ K₃)) Q := by simpa using q₃
  obtain ⟨e2, e3⟩ := slc_ends q4
  have lo' : (lv = .none ∧ d₂ = none) ∨ ∃ a ta, lv = .int a ta ∧ d₂ = some (.int a) := by
    rcases e2 with rfl | ⟨a, rfl⟩
    · exact .inl ⟨r₂, rfl⟩
    · cases r₂ with | int i t => exact .inr ⟨_, t, rfl, rfl⟩
  have hi' : (hv = .none ∧ d₃ = none) ∨ ∃ a ta, hv = .int a ta ∧ d₃ = some (.int a) := by
    rcases e3 with rfl | ⟨a, rfl⟩
    · exact .inl ⟨r₃, rfl⟩
    · cases r₃ with | int i t => exact .inr ⟨_, t, rfl, rfl⟩
  exact wpAny_mono (slc_sound (s := { s with heap := h₃.push { cls := .type "slice", data := .fields #[lv, hv, .none] }, toks := tk₃ }) (fun _ _ => rfl) R4 ru (Heap.IsSliceOf.new h₃ lv hv .none) lo' hi' q4) (fun _ _ p => p.trans kk ff) fun _ _ x => x
end
end Mine

set_option autoImplicit false
set_option linter.unusedSimpArgs false
set_option linter.unusedVariables false
namespace Mine
open PySem PyProof.Rows PySem.Calls

theorem isGlob_of_isNm {c : MC} {e : Expr} {x : Str} (h : c.isNm e x = true) : ∃ p, e = .Name x p ∧ c.isGlob x = true := MC.isNm_spec h

theorem mem_abs : (Str.ofString "abs") ∈ bltNames := by simp [bltNames]
theorem mem_len : (Str.ofString "len") ∈ bltNames := by simp [bltNames]
theorem mem_int : (Str.ofString "int") ∈ bltNames := by simp [bltNames]
theorem mem_list : (Str.ofString "list") ∈ bltNames := by simp [bltNames]
theorem mem_tuple : (Str.ofString "tuple") ∈ bltNames := by simp [bltNames]
theorem mem_min : (Str.ofString "min") ∈ bltNames := by simp [bltNames]

section
variable {X : SX} {c : MC}

theorem se_bi {b : Bi} {f : Expr} {ps : PEs} {e : Expr} {es : List Expr} {pos : Pos} (hA : AOk X.prog X.A) (hb : b ≠ .listrev) (hf : c.isNm f (biName b) = true) (hn : noStar (e :: es) = true) (h : SEs X c ps (e :: es)) : SE X c (.bi b ps) (.Call f (e :: es) [] pos) := fun env s α ρ H Q E O T R F q => by
  obtain ⟨p, rfl, hx⟩ := isGlob_of_isNm hf
  simp only [qE1, qE2, qE3, qE4, qE5, qE6, qE7, qE8, qE9, qE10, qE11, qE12, qE13, qE14, qE15, qE16, qE17, qE18, qE19, qE20, qE21, qE22] at q
  cases b with
  | abs => exact call_b bootAbs (mem_abs) hx hn h O T R F q fun h' tk β K vs ds k R' r q' => bi_sound (b := .abs) (s := { s with heap := h', toks := tk }) hA R' r q'
  | len => exact call_b bootLen (mem_len) hx hn h O T R F q fun h' tk β K vs ds k R' r q' => bi_sound (b := .len) (s := { s with heap := h', toks := tk }) hA R' r q'
  | int => exact call_t bootInt (mem_int) hx hn h O T R F q fun h' tk β K vs ds k R' r q' => bi_sound (b := .int) (s := { s with heap := h', toks := tk }) hA R' r q'
  | list => exact call_t bootList (mem_list) hx hn h O T R F q fun h' tk β K vs ds k R' r q' => bi_sound (b := .list) (s := { s with heap := h', toks := tk }) hA R' r q'
  | tuple => exact call_t bootTuple (mem_tuple) hx hn h O T R F q fun h' tk β K vs ds k R' r q' => bi_sound (b := .tuple) (s := { s with heap := h', toks := tk }) hA R' r q'
  | min => exact call_b bootMin (mem_min) hx hn h O T R F q fun h' tk β K vs ds k R' r q' => bi_sound (b := .min) (s := { s with heap := h', toks := tk }) hA R' r q'
  | listrev => exact absurd rfl hb

noncomputable def tyStr : Ty → String
  | .int => "int" | .bool => "bool" | .tuple => "tuple" | .list => "list" | .cls _ => ""

theorem isi_sound {prog : Program} {w : World} {A : Around} {E : Value → Shared → Prop} {s : Shared} {G : GV} {α : List Addr} {H : Hp} {Q : V → Hp → Prop} {u : Value} {x : V} {t : Ty} {b : Bool} {sub : Nat → Nat → Bool}
    (R : HR G α s.heap H) (r : Rep G α s.heap u x) (e : isTy sub x t = some b) (q : Q (.bool b) H) : wpAny (model prog w) A (call (.builtin "isinstance") [u, .type (tyStr t)]) (Post G (Rep G) s α H Q) E s := by
  have yes : b = true → Post G (Rep G) s α H Q (.bool true) s := fun h => by subst h; exact Post.same' R (.bool _) q
  have no : b = false → Post G (Rep G) s α H Q (.bool false) { s with toks := s.toks + 1 } := fun h => by subst h; exact Post.same R (.bool _) q _
  cases r with
  | int i tk => cases t <;> first
    | exact IsiPair.int_int (yes (Option.some.inj e).symm) | exact IsiPair.int_bool (no (Option.some.inj e).symm) | exact IsiPair.int_tuple (no (Option.some.inj e).symm) | exact IsiPair.int_list (no (Option.some.inj e).symm) | cases e
  | bool i => cases t <;> first
    | exact IsiPair.bool_int (yes (Option.some.inj e).symm) | exact IsiPair.bool_bool (yes (Option.some.inj e).symm) | exact IsiPair.bool_tuple (no (Option.some.inj e).symm) | exact IsiPair.bool_list (no (Option.some.inj e).symm) | cases e
  | none => cases t <;> first
    | exact IsiPair.NoneType_int (no (Option.some.inj e).symm) | exact IsiPair.NoneType_bool (no (Option.some.inj e).symm) | exact IsiPair.NoneType_tuple (no (Option.some.inj e).symm) | exact IsiPair.NoneType_list (no (Option.some.inj e).symm) | cases e
  | str i tk => cases t <;> first
    | exact IsiPair.str_int (no (Option.some.inj e).symm) | exact IsiPair.str_bool (no (Option.some.inj e).symm) | exact IsiPair.str_tuple (no (Option.some.inj e).symm) | exact IsiPair.str_list (no (Option.some.inj e).symm) | cases e
  | tup ht rs z => cases t <;> first
    | exact IsiPair.isTuple_int ht (fun _ _ e => e) (no (Option.some.inj e).symm) | exact IsiPair.isTuple_bool ht (fun _ _ e => e) (no (Option.some.inj e).symm) | exact IsiPair.isTuple_tuple ht (fun _ _ e => e) (yes (Option.some.inj e).symm) | exact IsiPair.isTuple_list ht (fun _ _ e => e) (no (Option.some.inj e).symm) | cases e
  | lst ha =>
    obtain ⟨xs, hx⟩ := R.at ha
    obtain ⟨vs, hl, _⟩ := R.getList ha hx
    cases t <;> first
    | exact IsiPair.isList_int hl (fun _ _ e => e) (no (Option.some.inj e).symm) | exact IsiPair.isList_bool hl (fun _ _ e => e) (no (Option.some.inj e).symm) | exact IsiPair.isList_tuple hl (fun _ _ e => e) (no (Option.some.inj e).symm) | exact IsiPair.isList_list hl (fun _ _ e => e) (yes (Option.some.inj e).symm) | cases e
  | fn _ => cases t <;> cases e

theorem rep_no_cls {G : GV} {α : List Addr} {h : Heap} {u : Value} {x : V} {sub : Nat → Nat → Bool} (r : Rep G α h u x) {ts : List Ty} {bs : List Bool} (hc : ts.any Ty.isCls = true) (e : ts.mapM (isTy sub x) = some bs) : False := by
  induction ts generalizing bs with
  | nil => simp at hc
  | cons t ts ih =>
    simp only [List.mapM_cons, Option.bind_eq_bind, Option.bind_eq_some_iff, Option.pure_def, Option.some.injEq] at e
    obtain ⟨d, e1, ds', e2, rfl⟩ := e
    simp only [List.any_cons, Bool.or_eq_true] at hc
    rcases hc with hc | hc
    · cases t <;> simp [Ty.isCls] at hc
      cases r <;> cases e1
    · exact ih hc e2

theorem tyLoad {t : Ty} {e : Expr} (ht : t.isCls = false) (he : c.isTyp t e = true) (env : Env) (s : Shared) (Z : Value → Shared → Prop) (E : Value → Shared → Prop) (O : EnvOk c env) (T : GF X.G c.g X.DT s.heap) (hz : Z (.type (tyStr t)) s) :
    notStar e = true ∧ wpAny (model X.prog X.w) X.A (eval e env) Z E s := by
  cases t with
  | int => obtain ⟨p, rfl, hx⟩ := isGlob_of_isNm he; exact ⟨rfl, load_b bootInt (by simp [bltNames]) hx O T hz⟩
  | bool => obtain ⟨p, rfl, hx⟩ := isGlob_of_isNm he; exact ⟨rfl, load_b bootBool (by simp [bltNames]) hx O T hz⟩
  | tuple => obtain ⟨p, rfl, hx⟩ := isGlob_of_isNm he; exact ⟨rfl, load_b bootTuple (by simp [bltNames]) hx O T hz⟩
  | list => obtain ⟨p, rfl, hx⟩ := isGlob_of_isNm he; exact ⟨rfl, load_b bootList (by simp [bltNames]) hx O T hz⟩
  | cls k => simp [Ty.isCls] at ht

theorem tyStar {t : Ty} {e : Expr} (he : c.isTyp t e = true) : notStar e = true := by
  cases t <;> simp only [MC.isTyp] at he <;> first
    | (obtain ⟨p, rfl, hx⟩ := isGlob_of_isNm he; rfl)
    | (split at he
       · obtain ⟨p, rfl, hx⟩ := isGlob_of_isNm he; rfl
       · cases he)

theorem se_isi1 {a : PE} {t : Ty} {f x te : Expr} {pos : Pos} (hf : c.isNm f "isinstance" = true) (hn : notStar x = true) (h : SE X c a x) (ht : c.isTyp t te = true) : SE X c (.isi a [t]) (.Call f [x, te] [] pos) := fun env s α ρ H Q E O T R F q => by
  obtain ⟨p, rfl, hx⟩ := isGlob_of_isNm hf
  simp only [qE1, qE2, qE3, qE4, qE5, qE6, qE7, qE8, qE9, qE10, qE11, qE12, qE13, qE14, qE15, qE16, qE17, qE18, qE19, qE20, qE21, qE22] at q
  have hst := tyStar ht
  refine Call_ (load_b bootIsi (by simp [bltNames]) hx O T (callWith_builtin1 (args_cons (wpAny_mono (h env s α ρ H _ E O T R F q) (fun u s₁ p => ?_) fun _ _ y => y) (starEach_cons hn)) (starEach_cons hn) (star_any (by simp [noStar, hst]))))
  obtain ⟨h₁, tk₁, β, K, d, rfl, k, f', R', r, q'⟩ := p
  obtain ⟨bs, e, q'⟩ := ifSome.get q'
  cases hc : t.isCls with
  | true => exact (rep_no_cls r (ts := [t]) (by simp [hc]) e).elim
  | false =>
    simp only [List.mapM_cons, List.mapM_nil, Option.bind_eq_bind, Option.bind_eq_some_iff, Option.pure_def, Option.some.injEq] at e
    obtain ⟨b, e1, _, rfl, rfl⟩ := e
    refine args_cons (tyLoad hc ht env _ _ _ O (T.keeps k) (args_nil ?_)).2 (starEach_cons hst)
    exact wpAny_mono (isi_sound (s := { s with heap := h₁, toks := tk₁ }) R' r e1 (by simpa using q')) (fun _ _ p => p.trans k f') fun _ _ y => y

theorem se_isiN {a : PE} {ts : List Ty} {f x : Expr} {es : List Expr} {kk : Nat} {pp pos : Pos} (hf : c.isNm f "isinstance" = true) (hn : notStar x = true) (h : SE X c a x) (hc : ts.any Ty.isCls = true) : SE X c (.isi a ts) (.Call f [x, .Tuple es kk pp] [] pos) := fun env s α ρ H Q E O T R F q => by
  obtain ⟨p, rfl, hx⟩ := isGlob_of_isNm hf
  simp only [qE1, qE2, qE3, qE4, qE5, qE6, qE7, qE8, qE9, qE10, qE11, qE12, qE13, qE14, qE15, qE16, qE17, qE18, qE19, qE20, qE21, qE22] at q
  refine Call_ (load_b bootIsi (by simp [bltNames]) hx O T (callWith_builtin1 (args_cons (wpAny_mono (h env s α ρ H _ E O T R F q) (fun u s₁ p => ?_) fun _ _ y => y) (starEach_cons hn)) (starEach_cons hn) (star_any (by simp [noStar, notStar]))))
  obtain ⟨h₁, tk₁, β, K, d, rfl, k, f', R', r, q'⟩ := p
  obtain ⟨bs, e, q'⟩ := ifSome.get q'
  exact (rep_no_cls r hc e).elim
end
end Mine

set_option autoImplicit false
set_option linter.unusedSimpArgs false
set_option linter.unusedVariables false
set_option linter.unusedSectionVars false
namespace Mine
open PySem PyProof.Rows PySem.Calls

theorem capNames_spec {c : MC} : ∀ {caps : List Nat} {cs : List Str}, capNames c caps = some cs → cs.length = caps.length ∧ ∀ (i j : Nat), caps[i]? = some j → ∃ n, cs[i]? = some n ∧ c.names[j]? = some n
  | [], cs, h => by simp [capNames] at h; subst h; exact ⟨rfl, fun i j e => by simp at e⟩
  | k :: r, cs, h => by
    simp only [capNames, List.mapM_cons, Option.bind_eq_bind, Option.bind_eq_some_iff, Option.pure_def, Option.some.injEq] at h
    obtain ⟨n, hn, ds, hd, rfl⟩ := h
    obtain ⟨h1, h2⟩ := capNames_spec (caps := r) hd
    refine ⟨by simp [h1], fun i j e => ?_⟩
    cases i with
    | zero => simp at e; subst e; exact ⟨n, rfl, hn⟩
    | succ i => simp at e; obtain ⟨m, a, b⟩ := h2 i j e; exact ⟨m, by simpa using a, b⟩

theorem compOk_of {c : MC} {sc : Scope} {x : Str} {cs : List Str} {caps : List Nat} (hc : capNames c caps = some cs)
    (hout : cs.all (fun n => decide (c.scope.names.lookup n = some NameKind.cell) || decide (c.scope.names.lookup n = some NameKind.free)) = true)
    (hs : compScopeOk sc [x] cs = true) : CompOk c sc x cs caps := by
  unfold compScopeOk at hs
  simp only [Bool.and_eq_true, decide_eq_true_eq, List.all_eq_true] at hs
  obtain ⟨⟨⟨hk, hs⟩, hx⟩, hcs⟩ := hs
  simp only [List.all_eq_true, Bool.or_eq_true, decide_eq_true_eq] at hout
  refine ⟨hk, fun p hp hl => ?_, fun p hp hl => ?_, fun p hp hl => ?_, hx x (by simp), fun n hn => hcs n hn, fun n hn => hout n hn, fun p hp hl => ?_, (capNames_spec hc).2⟩
  · have := hs p hp; rw [hl] at this; simp at this; exact this.1
  · have := hs p hp; rw [hl] at this; simpa using this
  · have := hs p hp; rw [hl] at this; simp at this
  · have := hs p hp; rw [hl] at this; simp at this; exact this.2

theorem pt_const {a b p} : PlainTest (.Constant a b p) := fun _ _ => rfl
theorem pt_name {a p} : PlainTest (.Name a p) := fun _ _ => rfl
theorem pt_bin {a b d p} : PlainTest (.BinOp a b d p) := fun _ _ => rfl
theorem pt_neg {a p} : PlainTest (.UnaryOp .USub a p) := fun _ _ => rfl
theorem pt_call {a b d p} : PlainTest (.Call a b d p) := fun _ _ => rfl
theorem pt_sub {a b p} : PlainTest (.Subscript a b p) := fun _ _ => rfl
theorem pt_tup {a b p} : PlainTest (.Tuple a b p) := fun _ _ => rfl
theorem pt_list {a p} : PlainTest (.List a p) := fun _ _ => rfl
theorem pt_comp {a b d p} : PlainTest (.ListComp a b d p) := fun _ _ => rfl

theorem both {X : SX} {c : MC} {pe : PE} {e : Expr} (h : SE X c pe e) (pt : PlainTest e) : SE X c pe e ∧ SC X c pe e := ⟨h, sc_of_se h pt⟩
theorem notStarM_eq (e : Expr) : notStarM e = notStar e := by cases e <;> rfl

theorem one_spec {β : Type} {l : List β} {x : β} (h : isOne l = some x) : l = [x] := by
  cases l with
  | nil => exact (Option.some_ne_none x h.symm).elim
  | cons y r => cases r with
    | nil => cases h; rfl
    | cons _ _ => exact (Option.some_ne_none x h.symm).elim
theorem varNm_spec {c : MC} {i : Nat} {e : Expr} (h : c.varNm i e = true) : ∃ x p, e = .Name x p ∧ c.isVar i x = true := by
  cases e <;> first | exact (Bool.false_ne_true h).elim | exact ⟨_, _, rfl, h⟩
theorem fnNm_spec {c : MC} {k : Nat} {e : Expr} (h : c.fnNm k e = true) : ∃ x p, e = .Name x p ∧ c.g.fns[k]? = some x ∧ c.isGlob x = true := by
  unfold MC.fnNm at h
  cases hx : c.g.fns[k]? with
  | none => rw [hx] at h; exact (Bool.false_ne_true h).elim
  | some x =>
    rw [hx] at h
    obtain ⟨p, rfl, hg⟩ := MC.isNm_spec h
    exact ⟨x, p, rfl, rfl, hg⟩
theorem tgtName_spec {e : Expr} {x : Str} (h : tgtName e = some x) : ∃ p, e = .Name x p := by
  cases e <;> first | exact (Option.some_ne_none x h.symm).elim | exact ⟨_, by rw [show x = _ from (Option.some.inj h).symm]⟩
theorem isRev_spec {b : Bi} (h : (!b.isRev) = true) : b ≠ .listrev := fun e => by subst e; exact Bool.false_ne_true h

section
variable {c : MC}
theorem inv_cmp {op : COp} {a b : PE} {e : Expr} (h : matchE c (.cmp op a b) e = true) : ∃ l r p, e = .Compare l [cmpOf op] [r] p ∧ behindInMarks (cmpOf op) r = false ∧ matchE c a l = true ∧ matchE c b r = true := by
  cases e <;> first | exact (Bool.false_ne_true h).elim | skip
  rename_i l os rs p
  have h : (match isOne os, isOne rs with | some o, some r => decide (o = cmpOf op) && !behindInMarks o r && matchE c a l && matchE c b r | _, _ => false) = true := h
  cases h1 : isOne os with
  | none => rw [h1] at h; exact (Bool.false_ne_true h).elim
  | some o => cases h2 : isOne rs with
    | none => rw [h1, h2] at h; exact (Bool.false_ne_true h).elim
    | some r =>
      rw [h1, h2] at h
      have h : (decide (o = cmpOf op) && !behindInMarks o r && matchE c a l && matchE c b r) = true := h
      simp only [Bool.and_eq_true, decide_eq_true_eq, Bool.not_eq_true'] at h
      obtain ⟨⟨⟨rfl, hm⟩, h3⟩, h4⟩ := h
      rw [one_spec h1, one_spec h2]
      exact ⟨l, r, p, rfl, hm, h3, h4⟩
theorem inv_call {f : Nat} {es : PEs} {e : Expr} (h : matchE c (.call f es) e = true) : ∃ x p a as pos, e = .Call (.Name x p) (a :: as) [] pos ∧ c.g.fns[f]? = some x ∧ c.isGlob x = true ∧ matchEs c es (a :: as) = true := by
  cases e <;> first | exact (Bool.false_ne_true h).elim | skip
  rename_i g as kw pos
  have h : (kw.isEmpty && c.fnNm f g && !as.isEmpty && matchEs c es as) = true := h
  simp only [Bool.and_eq_true, List.isEmpty_iff, Bool.not_eq_true', List.isEmpty_eq_false_iff] at h
  obtain ⟨⟨⟨rfl, h1⟩, h0⟩, h3⟩ := h
  obtain ⟨x, p, rfl, h1, h2⟩ := fnNm_spec h1
  cases as with
  | nil => exact absurd rfl h0
  | cons a r => exact ⟨x, p, a, r, pos, rfl, h1, h2, h3⟩
theorem inv_bi {b : Bi} {es : PEs} {e : Expr} (h : matchE c (.bi b es) e = true) : ∃ f a as pos, e = .Call f (a :: as) [] pos ∧ b ≠ .listrev ∧ c.isNm f (biName b) = true ∧ matchEs c es (a :: as) = true := by
  cases e <;> first | exact (Bool.false_ne_true h).elim | skip
  rename_i f as kw pos
  have h : (!b.isRev && kw.isEmpty && c.isNm f (biName b) && !as.isEmpty && matchEs c es as) = true := h
  simp only [Bool.and_eq_true, List.isEmpty_iff, List.isEmpty_eq_false_iff] at h
  obtain ⟨⟨⟨⟨hb, rfl⟩, h1⟩, h0⟩, h3⟩ := h
  cases as with
  | nil => exact (Bool.false_ne_true h0).elim
  | cons a r => exact ⟨f, a, r, pos, rfl, isRev_spec hb, h1, h3⟩
theorem inv_isi {a : PE} {ts : List Ty} {e : Expr} (h : matchE c (.isi a ts) e = true) : ∃ f x t pos, e = .Call f [x, t] [] pos ∧ c.isNm f "isinstance" = true ∧ matchE c a x = true ∧ notStar x = true ∧ c.isiOk ts t = true := by
  cases e <;> first | exact (Bool.false_ne_true h).elim | skip
  rename_i f as kw pos
  cases as with
  | nil => exact (Bool.false_ne_true h).elim
  | cons x ys =>
    have h : (match isOne ys with | some t => kw.isEmpty && c.isNm f "isinstance" && matchE c a x && notStarM x && c.isiOk ts t | none => false) = true := h
    cases h1 : isOne ys with
    | none => rw [h1] at h; exact (Bool.false_ne_true h).elim
    | some t =>
      rw [h1] at h
      have h : (kw.isEmpty && c.isNm f "isinstance" && matchE c a x && notStarM x && c.isiOk ts t) = true := h
      simp only [Bool.and_eq_true, List.isEmpty_iff] at h
      obtain ⟨⟨⟨⟨rfl, h2⟩, h3⟩, h4⟩, h5⟩ := h
      rw [one_spec h1]
      exact ⟨f, x, t, pos, rfl, h2, h3, notStarM_eq x ▸ h4, h5⟩
theorem inv_isiOk {ts : List Ty} {t : Expr} (h : c.isiOk ts t = true) : (∃ es k p, t = .Tuple es k p ∧ ts.any Ty.isCls = true) ∨ ∃ ty, ts = [ty] ∧ c.isTyp ty t = true := by
  have one : c.areTyps ts [t] = true → ∃ ty, ts = [ty] ∧ c.isTyp ty t = true := fun h => by
    cases ts with
    | nil => exact (Bool.false_ne_true h).elim
    | cons ty r => cases r with
      | nil => exact ⟨ty, rfl, (Bool.and_eq_true_iff.mp h).1⟩
      | cons _ _ => exact (Bool.false_ne_true (Bool.and_eq_true_iff.mp h).2).elim
  cases t <;> first | exact .inr (one h) | skip
  rename_i es k p
  have h : (decide (2 ≤ ts.length) && ts.all Ty.isCls && c.areTyps ts es) = true := h
  simp only [Bool.and_eq_true, decide_eq_true_eq] at h
  cases ts with
  | nil => exact absurd h.1.1 (by decide)
  | cons t r =>
    have h5 := h.1.2
    rw [List.all_cons, Bool.and_eq_true] at h5
    exact .inl ⟨es, k, p, rfl, by rw [List.any_cons, h5.1]; rfl⟩
theorem inv_slc {a : PE} {lo hi : PO} {e : Expr} (h : matchE c (.slc a lo hi) e = true) : ∃ x l hh p pos, e = .Subscript x (.Slice l hh none p) pos ∧ matchE c a x = true ∧ matchO c lo l = true ∧ matchO c hi hh = true := by
  cases e <;> first | exact (Bool.false_ne_true h).elim | skip
  rename_i x i pos
  cases i <;> first | exact (Bool.false_ne_true h).elim | skip
  rename_i l hh st p
  have h : (st.isNone && matchE c a x && matchO c lo l && matchO c hi hh) = true := h
  simp only [Bool.and_eq_true, Option.isNone_iff_eq_none] at h
  obtain ⟨⟨⟨rfl, h1⟩, h2⟩, h3⟩ := h
  exact ⟨x, l, hh, p, pos, rfl, h1, h2, h3⟩
theorem inv_comp {elt : PE} {tg : Nat} {caps : List Nat} {it : PI} {cond : PO} {e : Expr} (h : matchE c (.comp elt tg caps it cond) e = true) :
    ∃ x tx px i ifs sc pos cs, e = .ListComp x [⟨.Name tx px, i, ifs, 0⟩] sc pos ∧ tg = 1 ∧ CompOk c sc tx cs caps ∧ matchI c it i = true ∧ matchE ⟨c.g, sc, [tx] ++ cs⟩ elt x = true ∧ matchIfs ⟨c.g, sc, [tx] ++ cs⟩ cond ifs = true := by
  cases e <;> first | exact (Bool.false_ne_true h).elim | skip
  rename_i x gs sc pos
  change (match isOne gs with
      | some gn => (match tgtName gn.target, capNames c caps with
        | some tx, some cs => decide (gn.is_async = 0) && decide (tg = 1) && cs.all (fun n => decide (c.scope.names.lookup n = some NameKind.cell) || decide (c.scope.names.lookup n = some NameKind.free)) && compScopeOk sc [tx] cs &&
          matchI c it gn.iter && matchE ⟨c.g, sc, [tx] ++ cs⟩ elt x && matchIfs ⟨c.g, sc, [tx] ++ cs⟩ cond gn.ifs
        | _, _ => false)
      | none => false) = true at h
  cases h1 : isOne gs with
  | none => rw [h1] at h; exact (Bool.false_ne_true h).elim
  | some gn =>
    rw [h1] at h
    obtain ⟨t, i, ifs, asy⟩ := gn
    change (match tgtName t, capNames c caps with
        | some tx, some cs => decide (asy = 0) && decide (tg = 1) && cs.all (fun n => decide (c.scope.names.lookup n = some NameKind.cell) || decide (c.scope.names.lookup n = some NameKind.free)) && compScopeOk sc [tx] cs &&
          matchI c it i && matchE ⟨c.g, sc, [tx] ++ cs⟩ elt x && matchIfs ⟨c.g, sc, [tx] ++ cs⟩ cond ifs
        | _, _ => false) = true at h
    cases h2 : tgtName t with
    | none => rw [h2] at h; exact (Bool.false_ne_true h).elim
    | some tx => cases h3 : capNames c caps with
      | none => rw [h2, h3] at h; exact (Bool.false_ne_true h).elim
      | some cs =>
        rw [h2, h3] at h
        have h : (decide (asy = 0) && decide (tg = 1) && cs.all (fun n => decide (c.scope.names.lookup n = some NameKind.cell) || decide (c.scope.names.lookup n = some NameKind.free)) && compScopeOk sc [tx] cs &&
          matchI c it i && matchE ⟨c.g, sc, [tx] ++ cs⟩ elt x && matchIfs ⟨c.g, sc, [tx] ++ cs⟩ cond ifs) = true := h
        rw [Bool.and_eq_true, Bool.and_eq_true, Bool.and_eq_true, Bool.and_eq_true, Bool.and_eq_true, Bool.and_eq_true, decide_eq_true_eq, decide_eq_true_eq] at h
        obtain ⟨⟨⟨⟨⟨⟨rfl, rfl⟩, hout⟩, hsc⟩, hi⟩, he⟩, hf⟩ := h
        obtain ⟨px, rfl⟩ := tgtName_spec h2
        rw [one_spec h1]
        exact ⟨x, tx, px, i, ifs, sc, pos, cs, rfl, rfl, compOk_of h3 hout hsc, hi, he, hf⟩
theorem inv_rng {es : PEs} {e : Expr} (h : matchI c (.rng es) e = true) : ∃ f a as pos, e = .Call f (a :: as) [] pos ∧ c.isNm f "range" = true ∧ matchEs c es (a :: as) = true := by
  cases e <;> first | exact (Bool.false_ne_true h).elim | skip
  rename_i f as kw pos
  have h : (kw.isEmpty && c.isNm f "range" && !as.isEmpty && matchEs c es as) = true := h
  simp only [Bool.and_eq_true, List.isEmpty_iff] at h
  obtain ⟨⟨⟨rfl, h1⟩, h0⟩, h3⟩ := h
  cases as with
  | nil => exact (Bool.false_ne_true h0).elim
  | cons a r => exact ⟨f, a, r, pos, rfl, h1, h3⟩
theorem inv_cons {pe : PE} {ps : PEs} {es : List Expr} (h : matchEs c (.cons pe ps) es = true) : ∃ x xs, es = x :: xs ∧ matchE c pe x = true ∧ notStar x = true ∧ matchEs c ps xs = true := by
  cases es with
  | nil => exact (Bool.false_ne_true h).elim
  | cons x xs =>
    have h : (matchE c pe x && notStarM x && matchEs c ps xs) = true := h
    simp only [Bool.and_eq_true] at h
    exact ⟨x, xs, rfl, h.1.1, notStarM_eq x ▸ h.1.2, h.2⟩
end

section
variable {X : SX} {g : GC} (hA : AOk X.prog X.A) (hΦ : SCall X.prog X.w X.G g X.DT X.A X.Φ)
include hA hΦ

mutual
theorem soundE : (pe : PE) → ∀ (sc : Scope) (names : List Str) (e : Expr), matchE ⟨g, sc, names⟩ pe e = true → SE X ⟨g, sc, names⟩ pe e ∧ SC X ⟨g, sc, names⟩ pe e
  | .cint i, sc, names, e, h => by
    cases e <;> first | exact (Bool.false_ne_true h).elim | skip
    rename_i k _ _
    cases k <;> first | exact (Bool.false_ne_true h).elim | skip
    cases of_decide_eq_true h; exact both se_cint pt_const
  | .cbool i, sc, names, e, h => by
    cases e <;> first | exact (Bool.false_ne_true h).elim | skip
    rename_i k _ _
    cases k <;> first | exact (Bool.false_ne_true h).elim | skip
    cases of_decide_eq_true h; exact both se_cbool pt_const
  | .cstr i, sc, names, e, h => by
    cases e <;> first | exact (Bool.false_ne_true h).elim | skip
    rename_i k _ _
    cases k <;> first | exact (Bool.false_ne_true h).elim | skip
    cases of_decide_eq_true h; exact both se_cstr pt_const
  | .cnone, sc, names, e, h => by
    cases e <;> first | exact (Bool.false_ne_true h).elim | skip
    rename_i k _ _
    cases k <;> first | exact (Bool.false_ne_true h).elim | skip
    exact both se_cnone pt_const
  | .var i, sc, names, e, h => by
    obtain ⟨x, p, rfl, h⟩ := varNm_spec h
    exact both (se_var h) pt_name
  | .fnv k, sc, names, e, h => by
    obtain ⟨x, p, rfl, h1, h2⟩ := fnNm_spec h
    exact both (se_fnv h1 h2) pt_name
  | .glob x a b, sc, names, e, h => by
    have h := Bool.and_eq_true_iff.mp h
    have hs := se_glob (X := X) (c := ⟨g, sc, names⟩) (List.contains_iff_mem.mp h.1) h.2
    obtain ⟨p, rfl, _⟩ := MC.isNm_spec h.2
    exact both hs pt_name
  | .bin op a b, sc, names, e, h => by
    cases e <;> first | exact (Bool.false_ne_true h).elim | skip
    rename_i l o r p
    have h : (decide (o = opOf op) && matchE ⟨g, sc, names⟩ a l && matchE ⟨g, sc, names⟩ b r) = true := h
    simp only [Bool.and_eq_true, decide_eq_true_eq] at h
    obtain ⟨⟨rfl, h1⟩, h2⟩ := h
    exact both (se_bin (op := op) hA (soundE a sc names _ h1).1 (soundE b sc names _ h2).1) pt_bin
  | .neg a, sc, names, e, h => by
    cases e <;> first | exact (Bool.false_ne_true h).elim | skip
    rename_i o x p
    have h := Bool.and_eq_true_iff.mp h
    cases of_decide_eq_true h.1
    exact both (se_neg (soundE a sc names _ h.2).1) pt_neg
  | .nt a, sc, names, e, h => by
    cases e <;> first | exact (Bool.false_ne_true h).elim | skip
    rename_i o x p
    have h := Bool.and_eq_true_iff.mp h
    cases of_decide_eq_true h.1
    exact ⟨se_nt (soundE a sc names _ h.2).1, sc_nt (soundE a sc names _ h.2).2⟩
  | .cmp op a b, sc, names, e, h => by
    obtain ⟨l, r, p, rfl, hm, h1, h2⟩ := inv_cmp h
    exact ⟨se_cmp hA hm (soundE a sc names _ h1).1 (soundE b sc names _ h2).1, sc_cmp hA hm (soundE a sc names _ h1).1 (soundE b sc names _ h2).1⟩
  | .and es, sc, names, e, h => by
    cases e <;> first | exact (Bool.false_ne_true h).elim | skip
    have h := Bool.and_eq_true_iff.mp h
    cases of_decide_eq_true h.1
    exact ⟨se_and (soundAll true es sc names _ h.2).1, sc_and (soundAll true es sc names _ h.2).2⟩
  | .or es, sc, names, e, h => by
    cases e <;> first | exact (Bool.false_ne_true h).elim | skip
    have h := Bool.and_eq_true_iff.mp h
    cases of_decide_eq_true h.1
    exact ⟨se_or (soundAll false es sc names _ h.2).1, sc_or (soundAll false es sc names _ h.2).2⟩
  | .call f es, sc, names, e, h => by
    obtain ⟨x, p, a, r, pos, rfl, h1, h2, h3⟩ := inv_call h
    obtain ⟨hs, hn⟩ := soundEs es sc names _ h3
    exact both (se_call (c := ⟨g, sc, names⟩) hΦ h1 h2 (Bool.and_eq_true_iff.mp hn).1 hs) pt_call
  | .callv _ _, sc, names, e, h => (Bool.false_ne_true h).elim
  | .bi b es, sc, names, e, h => by
    obtain ⟨f, a, r, pos, rfl, hb, h1, h3⟩ := inv_bi h
    obtain ⟨hs, hn⟩ := soundEs es sc names _ h3
    exact both (se_bi hA hb h1 hn hs) pt_call
  | .isi a ts, sc, names, e, h => by
    obtain ⟨f, x, t, pos, rfl, h1, h2, h3, h4⟩ := inv_isi h
    rcases inv_isiOk h4 with ⟨es, k, p, rfl, h5⟩ | ⟨ty, rfl, h5⟩
    · exact both (se_isiN h1 h3 (soundE a sc names _ h2).1 h5) pt_call
    · exact both (se_isi1 h1 h3 (soundE a sc names _ h2).1 h5) pt_call
  | .idx a b, sc, names, e, h => by
    cases e <;> first | exact (Bool.false_ne_true h).elim | skip
    have h := Bool.and_eq_true_iff.mp h
    have h1 := Bool.and_eq_true_iff.mp h.1
    exact both (se_idx h.2 (soundE a sc names _ h1.1).1 (soundE b sc names _ h1.2).1) pt_sub
  | .slc a lo hi, sc, names, e, h => by
    obtain ⟨x, l, hh, p, pos, rfl, h1, h2, h3⟩ := inv_slc h
    exact both (se_slc (soundE a sc names _ h1).1 (soundO lo sc names _ h2) (soundO hi sc names _ h3)) pt_sub
  | .tup es, sc, names, e, h => by
    cases e <;> first | exact (Bool.false_ne_true h).elim | skip
    have h := Bool.and_eq_true_iff.mp h
    exact both (se_tup (of_decide_eq_true h.1) (soundEs es sc names _ h.2).1) pt_tup
  | .lst es, sc, names, e, h => by
    cases e <;> first | exact (Bool.false_ne_true h).elim | skip
    have h := Bool.and_eq_true_iff.mp h
    exact both (se_lst (of_decide_eq_true h.1) (soundEs es sc names _ h.2).1) pt_list
  | .comp elt tg caps it cond, sc, names, e, h => by
    obtain ⟨x, tx, px, i, ifs, sc', pos, cs, rfl, rfl, hK, hi, he, hf⟩ := inv_comp h
    obtain ⟨hsi, hns⟩ := soundI it sc names _ hi
    exact both (se_comp hK (soundE elt sc' _ _ he).1 (soundIfs cond sc' _ _ hf) hsi hns) pt_comp
theorem soundEs : (ps : PEs) → ∀ (sc : Scope) (names : List Str) (es : List Expr), matchEs ⟨g, sc, names⟩ ps es = true → SEs X ⟨g, sc, names⟩ ps es ∧ noStar es = true
  | .nil, sc, names, es, h => by
    cases es with
    | nil => exact ⟨ses_nil, rfl⟩
    | cons _ _ => exact (Bool.false_ne_true h).elim
  | .cons pe ps, sc, names, es, h => by
    obtain ⟨x, xs, rfl, h1, hst, h2⟩ := inv_cons h
    obtain ⟨h3, h4⟩ := soundEs ps sc names _ h2
    exact ⟨ses_cons hst (soundE pe sc names _ h1).1 h3, Bool.and_eq_true_iff.mpr ⟨hst, h4⟩⟩
theorem soundAll : (b : Bool) → (ps : PEs) → ∀ (sc : Scope) (names : List Str) (es : List Expr), matchEs ⟨g, sc, names⟩ ps es = true → SAll X ⟨g, sc, names⟩ b ps es ∧ SAllC X ⟨g, sc, names⟩ b ps es
  | b, .nil, sc, names, es, h => by
    cases es with
    | nil => exact ⟨sall_nil, sallc_nil⟩
    | cons _ _ => exact (Bool.false_ne_true h).elim
  | b, .cons pe ps, sc, names, es, h => by
    obtain ⟨x, xs, rfl, h1, _, h2⟩ := inv_cons h
    have ih := soundAll b ps sc names _ h2
    cases ps with
    | nil =>
      cases xs with
      | nil => exact ⟨sall_one (soundE pe sc names _ h1).1, sallc_one (soundE pe sc names _ h1).2⟩
      | cons _ _ => exact (Bool.false_ne_true h2).elim
    | cons p2 ps =>
      obtain ⟨y, ys, rfl, _⟩ := inv_cons h2
      exact ⟨sall_cons (soundE pe sc names _ h1).1 ih.1, sallc_cons (soundE pe sc names _ h1).2 ih.2⟩
theorem soundO : (po : PO) → ∀ (sc : Scope) (names : List Str) (o : Option Expr), matchO ⟨g, sc, names⟩ po o = true → SO X ⟨g, sc, names⟩ po o
  | .no, sc, names, o, h => by
    cases o with
    | none => rfl
    | some _ => exact (Bool.false_ne_true h).elim
  | .some pe, sc, names, o, h => by
    cases o with
    | none => exact (Bool.false_ne_true h).elim
    | some x => exact ⟨_, rfl, (soundE pe sc names _ h).1⟩
theorem soundIfs : (po : PO) → ∀ (sc : Scope) (names : List Str) (o : List Expr), matchIfs ⟨g, sc, names⟩ po o = true → SIfs X ⟨g, sc, names⟩ po o
  | .no, sc, names, o, h => by
    cases o with
    | nil => rfl
    | cons _ _ => exact (Bool.false_ne_true h).elim
  | .some pe, sc, names, o, h => by
    cases o with
    | nil => exact (Bool.false_ne_true h).elim
    | cons x r => cases r with
      | nil => exact ⟨_, rfl, (soundE pe sc names _ h).2⟩
      | cons _ _ => exact (Bool.false_ne_true h).elim
theorem soundI : (pi : PI) → ∀ (sc : Scope) (names : List Str) (e : Expr), matchI ⟨g, sc, names⟩ pi e = true → SI X ⟨g, sc, names⟩ pi e ∧ notSet e = true
  | .seq pe, sc, names, e, h => by
    have h := Bool.and_eq_true_iff.mp h
    exact ⟨si_seq hA (soundE pe sc names _ h.1).1, h.2⟩
  | .rev _, sc, names, e, h => (Bool.false_ne_true h).elim
  | .rng es, sc, names, e, h => by
    obtain ⟨f, a, r, pos, rfl, h1, h3⟩ := inv_rng h
    obtain ⟨p, rfl, hx⟩ := MC.isNm_spec h1
    obtain ⟨hs, hn⟩ := soundEs es sc names _ h3
    exact ⟨si_rng hA hx hn hs, rfl⟩
end
end
end Mine

set_option autoImplicit false
set_option linter.unusedSimpArgs false
set_option linter.unusedVariables false
namespace Mine
open PySem PyProof.Rows PySem.Calls

/-- a frame of an own def: the heap at its entry, its place -/
structure FC where
  c : MC
  env : Env
  hb : Heap

structure FCOk (f : FC) : Prop where
  env : EnvOk f.c f.env
  nodup : f.c.names.Nodup
  kind : ∀ x, f.c.scope.names.lookup x ≠ some NameKind.free
  deadL : f.hb.get? f.env.locals = none
  deadC : ∀ n a, (n, a) ∈ f.env.cells → f.hb.get? a = none
  above : ∀ n a, (n, a) ∈ f.env.cells → f.env.locals < a
  apart : f.env.cells.Pairwise fun x y => x.2 ≠ y.2
  uniq : ∀ n a, (n, a) ∈ f.env.cells → f.env.cells.lookup n = some a

/-- the frame's state: its variables, and what stood at its entry -/
structure FrS (G : GV) (f : FC) (W : Nat → Prop) (h : Heap) (α : List Addr) (ρ : Loc) : Prop where
  fr : ∃ m cm, h.Ns f.env.locals m ∧ Cl f.env.locals f.env.cells h cm ∧ ∀ (i : Nat) (x : Str) (d : V), f.c.names[i]? = some x → lget ρ i = some d →
    ∃ v, ((f.env.kindOf x = some .local ∧ m x = some v) ∨ (f.env.kindOf x = some .cell ∧ cm x = some v ∧ ∃ a, f.env.cells.lookup x = some a)) ∧ Rep G α h v d
  kb : KeepsH f.hb h
  wb : ∀ n a, α[n]? = some a → W n → f.hb.get? a = none

theorem FrS.fi {G : GV} {f : FC} {W : Nat → Prop} {h : Heap} {α : List Addr} {ρ : Loc} (F : FrS G f W h α ρ) : FI G f.c f.env α h ρ := fun i x d e1 e2 => by
  obtain ⟨m, cm, hn, hc, hv⟩ := F.fr
  obtain ⟨v, hv, r⟩ := hv i x d e1 e2
  refine ⟨v, ?_, r⟩
  rcases hv with ⟨k, e⟩ | ⟨k, e, a, ha⟩
  · exact .inl ⟨k, m, hn, e⟩
  · exact .inr ⟨.inl k, a, ha, by have := hc.cell x a ha; rw [e] at this; exact this⟩
theorem FrS.up {G : GV} {f : FC} {W : Nat → Prop} {h h' : Heap} {α β : List Addr} {ρ : Loc} (F : FrS G f W h α ρ) (k : KeepsH h h') (hf : ∀ b ∈ β, h.get? b = none) : FrS G f W h' (α ++ β) ρ := by
  obtain ⟨m, cm, hn, hc, hv⟩ := F.fr
  refine ⟨⟨m, cm, hn.keeps k, hc.keeps k, fun i x d e1 e2 => ?_⟩, F.kb.trans k, fun n a ha hw => ?_⟩
  · obtain ⟨v, hv, r⟩ := hv i x d e1 e2
    exact ⟨v, hv, r.up k⟩
  · by_cases hl : n < α.length
    · rw [List.getElem?_append_left hl] at ha; exact F.wb n a ha hw
    · rw [List.getElem?_append_right (by (clear F k hf hn hc hv ha hw; omega))] at ha
      have hm := hf a (List.mem_of_getElem? ha)
      cases e : f.hb.get? a with
      | none => rfl
      | some o => have := F.kb a o e; rw [hm] at this; cases this
theorem FrS.weak {G : GV} {f : FC} {W W' : Nat → Prop} {h : Heap} {α : List Addr} {ρ : Loc} (F : FrS G f W h α ρ) (hw : ∀ n, W' n → W n) : FrS G f W' h α ρ := ⟨F.fr, F.kb, fun n a e w => F.wb n a e (hw n w)⟩

theorem lget_lset {v : V} : ∀ (ρ : Loc) (i j : Nat), lget (lset ρ i v) j = some v ∧ j = i ∨ lget (lset ρ i v) j = lget ρ j ∧ (j ≠ i ∨ lget ρ j = none)
  | [], i, j => by cases i <;> cases j <;> simp [lset, lget]
  | x :: r, 0, 0 => by simp [lset, lget]
  | x :: r, 0, j + 1 => by simp [lset, lget]
  | x :: r, i + 1, 0 => by simp [lset, lget]
  | x :: r, i + 1, j + 1 => by
    simp only [lset, lget]
    rcases lget_lset r i j with ⟨a, b⟩ | ⟨a, b⟩
    · exact .inl ⟨a, by (clear a; omega)⟩
    · exact .inr ⟨a, by rcases b with b | b; exact .inl (by (clear a; omega)); exact .inr b⟩

/-- every object that lives, lives on -/
noncomputable def Lives (h h' : Heap) : Prop := ∀ b o, h.get? b = some o → ∃ o', h'.get? b = some o'
theorem Lives.of {h h' : Heap} (k : KeepsH h h') : Lives h h' := fun b o e => ⟨o, k b o e⟩
theorem Lives.trans {h h' h'' : Heap} (a : Lives h h') (b : Lives h' h'') : Lives h h'' := fun x o e => let ⟨o', e'⟩ := a x o e; b x o' e'
theorem Lives.sameBut {h h' : Heap} {a : Addr} (hs : Heap.SameBut a h h') (ha : ∃ o, h'.get? a = some o) : Lives h h' := fun b o e => by
  by_cases hb : b = a
  · subst hb; exact ha
  · exact ⟨o, hs.extBut b o hb e⟩

/-- all is kept but the frame and its cells -/
noncomputable def KeepsF (f : FC) (h h' : Heap) : Prop := ∀ b o, h.get? b = some o → b ≠ f.env.locals → (∀ n, (n, b) ∉ f.env.cells) → h'.get? b = some o

theorem FrS.alive {G : GV} {f : FC} {W : Nat → Prop} {h : Heap} {α : List Addr} {ρ : Loc} (F : FrS G f W h α ρ) : (∃ o, h.get? f.env.locals = some o) := by
  obtain ⟨m, cm, ⟨o, es, ep, ho, _⟩, _⟩ := F.fr
  exact ⟨o, ho⟩
section
variable {M : Model} {A : Around} {E : Value → Shared → Prop} {s : Shared} {G : GV} {f : FC} {W : Nat → Prop} {α : List Addr} {ρ : Loc}
theorem store_var {i : Nat} {x : Str} {v : Value} {d : V} {Q : Unit → Shared → Prop} (K : FCOk f) (F : FrS G f W s.heap α ρ) (hx : f.c.isVar i x = true) (r : Rep G α s.heap v d)
    (h : ∀ h' tk, FrS G f W h' α (lset ρ i d) → KeepsF f s.heap h' → KeepsLT s.heap h' → Lives s.heap h' → Q () { s with heap := h', toks := tk }) : wpAny M A (storeName f.env x v) Q E s := by
  obtain ⟨m, cm, hn, hc, hv⟩ := F.fr
  obtain ⟨hxi, _, _, hk⟩ := MC.isVar_spec hx
  have other : ∀ j y e, f.c.names[j]? = some y → lget (lset ρ i d) j = some e → (j = i ∧ e = d) ∨ (y ≠ x ∧ lget ρ j = some e) := fun j y e hj he => by
    rcases lget_lset (v := d) ρ i j with ⟨a, b⟩ | ⟨a, b⟩
    · rw [a] at he; cases he; exact .inl ⟨b, rfl⟩
    · rw [a] at he
      rcases b with b | b
      · refine .inr ⟨fun q => b ?_, he⟩
        subst q
        obtain ⟨l1, g1⟩ := List.getElem?_eq_some_iff.mp hj
        obtain ⟨l2, g2⟩ := List.getElem?_eq_some_iff.mp hxi
        exact (List.getElem_inj K.nodup).mp (g1.trans g2.symm)
      · rw [b] at he; cases he
  have hkind : f.env.kindOf x = some .local ∨ f.env.kindOf x = some .cell := by
    rcases hk with hk | hk | hk
    · exact .inl (K.env.loc x hk)
    · exact .inr (K.env.cel x hk)
    · exact absurd hk (K.kind x)
  rcases hkind with hl | hl
  · refine wpAny_storeName_local hl hn (fun h' hn' hs' => ?_) (by rw [K.env.kind]; rfl)
    have lt : KeepsLT s.heap h' := KeepsLT.sameBut hs' (ns_notSeq hn)
    refine h h' _ ⟨⟨_, cm, hn', hc.sameBut hs' (Nat.le_refl _), fun j y e hj he => ?_⟩, fun b o e => hs'.extBut b o (fun q => by rw [q, K.deadL] at e; cases e) (F.kb b o e), F.wb⟩ (fun b o e hb _ => hs'.extBut b o hb e) lt (.sameBut hs' (let ⟨o, _, _, ho, _⟩ := hn'; ⟨o, ho⟩))
    rcases other j y e hj he with ⟨rfl, rfl⟩ | ⟨hy, he⟩
    · rw [hxi] at hj; cases hj
      exact ⟨v, .inl ⟨hl, if_pos rfl⟩, r.mono (fun _ _ e => e) lt.tup⟩
    · obtain ⟨u, hu, ru⟩ := hv j y e hj he
      refine ⟨u, ?_, ru.mono (fun _ _ e => e) lt.tup⟩
      rcases hu with ⟨k, e⟩ | hu
      · exact .inl ⟨k, by rw [if_neg hy]; exact e⟩
      · exact .inr hu
  · obtain ⟨ca, hca⟩ := K.env.cells x (.inl hl)
    have hcell := hc.cell x ca hca
    have hmem := PySem.mem_of_lookup hca
    refine wpAny_storeName_cell K.env.kind hl hca hcell fun h' hv' hs' => ?_
    have lt : KeepsLT s.heap h' := KeepsLT.sameBut hs' fun o ho items n d => by
      obtain ⟨o', ho', hd'⟩ := hcell
      rw [ho] at ho'; cases ho'; rw [hd'] at d; cases d
    have hLc : f.env.locals < ca := K.above x ca hmem
    refine h h' s.toks ⟨⟨m, fun y => if y = x then some v else cm y, hn.sameBut hs' (Nat.ne_of_lt hLc), ⟨fun n c' e => ?_, hc.apart, hc.above⟩, fun j y e hj he => ?_⟩, fun b o e => hs'.extBut b o (fun q => by rw [q, K.deadC x ca hmem] at e; cases e) (F.kb b o e), F.wb⟩ (fun b o e _ hb => hs'.extBut b o (fun q => hb x (q ▸ hmem)) e) lt (.sameBut hs' (let ⟨o, ho, _⟩ := hv'; ⟨o, ho⟩))
    · by_cases hnx : n = x
      · subst hnx; rw [hca] at e; cases e; simpa using hv'
      · have hcc : c' ≠ ca := fun q => hnx (name_of_addr hc.apart (PySem.mem_of_lookup e) (q ▸ hmem))
        simpa [hnx] using (hc.cell n c' e).sameBut hs' hcc
    · rcases other j y e hj he with ⟨rfl, rfl⟩ | ⟨hy, he⟩
      · rw [hxi] at hj; cases hj
        exact ⟨v, .inr ⟨hl, if_pos rfl, ca, hca⟩, r.mono (fun _ _ e => e) lt.tup⟩
      · obtain ⟨u, hu, ru⟩ := hv j y e hj he
        refine ⟨u, ?_, ru.mono (fun _ _ e => e) lt.tup⟩
        rcases hu with hu | ⟨k, e, a, ha⟩
        · exact .inl hu
        · exact .inr ⟨k, by show (if y = x then some v else cm y) = some u; rw [if_neg hy]; exact e, a, ha⟩
end
end Mine

set_option autoImplicit false
set_option linter.unusedSimpArgs false
set_option linter.unusedVariables false
namespace Mine
open PySem PyProof.Rows PySem.Calls

/-- from state to state: only the frame and the lists that may be written have turned -/
structure StepS (f : FC) (W : Nat → Prop) (s : Shared) (α : List Addr) (H : Hp) (h' : Heap) (β : List Addr) (H' : Hp) : Prop where
  keep : ∀ b o, s.heap.get? b = some o → b ≠ f.env.locals → (∀ n, (n, b) ∉ f.env.cells) → (∀ n, α[n]? = some b → ¬ W n) → h'.get? b = some o
  fresh : ∀ b ∈ β, s.heap.get? b = none
  same : ∀ n, n < H.length → ¬ W n → H'[n]? = H[n]?
  le : H.length ≤ H'.length

theorem StepS.refl {f : FC} {W : Nat → Prop} {s : Shared} {α : List Addr} {H : Hp} : StepS f W s α H s.heap [] H := ⟨fun _ _ e _ _ _ => e, by simp, fun _ _ _ => rfl, Nat.le_refl _⟩
theorem StepS.of {f : FC} {W : Nat → Prop} {s : Shared} {α : List Addr} {H : Hp} {h' : Heap} {β : List Addr} {K : Hp} (k : KeepsH s.heap h') (hf : ∀ b ∈ β, s.heap.get? b = none) : StepS f W s α H h' β (H ++ K) :=
  ⟨fun b o e _ _ _ => k b o e, hf, fun n hn _ => List.getElem?_append_left hn, by simp⟩
theorem StepS.trans {f : FC} {W : Nat → Prop} {s : Shared} {α : List Addr} {H : Hp} {h₁ h₂ : Heap} {tk : Nat} {β₁ β₂ : List Addr} {H₁ H₂ : Hp}
    (a : StepS f W s α H h₁ β₁ H₁) (ak : ∀ b o, s.heap.get? b = some o → ∃ o', h₁.get? b = some o') (b : StepS f W { s with heap := h₁, toks := tk } (α ++ β₁) H₁ h₂ β₂ H₂) : StepS f W s α H h₂ (β₁ ++ β₂) H₂ := by
  refine ⟨fun x o e h1 h2 h3 => ?_, fun x hx => ?_, fun n hn hw => ?_, Nat.le_trans a.le b.le⟩
  · refine b.keep x o (a.keep x o e h1 h2 h3) h1 h2 fun n hn => ?_
    by_cases hlt : n < α.length
    · rw [List.getElem?_append_left hlt] at hn; exact h3 n hn
    · rw [List.getElem?_append_right (by (clear a ak b e h1 h2 h3 hn; omega))] at hn
      have := a.fresh x (List.mem_of_getElem? hn)
      rw [e] at this; cases this
  · rcases List.mem_append.mp hx with hx | hx
    · exact a.fresh x hx
    · cases e : s.heap.get? x with
      | none => rfl
      | some o =>
        obtain ⟨o', e'⟩ := ak x o e
        have := b.fresh x hx
        rw [show ({ s with heap := h₁, toks := tk } : Shared).heap.get? x = some o' from e'] at this; cases this
  · rw [b.same n (Nat.lt_of_lt_of_le hn a.le) hw]; exact a.same n hn hw

/-- the post of a statement -/
inductive PostS (G : GV) (f : FC) (W : Nat → Prop) (s : Shared) (α : List Addr) (H : Hp) (N : Loc → Hp → Prop) (R : V → Hp → Prop) (fl : Flow) (s' : Shared) : Prop
  | mk (h' : Heap) (tk : Nat) (β : List Addr) (H' : Hp) (e : s' = { s with heap := h', toks := tk }) (st : StepS f W s α H h' β H') (lv : Lives s.heap h') (hr : HR G (α ++ β) h' H') (c : match fl with
    | .next => ∃ ρ', FrS G f W h' (α ++ β) ρ' ∧ N ρ' H'
    | .ret v => KeepsH f.hb h' ∧ ∃ d, Rep G (α ++ β) h' v d ∧ R d H'
    | _ => False)

/-- what a raise needs -/
noncomputable def RaiseOk (X : SX) (f : FC) (W : Nat → Prop) (s : Shared) (α : List Addr) (H : Hp) (Y : Nat → Hp → Prop) (E : Value → Shared → Prop) : Prop :=
  ∀ (k : Nat) (st : Stmt) (h' : Heap) (tk : Nat) (β : List Addr) (H' : Hp) (ρ' : Loc), matchS f.c (.raise k) st = true → StepS f W s α H h' β H' → Lives s.heap h' → HR X.G (α ++ β) h' H' → FrS X.G f W h' (α ++ β) ρ' → Y k H' →
    wpAny (model X.prog X.w) X.A (exec st f.env) (fun _ _ => False) E { s with heap := h', toks := tk }

noncomputable def SS (X : SX) (f : FC) (ps : PS) (st : Stmt) : Prop :=
  ∀ (W : Nat → Prop) (s : Shared) (α : List Addr) (ρ : Loc) (H : Hp) (N : Loc → Hp → Prop) (R : V → Hp → Prop) (Y : Nat → Hp → Prop) (E : Value → Shared → Prop), (∀ n, W n → 1 ≤ n) → GF X.G f.c.g X.DT f.hb → FrS X.G f W s.heap α ρ → HR X.G α s.heap H →
    RaiseOk X f W s α H Y E → wpS X.sub X.Φ W ps ρ H N R Y → wpAny (model X.prog X.w) X.A (exec st f.env) (PostS X.G f W s α H N R) E s
noncomputable def SB (X : SX) (f : FC) (ps : PS) (sts : List Stmt) : Prop :=
  ∀ (W : Nat → Prop) (s : Shared) (α : List Addr) (ρ : Loc) (H : Hp) (N : Loc → Hp → Prop) (R : V → Hp → Prop) (Y : Nat → Hp → Prop) (E : Value → Shared → Prop), (∀ n, W n → 1 ≤ n) → GF X.G f.c.g X.DT f.hb → FrS X.G f W s.heap α ρ → HR X.G α s.heap H →
    RaiseOk X f W s α H Y E → wpS X.sub X.Φ W ps ρ H N R Y → wpAny (model X.prog X.w) X.A (execs sts f.env) (PostS X.G f W s α H N R) E s

end Mine

set_option autoImplicit false
set_option linter.unusedSimpArgs false
set_option linter.unusedVariables false
namespace Mine
open PySem PyProof.Rows PySem.Calls

theorem upd_plain {h : Heap} {a : Addr} {items : Array Value} (x : h.PlainList a items) (f : Array Value → Array Value) : (h.update a (Obj.mapSeq f)).PlainList a (f items) := by
  obtain ⟨n, e⟩ := x
  have := Heap.get?_update_self (h := h) (a := a) (Obj.mapSeq f) e rfl
  exact ⟨_, this⟩

section
variable {prog : Program} {w : World} {A : Around} {E : Value → Shared → Prop} {s : Shared}

theorem setItem_plain {l : Addr} {items : Array Value} {k : Int} {j : Nat} {t : Tok} {v : Value} {Q : Unit → Shared → Prop} (hl : s.heap.PlainList l items) (hp : place items.size k = some j) (hz : items.size ≤ 1000000)
    (hQ : Q () { s with heap := s.heap.update l (Obj.mapSeq (·.setIfInBounds j v)) }) :
    wpAny (model prog w) A (setItem (.ref l) (.int k t) v) Q E s := by
  obtain ⟨ne, ho⟩ := id hl
  have hty := hl.isList.typeIs
  obtain ⟨h1, h2⟩ := place_spec hp
  have hx' : items[j]? = some items[j] := Array.getElem?_eq_getElem h1
  unfold setItem
  try with_reducible refine wpAny_holding ?_
  first | refine wpAny_bind (wpAny_pure ?_) | skip
  refine wpAny_bind (wpAny_sequenceKey hty (by decide) ?_)
  refine wpAny_bind (wpAny_callSpecial?_slot (name := Str.ofString "__setitem__") hty slot_list_setitem
    (wpAny_call_entry slot_list_setitem hty entry_list_setitem ?_ (args_list_setitem _ _ _)))
  show wpAny _ _ (Builtin.List.listSubscript? (.int k t) >>= _) _ _ s
  rcases h2 with ⟨h0, h2⟩ | ⟨h0, h2⟩
  · refine wpAny_bind (wpAny_listSubscript_int (fitsIndex_of h0 (by (clear hl hp hQ ho hty hx' h0; omega))) ?_)
    subst h2
    show wpAny _ _ ((seqItemAt l j >>= fun r => pure (r.map (j, ·))) >>= _) _ _ s
    refine wpAny_bind (wpAny_bind (wpAny_seqItemAt ho rfl (wpAny_pure ?_)))
    rw [hx']
    show wpAny _ _ (setSeqItemAt l j v >>= _) _ _ s
    refine wpAny_bind (wpAny_setSeqItemAt ho rfl ?_)
    first
      | exact wpAny_bind (wpAny_pure (wpAny_pure ⟨.none, rfl, wpAny_pure hQ⟩))
      | exact wpAny_pure ⟨.none, rfl, wpAny_pure hQ⟩
  · refine wpAny_bind (wpAny_listSubscript_int (fitsIndex_neg h0 (by (clear hl hp hQ ho hty hx' h0; omega))) ?_)
    have hidx : seqIndex? k items.size = some j := place_seq hp
    obtain ⟨i, rfl⟩ : ∃ i : Nat, k = Int.negSucc i := by
      cases k with
      | ofNat n => exact absurd h0 (Int.not_lt.mpr (Int.ofNat_nonneg n))
      | negSucc n => exact ⟨n, rfl⟩
    show wpAny _ _ ((Builtin.List.listItems (.ref l) >>= fun xs => pure ((seqIndex? (Int.negSucc i) xs.size).bind fun i => xs[i]?.map (i, ·))) >>= _) _ _ s
    refine wpAny_bind (wpAny_bind ?_)
    show wpAny _ _ (seqItems? (.ref l) >>= _) _ _ s
    refine wpAny_bind (wpAny_seqItems ho rfl (wpAny_pure (wpAny_pure ?_)))
    rw [hidx]
    simp only [Option.bind_some, hx', Option.map_some]
    show wpAny _ _ (setSeqItemAt l j v >>= _) _ _ s
    refine wpAny_bind (wpAny_setSeqItemAt ho rfl ?_)
    first
      | exact wpAny_bind (wpAny_pure (wpAny_pure ⟨.none, rfl, wpAny_pure hQ⟩))
      | exact wpAny_pure ⟨.none, rfl, wpAny_pure hQ⟩
end

section
variable {G : GV} {f : FC} {W : Nat → Prop} {s : Shared} {α : List Addr} {ρ : Loc} {H : Hp}
/-- a list that may be written is written -/
theorem write_list (K : FCOk f) (F : FrS G f W s.heap α ρ) (R : HR G α s.heap H) {n : Nat} {a : Addr} {xs xs' : List V} {vs' : List Value} (hw : W n) (ha : α[n]? = some a) (hx : H[n]? = some xs) {h' : Heap} (hs : Heap.SameBut a s.heap h')
    (hl : h'.PlainList a vs'.toArray) (q : Reps G α s.heap vs' xs') (z : xs'.length ≤ lim) :
    FrS G f W h' α ρ ∧ HR G α h' (H.set n xs') ∧ StepS f W s α H h' [] (H.set n xs') ∧ Lives s.heap h' := by
  obtain ⟨kt, R'⟩ := R.set ha hx hs hl q z
  obtain ⟨m, cm, hn, hc, hv⟩ := F.fr
  obtain ⟨us, ⟨o, ho, hcl, no, hd⟩, _⟩ := R.lst n a xs ha hx
  have hL : a ≠ f.env.locals := fun q => by
    obtain ⟨o', es, ep, ho', hd', _⟩ := hn
    rw [← q, ho] at ho'; cases ho'; rw [hd] at hd'; cases hd'
  refine ⟨⟨⟨m, cm, hn.sameBut hs (Ne.symm hL), ⟨fun x c e => ?_, hc.apart, hc.above⟩, fun i x d e1 e2 => ?_⟩, fun b ob e => hs.extBut b ob (fun q => ?_) (F.kb b ob e), F.wb⟩, R', ⟨fun b ob e _ _ h3 => hs.extBut b ob (fun q => h3 n (q ▸ ha) hw) e, by simp, fun k hk hnw => ?_, by simp⟩, .sameBut hs (let ⟨k, e⟩ := hl; ⟨_, e⟩)⟩
  · refine (hc.cell x c e).sameBut hs fun q => ?_
    obtain ⟨o', ho', hd'⟩ := hc.cell x c e
    rw [q, ho] at ho'; cases ho'; rw [hd] at hd'; cases hd'
  · obtain ⟨v, hv, r⟩ := hv i x d e1 e2
    exact ⟨v, hv, r.mono (fun _ _ e => e) kt⟩
  · rw [q, F.wb n a ha hw] at e; cases e
  · rw [List.getElem?_set_ne (fun (q : n = k) => hnw (q ▸ hw))]
end
end Mine

set_option autoImplicit false
set_option linter.unusedSimpArgs false
set_option linter.unusedVariables false
namespace Mine
open PySem PyProof.Rows PySem.Calls

section
variable {X : SX} {f : FC}

theorem GF.at {G : GV} {gc : GC} {DT : List DefT} {W : Nat → Prop} {h : Heap} {α : List Addr} {ρ : Loc} (T : GF G gc DT f.hb) (F : FrS G f W h α ρ) : GF G gc DT h := T.keeps F.kb

/-- a statement that ends in a store -/
theorem store_post (K : FCOk f) {W : Nat → Prop} {s : Shared} {α : List Addr} {ρ : Loc} {H : Hp} {N : Loc → Hp → Prop} {R : V → Hp → Prop} {E : Value → Shared → Prop} {i : Nat} {x : Str} (F : FrS X.G f W s.heap α ρ) (hx : f.c.isVar i x = true)
    {v : Value} {s₁ : Shared} (p : Post X.G (Rep X.G) s α H (fun v H1 => N (lset ρ i v) H1) v s₁) :
    wpAny (model X.prog X.w) X.A (storeName f.env x v) (fun _ => PostS X.G f W s α H N R .next) E s₁ := by
  obtain ⟨h₁, tk₁, β, K₁, d, rfl, k, fr, R', r, q⟩ := p
  refine store_var (s := { s with heap := h₁, toks := tk₁ }) K (F.up k fr) hx r fun h' tk F' kf lt lv => ?_
  refine ⟨h', tk, β, H ++ K₁, rfl, ⟨fun b o e h1 h2 _ => kf b o (k b o e) h1 h2, fr, fun n hn _ => List.getElem?_append_left hn, by simp⟩, (Lives.of k).trans lv, R'.lt' lt, _, F', q⟩

noncomputable abbrev notComp := notCompM
theorem swaps_false {e : Expr} (h : notComp e = true) (t : Option Expr) (l : Nat) (env : Env) : swapsWith e t l env = pure false := by
  cases e <;> first | rfl | cases h

theorem ss_assign {i : Nat} {x : Str} {pe : PE} {v : Expr} {px pos : Pos} (K : FCOk f) (hx : f.c.isVar i x = true) (h : SE X f.c pe v) (hc : notComp v = true) : SS X f (.assign i pe) (.Assign [.Name x px] v pos) := fun W s α ρ H N R Y E hW T F HR' hY q => by
  simp only [qS1, qS2, qS3, qS4, qS5, qS6, qS7, qS8, qS9, qS10, qS11, qS12, qS13, qS14, qS15, qS16, qS17, qS18] at q
  refine wpAny_Assign_Name (wpAny_mono (h f.env s α ρ H _ E K.env (T.at F) HR' F.fi q) (fun v s₁ p => ?_) fun _ _ x => x) (swaps_false hc _ _ _)
  exact store_post K F hx p

theorem ss_ret {pe : PE} {v : Expr} {pos : Pos} (K : FCOk f) (h : SE X f.c pe v) : SS X f (.ret pe) (.Return (some v) pos) := fun W s α ρ H N R Y E hW T F HR' hY q => by
  simp only [qS1, qS2, qS3, qS4, qS5, qS6, qS7, qS8, qS9, qS10, qS11, qS12, qS13, qS14, qS15, qS16, qS17, qS18] at q
  refine wpAny_Return_some (wpAny_mono (h f.env s α ρ H _ E K.env (T.at F) HR' F.fi q) (fun v s₁ p => ?_) fun _ _ x => x)
  obtain ⟨h₁, tk₁, β, K₁, d, rfl, k, fr, R', r, q⟩ := p
  exact ⟨h₁, tk₁, β, H ++ K₁, rfl, .of k fr, .of k, R', F.kb.trans k, d, r, q⟩

/-- from a later state -/
theorem PostS.trans {G : GV} {W : Nat → Prop} {s : Shared} {α : List Addr} {H : Hp} {N : Loc → Hp → Prop} {R : V → Hp → Prop} {h₁ : Heap} {tk₁ : Nat} {β : List Addr} {H₁ : Hp} {fl : Flow} {s' : Shared} (st : StepS f W s α H h₁ β H₁) (lv : Lives s.heap h₁)
    (p : PostS G f W { s with heap := h₁, toks := tk₁ } (α ++ β) H₁ N R fl s') : PostS G f W s α H N R fl s' := by
  obtain ⟨h', tk, β', H', rfl, st', lv', R', q⟩ := p
  refine ⟨h', tk, β ++ β', H', rfl, st.trans lv st', lv.trans lv', by simpa using R', ?_⟩
  cases fl with
  | next => obtain ⟨ρ', F', q⟩ := q; exact ⟨ρ', by simpa using F', q⟩
  | ret v => obtain ⟨k, d, r, q⟩ := q; exact ⟨k, d, by simpa using r, q⟩
  | brk => exact q
  | cont => exact q

theorem RaiseOk.later {W : Nat → Prop} {s : Shared} {α : List Addr} {H : Hp} {Y : Nat → Hp → Prop} {E : Value → Shared → Prop} {h₁ : Heap} {tk₁ : Nat} {β : List Addr} {H₁ : Hp} (hY : RaiseOk X f W s α H Y E) (st : StepS f W s α H h₁ β H₁) (lv : Lives s.heap h₁) :
    RaiseOk X f W { s with heap := h₁, toks := tk₁ } (α ++ β) H₁ Y E := fun k stm h' tk β' H' ρ' hm st' lv' R' F' y => by
  exact hY k stm h' tk (β ++ β') H' ρ' hm (st.trans lv st') (lv.trans lv') (by simpa using R') (by simpa using F') y

theorem sb_nil (K : FCOk f) : SB X f .skip [] := fun W s α ρ H N R Y E hW T F HR' hY q => by
  simp only [qS1, qS2, qS3, qS4, qS5, qS6, qS7, qS8, qS9, qS10, qS11, qS12, qS13, qS14, qS15, qS16, qS17, qS18] at q
  exact wpAny_execs_nil ⟨s.heap, s.toks, [], H, rfl, .refl, fun b o e => ⟨o, e⟩, by simpa using HR', ρ, by simpa using F, q⟩

theorem sb_cons {a b : PS} {st : Stmt} {sts : List Stmt} (K : FCOk f) (h1 : SS X f a st) (h2 : SB X f b sts) : SB X f (.seq a b) (st :: sts) := fun W s α ρ H N R Y E hW T F HR' hY q => by
  simp only [qS1, qS2, qS3, qS4, qS5, qS6, qS7, qS8, qS9, qS10, qS11, qS12, qS13, qS14, qS15, qS16, qS17, qS18] at q
  refine wpAny_execs_cons (wpAny_mono (h1 W s α ρ H _ R Y E hW T F HR' hY q) (fun fl s₁ p => ?_) fun _ _ x => x)
  cases fl with
  | next =>
    obtain ⟨h₁, tk₁, β, H₁, rfl, st, lv, R₁, ρ', F', q'⟩ := p
    exact wpAny_mono (h2 W { s with heap := h₁, toks := tk₁ } (α ++ β) ρ' H₁ N R Y E hW T F' R₁ (hY.later st lv) q') (fun _ _ p => p.trans st lv) fun _ _ x => x
  | ret v =>
    obtain ⟨h₁, tk₁, β, H₁, rfl, st, lv, R₁, k, d, r, q'⟩ := p
    exact ⟨h₁, tk₁, β, H₁, rfl, st, lv, R₁, k, d, r, q'⟩
  | brk => obtain ⟨_, _, _, _, _, _, _, _, q⟩ := p; exact q.elim
  | cont => obtain ⟨_, _, _, _, _, _, _, _, q⟩ := p; exact q.elim

theorem ss_ite {c : PE} {a b : PS} {v : Expr} {x y : List Stmt} {pos : Pos} (K : FCOk f) (h : SC X f.c c v) (h1 : SB X f a x) (h2 : SB X f b y) : SS X f (.ite c a b) (.If v x y pos) := fun W s α ρ H N R Y E hW T F HR' hY q => by
  simp only [qS1, qS2, qS3, qS4, qS5, qS6, qS7, qS8, qS9, qS10, qS11, qS12, qS13, qS14, qS15, qS16, qS17, qS18] at q
  refine wpAny_If (wpAny_mono (h f.env s α ρ H (fun t H1 => if t then wpS X.sub X.Φ W a ρ H1 N R Y else wpS X.sub X.Φ W b ρ H1 N R Y) E K.env (T.at F) HR' F.fi q) (fun t s₁ p => ?_) fun _ _ x => x)
  obtain ⟨h₁, tk₁, β, K₁, t', rfl, k, fr, R', rfl, q'⟩ := p
  have st : StepS f W s α H h₁ β (H ++ K₁) := .of k fr
  cases t with
  | true =>
    simp only [if_true] at q' ⊢
    exact wpAny_mono (h1 W { s with heap := h₁, toks := tk₁ } (α ++ β) ρ (H ++ K₁) N R Y E hW T (F.up k fr) R' (hY.later st (.of k)) q') (fun _ _ p => p.trans st (.of k)) fun _ _ x => x
  | false =>
    simp only [Bool.false_eq_true, if_false] at q' ⊢
    exact wpAny_mono (h2 W { s with heap := h₁, toks := tk₁ } (α ++ β) ρ (H ++ K₁) N R Y E hW T (F.up k fr) R' (hY.later st (.of k)) q') (fun _ _ p => p.trans st (.of k)) fun _ _ x => x

theorem raise_none {W : Nat → Prop} {s : Shared} {α : List Addr} {H : Hp} {E : Value → Shared → Prop} : RaiseOk X f W s α H (fun _ _ => False) E := fun _ _ _ _ _ _ _ _ _ _ _ _ y => y.elim

theorem ss_whl {c : PE} {b : PS} {v : Expr} {x : List Stmt} {pos : Pos} (K : FCOk f) (h : SC X f.c c v) (h1 : SB X f b x) : SS X f (.whl c b) (.While v x [] pos) := fun W s α ρ H N R Y E hW T F HR' hY q => by
  simp only [qS1, qS2, qS3, qS4, qS5, qS6, qS7, qS8, qS9, qS10, qS11, qS12, qS13, qS14, qS15, qS16, qS17, qS18] at q
  obtain ⟨I, μ, hI, turn⟩ := q
  refine wpAny_While (codeAny_whileLoop
    (fun n s' => ∃ h' tk β H' ρ', s' = { s with heap := h', toks := tk } ∧ StepS f W s α H h' β H' ∧ Lives s.heap h' ∧ HR X.G (α ++ β) h' H' ∧ FrS X.G f W h' (α ++ β) ρ' ∧ I ρ' H' ∧ n = μ ρ' H') ?_ (μ ρ H)
    ⟨s.heap, s.toks, [], H, ρ, rfl, .refl, fun b o e => ⟨o, e⟩, by simpa using HR', by simpa using F, hI, rfl⟩)
  rintro n s' ⟨h', tk, β, H', ρ', rfl, st, lv, R', F', hI', rfl⟩
  have q := turn ρ' H' hI'
  refine wpAny_mono (h f.env { s with heap := h', toks := tk } (α ++ β) ρ' H' (fun t H2 => if t then wpS X.sub X.Φ W b ρ' H2 (fun ρ3 H3 => I ρ3 H3 ∧ μ ρ3 H3 < μ ρ' H') R (fun _ _ => False) else N ρ' H2) _ K.env (T.at F') R' F'.fi q) (fun t s₁ p => ?_) fun _ _ x => x
  obtain ⟨h₁, tk₁, γ, K₁, t', rfl, k, fr, R₁, rfl, q'⟩ := p
  dsimp only at k fr
  have st1 : StepS f W { s with heap := h', toks := tk } (α ++ β) H' h₁ γ (H' ++ K₁) := .of k fr
  have st2 := st.trans lv st1
  have lv2 := lv.trans (.of k)
  have F₁ := F'.up k fr
  cases t with
  | true =>
    simp only [if_true] at q' ⊢
    refine wpAny_mono (h1 W { s with heap := h₁, toks := tk₁ } ((α ++ β) ++ γ) ρ' (H' ++ K₁) _ R _ _ hW T F₁ R₁ raise_none q') (fun fl s₂ p => ?_) fun _ _ x => x
    cases fl with
    | next =>
      obtain ⟨h₂, tk₂, δ, H₂, rfl, st3, lv3, R₂, ρ₂, F₂, hI₂, hμ⟩ := p
      refine ⟨_, hμ, h₂, tk₂, (β ++ γ) ++ δ, H₂, ρ₂, rfl, st2.trans (tk := tk₁) lv2 (by simpa using st3), lv2.trans lv3, by simpa using R₂, by simpa using F₂, hI₂, rfl⟩
    | ret v =>
      obtain ⟨h₂, tk₂, δ, H₂, rfl, st3, lv3, R₂, kk, d, r, q₂⟩ := p
      exact ⟨h₂, tk₂, (β ++ γ) ++ δ, H₂, rfl, st2.trans (tk := tk₁) lv2 (by simpa using st3), lv2.trans lv3, by simpa using R₂, kk, d, by simpa using r, q₂⟩
    | brk => obtain ⟨_, _, _, _, _, _, _, _, q⟩ := p; exact q.elim
    | cont => obtain ⟨_, _, _, _, _, _, _, _, q⟩ := p; exact q.elim
  | false =>
    simp only [Bool.false_eq_true, if_false] at q' ⊢
    refine wpAny_execs_nil ?_
    exact ⟨h₁, tk₁, β ++ γ, H' ++ K₁, rfl, st2, lv2, by simpa using R₁, ρ', by simpa using F₁, q'⟩
end
end Mine

set_option autoImplicit false
set_option linter.unusedSimpArgs false
set_option linter.unusedVariables false
namespace Mine
open PySem PyProof.Rows PySem.Calls

section
variable {X : SX} {f : FC}

theorem notL {G : GV} {W : Nat → Prop} {h : Heap} {α : List Addr} {ρ : Loc} (F : FrS G f W h α ρ) {b : Addr} {o : Obj} (e : h.get? b = some o) (hd : ∀ es n, o.data ≠ .dict es n) : b ≠ f.env.locals := fun q => by
  obtain ⟨m, cm, ⟨o', es, ep, ho', hd', _⟩, _⟩ := F.fr
  rw [← q, e] at ho'; cases ho'; exact hd _ _ hd'
theorem notCell {G : GV} {W : Nat → Prop} {h : Heap} {α : List Addr} {ρ : Loc} (K : FCOk f) (F : FrS G f W h α ρ) {b : Addr} {o : Obj} (e : h.get? b = some o) (hd : ∀ v, o.data ≠ .cell v) : ∀ n, (n, b) ∉ f.env.cells := fun n hm => by
  obtain ⟨m, cm, _, hc, _⟩ := F.fr
  obtain ⟨o', ho', hd'⟩ := hc.cell n b (K.uniq n b hm)
  rw [e] at ho'; cases ho'; exact hd _ hd'
theorem notList {G : GV} {h : Heap} {α : List Addr} {H : Hp} (R : HR G α h H) {b : Addr} {o : Obj} (e : h.get? b = some o) (hd : o.cls ≠ .type "list" ∨ ∀ xs n, o.data ≠ .seq xs n) (n : Nat) : α[n]? ≠ some b := fun ha => by
  obtain ⟨xs, hx⟩ := R.at ha
  obtain ⟨vs, ⟨o', ho', hc', k, hd'⟩, _⟩ := R.lst n b xs ha hx
  rw [e] at ho'; cases ho'
  rcases hd with hd | hd
  · exact hd hc'
  · exact hd _ _ hd'

theorem StepS.tup {G : GV} {W : Nat → Prop} {s : Shared} {α : List Addr} {H : Hp} {ρ : Loc} {h' : Heap} {β : List Addr} {H' : Hp} (K : FCOk f) (F : FrS G f W s.heap α ρ) (R : HR G α s.heap H) (st : StepS f W s α H h' β H') : KeepsT s.heap h' := fun a items x => by
  obtain ⟨o, ho, hc, n, hd⟩ := x
  refine ⟨o, st.keep a o ho (notL F ho (by simp [hd])) (notCell K F ho (by simp [hd])) fun k hk => ?_, hc, n, hd⟩
  exact absurd hk (notList R ho (.inl (by rw [hc]; decide)) k)
theorem StepS.weak {W W' : Nat → Prop} {s : Shared} {α : List Addr} {H : Hp} {h' : Heap} {β : List Addr} {H' : Hp} (hw : ∀ n, W' n → W n) (st : StepS f W' s α H h' β H') : StepS f W s α H h' β H' :=
  ⟨fun b o e h1 h2 h3 => st.keep b o e h1 h2 fun n hn w => h3 n hn (hw n w), st.fresh, fun n hn w => st.same n hn fun x => w (hw n x), st.le⟩

/-- the iterator moves -/
theorem FrS.off {G : GV} {W : Nat → Prop} {h h' : Heap} {α : List Addr} {ρ : Loc} {wr : List Addr} (K : FCOk f) (F : FrS G f W h α ρ) (hwr : ∀ b ∈ wr, ∃ o vs, h.get? b = some o ∧ o.data = .fields vs) (hdead : ∀ b ∈ wr, f.hb.get? b = none)
    (hk : ∀ b o, b ∉ wr → h.get? b = some o → h'.get? b = some o) (lt : KeepsLT h h') : FrS G f W h' α ρ := by
  obtain ⟨m, cm, hn, hc, hv⟩ := F.fr
  refine ⟨⟨m, cm, hn.at' fun o e => hk _ o (fun hm => ?_) e, ⟨fun x a e => ?_, hc.apart, hc.above⟩, fun i x d e1 e2 => ?_⟩, fun b o e => hk b o (fun hm => ?_) (F.kb b o e), F.wb⟩
  · obtain ⟨o', vs, e', d'⟩ := hwr _ hm
    exact notL F e' (by simp [d']) rfl
  · obtain ⟨o, ho, hd⟩ := hc.cell x a e
    refine ⟨o, hk a o (fun hm => ?_) ho, hd⟩
    obtain ⟨o', vs, e', d'⟩ := hwr _ hm
    rw [ho] at e'; cases e'; rw [hd] at d'; cases d'
  · obtain ⟨v, hv, r⟩ := hv i x d e1 e2
    exact ⟨v, hv, r.mono (fun _ _ e => e) lt.tup⟩
  · rw [hdead b hm] at e; cases e

theorem ss_forr {i : Nat} {x : Str} {pit : PI} {b : PS} {iter : Expr} {body : List Stmt} {px pos : Pos} (K : FCOk f) (hx : f.c.isVar i x = true) (h : SI X f.c pit iter) (hns : notSet iter = true) (h1 : SB X f b body) :
    SS X f (.forr i pit b) (.For (.Name x px) iter body [] pos) := fun W s α ρ H N R Y E hW T F HR' hY q => by
  simp only [qS1, qS2, qS3, qS4, qS5, qS6, qS7, qS8, qS9, qS10, qS11, qS12, qS13, qS14, qS15, qS16, qS17, qS18] at q
  refine wpAny_For (wpAny_mono (h f.env s α ρ H _ E K.env (T.at F) HR' F.fi q) (fun xv s₁ p => wpAny_mono p (fun it s₂ p => ?_) fun _ _ e => e) fun _ _ e => e) (folded_pure hns f.env)
  obtain ⟨h₁, tk₁, β₁, K₁, xs, src, k₁, f₁, R₁, ⟨I, fp, wr, P, St, h₂, tk₂, rfl, rfl, k₂, Wk, hst, hwr, hfield, hfp, hsrc, hP⟩, hgo⟩ := p
  dsimp only at k₂ hwr
  have k12 : KeepsH s.heap h₂ := k₁.trans k₂
  have deadS : ∀ b ∈ wr, s.heap.get? b = none := fun b hb => by
    cases e : s.heap.get? b with
    | none => rfl
    | some o => have := hwr b hb; rw [k₁ b o e] at this; cases this
  have deadB : ∀ b ∈ wr, f.hb.get? b = none := fun b hb => by
    cases e : f.hb.get? b with
    | none => rfl
    | some o => have := deadS b hb; rw [F.kb b o e] at this; cases this
  have hWW : ∀ m, (W m ∧ some m ≠ src) → W m := fun m h => h.1
  refine codeAny_forLoop (fun n s' => ∃ j h' tk γ H' ρ', s' = { s with heap := h', toks := tk } ∧ j ≤ xs.length ∧ n = xs.length + 1 - j ∧ St j h' ∧ StepS f W s α H h' (β₁ ++ γ) H' ∧ Lives s.heap h' ∧ HR X.G (α ++ (β₁ ++ γ)) h' H' ∧ FrS X.G f W h' (α ++ (β₁ ++ γ)) ρ' ∧ KeepsT h₂ h' ∧
      (∀ b ∈ fp, b ∉ wr → (∃ n, src = some n ∧ (α ++ (β₁ ++ γ))[n]? = some b) ∨ ∃ items, IsTup h' b items) ∧
      forGo (fun ρ2 H2 k => wpS X.sub X.Φ (fun m => W m ∧ some m ≠ src) b ρ2 H2 k R fun _ _ => False) i (xs.drop j) ρ' H' N) ?_ (xs.length + 1)
    ⟨0, h₂, tk₂, [], H ++ K₁, ρ, rfl, Nat.zero_le _, rfl, hst, by simpa using (StepS.of (f := f) (W := W) (α := α) (H := H) (K := K₁) k12 f₁), .of k12, by simpa using R₁.keeps k₂, by simpa using F.up k12 f₁, fun _ _ x => x, by simpa using hsrc, by simpa using hgo⟩
  rintro n s' ⟨j, h', tk, γ, H', ρ', rfl, hj, rfl, hstj, st, lv, R', F', kt, hsrc', hgo'⟩
  have off : ∀ h'' : Heap, (∀ b o, b ∉ wr → h'.get? b = some o → h''.get? b = some o) → KeepsLT h' h'' := fun h'' hk a o items n e d => hk a o (fun hm => by
    obtain ⟨o', vs, e', d'⟩ := hfield j h' hstj a hm
    rw [e] at e'; cases e'; rw [d] at d'; cases d') e
  have stOff : ∀ h'' : Heap, (∀ b o, b ∉ wr → h'.get? b = some o → h''.get? b = some o) → StepS f W s α H h'' (β₁ ++ γ) H' ∧ Lives s.heap h'' := fun h'' hk =>
    ⟨⟨fun b o e a1 a2 a3 => hk b o (fun hm => by rw [deadS b hm] at e; cases e) (st.keep b o e a1 a2 a3), st.fresh, st.same, st.le⟩,
      fun b o e => by obtain ⟨o', e'⟩ := lv b o e; exact ⟨o', hk b o' (fun hm => by rw [deadS b hm] at e; cases e) e'⟩⟩
  by_cases hlt : j < xs.length
  · refine Wk.item j _ _ _ hlt hstj fun v h'' tk' hPv hst'' hk'' => ?_
    have lt1 := off h'' hk''
    obtain ⟨st1, lv1⟩ := stOff h'' hk''
    have F1 := F'.off K (hfield j h' hstj) deadB hk'' lt1
    have R1 := R'.lt' lt1
    have kt1 : KeepsT h₂ h'' := fun a items x => lt1.tup a items (kt a items x)
    obtain ⟨d, hd, rd⟩ := hP j v hlt hPv
    have rd1 : Rep X.G (α ++ (β₁ ++ γ)) h'' v d := by
      have := rd.mono (α' := (α ++ β₁) ++ γ) ext_app kt1
      rwa [List.append_assoc] at this
    refine wpAny_assign_Name (store_var (s := { s with heap := h'', toks := tk' }) K F1 hx rd1 fun h₃ tk₃ F3 kf3 lt3 lv3 => ?_)
    dsimp only at kf3 lt3 lv3
    have R3 := R1.lt' lt3
    have kt3 : KeepsT h₂ h₃ := fun a items x => lt3.tup a items (kt1 a items x)
    have st3 : StepS f W s α H h₃ (β₁ ++ γ) H' := ⟨fun b o e a1 a2 a3 => kf3 b o (st1.keep b o e a1 a2 a3) a1 a2, st1.fresh, st1.same, st1.le⟩
    have lv13 := lv1.trans lv3
    -- what the iterator reads is kept by the store
    have st3' : St (j + 1) h₃ := Wk.frame _ _ _ hst'' fun b hb o e => by
      by_cases hbw : b ∈ wr
      · obtain ⟨o', vs, e', d'⟩ := hfield (j + 1) h'' hst'' b hbw
        rw [e] at e'; cases e'
        exact kf3 b o e (notL F1 e (by simp [d'])) (notCell K F1 e (by simp [d']))
      · rcases hsrc' b hb hbw with ⟨n, hn, ha⟩ | ⟨items, hi⟩
        · obtain ⟨ys, hy⟩ := R1.at ha
          obtain ⟨vs, ⟨o', ho', hc', kk, hd'⟩, _⟩ := R1.lst n b ys ha hy
          rw [e] at ho'; cases ho'
          exact lt3 b o _ _ e hd'
        · obtain ⟨o', ho', hc', kk, hd'⟩ := lt1.tup b items hi
          rw [e] at ho'; cases ho'
          exact lt3 b o _ _ e hd'
    have hdrop : xs.drop j = d :: xs.drop (j + 1) := by
      obtain ⟨hl, he⟩ := List.getElem?_eq_some_iff.mp hd
      rw [List.drop_eq_getElem_cons hl, he]
    rw [hdrop] at hgo'
    simp only [forGo] at hgo'
    refine wpAny_mono (h1 (fun m => W m ∧ some m ≠ src) { s with heap := h₃, toks := tk₃ } (α ++ (β₁ ++ γ)) (lset ρ' i d) H' _ R _ _ (fun n hn => hW n hn.1) T (F3.weak hWW) R3 raise_none hgo') (fun fl s₄ p => ?_) fun _ _ e => e
    obtain ⟨h₄, tk₄, δ, H₄, rfl, st4, lv4, R4, q4⟩ := p
    have stAll : StepS f W s α H h₄ ((β₁ ++ γ) ++ δ) H₄ := st3.trans (tk := tk₃) lv13 (st4.weak hWW)
    have lvAll := lv13.trans lv4
    cases fl with
    | next =>
      obtain ⟨ρ₄, F4, q4⟩ := q4
      have kt4 : KeepsT h₃ h₄ := st4.tup K (F3.weak hWW) R3
      refine ⟨xs.length + 1 - (j + 1), by (clear K hx h hns h1 hW T F HR' hY q p k₁ f₁ R₁ hgo k₂ Wk hst hwr hfield hfp hsrc hP k12 deadS deadB hWW hj hstj st lv R' F' kt hsrc' off stOff hPv hst'' hk'' lt1 st1 lv1 F1 R1 kt1 hgo' hd rd rd1 F3 kf3 lt3 lv3 R3 kt3 st3 lv13 st3' hdrop st4 lv4 R4 stAll lvAll F4 q4 kt4; omega), j + 1, h₄, tk₄, γ ++ δ, H₄, ρ₄, rfl, hlt, rfl, ?_, by simpa using stAll, lvAll, by simpa using R4, ?_, fun a items x => kt4 a items (kt3 a items x), fun b hb hbw => ?_, q4⟩
      · refine Wk.frame _ _ _ st3' fun b hb o e => ?_
        by_cases hbw : b ∈ wr
        · obtain ⟨o', vs, e', d'⟩ := hfield (j + 1) h₃ st3' b hbw
          rw [e] at e'; cases e'
          exact st4.keep b o e (notL F3 e (by simp [d'])) (notCell K F3 e (by simp [d'])) fun n hn => absurd hn (notList R3 e (.inr (by simp [d'])) n)
        · rcases hsrc' b hb hbw with ⟨n, hn, ha⟩ | ⟨items, hi⟩
          · obtain ⟨ys, hy⟩ := R3.at ha
            obtain ⟨vs, ⟨o', ho', hc', kk, hd'⟩, _⟩ := R3.lst n b ys ha hy
            rw [e] at ho'; cases ho'
            refine st4.keep b o e (notL F3 e (by simp [hd'])) (notCell K F3 e (by simp [hd'])) fun m hm hw => ?_
            obtain ⟨l1, g1⟩ := List.getElem?_eq_some_iff.mp ha
            obtain ⟨l2, g2⟩ := List.getElem?_eq_some_iff.mp hm
            have : m = n := (List.getElem_inj R3.nodup).mp (g2.trans g1.symm)
            exact hw.2 (by rw [this, hn])
          · obtain ⟨o', ho', hc', kk, hd'⟩ := lt3.tup b items (lt1.tup b items hi)
            rw [e] at ho'; cases ho'
            exact st4.keep b o e (notL F3 e (by simp [hd'])) (notCell K F3 e (by simp [hd'])) fun n hn => absurd hn (notList R3 e (.inl (by rw [hc']; decide)) n)
      · -- the frame, with the lists of the loop's outside
        obtain ⟨fr4, kb4, wb4⟩ := F4
        refine ⟨by simpa using fr4, kb4, fun n a ha hw => ?_⟩
        rw [← List.append_assoc, ← List.append_assoc] at ha
        by_cases hl : n < (α ++ β₁ ++ γ).length
        · rw [List.getElem?_append_left hl] at ha
          exact F3.wb n a (by simpa using ha) hw
        · rw [List.getElem?_append_right (by (clear K hx h hns h1 hW T F HR' hY q p k₁ f₁ R₁ hgo k₂ Wk hst hwr hfield hfp hsrc hP k12 deadS deadB hWW hj hstj st lv R' F' kt hsrc' off stOff hlt hPv hst'' hk'' lt1 st1 lv1 F1 R1 kt1 hgo' hd rd rd1 F3 kf3 lt3 lv3 R3 kt3 st3 lv13 st3' hdrop st4 lv4 R4 stAll lvAll q4 kt4 fr4 kb4 wb4 ha hw; omega))] at ha
          have hm := st4.fresh a (List.mem_of_getElem? ha)
          cases e : f.hb.get? a with
          | none => rfl
          | some o => have := F3.kb a o e; rw [show ({ s with heap := h₃, toks := tk₃ } : Shared).heap.get? a = none from hm] at this; cases this
      · rcases hsrc' b hb hbw with ⟨n, hn, ha⟩ | ⟨items, hi⟩
        · refine .inl ⟨n, hn, ?_⟩
          have := ext_app (β := δ) n b ha
          simpa using this
        · exact .inr ⟨items, kt4 b items (lt3.tup b items (lt1.tup b items hi))⟩
    | ret v =>
      obtain ⟨kk, d, r, q4⟩ := q4
      exact ⟨h₄, tk₄, (β₁ ++ γ) ++ δ, H₄, rfl, stAll, lvAll, by simpa using R4, kk, d, by simpa using r, q4⟩
    | brk => exact q4.elim
    | cont => exact q4.elim
  · have hin : j = xs.length := by (clear K hx h hns h1 hW T F HR' hY q p k₁ f₁ R₁ hgo k₂ Wk hst hwr hfield hfp hsrc hP k12 deadS deadB hWW hstj st lv R' F' kt hsrc' hgo' off stOff; omega)
    subst hin
    refine Wk.done _ _ _ hstj fun h'' tk' hk'' => wpAny_execs_nil ?_
    have lt1 := off h'' hk''
    obtain ⟨st1, lv1⟩ := stOff h'' hk''
    refine ⟨h'', tk', β₁ ++ γ, H', rfl, st1, lv1, R'.lt' lt1, ρ', F'.off K (hfield _ h' hstj) deadB hk'' lt1, ?_⟩
    simpa [forGo] using hgo'
end
end Mine

set_option autoImplicit false
set_option linter.unusedSimpArgs false
set_option linter.unusedVariables false
namespace Mine
open PySem PyProof.Rows PySem.Calls

theorem erase_last (vs : List Value) : vs.toArray.eraseIdxIfInBounds (vs.toArray.size - 1) = vs.dropLast.toArray := by
  unfold Array.eraseIdxIfInBounds
  split
  · rename_i h
    apply Array.ext'
    simp only [List.size_toArray, List.eraseIdx_toArray] at h ⊢
    rw [List.eraseIdx_length_sub_one]
  · rename_i h
    simp at h
    have h0 : vs = [] := by cases vs with | nil => rfl | cons a r => simp at h; omega
    subst h0; rfl

section
variable {X : SX} {f : FC}

/-- the list behind a variable, in a state -/
theorem list_var {G : GV} {W : Nat → Prop} {s : Shared} {α : List Addr} {ρ : Loc} {H : Hp} (F : FrS G f W s.heap α ρ) (R : HR G α s.heap H) (hW : ∀ n, W n → 1 ≤ n) {i : Nat} {x : Str} (hx : f.c.isVar i x = true) {n : Nat} {xs : List V}
    (hv : lget ρ i = some (.lst n)) (hw : W n) (hh : H[n]? = some xs) :
    ∃ (a : Addr) (vs : List Value), α[n]? = some a ∧ VarAt f.env s.heap x (.ref a) ∧ s.heap.PlainList a vs.toArray ∧ Reps G α s.heap vs xs ∧ vs.length ≤ lim ∧ xs.length ≤ lim := by
  obtain ⟨u, hu, r⟩ := F.fi i x _ (MC.isVar_spec hx).1 hv
  cases r with
  | lst ha =>
    obtain ⟨vs, hl, q, z, p⟩ := R.lst n _ xs ha hh
    exact ⟨_, vs, ha, hu, p (by have := hW n hw; (clear F R hW hx hv hw hh hu ha hl q z p; omega)), q, by rw [q.len]; exact z, z⟩

/-- behind a write -/
theorem write_post {W : Nat → Prop} {s : Shared} {α : List Addr} {ρ : Loc} {H : Hp} {N : Loc → Hp → Prop} {R : V → Hp → Prop} {h₁ h₂ : Heap} {tk₁ tk₂ : Nat} {β : List Addr} {K₁ : Hp} {n : Nat} {xs' : List V} (k : KeepsH s.heap h₁) (fr : ∀ b ∈ β, s.heap.get? b = none)
    (p : FrS X.G f W h₂ (α ++ β) ρ ∧ HR X.G (α ++ β) h₂ ((H ++ K₁).set n xs') ∧ StepS f W { s with heap := h₁, toks := tk₁ } (α ++ β) (H ++ K₁) h₂ [] ((H ++ K₁).set n xs') ∧ Lives h₁ h₂) (q : N ρ ((H ++ K₁).set n xs')) :
    PostS X.G f W s α H N R .next { s with heap := h₂, toks := tk₂ } := by
  obtain ⟨F', R', st, lv⟩ := p
  have := (StepS.of (f := f) (W := W) (α := α) (H := H) (K := K₁) k fr).trans (Lives.of k) st
  exact ⟨h₂, tk₂, β, _, rfl, by simpa using this, (Lives.of k).trans lv, R', ρ, F', q⟩

theorem ss_setidx {i : Nat} {x : Str} {pk pe : PE} {j v : Expr} {px pp pos : Pos} (K : FCOk f) (hx : f.c.isVar i x = true) (hk : SE X f.c pk j) (h : SE X f.c pe v) (hc : notComp v = true) :
    SS X f (.setidx i pk pe) (.Assign [.Subscript (.Name x px) j pp] v pos) := fun W s α ρ H N R Y E hW T F HR' hY q => by
  simp only [qS1, qS2, qS3, qS4, qS5, qS6, qS7, qS8, qS9, qS10, qS11, qS12, qS13, qS14, qS15, qS16, qS17, qS18] at q
  refine wpAny_Assign_Subscript (wpAny_mono (h f.env s α ρ H _ E K.env (T.at F) HR' F.fi q) (fun v s₁ p => ?_) fun _ _ x => x) (swaps_false hc _ _ _)
  refine p.go fun h₁ tk₁ β K₁ d k₁ fr₁ R₁ r₁ q₁ => ?_
  have F₁ := F.up k₁ fr₁
  obtain ⟨n, hl, hw, q₁⟩ := ifLst.get q₁
  obtain ⟨u, hu, ru⟩ := F₁.fi i x _ (MC.isVar_spec hx).1 hl
  refine load_var (s := { s with heap := h₁, toks := tk₁ }) K.env hx hu ?_
  refine wpAny_mono (hk f.env { s with heap := h₁, toks := tk₁ } (α ++ β) ρ (H ++ K₁) _ E K.env (T.at F₁) R₁ F₁.fi q₁) (fun iv s₃ p => ?_) fun _ _ x => x
  obtain ⟨h₂, tk₂, γ, K₂, kv, rfl, k₂, fr₂, R₂, r₂, q₂⟩ := p
  obtain ⟨jj, rfl, q₂⟩ := ifInt.get q₂
  obtain ⟨xs, hxs, q₂⟩ := ifSome.get q₂
  obtain ⟨pl, hpl, q₂⟩ := ifSome.get q₂
  dsimp only at k₂ fr₂
  have F₂ := F₁.up k₂ fr₂
  cases r₂ with
  | int _ t =>
    cases ru with
    | lst ha =>
      have ha₂ := ext_app (β := γ) _ _ ha
      obtain ⟨vs, hli, rs, z, pp⟩ := R₂.lst n _ xs ha₂ hxs
      have hpl' := pp (by have := hW n hw; (clear K hx hk h hc hW T F HR' hY q p k₁ fr₁ R₁ r₁ F₁ hl hw q₁ k₂ fr₂ R₂ hxs hpl q₂ F₂ hu ha ha₂ hli rs z pp; omega))
      have hlen := rs.len
      have zz : xs.length ≤ 1000000 := z
      refine setItem_plain (s := { s with heap := h₂, toks := tk₂ }) hpl' (by rw [List.size_toArray, hlen]; exact hpl) (by rw [List.size_toArray]; (clear K hx hk h hc hW T F HR' hY q p k₁ fr₁ R₁ r₁ F₁ hl hw q₁ k₂ fr₂ R₂ hxs hpl q₂ F₂ hu ha ha₂ hli rs z pp hpl'; omega)) ?_
      have wl := write_list (s := { s with heap := h₂, toks := tk₂ }) (vs' := vs.set pl v) (xs' := xs.set pl d) K F₂ R₂ hw ha₂ hxs (Heap.SameBut.update ..) (by simpa using upd_plain hpl' (·.setIfInBounds pl v)) (rs.set (r₁.up k₂) pl) (by rw [List.length_set]; exact z)
      have st1 : StepS f W s α H h₁ β (H ++ K₁) := .of k₁ fr₁
      have st2 : StepS f W { s with heap := h₁, toks := tk₁ } (α ++ β) (H ++ K₁) h₂ γ (H ++ K₁ ++ K₂) := .of k₂ fr₂
      have st12 := st1.trans (Lives.of k₁) st2
      obtain ⟨F₃, R₃, st3, lv3⟩ := wl
      have st := st12.trans (tk := tk₂) ((Lives.of k₁).trans (.of k₂)) (by simpa using st3)
      exact ⟨_, tk₂, β ++ γ, _, rfl, by simpa using st, ((Lives.of k₁).trans (.of k₂)).trans lv3, by simpa using R₃, ρ, by simpa using F₃, q₂⟩

theorem listMethod {prog : Program} {w : World} {A : Around} {E : Value → Shared → Prop} {s : Shared} {name : Str} {id : String} {a : Addr} {items : Array Value} {pos : Pos} {args : List (Bool × Sem Value)} {Q : Value → Shared → Prop} (slot : Slot "list" name id)
    (hty : typeOf (.builtin id) = pure (.type "method_descriptor")) (hl : s.heap.PlainList a items) (h : wpAny (model prog w) A (callWith pos (.builtin id) [.ref a] args []) Q E s) : MethodOnS prog w A E name (.ref a) pos args Q s := by
  refine ⟨"list", id, PySem.F.plainAttrs_list, slot, hty, hl.isList.typeIs, fun b e => ?_, h⟩
  cases e
  obtain ⟨n, ho⟩ := hl
  exact ⟨_, ho, rfl⟩

theorem ss_app {i : Nat} {x a : Str} {pe : PE} {v : Expr} {px ap cp pos : Pos} (K : FCOk f) (hx : f.c.isVar i x = true) (ha : a = Str.ofString "append") (hli : ap.endLine = cp.line) (hn : notStar v = true) (h : SE X f.c pe v) :
    SS X f (.app i pe) (.Expr (.Call (.Attribute (.Name x px) a ap) [v] [] cp) pos) := fun W s α ρ H N R Y E hW T F HR' hY q => by
  subst ha
  simp only [qS1, qS2, qS3, qS4, qS5, qS6, qS7, qS8, qS9, qS10, qS11, qS12, qS13, qS14, qS15, qS16, qS17, qS18] at q
  obtain ⟨n, hl, hw, q⟩ := ifLst.get q
  obtain ⟨u, hu, ru⟩ := F.fi i x _ (MC.isVar_spec hx).1 hl
  cases ru with
  | lst ha =>
    obtain ⟨xs₀, hx₀⟩ := HR'.at ha
    obtain ⟨vs₀, _, _, _, pp₀⟩ := HR'.lst n _ xs₀ ha hx₀
    have hpl₀ := pp₀ (by have := hW n hw; (clear K hx hli hn h hW T F HR' hY hl hw q hu ha hx₀ pp₀; omega))
    refine wpAny_Expr (Call_method1 rfl (starEach_cons hn) (by simp [hli]) (load_var K.env hx hu ?_)) (by have := K.env.kind; simp [interactive, this]) (swaps_false rfl _ _ _)
    refine listMethod PySem.F.slot_list_append PySem.F.type_list_append hpl₀ (P.append_list ?_)
    refine wpAny_mono (h f.env s α ρ H _ E K.env (T.at F) HR' F.fi q) (fun v s₁ p => ?_) fun _ _ x => x
    obtain ⟨h₁, tk₁, β, K₁, d, rfl, k₁, fr₁, R₁, r₁, q₁⟩ := p
    obtain ⟨xs, hxs, hlt, q₁⟩ := ifSome.get q₁
    have F₁ := F.up k₁ fr₁
    have ha₁ := ext_app (β := β) _ _ ha
    obtain ⟨vs, _, rs, z, pp⟩ := R₁.lst n _ xs ha₁ hxs
    have hpl := pp (by have := hW n hw; (clear K hx hli hn h hW T F HR' hY hl hw q hu ha hx₀ pp₀ hpl₀ k₁ fr₁ R₁ r₁ hxs hlt q₁ F₁ ha₁ rs z pp; omega))
    have hlen := rs.len
    obtain ⟨ne, ho⟩ := id hpl
    refine ⟨vs.toArray, ne, by rw [List.size_toArray]; have := lim_le; (clear K hx hli hn h hW T F HR' hY hl hw q hu ha hx₀ pp₀ hpl₀ k₁ fr₁ R₁ r₁ hxs q₁ F₁ ha₁ rs z pp hpl ho; omega), ho, ?_⟩
    have wl := write_list (s := { s with heap := h₁, toks := tk₁ }) (vs' := vs ++ [v]) (xs' := xs ++ [d]) K F₁ R₁ hw ha₁ hxs (Heap.SameBut.update ..) (by simpa using upd_plain hpl (·.push v)) (rs.append (.cons r₁ .nil)) (by rw [List.length_append]; simp; (clear K hx hli hn h hW T F HR' hY hl hw q hu ha hx₀ pp₀ hpl₀ k₁ fr₁ R₁ r₁ hxs q₁ F₁ ha₁ rs z pp hpl ho; omega))
    exact write_post k₁ fr₁ wl q₁

theorem ss_pop {i : Nat} {x a : Str} {px ap cp pos : Pos} (K : FCOk f) (hx : f.c.isVar i x = true) (ha : a = Str.ofString "pop") (hli : ap.endLine = cp.line) :
    SS X f (.pop i) (.Expr (.Call (.Attribute (.Name x px) a ap) [] [] cp) pos) := fun W s α ρ H N R Y E hW T F HR' hY q => by
  subst ha
  simp only [qS1, qS2, qS3, qS4, qS5, qS6, qS7, qS8, qS9, qS10, qS11, qS12, qS13, qS14, qS15, qS16, qS17, qS18] at q
  obtain ⟨n, hl, hw, q⟩ := ifLst.get q
  obtain ⟨xs, hh, ys, k, rfl, q⟩ := ifSome.get q
  obtain ⟨a, vs, ha, hu, hpl, rs, z', z⟩ := list_var F HR' hW hx hl hw hh
  have hlen := rs.len
  obtain ⟨val, hval, rval⟩ := rs.get (n := ys.length) (d := .int k) (by simp)
  cases rval with
  | int _ t =>
    obtain ⟨ne, ho⟩ := id hpl
    refine wpAny_Expr (Call_method0 rfl (by simp [hli]) (load_var K.env hx hu ?_)) (by have := K.env.kind; simp [interactive, this]) (swaps_false rfl _ _ _)
    refine listMethod PySem.F.slot_list_pop PySem.F.type_list_pop hpl (P.pop_list (y := .int k t) ho ?_ ?_ (by rw [List.size_toArray]; have := lim_le; (clear K hx hli hW T F HR' hY hl hw q hh ha hu hpl rs z hval ho; omega)))
    · simp only [List.size_toArray, List.getElem?_toArray]
      rw [show vs.length - 1 = ys.length by simp at hlen; (clear K hx hli hW T F HR' hY hl hw q hh ha hu hpl rs z' z hval ho; omega)]; exact hval
    · have wl := write_list (s := s) (vs' := vs.dropLast) (xs' := ys) K F HR' hw ha hh (Heap.SameBut.update ..) (by
        have e := upd_plain hpl (fun xs => xs.eraseIdxIfInBounds (vs.toArray.size - 1))
        have e2 : vs.toArray.eraseIdxIfInBounds (vs.toArray.size - 1) = vs.dropLast.toArray := erase_last vs
        rw [e2] at e; exact e) (by simpa using rs.dropLast) (by simp at z; (clear K hx hli hW T F HR' hY hl hw q hh ha hu hpl rs z' hlen hval ho; omega))
      exact write_post (h₁ := s.heap) (tk₁ := s.toks) (β := []) (K₁ := []) (.refl _) (by simp) (by simpa using wl) (by simpa using q)

theorem ss_rev {i : Nat} {x a : Str} {px ap cp pos : Pos} (K : FCOk f) (hx : f.c.isVar i x = true) (ha : a = Str.ofString "reverse") (hli : ap.endLine = cp.line) :
    SS X f (.rev i) (.Expr (.Call (.Attribute (.Name x px) a ap) [] [] cp) pos) := fun W s α ρ H N R Y E hW T F HR' hY q => by
  subst ha
  simp only [qS1, qS2, qS3, qS4, qS5, qS6, qS7, qS8, qS9, qS10, qS11, qS12, qS13, qS14, qS15, qS16, qS17, qS18] at q
  obtain ⟨n, hl, hw, q⟩ := ifLst.get q
  obtain ⟨xs, hh, q⟩ := ifSome.get q
  obtain ⟨a, vs, ha, hu, hpl, rs, z', z⟩ := list_var F HR' hW hx hl hw hh
  obtain ⟨ne, ho⟩ := id hpl
  refine wpAny_Expr (Call_method0 rfl (by simp [hli]) (load_var K.env hx hu ?_)) (by have := K.env.kind; simp [interactive, this]) (swaps_false rfl _ _ _)
  refine listMethod PySem.F.slot_list_reverse PySem.F.type_list_reverse hpl (P.reverse_list ho ?_ (by rw [List.size_toArray]; have := lim_le; (clear K hx hli hW T F HR' hY hl hw hh q ha hu hpl rs z ho; omega)))
  have wl := write_list (s := s) (vs' := vs.reverse) (xs' := xs.reverse) K F HR' hw ha hh (Heap.SameBut.update ..) (by simpa using upd_plain hpl (fun xs => xs.reverse)) rs.reverse (by rw [List.length_reverse]; exact z)
  exact write_post (h₁ := s.heap) (tk₁ := s.toks) (β := []) (K₁ := []) (.refl _) (by simp) (by simpa using wl) (by simpa using q)
end
end Mine

set_option autoImplicit false
set_option linter.unusedSimpArgs false
set_option linter.unusedVariables false
namespace Mine
open PySem PyProof.Rows PySem.Calls

section
variable {X : SX} {f : FC}

/-- a new object turns that is none of the frame's -/
theorem FrS.other {G : GV} {W : Nat → Prop} {h h' : Heap} {α : List Addr} {ρ : Loc} {C : Addr} (K : FCOk f) (F : FrS G f W h α ρ) (hs : Heap.SameBut C h h') (hL : C ≠ f.env.locals) (hc : ∀ n, (n, C) ∉ f.env.cells) (hb : f.hb.get? C = none) (kt : KeepsT h h') : FrS G f W h' α ρ := by
  obtain ⟨m, cm, hn, hcl, hv⟩ := F.fr
  refine ⟨⟨m, cm, hn.sameBut hs (Ne.symm hL), ⟨fun x a e => (hcl.cell x a e).sameBut hs fun q => hc x (q ▸ PySem.mem_of_lookup e), hcl.apart, hcl.above⟩, fun i x d e1 e2 => ?_⟩, fun b o e => hs.extBut b o (fun q => by rw [q, hb] at e; cases e) (F.kb b o e), F.wb⟩
  obtain ⟨v, hv, r⟩ := hv i x d e1 e2
  exact ⟨v, hv, r.mono (fun _ _ e => e) kt⟩

theorem FrS.deadH {G : GV} {W : Nat → Prop} {s : Heap} {α : List Addr} {ρ : Loc} (F : FrS G f W s α ρ) {b : Addr} (e : s.get? b = none) : f.hb.get? b = none := by
  cases e' : f.hb.get? b with
  | none => rfl
  | some o => have := F.kb b o e'; rw [e] at this; cases this

theorem ss_assign_comp {i : Nat} {y : Str} {py spos : Pos} {elt iter : Expr} {x : Str} {px pos : Pos} {ifs : List Expr} {sc : Scope} {cs : List Str} {pelt : PE} {caps : List Nat} {pit : PI} {cond : PO} (KK : FCOk f) (hy : f.c.isVar i y = true)
    (K : CompOk f.c sc x cs caps) (h1 : SE X ⟨f.c.g, sc, x :: cs⟩ pelt elt) (h2 : SIfs X ⟨f.c.g, sc, x :: cs⟩ cond ifs) (h3 : SI X f.c pit iter) (hns : notSet iter = true) :
    SS X f (.assign i (.comp pelt 1 caps pit cond)) (.Assign [.Name y py] (.ListComp elt [⟨.Name x px, iter, ifs, 0⟩] sc pos) spos) := fun W s α ρ H N R Y E hW T F HR' hY q => by
  have hsw : ∃ b, swapsWith (.ListComp elt [⟨.Name x px, iter, ifs, 0⟩] sc pos) (some (.Name y py)) spos.line f.env = pure b := ⟨_, rfl⟩
  obtain ⟨b, hsw⟩ := hsw
  cases b with
  | false =>
    simp only [qS1, qS2, qS3, qS4, qS5, qS6, qS7, qS8, qS9, qS10, qS11, qS12, qS13, qS14, qS15, qS16, qS17, qS18] at q
    refine wpAny_Assign_Name (wpAny_mono (se_comp K h1 h2 h3 hns f.env s α ρ H _ E KK.env (T.at F) HR' F.fi q) (fun v s₁ p => ?_) fun _ _ x => x) hsw
    exact store_post KK F hy p
  | true =>
    simp only [qS1, qS2, qS3, qS4, qS5, qS6, qS7, qS8, qS9, qS10, qS11, qS12, qS13, qS14, qS15, qS16, qS17, qS18, qE1, qE2, qE3, qE4, qE5, qE6, qE7, qE8, qE9, qE10, qE11, qE12, qE13, qE14, qE15, qE16, qE17, qE18, qE19, qE20, qE21, qE22] at q
    rw [exec_Assign_Name_used _ _ _ _ hsw]
    refine wpAny_bind (wpAny_standAt (wpAny_bind ?_))
    rw [arm_evalThenUse_ListComp]
    refine wpAny_bind (wpAny_mono (Q := fun _ s' => PostS X.G f W s α H N R .next s') ?_ (fun _ _ p => wpAny_pure (wpAny_pure p)) fun _ _ e => e)
    refine wpAny_comprehension_free (use := some (assign (.Name y py) f.env)) rfl (folded_pure hns f.env) (K.clos KK.env) K.kind K.names (wpAny_mono (h3 f.env s α ρ H _ E KK.env (T.at F) HR' F.fi q) (fun xv s₁ p => wpAny_mono p (fun it s₂ p => ?_) fun _ _ e => e) fun _ _ e => e)
    refine comp_core K h1 h2 f.env s α ρ H _ E KK.env (T.at F) F.fi it s₂ p (fun acc C => compPost (model X.prog X.w) X.A E (some (assign (.Name y py) f.env)) (fun _ s' => PostS X.G f W s α H N R .next s') acc C) fun D C s' p => ?_
    obtain ⟨h', tk, β, K₁, ys, ds, m, rfl, k, fr, R', dD, dC, hDC, hD, hpl, rys, z, hn, q'⟩ := p
    -- the new list joins the lists
    have fr' : ∀ b ∈ β ++ [D], s.heap.get? b = none := fun b hb => by
      rcases List.mem_append.mp hb with hb | hb
      · exact fr b hb
      · simp at hb; subst hb; exact dD
    have F' := F.up k fr'
    have R'' : HR X.G (α ++ (β ++ [D])) h' (H ++ (K₁ ++ [ds])) := by
      have := R'.push (.refl _) hD hpl rys z
      simpa using this
    have rD : Rep X.G (α ++ (β ++ [D])) h' (.ref D) (.lst (H ++ K₁).length) := by
      refine Rep.lst ?_
      rw [← R'.len, ← List.append_assoc, List.getElem?_append_right (Nat.le_refl _)]; simp
    have hCL : C ≠ f.env.locals := fun q => by obtain ⟨o, ho⟩ := F.alive; rw [← q, dC] at ho; cases ho
    have hCc : ∀ n, (n, C) ∉ f.env.cells := fun n hm => by
      obtain ⟨m, cm, _, hc, _⟩ := F.fr
      obtain ⟨o', ho', hd'⟩ := hc.cell n C (KK.uniq n C hm)
      rw [dC] at ho'; cases ho'
    show wpAny _ _ (assign (.Name y py) f.env (.ref D)) _ _ _
    refine wpAny_assign_Name (store_var (s := { s with heap := h', toks := tk }) KK F' hy rD fun h₃ tk₃ F3 kf3 lt3 lv3 => ?_)
    dsimp only at kf3 lt3 lv3
    obtain ⟨oC, es, ep, hoC, hdC, hkC, hfC⟩ := id hn
    have hoC3 := kf3 C oC hoC hCL hCc
    have hn3 : h₃.Ns C m := ⟨oC, es, ep, hoC3, hdC, hkC, hfC⟩
    refine ⟨m, hn3, fun h₄ hs4 => ?_⟩
    dsimp only at hs4
    have lt4 : KeepsLT h₃ h₄ := KeepsLT.sameBut hs4 (ns_notSeq hn3)
    refine ⟨h₄, tk₃, β ++ [D], H ++ (K₁ ++ [ds]), rfl, ⟨fun b o e a1 a2 _ => hs4.extBut b o (fun q => by rw [q, dC] at e; cases e) (kf3 b o (k b o e) a1 a2), fr', fun n hnn _ => List.getElem?_append_left hnn, by simp⟩, fun b o e => ?_, (R''.lt' lt3).lt' lt4, _, F3.other KK hs4 hCL hCc (F.deadH dC) lt4.tup, by simpa using q'⟩
    obtain ⟨o', e'⟩ := lv3 b o (k b o e)
    exact ⟨o', hs4.extBut b o' (fun q => by rw [q, dC] at e; cases e) e'⟩

end
end Mine

set_option autoImplicit false
set_option linter.unusedSimpArgs false
set_option linter.unusedVariables false
set_option linter.unusedSectionVars false
namespace Mine
open PySem PyProof.Rows PySem.Calls

section
variable {X : SX} {f : FC}

end
end Mine

set_option autoImplicit false
set_option linter.unusedSimpArgs false
set_option linter.unusedVariables false
namespace Mine
open PySem PyProof.Rows PySem.Calls

/-- the post of a call behind which the frame's own object may have turned its slots -/
inductive PostT (G : GV) (f : FC) (s : Shared) (α : List Addr) (H : Hp) (Q : V → Hp → Prop) (v : Value) (s' : Shared) : Prop
  | mk (h' : Heap) (tk : Nat) (β : List Addr) (K : Hp) (d : V) (e : s' = { s with heap := h', toks := tk }) (k : ∀ b o, s.heap.get? b = some o → b ≠ f.env.locals → h'.get? b = some o)
    (l : ∀ m, s.heap.Ns f.env.locals m → h'.Ns f.env.locals m) (fr : ∀ b ∈ β, s.heap.get? b = none) (R : HR G (α ++ β) h' (H ++ K)) (r : Rep G (α ++ β) h' v d) (q : Q d (H ++ K))

/-- a call that may raise within and catch -/
noncomputable def STry (X : SX) (f : FC) : Prop :=
  ∀ (k : Nat) (x : Str) (vs : List V) (H : Hp) (Q : V → Hp → Prop), f.c.g.fns[k]? = some x → X.Φ (k + 1000) vs H Q (fun _ _ => False) → ∀ (W : Nat → Prop) (s : Shared) (α : List Addr) (ρ : Loc) (vals : List Value) (E : Value → Shared → Prop),
    GF X.G f.c.g X.DT f.hb → FrS X.G f W s.heap α ρ → HR X.G α s.heap H → Reps X.G α s.heap vals vs → wpAny (model X.prog X.w) X.A (call (.ref (X.G.fa k)) vals) (PostT X.G f s α H Q) E s

section
variable {X : SX} {f : FC}
theorem PostT.trans {s : Shared} {α : List Addr} {H : Hp} {Q : V → Hp → Prop} {h₁ : Heap} {tk₁ : Nat} {β : List Addr} {K : Hp} {v : Value} {s' : Shared} (k : KeepsH s.heap h₁) (fr : ∀ b ∈ β, s.heap.get? b = none)
    (p : PostT X.G f { s with heap := h₁, toks := tk₁ } (α ++ β) (H ++ K) Q v s') : PostT X.G f s α H Q v s' := by
  obtain ⟨h', tk, β', K', d, rfl, k', l', fr', R', r', q'⟩ := p
  refine ⟨h', tk, β ++ β', K ++ K', d, rfl, fun b o e n => k' b o (k b o e) n, fun m e => l' m (e.keeps k), fun b hb => ?_, by simpa using R', by simpa using r', by simpa using q'⟩
  rcases List.mem_append.mp hb with hb | hb
  · exact fr b hb
  · cases e : s.heap.get? b with
    | none => rfl
    | some o => have := k b o e; rw [show h₁.get? b = none from fr' b hb] at this; cases this

theorem call_fnT {k : Nat} {x : Str} {ps : PEs} {e : Expr} {es : List Expr} {pos : Pos} (hT : STry X f) (hf : f.c.g.fns[k]? = some x) (hn : notStar e = true) (h : SEs X f.c ps (e :: es))
    (W : Nat → Prop) (s : Shared) (α : List Addr) (ρ : Loc) (H : Hp) (Q : V → Hp → Prop) (E : Value → Shared → Prop) (O : EnvOk f.c f.env) (T : GF X.G f.c.g X.DT f.hb) (R : HR X.G α s.heap H) (F : FrS X.G f W s.heap α ρ)
    (q : wpEs X.sub X.Φ ps ρ H fun vs H1 => X.Φ (k + 1000) vs H1 Q fun _ _ => False) :
    wpAny (model X.prog X.w) X.A (callWith pos (.ref (X.G.fa k)) [] (backTo pos (starEach (e :: es) f.env)) []) (PostT X.G f s α H Q) E s := by
  obtain ⟨_, d, o, pm, cd, doc, _, _, ho, hd, _⟩ := (T.at F).fn k x hf
  refine callWith_def hd (wpAny_mono (h f.env s α ρ H _ E pos O (T.at F) R F.fi q) (fun vs s₁ p => ?_) fun _ _ y => y) (starEach_cons hn)
  obtain ⟨h₁, tk₁, β, K, ds, rfl, k', f', R', r, q'⟩ := p
  refine ⟨k' _ _ ho, ?_⟩
  exact wpAny_mono (hT k x ds (H ++ K) Q hf q' W { s with heap := h₁, toks := tk₁ } (α ++ β) ρ vs E T (F.up k' f') R' r.1) (fun _ _ p => p.trans k' f') fun _ _ y => y

theorem Lives.turn {W : Nat → Prop} {s : Shared} {α : List Addr} {ρ : Loc} {h' : Heap} (F : FrS X.G f W s.heap α ρ) (k : ∀ b o, s.heap.get? b = some o → b ≠ f.env.locals → h'.get? b = some o) (l : ∀ m, s.heap.Ns f.env.locals m → h'.Ns f.env.locals m) : Lives s.heap h' := fun b o e => by
  by_cases hb : b = f.env.locals
  · subst hb
    obtain ⟨m, cm, hn, _⟩ := F.fr
    obtain ⟨o', _, _, e', _⟩ := l m hn
    exact ⟨_, e'⟩
  · exact ⟨o, k b o e hb⟩
theorem FrS.turn {W : Nat → Prop} {s : Shared} {α β : List Addr} {ρ : Loc} {h' : Heap} (K : FCOk f) (F : FrS X.G f W s.heap α ρ) (k : ∀ b o, s.heap.get? b = some o → b ≠ f.env.locals → h'.get? b = some o)
    (l : ∀ m, s.heap.Ns f.env.locals m → h'.Ns f.env.locals m) (fr : ∀ b ∈ β, s.heap.get? b = none) : FrS X.G f W h' (α ++ β) ρ := by
  obtain ⟨m, cm, hn, hc, hv⟩ := F.fr
  have kt : KeepsT s.heap h' := fun a items x => by
    obtain ⟨o, ho, hc', n, hd⟩ := x
    refine ⟨o, k a o ho fun ha => ?_, hc', n, hd⟩
    subst ha
    obtain ⟨o', es, ep, ho', hd', _⟩ := hn
    rw [ho] at ho'; cases ho'
    rw [hd] at hd'; cases hd'
  refine ⟨⟨m, cm, ?_, ?_, fun i x d e1 e2 => ?_⟩, fun b o e => ?_, fun n a ha hw => ?_⟩
  · exact l m hn
  · exact hc.extBut (fun c o n e => k c o e n) (Nat.le_refl _)
  · obtain ⟨v, hv, r⟩ := hv i x d e1 e2
    exact ⟨v, hv, r.mono ext_app kt⟩
  · refine k b o (F.kb b o e) fun hb => ?_
    subst hb
    rw [K.deadL] at e; cases e
  · by_cases hl : n < α.length
    · rw [List.getElem?_append_left hl] at ha; exact F.wb n a ha hw
    · rw [List.getElem?_append_right (by (clear K F k l fr hn hc hv kt ha hw; omega))] at ha
      have hm := fr a (List.mem_of_getElem? ha)
      cases e : f.hb.get? a with
      | none => rfl
      | some o => have := F.kb a o e; rw [hm] at this; cases this
theorem PostT.transT {s : Shared} {α : List Addr} {H : Hp} {Q : V → Hp → Prop} {W : Nat → Prop} {ρ : Loc} {h₁ : Heap} {tk₁ : Nat} {β : List Addr} {K₁ : Hp} {v : Value} {s' : Shared} (F : FrS X.G f W s.heap α ρ)
    (k : ∀ b o, s.heap.get? b = some o → b ≠ f.env.locals → h₁.get? b = some o) (l : ∀ m, s.heap.Ns f.env.locals m → h₁.Ns f.env.locals m) (fr : ∀ b ∈ β, s.heap.get? b = none)
    (p : PostT X.G f { s with heap := h₁, toks := tk₁ } (α ++ β) (H ++ K₁) Q v s') : PostT X.G f s α H Q v s' := by
  obtain ⟨h', tk, β', K', d, rfl, k', l', fr', R', r', q'⟩ := p
  refine ⟨h', tk, β ++ β', K₁ ++ K', d, rfl, fun b o e n => k' b o (k b o e n) n, fun m e => l' m (l m e), fun b hb => ?_, by simpa using R', by simpa using r', by simpa using q'⟩
  rcases List.mem_append.mp hb with hb | hb
  · exact fr b hb
  · cases e : s.heap.get? b with
    | none => rfl
    | some o =>
      obtain ⟨o', e'⟩ := Lives.turn F k l b o e
      rw [show h₁.get? b = none from fr' b hb] at e'; cases e'
/-- one call, told by what it is matched with -/
noncomputable def OneT (X : SX) (f : FC) (c : Nat × PEs) (e : Expr) : Prop :=
  ∃ x p a r pos, e = .Call (.Name x p) (a :: r) [] pos ∧ f.c.g.fns[c.1]? = some x ∧ f.c.isGlob x = true ∧ notStar a = true ∧ SEs X f.c c.2 (a :: r)
noncomputable def AllT (X : SX) (f : FC) : List (Nat × PEs) → List Expr → Prop
  | [], es => es = []
  | c :: r, es => ∃ e es', es = e :: es' ∧ OneT X f c e ∧ AllT X f r es'
theorem OneT.run {c : Nat × PEs} {e : Expr} (o : OneT X f c e) (K : FCOk f) (hT : STry X f) (W : Nat → Prop) (s : Shared) (α : List Addr) (ρ : Loc) (H : Hp) (Q : V → Hp → Prop) (E : Value → Shared → Prop) (T : GF X.G f.c.g X.DT f.hb) (F : FrS X.G f W s.heap α ρ) (R : HR X.G α s.heap H)
    (q : wpEs X.sub X.Φ c.2 ρ H fun vs H1 => X.Φ (c.1 + 1000) vs H1 Q fun _ _ => False) : wpAny (model X.prog X.w) X.A (eval e f.env) (PostT X.G f s α H Q) E s := by
  obtain ⟨x, p, a, r, pos, rfl, hf, hx, hn, h⟩ := o
  exact Call_ (load_glob K.env hx (T.at F).g ((T.at F).fn c.1 x hf).1 (call_fnT hT hf hn h W s α ρ H Q E K.env T R F q))
theorem et_and (K : FCOk f) (hT : STry X f) (pos : Pos) (W : Nat → Prop) (ρ : Loc) (Rr : V → Hp → Prop) (E : Value → Shared → Prop) (T : GF X.G f.c.g X.DT f.hb) : ∀ (c : Nat × PEs) (cs : List (Nat × PEs)) (es : List Expr) (s : Shared) (α : List Addr) (H : Hp), AllT X f (c :: cs) es → FrS X.G f W s.heap α ρ → HR X.G α s.heap H →
    wpT X.sub X.Φ (c :: cs) ρ H Rr → wpAny (model X.prog X.w) X.A (boolOp pos .And (evalEach es f.env)) (PostT X.G f s α H Rr) E s
  | c, [], es, s, α, H, a, F, R, q => by
    obtain ⟨e, es', rfl, o, rfl⟩ := a
    refine wpAny_mono (o.run K hT W s α ρ H _ E T F R q) (fun v s₁ p => ?_) fun _ _ x => x
    obtain ⟨h₁, tk₁, β, K₁, d, rfl, k, l, fr, R', r, rfl, q'⟩ := p
    exact ⟨h₁, tk₁, β, K₁, _, rfl, k, l, fr, R', r, q'⟩
  | c, c2 :: cs, es, s, α, H, a, F, R, q => by
    obtain ⟨e, es', rfl, o, a2⟩ := a
    obtain ⟨e2, es2, rfl, o2, a3⟩ := id a2
    have key : wpAny (model X.prog X.w) X.A (eval e f.env >>= fun v => do
        standAt pos
        let t ← holding [v] (truthy v)
        match BoolOp.And, t with
        | .And, false | .Or, true => pure v
        | _, _ => boolOp pos .And (evalEach (e2 :: es2) f.env)) (PostT X.G f s α H Rr) E s := by
      refine wpAny_bind (wpAny_mono (o.run K hT W s α ρ H _ E T F R q) (fun v s₁ p => ?_) fun _ _ x => x)
      obtain ⟨h₁, tk₁, β, K₁, d, rfl, k, l, fr, R', r, rfl, q'⟩ := p
      refine wpAny_bind (wpAny_standAt (wpAny_bind (wpAny_holding (truth_sound (s := { s with heap := h₁, toks := tk₁ }) R' r (show truthV _ (.bool true) = some true from rfl) fun tk => ?_))))
      exact wpAny_mono (et_and K hT pos W ρ Rr E T c2 cs (e2 :: es2) { s with heap := h₁, toks := tk } (α ++ β) (H ++ K₁) a2 (F.turn K k l fr) R' q') (fun _ _ p => p.transT F k l fr) fun _ _ x => x
    exact key
theorem ss_randt {c : Nat × PEs} {cs : List (Nat × PEs)} {es : List Expr} {pos pos' : Pos} (K : FCOk f) (hT : STry X f) (a : AllT X f (c :: cs) es) : SS X f (.randt (c :: cs)) (.Return (some (.BoolOp .And es pos)) pos') := fun W s α ρ H N R Y E hW T F HR' hY q => by
  replace q : wpT X.sub X.Φ (c :: cs) ρ H R := q
  refine wpAny_Return_some (wpAny_mono (by rw [arm_eval_BoolOp]; exact et_and K hT pos W ρ R E T c cs es s α H a F HR' q) (fun v s₁ p => ?_) fun _ _ x => x)
  obtain ⟨h₁, tk₁, β, K₁, d, rfl, k, l, fr, R', r, q⟩ := p
  refine ⟨h₁, tk₁, β, H ++ K₁, rfl, ⟨fun b o e n _ _ => k b o e n, fr, fun n hn _ => List.getElem?_append_left hn, by simp⟩, Lives.turn F k l, R', fun b o e => ?_, d, r, q⟩
  · refine k b o (F.kb b o e) fun hb => ?_
    subst hb
    rw [K.deadL] at e; cases e
end
end Mine

set_option autoImplicit false
set_option linter.unusedSimpArgs false
set_option linter.unusedVariables false
set_option linter.unusedSectionVars false
namespace Mine
open PySem PyProof.Rows PySem.Calls

theorem meth_spec {c : MC} {i : Nat} {m : Str} {e : Expr} {cp : Pos} (h : c.isMeth i m e cp = true) : ∃ x px a ap, e = .Attribute (.Name x px) a ap ∧ c.isVar i x = true ∧ a = m ∧ ap.endLine = cp.line := by
  cases e <;> first | exact (Bool.false_ne_true h).elim | skip
  rename_i y a ap
  replace h : (c.varNm i y && a == m && decide (ap.endLine = cp.line)) = true := h
  rw [Bool.and_eq_true, Bool.and_eq_true, decide_eq_true_eq, beq_iff_eq] at h
  obtain ⟨x, px, rfl, hx⟩ := varNm_spec h.1.1
  exact ⟨x, px, a, ap, rfl, hx, h.1.2, h.2⟩
/-- a name's assignment -/
theorem inv_assign1 {P : Expr → Bool} {ts : List Expr} (h : (match isOne ts with | some t => P t | none => false) = true) : ∃ t, ts = [t] ∧ P t = true := by
  cases h1 : isOne ts with
  | none => rw [h1] at h; exact (Bool.false_ne_true h).elim
  | some t => rw [h1] at h; exact ⟨t, one_spec h1, h⟩

theorem isAnd_spec {v : Expr} {vs : List Expr} (h : isAnd v = some vs) : ∃ p, v = .BoolOp .And vs p := by
  cases v <;> first | cases h | skip
  rename_i o ws p
  cases o with
  | And => cases h; exact ⟨p, rfl⟩
  | Or => cases h
theorem soundT {X : SX} {f : FC} (hA : AOk X.prog X.A) (hΦ : SCall X.prog X.w X.G f.c.g X.DT X.A X.Φ) : ∀ (cs : List (Nat × PEs)) (vs : List Expr), matchT f.c cs vs = true → AllT X f cs vs
  | [], vs, h => List.isEmpty_iff.mp h
  | c :: cs, [], h => (Bool.false_ne_true h).elim
  | c :: cs, v :: vs, h => by
    replace h : (matchE f.c (.call c.1 c.2) v && matchT f.c cs vs) = true := h
    rw [Bool.and_eq_true] at h
    obtain ⟨x, p, a, r, pos, rfl, h1, h2, h3⟩ := inv_call h.1
    obtain ⟨hs, hn⟩ := soundEs hA hΦ c.2 f.c.scope f.c.names _ h3
    exact ⟨_, vs, rfl, ⟨x, p, a, r, pos, rfl, h1, h2, (Bool.and_eq_true_iff.mp hn).1, hs⟩, soundT hA hΦ cs vs h.2⟩
section
variable {X : SX} {f : FC} (hA : AOk X.prog X.A) (hΦ : SCall X.prog X.w X.G f.c.g X.DT X.A X.Φ) (K : FCOk f) (hT : STry X f)
include hA hΦ K hT

mutual
theorem soundS : (ps : PS) → ∀ (st : Stmt), matchS f.c ps st = true → SS X f ps st
  | .skip, st, h => (Bool.false_ne_true h).elim
  | .seq _ _, st, h => (Bool.false_ne_true h).elim
  | .assign i e, st, h => by
    cases st <;> first | exact (Bool.false_ne_true h).elim | skip
    rename_i ts v pos
    replace h := inv_assign1 h
    obtain ⟨t, rfl, h⟩ := h
    replace h := Bool.and_eq_true_iff.mp h
    have h1 := Bool.and_eq_true_iff.mp h.1
    obtain ⟨x, px, rfl, hx⟩ := varNm_spec h1.1
    rcases Bool.or_eq_true_iff.mp h.2 with hc | hc
    · exact ss_assign K hx (soundE hA hΦ e f.c.scope f.c.names v h1.2).1 hc
    · cases e with
      | comp elt tg caps it cond =>
        obtain ⟨x', tx, px', i', ifs, sc', pos', cs, rfl, rfl, hK, hi, he, hf⟩ := inv_comp h1.2
        obtain ⟨hsi, hns⟩ := soundI hA hΦ it f.c.scope f.c.names _ hi
        exact ss_assign_comp K hx hK (soundE hA hΦ elt sc' _ _ he).1 (soundIfs hA hΦ cond sc' _ _ hf) hsi hns
      | _ => exact (Bool.false_ne_true hc).elim
  | .unpack _ _, st, h => (Bool.false_ne_true h).elim
  | .setidx i k e, st, h => by
    cases st <;> first | exact (Bool.false_ne_true h).elim | skip
    rename_i ts v pos
    replace h := inv_assign1 h
    obtain ⟨t, rfl, h⟩ := h
    cases t <;> first | exact (Bool.false_ne_true h).elim | skip
    rename_i y j _
    replace h : (f.c.varNm i y && matchE f.c k j && matchE f.c e v && notCompM v) = true := h
    rw [Bool.and_eq_true, Bool.and_eq_true, Bool.and_eq_true] at h
    obtain ⟨x, px, rfl, hx⟩ := varNm_spec h.1.1.1
    exact ss_setidx K hx (soundE hA hΦ k f.c.scope f.c.names _ h.1.1.2).1 (soundE hA hΦ e f.c.scope f.c.names _ h.1.2).1 h.2
  | .app i e, st, h => by
    cases st <;> first | exact (Bool.false_ne_true h).elim | skip
    rename_i x pos
    cases x <;> first | exact (Bool.false_ne_true h).elim | skip
    rename_i g as kw cp
    replace h := inv_assign1 h
    obtain ⟨v, rfl, h⟩ := h
    replace h : (kw.isEmpty && f.c.isMeth i (Str.ofString "append") g cp && matchE f.c e v && notStarM v) = true := h
    rw [Bool.and_eq_true, Bool.and_eq_true, Bool.and_eq_true, List.isEmpty_iff] at h
    obtain ⟨⟨⟨rfl, hm⟩, h2⟩, h3⟩ := h
    obtain ⟨x, px, a, ap, rfl, hx, ha, hl⟩ := meth_spec hm
    exact ss_app K hx ha hl (notStarM_eq v ▸ h3) (soundE hA hΦ e f.c.scope f.c.names _ h2).1
  | .pop i, st, h => by
    cases st <;> first | exact (Bool.false_ne_true h).elim | skip
    rename_i x pos
    cases x <;> first | exact (Bool.false_ne_true h).elim | skip
    rename_i g as kw cp
    replace h : (as.isEmpty && kw.isEmpty && f.c.isMeth i (Str.ofString "pop") g cp) = true := h
    rw [Bool.and_eq_true, Bool.and_eq_true, List.isEmpty_iff, List.isEmpty_iff] at h
    obtain ⟨⟨rfl, rfl⟩, hm⟩ := h
    obtain ⟨x, px, a, ap, rfl, hx, ha, hl⟩ := meth_spec hm
    exact ss_pop K hx ha hl
  | .rev i, st, h => by
    cases st <;> first | exact (Bool.false_ne_true h).elim | skip
    rename_i x pos
    cases x <;> first | exact (Bool.false_ne_true h).elim | skip
    rename_i g as kw cp
    replace h : (as.isEmpty && kw.isEmpty && f.c.isMeth i (Str.ofString "reverse") g cp) = true := h
    rw [Bool.and_eq_true, Bool.and_eq_true, List.isEmpty_iff, List.isEmpty_iff] at h
    obtain ⟨⟨rfl, rfl⟩, hm⟩ := h
    obtain ⟨x, px, a, ap, rfl, hx, ha, hl⟩ := meth_spec hm
    exact ss_rev K hx ha hl
  | .ret e, st, h => by
    cases st <;> first | exact (Bool.false_ne_true h).elim | skip
    rename_i o pos
    cases o with
    | none => exact (Bool.false_ne_true h).elim
    | some v => exact ss_ret K (soundE hA hΦ e f.c.scope f.c.names _ h).1
  | .ite c a b, st, h => by
    cases st <;> first | exact (Bool.false_ne_true h).elim | skip
    replace h := Bool.and_eq_true_iff.mp h
    have h1 := Bool.and_eq_true_iff.mp h.1
    exact ss_ite K (soundE hA hΦ c f.c.scope f.c.names _ h1.1).2 (soundB a _ h1.2) (soundB b _ h.2)
  | .whl c b, st, h => by
    cases st <;> first | exact (Bool.false_ne_true h).elim | skip
    replace h := Bool.and_eq_true_iff.mp h
    have h1 := Bool.and_eq_true_iff.mp h.1
    have h0 := List.isEmpty_iff.mp h1.1
    subst h0
    exact ss_whl K (soundE hA hΦ c f.c.scope f.c.names _ h1.2).2 (soundB b _ h.2)
  | .forr i it b, st, h => by
    cases st <;> first | exact (Bool.false_ne_true h).elim | skip
    replace h := Bool.and_eq_true_iff.mp h
    have h1 := Bool.and_eq_true_iff.mp h.1
    have h2 := Bool.and_eq_true_iff.mp h1.1
    have h0 := List.isEmpty_iff.mp h2.1
    subst h0
    obtain ⟨x, px, rfl, hx⟩ := varNm_spec h2.2
    obtain ⟨hsi, hns⟩ := soundI hA hΦ it f.c.scope f.c.names _ h1.2
    exact ss_forr K hx hsi hns (soundB b _ h.2)
  | .raise k, st, h => fun W s α ρ H N R Y E hW T F HR' hY q => by
    simp only [qS1, qS2, qS3, qS4, qS5, qS6, qS7, qS8, qS9, qS10, qS11, qS12, qS13, qS14, qS15, qS16, qS17, qS18] at q
    exact wpAny_mono (hY k st s.heap s.toks [] H ρ h .refl (fun b o e => ⟨o, e⟩) (by simpa using HR') (by simpa using F) q) (fun _ _ f => f.elim) fun _ _ e => e
  | .opaq, st, h => (Bool.false_ne_true h).elim
  | .rett _ _, st, h => (Bool.false_ne_true h).elim
  | .asst _ _ _, st, h => (Bool.false_ne_true h).elim
  | .itet _ _ _ _ _ _ _, st, h => (Bool.false_ne_true h).elim
  | .randt cs, st, h => by
    cases st <;> first | exact (Bool.false_ne_true h).elim | skip
    rename_i o pos
    cases o with
    | none => exact (Bool.false_ne_true h).elim
    | some v =>
      replace h : (match isAnd v with | some vs => !cs.isEmpty && matchT f.c cs vs | none => false) = true := h
      cases hv : isAnd v with
      | none => rw [hv] at h; exact (Bool.false_ne_true h).elim
      | some vs =>
        rw [hv] at h
        replace h : (!cs.isEmpty && matchT f.c cs vs) = true := h
        rw [Bool.and_eq_true] at h
        obtain ⟨p, rfl⟩ := isAnd_spec hv
        cases cs with
        | nil => exact (Bool.false_ne_true h.1).elim
        | cons c cs => exact ss_randt K hT (soundT hA hΦ (c :: cs) vs h.2)
theorem soundB : (ps : PS) → ∀ (sts : List Stmt), matchB f.c ps sts = true → SB X f ps sts
  | .skip, sts, h => by
    cases sts with
    | nil => exact sb_nil K
    | cons _ _ => exact (Bool.false_ne_true h).elim
  | .seq a b, sts, h => by
    cases sts with
    | nil => exact (Bool.false_ne_true h).elim
    | cons st sts =>
      replace h := Bool.and_eq_true_iff.mp h
      exact sb_cons K (soundS a _ h.1) (soundB b _ h.2)
  | .assign _ _, sts, h => (Bool.false_ne_true h).elim
  | .unpack _ _, sts, h => (Bool.false_ne_true h).elim
  | .setidx _ _ _, sts, h => (Bool.false_ne_true h).elim
  | .app _ _, sts, h => (Bool.false_ne_true h).elim
  | .pop _, sts, h => (Bool.false_ne_true h).elim
  | .rev _, sts, h => (Bool.false_ne_true h).elim
  | .ret _, sts, h => (Bool.false_ne_true h).elim
  | .ite _ _ _, sts, h => (Bool.false_ne_true h).elim
  | .whl _ _, sts, h => (Bool.false_ne_true h).elim
  | .forr _ _ _, sts, h => (Bool.false_ne_true h).elim
  | .raise _, sts, h => (Bool.false_ne_true h).elim
  | .opaq, sts, h => fun W s α ρ H N R Y E hW T F HR' hY q => (show False from q).elim
  | .rett _ _, sts, h => (Bool.false_ne_true h).elim
  | .asst _ _ _, sts, h => (Bool.false_ne_true h).elim
  | .itet _ _ _ _ _ _ _, sts, h => (Bool.false_ne_true h).elim
  | .randt _, sts, h => (Bool.false_ne_true h).elim
end
end
end Mine

set_option autoImplicit false
set_option linter.unusedVariables false
namespace Mine
open PySem PyProof.Rows PySem.Calls

theorem cellsFrom_lookup : ∀ (names : List (Str × NameKind)) (n : Nat) (acc : List (Str × Addr)) (x : Str), (names.lookup x = some NameKind.cell ∨ ∃ a, acc.lookup x = some a) → ∃ a, (cellsFrom n names acc).lookup x = some a
  | [], n, acc, x, h => by
    rcases h with h | h
    · simp at h
    · exact h
  | (y, k) :: r, n, acc, x, h => by
    unfold cellsFrom
    by_cases hxy : x = y
    · subst hxy
      rcases h with h | ⟨a, h⟩
      · rw [List.lookup_cons_self] at h; cases h
        rw [if_pos (by rfl)]
        exact cellsFrom_lookup r _ _ x (.inr ⟨n, by rw [List.lookup_cons_self]⟩)
      · by_cases hk : (k == NameKind.cell) = true
        · rw [if_pos hk]; exact cellsFrom_lookup r _ _ x (.inr ⟨n, by rw [List.lookup_cons_self]⟩)
        · rw [if_neg hk]; exact cellsFrom_lookup r _ _ x (.inr ⟨a, h⟩)
    · have hne : (x == y) = false := by simpa using hxy
      have h' : r.lookup x = some NameKind.cell ∨ ∃ a, acc.lookup x = some a := by
        rcases h with h | h
        · rw [List.lookup_cons, hne] at h; exact .inl h
        · exact .inr h
      by_cases hk : (k == NameKind.cell) = true
      · rw [if_pos hk]
        refine cellsFrom_lookup r _ _ x ?_
        rcases h' with h' | ⟨a, h'⟩
        · exact .inl h'
        · exact .inr ⟨a, by rw [List.lookup_cons, hne]; exact h'⟩
      · rw [if_neg hk]; exact cellsFrom_lookup r _ _ x h'

theorem cellsFrom_keys : ∀ (names : List (Str × NameKind)) (n : Nat) (acc : List (Str × Addr)), (cellsFrom n names acc).map (·.1) = ((names.filter fun x => x.2 == NameKind.cell).map (·.1)).reverse ++ acc.map (·.1)
  | [], n, acc => by simp [cellsFrom]
  | (y, k) :: r, n, acc => by
    unfold cellsFrom
    by_cases hk : (k == NameKind.cell) = true
    · rw [if_pos hk, cellsFrom_keys r]; simp [hk]
    · rw [if_neg hk, cellsFrom_keys r]; simp [hk]

theorem lookup_of_nodup {β : Type} : ∀ (l : List (Str × β)) (x : Str) (v : β), (l.map (·.1)).Nodup → (x, v) ∈ l → l.lookup x = some v
  | [], _, _, _, h => by simp at h
  | (y, u) :: r, x, v, hn, h => by
    rw [List.map_cons, List.nodup_cons] at hn
    rcases List.mem_cons.mp h with h | h'
    · cases h; rw [List.lookup_cons_self]
    · have hne : (x == y) = false := by
        simp only [beq_eq_false_iff_ne]
        intro e; subst e
        exact hn.1 (List.mem_map.mpr ⟨_, h', rfl⟩)
      rw [List.lookup_cons, hne]; exact lookup_of_nodup r x v hn.2 h'

theorem bindL_keep {k : Str → Option NameKind} : ∀ (binds : List (Str × Value)) (m : Str → Option Value) (x : Str), x ∉ binds.map (·.1) → bindL k binds m x = m x
  | [], _, _, _ => rfl
  | (n, v) :: r, m, x, h => by
    simp only [List.map_cons, List.mem_cons, not_or] at h
    unfold bindL
    rw [bindL_keep r _ x h.2]
    split
    · exact if_neg h.1
    · rfl
theorem bindL_get {k : Str → Option NameKind} : ∀ (binds : List (Str × Value)) (m : Str → Option Value) (x : Str) (v : Value), (binds.map (·.1)).Nodup → (x, v) ∈ binds → k x = some .local → bindL k binds m x = some v
  | [], _, _, _, _, h, _ => by simp at h
  | (n, u) :: r, m, x, v, hn, h, hk => by
    rw [List.map_cons, List.nodup_cons] at hn
    unfold bindL
    rcases List.mem_cons.mp h with h | h
    · cases h
      rw [bindL_keep r _ _ hn.1, if_pos hk]; exact if_pos rfl
    · exact bindL_get r _ x v hn.2 h hk
theorem bindC_keep {k : Str → Option NameKind} : ∀ (binds : List (Str × Value)) (m : Str → Option Value) (x : Str), x ∉ binds.map (·.1) → bindC k binds m x = m x
  | [], _, _, _ => rfl
  | (n, v) :: r, m, x, h => by
    simp only [List.map_cons, List.mem_cons, not_or] at h
    unfold bindC
    rw [bindC_keep r _ x h.2]
    split
    · rfl
    · exact if_neg h.1
theorem bindC_get {k : Str → Option NameKind} : ∀ (binds : List (Str × Value)) (m : Str → Option Value) (x : Str) (v : Value), (binds.map (·.1)).Nodup → (x, v) ∈ binds → k x ≠ some .local → bindC k binds m x = some v
  | [], _, _, _, _, h, _ => by simp at h
  | (n, u) :: r, m, x, v, hn, h, hk => by
    rw [List.map_cons, List.nodup_cons] at hn
    unfold bindC
    rcases List.mem_cons.mp h with h | h
    · cases h
      rw [bindC_keep r _ _ hn.1, if_neg hk]; exact if_pos rfl
    · exact bindC_get r _ x v hn.2 h hk

theorem get_ge_none {h : Heap} {a : Addr} (ha : h.objs.size ≤ a) : h.get? a = none := by
  cases e : h.get? a with
  | none => rfl
  | some o => exact absurd (Heap.lt_size e) (Nat.not_lt.mpr ha)

/-- a def of the text and its mini form -/
structure DefOk (gc : GC) (d : DefT) (f : Fn) (vs : List Str) : Prop where
  nodup : vs.Nodup
  kind : d.scope.kind = .function
  coro : d.scope.isCoroutine = false
  gen : d.scope.isGenerator = false
  nofree : ∀ x, d.scope.names.lookup x ≠ some NameKind.free
  uniq : ((d.scope.names.filter fun x => x.2 == NameKind.cell).map (·.1)).Nodup
  par : ∀ x ∈ vs.take f.np, d.scope.names.lookup x = some .local ∨ d.scope.names.lookup x = some .cell
  bind : ∀ (pm cd doc : Value) (vals : List Value), vals.length = f.np → bindArgs (docDef d.name d.params d.body d.scope pm cd doc) ⟨vals, []⟩ = pure ((vs.take f.np).zip vals)
  body : matchB ⟨gc, d.scope, vs⟩ f.body d.body = true

theorem envOk_of {gc : GC} {d : DefT} {f : Fn} {vs : List Str} (D : DefOk gc d f vs) (L a : Addr) (cd : Value) : EnvOk ⟨gc, d.scope, vs⟩ (envOfC d.name d.scope L a cd) where
  kind := D.kind
  globals := rfl
  builtins := rfl
  loc := fun x e => e
  glob := fun x e => e
  cel := fun x e => e
  fre := fun x e => absurd e (D.nofree x)
  cells := fun x e => by
    rcases e with e | e
    · exact cellsFrom_lookup _ _ _ x (.inl e)
    · exact absurd e (D.nofree x)

theorem zip_get {β : Type} : ∀ {xs : List Str} {ys : List β} {i : Nat} {x : Str} {y : β}, xs[i]? = some x → ys[i]? = some y → (x, y) ∈ xs.zip ys
  | [], _, _, _, _, h, _ => by simp at h
  | _ :: _, [], _, _, _, _, h => by simp at h
  | _ :: _, _ :: _, 0, _, _, h1, h2 => by simp at h1 h2; subst h1 h2; simp
  | _ :: _, _ :: _, i + 1, _, _, h1, h2 => by
    simp at h1 h2
    simp only [List.zip_cons_cons, List.mem_cons]
    exact .inr (zip_get h1 h2)

theorem lget_start {np nv : Nat} {vs : List V} {i : Nat} {d : V} (h : lget (startLoc np nv vs) i = some d) : vs[i]? = some d := by
  have key : ∀ (l : List V) (n i : Nat), lget (l.map some ++ List.replicate n none) i = some d → l[i]? = some d := fun l => by
    induction l with
    | nil =>
      intro n
      induction n with
      | zero => intro i h; simp [lget] at h
      | succ n ih =>
        intro i h
        cases i with
        | zero => simp [List.replicate_succ, lget] at h
        | succ i => exact absurd (ih i (by simpa [List.replicate_succ, lget] using h)) (by simp)
    | cons x l ih =>
      intro n i h
      cases i with
      | zero => simpa [lget] using h
      | succ i => simpa using ih n i (by simpa [lget] using h)
  exact key vs _ i h

/-- the room that n calls need -/
structure Room (prog : Program) (A : Around) (n : Nat) : Prop where
  handled : A.handled = none
  depth : A.depth + n + 100 < recursionLimit
  units : A.units + 3 * n + 100 < cLine
  tree : prog.given.tree = none
  frames : ∃ l, A.frames = some l

theorem Room.down {prog : Program} {A : Around} {n : Nat} {env : Env} (r : Room prog A (n + 1)) : Room prog (A.deeper env) n :=
  ⟨r.handled, by have := r.depth; show A.depth + 1 + n + 100 < _; (clear r; omega), by have := r.units; show A.units + 3 + 3 * n + 100 < _; (clear r; omega), r.tree, by
    obtain ⟨l, e⟩ := r.frames
    exact ⟨env :: l, by show A.frames.map (env :: ·) = _; rw [e]; rfl⟩⟩
theorem Room.ok {prog : Program} {A : Around} {n : Nat} {env : Env} (r : Room prog A (n + 1)) (hg : env.scope.isGenerator = false) (hc : env.scope.isCoroutine = false) (hb : env.builtins = builtinsNs) (hm : env.globals = mainGlobals) : AOk prog (A.deeper env) := by
  obtain ⟨l, e⟩ := r.frames
  refine ⟨r.handled, by have := r.units; show A.units + 3 + 100 < _; (clear r hg hc hb hm e; omega), fun w s hl hs => PylongRoom.of hl ?_ (SeerAt.of hs r.tree (env := env) (l := l) (by show A.frames.map (env :: ·) = _; rw [e]; rfl) hg hc hb hm)⟩
  have := r.depth
  show A.depth + 1 + 100 < _
  (clear r hg hc hb hm e hl hs; omega)

section
variable {prog : Program} {w : World} {G : GV} {gc : GC} {DT : List DefT} {P : List Fn} {VT : List (List Str)} {sub : Nat → Nat → Bool}

theorem take_eq_of_same {H H' : Hp} (hs : ∀ n, n < H.length → H'[n]? = H[n]?) (hl : H.length ≤ H'.length) : H' = H ++ H'.drop H.length := by
  conv => lhs; rw [← List.take_append_drop H.length H']
  congr 1
  apply List.ext_getElem?
  intro n
  by_cases hn : n < H.length
  · rw [List.getElem?_take, if_pos hn]; exact hs n hn
  · rw [List.getElem?_take, if_neg hn, List.getElem?_eq_none (by (clear hs hl; omega))]

noncomputable def SCallC (prog : Program) (w : World) (G : GV) (gc : GC) (DT : List DefT) (A : Around) (Φ : Call) : Prop :=
  ∀ (f : Nat) (x : Str) (vs : List V) (H : Hp) (Q : V → Hp → Prop), gc.fns[f]? = some x → Φ f vs H Q (fun _ _ => False) → ∀ (s : Shared) (α : List Addr) (vals : List Value) (E : Value → Shared → Prop),
    GF G gc DT s.heap → HR G α s.heap H → Reps G α s.heap vals vs → codeAny (model prog w) A (.call (.ref (G.fa f)) ⟨vals, []⟩)
      (fun r s' => match r with | .ok (.ret v) => Post G (Rep G) s α H Q v s' | .ok _ => False | .error e => E e s') s
theorem SCallC.wp {A : Around} {Φ : Call} (h : SCallC prog w G gc DT A Φ) : SCall prog w G gc DT A Φ := fun f x vs H Q hx hq s α vals E T R r => wpAny_call (h f x vs H Q hx hq s α vals E T R r)

/-- one call of an own def -/
theorem call_core {n : Nat} {A : Around} {Φ : Call} {f : Nat} {s : Shared} (hA : Room prog A (n + 1)) (hdefs : ∀ (k : Nat) (d : DefT) (f : Fn), DT[k]? = some d → P[k]? = some f → ∃ vs, DefOk gc d f vs) (hΦ : ∀ env, SCall prog w G gc DT (A.deeper env) Φ)
    (hT : ∀ (d : DefT) (vn : List Str) (cd : Value), DT[f]? = some d →
      STry ⟨prog, w, G, DT, A.deeper (envOfC d.name d.scope s.heap.objs.size (G.fa f) cd), sub, Φ⟩ ⟨⟨gc, d.scope, vn⟩, envOfC d.name d.scope s.heap.objs.size (G.fa f) cd, s.heap⟩)
    {x : Str} {vs : List V} {H : Hp} {Q : V → Hp → Prop} {Y : Nat → Hp → Prop} {fd : Fn} (hx : gc.fns[f]? = some x) (hf : P[f]? = some fd) (hlen : vs.length = fd.np)
    (hw : wpS sub Φ (fun m => H.length ≤ m) fd.body (startLoc fd.np fd.nv vs) H (fun _ H' => Q .none H') Q Y) (α : List Addr) (vals : List Value) (E : Value → Shared → Prop)
    (hR : ∀ (d : DefT) (vn : List Str) (cd : Value) (h₁ : Heap) (tk : Nat), DT[f]? = some d → DefOk gc d fd vn → KeepsH s.heap h₁ → RaiseOk ⟨prog, w, G, DT, A.deeper (envOfC d.name d.scope s.heap.objs.size (G.fa f) cd), sub, Φ⟩ ⟨⟨gc, d.scope, vn⟩, envOfC d.name d.scope s.heap.objs.size (G.fa f) cd, s.heap⟩ (fun m => H.length ≤ m)
      { s with heap := h₁, toks := tk } α H Y (fun e s' => wpAny (model prog w) (A.deeper (envOfC d.name d.scope s.heap.objs.size (G.fa f) cd)) (leaving (envOfC d.name d.scope s.heap.objs.size (G.fa f) cd) e) (fun _ s'' => E e s'') (fun e' s'' => E e' s'') s'))
    (T : GF G gc DT s.heap) (R : HR G α s.heap H) (r : Reps G α s.heap vals vs) : codeAny (model prog w) A (.call (.ref (G.fa f)) ⟨vals, []⟩)
      (fun r s' => match r with | .ok (.ret v) => Post G (Rep G) s α H Q v s' | .ok _ => False | .error e => E e s') s := by
  obtain ⟨hm, d, o, pm, cd, doc, hd, hname, ho, hdata, hcd⟩ := T.fn f x hx
  obtain ⟨vn, D⟩ := hdefs f d fd hd hf
  have hvl : vals.length = fd.np := r.len.trans hlen
  have hkindOf : ∀ (x : Str), x ∈ vn.take fd.np → d.scope.names.lookup x = some .local ∨ (d.scope.names.lookup x = some .cell ∧ ((cellsFrom (s.heap.objs.size + 1) d.scope.names []).lookup x).isSome = true) := fun x hx => by
    rcases D.par x hx with e | e
    · exact .inl e
    · obtain ⟨a, ha⟩ := cellsFrom_lookup d.scope.names (s.heap.objs.size + 1) [] x (.inl e)
      exact .inr ⟨e, by rw [ha]; rfl⟩
  have hmemz : ∀ y ∈ (vn.take fd.np).zip vals, y.1 ∈ vn.take fd.np := fun y hy => (List.of_mem_zip (show (y.1, y.2) ∈ _ from hy)).1
  refine (call_cells (by have := hA.depth; (clear hA hdefs hΦ hT hx hf hlen hw hR T R r hm hd hname ho hdata hcd D hvl hkindOf hmemz; omega)) ho hdata T.nolimit hcd (D.bind pm cd doc vals hvl) (fun y hy => hkindOf y.1 (hmemz y hy)) (fun h₁ tk Fr' Cl' => ?_) D.coro D.gen D.kind)
  let env := envOfC d.name d.scope s.heap.objs.size (G.fa f) cd
  let fc : FC := ⟨⟨gc, d.scope, vn⟩, env, s.heap⟩
  let X : SX := ⟨prog, w, G, DT, A.deeper env, sub, Φ⟩
  have K : FCOk fc := by
    refine ⟨envOk_of D _ _ _, D.nodup, D.nofree, size_none _, fun m a hm => get_ge_none (Nat.le_of_lt (Cl'.above m a hm)), Cl'.above, Cl'.apart, fun m a hm => ?_⟩
    refine lookup_of_nodup _ _ _ ?_ hm
    show ((cellsFrom _ _ _).map (·.1)).Nodup
    rw [cellsFrom_keys]
    rw [List.map_nil, List.append_nil]
    exact (List.reverse_perm _).nodup_iff.mpr D.uniq
  have hnd : (((vn.take fd.np).zip vals).map (·.1)).Nodup := by
    refine List.Nodup.sublist ?_ (List.Nodup.sublist (List.take_sublist fd.np vn) D.nodup)
    have : ∀ (a : List Str) (b : List Value), ((a.zip b).map (·.1)).Sublist a := fun a => by
      induction a with
      | nil => intro b; simp
      | cons x a ih => intro b; cases b with
        | nil => simp
        | cons y b => simpa using ih b
    exact this _ _
  have hkeep : KeepsH s.heap h₁ := Fr'.keep
  have F : FrS G fc (fun m => H.length ≤ m) h₁ α (startLoc fd.np fd.nv vs) := by
    refine ⟨⟨_, _, Fr'.ns, Cl', fun i y dv hi hd' => ?_⟩, hkeep, fun m a ha hm => ?_⟩
    · have hvi := lget_start hd'
      obtain ⟨v, hv, rv⟩ := r.get hvi
      have hil : i < fd.np := by rw [← hlen]; exact (List.getElem?_eq_some_iff.mp hvi).1
      have hyt : (vn.take fd.np)[i]? = some y := by rw [List.getElem?_take, if_pos hil]; exact hi
      have hz : (y, v) ∈ (vn.take fd.np).zip vals := zip_get hyt hv
      refine ⟨v, ?_, rv.mono (fun _ _ e => e) (.of hkeep)⟩
      rcases hkindOf y (hmemz _ hz) with e | ⟨e, _⟩
      · exact .inl ⟨e, bindL_get _ _ _ _ hnd hz e⟩
      · exact .inr ⟨e, bindC_get _ _ _ _ hnd hz (by rw [show (envOfC d.name d.scope s.heap.objs.size (G.fa f) cd).kindOf y = some .cell from e]; simp), cellsFrom_lookup _ _ _ y (.inl e)⟩
    · have := (List.getElem?_eq_some_iff.mp ha).1
      rw [R.len] at this; (clear hA hdefs hΦ hT hx hf hlen hw hR T R r hd hname ho hdata hcd D hvl hkindOf hmemz Fr' Cl' K hnd hkeep ha; omega)
  have hs := soundB (X := X) (f := fc) (hA.ok (env := env) D.gen D.coro rfl rfl) (hΦ env) K (hT d vn cd hd) fd.body d.body D.body (fun m => H.length ≤ m) { s with heap := h₁, toks := tk } α _ H _ _ _ _
    (fun m hm => Nat.le_trans R.pos hm) T F (R.keeps hkeep) (hR d vn cd h₁ tk hd D hkeep) hw
  refine wpAny_mono hs (fun fl s' p => ?_) fun _ _ e => e
  obtain ⟨h', tk', β, H', rfl, st, lv, R', pf⟩ := p
  have hH' : H' = H ++ H'.drop H.length := take_eq_of_same (fun m hm => st.same m hm (Nat.not_le.mpr hm)) st.le
  have fresh : ∀ b ∈ β, s.heap.get? b = none := fun b hb => by
    cases e : s.heap.get? b with
    | none => rfl
    | some o' => have := st.fresh b hb; rw [show ({ s with heap := h₁, toks := tk } : Shared).heap.get? b = some o' from hkeep b o' e] at this; cases this
  cases fl with
  | next =>
    obtain ⟨ρ', F', hN⟩ := pf
    exact ⟨h', tk', β, _, .none, rfl, F'.kb, fresh, hH' ▸ R', Rep.none, hH' ▸ hN⟩
  | ret v =>
    obtain ⟨kb, dv, rv, hR⟩ := pf
    exact ⟨h', tk', β, _, dv, rfl, kb, fresh, hH' ▸ R', rv, hH' ▸ hR⟩
  | _ => exact pf.elim

theorem call_step {n : Nat} {A : Around} {Φ : Call} {f : Nat} {s : Shared} (hA : Room prog A (n + 1)) (hdefs : ∀ (k : Nat) (d : DefT) (f : Fn), DT[k]? = some d → P[k]? = some f → ∃ vs, DefOk gc d f vs) (hΦ : ∀ env, SCall prog w G gc DT (A.deeper env) Φ)
    (hT : ∀ (d : DefT) (vn : List Str) (cd : Value), DT[f]? = some d →
      STry ⟨prog, w, G, DT, A.deeper (envOfC d.name d.scope s.heap.objs.size (G.fa f) cd), sub, Φ⟩ ⟨⟨gc, d.scope, vn⟩, envOfC d.name d.scope s.heap.objs.size (G.fa f) cd, s.heap⟩)
    {x : Str} {vs : List V} {H : Hp} {Q : V → Hp → Prop} {fd : Fn} (hx : gc.fns[f]? = some x) (hf : P[f]? = some fd) (hlen : vs.length = fd.np)
    (hw : wpS sub Φ (fun m => H.length ≤ m) fd.body (startLoc fd.np fd.nv vs) H (fun _ H' => Q .none H') Q (fun _ _ => False)) (α : List Addr) (vals : List Value) (E : Value → Shared → Prop)
    (T : GF G gc DT s.heap) (R : HR G α s.heap H) (r : Reps G α s.heap vals vs) : codeAny (model prog w) A (.call (.ref (G.fa f)) ⟨vals, []⟩)
      (fun r s' => match r with | .ok (.ret v) => Post G (Rep G) s α H Q v s' | .ok _ => False | .error e => E e s') s :=
  call_core hA hdefs hΦ hT hx hf hlen hw α vals E (fun d vn cd h₁ tk _ _ _ k st h' tk' β H' ρ' _ _ _ _ _ hf => hf.elim) T R r

theorem scall_callN (hlenP : P.length = gc.fns.length) (hP : P.length ≤ 1000) (hdefs : ∀ (k : Nat) (d : DefT) (f : Fn), DT[k]? = some d → P[k]? = some f → ∃ vs, DefOk gc d f vs) :
    ∀ (n : Nat) (A : Around), Room prog A n → SCallC prog w G gc DT A (callN sub P n)
  | 0, A, _ => fun f x vs H Q _ h => by simp [callN] at h
  | n + 1, A, hA => fun f x vs H Q hx h s α vals E T R r => by
    simp only [callN] at h
    obtain ⟨fd, hf, hlen, hw⟩ := h
    refine call_step hA hdefs (fun env => (scall_callN hlenP hP hdefs n _ hA.down).wp) (fun d vn cd _ k x vs H Q _ hk => ?_) hx hf hlen hw α vals E T R r
    · replace hk : callN sub P n (k + 1000) vs H Q (fun _ _ => False) := hk
      cases n with
      | zero => simp [callN] at hk
      | succ n =>
        simp only [callN] at hk
        obtain ⟨d', hd', _⟩ := hk
        have := (List.getElem?_eq_some_iff.mp hd').1
        (clear hdefs hx T R r hf hlen hA hw hd'; omega)
end
end Mine

set_option autoImplicit false
set_option linter.unusedVariables false
namespace Mine
open PySem PyProof.Rows PySem.Calls

theorem lookup_zip : ∀ (ns : List Str) (vals : List Value), ns.Nodup → vals.length = ns.length → ∀ x ∈ ns, (((ns.zip vals).lookup x).isNone) = false
  | [], _, _, _, x, h => by simp at h
  | n :: ns, [], _, h, _, _ => by simp at h
  | n :: ns, v :: vals, hn, hl, x, hx => by
    rw [List.zip_cons_cons]
    by_cases e : x = n
    · subst e; rw [List.lookup_cons_self]; rfl
    · have : (x == n) = false := by simpa using e
      rw [List.lookup_cons, this]
      rw [List.nodup_cons] at hn
      exact lookup_zip ns vals hn.2 (by simpa using hl) x (by simpa [e] using hx)
theorem filterMap_zip : ∀ (ns : List Str) (vals : List Value), ns.Nodup → vals.length = ns.length → (ns.filterMap fun n => ((ns.zip vals).lookup n).map (n, ·)) = ns.zip vals := by
  have key : ∀ (ms : List Str) (us : List Value) (f : Str → Option Value), us.length = ms.length → (∀ n v, (n, v) ∈ ms.zip us → f n = some v) → (ms.filterMap fun n => (f n).map (n, ·)) = ms.zip us := fun ms => by
    induction ms with
    | nil => intro us f _ _; simp
    | cons n ms ih =>
      intro us f hl h
      cases us with
      | nil => simp at hl
      | cons u us =>
        rw [List.filterMap_cons, h n u (by simp), List.zip_cons_cons]
        show (n, u) :: _ = _
        rw [ih us f (by simpa using hl) fun a b hab => h a b (by simp [hab])]
  intro ns vals hn hl
  refine key ns vals _ hl fun n v h => ?_
  refine lookup_of_nodup _ _ _ ?_ h
  have : (ns.zip vals).map (·.1) = ns := List.map_fst_zip (by (clear key hn h; omega))
  rw [this]; exact hn

theorem bind_plain {name : Str} {params : Arguments} {body : List Stmt} {scope : Scope} {pm cd doc : Value} {vals : List Value} {ns : List Str}
    (h1 : params.posonlyargs = []) (h2 : params.vararg = none) (h3 : params.kwonlyargs = []) (h4 : params.kwarg = none) (hns : params.args.map (·.arg) = ns) (hn : ns.Nodup) (hl : vals.length = ns.length) :
    bindArgs (docDef name params body scope pm cd doc) ⟨vals, []⟩ = pure (ns.zip vals) := by
  obtain ⟨po, ar, va, ko, kd, kw, df⟩ := params
  simp only at h1 h2 h3 h4 hns
  subst h1 h2 h3 h4
  subst hns
  unfold bindArgs
  simp only [docDef, List.map_nil, List.nil_append, List.append_nil]
  generalize List.map (fun x : Arg => x.arg) ar = ns at hn hl ⊢
  have hf : (List.filter (fun n => (List.lookup n (ns.zip vals)).isNone) ns) = [] := by
    rw [List.filter_eq_nil_iff]
    intro x hx
    rw [lookup_zip _ _ hn hl x hx]; simp
  have hg := filterMap_zip _ _ hn hl
  have hns : notAStandIn Value.none = pure () := rfl
  simp [seqItems?, hl, hns]
  have hc : ¬ ((!(List.filter (fun n => (List.lookup n (ns.zip vals)).isNone) (List.take (ns.length - (List.drop ((#[] : Array Value).size - ns.length) ([] : List Value)).length) ns)).isEmpty) = true) := by
    simp only [List.drop_nil, List.length_nil, Nat.sub_zero, List.take_length, hf]; decide
  rw [if_neg hc, hg]
end Mine

set_option autoImplicit false
set_option linter.unusedVariables false
namespace Mine
open PySem PyProof.Rows PySem.Calls PySem.W

noncomputable def toDef (r : DefRec) : DefT := ⟨r.name, r.params, r.body, r.scope⟩

noncomputable def defChk (gc : GC) (d : DefT) (f : Fn) (vs : List Str) : Bool :=
  decide vs.Nodup && decide (d.scope.kind = .function) && (d.scope.isCoroutine == false) && (d.scope.isGenerator == false) && d.scope.names.all (fun x => decide (x.2 ≠ NameKind.free)) &&
  decide ((d.scope.names.filter fun x => x.2 == NameKind.cell).map (·.1)).Nodup &&
  (vs.take f.np).all (fun x => decide (d.scope.names.lookup x = some NameKind.local) || decide (d.scope.names.lookup x = some NameKind.cell)) &&
  d.params.posonlyargs.isEmpty && d.params.vararg.isNone && d.params.kwonlyargs.isEmpty && d.params.kwarg.isNone && decide (d.params.args.map (·.arg) = vs.take f.np) && decide (f.np ≤ vs.length) && matchB ⟨gc, d.scope, vs⟩ f.body d.body

theorem defOk_of {gc : GC} {d : DefT} {f : Fn} {vs : List Str} (h : defChk gc d f vs = true) : DefOk gc d f vs := by
  unfold defChk at h
  simp only [Bool.and_eq_true, decide_eq_true_eq, beq_iff_eq, List.isEmpty_iff, Option.isNone_iff_eq_none] at h
  obtain ⟨⟨⟨⟨⟨⟨⟨⟨⟨⟨⟨⟨⟨h1, h2⟩, h3⟩, h4⟩, h5⟩, h6⟩, h7⟩, h8⟩, h9⟩, h10⟩, h11⟩, h12⟩, h13⟩, h14⟩ := h
  refine ⟨h1, h2, h3, h4, fun x e => ?_, h6, fun x hx => ?_, fun pm cd doc vals hv => ?_, h14⟩
  · have := List.all_eq_true.mp h5 (x, NameKind.free) (PySem.mem_of_lookup e)
    simp at this
  · have := List.all_eq_true.mp h7 x hx
    simpa using this
  · exact bind_plain h8 h9 h10 h11 h12 (List.Nodup.sublist (List.take_sublist _ _) h1) (by rw [hv, List.length_take]; (clear h14 h12 h11 h10 h9 h8 h7 h6 h5 h4 h3 h1 h2; omega))

noncomputable def chkAll (gc : GC) : List DefT → List Fn → List (List Str) → Bool
  | [], [], [] => true
  | d :: ds, f :: fs, v :: vs => defChk gc d f v && chkAll gc ds fs vs
  | _, _, _ => false

theorem defs_of {gc : GC} : ∀ {DT : List DefT} {P : List Fn} {VT : List (List Str)}, chkAll gc DT P VT = true → P.length = DT.length ∧ ∀ (k : Nat) (d : DefT) (f : Fn), DT[k]? = some d → P[k]? = some f → ∃ vs, DefOk gc d f vs
  | [], [], [], _ => ⟨rfl, fun k d f h => by simp at h⟩
  | d :: ds, f :: fs, v :: vs, h => by
    replace h := Bool.and_eq_true_iff.mp h
    obtain ⟨hl, hr⟩ := defs_of h.2
    refine ⟨by simp [hl], fun k d' f' h1 h2 => ?_⟩
    cases k with
    | zero => simp at h1 h2; subst h1 h2; exact ⟨v, defOk_of h.1⟩
    | succ k => simp at h1 h2; exact hr k d' f' h1 h2
  | [], [], _ :: _, h => (Bool.false_ne_true h).elim
  | [], _ :: _, _, h => (Bool.false_ne_true h).elim
  | _ :: _, [], _, h => (Bool.false_ne_true h).elim
  | _ :: _, _ :: _, [], h => (Bool.false_ne_true h).elim

theorem reps_ints {G : GV} {α : List Addr} {h : Heap} : ∀ {vs : List Value} {ns : List Int}, IntsAre vs ns → Reps G α h vs (ns.map .int)
  | _, _, .nil => .nil
  | _, _, .cons n t r => .cons (.int n t) (reps_ints r)

noncomputable def fnAddr (mg : Str → Option Value) (fns : List Str) (k : Nat) : Addr := match fns[k]? with | some x => (match mg x with | some (.ref a) => a | _ => 0) | none => 0

section
variable {prog : Program} {w : World} {view : Program} {loose : List Str} {mean : ExcName → Option Value} {mg mb : Str → Option Value}

theorem gf_plain {h : Heap} {gc : GC} (T : Top view loose mean mg mb h) (hfns : gc.fns = (recsOf view).map (·.name))  (hglobs : gc.globs = []) (hseer : importsNone view = true)
    (hblt : (bltNames.all fun x => !startupNames.contains x && !loose.contains x && !((recsOf view).map (·.name)).contains x && !((litsOf view).map (·.1)).contains x && !((clssOf view loose).map (·.name)).contains x && decide (x ≠ "__name__")) = true) :
    GF ⟨mg, mb, fnAddr mg gc.fns, fun _ => .none⟩ gc ((recsOf view).map toDef) h where
  g := T.g
  b := T.b
  nolimit := T.nolimit
  seer := T.seer hseer
  fn := fun k x e => by
    have e0 := e
    rw [hfns, List.getElem?_map] at e
    cases hr : (recsOf view)[k]? with
    | none => rw [hr] at e; simp at e
    | some r =>
      rw [hr] at e; simp at e; subst e
      obtain ⟨a, o, pm, cd, doc, h1, h2, h3, h4⟩ := T.fn r (List.mem_of_getElem? hr)
      have hfa : fnAddr mg gc.fns k = a := by unfold fnAddr; rw [e0]; simp [h1]
      refine ⟨by show mg r.name = some (.ref (fnAddr mg gc.fns k)); rw [hfa]; exact h1, toDef r, o, pm, cd, doc, by rw [List.getElem?_map, hr]; rfl, rfl, ?_, h3, h4⟩
      show h.get? (fnAddr mg gc.fns k) = some o
      rw [hfa]; exact h2
  blt := fun x hx => by
    have := List.all_eq_true.mp hblt x hx
    simp only [Bool.and_eq_true, Bool.not_eq_true', decide_eq_true_eq] at this
    obtain ⟨⟨⟨⟨⟨h1, h2⟩, h3⟩, h4⟩, h5⟩, h6⟩ := this
    have nm : ∀ {l : List Str}, l.contains x = false → x ∉ l := fun {l} h hm => by
      rw [List.contains_iff_mem.mpr hm] at h; cases h
    exact ⟨T.free x (nm h1) (nm h2) (nm h3) (nm h4) (nm h5), T.builtins x h6⟩
  glob := fun x a b e => by rw [hglobs] at e; simp at e

theorem callerRoom {prog : Program} {n : Nat} (ht : prog.given.tree = none) (hn : n ≤ 500) : Room prog callerA n := ⟨rfl, by show 1 + 300 + n + 100 < 1000; (clear ht; omega), by show 4 + 3 * n + 100 < 9900; (clear ht; omega), ht, [], rfl⟩

end
end Mine

set_option autoImplicit false
set_option linter.unusedVariables false
namespace Mine
open PySem

/-- below 2 ^ k either way -/
noncomputable def Sm (k : Nat) (x : Int) : Prop := x.natAbs < 2 ^ k
theorem Sm.mono {k l : Nat} {x : Int} (h : Sm k x) (hl : k ≤ l) : Sm l x := Nat.lt_of_lt_of_le h (Nat.pow_le_pow_right (by decide) hl)
theorem Sm.mul {k l : Nat} {x y : Int} (h1 : Sm k x) (h2 : Sm l y) : Sm (k + l) (x * y) := by
  unfold Sm at *
  rw [Int.natAbs_mul, Nat.pow_add]
  exact Nat.mul_lt_mul'' h1 h2
theorem Sm.add {k : Nat} {x y : Int} (h1 : Sm k x) (h2 : Sm k y) : Sm (k + 1) (x + y) := by
  unfold Sm at *
  rw [Nat.pow_succ]; omega
theorem Sm.sub {k : Nat} {x y : Int} (h1 : Sm k x) (h2 : Sm k y) : Sm (k + 1) (x - y) := by
  unfold Sm at *
  rw [Nat.pow_succ]; omega
theorem Sm.neg {k : Nat} {x : Int} (h1 : Sm k x) : Sm k (-x) := by
  unfold Sm at *; omega
theorem Sm.bits {k : Nat} {x : Int} (h : Sm k x) : Builtin.Int.intBits x ≤ k := by
  unfold Builtin.Int.intBits
  split
  · exact Nat.zero_le _
  · rename_i hx
    have : x.natAbs ≠ 0 := by simpa using hx
    exact (Nat.log2_lt this).mpr h
theorem IntMulOk.left {a b : Int} (h : Sm 64 a) : IntMulOk a b := IntMulOk.of_left h.bits
theorem IntMulOk.right {a b : Int} (h : Sm 64 b) : IntMulOk a b := IntMulOk.of_right h.bits
theorem fmod_natAbs_lt {a b : Int} (hb : b ≠ 0) : (a.fmod b).natAbs < b.natAbs := by
  rcases Int.lt_or_gt_of_ne hb with h | h
  · have h1 : a.fmod b = -((-a).fmod (-b)) := by rw [Int.neg_fmod_neg]; (clear hb h; omega)
    have h2 := Int.fmod_nonneg_of_pos (-a) (b := -b) (by (clear hb h1; omega))
    have h3 := Int.fmod_lt_of_pos (-a) (b := -b) (by (clear hb h1 h2; omega))
    (clear hb; omega)
  · have h2 := Int.fmod_nonneg_of_pos a h
    have h3 := Int.fmod_lt_of_pos a h
    (clear hb; omega)
theorem gcd_fmod {a b : Int} : b.gcd (a.fmod b) = a.gcd b := by
  rw [Int.fmod_def, Int.gcd_comm, Int.mul_comm, Int.gcd_sub_mul_right_left]

theorem getApp {β : Type} (H : List β) (x : β) (K : List β) : (H ++ x :: K)[H.length]? = some x := by simp
theorem getApp1 {β : Type} (H : List β) (x y : β) (K : List β) : (H ++ x :: y :: K)[H.length + 1]? = some y := by
  rw [List.getElem?_append_right (by omega)]; simp
theorem setApp {β : Type} (H : List β) (x y : β) (K : List β) : (H ++ x :: K).set H.length y = H ++ y :: K := by simp
theorem getKeep {β : Type} {H H' : List β} {n : Nat} {x : β} (h : H <+: H') (e : H[n]? = some x) : H'[n]? = some x := by
  obtain ⟨K, rfl⟩ := h
  rw [List.getElem?_append_left (List.getElem?_eq_some_iff.mp e).1]; exact e
theorem preApp {β : Type} (H K : List β) : H <+: H ++ K := ⟨K, rfl⟩
theorem preTrans {β : Type} {A B C : List β} (h1 : A <+: B) (h2 : B <+: C) : A <+: C := List.IsPrefix.trans h1 h2

theorem range_up (b : Int) : rangeL 0 b 1 = (List.range b.toNat).map fun (i : Nat) => (i : Int) := by
  unfold rangeL
  have : (Builtin.Range.rangeSize 0 b 1).toNat = b.toNat := by
    unfold Builtin.Range.rangeSize
    simp
    first | done | omega | (split <;> omega)
  rw [this]
  apply List.map_congr_left
  intro i _; (clear this; omega)
end Mine
namespace Mine
theorem forGo_rule {body : Loc → Hp → (Loc → Hp → Prop) → Prop} {i : Nat} {N : Loc → Hp → Prop} (I : List V → Loc → Hp → Prop)
    (step : ∀ (x : V) (xs : List V) (ρ : Loc) (H : Hp) (k : Loc → Hp → Prop), I (x :: xs) ρ H → (∀ ρ' H', I xs ρ' H' → k ρ' H') → body (lset ρ i x) H k) (fin : ∀ ρ H, I [] ρ H → N ρ H) :
    ∀ (xs : List V) (ρ : Loc) (H : Hp), I xs ρ H → forGo body i xs ρ H N
  | [], ρ, H, h => fin ρ H h
  | x :: xs, ρ, H, h => step x xs ρ H _ h fun ρ' H' h' => forGo_rule I step fin xs ρ' H' h'
end Mine
namespace Mine
open PySem
theorem rng1 {b : Int} {H : Hp} {Q : List V → Option Nat → Hp → Prop} (hb : smallI b) (h : Q ((List.range' 0 b.toNat).map fun (i : Nat) => V.int (i : Int)) none H) : rngWp [.int b] H Q := by
  refine ⟨0, b, 1, rfl, by unfold smallI; decide, hb, .inl rfl, ?_⟩
  rw [range_up, List.map_map, List.range_eq_range']; exact h
theorem rng2 {a b : Int} {H : Hp} {Q : List V → Option Nat → Hp → Prop} (ha : smallI a) (hb : smallI b) (h : Q ((List.range' 0 (b - a).toNat).map fun (i : Nat) => V.int (a + (i : Int))) none H) : rngWp [.int a, .int b] H Q := by
  refine ⟨a, b, 1, rfl, ha, hb, .inl rfl, ?_⟩
  have : rangeL a b 1 = (List.range (b - a).toNat).map fun (i : Nat) => a + (i : Int) := by
    unfold rangeL
    have : (Builtin.Range.rangeSize a b 1).toNat = (b - a).toNat := by
      unfold Builtin.Range.rangeSize
      simp
      first | done | (clear ha hb h; omega) | (split <;> omega)
    rw [this]
    apply List.map_congr_left
    intro i _; (clear ha hb h this; omega)
  rw [this, List.map_map, List.range_eq_range']; exact h
end Mine
namespace Mine
theorem smallI_of {i : Int} (h1 : -1000000 ≤ i) (h2 : i ≤ 1000000) : smallI i := by
  have e : (2 : Int) ^ 40 = 1099511627776 := by decide
  unfold smallI
  rw [e]; (clear e; omega)
end Mine
namespace Mine
open PySem
theorem eqvAll_ints : ∀ xs ys : List Int, PyData.eqvAll (xs.map .int) (ys.map .int) = decide (xs = ys)
  | [], [] => rfl
  | [], _ :: _ => rfl
  | _ :: _, [] => rfl
  | x :: xs, y :: ys => by
    simp only [List.map_cons, PyData.eqvAll, PyData.eqv, eqvAll_ints xs ys, List.cons.injEq]
    by_cases h : x = y <;> simp [h]
theorem datOf_ints {H : Hp} {k n : Nat} {cs : List Int} (h : H[k]? = some (cs.map .int)) : datOf H (n + 1) (.lst k) = some (.list (cs.map .int)) := by
  have key : ∀ cs : List Int, (cs.map V.int).mapM (datOf H n) = some (cs.map PyData.int) := fun cs => by
    induction cs with
    | nil => rfl
    | cons c cs ih =>
      have h1 : datOf H n (.int c) = some (.int c) := by cases n <;> rfl
      simp [List.mapM_cons, h1, ih]
  simp only [datOf, h, key]; rfl
theorem eqWp_ints {H : Hp} {k l : Nat} {cs ds : List Int} {Q : Bool → Prop} (h1 : H[k]? = some (cs.map .int)) (h2 : H[l]? = some (ds.map .int)) (h : Q (decide (cs = ds))) : eqWp (.lst k) (.lst l) H Q :=
  ⟨_, _, datOf_ints h1, datOf_ints h2, by rw [PyData.eqv, eqvAll_ints]; exact h⟩
end Mine
namespace Mine
open PySem
section
variable {a b c : Int} {m n : Nat} {H : Hp} {Q : V → Hp → Prop} {x y : V} {xs ys : List V}
theorem w_add : binWp .add (.int a) (.int b) H Q = Q (.int (a + b)) H := rfl
theorem w_addl : binWp .add (.lst m) (.lst n) H Q = ifSome H[m]? fun xs => ifSome H[n]? fun ys => xs.length + ys.length ≤ lim ∧ Q (.lst H.length) (H ++ [xs ++ ys]) := rfl
theorem w_sub : binWp .sub (.int a) (.int b) H Q = Q (.int (a - b)) H := rfl
theorem w_mul : binWp .mul (.int a) (.int b) H Q = (IntMulOk a b ∧ Q (.int (a * b)) H) := rfl
theorem w_mull : binWp .mul (.lst m) (.int b) H Q = ∃ x, H[m]? = some [x] ∧ 0 ≤ b ∧ b ≤ lim ∧ Q (.lst H.length) (H ++ [List.replicate b.toNat x]) := rfl
theorem w_fdiv : binWp .fdiv (.int a) (.int b) H Q = (DivOk b ∧ Q (.int (a.fdiv b)) H) := rfl
theorem w_mod : binWp .mod (.int a) (.int b) H Q = (b ≠ 0 ∧ Q (.int (a.fmod b)) H) := rfl
theorem w_pow : binWp .pow (.int a) (.int b) H Q = (0 ≤ b ∧ b ≤ 1000 ∧ a.natAbs < 2 ^ 64 ∧ Q (.int (a ^ b.toNat)) H) := rfl
theorem w_lt : cmpWp .lt (.int a) (.int b) H Q = Q (.bool (decide (a < b))) H := rfl
theorem w_le : cmpWp .le (.int a) (.int b) H Q = Q (.bool (decide (a ≤ b))) H := rfl
theorem w_gt : cmpWp .gt (.int a) (.int b) H Q = Q (.bool (decide (b < a))) H := rfl
theorem w_ge : cmpWp .ge (.int a) (.int b) H Q = Q (.bool (decide (b ≤ a))) H := rfl
theorem w_eq : cmpWp .eq (.int a) (.int b) H Q = Q (.bool (decide (a = b))) H := rfl
theorem w_ne : cmpWp .ne (.int a) (.int b) H Q = Q (.bool (!decide (a = b))) H := rfl
theorem w_eqt : cmpWp .eq (.tup xs) y H Q = eqWp (.tup xs) y H fun b => Q (.bool b) H := rfl
theorem w_eql : cmpWp .eq (.lst m) y H Q = eqWp (.lst m) y H fun b => Q (.bool b) H := rfl
theorem w_net : cmpWp .ne (.tup xs) y H Q = eqWp (.tup xs) y H fun b => Q (.bool (!b)) H := rfl
theorem w_nel : cmpWp .ne (.lst m) y H Q = eqWp (.lst m) y H fun b => Q (.bool (!b)) H := rfl
theorem w_isn : cmpWp .is .none .none H Q = Q (.bool true) H := rfl
theorem w_ist : cmpWp .is (.tup xs) .none H Q = Q (.bool false) H := rfl
theorem w_isi : cmpWp .is (.int a) .none H Q = Q (.bool false) H := rfl
theorem w_isl : cmpWp .is (.lst m) .none H Q = Q (.bool false) H := rfl
theorem w_abs : biWp .abs [.int a] H Q = Q (.int (if a < 0 then -a else a)) H := rfl
theorem w_lent : biWp .len [.tup xs] H Q = Q (.int xs.length) H := rfl
theorem w_lenl : biWp .len [.lst m] H Q = ifSome H[m]? fun xs => Q (.int xs.length) H := rfl
theorem w_intb {t : Bool} : biWp .int [.bool t] H Q = Q (.int (if t then 1 else 0)) H := rfl
theorem w_list : biWp .list [x] H Q = ifSome (items H x) fun xs => Q (.lst H.length) (H ++ [xs]) := rfl
theorem w_tuple : biWp .tuple [x] H Q = ifSome (items H x) fun xs => Q (.tup xs) H := rfl
theorem w_min : biWp .min [.int a, .int b] H Q = Q (.int (if b < a then b else a)) H := rfl
theorem w_idxt0 : idxWp (.tup [x, y]) (.int 0) H Q = Q x H := rfl
theorem w_idxt1 : idxWp (.tup [x, y]) (.int 1) H Q = Q y H := rfl
theorem w_idxu0 {z : V} : idxWp (.tup [x, y, z]) (.int 0) H Q = Q x H := rfl
theorem w_idxu1 {z : V} : idxWp (.tup [x, y, z]) (.int 1) H Q = Q y H := rfl
theorem w_idxu2 {z : V} : idxWp (.tup [x, y, z]) (.int 2) H Q = Q z H := rfl
theorem w_idxl {k : Int} : idxWp (.lst m) (.int k) H Q = ifSome H[m]? fun xs => ifSome (place xs.length k) fun i => ifSome xs[i]? fun v => Q v H := rfl
theorem w_slcl {lo hi : Option V} : slcWp (.lst m) lo hi H Q = ifSome H[m]? fun xs => ifSome (cutAt xs.length lo hi) fun p => Q (.lst H.length) (H ++ [cut xs p.1 p.2]) := rfl
theorem w_slct {lo hi : Option V} : slcWp (.tup xs) lo hi H Q = ((∃ a, lo = some (.int a) ∧ hi = none ∧ 1 ≤ a ∧ a ≤ xs.length ∧ Q (.tup (xs.drop a.toNat)) H) ∨ (lo = none ∧ hi = some (.int (-1)) ∧ xs ≠ [] ∧ Q (.tup xs.dropLast) H)) := rfl
theorem w_tb {t : Bool} : truthV H (.bool t) = some t := rfl
theorem w_ti : truthV H (.int a) = some (a != 0) := rfl
theorem w_tn : truthV H .none = some false := rfl
theorem w_tt : truthV H (.tup xs) = some (!xs.isEmpty) := rfl
theorem w_tl : truthV H (.lst m) = (H[m]?).map fun xs => !xs.isEmpty := rfl
theorem w_itt : items H (.tup xs) = some xs := rfl
theorem w_itl : items H (.lst m) = H[m]? := rfl
theorem w_bindT1 : bindT 1 x = some [some x] := rfl
theorem w_bindT2 : bindT 2 (.tup [x, y]) = some [some x, some y] := rfl
theorem w_srcl : srcOf (.lst m) = some m := rfl
theorem w_srct : srcOf (.tup xs) = none := rfl
theorem w_cut2 {a b : Int} : cutAt n (some (.int a)) (some (.int b)) = some (clampAt n a, clampAt n b) := rfl
theorem w_cut1 {a : Int} : cutAt n (some (.int a)) none = some (clampAt n a, n) := rfl
theorem w_cut1' {a : Int} : cutAt n none (some (.int a)) = some (0, clampAt n a) := rfl
theorem w_cut0 : cutAt n none none = some (0, n) := rfl
variable {sub : Nat → Nat → Bool}
theorem w_ty1 : isTy sub (.int a) .int = some true := rfl
theorem w_ty2 : isTy sub (.int a) .bool = some false := rfl
theorem w_ty3 : isTy sub (.int a) .tuple = some false := rfl
theorem w_ty4 : isTy sub (.int a) .list = some false := rfl
theorem w_ty5 : isTy sub (.tup xs) .int = some false := rfl
theorem w_ty6 : isTy sub (.tup xs) .bool = some false := rfl
theorem w_ty7 : isTy sub (.tup xs) .tuple = some true := rfl
theorem w_ty8 : isTy sub (.tup xs) .list = some false := rfl
theorem w_ty9 : isTy sub (.lst m) .tuple = some false := rfl
theorem w_ty10 : isTy sub (.lst m) .list = some true := rfl
theorem w_ty11 : isTy sub (.lst m) .int = some false := rfl
theorem w_ty12 : isTy sub (.lst m) .bool = some false := rfl
theorem w_ty13 : isTy sub .none .int = some false := rfl
theorem w_ty14 : isTy sub .none .bool = some false := rfl
theorem w_ty15 : isTy sub .none .tuple = some false := rfl
theorem w_ty16 : isTy sub .none .list = some false := rfl
theorem w_ty17 {t : Bool} : isTy sub (.bool t) .int = some true := rfl
theorem w_ty18 {t : Bool} : isTy sub (.bool t) .bool = some true := rfl
theorem w_ty19 {t : Bool} : isTy sub (.bool t) .tuple = some false := rfl
theorem w_ty20 {t : Bool} : isTy sub (.bool t) .list = some false := rfl
theorem w_ty21 {i j : Nat} : isTy sub (.exc i) (.cls j) = some (sub i j) := rfl
end
end Mine
namespace Mine
theorem w_mapc {v : V} {l : List V} : List.map some (v :: l) = some v :: List.map some l := rfl
theorem w_mapn : List.map some ([] : List V) = [] := rfl
theorem w_appc {v : Option V} {l m : Loc} : v :: l ++ m = v :: (l ++ m) := rfl
theorem w_appn {m : Loc} : ([] : Loc) ++ m = m := rfl
theorem w_repc {n : Nat} : List.replicate (n + 1) (none : Option V) = none :: List.replicate n none := rfl
theorem w_repn : List.replicate 0 (none : Option V) = [] := rfl
theorem w_start {a b : Nat} {vs : List V} : startLoc a b vs = List.map some vs ++ List.replicate (b - a) none := rfl
theorem w_lenc {v : V} {l : List V} : (v :: l).length = l.length + 1 := rfl
theorem w_ifT {A B : Prop} : (if true = true then A else B) = A := rfl
theorem w_ifF {A B : Prop} : (if false = true then A else B) = B := rfl
theorem w_ifFF {A B : Prop} : (if false = false then A else B) = A := rfl
theorem w_ifTF {A B : Prop} : (if true = false then A else B) = B := rfl
theorem w_nT : (!true) = false := rfl
theorem w_anyT : [true].any id = true := rfl
theorem w_anyF : [false].any id = false := rfl
theorem w_d22 : decide (((2 : Nat) : Int) = 2) = true := rfl
theorem w_nF : (!false) = true := rfl
end Mine

set_option autoImplicit false
set_option linter.unusedVariables false
namespace Mine
open PySem PyProof.Rows PySem.Calls PySem.W
section
variable {prog : Program} {w : World}
theorem run_lawT (htree : prog.given.tree = none) {s : Shared} {gc : GC} {G : GV} {DT : List DefT} {P : List Fn} {VT : List (List Str)} {sub : Nat → Nat → Bool} {Ψ : Nat → List V → Hp → (V → Hp → Prop) → Prop} (F : GF G gc DT s.heap) (hlen : gc.fns.length = DT.length) (hchk : chkAll gc DT P VT = true)
    {l : Addr} {vs : List Value} {ns : List Int} (hP1 : P.length ≤ 1000) (hl : s.heap.IsList l vs.toArray) (hI : IntsAre vs ns) (h63 : ns.length ≤ 63) {k n : Nat} {x : Str} {fa : Addr} (hk : gc.fns[k]? = some x) (hfa : G.mg x = some (.ref fa)) (hn : n + 1 ≤ 500) {fd : Fn} (hf : P[k]? = some fd) (hnp : fd.np = 1)
    (hT : ∀ (d : DefT) (vn : List Str) (cd : Value), DT[k]? = some d → STry ⟨prog, w, G, DT, callerA.deeper (envOfC d.name d.scope s.heap.objs.size (G.fa k) cd), sub, topC Ψ (callN sub P n)⟩ ⟨⟨gc, d.scope, vn⟩, envOfC d.name d.scope s.heap.objs.size (G.fa k) cd, s.heap⟩)
    (hw : wpS sub (topC Ψ (callN sub P n)) (fun m => 1 ≤ m) fd.body (startLoc 1 fd.nv [.lst 0]) [ns.map .int] (fun _ _ => V.none = .bool true) (fun v _ => v = .bool true) (fun _ _ => False)) {R : Result → Shared → Prop}
    (hR : ∀ h' tk, KeepsH s.heap h' → R (.ok (.ret (.bool true))) { s with heap := h', toks := tk }) :
    codeAny (model prog w) callerA (.call (.ref fa) ⟨[.ref l], []⟩) R s := by
  obtain ⟨hP, hdefs⟩ := defs_of hchk
  have hroom : Room prog callerA (n + 1) := callerRoom htree hn
  have hf' : G.fa k = fa := by
    have := (F.fn k x hk).1
    rw [hfa] at this; injection this with this; injection this with this; exact this.symm
  have HR0 : HR G [l] s.heap [ns.map .int] := by
    refine ⟨rfl, by simp, by simp, fun m a xs e1 e2 => ?_⟩
    cases m with
    | zero =>
      simp at e1 e2; subst e1 e2
      refine ⟨vs, hl, reps_ints hI, ?_, fun h => absurd rfl h⟩
      rw [List.length_map]; exact Nat.le_trans h63 (by decide)
    | succ m => simp at e1
  have hS : ∀ env, SCall prog w G gc DT (callerA.deeper env) (topC Ψ (callN sub P n)) := fun env f x vs H Q hx hq s α vals E T R r => by
    rcases hq with ⟨_, hq⟩ | ⟨h1, _⟩
    · exact (scall_callN (prog := prog) (w := w) (G := G) (sub := sub) (by rw [hP, hlen]) hP1 hdefs n _ hroom.down).wp f x vs H Q hx hq s α vals E T R r
    · have := (List.getElem?_eq_some_iff.mp hx).1
      (clear htree F hchk hl hI h63 hk hfa hn hf hnp hT hw hR hdefs hroom hf' HR0 hx T R r; omega)
  have := call_step (f := k) (s := s) (H := [ns.map .int]) (Q := fun v _ => v = V.bool true) (vs := [.lst 0]) hroom hdefs hS hT hk hf (by rw [hnp]; rfl) (by rw [hnp]; exact hw) [l] [.ref l] (fun _ _ => False) F HR0 (.cons (Rep.lst rfl) .nil)
  rw [hf'] at this
  refine codeAny_mono this fun r s' p => ?_
  cases r with
  | error e => exact p.elim
  | ok fl =>
    cases fl with
    | ret v =>
      obtain ⟨h', tk, β, K, d, rfl, kp, _, _, rp, rfl⟩ := p
      cases rp
      exact hR h' tk kp
    | _ => exact p.elim
end
end Mine

set_option autoImplicit false
set_option linter.unusedVariables false
namespace Mine
open PySem PyProof.Rows PySem.Calls

/-- all that is new since h₀, but L -/
noncomputable def newsAll (h₀ : Heap) (L : Addr) (h : Heap) : List (Addr × Obj) := (List.range h.objs.size).filterMap fun b => match h₀.get? b, h.get? b with
  | none, some o => if b = L then none else some (b, o)
  | _, _ => none
theorem newsAll_ok {h₀ h : Heap} {L : Addr} : News h₀ L h (newsAll h₀ L h) := fun p hp => by
  obtain ⟨b, _, e⟩ := List.mem_filterMap.mp hp
  cases e0 : h₀.get? b with
  | some o => rw [e0] at e; cases e
  | none =>
    cases e1 : h.get? b with
    | none => rw [e0, e1] at e; cases e
    | some o =>
      rw [e0, e1] at e
      by_cases hb : b = L
      · simp only [if_pos hb] at e; cases e
      · simp only [if_neg hb] at e; cases e; exact ⟨e1, hb, e0⟩
theorem newsAll_mem {h₀ h : Heap} {L b : Addr} {o : Obj} (e0 : h₀.get? b = none) (e1 : h.get? b = some o) (hb : b ≠ L) : (b, o) ∈ newsAll h₀ L h :=
  List.mem_filterMap.mpr ⟨b, List.mem_range.mpr (Heap.lt_size e1), by rw [e0, e1]; simp only [if_neg hb]⟩
theorem ns_same {h : Heap} {a : Addr} {m m' : Str → Option Value} (x : h.Ns a m) (y : h.Ns a m') : m = m' := by
  obtain ⟨o, es, ep, ho, hd, _, hf⟩ := x
  obtain ⟨o', es', ep', ho', hd', _, hf'⟩ := y
  rw [ho] at ho'; cases ho'
  rw [hd] at hd'; cases hd'
  funext n; rw [← hf n, ← hf' n]

section
variable {X : SX} {f : FC}
end
end Mine
namespace Mine
open PySem PyProof.Rows PySem.Calls
/-- all is kept but some that are neither list nor tuple -/
structure KeepsB (D : Addr → Prop) (h h' : Heap) : Prop where
  keep : ∀ b o, h.get? b = some o → ¬ D b → h'.get? b = some o
  dict : ∀ b o, D b → h.get? b = some o → ∃ es n, o.data = .dict es n
theorem KeepsB.tup {D : Addr → Prop} {h h' : Heap} (k : KeepsB D h h') : KeepsT h h' := fun a items x => by
  obtain ⟨o, ho, hc, n, hd⟩ := x
  refine ⟨o, k.keep a o ho fun hD => ?_, hc, n, hd⟩
  obtain ⟨es, n', e⟩ := k.dict a o hD ho
  rw [hd] at e; cases e
theorem KeepsB.hr {D : Addr → Prop} {h h' : Heap} {G : GV} {α : List Addr} {H : Hp} (k : KeepsB D h h') (R : HR G α h H) : HR G α h' H := by
  refine ⟨R.len, R.nodup, R.pos, fun n a xs e1 e2 => ?_⟩
  obtain ⟨vs, l, q, z, p⟩ := R.lst n a xs e1 e2
  have ha : ¬ D a := fun hD => by
    obtain ⟨o, ho, hc, n', hd⟩ := l
    obtain ⟨es, n'', e⟩ := k.dict a o hD ho
    rw [hd] at e; cases e
  refine ⟨vs, ?_, q.mono (fun _ _ e => e) k.tup, z, fun hn => ?_⟩
  · obtain ⟨o, ho, r⟩ := l; exact ⟨o, k.keep _ _ ho ha, r⟩
  · obtain ⟨n', e'⟩ := p hn; exact ⟨n', k.keep _ _ e' ha⟩
theorem ns_dict {h : Heap} {a : Addr} {m : Str → Option Value} {o : Obj} (x : h.Ns a m) (e : h.get? a = some o) : ∃ es n, o.data = .dict es n := by
  obtain ⟨o', es, ep, ho, hd, _⟩ := x
  rw [e] at ho; cases ho
  exact ⟨es, ep, hd⟩
section
variable {X : SX} {f : FC}
/-- a call that catches, shown by the kit's walk -/
theorem stry_gen (hk : ∀ (k : Nat) (vs : List V) (H : Hp) (Q : V → Hp → Prop), X.Φ (k + 1000) vs H Q (fun _ _ => False) → ∀ (s : Shared) (α : List Addr) (vals : List Value) (E : Value → Shared → Prop) (m : Str → Option Value) (news : List (Addr × Obj)) (Z : Value → Shared → Prop),
      Fr f.hb f.env.locals s.heap m → News f.hb f.env.locals s.heap news → (∀ b o, s.heap.get? b = some o → f.hb.get? b = none → b ≠ f.env.locals → (b, o) ∈ news) → HR X.G α s.heap H → Reps X.G α s.heap vals vs →
      (∀ (v : Value) (d : V) (h' : Heap) (tk : Nat) (news' : List (Addr × Obj)) (β : List Addr) (K : Hp), Fr f.hb f.env.locals h' m → News f.hb f.env.locals h' news' → (∀ q ∈ news, q ∈ news') → (∀ b ∈ β, s.heap.get? b = none) → HR X.G (α ++ β) h' (H ++ K) → Rep X.G (α ++ β) h' v d → Q d (H ++ K) → Z v { s with heap := h', toks := tk }) →
      wpAny (model X.prog X.w) X.A (call (.ref (X.G.fa k)) vals) Z E s) (hL : f.hb.objs.size ≤ f.env.locals) : STry X f := fun k x vs H Q _ hq W s α ρ vals E T F R r => by
  have hd : f.hb.get? f.env.locals = none := get_ge_none hL
  obtain ⟨m, cm, hn, hrest⟩ := F.fr
  refine hk k vs H Q hq s α vals E m (newsAll f.hb f.env.locals s.heap) _ ⟨hn, F.kb, hL⟩ newsAll_ok (fun b o e1 e0 hb => newsAll_mem e0 e1 hb) R r fun v d h' tk news' β K F' N' sub fr hR rv hq' => ?_
  have keep : ∀ b o, s.heap.get? b = some o → b ≠ f.env.locals → h'.get? b = some o := fun b o e hb => by
    cases e0 : f.hb.get? b with
    | some o' =>
      have h1 := F.kb b o' e0
      rw [e] at h1; cases h1
      exact F'.keep b o e0
    | none => exact (N' _ (sub _ (newsAll_mem e0 e hb))).1
  refine ⟨h', tk, β, K, d, rfl, keep, fun m' hm' => ?_, fr, hR, rv, hq'⟩
  rw [← ns_same hn hm']; exact F'.ns
end
end Mine

set_option autoImplicit false
set_option linter.unusedVariables false
namespace Mine
open PySem PyProof.Rows PySem.Calls PySem.W

theorem raise_spec {c : MC} {k : Nat} {st : Stmt} (h : matchS c (.raise k) st = true) : ∃ x np u kk pp cpos pos, st = .Raise (some (.Call (.Name x np) [.Constant (.str u) kk pp] [] cpos)) none pos ∧ c.g.cls[k]? = some x ∧ c.isGlob x = true := by
  cases st <;> first | exact (Bool.false_ne_true h).elim | skip
  rename_i o o2 pos
  replace h := Bool.and_eq_true_iff.mp h
  have h2 := Option.isNone_iff_eq_none.mp h.1
  subst h2
  replace h := h.2
  cases o with
  | none => exact (Bool.false_ne_true h).elim
  | some x =>
    cases x <;> first | exact (Bool.false_ne_true h).elim | skip
    rename_i f as kw cpos
    replace h := Bool.and_eq_true_iff.mp h
    have h1 := Bool.and_eq_true_iff.mp h.1
    have hk := List.isEmpty_iff.mp h1.1
    subst hk
    have h2 := h.2
    cases ho : isOne as with
    | none => rw [ho] at h2; exact (Bool.false_ne_true h2).elim
    | some a =>
      rw [ho] at h2
      have ha := one_spec ho
      subst ha
      cases a <;> first | exact (Bool.false_ne_true h2).elim | skip
      rename_i k1 kk pp
      cases k1 <;> first | exact (Bool.false_ne_true h2).elim | skip
      rename_i u
      have h3 := h1.2
      unfold MC.clsNm at h3
      cases hc : c.g.cls[k]? with
      | none => rw [hc] at h3; exact (Bool.false_ne_true h3).elim
      | some x =>
        rw [hc] at h3
        obtain ⟨np, rfl, hg⟩ := MC.isNm_spec h3
        exact ⟨x, np, u, kk, pp, cpos, pos, rfl, rfl, hg⟩

theorem cellsFrom_none : ∀ {names : List (Str × NameKind)} {n : Nat} {acc : List (Str × Addr)}, (names.all fun x => !(x.2 == NameKind.cell)) = true → cellsFrom n names acc = acc
  | [], _, _, _ => rfl
  | (y, k) :: r, n, acc, h => by
    have h := Bool.and_eq_true_iff.mp h
    unfold cellsFrom
    have hk : (k == NameKind.cell) = false := by simpa using h.1
    rw [if_neg (by rw [hk]; exact Bool.false_ne_true)]
    exact cellsFrom_none h.2
theorem envOfC_eq {name : Str} {sc : Scope} {L a : Addr} {cd : Value} (h : (sc.names.all fun x => !(x.2 == NameKind.cell)) = true) : envOfC name sc L a cd = envOf name sc L a cd := by
  unfold envOfC envOf
  rw [cellsFrom_none h]

section
variable {prog : Program} {w : World} {G : GV} {gc : GC} {DT : List DefT} {P : List Fn} {sub : Nat → Nat → Bool} {view : Program} {loose : List Str} {mean : ExcName → Option Value} {mb : Str → Option Value}
theorem call_raise {n : Nat} {A : Around} {Φ : Call} {f : Nat} {s : Shared} (hA : Room prog A (n + 1)) (hdefs : ∀ (k : Nat) (d : DefT) (f : Fn), DT[k]? = some d → P[k]? = some f → ∃ vs, DefOk gc d f vs) (hΦ : ∀ env, SCall prog w G gc DT (A.deeper env) Φ)
    (hT : ∀ k vs H Q, ¬ Φ (k + 1000) vs H Q (fun _ _ => False)) {x : Str} {vs : List V} {H : Hp} {Q : V → Hp → Prop} {Y : Nat → Hp → Prop} {fd : Fn} (hx : gc.fns[f]? = some x) (hf : P[f]? = some fd) (hlen : vs.length = fd.np)
    (hw : wpS sub Φ (fun m => H.length ≤ m) fd.body (startLoc fd.np fd.nv vs) H (fun _ H' => Q .none H') Q Y) (α : List Addr) (vals : List Value) (E : Value → Shared → Prop) (T : GF G gc DT s.heap) (R : HR G α s.heap H) (r : Reps G α s.heap vals vs)
    {base : Heap} {outer : List Env} (KB : Below A base outer s.heap) (TT : Top view loose mean G.mg mb s.heap) (hcell : ∀ d, DT[f]? = some d → (d.scope.names.all fun x => !(x.2 == NameKind.cell)) = true)
    (hspec : ∀ k x H', gc.cls[k]? = some x → Y k H' → specOf view x = some ("ValueError.__new__", [.type "ValueError", .type "Exception", .type "BaseException", .type "object"]))
    (hX : ∀ (k : Nat) (x : Str) (C e t : Addr) (us : List Value) (h' : Heap) (tk : Nat) (H' : Hp), gc.cls[k]? = some x → G.mg x = some (.ref C) → Y k H' → RaisedS base s.heap outer e (.ref C) t us [] h' → s.heap.UpToSlots h' → E (.ref e) { s with heap := h', toks := tk }) :
    codeAny (model prog w) A (.call (.ref (G.fa f)) ⟨vals, []⟩) (fun r s' => match r with | .ok (.ret v) => Post G (Rep G) s α H Q v s' | .ok _ => False | .error e => E e s') s := by
  refine call_core hA hdefs hΦ (fun d vn cd _ k x vs H Q _ hk => (hT k vs H Q hk).elim) hx hf hlen hw α vals E (fun d vn cd h₁ tk hd D hk => ?_) T R r
  intro k st h' tk' β H' ρ' hm st' lv R' F' y
  obtain ⟨x, np, u, kk, pp, cpos, pos, rfl, hcls, hgl⟩ := raise_spec hm
  have O : EnvOk ⟨gc, d.scope, vn⟩ (envOfC d.name d.scope s.heap.objs.size (G.fa f) cd) := envOk_of D _ _ _
  have FI' := F'.fi
  obtain ⟨m, cm, hn, hc, hv⟩ := F'.fr
  have Fr0 : Fr s.heap s.heap.objs.size h' m := ⟨hn, F'.kb, Nat.le_refl _⟩
  have henv := envOfC_eq (name := d.name) (L := s.heap.objs.size) (a := G.fa f) (cd := cd) (hcell d hd)
  obtain ⟨hgk, hgd⟩ := MC.isGlob_spec hgl
  have T' : GF G gc DT h' := T.keeps F'.kb
  have ev := ses_cons (X := ⟨prog, w, G, DT, A.deeper (envOfC d.name d.scope s.heap.objs.size (G.fa f) cd), sub, Φ⟩) (c := ⟨gc, d.scope, vn⟩) rfl (se_cstr (i := u) (k := kk) (pos := pp)) ses_nil _ { s with heap := h', toks := tk' } (α ++ β) ρ' H' (fun _ _ => True)
    (fun e s' => wpAny (model prog w) (A.deeper (envOfC d.name d.scope s.heap.objs.size (G.fa f) cd)) (leaving (envOfC d.name d.scope s.heap.objs.size (G.fa f) cd) e) (fun _ s'' => E e s'') (fun e' s'' => E e' s'') s') cpos O T' R' FI' trivial
  have hgk' := O.glob x hgk
  dsimp only at ev ⊢
  rw [henv] at ev hgk' ⊢
  refine Raise_top (s := { s with heap := h', toks := tk' }) Fr0 TT PySem.F.excBase_ValueError (hspec k x H' hcls y) hA.handled (fun C hmean hmg => ?_) rfl rfl D.kind hgk' hgd
  refine wpAny_mono ev (fun us s₂ p => ?_) fun _ _ e => e
  obtain ⟨h₂, tk₂, β₂, K₂, ds, rfl, k₂, f₂, R₂, r₂, _⟩ := p
  refine ⟨?_, fun b o e => k₂ b o (F'.kb b o e), fun h3 e hx => ?_⟩
  · rw [r₂.2, sizeLine_eq]; show 1 ≤ 16777216; decide
  · exact leave_raiseS (s' := { s with heap := h3, toks := tk₂ }) KB hx (Fr0.keeps k₂) News.nil (fun h4 t RS _ us' => hX k x C e t us h4 tk₂ H' hcls hmg y RS us') D.kind
end
end Mine

set_option autoImplicit false
set_option linter.unusedVariables false
namespace Mine
open PySem PyProof.Rows PySem.Calls PySem.W
theorem keepsB_led {h₀ h h' : Heap} {L : Addr} {m : Str → Option Value} {news : List (Addr × Obj)} (F : Fr h₀ L h m) (full : ∀ b o, h.get? b = some o → h₀.get? b = none → b ≠ L → (b, o) ∈ news)
    (kp : ∀ b o, h₀.get? b = some o → h'.get? b = some o) (N : ∀ q ∈ news, h'.get? q.1 = some q.2) : KeepsB (fun b => b = L) h h' where
  keep := fun b o e hb => by
    cases e0 : h₀.get? b with
    | some o' =>
      have h1 := F.keep b o' e0
      rw [e] at h1; cases h1
      exact kp b o e0
    | none => exact N _ (full b o e e0 hb)
  dict := fun b o hb e => by subst hb; exact ns_dict F.ns e
/-- a raise out of a call keeps what is new before it -/
theorem raised_news {base G g h : Heap} {l : List Env} {e t : Addr} {cls : Value} {vs : List Value} {L : Addr} {m : Str → Option Value} {news : List (Addr × Obj)} (R : RaisedS base G l e cls t vs [] h) (N : News g L G news) (F : Fr g L G m)
    (hb : ∀ b, g.get? b = none → base.get? b = none) (hfr : ∀ q ∈ news, q.1 ∉ l.filterMap (·.frame)) (U : G.UpToSlots h) : ∃ G₂, RaisedS base G₂ l e cls t vs news h ∧ Fr g L G₂ m ∧ G₂.UpToSlots h := by
  obtain ⟨⟨B, hB, hG, _, hfl, ht⟩, htup⟩ := R
  refine ⟨hideAll G (news.map (·.1)), ⟨⟨B, hB, fun b o e hb => hG b o (of_hideAll _ e) hb, fun q hq => ⟨hG _ _ (N q hq).1 (hfr q hq), hideAll_none _ (List.mem_map_of_mem hq), hb _ (N q hq).2.2⟩, hfl, ht⟩, htup⟩, ⟨?_, fun b o e => ?_, F.above⟩, fun b o e => U b o (of_hideAll _ e)⟩
  · obtain ⟨o, es, ep, ho, r⟩ := F.ns
    refine ⟨o, es, ep, hideAll_get _ ho fun hm => ?_, r⟩
    obtain ⟨q, hq, e⟩ := List.mem_map.mp hm
    exact (N q hq).2.1 e
  · refine hideAll_get _ (F.keep b o e) fun hm => ?_
    obtain ⟨q, hq, e'⟩ := List.mem_map.mp hm
    have := (N q hq).2.2
    rw [e', e] at this; cases this
end Mine
namespace Mine
open PySem PyProof.Rows PySem.Calls PySem.W
theorem callN_no {sub : Nat → Nat → Bool} {P : List Fn} (hP : P.length ≤ 1000) : ∀ (n k : Nat) (vs : List V) (H : Hp) (Q : V → Hp → Prop), ¬ callN sub P n (k + 1000) vs H Q (fun _ _ => False)
  | 0, _, _, _, _, h => h
  | n + 1, k, vs, H, Q, h => by
    obtain ⟨d, hd, _⟩ := h
    have := (List.getElem?_eq_some_iff.mp hd).1
    (clear hd; omega)
end Mine
namespace Mine
open PySem PyProof.Rows PySem.Calls PySem.W
end Mine
namespace Mine
open PySem PyProof.Rows PySem.Calls PySem.W
end Mine

set_option autoImplicit false
set_option linter.unusedVariables false
namespace Mine
open PySem PyProof.Rows PySem.Calls PySem.W
section
variable {prog : Program} {w : World} {A : Around} {E : Value → Shared → Prop} {s : Shared} {h₀ : Heap} {L D D' : Addr} {m : Str → Option Value} {news : List (Addr × Obj)} {v : Value} {n n' : Nat} {k : Int} {u : Tok} {Q : Value → Shared → Prop}
end
end Mine

set_option autoImplicit false
set_option linter.unusedVariables false
namespace Mine
open PySem PyProof.Rows PySem.Calls
theorem reps1 {G : GV} {α : List Addr} {h : Heap} {vals : List Value} {vs : List V} (r : Reps G α h vals vs) (e : vs.length = 1) : ∃ a, vals = [a] := by
  cases r with
  | nil => cases e
  | cons _ r =>
    cases r with
    | nil => exact ⟨_, rfl⟩
    | cons _ r => simp at e
theorem bool_end {G : GV} {s : Shared} {h₀ h' : Heap} {L : Addr} {m : Str → Option Value} {α : List Addr} {H : Hp} {Q : V → Hp → Prop} {Z : Value → Shared → Prop} {news news' : List (Addr × Obj)} {t : Bool} {tk : Nat}
    (hZ : ∀ (v : Value) (d : V) (h' : Heap) (tk : Nat) (news' : List (Addr × Obj)) (β : List Addr) (K : Hp), Fr h₀ L h' m → News h₀ L h' news' → (∀ q ∈ news, q ∈ news') → (∀ b ∈ β, s.heap.get? b = none) →
        HR G (α ++ β) h' (H ++ K) → Rep G (α ++ β) h' v d → Q d (H ++ K) → Z v { s with heap := h', toks := tk })
    (F0 : Fr h₀ L s.heap m) (full : ∀ b o, s.heap.get? b = some o → h₀.get? b = none → b ≠ L → (b, o) ∈ news) (hR : HR G α s.heap H) (hy : Q (.bool t) H) (F : Fr h₀ L h' m) (N : News h₀ L h' news') (sb : ∀ q ∈ news, q ∈ news') : Z (.bool t) { s with heap := h', toks := tk } := by
  have kB := keepsB_led F0 full F.keep (fun q hq => (N q (sb q hq)).1)
  refine hZ _ _ h' tk news' [] [] F N sb (fun b hb => (nomatch hb)) ?_ (.bool t) ?_
  · rw [List.append_nil, List.append_nil]; exact kB.hr hR
  · rw [List.append_nil]; exact hy
end Mine

namespace Mine
open PySem PySem.W PySem.Calls PyProof.Rows

/-- the top's run over a tree for a heap; it forces the counter at each step -/
noncomputable def topRunT (tb : String → Option Builtin) (p : Program) (w : World) (n₀ : Nat) (ann : Option Value) : Nat → SharedT → Thread → Option SharedT
  | 0, _, _ => none
  | n + 1, s, t => match through t with
    | true => some s
    | false => match stepOk n₀ ann t with
      | false => none
      | true => match stepT (denote tb) p w s t with
        | some (⟨T, m, l, g, d, 0, o⟩, t') => topRunT tb p w n₀ ann n ⟨T, m, l, g, d, 0, o⟩ t'
        | some (⟨T, m, l, g, d, k + 1, o⟩, t') => topRunT tb p w n₀ ann n ⟨T, m, l, g, d, k + 1, o⟩ t'
        | none => none

theorem topRunT_of {tb : String → Option Builtin} {p : Program} {w : World} {n₀ : Nat} {ann : Option Value} : ∀ {n : Nat} {s s' : SharedT} {t : Thread}, topRunT tb p w n₀ ann n s t = some s' → topRun tb p w n₀ ann n s.abs t = some s'.abs
  | 0, _, _, _, h => by cases h
  | n + 1, s, s', t, h => by
    unfold topRunT at h
    unfold topRun
    cases he : through t with
    | true => rw [he] at h; cases h; rfl
    | false =>
      rw [he] at h
      cases hk : stepOk n₀ ann t with
      | false => rw [hk] at h; cases h
      | true =>
        rw [hk] at h
        cases hs : stepT (denote tb) p w s t with
        | none => rw [hs] at h; cases h
        | some r =>
          obtain ⟨⟨T, m, l, g, d, k, o⟩, t₂⟩ := r
          rw [hs] at h
          rw [stepT_spec hs]
          cases k with
          | zero => exact topRunT_of h
          | succ k => exact topRunT_of h

noncomputable def bt : List Obj → Nat → BT → BT
  | [], _, t => t
  | o :: l, n, t => bt l (n + 1) (t.ins n o)
noncomputable def bootT (P : Params) (os : OsState) : SharedT := ⟨bt (boot_heap P).objs.toList 0 .nil, (boot_heap P).objs.size, (boot_heap P).life, Array.mk [], boot_drawn, boot_toks, os⟩
theorem bootT_abs (P : Params) (os : OsState) : (bootT P os).abs = ⟨boot_heap P, Array.mk [], boot_drawn, boot_toks, os⟩ := by kernel_rfl

/-- all the looks at the state behind the top -/
noncomputable def lookAll (p q : Program) (loose : List Str) (Xt : Shared → Bool) {α : Type} (Yf : Shared → α) (P : Params) (s : Shared) :=
  ((staticsOk (importedModules p.main.body) (boot_heap P) s.heap && namesBound p s.heap && gensDone s && laidKept (boot_heap P) s.heap), openSeen q loose (importedModules p.main.body) Xt true s, Yf s)
noncomputable def endsT (p q : Program) (loose : List Str) (Xt : Shared → Bool) {α : Type} (Yf : Shared → α) (m₀ : Nat) (ann : Option Value) (N : Nat) (w : World) (os : OsState) :=
  (topRunT treeTable p w m₀ ann N (bootT w.params os) (topStub p)).map fun s => lookAll p q loose Xt Yf w.params s.abs

theorem leftO_of {p q : Program} {loose : List Str} {Xt : Shared → Bool} {α : Type} {Yf : Shared → α} {Ya : World → α} {N : Nat} {m₀ : Nat} {ann : Option Value}
    (e : opening p = plainProg p.main.scope.names) (hN : Nat.ble 600 N = true) (f : ∀ s, fenceModules? p s = some s)
    (size : ∀ w : World, ((boot_heap w.params).isNs mainGlobals, (boot_heap w.params).objs.size, (boot_heap w.params).nsMap mainGlobals "__annotations__") = (true, m₀, ann))
    (run : ∀ (w : World) (os : OsState), endsT p q loose Xt Yf m₀ ann N w os = some (true, openGood q loose, Ya w)) : LeftO p q loose Xt Yf Ya N := fun w => by
  obtain ⟨⟨h, gs, d, k, os⟩, e, e'⟩ := Option.map_eq_some_iff.mp (boot_open e hN f w)
  obtain ⟨rfl, rfl, rfl, rfl⟩ : h = boot_heap w.params ∧ gs = Array.mk [] ∧ d = boot_drawn ∧ k = boot_toks := by simpa using e'
  obtain ⟨z1, z2, z3⟩ : _ ∧ _ ∧ _ := by simpa only [Prod.mk.injEq] using size w
  obtain ⟨s₁, hr, hl⟩ := Option.map_eq_some_iff.mp (run w os)
  have r := topRunT_of hr
  rw [bootT_abs] at r
  obtain ⟨l1, l2, l3⟩ : _ ∧ _ ∧ _ := by simpa only [lookAll, Prod.mk.injEq] using hl
  have t : topFrom treeTable p w N ⟨boot_heap w.params, Array.mk [], boot_drawn, boot_toks, os⟩ = some s₁.abs := by
    unfold topFrom
    dsimp only
    rw [z1, z2, z3, r]
    show (match staticsOk (importedModules p.main.body) (boot_heap w.params) s₁.abs.heap && namesBound p s₁.abs.heap && gensDone s₁.abs && laidKept (boot_heap w.params) s₁.abs.heap with | true => _ | false => _) = _
    rw [l1]
  unfold openEnds
  rw [e]
  show (topFrom treeTable p w N _).map _ = _
  rw [t]
  exact congrArg some (Prod.ext l2 l3)
end Mine

set_option autoImplicit false
set_option linter.unusedVariables false
set_option maxRecDepth 100000
namespace Mine
open PySem PySem.W PySem.Calls PyProof.Rows PySem.Builtin PySem.Builtin.ObjectAttr PySem.Builtin.Getset_descriptor

/-- an object of an own exception class -/
noncomputable def ExcAt (a C : Addr) (h : Heap) : Prop := ∃ o, h.get? a = some o ∧ o.cls = .ref C

section
variable {K : Frag} {prog : Program} {w : World} {A : Around} {E : Value → Shared → Prop} {h : Heap} {g : Array GenState} {d : Drawn} {t : Nat} {os : OsState} {a C : Addr} {o : Obj}
theorem excAt_N {h₀ : Heap} {L : Addr} {news : List (Addr × Obj)} (N : News h₀ L h news) (hm : (a, o) ∈ news) (hc : o.cls = .ref C) : ExcAt a C h := ⟨o, (N _ hm).1, hc⟩
theorem news_cons {h₀ : Heap} {L : Addr} {news : List (Addr × Obj)} {q : Addr × Obj} (N : News h₀ L h news) (hq : h.get? q.1 = some q.2 ∧ q.1 ≠ L ∧ h₀.get? q.1 = none) : News h₀ L h (q :: news) := fun p hp => by
  rcases List.mem_cons.mp hp with rfl | hp
  · exact hq
  · exact N p hp
theorem exc_ty (M : Model) (hx : h.get? a = some o) (hc : o.cls = .ref C) : Looks M h (typeOf (.ref a)) (.ref C) := hc ▸ (Looks.ld hx).andThen .now

theorem class_get_exc {tp : Value} {R : Result → Shared → Prop} (X : K.In h) (hx : h.get? a = some o) (hc : o.cls = .ref C) (hm : mroIn K C (.type "object") = some true)
    (hq : R (.ok (.ret (.ref C))) ⟨h, g, d, t, os⟩) : codeAny (model prog w) A (.call (.builtin "getset_descriptor.__get__") ⟨[.builtin "object.__class__", .ref a, tp], []⟩) R ⟨h, g, d, t, os⟩ := by
  have L0 := exc_ty (model prog w) hx hc
  have L1 := looks_mroIn (M := model prog w) X hm
  refine codeAny_call_builtin KF.slot_gs.plain KF.entry_gs (KF.slot_gs.check _ _ _ _ _ _ _ _ KF.type_class (KF.args_gs _ _ _) ?_)
  unfold Builtin.«getset_descriptor.__get__» descrGet
  rw [dga_obj]
  refine wpAny_bind (wpAny_pure ?_)
  unfold descrGetter descrCheckInstance descrNameAndClass isInstance
  simp only [KF.owner_class]
  repeat lk
  refine ⟨Code.quiet_builtin _ (by decide +kernel), codeAny_builtin KF.entry_class ?_⟩
  unfold Builtin.«object.__class__» shownTypeOf
  repeat lk
  exact hq
end
end Mine
namespace Mine
open PySem PySem.W PySem.Calls PyProof.Rows PySem.Builtin PySem.Builtin.ObjectAttr PySem.Builtin.Getset_descriptor
section
variable {K : Frag} {prog : Program} {w : World} {A : Around} {E : Value → Shared → Prop} {h : Heap} {g : Array GenState} {d : Drawn} {t : Nat} {os : OsState} {a C : Addr} {o : Obj}
theorem check_ga_exc {M : Model} {nameV : Value} {Q : Unit → Shared → Prop} (X : K.In h) (hx : h.get? a = some o) (hc : o.cls = .ref C) (hb : subIn K (.ref C) (.type "BaseException") = some true)
    (hq : Q () ⟨h, g, d, t, os⟩) : wpAny M A (checkBuiltinCall "BaseException.__getattribute__" ⟨[.ref a, nameV], []⟩) Q E ⟨h, g, d, t, os⟩ := by
  have hk : builtinKind "BaseException.__getattribute__" = some .slot := by decide +kernel
  have hsplit : splitId "BaseException.__getattribute__" = some ("BaseException", "__getattribute__") := by decide +kernel
  have L0 := exc_ty M hx hc
  have L1 : Looks M h (isSubtype (.ref C) (.type "BaseException")) true := looks_subIn X hb
  have ha := F.args_bexc_ga (.ref a) nameV
  simp only [checkBuiltinCall, hk, hsplit]
  refine wpAny_bind ?_
  · unfold isInstance
    refine wpAny_bind (L0.at (L1.at ?_))
    repeat (first | wp_step)
    exact hq
theorem class_entry_exc {tk : Tok} {Q : Fin → Shared → Prop} (X : K.In h) (hx : h.get? a = some o) (hc : o.cls = .ref C) (f3 : findIn K (.ref C) "__class__" = some (some (.builtin "object.__class__"))) (hm : mroIn K C (.type "object") = some true)
    (hq : Q (.done (.ret (.ref C))) ⟨h, g, d, t, os⟩) : wpAny (model prog w) A (Builtin.«object.__getattribute__» ⟨[.ref a, .str "__class__" tk], []⟩) Q E ⟨h, g, d, t, os⟩ := by
  have L0 := exc_ty (model prog w) hx hc
  have L1 := looks_findIn (M := model prog w) X f3
  have hT5 : (⟨h, g, d, t, os⟩ : Shared).TypeIs (.builtin "object.__class__") "getset_descriptor" := F.typeOf_object_class
  have f5 := F.typeOf_object_class
  have f6 := F.slot_gs_get.lookup
  have f7 := F.slot_gs_set.lookup
  repeat (any_goals (first | assumption | with_reducible refine L0.at ?_ | with_reducible refine L1.at ?_ | wp_step))
  refine class_get_exc X hx hc hm ?_
  repeat (any_goals (first | assumption | wp_step))
theorem class_by_exc {tk : Tok} {Q : Value → Shared → Prop} (X : K.In h) (hx : h.get? a = some o) (hc : o.cls = .ref C) (hb : subIn K (.ref C) (.type "BaseException") = some true) (f1 : findIn K (.ref C) "__getattribute__" = some (some (.builtin "BaseException.__getattribute__")))
    (f2 : findIn K (.ref C) "__getattr__" = some none) (f3 : findIn K (.ref C) "__class__" = some (some (.builtin "object.__class__"))) (hm : mroIn K C (.type "object") = some true) (hq : Q (.ref C) ⟨h, g, d, t, os⟩) :
    wpAny (model prog w) A (getAttrBy (.ref a) (.str "__class__" tk) false) Q E ⟨h, g, d, t, os⟩ := by
  have L0 := exc_ty (model prog w) hx hc
  have L1 := looks_findIn (M := model prog w) X f1
  have L2 := looks_findIn (M := model prog w) X f2
  have f3' := F.attr_ValueError.ga.bind (.ref a)
  have hx2 : (Value.builtin "BaseException.__getattribute__" == Value.builtin "object.__getattribute__") = false := by decide +kernel
  have hx1 : (onTheHeap (Value.ref C) && Value.builtin "BaseException.__getattribute__" == Value.builtin "object.__getattribute__") = false := by rw [hx2]; rfl
  repeat (any_goals (first | assumption | with_reducible refine L0.at ?_ | with_reducible refine L1.at ?_ | with_reducible refine L2.at ?_ | wp_step))
  refine codeAny_call_builtin F.attr_ValueError.ga.plain F.entry_bexc_ga (check_ga_exc X hx hc hb (class_entry_exc X hx hc f3 hm ?_))
  repeat (any_goals (first | assumption | wp_step))
theorem class_attr_exc {Q : Option Value → Shared → Prop} (X : K.In h) (hx : h.get? a = some o) (hc : o.cls = .ref C) (hb : subIn K (.ref C) (.type "BaseException") = some true) (f1 : findIn K (.ref C) "__getattribute__" = some (some (.builtin "BaseException.__getattribute__")))
    (f2 : findIn K (.ref C) "__getattr__" = some none) (f3 : findIn K (.ref C) "__class__" = some (some (.builtin "object.__class__"))) (hm : mroIn K C (.type "object") = some true) (hq : Q (some (.ref C)) ⟨h, g, d, t + 1, os⟩) :
    wpAny (model prog w) A (getAttr? (.ref a) "__class__") Q E ⟨h, g, d, t, os⟩ := by
  unfold getAttr? getAttrBy?
  repeat (any_goals (first | assumption | with_reducible apply class_by_exc X hx hc hb f1 f2 f3 hm | wp_step))
theorem kitx_exc (hb : subIn K (.ref C) (.type "BaseException") = some true) (f1 : findIn K (.ref C) "__getattribute__" = some (some (.builtin "BaseException.__getattribute__")))
    (f2 : findIn K (.ref C) "__getattr__" = some none) (f3 : findIn K (.ref C) "__class__" = some (some (.builtin "object.__class__"))) (hm : mroIn K C (.type "object") = some true) :
    KitX K (.ref a) (.ref C) (ExcAt a C) where
  ty := fun M h _ p => by obtain ⟨o, hx, hc⟩ := p; exact exc_ty M hx hc
  it := fun _ _ X _ => by
    obtain ⟨cdD, hcl, _⟩ := Option.bind_eq_some_iff.mp hm
    unfold clsIn at hcl
    split at hcl
    · rename_i c' d' cd' sl' ho
      intro A' Q' E' s' k q
      unfold isType loadHead
      exact wpAny_bind (wpAny_loadPart (k _ _ (X _ _ ho)) (wpAny_pure q))
    · cases hcl
  ne := fun h tp dd its n sl X htp => by
    refine Bool.eq_false_iff.mpr fun q => ?_
    have e : C = tp := Value.ref.inj (beq_iff_eq.mp q)
    subst e
    obtain ⟨cdD, hcl, _⟩ := Option.bind_eq_some_iff.mp hm
    unfold clsIn at hcl
    split at hcl
    · rename_i c' d' cd' sl' ho
      have z := (X _ _ ho).symm.trans htp
      cases z
    · cases hcl
  ca := fun {_ _ _ _ _ s} X p k => by
    obtain ⟨h, g, d, t, os⟩ := s
    obtain ⟨o, hx, hc⟩ := p
    exact class_attr_exc X hx hc hb f1 f2 f3 hm k
end
end Mine

set_option autoImplicit false
namespace Mine
/-- the row's value at p by q, times q to the degree -/
noncomputable def hval (p q : Int) : List Int → Int
  | [] => 0
  | c :: cs => hval p q cs * p + c * q ^ cs.length
end Mine

set_option autoImplicit false
namespace Mine

/-- the row times (a + b x), c carried in -/
noncomputable def mulG (a b : Int) : Int → List Int → List Int
  | c, [] => [c]
  | c, x :: r => (c + x * a) :: mulG a b (x * b) r
noncomputable def addL (xs ys : List Int) : List Int := List.zipWith (fun x y => x + y) xs ys
noncomputable def smul (c : Int) (xs : List Int) : List Int := xs.map fun x => c * x
noncomputable def mulN (a b : Int) : Nat → List Int → List Int
  | 0, xs => xs
  | n + 1, xs => mulG a b 0 (mulN a b n xs)
noncomputable def zeros (n : Nat) : List Int := List.replicate n 0

theorem addL_len {xs ys : List Int} (h : xs.length = ys.length) : (addL xs ys).length = xs.length := by
  unfold addL; rw [List.length_zipWith, h, Nat.min_self]
/-- the row seen from the stretch, from its high end -/
noncomputable def hs (b e s : Int) : List Int → List Int
  | [] => []
  | c :: r => addL (mulG b e 0 (hs b e s r)) (smul c (mulN s s r.length [1]))
end Mine

set_option autoImplicit false
set_option linter.unusedVariables false
set_option linter.unusedSimpArgs false
set_option maxRecDepth 100000
namespace Mine
open PySem

noncomputable def cellI (ns : List Int) (k : Nat) : Int := ns.getD k 0

section
variable {sub : Nat → Nat → Bool} {P : List Fn} {f n : Nat} {H : Hp} {Q : V → Hp → Prop} {X : Nat → Hp → Prop}

theorem callN_mk {d : Fn} {vs : List V} (e : P[f]? = some d) (hl : vs.length = d.np) (h : wpS sub (callN sub P n) (fun m => H.length ≤ m) d.body (startLoc d.np d.nv vs) H (fun _ H' => Q .none H') Q X) : callN sub P (n + 1) f vs H Q X := ⟨d, e, hl, h⟩

noncomputable def bCell : PS := .seq (.ite (.cmp .lt (.var 1) (.bi .len (.cons (.var 0) .nil))) (.seq (.ret (.idx (.var 0) (.var 1))) .skip) .skip) (.seq (.ret (.cint 0)) .skip)
theorem s_cell (e : P[f]? = some ⟨2, 2, bCell⟩) {m : Nat} {ns : List Int} {k : Int} (hk : 0 ≤ k) (hH : H[m]? = some (ns.map .int)) (hQ : Q (.int (cellI ns k.toNat)) H) : callN sub P (n + 1) f [.lst m, .int k] H Q X := by
  refine callN_mk e rfl ?_
  dsimp only [bCell, qS1, qS2, qS3, qS4, qS5, qS6, qS7, qS8, qS9, qS10, qS11, qS12, qS13, qS14, qS15, qS16, qS17, qS18, qE1, qE2, qE3, qE4, qE5, qE6, qE7, qE8, qE9, qE10, qE11, qE12, qE13, qE14, qE15, qE16, qE17, qE18, qE19, qE20, qE21, qE22, qEs1, qEs2, wpAll, qO1, qO2, qI1, qI2, qI3, w_add, w_addl, w_sub, w_mul, w_mull, w_fdiv, w_mod, w_pow, w_lt, w_le, w_gt, w_ge, w_eq, w_ne, w_eqt, w_eql, w_net, w_nel, w_isn, w_ist, w_isi, w_isl, w_abs, w_lent, w_lenl, w_intb, w_list, w_tuple, w_min, w_idxt0, w_idxt1, w_idxu0, w_idxu1, w_idxu2, w_idxl, w_slcl, w_slct, w_tb, w_ti, w_tn, w_tt, w_tl, w_itt, w_itl, w_bindT1, w_bindT2, w_srcl, w_srct, w_cut2, w_cut1, w_cut1', w_cut0, w_ty1, w_ty2, w_ty3, w_ty4, w_ty5, w_ty6, w_ty7, w_ty8, w_ty9, w_ty10, w_ty11, w_ty12, w_ty13, w_ty14, w_ty15, w_ty16, w_ty17, w_ty18, w_ty19, w_ty20, w_ty21, w_mapc, w_mapn, w_appc, w_appn, w_repc, w_repn, w_start, w_lenc, w_ifT, w_ifF, w_ifFF, w_ifTF, w_nT, w_nF, w_anyT, w_anyF, w_d22, ifSome_some, ifLst_lst, ifTup_tup, ifInt_int, lget, lset, lsets, Nat.reduceSub, Nat.reduceAdd, List.length_nil, ↓reduceIte]
  refine ifSome.mk hH ?_
  rw [List.length_map]
  by_cases h : k < ns.length
  · rw [if_pos (decide_eq_true h)]
    have hl : k.toNat < ns.length := (Int.toNat_lt hk).mpr h
    refine ifSome.mk hH (ifSome.mk (v := k.toNat) ?_ (ifSome.mk (v := .int ns[k.toNat]) ?_ ?_))
    · rw [List.length_map, place, if_pos hk, if_pos h]
    · rw [List.getElem?_map, List.getElem?_eq_getElem hl]; rfl
    · rw [cellI, List.getD_eq_getElem?_getD, List.getElem?_eq_getElem hl] at hQ; exact hQ
  · rw [if_neg (by rw [decide_eq_true_eq]; exact h)]
    rw [cellI, List.getD_eq_getElem?_getD, List.getElem?_eq_none ((Int.le_toNat hk).mpr (Int.not_lt.mp h))] at hQ
    exact hQ

noncomputable def lDiv : PS := .seq (.assign 2 (.bin .mod (.var 0) (.var 1))) (.seq (.assign 0 (.var 1)) (.seq (.assign 1 (.var 2)) .skip))
noncomputable def bDiv : PS := .seq (.whl (.cmp .ne (.var 1) (.cint 0)) lDiv) (.seq (.ret (.bi .abs (.cons (.var 0) .nil))) .skip)
noncomputable def natAt (ρ : Loc) (i : Nat) : Nat := match lget ρ i with | some (.int y) => y.natAbs | _ => 0
theorem s_div (e : P[f]? = some ⟨2, 3, bDiv⟩) {a b : Int} (hQ : Q (.int (a.gcd b : Nat)) H) : callN sub P (n + 1) f [.int a, .int b] H Q X := by
  refine callN_mk e rfl ?_
  dsimp only [bDiv, qS1, qS2, qS3, qS4, qS5, qS6, qS7, qS8, qS9, qS10, qS11, qS12, qS13, qS14, qS15, qS16, qS17, qS18, qE1, qE2, qE3, qE4, qE5, qE6, qE7, qE8, qE9, qE10, qE11, qE12, qE13, qE14, qE15, qE16, qE17, qE18, qE19, qE20, qE21, qE22, qEs1, qEs2, wpAll, qO1, qO2, qI1, qI2, qI3, w_add, w_addl, w_sub, w_mul, w_mull, w_fdiv, w_mod, w_pow, w_lt, w_le, w_gt, w_ge, w_eq, w_ne, w_eqt, w_eql, w_net, w_nel, w_isn, w_ist, w_isi, w_isl, w_abs, w_lent, w_lenl, w_intb, w_list, w_tuple, w_min, w_idxt0, w_idxt1, w_idxu0, w_idxu1, w_idxu2, w_idxl, w_slcl, w_slct, w_tb, w_ti, w_tn, w_tt, w_tl, w_itt, w_itl, w_bindT1, w_bindT2, w_srcl, w_srct, w_cut2, w_cut1, w_cut1', w_cut0, w_ty1, w_ty2, w_ty3, w_ty4, w_ty5, w_ty6, w_ty7, w_ty8, w_ty9, w_ty10, w_ty11, w_ty12, w_ty13, w_ty14, w_ty15, w_ty16, w_ty17, w_ty18, w_ty19, w_ty20, w_ty21, w_mapc, w_mapn, w_appc, w_appn, w_repc, w_repn, w_start, w_lenc, w_ifT, w_ifF, w_ifFF, w_ifTF, w_nT, w_nF, w_anyT, w_anyF, w_d22, ifSome_some, ifLst_lst, ifTup_tup, ifInt_int, lget, lset, lsets, Nat.reduceSub, Nat.reduceAdd, List.length_nil, ↓reduceIte]
  refine ⟨fun ρ H' => ∃ x y o, ρ = [some (.int x), some (.int y), o] ∧ H' = H ∧ x.gcd y = a.gcd b, fun ρ _ => natAt ρ 1, ⟨a, b, _, rfl, rfl, rfl⟩, ?_⟩
  rintro ρ H' ⟨x, y, o, rfl, rfl, hg⟩
  dsimp only [lDiv, qS1, qS2, qS3, qS4, qS5, qS6, qS7, qS8, qS9, qS10, qS11, qS12, qS13, qS14, qS15, qS16, qS17, qS18, qE1, qE2, qE3, qE4, qE5, qE6, qE7, qE8, qE9, qE10, qE11, qE12, qE13, qE14, qE15, qE16, qE17, qE18, qE19, qE20, qE21, qE22, qEs1, qEs2, wpAll, qO1, qO2, qI1, qI2, qI3, w_add, w_addl, w_sub, w_mul, w_mull, w_fdiv, w_mod, w_pow, w_lt, w_le, w_gt, w_ge, w_eq, w_ne, w_eqt, w_eql, w_net, w_nel, w_isn, w_ist, w_isi, w_isl, w_abs, w_lent, w_lenl, w_intb, w_list, w_tuple, w_min, w_idxt0, w_idxt1, w_idxu0, w_idxu1, w_idxu2, w_idxl, w_slcl, w_slct, w_tb, w_ti, w_tn, w_tt, w_tl, w_itt, w_itl, w_bindT1, w_bindT2, w_srcl, w_srct, w_cut2, w_cut1, w_cut1', w_cut0, w_ty1, w_ty2, w_ty3, w_ty4, w_ty5, w_ty6, w_ty7, w_ty8, w_ty9, w_ty10, w_ty11, w_ty12, w_ty13, w_ty14, w_ty15, w_ty16, w_ty17, w_ty18, w_ty19, w_ty20, w_ty21, w_mapc, w_mapn, w_appc, w_appn, w_repc, w_repn, w_start, w_lenc, w_ifT, w_ifF, w_ifFF, w_ifTF, w_nT, w_nF, w_anyT, w_anyF, w_d22, ifSome_some, ifLst_lst, ifTup_tup, ifInt_int, lget, lset, lsets, Nat.reduceSub, Nat.reduceAdd, List.length_nil, ↓reduceIte]
  by_cases hy : y = 0
  · subst hy
    have : (if x < 0 then -x else x) = ((a.gcd b : Nat) : Int) := by
      rw [← hg, Int.gcd_zero_right]
      split <;> omega
    show Q (.int (if x < 0 then -x else x)) _
    rw [this]; exact hQ
  · rw [decide_eq_false hy]
    exact ⟨hy, ⟨y, x.fmod y, _, rfl, rfl, by rw [gcd_fmod]; exact hg⟩, fmod_natAbs_lt hy⟩

noncomputable def bWhole : PS := .seq (.ret (.and (.cons (.isi (.var 0) [.int]) (.cons (.nt (.isi (.var 0) [.bool])) .nil)))) .skip
theorem s_whole (e : P[f]? = some ⟨1, 1, bWhole⟩) {x : Int} (hQ : Q (.bool true) H) : callN sub P (n + 1) f [.int x] H Q X :=
  callN_mk e rfl hQ

end
end Mine

set_option autoImplicit false
set_option linter.unusedVariables false
set_option linter.unusedSimpArgs false
set_option maxRecDepth 100000
namespace Mine
open PySem

theorem w_idxg {x : V} {k : Int} {H : Hp} {Q : V → Hp → Prop} : idxWp x (.int k) H Q = ifSome (items H x) fun xs => ifSome (place xs.length k) fun i => ifSome xs[i]? fun v => Q v H := rfl
theorem w_leng {x : V} {H : Hp} {Q : V → Hp → Prop} : biWp .len [x] H Q = ifSome (items H x) fun xs => Q (.int xs.length) H := rfl
theorem place_nat {n k : Nat} (h : k < n) : place n (k : Int) = some k := by
  rw [place, if_pos (Int.natCast_nonneg k), if_pos (Int.ofNat_lt.mpr h)]; rfl
theorem place_last {n : Nat} (h : 1 ≤ n) : place n (-1) = some (n - 1) := by
  rw [place, if_neg (by decide), if_pos (by omega)]; congr 1; omega
theorem setApp1 {β : Type} (H : List β) (x y z : β) (K : List β) : (H ++ x :: y :: K).set (H.length + 1) z = H ++ x :: z :: K := by
  rw [List.set_append_right _ _ (by omega)]; simp
theorem itemsKeep {H H' : Hp} {v : V} {xs : List V} (h : H <+: H') (e : items H v = some xs) : items H' v = some xs := by
  cases v <;> first | exact e | exact getKeep h e
theorem range'_len {k : Nat} {β : Type} {x : β} {r : List β} : List.range' k (x :: r).length = k :: List.range' (k + 1) r.length := List.range'_succ ..

theorem compGo_map {g : V → V} {step : V → Hp → (Option V → Hp → Prop) → Prop} {H : Hp} : ∀ {xs : List V} {Q : List V → Hp → Prop}, (∀ x ∈ xs, ∀ k : Option V → Hp → Prop, k (some (g x)) H → step x H k) → Q (xs.map g) H → compGo step xs H Q
  | [], _, _, h => h
  | x :: xs, Q, hs, h => hs x List.mem_cons_self _ (compGo_map (g := g) (fun y hy => hs y (List.mem_cons_of_mem _ hy)) h)
theorem compGo_map' {β : Type} {h g : β → V} {step : V → Hp → (Option V → Hp → Prop) → Prop} {H : Hp} : ∀ {xs : List β} {Q : List V → Hp → Prop}, (∀ x ∈ xs, ∀ k : Option V → Hp → Prop, k (some (g x)) H → step (h x) H k) → Q (xs.map g) H → compGo step (xs.map h) H Q
  | [], _, _, hq => hq
  | x :: xs, Q, hs, hq => hs x List.mem_cons_self _ (compGo_map' (g := g) (fun y hy => hs y (List.mem_cons_of_mem _ hy)) hq)
theorem compGo_rng {g : Nat → V} {step : V → Hp → (Option V → Hp → Prop) → Prop} {H : Hp} : ∀ {n a : Nat} {Q : List V → Hp → Prop}, (∀ i, i < a + n → ∀ k : Option V → Hp → Prop, k (some (g i)) H → step (.int (i : Int)) H k) → Q ((List.range' a n).map g) H → compGo step ((List.range' a n).map fun (i : Nat) => V.int (i : Int)) H Q
  | 0, _, _, _, h => h
  | n + 1, a, Q, hs, h => hs a (by (clear hs h; omega)) _ (compGo_rng (g := g) (fun i hi => hs i (by (clear hs h; omega))) h)
/-! bounds -/
noncomputable def AllSm (k : Nat) (xs : List Int) : Prop := ∀ x ∈ xs, Sm k x
theorem AllSm.mono {k l : Nat} {xs : List Int} (h : AllSm k xs) (hl : k ≤ l) : AllSm l xs := fun x hx => (h x hx).mono hl
theorem AllSm.cons {k : Nat} {x : Int} {xs : List Int} (h : Sm k x) (h' : AllSm k xs) : AllSm k (x :: xs) := fun y hy => by
  cases hy with
  | head => exact h
  | tail _ hy => exact h' y hy
theorem AllSm.hd {k : Nat} {x : Int} {xs : List Int} (h : AllSm k (x :: xs)) : Sm k x := h x List.mem_cons_self
theorem AllSm.tl {k : Nat} {x : Int} {xs : List Int} (h : AllSm k (x :: xs)) : AllSm k xs := fun y hy => h y (List.mem_cons_of_mem _ hy)
theorem AllSm.nil {k : Nat} : AllSm k [] := fun _ h => nomatch h
theorem Sm.zero {k : Nat} : Sm k 0 := Nat.two_pow_pos k
theorem AllSm.smul {k l : Nat} {c : Int} {xs : List Int} (hc : Sm l c) (h : AllSm k xs) : AllSm (l + k) (Mine.smul c xs) := fun x hx => by
  obtain ⟨y, hy, rfl⟩ := List.mem_map.mp hx
  exact hc.mul (h y hy)
section
variable {sub : Nat → Nat → Bool} {P : List Fn} {f n : Nat} {H : Hp} {Q : V → Hp → Prop} {X : Nat → Hp → Prop}

end
end Mine

set_option autoImplicit false
set_option linter.unusedVariables false
set_option linter.unusedSimpArgs false
set_option maxRecDepth 100000
namespace Mine
open PySem
theorem clamp_pos {n : Nat} {k : Int} (h : 0 ≤ k) : clampAt n k = min k.toNat n := by
  obtain ⟨m, rfl⟩ := Int.eq_ofNat_of_zero_le h
  unfold clampAt
  rw [if_neg (Int.not_lt.mpr h), Int.max_eq_right (Int.le_min.mpr ⟨h, Int.natCast_nonneg n⟩), Int.toNat_natCast]
  rcases Nat.le_total m n with hm | hm
  · rw [Int.min_eq_left (Int.ofNat_le.mpr hm), Nat.min_eq_left hm, Int.toNat_natCast]
  · rw [Int.min_eq_right (Int.ofNat_le.mpr hm), Nat.min_eq_right hm, Int.toNat_natCast]
section
variable {sub : Nat → Nat → Bool} {P : List Fn} {f n mu : Nat} {H : Hp} {Q : V → Hp → Prop} {X : Nat → Hp → Prop}
noncomputable def lo (p1 q1 : Int) : V := .tup [.int p1, .int q1]
end
end Mine

set_option autoImplicit false
set_option linter.unusedVariables false
set_option linter.unusedSimpArgs false
set_option maxRecDepth 100000
namespace Mine
open PySem
theorem small_nat {n : Nat} (h : n ≤ 900) : smallI (n : Int) := smallI_of (by omega) (by omega)
section
variable {sub : Nat → Nat → Bool} {P : List Fn} {f n mu : Nat} {H : Hp} {Q : V → Hp → Prop} {X : Nat → Hp → Prop}
noncomputable def lBy1 : PS := (.seq (.setidx 2 (.bin .add (.var 3) (.var 4)) (.bin .add (.idx (.var 2) (.bin .add (.var 3) (.var 4))) (.bin .mul (.idx (.var 0) (.var 3)) (.idx (.var 1) (.var 4)))))
 .skip)
noncomputable def lBy2 : PS := (.seq (.forr 4 (.rng (.cons (.bi .len (.cons (.var 1) .nil)) .nil)) lBy1)
 .skip)
noncomputable def zBy : PE := (.comp (.cint 0) 1 [] (.rng (.cons (.bin .sub (.bin .add (.bi .len (.cons (.var 0) .nil)) (.bi .len (.cons (.var 1) .nil))) (.cint 1)) .nil)) .no)
noncomputable def bBy : PS := (.seq (.assign 2 zBy)
 (.seq (.forr 3 (.rng (.cons (.bi .len (.cons (.var 0) .nil)) .nil)) lBy2)
 (.seq (.ret (.var 2)) .skip)))
end
end Mine

set_option autoImplicit false
set_option linter.unusedVariables false
set_option linter.unusedSimpArgs false
set_option maxRecDepth 100000
namespace Mine
open PySem
theorem DivOk.sm {b : Int} (h : b ≠ 0) (hb : Sm 64 b) : DivOk b := h
section
variable {sub : Nat → Nat → Bool} {P : List Fn} {f n ce pa dv : Nat} {H : Hp} {Q : V → Hp → Prop} {X : Nat → Hp → Prop}
/-- the lowest form of a by b -/
structure Low (k : Nat) (p q : Int) : Prop where
  top : Sm k p
  bot : Sm k q
  pos : 0 < q
  one : p.gcd q = 1
theorem low_of {k : Nat} {a b p q : Int} (ha : Sm k a) (hb : Sm k b) (h0 : 0 < b) (e1 : p * (a.gcd b : Nat) = a) (e2 : q * (a.gcd b : Nat) = b) : Low k p q := by
  have hg : 0 < a.gcd b := Int.gcd_pos_of_ne_zero_right a (Int.ne_of_gt h0)
  have hg' : (0 : Int) < (a.gcd b : Nat) := Int.natCast_pos.mpr hg
  refine ⟨?_, ?_, ?_, ?_⟩
  · refine Nat.lt_of_le_of_lt ?_ ha
    rw [show a.natAbs = (p * (a.gcd b : Nat)).natAbs by rw [e1], Int.natAbs_mul, Int.natAbs_natCast]; exact Nat.le_mul_of_pos_right _ hg
  · refine Nat.lt_of_le_of_lt ?_ hb
    rw [show b.natAbs = (q * (a.gcd b : Nat)).natAbs by rw [e2], Int.natAbs_mul, Int.natAbs_natCast]; exact Nat.le_mul_of_pos_right _ hg
  · exact Int.pos_of_mul_pos_left (by rw [e2]; exact h0) hg'
  · have h : p.gcd q * a.gcd b = 1 * a.gcd b := by
      have := Int.gcd_mul_right p (a.gcd b : Nat) q
      rw [e1, e2, Int.natAbs_natCast] at this
      rw [← this, Nat.one_mul]
    exact Nat.eq_of_mul_eq_mul_right hg h
end
end Mine

set_option autoImplicit false
set_option linter.unusedVariables false
set_option linter.unusedSimpArgs false
set_option maxRecDepth 100000
namespace Mine
open PySem
/-! plain: the row by its divisor -/
noncomputable def gAll : List Int → Nat → Nat
  | [], g => g
  | x :: r, g => gAll r (Nat.gcd g x.natAbs)
theorem gAll_dvd : ∀ (r : List Int) (g : Nat), gAll r g ∣ g ∧ ∀ x ∈ r, gAll r g ∣ x.natAbs
  | [], g => ⟨Nat.dvd_refl _, fun x hx => nomatch hx⟩
  | y :: r, g => by
    obtain ⟨h1, h2⟩ := gAll_dvd r (Nat.gcd g y.natAbs)
    refine ⟨Nat.dvd_trans h1 (Nat.gcd_dvd_left _ _), fun x hx => ?_⟩
    rcases List.mem_cons.mp hx with rfl | hx
    · exact Nat.dvd_trans h1 (Nat.gcd_dvd_right _ _)
    · exact h2 x hx
theorem gAll_mul (c : Nat) : ∀ (r : List Int) (s : Int) (g : Nat), s.natAbs = c → gAll (r.map fun x => x * s) (g * c) = gAll r g * c
  | [], s, g, _ => rfl
  | x :: r, s, g, h => by
    show gAll (r.map fun x => x * s) (Nat.gcd (g * c) (x * s).natAbs) = _
    rw [Int.natAbs_mul, h, Nat.gcd_mul_right, gAll_mul c r s _ h]; rfl
/-- the divisor with the last one's sign -/
noncomputable def gOf (r : List Int) (l : Int) : Int := if l < 0 then -(gAll r 0 : Int) else (gAll r 0 : Int)
noncomputable def redI (r : List Int) (l : Int) : List Int := r.map fun x => x.fdiv (gOf r l)
theorem gOf_abs {r : List Int} {l : Int} : (gOf r l).natAbs = gAll r 0 := by unfold gOf; split <;> omega
theorem gAll_pos {r : List Int} {l : Int} (hl : l ∈ r) (h0 : l ≠ 0) : 0 < gAll r 0 := Nat.pos_of_dvd_of_pos ((gAll_dvd r 0).2 l hl) (Int.natAbs_pos.mpr h0)
theorem gOf_ne {r : List Int} {l : Int} (hl : l ∈ r) (h0 : l ≠ 0) : gOf r l ≠ 0 := by
  have := gAll_pos hl h0
  have h := @gOf_abs r l
  intro e; rw [e] at h; simp at h; (clear hl h0 e; omega)
theorem gOf_dvd {r : List Int} {l x : Int} (hx : x ∈ r) : gOf r l ∣ x := Int.natAbs_dvd_natAbs.mp (by rw [gOf_abs]; exact (gAll_dvd r 0).2 x hx)
theorem redI_mul {r : List Int} {l : Int} : (redI r l).map (fun x => x * gOf r l) = r := by
  unfold redI
  rw [List.map_map]
  conv => rhs; rw [← List.map_id r]
  apply List.map_congr_left
  intro x hx
  exact Int.fdiv_mul_cancel (gOf_dvd hx)
theorem redI_len {r : List Int} {l : Int} : (redI r l).length = r.length := List.length_map ..
theorem redI_gcd {r : List Int} {l : Int} (hl : l ∈ r) (h0 : l ≠ 0) : gAll (redI r l) 0 = 1 := by
  have h := gAll_mul (gOf r l).natAbs (redI r l) (gOf r l) 0 rfl
  rw [redI_mul, Nat.zero_mul, gOf_abs] at h
  exact (Nat.eq_of_mul_eq_mul_right (gAll_pos hl h0) (by rw [Nat.one_mul]; exact h)).symm
theorem redI_last {r : List Int} {l : Int} (hl : l ∈ r) (h0 : l ≠ 0) : 0 < l.fdiv (gOf r l) := by
  have hg := gAll_pos hl h0
  have e := Int.fdiv_mul_cancel (gOf_dvd (l := l) hl)
  by_cases h : l < 0
  · have hg0 : gOf r l < 0 := by unfold gOf; rw [if_pos h]; (clear hl h0 e h; omega)
    exact Int.not_le.mp fun hle => by
      have := Int.mul_nonneg_of_nonpos_of_nonpos hle (Int.le_of_lt hg0)
      rw [e] at this; (clear hl h0 hg e hg0 hle; omega)
  · have hg0 : 0 < gOf r l := by unfold gOf; rw [if_neg h]; (clear hl h0 e h; omega)
    exact Int.pos_of_mul_pos_left (by rw [e]; (clear hl hg e hg0; omega)) hg0
/-- a row by its divisor stays -/
theorem redI_one {r : List Int} {l : Int} (h : gAll r 0 = 1) (hl : 0 < l) : redI r l = r := by
  have hg : gOf r l = 1 := by unfold gOf; rw [if_neg (by (clear h; omega)), h]; rfl
  unfold redI
  rw [hg]
  conv => rhs; rw [← List.map_id r]
  apply List.map_congr_left
  intro x _
  exact Int.fdiv_one x
theorem redI_sm {r : List Int} {l : Int} {k : Nat} (hl : l ∈ r) (h0 : l ≠ 0) (h : AllSm k r) : AllSm k (redI r l) := fun x hx => by
  obtain ⟨y, hy, rfl⟩ := List.mem_map.mp hx
  refine Nat.lt_of_le_of_lt ?_ (h y hy)
  have e := Int.fdiv_mul_cancel (gOf_dvd (l := l) hy)
  have := gAll_pos hl h0
  rw [show y.natAbs = (y.fdiv (gOf r l) * gOf r l).natAbs by rw [e], Int.natAbs_mul, gOf_abs]
  exact Nat.le_mul_of_pos_right _ this

theorem smul_eq {g : Int} {r : List Int} : (r.map fun x => x * g) = smul g r := List.map_congr_left fun x _ => Int.mul_comm x g
section
variable {sub : Nat → Nat → Bool} {P : List Fn} {f n dv pa : Nat} {H : Hp} {Q : V → Hp → Prop} {X : Nat → Hp → Prop}
noncomputable def bPDiv : PS := (.seq (.assign 0 (.bi .abs (.cons (.var 0) .nil)))
 (.seq (.assign 1 (.bi .abs (.cons (.var 1) .nil)))
 (.seq (.whl (.cmp .gt (.var 1) (.cint 0)) (.seq (.assign 2 (.bin .mod (.var 0) (.var 1))) (.seq (.assign 0 (.var 1)) (.seq (.assign 1 (.var 2)) .skip))))
 (.seq (.ret (.var 0)) .skip))))
theorem s_pdiv (e : P[f]? = some ⟨2, 3, bPDiv⟩) {a b : Int} (hQ : Q (.int (a.gcd b : Nat)) H) : callN sub P (n + 1) f [.int a, .int b] H Q X := by
  refine callN_mk e rfl ?_
  dsimp only [bPDiv, qS1, qS2, qS3, qS4, qS5, qS6, qS7, qS8, qS9, qS10, qS11, qS12, qS13, qS14, qS15, qS16, qS17, qS18, qE1, qE2, qE3, qE4, qE5, qE6, qE7, qE8, qE9, qE10, qE11, qE12, qE13, qE14, qE15, qE16, qE17, qE18, qE19, qE20, qE21, qE22, qEs1, qEs2, wpAll, qO1, qO2, qI1, qI2, qI3, w_add, w_addl, w_sub, w_mul, w_mull, w_fdiv, w_mod, w_pow, w_lt, w_le, w_gt, w_ge, w_eq, w_ne, w_eqt, w_eql, w_net, w_nel, w_isn, w_ist, w_isi, w_isl, w_abs, w_lent, w_lenl, w_intb, w_list, w_tuple, w_min, w_idxt0, w_idxt1, w_idxu0, w_idxu1, w_idxu2, w_idxl, w_slcl, w_slct, w_tb, w_ti, w_tn, w_tt, w_tl, w_itt, w_itl, w_bindT1, w_bindT2, w_srcl, w_srct, w_cut2, w_cut1, w_cut1', w_cut0, w_ty1, w_ty2, w_ty3, w_ty4, w_ty5, w_ty6, w_ty7, w_ty8, w_ty9, w_ty10, w_ty11, w_ty12, w_ty13, w_ty14, w_ty15, w_ty16, w_ty17, w_ty18, w_ty19, w_ty20, w_ty21, w_mapc, w_mapn, w_appc, w_appn, w_repc, w_repn, w_start, w_lenc, w_ifT, w_ifF, w_ifFF, w_ifTF, w_nT, w_nF, w_anyT, w_anyF, w_d22, ifSome_some, ifLst_lst, ifTup_tup, ifInt_int, lget, lset, lsets, Nat.reduceSub, Nat.reduceAdd, List.length_nil, ↓reduceIte]
  have ha : ∀ x : Int, (if x < 0 then -x else x) = (x.natAbs : Int) := fun x => by split <;> (clear e hQ; omega)
  rw [ha, ha]
  refine ⟨fun ρ H' => ∃ x y : Nat, ∃ o, ρ = [some (.int x), some (.int y), o] ∧ H' = H ∧ x.gcd y = a.gcd b, fun ρ _ => natAt ρ 1, ⟨a.natAbs, b.natAbs, _, rfl, rfl, rfl⟩, ?_⟩
  rintro ρ H' ⟨x, y, o, rfl, rfl, hg⟩
  dsimp only [qS1, qS2, qS3, qS4, qS5, qS6, qS7, qS8, qS9, qS10, qS11, qS12, qS13, qS14, qS15, qS16, qS17, qS18, qE1, qE2, qE3, qE4, qE5, qE6, qE7, qE8, qE9, qE10, qE11, qE12, qE13, qE14, qE15, qE16, qE17, qE18, qE19, qE20, qE21, qE22, qEs1, qEs2, wpAll, qO1, qO2, qI1, qI2, qI3, w_add, w_addl, w_sub, w_mul, w_mull, w_fdiv, w_mod, w_pow, w_lt, w_le, w_gt, w_ge, w_eq, w_ne, w_eqt, w_eql, w_net, w_nel, w_isn, w_ist, w_isi, w_isl, w_abs, w_lent, w_lenl, w_intb, w_list, w_tuple, w_min, w_idxt0, w_idxt1, w_idxu0, w_idxu1, w_idxu2, w_idxl, w_slcl, w_slct, w_tb, w_ti, w_tn, w_tt, w_tl, w_itt, w_itl, w_bindT1, w_bindT2, w_srcl, w_srct, w_cut2, w_cut1, w_cut1', w_cut0, w_ty1, w_ty2, w_ty3, w_ty4, w_ty5, w_ty6, w_ty7, w_ty8, w_ty9, w_ty10, w_ty11, w_ty12, w_ty13, w_ty14, w_ty15, w_ty16, w_ty17, w_ty18, w_ty19, w_ty20, w_ty21, w_mapc, w_mapn, w_appc, w_appn, w_repc, w_repn, w_start, w_lenc, w_ifT, w_ifF, w_ifFF, w_ifTF, w_nT, w_nF, w_anyT, w_anyF, w_d22, ifSome_some, ifLst_lst, ifTup_tup, ifInt_int, lget, lset, lsets, Nat.reduceSub, Nat.reduceAdd, List.length_nil, ↓reduceIte]
  by_cases hy : y = 0
  · subst hy
    rw [Nat.gcd_zero_right] at hg
    subst hg
    exact hQ
  · have h0 : (0 : Int) < (y : Int) := Int.natCast_pos.mpr (Nat.pos_of_ne_zero hy)
    rw [decide_eq_true h0]
    refine ⟨Int.ne_of_gt h0, ⟨y, x % y, some (.int ((x : Int).fmod (y : Int))), ?_, rfl, ?_⟩, fmod_natAbs_lt (Int.ne_of_gt h0)⟩
    · rw [show ((x % y : Nat) : Int) = (x : Int).fmod (y : Int) by rw [Int.fmod_eq_emod_of_nonneg _ (Int.le_of_lt h0)]; rfl]
    · rw [← hg, Nat.gcd_comm x y, Nat.gcd_rec y x, Nat.gcd_comm]
/-! the sign at a part -/
/-! the row by its divisor, list or tuple; both texts -/
noncomputable def zRed : PE := (.comp (.bin .fdiv (.var 0) (.var 1)) 1 [1] (.seq (.var 0)) .no)
noncomputable def lRed (dv : Nat) : PS := (.seq (.assign 1 (.call dv (.cons (.var 1) (.cons (.var 2) .nil)))) .skip)
noncomputable def bRed (dv : Nat) (ng : PE) : PS := (.seq (.assign 1 (.cint 0))
 (.seq (.forr 2 (.seq (.var 0)) (lRed dv))
 (.seq (.ite (.cmp .lt (.idx (.var 0) (.neg (.cint 1))) (.cint 0)) (.seq (.assign 1 ng) .skip) .skip)
 (.seq (.ret zRed) .skip))))
theorem s_red {ng : PE} (hng : ∀ (g : Int) (ρ : Loc) (H' : Hp) (Z : V → Hp → Prop), lget ρ 1 = some (.int g) → Z (.int (-g)) H' → wpE sub (callN sub P n) ng ρ H' Z) (e : P[f]? = some ⟨1, 3, bRed dv ng⟩)
    (ed : ∀ (a b : Int) (H' : Hp) (Z : V → Hp → Prop) (X' : Nat → Hp → Prop), Z (.int (a.gcd b : Nat)) H' → callN sub P n dv [.int a, .int b] H' Z X') {v : V} {row : List Int} {l : Int} (hv : items H v = some (row.map .int)) (hlast : row.getLast? = some l) (h0 : l ≠ 0) (hl : row.length ≤ 1000)
    (hQ : Q (.lst H.length) (H ++ [(redI row l).map .int])) : callN sub P (n + 1) f [v] H Q X := by
  have hmem : l ∈ row := List.mem_of_getLast? hlast
  refine callN_mk e rfl ?_
  dsimp only [bRed, qS1, qS2, qS3, qS4, qS5, qS6, qS7, qS8, qS9, qS10, qS11, qS12, qS13, qS14, qS15, qS16, qS17, qS18, qE1, qE2, qE3, qE4, qE5, qE6, qE7, qE8, qE9, qE10, qE11, qE12, qE13, qE14, qE15, qE16, qE17, qE18, qE19, qE20, qE21, qE22, qEs1, qEs2, wpAll, qO1, qO2, qI1, qI2, qI3, w_add, w_addl, w_sub, w_mul, w_mull, w_fdiv, w_mod, w_pow, w_lt, w_le, w_gt, w_ge, w_eq, w_ne, w_eqt, w_eql, w_net, w_nel, w_isn, w_ist, w_isi, w_isl, w_abs, w_lent, w_lenl, w_intb, w_list, w_tuple, w_min, w_idxt0, w_idxt1, w_idxu0, w_idxu1, w_idxu2, w_idxl, w_slcl, w_slct, w_tb, w_ti, w_tn, w_tt, w_tl, w_itt, w_itl, w_bindT1, w_bindT2, w_srcl, w_srct, w_cut2, w_cut1, w_cut1', w_cut0, w_ty1, w_ty2, w_ty3, w_ty4, w_ty5, w_ty6, w_ty7, w_ty8, w_ty9, w_ty10, w_ty11, w_ty12, w_ty13, w_ty14, w_ty15, w_ty16, w_ty17, w_ty18, w_ty19, w_ty20, w_ty21, w_mapc, w_mapn, w_appc, w_appn, w_repc, w_repn, w_start, w_lenc, w_ifT, w_ifF, w_ifFF, w_ifTF, w_nT, w_nF, w_anyT, w_anyF, w_d22, ifSome_some, ifLst_lst, ifTup_tup, ifInt_int, lget, lset, lsets, Nat.reduceSub, Nat.reduceAdd, List.length_nil, ↓reduceIte]
  refine ifSome.mk hv ?_
  refine forGo_rule (fun rest ρ H' => ∃ td g o, rest = (td : List Int).map V.int ∧ ρ = [some v, some (.int ((g : Nat) : Int)), o] ∧ H' = H ∧ gAll td g = gAll row 0) ?_ ?_ _ _ _ ⟨row, 0, _, rfl, rfl, rfl, rfl⟩
  · rintro x xs ρ H' k ⟨td, g, o, hx, rfl, rfl, hg⟩ hk
    cases td with
    | nil => cases hx
    | cons y td =>
      cases hx
      dsimp only [lRed, qS1, qS2, qS3, qS4, qS5, qS6, qS7, qS8, qS9, qS10, qS11, qS12, qS13, qS14, qS15, qS16, qS17, qS18, qE1, qE2, qE3, qE4, qE5, qE6, qE7, qE8, qE9, qE10, qE11, qE12, qE13, qE14, qE15, qE16, qE17, qE18, qE19, qE20, qE21, qE22, qEs1, qEs2, wpAll, qO1, qO2, qI1, qI2, qI3, w_add, w_addl, w_sub, w_mul, w_mull, w_fdiv, w_mod, w_pow, w_lt, w_le, w_gt, w_ge, w_eq, w_ne, w_eqt, w_eql, w_net, w_nel, w_isn, w_ist, w_isi, w_isl, w_abs, w_lent, w_lenl, w_intb, w_list, w_tuple, w_min, w_idxt0, w_idxt1, w_idxu0, w_idxu1, w_idxu2, w_idxl, w_slcl, w_slct, w_tb, w_ti, w_tn, w_tt, w_tl, w_itt, w_itl, w_bindT1, w_bindT2, w_srcl, w_srct, w_cut2, w_cut1, w_cut1', w_cut0, w_ty1, w_ty2, w_ty3, w_ty4, w_ty5, w_ty6, w_ty7, w_ty8, w_ty9, w_ty10, w_ty11, w_ty12, w_ty13, w_ty14, w_ty15, w_ty16, w_ty17, w_ty18, w_ty19, w_ty20, w_ty21, w_mapc, w_mapn, w_appc, w_appn, w_repc, w_repn, w_start, w_lenc, w_ifT, w_ifF, w_ifFF, w_ifTF, w_nT, w_nF, w_anyT, w_anyF, w_d22, ifSome_some, ifLst_lst, ifTup_tup, ifInt_int, lget, lset, lsets, Nat.reduceSub, Nat.reduceAdd, List.length_nil, ↓reduceIte]
      refine ed _ _ _ _ _ ?_
      exact hk _ _ ⟨td, Nat.gcd g y.natAbs, _, rfl, rfl, rfl, hg⟩
  · rintro ρ H' ⟨td, g, o, hx, rfl, rfl, hg⟩
    cases td with
    | cons y td => cases hx
    | nil =>
      have hg' : g = gAll row 0 := hg
      have hrl : 1 ≤ (row.map V.int).length := by rw [List.length_map]; exact List.length_pos_of_mem hmem
      have hgp := gAll_pos hmem h0
      have hok : DivOk (gOf row l) := gOf_ne hmem h0
      have key : ∀ o', wpE sub (callN sub P n) zRed [some v, some (.int (gOf row l)), o'] H' Q := fun o' => by
        dsimp only [zRed, qE1, qE2, qE3, qE4, qE5, qE6, qE7, qE8, qE9, qE10, qE11, qE12, qE13, qE14, qE15, qE16, qE17, qE18, qE19, qE20, qE21, qE22, qI1, qI2, qI3, lget, ifSome_some]
        refine ifSome.mk hv ⟨by rw [List.length_map]; unfold lim; (clear hng e ed hlast h0 hmem hv hQ hx hg hg' hrl hgp hok; omega), ?_⟩
        refine compGo_map (g := fun x => match x with | .int y => V.int (y.fdiv (gOf row l)) | x => x) (fun x hx k hk => ?_) ?_
        · obtain ⟨y, _, rfl⟩ := List.mem_map.mp hx
          exact ⟨hok, hk⟩
        · rw [List.map_map]
          unfold redI at hQ
          rw [List.map_map] at hQ
          exact hQ
      dsimp only [qS1, qS2, qS3, qS4, qS5, qS6, qS7, qS8, qS9, qS10, qS11, qS12, qS13, qS14, qS15, qS16, qS17, qS18, qE1, qE2, qE3, qE4, qE5, qE6, qE7, qE8, qE9, qE10, qE11, qE12, qE13, qE14, qE15, qE16, qE17, qE18, qE19, qE20, qE21, qE22, qEs1, qEs2, wpAll, qO1, qO2, qI1, qI2, qI3, w_add, w_addl, w_sub, w_mul, w_mull, w_fdiv, w_mod, w_pow, w_lt, w_le, w_gt, w_ge, w_eq, w_ne, w_eqt, w_eql, w_net, w_nel, w_isn, w_ist, w_isi, w_isl, w_abs, w_lent, w_lenl, w_intb, w_list, w_tuple, w_min, w_idxt0, w_idxt1, w_idxu0, w_idxu1, w_idxu2, w_idxl, w_slcl, w_slct, w_tb, w_ti, w_tn, w_tt, w_tl, w_itt, w_itl, w_bindT1, w_bindT2, w_srcl, w_srct, w_cut2, w_cut1, w_cut1', w_cut0, w_ty1, w_ty2, w_ty3, w_ty4, w_ty5, w_ty6, w_ty7, w_ty8, w_ty9, w_ty10, w_ty11, w_ty12, w_ty13, w_ty14, w_ty15, w_ty16, w_ty17, w_ty18, w_ty19, w_ty20, w_ty21, w_mapc, w_mapn, w_appc, w_appn, w_repc, w_repn, w_start, w_lenc, w_ifT, w_ifF, w_ifFF, w_ifTF, w_nT, w_nF, w_anyT, w_anyF, w_d22, ifSome_some, ifLst_lst, ifTup_tup, ifInt_int, lget, lset, lsets, Nat.reduceSub, Nat.reduceAdd, List.length_nil, ↓reduceIte, w_idxg]
      refine ifSome.mk hv (ifSome.mk (place_last hrl) (ifSome.mk (v := .int l) ?_ ?_))
      · rw [List.length_map, List.getElem?_map, ← List.getLast?_eq_getElem?, hlast]; rfl
      by_cases hn : l < 0
      · dsimp only [qS1, qS2, qS3, qS4, qS5, qS6, qS7, qS8, qS9, qS10, qS11, qS12, qS13, qS14, qS15, qS16, qS17, qS18, qE1, qE2, qE3, qE4, qE5, qE6, qE7, qE8, qE9, qE10, qE11, qE12, qE13, qE14, qE15, qE16, qE17, qE18, qE19, qE20, qE21, qE22, qEs1, qEs2, wpAll, qO1, qO2, qI1, qI2, qI3, w_add, w_addl, w_sub, w_mul, w_mull, w_fdiv, w_mod, w_pow, w_lt, w_le, w_gt, w_ge, w_eq, w_ne, w_eqt, w_eql, w_net, w_nel, w_isn, w_ist, w_isi, w_isl, w_abs, w_lent, w_lenl, w_intb, w_list, w_tuple, w_min, w_idxt0, w_idxt1, w_idxu0, w_idxu1, w_idxu2, w_idxl, w_slcl, w_slct, w_tb, w_ti, w_tn, w_tt, w_tl, w_itt, w_itl, w_bindT1, w_bindT2, w_srcl, w_srct, w_cut2, w_cut1, w_cut1', w_cut0, w_ty1, w_ty2, w_ty3, w_ty4, w_ty5, w_ty6, w_ty7, w_ty8, w_ty9, w_ty10, w_ty11, w_ty12, w_ty13, w_ty14, w_ty15, w_ty16, w_ty17, w_ty18, w_ty19, w_ty20, w_ty21, w_mapc, w_mapn, w_appc, w_appn, w_repc, w_repn, w_start, w_lenc, w_ifT, w_ifF, w_ifFF, w_ifTF, w_nT, w_nF, w_anyT, w_anyF, w_d22, ifSome_some, ifLst_lst, ifTup_tup, ifInt_int, lget, lset, lsets, Nat.reduceSub, Nat.reduceAdd, List.length_nil, ↓reduceIte]
        rw [decide_eq_true hn]
        refine hng g _ _ _ rfl ?_
        have : gOf row l = -(g : Int) := by unfold gOf; rw [if_pos hn, hg']
        rw [this] at key
        exact key _
      · dsimp only [qS1, qS2, qS3, qS4, qS5, qS6, qS7, qS8, qS9, qS10, qS11, qS12, qS13, qS14, qS15, qS16, qS17, qS18, qE1, qE2, qE3, qE4, qE5, qE6, qE7, qE8, qE9, qE10, qE11, qE12, qE13, qE14, qE15, qE16, qE17, qE18, qE19, qE20, qE21, qE22, qEs1, qEs2, wpAll, qO1, qO2, qI1, qI2, qI3, w_add, w_addl, w_sub, w_mul, w_mull, w_fdiv, w_mod, w_pow, w_lt, w_le, w_gt, w_ge, w_eq, w_ne, w_eqt, w_eql, w_net, w_nel, w_isn, w_ist, w_isi, w_isl, w_abs, w_lent, w_lenl, w_intb, w_list, w_tuple, w_min, w_idxt0, w_idxt1, w_idxu0, w_idxu1, w_idxu2, w_idxl, w_slcl, w_slct, w_tb, w_ti, w_tn, w_tt, w_tl, w_itt, w_itl, w_bindT1, w_bindT2, w_srcl, w_srct, w_cut2, w_cut1, w_cut1', w_cut0, w_ty1, w_ty2, w_ty3, w_ty4, w_ty5, w_ty6, w_ty7, w_ty8, w_ty9, w_ty10, w_ty11, w_ty12, w_ty13, w_ty14, w_ty15, w_ty16, w_ty17, w_ty18, w_ty19, w_ty20, w_ty21, w_mapc, w_mapn, w_appc, w_appn, w_repc, w_repn, w_start, w_lenc, w_ifT, w_ifF, w_ifFF, w_ifTF, w_nT, w_nF, w_anyT, w_anyF, w_d22, ifSome_some, ifLst_lst, ifTup_tup, ifInt_int, lget, lset, lsets, Nat.reduceSub, Nat.reduceAdd, List.length_nil, ↓reduceIte]
        rw [decide_eq_false hn]
        have : gOf row l = (g : Int) := by unfold gOf; rw [if_neg hn, hg']
        rw [this] at key
        exact key _
end
end Mine

set_option autoImplicit false
set_option linter.unusedVariables false
set_option linter.unusedSimpArgs false
set_option maxRecDepth 100000
namespace Mine
open PySem
section
variable {sub : Nat → Nat → Bool} {P : List Fn} {f n dv pa : Nat} {H : Hp} {Q : V → Hp → Prop} {X : Nat → Hp → Prop}
theorem compGo_none {step : V → Hp → (Option V → Hp → Prop) → Prop} {H : Hp} : ∀ {xs : List V} {Q : List V → Hp → Prop}, (∀ x ∈ xs, ∀ k : Option V → Hp → Prop, k none H → step x H k) → Q [] H → compGo step xs H Q
  | [], _, _, h => h
  | x :: xs, Q, hs, h => hs x List.mem_cons_self _ (compGo_none (fun y hy => hs y (List.mem_cons_of_mem _ hy)) h)
end
end Mine

set_option autoImplicit false
set_option linter.unusedVariables false
namespace Mine

/-! rows as polynomials: lists are equal when their values are -/
noncomputable def hc (a0 a1 b0 b1 : Int) : List Int → List Int
  | [] => []
  | c :: r => addL (mulG a0 a1 0 (hc a0 a1 b0 b1 r)) (smul c (mulN b0 b1 r.length [1]))
theorem smul_len {c : Int} {xs : List Int} : (smul c xs).length = xs.length := List.length_map ..
theorem hval_addL (p q : Int) : ∀ {xs ys : List Int}, xs.length = ys.length → hval p q (addL xs ys) = hval p q xs + hval p q ys
  | [], [], _ => rfl
  | x :: r, y :: t, h => by
    have h' : r.length = t.length := Nat.succ.inj h
    show hval p q (addL r t) * p + (x + y) * q ^ (addL r t).length = (hval p q r * p + x * q ^ r.length) + (hval p q t * p + y * q ^ t.length)
    rw [hval_addL p q h', addL_len h', h']; grind
theorem hval_smul (p q c : Int) : ∀ {xs : List Int}, hval p q (smul c xs) = c * hval p q xs
  | [] => by simp [smul, hval]
  | x :: r => by
    show hval p q (smul c r) * p + (c * x) * q ^ (smul c r).length = c * (hval p q r * p + x * q ^ r.length)
    rw [hval_smul p q c, smul_len]; grind
/-- equal values at all whole numbers: equal rows -/
theorem hval_cons1 (t c : Int) (r : List Int) : hval t 1 (c :: r) = hval t 1 r * t + c := by
  show hval t 1 r * t + c * 1 ^ r.length = _
  rw [Int.one_pow, Int.mul_one]
theorem zero_of_vals : ∀ {xs : List Int}, (∀ t : Int, t ≠ 0 → hval t 1 xs = 0) → ∀ x ∈ xs, x = 0
  | [], _, x, hx => nomatch hx
  | c :: r, h, x, hx => by
    have h' : ∀ t : Int, t ≠ 0 → hval t 1 r * t + c = 0 := fun t ht => by rw [← hval_cons1]; exact h t ht
    have hc : c = 0 := by
      have h1 := h' (c.natAbs + 1) (by (clear h hx h'; omega))
      have hd : ((c.natAbs : Int) + 1) ∣ c := ⟨-(hval (c.natAbs + 1) 1 r), by grind⟩
      exact Classical.byContradiction fun h0 => by
        have h2 := Nat.le_of_dvd (Int.natAbs_pos.mpr h0) (Int.natAbs_dvd_natAbs.mpr hd)
        (clear h hx h' h1 hd h0; omega)
    have hr : ∀ t : Int, t ≠ 0 → hval t 1 r = 0 := fun t ht => by
      have h1 := h' t ht
      rw [hc, Int.add_zero] at h1
      exact (Int.mul_eq_zero.mp h1).resolve_right ht
    rcases List.mem_cons.mp hx with rfl | hx
    · exact hc
    · exact zero_of_vals hr x hx
theorem ext_vals : ∀ {xs ys : List Int}, xs.length = ys.length → (∀ t : Int, hval t 1 xs = hval t 1 ys) → xs = ys := fun {xs ys} hl h => by
  have hz : ∀ x ∈ addL xs (smul (-1) ys), x = 0 := zero_of_vals fun t _ => by
    rw [hval_addL t 1 (by rw [smul_len, hl]), hval_smul, h t]; (clear hl h; omega)
  clear h
  induction xs generalizing ys with
  | nil => cases ys with
    | nil => rfl
    | cons y t => cases hl
  | cons x r ih => cases ys with
    | nil => cases hl
    | cons y t =>
      have h1 : x + -1 * y = 0 := hz _ List.mem_cons_self
      have h2 : r = t := ih (Nat.succ.inj hl) fun z hz' => hz z (List.mem_cons_of_mem _ hz')
      rw [h2]; congr 1; (clear ih hl hz h2; omega)
/-! reversal -/
theorem hval_snoc (p q c : Int) : ∀ {xs : List Int}, hval p q (xs ++ [c]) = hval p q xs * q + c * p ^ xs.length
  | [] => by
    show 0 * p + c * q ^ 0 = 0 * q + c * p ^ 0
    grind
  | x :: r => by
    show hval p q (r ++ [c]) * p + x * q ^ (r ++ [c]).length = (hval p q r * p + x * q ^ r.length) * q + c * p ^ (r.length + 1)
    rw [hval_snoc p q c, List.length_append, List.length_singleton, Int.pow_succ, Int.pow_succ]; grind
/-! one turn at most, upwards -/
noncomputable def Up (xs : List Int) : Prop := xs.Pairwise fun x y => 0 < x → 0 ≤ y
noncomputable def NN (xs : List Int) : Prop := ∀ x ∈ xs, 0 ≤ x
end Mine

set_option autoImplicit false
set_option linter.unusedVariables false
namespace Mine

/-! rows as polynomials over whole numbers, by their values -/
noncomputable def ev (xs : List Int) (t : Int) : Int := hval t 1 xs
theorem ev_nil (t : Int) : ev [] t = 0 := rfl
theorem ev_cons (c : Int) (r : List Int) (t : Int) : ev (c :: r) t = c + t * ev r t := by
  unfold ev; rw [hval_cons1]; grind
noncomputable def addP : List Int → List Int → List Int
  | [], ys => ys
  | x :: xs, [] => x :: xs
  | x :: xs, y :: ys => (x + y) :: addP xs ys
theorem ev_addP (t : Int) : ∀ xs ys : List Int, ev (addP xs ys) t = ev xs t + ev ys t
  | [], ys => by rw [addP, ev_nil]; omega
  | x :: xs, [] => by rw [addP, ev_nil]; omega
  | x :: xs, y :: ys => by rw [addP, ev_cons, ev_cons, ev_cons, ev_addP t xs ys]; grind
theorem ev_smul (c t : Int) (xs : List Int) : ev (smul c xs) t = c * ev xs t := hval_smul t 1 c
noncomputable def mulP : List Int → List Int → List Int
  | [], _ => []
  | x :: r, ys => addP (smul x ys) (0 :: mulP r ys)
theorem ev_mulP (t : Int) : ∀ xs ys : List Int, ev (mulP xs ys) t = ev xs t * ev ys t
  | [], ys => by rw [mulP, ev_nil]; omega
  | x :: r, ys => by rw [mulP, ev_addP, ev_smul, ev_cons, ev_cons, ev_mulP t r ys]; grind
theorem addP_len : ∀ xs ys : List Int, (addP xs ys).length = max xs.length ys.length
  | [], ys => by rw [addP]; simp
  | x :: xs, [] => by rw [addP]; simp
  | x :: xs, y :: ys => by rw [addP, List.length_cons, addP_len xs ys, List.length_cons, List.length_cons]; omega
theorem mulP_len : ∀ {xs ys : List Int}, xs ≠ [] → ys ≠ [] → (mulP xs ys).length + 1 = xs.length + ys.length
  | [], _, h, _ => absurd rfl h
  | [x], ys, _, h => by
    have := List.length_pos_iff.mpr h
    rw [mulP, addP_len, smul_len, mulP]; simp; (clear h; omega)
  | x :: y :: r, ys, _, h => by
    have ih := @mulP_len (y :: r) ys (List.cons_ne_nil _ _) h
    rw [mulP, addP_len, smul_len, List.length_cons, List.length_cons]; (clear h; omega)

/-- rows without noughts at the end -/
noncomputable def Tr (xs : List Int) : Prop := ∃ l, xs.getLast? = some l ∧ l ≠ 0
theorem Tr.ne {xs : List Int} (h : Tr xs) : xs ≠ [] := by
  obtain ⟨l, e, _⟩ := h
  intro h; rw [h] at e; cases e
theorem Tr.tl {x y : Int} {xs : List Int} (h : Tr (x :: y :: xs)) : Tr (y :: xs) := by
  obtain ⟨l, e, h⟩ := h
  rw [List.getLast?_cons_cons] at e; exact ⟨l, e, h⟩
theorem Tr.cons {x : Int} {xs : List Int} (h : Tr xs) : Tr (x :: xs) := by
  obtain ⟨l, e, h⟩ := h
  cases xs with
  | nil => cases e
  | cons y r => exact ⟨l, by rw [List.getLast?_cons_cons]; exact e, h⟩
theorem Tr.one {x : Int} (h : x ≠ 0) : Tr [x] := ⟨x, rfl, h⟩
theorem Tr.of_one {x : Int} (h : Tr [x]) : x ≠ 0 := by obtain ⟨l, e, h⟩ := h; cases e; exact h
theorem Tr.mem {xs : List Int} (h : Tr xs) : ∃ x ∈ xs, x ≠ 0 := by
  obtain ⟨l, e, h⟩ := h
  exact ⟨l, List.mem_of_getLast? e, h⟩
theorem tr_smul {c : Int} (hc : c ≠ 0) {xs : List Int} (h : Tr xs) : Tr (smul c xs) := by
  obtain ⟨l, e, h⟩ := h
  refine ⟨c * l, ?_, Int.mul_ne_zero hc h⟩
  unfold smul; rw [List.getLast?_map, e]; rfl
theorem ev_zero {xs : List Int} (h : ∀ t, ev xs t = 0) : ∀ x ∈ xs, x = 0 := zero_of_vals fun t _ => h t
theorem Tr.nz {xs : List Int} (h : Tr xs) : ∃ t, ev xs t ≠ 0 := Classical.byContradiction fun hn => by
  obtain ⟨x, hx, h0⟩ := h.mem
  exact h0 (ev_zero (fun t => Classical.byContradiction fun ht => hn ⟨t, ht⟩) x hx)
/-- rows of equal values, without noughts at the end, are equal -/
theorem ext_tr : ∀ {xs ys : List Int}, (xs = [] ∨ Tr xs) → (ys = [] ∨ Tr ys) → (∀ t, ev xs t = ev ys t) → xs = ys := fun {xs ys} hx hy h => by
  have hz : ∀ z ∈ addP xs (smul (-1) ys), z = 0 := ev_zero fun t => by rw [ev_addP, ev_smul, h]; (clear hx hy h; omega)
  clear h
  induction xs generalizing ys with
  | nil =>
    rcases hy with rfl | hy
    · rfl
    · obtain ⟨z, h1, h2⟩ := (tr_smul (c := -1) (by decide) hy).mem
      exact absurd (hz z h1) h2
  | cons x r ih =>
    cases ys with
    | nil =>
      rcases hx with h | hx
      · cases h
      · obtain ⟨z, h1, h2⟩ := hx.mem
        exact absurd (hz z h1) h2
    | cons y s =>
      have h1 : x + -1 * y = 0 := hz _ List.mem_cons_self
      have h2 : r = s := ih (by
        cases r with
        | nil => exact .inl rfl
        | cons a b => exact .inr (hx.resolve_left (List.cons_ne_nil _ _)).tl) (by
        cases s with
        | nil => exact .inl rfl
        | cons a b => exact .inr (hy.resolve_left (List.cons_ne_nil _ _)).tl) fun z hz' => hz z (List.mem_cons_of_mem _ hz')
      rw [h2]; congr 1; (clear ih hx hy hz h2; omega)
theorem addP_last : ∀ {xs ys : List Int} {l : Int}, xs.length < ys.length → ys.getLast? = some l → (addP xs ys).getLast? = some l
  | [], ys, l, _, h => by rw [addP]; exact h
  | x :: xs, [], l, h, _ => absurd h (by simp)
  | x :: xs, [y], l, h, _ => absurd h (by simp)
  | x :: xs, y :: z :: ys, l, h, hl => by
    rw [addP]
    have ih := @addP_last xs (z :: ys) l (by simp at h ⊢; (clear hl; omega)) (by rw [List.getLast?_cons_cons] at hl; exact hl)
    cases e : addP xs (z :: ys) with
    | nil => rw [e] at ih; cases ih
    | cons a b => rw [List.getLast?_cons_cons, ← e]; exact ih
theorem mulP_last : ∀ {xs ys : List Int} {l m : Int}, xs.getLast? = some l → ys.getLast? = some m → (mulP xs ys).getLast? = some (l * m)
  | [], _, _, _, h, _ => by cases h
  | [x], ys, l, m, h, hm => by
    obtain rfl : x = l := Option.some.inj h
    have e : mulP [x] ys = smul x ys := by
      cases ys with
      | nil => cases hm
      | cons y r =>
        rw [mulP, mulP]
        show (x * y + 0) :: addP (smul x r) [] = x * y :: smul x r
        cases r with
        | nil => show [x * y + 0] = [x * y]; rw [Int.add_zero]
        | cons a b => show (x * y + 0) :: (x * a :: smul x b) = _; rw [Int.add_zero]; rfl
    rw [e]; unfold smul; rw [List.getLast?_map, hm]; rfl
  | x :: y :: r, ys, l, m, h, hm => by
    rw [List.getLast?_cons_cons] at h
    have ih := mulP_last h hm
    have hne : ys ≠ [] := by intro h; rw [h] at hm; cases hm
    have hl := @mulP_len (y :: r) ys (List.cons_ne_nil _ _) hne
    rw [mulP]
    refine addP_last ?_ ?_
    · rw [smul_len, List.length_cons]; rw [List.length_cons] at hl; (clear h hm ih hne; omega)
    · cases e : mulP (y :: r) ys with
      | nil => rw [e] at ih; cases ih
      | cons a b => rw [List.getLast?_cons_cons, ← e]; exact ih
theorem tr_mulP {xs ys : List Int} (h1 : Tr xs) (h2 : Tr ys) : Tr (mulP xs ys) := by
  obtain ⟨l, e, h⟩ := h1
  obtain ⟨m, e', h'⟩ := h2
  exact ⟨_, mulP_last e e', Int.mul_ne_zero h h'⟩

/-! polynomial functions -/
noncomputable def PF (f : Int → Int) : Prop := ∃ xs, ∀ t, f t = ev xs t
theorem PF.ev (xs : List Int) : PF (ev xs) := ⟨xs, fun _ => rfl⟩
theorem PF.const (c : Int) : PF (fun _ => c) := ⟨[c], fun t => by rw [ev_cons, ev_nil]; dsimp only; omega⟩
theorem PF.id : PF (fun t => t) := ⟨[0, 1], fun t => by rw [ev_cons, ev_cons, ev_nil]; dsimp only; omega⟩
theorem PF.add {f g : Int → Int} (h1 : PF f) (h2 : PF g) : PF (fun t => f t + g t) := by
  obtain ⟨xs, h1⟩ := h1
  obtain ⟨ys, h2⟩ := h2
  exact ⟨addP xs ys, fun t => by dsimp only; rw [ev_addP, h1, h2]⟩
theorem PF.mul {f g : Int → Int} (h1 : PF f) (h2 : PF g) : PF (fun t => f t * g t) := by
  obtain ⟨xs, h1⟩ := h1
  obtain ⟨ys, h2⟩ := h2
  exact ⟨mulP xs ys, fun t => by dsimp only; rw [ev_mulP, h1, h2]⟩
theorem PF.smul (c : Int) {f : Int → Int} (h1 : PF f) : PF (fun t => c * f t) := (PF.const c).mul h1
theorem PF.neg {f : Int → Int} (h1 : PF f) : PF (fun t => - f t) := by
  obtain ⟨xs, h1⟩ := h1
  exact ⟨Mine.smul (-1) xs, fun t => by dsimp only; rw [ev_smul, h1]; (clear h1; omega)⟩
theorem PF.sub {f g : Int → Int} (h1 : PF f) (h2 : PF g) : PF (fun t => f t - g t) := by
  obtain ⟨xs, h⟩ := h1.add h2.neg
  exact ⟨xs, fun t => by rw [← h]; dsimp only; (clear h1 h2 h; omega)⟩
theorem pf_pow : ∀ n : Nat, PF (fun t => t ^ n)
  | 0 => ⟨[1], fun t => by dsimp only; rw [ev_cons, ev_nil, Int.pow_zero]; omega⟩
  | n + 1 => by
    obtain ⟨xs, h⟩ := (pf_pow n).mul PF.id
    exact ⟨xs, fun t => by rw [← h]; exact Int.pow_succ _ _⟩
/-- the row without its noughts at the end -/
theorem trim : ∀ xs : List Int, ∃ ys, (ys = [] ∨ Tr ys) ∧ ∀ t, ev xs t = ev ys t
  | [] => ⟨[], .inl rfl, fun _ => rfl⟩
  | x :: r => by
    obtain ⟨ys, h, e⟩ := trim r
    rcases h with rfl | h
    · by_cases hx : x = 0
      · exact ⟨[], .inl rfl, fun t => by rw [ev_cons, e, hx, ev_nil]; (clear e hx; omega)⟩
      · exact ⟨[x], .inr (.one hx), fun t => by rw [ev_cons, ev_cons, e]⟩
    · exact ⟨x :: ys, .inr h.cons, fun t => by rw [ev_cons, ev_cons, e]⟩
theorem PF.tr {f : Int → Int} (h : PF f) (h0 : ∃ t, f t ≠ 0) : ∃ xs, Tr xs ∧ ∀ t, f t = Mine.ev xs t := by
  obtain ⟨xs, e⟩ := h
  obtain ⟨ys, h, e'⟩ := trim xs
  rcases h with rfl | h
  · obtain ⟨t, ht⟩ := h0
    exact absurd (by rw [e, e', ev_nil]) ht
  · exact ⟨ys, h, fun t => by rw [e, e']⟩
theorem pf_mul_nz {f g : Int → Int} (hf : PF f) (hg : PF g) (h1 : ∃ t, f t ≠ 0) (h2 : ∃ t, g t ≠ 0) : ∃ t, f t * g t ≠ 0 := by
  obtain ⟨xs, t1, e1⟩ := hf.tr h1
  obtain ⟨ys, t2, e2⟩ := hg.tr h2
  obtain ⟨t, ht⟩ := (tr_mulP t1 t2).nz
  exact ⟨t, by rw [ev_mulP] at ht; rw [e1, e2]; exact ht⟩
theorem pf_const {f g : Int → Int} (hf : PF f) (hg : PF g) {c : Int} (hc : c ≠ 0) (e : ∀ t, f t * g t = c) : ∃ a, a ≠ 0 ∧ ∀ t, f t = a := by
  have h1 : ∃ t, f t ≠ 0 := ⟨0, fun h => hc (by rw [← e 0, h, Int.zero_mul])⟩
  have h2 : ∃ t, g t ≠ 0 := ⟨0, fun h => hc (by rw [← e 0, h, Int.mul_zero])⟩
  obtain ⟨xs, t1, e1⟩ := hf.tr h1
  obtain ⟨ys, t2, e2⟩ := hg.tr h2
  have h3 : mulP xs ys = [c] := ext_tr (.inr (tr_mulP t1 t2)) (.inr (.one hc)) fun t => by rw [ev_mulP, ← e1, ← e2, e, ev_cons, ev_nil]; (clear hf hg hc e h1 h2 t1 e1 t2 e2; omega)
  have h4 := mulP_len t1.ne t2.ne
  rw [h3] at h4
  have h5 := List.length_pos_iff.mpr t2.ne
  have h6 := List.length_pos_iff.mpr t1.ne
  cases xs with
  | nil => cases h6
  | cons a r =>
    cases r with
    | cons b r => simp at h4; (clear hf hg hc e h1 h2 t2 e2 t1 e1 h3 h6; omega)
    | nil => exact ⟨a, t1.of_one, fun t => by rw [e1, ev_cons, ev_nil]; (clear hf hg hc e h1 h2 t2 e2 h5 t1 e1 h3 h4 h6; omega)⟩

/-! divisors -/
noncomputable def Dv (f g : Int → Int) : Prop := ∃ (c : Int) (h : Int → Int), c ≠ 0 ∧ PF h ∧ ∀ t, c * g t = f t * h t
theorem Dv.zero (f : Int → Int) : Dv f (fun _ => 0) := ⟨1, fun _ => 0, by decide, .const 0, fun t => by dsimp only; omega⟩
/-- a sum of multiples -/
theorem Dv.comb {f g h k u v : Int → Int} {c : Int} (h1 : Dv f g) (h2 : Dv f h) (pu : PF u) (pv : PF v) (hc : c ≠ 0) (e : ∀ t, c * k t = u t * g t + v t * h t) : Dv f k := by
  obtain ⟨a, x, ha, px, e1⟩ := h1
  obtain ⟨b, y, hb, py, e2⟩ := h2
  refine ⟨a * b * c, fun t => b * (u t * x t) + a * (v t * y t), Int.mul_ne_zero (Int.mul_ne_zero ha hb) hc, ((pu.mul px).smul b).add ((pv.mul py).smul a), fun t => ?_⟩
  have := e t; have := e1 t; have := e2 t; grind
/-- nothing in common -/
noncomputable def Cop (f g : Int → Int) : Prop := ∃ (c : Int) (u v : Int → Int), c ≠ 0 ∧ PF u ∧ PF v ∧ ∀ t, c = u t * f t + v t * g t
theorem Cop.symm {f g : Int → Int} (h : Cop f g) : Cop g f := by
  obtain ⟨c, u, v, hc, pu, pv, e⟩ := h
  exact ⟨c, v, u, hc, pv, pu, fun t => by have := e t; (clear hc pu pv e; omega)⟩
theorem Cop.mul {f g h : Int → Int} (pf : PF f) (pg : PF g) (ph : PF h) (h1 : Cop f g) (h2 : Cop f h) : Cop f (fun t => g t * h t) := by
  obtain ⟨c, u, v, hc, pu, pv, e⟩ := h1
  obtain ⟨d, x, y, hd, px, py, e'⟩ := h2
  refine ⟨c * d, fun t => u t * d + v t * g t * x t, fun t => v t * y t, Int.mul_ne_zero hc hd, (pu.mul (.const d)).add ((pv.mul pg).mul px), pv.mul py, fun t => ?_⟩
  have := e t; have := e' t; grind
theorem Cop.shift {f g k : Int → Int} (pk : PF k) (h : Cop f g) : Cop f (fun t => g t + f t * k t) := by
  obtain ⟨c, u, v, hc, pu, pv, e⟩ := h
  exact ⟨c, fun t => u t - v t * k t, v, hc, pu.sub (pv.mul pk), pv, fun t => by have := e t; grind⟩
theorem Cop.scale {f g : Int → Int} {a : Int} (ha : a ≠ 0) (h : Cop f g) : Cop f (fun t => a * g t) := by
  obtain ⟨c, u, v, hc, pu, pv, e⟩ := h
  exact ⟨a * c, fun t => a * u t, v, Int.mul_ne_zero ha hc, pu.smul a, pv, fun t => by have := e t; grind⟩
theorem Cop.of_scale {f g : Int → Int} {a : Int} (h : Cop f (fun t => a * g t)) : Cop f g := by
  obtain ⟨c, u, v, hc, pu, pv, e⟩ := h
  exact ⟨c, u, fun t => a * v t, hc, pu, pv.smul a, fun t => by have := e t; grind⟩
theorem Cop.congr {f g g' : Int → Int} (h : Cop f g) (e : ∀ t, g t = g' t) : Cop f g' := by
  obtain ⟨c, u, v, hc, pu, pv, e'⟩ := h
  exact ⟨c, u, v, hc, pu, pv, fun t => by rw [← e]; exact e' t⟩
theorem Cop.one {f : Int → Int} {a : Int} (ha : a ≠ 0) : Cop f (fun _ => a) := ⟨a, fun _ => 0, fun _ => 1, ha, .const 0, .const 1, fun t => by dsimp only; (clear ha; omega)⟩

/-! the slope -/
noncomputable def evd : List Int → Int → Int
  | [], _ => 0
  | _ :: r, t => ev r t + t * evd r t
theorem evd_addP (t : Int) : ∀ xs ys : List Int, evd (addP xs ys) t = evd xs t + evd ys t
  | [], ys => by rw [addP, evd]; omega
  | x :: xs, [] => by rw [addP]; show _ = _ + 0; omega
  | x :: xs, y :: ys => by rw [addP, evd, evd, evd, ev_addP, evd_addP t xs ys]; grind
theorem evd_smul (c t : Int) : ∀ xs : List Int, evd (smul c xs) t = c * evd xs t
  | [] => by show 0 = c * 0; omega
  | x :: r => by
    show ev (smul c r) t + t * evd (smul c r) t = c * (ev r t + t * evd r t)
    rw [ev_smul, evd_smul c t r]; grind
theorem evd_mulP (t : Int) : ∀ xs ys : List Int, evd (mulP xs ys) t = evd xs t * ev ys t + ev xs t * evd ys t
  | [], ys => by rw [mulP, evd, ev_nil]; omega
  | x :: r, ys => by
    rw [mulP, evd_addP, evd_smul, evd, evd, ev_cons, ev_mulP, evd_mulP t r ys]; grind
end Mine

set_option autoImplicit false
set_option linter.unusedVariables false
namespace Mine

/-! rows whose numbers have no divisor in common -/
theorem gAll_great : ∀ (r : List Int) (g d : Nat), d ∣ g → (∀ x ∈ r, d ∣ x.natAbs) → d ∣ gAll r g
  | [], g, d, h, _ => h
  | x :: r, g, d, h, hx => gAll_great r _ d (Nat.dvd_gcd h (hx x List.mem_cons_self)) fun y hy => hx y (List.mem_cons_of_mem _ hy)
theorem prim_of {xs : List Int} (h : ∀ d : Nat, (∀ x ∈ xs, (d : Int) ∣ x) → d = 1) : gAll xs 0 = 1 :=
  h _ fun x hx => Int.natAbs_dvd_natAbs.mp (by rw [Int.natAbs_natCast]; exact (gAll_dvd xs 0).2 x hx)
theorem prim_dvd {xs : List Int} (h : gAll xs 0 = 1) {d : Nat} (hd : ∀ x ∈ xs, (d : Int) ∣ x) : d = 1 := by
  have := gAll_great xs 0 d (Nat.dvd_zero d) fun x hx => by
    have := Int.natAbs_dvd_natAbs.mpr (hd x hx)
    rwa [Int.natAbs_natCast] at this
  rw [h] at this
  exact Nat.dvd_one.mp this
noncomputable def Pr (p : Nat) : Prop := 1 < p ∧ ∀ a, a ∣ p → a = 1 ∨ a = p
theorem exists_pr : ∀ (n d : Nat), d ≤ n → d ≠ 1 → ∃ p, Pr p ∧ p ∣ d
  | 0, d, h, _ => by
    obtain rfl : d = 0 := by omega
    refine ⟨2, ⟨by decide, fun a ha => ?_⟩, Nat.dvd_zero 2⟩
    have := Nat.le_of_dvd (by decide) ha
    rcases Nat.lt_or_ge a 2 with h | h
    · by_cases h0 : a = 0
      · subst h0; rw [Nat.zero_dvd] at ha; (clear this h; omega)
      · left; (clear ha; omega)
    · right; (clear ha; omega)
  | n + 1, d, h, h1 => by
    by_cases h0 : d = 0
    · exact exists_pr n d (by (clear h1; omega)) h1
    by_cases hp : ∀ a, a ∣ d → a = 1 ∨ a = d
    · exact ⟨d, ⟨by (clear h hp; omega), hp⟩, Nat.dvd_refl d⟩
    · obtain ⟨a, ha⟩ := Classical.not_forall.mp hp
      obtain ⟨hd, ha⟩ := Classical.not_imp.mp ha
      have hle := Nat.le_of_dvd (by (clear h h1 hp hd; omega)) hd
      obtain ⟨p, h2, h3⟩ := exists_pr n a (by (clear h1 h0 hp hd; omega)) (by (clear h h1 h0 hp hd; omega))
      exact ⟨p, h2, Nat.dvd_trans h3 hd⟩
theorem Pr.mul {p : Nat} (h : Pr p) {x y : Int} (hd : (p : Int) ∣ x * y) : (p : Int) ∣ x ∨ (p : Int) ∣ y := by
  have hd' : p ∣ x.natAbs * y.natAbs := by
    have := Int.natAbs_dvd_natAbs.mpr hd
    rwa [Int.natAbs_natCast, Int.natAbs_mul] at this
  have back : ∀ {z : Int}, p ∣ z.natAbs → (p : Int) ∣ z := fun hz => Int.natAbs_dvd_natAbs.mp (by rw [Int.natAbs_natCast]; exact hz)
  rcases h.2 _ (Nat.gcd_dvd_left p x.natAbs) with h1 | h1
  · exact .inr (back (Nat.Coprime.dvd_of_dvd_mul_left h1 hd'))
  · exact .inl (back (by rw [← h1]; exact Nat.gcd_dvd_right _ _))
noncomputable def AD (p : Int) (xs : List Int) : Prop := ∀ x ∈ xs, p ∣ x
theorem AD.cons {p x : Int} {xs : List Int} (h : p ∣ x) (h' : AD p xs) : AD p (x :: xs) := fun y hy => by
  rcases List.mem_cons.mp hy with rfl | hy
  · exact h
  · exact h' y hy
theorem AD.hd {p x : Int} {xs : List Int} (h : AD p (x :: xs)) : p ∣ x := h x List.mem_cons_self
theorem AD.tl {p x : Int} {xs : List Int} (h : AD p (x :: xs)) : AD p xs := fun y hy => h y (List.mem_cons_of_mem _ hy)
theorem AD.smul {p c : Int} {xs : List Int} (h : p ∣ c) : AD p (Mine.smul c xs) := fun x hx => by
  obtain ⟨y, _, rfl⟩ := List.mem_map.mp hx
  exact Int.dvd_mul_of_dvd_left h
theorem AD.of_add {p : Int} : ∀ {xs ys : List Int}, AD p (addP xs ys) → AD p xs → AD p ys
  | [], ys, h, _ => h
  | x :: xs, [], _, _ => fun _ h => nomatch h
  | x :: xs, y :: ys, h, h1 => .cons (by
      have h2 : p ∣ x + y := AD.hd (show AD p ((x + y) :: addP xs ys) from h)
      exact (Int.dvd_add_right h1.hd).mp h2) (AD.of_add (AD.tl (show AD p ((x + y) :: addP xs ys) from h)) h1.tl)
theorem mulP_right {x y : Int} {r s : List Int} (hs : s ≠ []) : mulP (x :: r) (y :: s) = addP (smul y (x :: r)) (0 :: mulP (x :: r) s) := by
  refine ext_vals ?_ fun t => ?_
  · have h1 := @mulP_len (x :: r) (y :: s) (List.cons_ne_nil _ _) (List.cons_ne_nil _ _)
    have h2 := @mulP_len (x :: r) s (List.cons_ne_nil _ _) hs
    have h3 := List.length_pos_iff.mpr hs
    rw [addP_len, smul_len]
    simp only [List.length_cons] at h1 h2 ⊢
    (clear hs; omega)
  · show ev _ t = ev _ t
    rw [ev_mulP, ev_addP, ev_smul, ev_cons, ev_cons, ev_cons, ev_mulP, ev_cons]; grind
theorem gauss2 {p : Nat} (hp : Pr p) {x : Int} {r : List Int} (hx : ¬ (p : Int) ∣ x) : ∀ {ys : List Int}, AD p (mulP (x :: r) ys) → AD p ys
  | [], _ => fun _ h => nomatch h
  | [y], h => .cons (by
      have h1 : (p : Int) ∣ x * y + 0 := h _ (by rw [mulP]; exact List.mem_cons_self)
      rw [Int.add_zero] at h1
      exact (hp.mul h1).resolve_left hx) (fun _ h => nomatch h)
  | y :: z :: s, h => by
    have h1 : (p : Int) ∣ x * y + 0 := h _ (by rw [mulP]; exact List.mem_cons_self)
    rw [Int.add_zero] at h1
    have hy := (hp.mul h1).resolve_left hx
    rw [mulP_right (List.cons_ne_nil _ _)] at h
    exact .cons hy (gauss2 hp hx (h.of_add (.smul hy)).tl)
theorem gauss1 {p : Nat} (hp : Pr p) : ∀ {xs ys : List Int}, AD p (mulP xs ys) → AD p xs ∨ AD p ys
  | [], _, _ => .inl fun _ h => nomatch h
  | x :: r, ys, h => by
    by_cases hx : (p : Int) ∣ x
    · rcases gauss1 hp (show AD p (mulP r ys) from (AD.of_add (by rw [mulP] at h; exact h) (.smul hx)).tl) with h1 | h1
      · exact .inl (.cons hx h1)
      · exact .inr h1
    · exact .inr (gauss2 hp hx h)
/-- Gauss -/
theorem gauss {xs ys : List Int} (h1 : gAll xs 0 = 1) (h2 : gAll ys 0 = 1) : gAll (mulP xs ys) 0 = 1 := prim_of fun d hd => Classical.byContradiction fun hn => by
  obtain ⟨p, hp, hpd⟩ := exists_pr d d (Nat.le_refl d) hn
  have hpd' : (p : Int) ∣ (d : Int) := Int.natCast_dvd_natCast.mpr hpd
  have hA : AD p (mulP xs ys) := fun x hx => Int.dvd_trans hpd' (hd x hx)
  have hp1 := hp.1
  rcases gauss1 hp hA with h | h
  · have := prim_dvd h1 h; (clear h1 h2 hd hn hp hpd hpd' hA h; omega)
  · have := prim_dvd h2 h; (clear h1 h2 hd hn hp hpd hpd' hA h; omega)

theorem gAll_smul {c : Int} {xs : List Int} : gAll (smul c xs) 0 = gAll xs 0 * c.natAbs := by
  have := gAll_mul c.natAbs xs c 0 rfl
  rw [Nat.zero_mul, smul_eq] at this; exact this
/-- rows in lowest form that are multiples of each other are equal -/
theorem prim_eq {xs ys : List Int} {l m a b : Int} (g1 : gAll xs 0 = 1) (g2 : gAll ys 0 = 1) (l1 : xs.getLast? = some l) (l2 : ys.getLast? = some m) (p1 : 0 < l) (p2 : 0 < m) (ha : a ≠ 0) (hb : b ≠ 0) (e : ∀ t, a * ev xs t = b * ev ys t) : xs = ys := by
  have t1 : Tr xs := ⟨l, l1, by (clear g1 g2 l1 l2 p2 ha hb e; omega)⟩
  have t2 : Tr ys := ⟨m, l2, by (clear g1 g2 l1 l2 p1 ha hb e t1; omega)⟩
  have h : smul a xs = smul b ys := ext_tr (.inr (tr_smul ha t1)) (.inr (tr_smul hb t2)) fun t => by rw [ev_smul, ev_smul, e]
  have h1 : a.natAbs = b.natAbs := by
    have := congrArg (fun x => gAll x 0) h
    rw [gAll_smul, gAll_smul, g1, g2] at this
    (clear g1 g2 l1 l2 p1 p2 ha hb e t1 t2 h; omega)
  have h2 : a * l = b * m := by
    have := congrArg List.getLast? h
    unfold smul at this
    rw [List.getLast?_map, List.getLast?_map, l1, l2] at this
    exact Option.some.inj this
  have h3 : a = b := by
    rcases (by (clear g1 g2 l1 l2 p1 p2 ha hb e t1 t2 h h2; omega) : a = b ∨ a = -b) with h | h
    · exact h
    · exfalso
      rw [h] at h2
      have h4 : b * (l + m) = 0 := by grind
      rcases Int.mul_eq_zero.mp h4 with h5 | h5
      · exact hb h5
      · (clear g1 g2 l1 l2 ha hb e t1 t2 h1 h2 h h4; omega)
  subst h3
  refine ext_tr (.inr t1) (.inr t2) fun t => ?_
  exact Int.eq_of_mul_eq_mul_left ha (e t)
theorem redI_smul {r : List Int} {l : Int} : smul (gOf r l) (redI r l) = r := by rw [← smul_eq, redI_mul]
theorem ev_red {r : List Int} {l : Int} (t : Int) : ev r t = gOf r l * ev (redI r l) t := by
  have := congrArg (fun x => ev x t) (@redI_smul r l)
  rw [ev_smul] at this; exact this.symm
theorem redI_getLast {r : List Int} {l : Int} (hl : r.getLast? = some l) : (redI r l).getLast? = some (l.fdiv (gOf r l)) := by
  unfold redI; rw [List.getLast?_map, hl]; rfl
theorem tr_red {r : List Int} {l : Int} (hl : r.getLast? = some l) (h0 : l ≠ 0) : Tr (redI r l) := ⟨_, redI_getLast hl, by have := redI_last (List.mem_of_getLast? hl) h0; (clear hl h0; omega)⟩
/-! the row of the factors and its slope -/
structure Fac (f d : List Int) (G E : Int → Int) : Prop where
  pG : PF G
  pE : PF E
  nz : ∃ t, G t ≠ 0
  fe : ∀ t, ev f t = G t * ev d t
  fd : ∀ t, evd f t = G t * E t
  co : Cop (ev d) E
theorem Fac.start {c : Int} (hc : c ≠ 0) : Fac [c] [1] (fun _ => c) (fun _ => 0) :=
  ⟨.const c, .const 0, ⟨0, hc⟩, fun t => by rw [ev_cons, ev_cons, ev_nil]; grind, fun t => by rw [evd, ev_nil, evd]; grind, ⟨1, fun _ => 1, fun _ => 0, by decide, .const 1, .const 0, fun t => by rw [ev_cons, ev_nil]; grind⟩⟩
/-- F, e times -/
theorem Fac.step {f d F : List Int} {G E : Int → Int} (h : Fac f d G E) (hF : ∃ t, ev F t ≠ 0) (c1 : Cop (ev F) (evd F)) (c2 : Cop (ev F) (ev d)) (e : Nat) {f' : List Int} (h1 : ∀ t, ev f' t = ev f t * ev F t ^ (e + 1)) (h2 : ∀ t, evd f' t = evd f t * ev F t ^ (e + 1) + ev f t * (((e : Int) + 1) * ev F t ^ e * evd F t))
    {d' : List Int} (hd : ∀ t, ev d' t = ev d t * ev F t) (pd : PF (evd F)) : Fac f' d' (fun t => G t * ev F t ^ e) (fun t => ev F t * E t + ((e : Int) + 1) * (evd F t * ev d t)) := by
  have pF := PF.ev F
  have pp : ∀ n : Nat, PF (fun t => ev F t ^ n) := fun n => by
    induction n with
    | zero => exact ⟨[1], fun t => by dsimp only; rw [ev_cons, ev_nil, Int.pow_zero]; (clear h hF c1 c2 h1 h2 hd pd pF; omega)⟩
    | succ n ih =>
      obtain ⟨xs, hx⟩ := ih.mul pF
      exact ⟨xs, fun t => by rw [← hx]; exact Int.pow_succ _ _⟩
  have hnz : ∀ n : Nat, ∃ t, G t * ev F t ^ n ≠ 0 := fun n => by
    obtain ⟨t, ht⟩ := pf_mul_nz h.pG pF h.nz hF
    refine ⟨t, fun h0 => ?_⟩
    rcases Int.mul_eq_zero.mp h0 with h0 | h0
    · exact ht (by rw [h0, Int.zero_mul])
    · exact Int.pow_ne_zero (fun hz => ht (by rw [hz, Int.mul_zero])) h0
  refine ⟨h.pG.mul (pp e), (pF.mul h.pE).add ((pd.mul (PF.ev d)).smul _), hnz e, fun t => ?_, fun t => ?_, ?_⟩
  · rw [h1, hd, h.fe, Int.pow_succ]; grind
  · rw [h2, h.fd, h.fe, Int.pow_succ]; grind
  · have he : ((e : Int) + 1) ≠ 0 := by (clear h hF c1 c2 h1 h2 hd pd pF pp hnz; omega)
    -- F and the new one
    have a1 : Cop (ev F) (fun t => ((e : Int) + 1) * (evd F t * ev d t)) := (Cop.mul pF pd (PF.ev d) c1 c2).scale he
    have a2 : Cop (ev F) (fun t => ev F t * E t + ((e : Int) + 1) * (evd F t * ev d t)) := (a1.shift h.pE).congr fun t => by (clear h hF c1 c2 h1 h2 hd pd pF pp hnz he a1; omega)
    have b1 : Cop (ev d) (fun t => ev F t * E t) := Cop.mul (PF.ev d) pF h.pE c2.symm h.co
    have b2 : Cop (ev d) (fun t => ev F t * E t + ((e : Int) + 1) * (evd F t * ev d t)) := (b1.shift (pd.smul ((e : Int) + 1))).congr fun t => by grind
    have pn : PF (fun t => ev F t * E t + ((e : Int) + 1) * (evd F t * ev d t)) := (pF.mul h.pE).add ((pd.mul (PF.ev d)).smul _)
    have := Cop.mul pn (PF.ev d) pF b2.symm a2.symm
    exact (this.congr fun t => (hd t).symm).symm
end Mine

set_option autoImplicit false
set_option linter.unusedVariables false
namespace Mine

/-! the slope as a row -/
noncomputable def sl : Int → List Int → List Int
  | _, [] => []
  | k, x :: r => k * x :: sl (k + 1) r
theorem ev_sl (t : Int) : ∀ (r : List Int) (k : Int), ev (sl k r) t = k * ev r t + t * evd r t
  | [], k => by show 0 = k * 0 + t * 0; omega
  | x :: r, k => by
    show ev (k * x :: sl (k + 1) r) t = k * ev (x :: r) t + t * (ev r t + t * evd r t)
    rw [ev_cons, ev_cons, ev_sl t r]; grind
theorem sl_len : ∀ (r : List Int) (k : Int), (sl k r).length = r.length
  | [], _ => rfl
  | x :: r, k => by show (sl (k + 1) r).length + 1 = r.length + 1; rw [sl_len]
theorem tr_sl : ∀ {r : List Int} {k : Int}, 0 < k → Tr r → Tr (sl k r)
  | [], _, _, h => absurd rfl h.ne
  | [x], k, hk, h => .one (Int.mul_ne_zero (by (clear h; omega)) h.of_one)
  | x :: y :: r, k, hk, h => Tr.cons (tr_sl (r := y :: r) (by (clear h; omega)) h.tl)
theorem ev_slope {c : Int} {r : List Int} (t : Int) : ev (sl 1 r) t = evd (c :: r) t := by
  rw [ev_sl]; show _ = ev r t + t * evd r t; omega
theorem pf_evd (xs : List Int) : PF (evd xs) := by
  cases xs with
  | nil => exact ⟨[], fun t => rfl⟩
  | cons c r => exact ⟨sl 1 r, fun t => (ev_slope t).symm⟩

/-! rows that nothing shorter divides -/
noncomputable def Irr (F : List Int) : Prop := Tr F ∧ ∀ X, Tr X → X.length < F.length → Cop (ev F) (ev X)
noncomputable def NR (F : List Int) : Prop := ∀ p q : Int, q ≠ 0 → hval p q F ≠ 0
theorem hval3 (p q c b a : Int) : hval p q [c, b, a] = a * p * p + b * p * q + c * q * q := by
  show ((0 * p + a * q ^ 0) * p + b * q ^ 1) * p + c * q ^ 2 = _
  grind
theorem hval4 (p q c : Int) : hval p q [c, 0, 0, 1] = p * p * p + c * q * q * q := by
  show (((0 * p + 1 * q ^ 0) * p + 0 * q ^ 1) * p + 0 * q ^ 2) * p + c * q ^ 3 = _
  grind
theorem ev1 (c t : Int) : ev [c] t = c := by rw [ev_cons, ev_nil]; omega
theorem ev2 (c b t : Int) : ev [c, b] t = c + t * b := by rw [ev_cons, ev1]
theorem ev3 (c b a t : Int) : ev [c, b, a] t = c + t * (b + t * a) := by rw [ev_cons, ev2]
theorem ev4 (c b a d t : Int) : ev [c, b, a, d] t = c + t * (b + t * (a + t * d)) := by rw [ev_cons, ev3]
theorem cop_const {f : Int → Int} {x : Int} (h : Tr [x]) : Cop f (ev [x]) := (Cop.one h.of_one).congr fun t => (ev1 x t).symm
theorem irr1 {m n : Int} (hn : n ≠ 0) : Irr [m, n] := by
  refine ⟨⟨n, rfl, hn⟩, fun X tX hX => ?_⟩
  match X, tX, hX with
  | [], t, _ => exact absurd rfl t.ne
  | [x], t, _ => exact cop_const t
  | x :: y :: r, _, h => exact absurd h (by simp)
theorem tr2 {x y : Int} (h : Tr [x, y]) : y ≠ 0 := h.tl.of_one
theorem tr3 {x y z : Int} (h : Tr [x, y, z]) : z ≠ 0 := h.tl.tl.of_one
theorem irr2 {c b a : Int} (ha : a ≠ 0) (hr : NR [c, b, a]) : Irr [c, b, a] := by
  refine ⟨⟨a, rfl, ha⟩, fun X tX hX => ?_⟩
  match X, tX, hX with
  | [], t, _ => exact absurd rfl t.ne
  | [x], t, _ => exact cop_const t
  | [β, α], t, _ =>
    have hα := tr2 t
    have h0 := hr (-β) α hα
    rw [hval3] at h0
    refine ⟨_, fun _ => α * α, fun t => -(a * α * t + (b * α - a * β)), h0, .const _, ((PF.id.smul (a * α)).add (.const _)).neg, fun t => ?_⟩
    rw [ev3, ev2]; grind
  | x :: y :: z :: r, _, h => exact absurd h (by simp)
theorem irr3 {c : Int} (hr : NR [c, 0, 0, 1]) : Irr [c, 0, 0, 1] := by
  have lin : ∀ β α : Int, α ≠ 0 → Cop (ev [c, 0, 0, 1]) (ev [β, α]) := fun β α hα => by
    have h0 := hr (-β) α hα
    rw [hval4] at h0
    refine ⟨_, fun _ => α * α * α, fun t => -(α * α * (t * t) + (-(α * β)) * t + β * β), h0, .const _, ((((PF.id.mul PF.id).smul (α * α)).add (PF.id.smul (-(α * β)))).add (.const _)).neg, fun t => ?_⟩
    rw [ev4, ev2]; grind
  refine ⟨⟨1, rfl, by decide⟩, fun X tX hX => ?_⟩
  match X, tX, hX with
  | [], t, _ => exact absurd rfl t.ne
  | [x], t, _ => exact cop_const t
  | [β, α], t, _ => exact lin β α (tr2 t)
  | [γ, β, α], t, _ =>
    have hα := tr3 t
    have key : ∀ t, β * γ + c * α * α + t * (β * β - α * γ) = α * α * ev [c, 0, 0, 1] t - (α * t - β) * ev [γ, β, α] t := fun t => by rw [ev4, ev3]; grind
    by_cases h1 : β * β - α * γ = 0
    · by_cases h0 : β * γ + c * α * α = 0
      · exfalso
        have := hr β α hα
        rw [hval4] at this
        exact this (by grind)
      · refine ⟨_, fun _ => α * α, fun t => -(α * t + -β), h0, .const _, ((PF.id.smul α).add (.const _)).neg, fun t => ?_⟩
        have := key t
        rw [h1] at this; grind
    · obtain ⟨d, u, v, hd, pu, pv, e⟩ := lin (β * γ + c * α * α) (β * β - α * γ) h1
      refine ⟨d, fun t => u t + v t * (α * α), fun t => -(v t * (α * t + -β)), hd, pu.add (pv.mul (.const _)), (pv.mul ((PF.id.smul α).add (.const _))).neg, fun t => ?_⟩
      have h2 := e t
      have h3 := key t
      rw [ev2] at h2
      grind
  | x :: y :: z :: w :: r, _, h => exact absurd h (by simp)

/-! no rational roots -/
theorem nat_sq {P Q d : Nat} (hQ : Q ≠ 0) (h : P * P = d * (Q * Q)) : ∃ r, r * r = d := by
  have hg : 0 < P.gcd Q := Nat.gcd_pos_of_pos_right _ (Nat.pos_of_ne_zero hQ)
  obtain ⟨a, ha⟩ := Nat.gcd_dvd_left P Q
  obtain ⟨b, hb⟩ := Nat.gcd_dvd_right P Q
  have hc : Nat.Coprime a b := by
    have := Nat.coprime_div_gcd_div_gcd hg
    rw [Nat.div_eq_of_eq_mul_right hg ha, Nat.div_eq_of_eq_mul_right hg hb] at this; exact this
  generalize P.gcd Q = g at *
  subst ha hb
  have h1 : (g * g) * (a * a) = (g * g) * (d * (b * b)) := by grind
  have h2 : a * a = d * (b * b) := Nat.eq_of_mul_eq_mul_left (Nat.mul_pos hg hg) h1
  have h3 : b ∣ a * a := ⟨d * b, by rw [h2]; grind⟩
  have h4 : b ∣ a := Nat.Coprime.dvd_of_dvd_mul_left (Nat.Coprime.symm hc) h3
  have h5 : b = 1 := Nat.Coprime.eq_one_of_dvd (Nat.Coprime.symm hc) h4
  exact ⟨a, by rw [h2, h5]; (clear hc hg hQ h h1 h2 h3 h4 h5; omega)⟩
theorem nat_cb {P Q d : Nat} (hQ : Q ≠ 0) (h : P * P * P = d * (Q * Q * Q)) : ∃ r, r * r * r = d := by
  have hg : 0 < P.gcd Q := Nat.gcd_pos_of_pos_right _ (Nat.pos_of_ne_zero hQ)
  obtain ⟨a, ha⟩ := Nat.gcd_dvd_left P Q
  obtain ⟨b, hb⟩ := Nat.gcd_dvd_right P Q
  have hc : Nat.Coprime a b := by
    have := Nat.coprime_div_gcd_div_gcd hg
    rw [Nat.div_eq_of_eq_mul_right hg ha, Nat.div_eq_of_eq_mul_right hg hb] at this; exact this
  generalize P.gcd Q = g at *
  subst ha hb
  have h1 : (g * g * g) * (a * a * a) = (g * g * g) * (d * (b * b * b)) := by grind
  have h2 : a * a * a = d * (b * b * b) := Nat.eq_of_mul_eq_mul_left (Nat.mul_pos (Nat.mul_pos hg hg) hg) h1
  have h3 : b ∣ a * (a * a) := ⟨d * b * b, by rw [← Nat.mul_assoc, h2]; grind⟩
  have h4 : b ∣ a * a := Nat.Coprime.dvd_of_dvd_mul_left (Nat.Coprime.symm hc) h3
  have h5 : b ∣ a := Nat.Coprime.dvd_of_dvd_mul_left (Nat.Coprime.symm hc) h4
  have h6 : b = 1 := Nat.Coprime.eq_one_of_dvd (Nat.Coprime.symm hc) h5
  exact ⟨a, by rw [h2, h6]; (clear hc hg hQ h h1 h2 h3 h4 h5 h6; omega)⟩
theorem nr_sq {d : Nat} (hd : d = 2 ∨ d = 3 ∨ d = 5 ∨ d = 6 ∨ d = 7) : NR [-(d : Int), 0, 1] := fun p q hq h => by
  rw [hval3] at h
  have h1 : p * p = (d : Int) * (q * q) := by grind
  have h2 : p.natAbs * p.natAbs = d * (q.natAbs * q.natAbs) := by
    have := congrArg Int.natAbs h1
    rw [Int.natAbs_mul, Int.natAbs_mul, Int.natAbs_mul, Int.natAbs_natCast] at this; exact this
  obtain ⟨r, hr⟩ := nat_sq (Int.natAbs_ne_zero.mpr hq) h2
  rcases Nat.lt_or_ge r 3 with h3 | h3
  · rcases (by (clear hd hq h h1 h2 hr; omega) : r = 0 ∨ r = 1 ∨ r = 2) with rfl | rfl | rfl <;> (clear h h1 h2 h3; omega)
  · have := Nat.mul_le_mul h3 h3; (clear h h1 h2 h3; omega)
theorem nr_cb {c : Int} (hd : c.natAbs = 2 ∨ c.natAbs = 3 ∨ c.natAbs = 5 ∨ c.natAbs = 7) : NR [c, 0, 0, 1] := fun p q hq h => by
  rw [hval4] at h
  have h1 : p * p * p = -(c * (q * q * q)) := by grind
  have h2 : p.natAbs * p.natAbs * p.natAbs = c.natAbs * (q.natAbs * q.natAbs * q.natAbs) := by
    have := congrArg Int.natAbs h1
    rw [Int.natAbs_mul, Int.natAbs_mul, Int.natAbs_neg, Int.natAbs_mul, Int.natAbs_mul, Int.natAbs_mul] at this; exact this
  obtain ⟨r, hr⟩ := nat_cb (Int.natAbs_ne_zero.mpr hq) h2
  rcases Nat.lt_or_ge r 2 with h3 | h3
  · rcases (by (clear hd hq h h1 h2 hr; omega) : r = 0 ∨ r = 1) with rfl | rfl <;> (clear h h1 h2 h3; omega)
  · have := Nat.mul_le_mul (Nat.mul_le_mul h3 h3) h3; (clear h h1 h2 h3; omega)
theorem nr_def {c b a : Int} (ha : 0 < a) (h : b * b < 4 * a * c) : NR [c, b, a] := fun p q hq h0 => by
  rw [hval3] at h0
  have e : (2 * a * p + b * q) * (2 * a * p + b * q) + (4 * a * c - b * b) * (q * q) = 0 := by grind
  have sq : ∀ x : Int, 0 ≤ x * x := fun x => by
    rcases Int.le_total 0 x with h | h
    · exact Int.mul_nonneg h h
    · exact Int.mul_nonneg_of_nonpos_of_nonpos h h
  have h1 := sq (2 * a * p + b * q)
  have h2 : 0 < q * q := by
    rcases Int.lt_or_gt_of_ne hq with h | h
    · exact Int.mul_pos_of_neg_of_neg h h
    · exact Int.mul_pos h h
  have h3 := Int.mul_pos (show 0 < 4 * a * c - b * b by (clear ha hq h0 e sq h1 h2; omega)) h2
  (clear ha h hq h0 sq h2; omega)

/-- a factor of the law: in lowest form, nothing shorter divides it -/
structure Ftr (F : List Int) (l : Int) : Prop where
  irr : Irr F
  len : 2 ≤ F.length
  len' : F.length ≤ 4
  last : F.getLast? = some l
  pos : 0 < l
  one : gAll F 0 = 1
theorem Ftr.slope {F : List Int} {l : Int} (h : Ftr F l) : Cop (ev F) (evd F) := by
  have hl := h.len
  cases F with
  | nil => simp at hl
  | cons c r =>
    cases r with
    | nil => simp at hl
    | cons d r =>
      have ht : Tr (d :: r) := Tr.tl (show Tr (c :: d :: r) from ⟨l, h.last, by have := h.pos; (clear h hl; omega)⟩)
      exact (h.irr.2 (sl 1 (d :: r)) (tr_sl (by decide) ht) (by rw [sl_len]; simp)).congr fun t => ev_slope t
theorem trim_len : ∀ xs : List Int, ∃ ys, (ys = [] ∨ Tr ys) ∧ (∀ t, ev xs t = ev ys t) ∧ ys.length ≤ xs.length
  | [] => ⟨[], .inl rfl, fun _ => rfl, Nat.le_refl _⟩
  | x :: r => by
    obtain ⟨ys, h, e, hl⟩ := trim_len r
    rcases h with rfl | h
    · by_cases hx : x = 0
      · exact ⟨[], .inl rfl, fun t => by rw [ev_cons, e, hx, ev_nil]; (clear e hl hx; omega), Nat.zero_le _⟩
      · exact ⟨[x], .inr (.one hx), fun t => by rw [ev_cons, ev_cons, e], by simp⟩
    · exact ⟨x :: ys, .inr h.cons, fun t => by rw [ev_cons, ev_cons, e], by simp; exact hl⟩
theorem ev_snoc0 (t : Int) : ∀ xs : List Int, ev (xs ++ [0]) t = ev xs t
  | [] => by rw [List.nil_append, ev1, ev_nil]
  | x :: r => by rw [List.cons_append, ev_cons, ev_cons, ev_snoc0 t r]
theorem Ftr.cop {F G : List Int} {l m : Int} (h1 : Ftr F l) (h2 : Ftr G m) (hne : F ≠ G) : Cop (ev F) (ev G) := by
  rcases Nat.lt_trichotomy F.length G.length with h | h | h
  · exact (h2.irr.2 F h1.irr.1 h).symm
  · -- as long as each other
    obtain ⟨F0, hF⟩ := List.getLast?_eq_some_iff.mp h1.last
    obtain ⟨G0, hG⟩ := List.getLast?_eq_some_iff.mp h2.last
    have hlen : F0.length = G0.length := by rw [hF, hG] at h; simpa using h
    have hD : ∀ t, ev (addP (smul l G0) (smul (-m) F0)) t = l * ev G t - m * ev F t := fun t => by
      have e1 : ev G t = ev G0 t + m * t ^ G0.length := by
        rw [hG]; show hval t 1 (G0 ++ [m]) = _; rw [hval_snoc, Int.mul_one]; rfl
      have e2 : ev F t = ev F0 t + l * t ^ F0.length := by
        rw [hF]; show hval t 1 (F0 ++ [l]) = _; rw [hval_snoc, Int.mul_one]; rfl
      rw [ev_addP, ev_smul, ev_smul, e1, e2, hlen]; grind
    obtain ⟨ys, hy, ey, yl⟩ := trim_len (addP (smul l G0) (smul (-m) F0))
    have hl0 : l ≠ 0 := by have := h1.pos; (clear h1 h2 hne h hF hG hlen hD hy ey yl; omega)
    have hm0 : m ≠ 0 := by have := h2.pos; (clear h1 h2 hne h hF hG hlen hD hy ey yl hl0; omega)
    rcases hy with rfl | hy
    · exfalso
      refine hne (prim_eq h1.one h2.one h1.last h2.last h1.pos h2.pos hm0 hl0 fun t => ?_)
      have := hD t
      rw [ey, ev_nil] at this; (clear h1 h2 hne h hF hG hlen hD hl0 hm0 ey yl; omega)
    · have hlt : ys.length < F.length := by
        rw [addP_len, smul_len, smul_len] at yl
        rw [hF, List.length_append, List.length_singleton]; (clear h1 h2 hne h hF hG hD ey hy; omega)
      have c1 := h1.irr.2 ys hy hlt
      have c2 : Cop (ev F) (fun t => l * ev G t) := (c1.shift (PF.const m)).congr fun t => by
        rw [← ey, hD]; grind
      exact c2.of_scale
  · exact h1.irr.2 G h2.irr.1 h
end Mine

set_option autoImplicit false
set_option linter.unusedVariables false
set_option linter.unusedSimpArgs false
set_option maxRecDepth 100000
namespace Mine
open PySem
theorem IntMulOk.sum {k l : Nat} {a b : Int} (h1 : Sm k a) (h2 : Sm l b) (h : k + l ≤ 134217728) : IntMulOk a b := by
  have e : (2 : Nat) ^ 27 = 134217728 := by decide
  have b1 := h1.bits
  have b2 := h2.bits
  have h3 : Builtin.Int.intTooBig (Builtin.Int.intBits a + Builtin.Int.intBits b) = false := by
    unfold Builtin.Int.intTooBig bitsLine
    exact decide_eq_false (by (clear h1 h2 e; omega))
  unfold IntMulOk
  rw [h3]; simp
theorem ev_append (t : Int) : ∀ xs ys : List Int, ev (xs ++ ys) t = ev xs t + t ^ xs.length * ev ys t
  | [], ys => by rw [List.nil_append, ev_nil, List.length_nil, Int.pow_zero]; omega
  | x :: r, ys => by rw [List.cons_append, ev_cons, ev_cons, ev_append t r ys, List.length_cons, Int.pow_succ]; grind
theorem ev_zeros (t : Int) : ∀ n : Nat, ev (zeros n) t = 0
  | 0 => rfl
  | n + 1 => by show ev (0 :: zeros n) t = 0; rw [ev_cons, ev_zeros t n]; omega
theorem trim_ev {xs ys : List Int} {n : Nat} (h : xs = ys ++ zeros n) (t : Int) : ev xs t = ev ys t := by rw [h, ev_append, ev_zeros]; (clear h; omega)
/-- left times s less other times m, from above -/
noncomputable def wlz (s m : Int) (xs ys : List Int) : List Int := List.zipWith (fun x y => x * s - m * y) xs ys
theorem ev_wlz (s m t : Int) : ∀ {xs ys : List Int}, xs.length = ys.length → ev (wlz s m xs ys) t = s * ev xs t - m * ev ys t
  | [], [], _ => by show (0 : Int) = s * 0 - m * 0; omega
  | x :: r, y :: u, h => by
    show ev ((x * s - m * y) :: wlz s m r u) t = _
    rw [ev_cons, ev_cons, ev_cons, ev_wlz s m t (Nat.succ.inj h)]; grind
noncomputable def wlo (s m : Int) (l0 l1 o : List Int) : List Int := (l0.map fun x => x * s) ++ wlz s m l1 o
theorem ev_wlo {s m : Int} {l0 l1 o : List Int} (h : l1.length = o.length) (t : Int) : ev (wlo s m l0 l1 o) t = s * ev (l0 ++ l1) t - m * t ^ l0.length * ev o t := by
  have e : (l0.map fun x => x * s) = smul s l0 := smul_eq
  rw [wlo, ev_append, ev_append, e, ev_smul, smul_len, ev_wlz s m t h]; grind
theorem wlz_len {s m : Int} {xs ys : List Int} (h : xs.length = ys.length) : (wlz s m xs ys).length = ys.length := by unfold wlz; rw [List.length_zipWith, h, Nat.min_self]
theorem wlo_len {s m : Int} {l0 l1 o : List Int} (h : l1.length = o.length) : (wlo s m l0 l1 o).length = l0.length + o.length := by
  rw [wlo, List.length_append, List.length_map, wlz_len h]
theorem wlz_sm {s m : Int} {K L : Nat} (hs : Sm L s) (hm : Sm K m) : ∀ {xs ys : List Int}, AllSm K xs → AllSm L ys → AllSm (K + L + 1) (wlz s m xs ys)
  | [], _, _, _ => .nil
  | _ :: _, [], _, _ => .nil
  | x :: r, y :: u, h1, h2 => .cons ((h1.hd.mul hs).sub (hm.mul h2.hd)) (wlz_sm hs hm h1.tl h2.tl)
theorem wlo_sm {s m : Int} {K L : Nat} {l0 l1 o : List Int} (hs : Sm L s) (hm : Sm K m) (h0 : AllSm K l0) (h1 : AllSm K l1) (h2 : AllSm L o) : AllSm (K + L + 1) (wlo s m l0 l1 o) := fun x hx => by
  rcases List.mem_append.mp hx with hx | hx
  · obtain ⟨y, hy, rfl⟩ := List.mem_map.mp hx
    exact ((h0 y hy).mul hs).mono (Nat.le_succ _)
  · exact wlz_sm hs hm h1 h2 x hx
theorem wlz_last {s m a b : Int} : ∀ {xs ys : List Int}, xs.length = ys.length → xs.getLast? = some a → ys.getLast? = some b → (wlz s m xs ys).getLast? = some (a * s - m * b)
  | [], [], _, h, _ => by cases h
  | [x], [y], _, h1, h2 => by cases h1; cases h2; rfl
  | x :: x' :: r, y :: y' :: u, h, h1, h2 => by
    rw [List.getLast?_cons_cons] at h1 h2
    have ih := wlz_last (s := s) (m := m) (Nat.succ.inj h) h1 h2
    show ((x * s - m * y) :: (x' * s - m * y') :: wlz s m r u).getLast? = _
    rw [List.getLast?_cons_cons]; exact ih
  | [_], _ :: _ :: _, h, _, _ => by simp at h
  | _ :: _ :: _, [_], h, _, _ => by simp at h

section
variable {sub : Nat → Nat → Bool} {P : List Fn} {f n dv tr re wl ro : Nat} {H : Hp} {Q : V → Hp → Prop} {X : Nat → Hp → Prop}
noncomputable def cTrim : PE := (.and (.cons (.var 1) (.cons (.cmp .eq (.idx (.var 1) (.neg (.cint 1))) (.cint 0)) .nil)))
noncomputable def bTrim : PS := (.seq (.assign 1 (.bi .list (.cons (.var 0) .nil)))
 (.seq (.whl cTrim (.seq (.pop 1) .skip))
 (.seq (.ret (.var 1)) .skip)))
noncomputable def lenAt (H : Hp) (k : Nat) : Nat := match H[k]? with | some xs => xs.length | none => 0
theorem s_trim (e : P[f]? = some ⟨1, 2, bTrim⟩) {v : V} {row : List Int} (hv : items H v = some (row.map .int))
    (hQ : ∀ (ys : List Int) (k : Nat), row = ys ++ zeros k → (ys = [] ∨ Tr ys) → Q (.lst H.length) (H ++ [ys.map .int])) : callN sub P (n + 1) f [v] H Q X := by
  refine callN_mk e rfl ?_
  dsimp only [bTrim, qS1, qS2, qS3, qS4, qS5, qS6, qS7, qS8, qS9, qS10, qS11, qS12, qS13, qS14, qS15, qS16, qS17, qS18, qE1, qE2, qE3, qE4, qE5, qE6, qE7, qE8, qE9, qE10, qE11, qE12, qE13, qE14, qE15, qE16, qE17, qE18, qE19, qE20, qE21, qE22, qEs1, qEs2, wpAll, qO1, qO2, qI1, qI2, qI3, w_add, w_addl, w_sub, w_mul, w_mull, w_fdiv, w_mod, w_pow, w_lt, w_le, w_gt, w_ge, w_eq, w_ne, w_eqt, w_eql, w_net, w_nel, w_isn, w_ist, w_isi, w_isl, w_abs, w_lent, w_lenl, w_intb, w_list, w_tuple, w_min, w_idxt0, w_idxt1, w_idxu0, w_idxu1, w_idxu2, w_idxl, w_slcl, w_slct, w_tb, w_ti, w_tn, w_tt, w_tl, w_itt, w_itl, w_bindT1, w_bindT2, w_srcl, w_srct, w_cut2, w_cut1, w_cut1', w_cut0, w_ty1, w_ty2, w_ty3, w_ty4, w_ty5, w_ty6, w_ty7, w_ty8, w_ty9, w_ty10, w_ty11, w_ty12, w_ty13, w_ty14, w_ty15, w_ty16, w_ty17, w_ty18, w_ty19, w_ty20, w_ty21, w_mapc, w_mapn, w_appc, w_appn, w_repc, w_repn, w_start, w_lenc, w_ifT, w_ifF, w_ifFF, w_ifTF, w_nT, w_nF, w_anyT, w_anyF, w_d22, ifSome_some, ifLst_lst, ifTup_tup, ifInt_int, lget, lset, lsets, Nat.reduceSub, Nat.reduceAdd, List.length_nil, ↓reduceIte]
  refine ifSome.mk hv ?_
  refine ⟨fun ρ H' => ∃ (ys : List Int) (k : Nat), ρ = [some v, some (.lst H.length)] ∧ H' = H ++ [ys.map .int] ∧ row = ys ++ zeros k, fun _ H' => lenAt H' H.length, ⟨row, 0, rfl, rfl, (List.append_nil _).symm⟩, ?_⟩
  rintro ρ H' ⟨ys, k, rfl, rfl, hr⟩
  have hy : (H ++ [ys.map V.int])[H.length]? = some (ys.map V.int) := getApp _ _ _
  dsimp only [cTrim, qS1, qS2, qS3, qS4, qS5, qS6, qS7, qS8, qS9, qS10, qS11, qS12, qS13, qS14, qS15, qS16, qS17, qS18, qE1, qE2, qE3, qE4, qE5, qE6, qE7, qE8, qE9, qE10, qE11, qE12, qE13, qE14, qE15, qE16, qE17, qE18, qE19, qE20, qE21, qE22, qEs1, qEs2, wpAll, qO1, qO2, qI1, qI2, qI3, w_add, w_addl, w_sub, w_mul, w_mull, w_fdiv, w_mod, w_pow, w_lt, w_le, w_gt, w_ge, w_eq, w_ne, w_eqt, w_eql, w_net, w_nel, w_isn, w_ist, w_isi, w_isl, w_abs, w_lent, w_lenl, w_intb, w_list, w_tuple, w_min, w_idxt0, w_idxt1, w_idxu0, w_idxu1, w_idxu2, w_idxl, w_slcl, w_slct, w_tb, w_ti, w_tn, w_tt, w_tl, w_itt, w_itl, w_bindT1, w_bindT2, w_srcl, w_srct, w_cut2, w_cut1, w_cut1', w_cut0, w_ty1, w_ty2, w_ty3, w_ty4, w_ty5, w_ty6, w_ty7, w_ty8, w_ty9, w_ty10, w_ty11, w_ty12, w_ty13, w_ty14, w_ty15, w_ty16, w_ty17, w_ty18, w_ty19, w_ty20, w_ty21, w_mapc, w_mapn, w_appc, w_appn, w_repc, w_repn, w_start, w_lenc, w_ifT, w_ifF, w_ifFF, w_ifTF, w_nT, w_nF, w_anyT, w_anyF, w_d22, ifSome_some, ifLst_lst, ifTup_tup, ifInt_int, lget, lset, lsets, Nat.reduceSub, Nat.reduceAdd, List.length_nil, ↓reduceIte]
  refine ifSome.mk (v := !(ys.map V.int).isEmpty) (by rw [hy]; rfl) ?_
  rcases List.eq_nil_or_concat ys with rfl | ⟨zs, c, rfl⟩
  · refine (if_neg (by decide)).mpr ?_
    refine ifSome.mk (v := false) (by rw [hy]; rfl) ?_
    exact hQ [] k hr (.inl rfl)
  · rw [List.concat_eq_append] at hr hy ⊢
    have hne : (!((zs ++ [c]).map V.int).isEmpty) = true := by simp
    rw [hne]
    dsimp only [qS1, qS2, qS3, qS4, qS5, qS6, qS7, qS8, qS9, qS10, qS11, qS12, qS13, qS14, qS15, qS16, qS17, qS18, qE1, qE2, qE3, qE4, qE5, qE6, qE7, qE8, qE9, qE10, qE11, qE12, qE13, qE14, qE15, qE16, qE17, qE18, qE19, qE20, qE21, qE22, qEs1, qEs2, wpAll, qO1, qO2, qI1, qI2, qI3, w_add, w_addl, w_sub, w_mul, w_mull, w_fdiv, w_mod, w_pow, w_lt, w_le, w_gt, w_ge, w_eq, w_ne, w_eqt, w_eql, w_net, w_nel, w_isn, w_ist, w_isi, w_isl, w_abs, w_lent, w_lenl, w_intb, w_list, w_tuple, w_min, w_idxt0, w_idxt1, w_idxu0, w_idxu1, w_idxu2, w_idxl, w_slcl, w_slct, w_tb, w_ti, w_tn, w_tt, w_tl, w_itt, w_itl, w_bindT1, w_bindT2, w_srcl, w_srct, w_cut2, w_cut1, w_cut1', w_cut0, w_ty1, w_ty2, w_ty3, w_ty4, w_ty5, w_ty6, w_ty7, w_ty8, w_ty9, w_ty10, w_ty11, w_ty12, w_ty13, w_ty14, w_ty15, w_ty16, w_ty17, w_ty18, w_ty19, w_ty20, w_ty21, w_mapc, w_mapn, w_appc, w_appn, w_repc, w_repn, w_start, w_lenc, w_ifT, w_ifF, w_ifFF, w_ifTF, w_nT, w_nF, w_anyT, w_anyF, w_d22, ifSome_some, ifLst_lst, ifTup_tup, ifInt_int, lget, lset, lsets, Nat.reduceSub, Nat.reduceAdd, List.length_nil, ↓reduceIte]
    have hl : ((zs ++ [c]).map V.int).length = zs.length + 1 := by simp
    refine ifSome.mk hy (ifSome.mk (place_last (by (clear e hv hQ hr hy hne; omega))) (ifSome.mk (v := .int c) ?_ ?_))
    · rw [hl, Nat.add_sub_cancel, List.map_append]
      have := getApp (zs.map V.int) (V.int c) []; rwa [List.length_map] at this
    dsimp only [qS1, qS2, qS3, qS4, qS5, qS6, qS7, qS8, qS9, qS10, qS11, qS12, qS13, qS14, qS15, qS16, qS17, qS18, qE1, qE2, qE3, qE4, qE5, qE6, qE7, qE8, qE9, qE10, qE11, qE12, qE13, qE14, qE15, qE16, qE17, qE18, qE19, qE20, qE21, qE22, qEs1, qEs2, wpAll, qO1, qO2, qI1, qI2, qI3, w_add, w_addl, w_sub, w_mul, w_mull, w_fdiv, w_mod, w_pow, w_lt, w_le, w_gt, w_ge, w_eq, w_ne, w_eqt, w_eql, w_net, w_nel, w_isn, w_ist, w_isi, w_isl, w_abs, w_lent, w_lenl, w_intb, w_list, w_tuple, w_min, w_idxt0, w_idxt1, w_idxu0, w_idxu1, w_idxu2, w_idxl, w_slcl, w_slct, w_tb, w_ti, w_tn, w_tt, w_tl, w_itt, w_itl, w_bindT1, w_bindT2, w_srcl, w_srct, w_cut2, w_cut1, w_cut1', w_cut0, w_ty1, w_ty2, w_ty3, w_ty4, w_ty5, w_ty6, w_ty7, w_ty8, w_ty9, w_ty10, w_ty11, w_ty12, w_ty13, w_ty14, w_ty15, w_ty16, w_ty17, w_ty18, w_ty19, w_ty20, w_ty21, w_mapc, w_mapn, w_appc, w_appn, w_repc, w_repn, w_start, w_lenc, w_ifT, w_ifF, w_ifFF, w_ifTF, w_nT, w_nF, w_anyT, w_anyF, w_d22, ifSome_some, ifLst_lst, ifTup_tup, ifInt_int, lget, lset, lsets, Nat.reduceSub, Nat.reduceAdd, List.length_nil, ↓reduceIte]
    by_cases hc : c = 0
    · rw [decide_eq_true hc]
      dsimp only [qS1, qS2, qS3, qS4, qS5, qS6, qS7, qS8, qS9, qS10, qS11, qS12, qS13, qS14, qS15, qS16, qS17, qS18, qE1, qE2, qE3, qE4, qE5, qE6, qE7, qE8, qE9, qE10, qE11, qE12, qE13, qE14, qE15, qE16, qE17, qE18, qE19, qE20, qE21, qE22, qEs1, qEs2, wpAll, qO1, qO2, qI1, qI2, qI3, w_add, w_addl, w_sub, w_mul, w_mull, w_fdiv, w_mod, w_pow, w_lt, w_le, w_gt, w_ge, w_eq, w_ne, w_eqt, w_eql, w_net, w_nel, w_isn, w_ist, w_isi, w_isl, w_abs, w_lent, w_lenl, w_intb, w_list, w_tuple, w_min, w_idxt0, w_idxt1, w_idxu0, w_idxu1, w_idxu2, w_idxl, w_slcl, w_slct, w_tb, w_ti, w_tn, w_tt, w_tl, w_itt, w_itl, w_bindT1, w_bindT2, w_srcl, w_srct, w_cut2, w_cut1, w_cut1', w_cut0, w_ty1, w_ty2, w_ty3, w_ty4, w_ty5, w_ty6, w_ty7, w_ty8, w_ty9, w_ty10, w_ty11, w_ty12, w_ty13, w_ty14, w_ty15, w_ty16, w_ty17, w_ty18, w_ty19, w_ty20, w_ty21, w_mapc, w_mapn, w_appc, w_appn, w_repc, w_repn, w_start, w_lenc, w_ifT, w_ifF, w_ifFF, w_ifTF, w_nT, w_nF, w_anyT, w_anyF, w_d22, ifSome_some, ifLst_lst, ifTup_tup, ifInt_int, lget, lset, lsets, Nat.reduceSub, Nat.reduceAdd, List.length_nil, ↓reduceIte]
      refine ⟨Nat.le_refl _, ifSome.mk hy ⟨zs.map V.int, c, by rw [List.map_append]; rfl, ?_⟩⟩
      rw [setApp]
      refine ⟨⟨zs, k + 1, rfl, rfl, ?_⟩, ?_⟩
      · rw [hr, hc, List.append_assoc]; rfl
      · unfold lenAt
        rw [getApp, hy]
        show (zs.map V.int).length < ((zs ++ [c]).map V.int).length
        rw [hl, List.length_map]; exact Nat.lt_succ_self _
    · rw [decide_eq_false hc]
      dsimp only [qS1, qS2, qS3, qS4, qS5, qS6, qS7, qS8, qS9, qS10, qS11, qS12, qS13, qS14, qS15, qS16, qS17, qS18, qE1, qE2, qE3, qE4, qE5, qE6, qE7, qE8, qE9, qE10, qE11, qE12, qE13, qE14, qE15, qE16, qE17, qE18, qE19, qE20, qE21, qE22, qEs1, qEs2, wpAll, qO1, qO2, qI1, qI2, qI3, w_add, w_addl, w_sub, w_mul, w_mull, w_fdiv, w_mod, w_pow, w_lt, w_le, w_gt, w_ge, w_eq, w_ne, w_eqt, w_eql, w_net, w_nel, w_isn, w_ist, w_isi, w_isl, w_abs, w_lent, w_lenl, w_intb, w_list, w_tuple, w_min, w_idxt0, w_idxt1, w_idxu0, w_idxu1, w_idxu2, w_idxl, w_slcl, w_slct, w_tb, w_ti, w_tn, w_tt, w_tl, w_itt, w_itl, w_bindT1, w_bindT2, w_srcl, w_srct, w_cut2, w_cut1, w_cut1', w_cut0, w_ty1, w_ty2, w_ty3, w_ty4, w_ty5, w_ty6, w_ty7, w_ty8, w_ty9, w_ty10, w_ty11, w_ty12, w_ty13, w_ty14, w_ty15, w_ty16, w_ty17, w_ty18, w_ty19, w_ty20, w_ty21, w_mapc, w_mapn, w_appc, w_appn, w_repc, w_repn, w_start, w_lenc, w_ifT, w_ifF, w_ifFF, w_ifTF, w_nT, w_nF, w_anyT, w_anyF, w_d22, ifSome_some, ifLst_lst, ifTup_tup, ifInt_int, lget, lset, lsets, Nat.reduceSub, Nat.reduceAdd, List.length_nil, ↓reduceIte]
      exact hQ _ k hr (.inr ⟨c, by simp, hc⟩)

noncomputable def lWl : PS := (.seq (.setidx 4 (.bin .add (.var 5) (.var 6)) (.bin .sub (.idx (.var 4) (.bin .add (.var 5) (.var 6))) (.bin .mul (.var 2) (.idx (.var 1) (.var 6)))))
 .skip)
noncomputable def bWl : PS := (.seq (.assign 4 (.comp (.bin .mul (.var 0) (.var 1)) 1 [3] (.seq (.var 0)) .no))
 (.seq (.assign 5 (.bin .sub (.bi .len (.cons (.var 0) .nil)) (.bi .len (.cons (.var 1) .nil))))
 (.seq (.forr 6 (.rng (.cons (.bi .len (.cons (.var 1) .nil)) .nil)) lWl)
 (.seq (.ret (.var 4)) .skip))))
theorem s_wl (e : P[f]? = some ⟨4, 7, bWl⟩) {a : Nat} {w : V} {l0 l1 o : List Int} {m s : Int} (ha : H[a]? = some ((l0 ++ l1).map .int)) (hw : items H w = some (o.map .int)) (hl : l1.length = o.length) (hn : (l0 ++ l1).length ≤ 900)
    (h1 : ∀ x ∈ l0 ++ l1, IntMulOk x s) (h2 : ∀ y ∈ o, IntMulOk m y) (hQ : Q (.lst H.length) (H ++ [(wlo s m l0 l1 o).map .int])) : callN sub P (n + 1) f [.lst a, w, .int m, .int s] H Q X := by
  have hn' : l0.length + l1.length ≤ 900 := by rw [List.length_append] at hn; exact hn
  refine callN_mk e rfl ?_
  dsimp only [bWl, qS1, qS2, qS3, qS4, qS5, qS6, qS7, qS8, qS9, qS10, qS11, qS12, qS13, qS14, qS15, qS16, qS17, qS18, qE1, qE2, qE3, qE4, qE5, qE6, qE7, qE8, qE9, qE10, qE11, qE12, qE13, qE14, qE15, qE16, qE17, qE18, qE19, qE20, qE21, qE22, qEs1, qEs2, wpAll, qO1, qO2, qI1, qI2, qI3, w_add, w_addl, w_sub, w_mul, w_mull, w_fdiv, w_mod, w_pow, w_lt, w_le, w_gt, w_ge, w_eq, w_ne, w_eqt, w_eql, w_net, w_nel, w_isn, w_ist, w_isi, w_isl, w_abs, w_lent, w_lenl, w_intb, w_list, w_tuple, w_min, w_idxt0, w_idxt1, w_idxu0, w_idxu1, w_idxu2, w_idxl, w_slcl, w_slct, w_tb, w_ti, w_tn, w_tt, w_tl, w_itt, w_itl, w_bindT1, w_bindT2, w_srcl, w_srct, w_cut2, w_cut1, w_cut1', w_cut0, w_ty1, w_ty2, w_ty3, w_ty4, w_ty5, w_ty6, w_ty7, w_ty8, w_ty9, w_ty10, w_ty11, w_ty12, w_ty13, w_ty14, w_ty15, w_ty16, w_ty17, w_ty18, w_ty19, w_ty20, w_ty21, w_mapc, w_mapn, w_appc, w_appn, w_repc, w_repn, w_start, w_lenc, w_ifT, w_ifF, w_ifFF, w_ifTF, w_nT, w_nF, w_anyT, w_anyF, w_d22, ifSome_some, ifLst_lst, ifTup_tup, ifInt_int, lget, lset, lsets, Nat.reduceSub, Nat.reduceAdd, List.length_nil, ↓reduceIte]
  refine ifSome.mk ha ⟨by rw [List.length_map]; unfold lim; (clear e ha hw hl h1 h2 hQ hn'; omega), ?_⟩
  refine compGo_map' (h := V.int) (g := fun x => V.int (x * s)) (fun x hx k hk => ⟨h1 x hx, hk⟩) ?_
  have ha' : ∀ l : List V, (H ++ [l])[a]? = some ((l0 ++ l1).map .int) := fun l => getKeep (preApp _ _) ha
  have hw' : ∀ l : List V, items (H ++ [l]) w = some (o.map .int) := fun l => itemsKeep (preApp _ _) hw
  refine ifSome.mk (ha' _) (ifSome.mk (hw' _) ?_)
  refine ifSome.mk (hw' _) ?_
  rw [List.length_map, List.length_map, List.length_append]
  have ed : ((l0.length + l1.length : Nat) : Int) - ((o.length : Nat) : Int) = ((l0.length : Nat) : Int) := by (clear e ha hw hn h1 h2 hQ hn' ha' hw'; omega)
  rw [ed]
  refine rng1 (small_nat (by (clear e ha hw hn h1 h2 hQ ha' hw' ed; omega))) ?_
  rw [Int.toNat_natCast]
  refine forGo_rule (fun rest ρ H' => ∃ d1 t1 d2 t2 x, l1 = d1 ++ t1 ∧ o = d2 ++ t2 ∧ d1.length = d2.length ∧ rest = (List.range' d2.length t2.length).map (fun (i : Nat) => V.int (i : Int)) ∧
    ρ = [some (.lst a), some w, some (.int m), some (.int s), some (.lst H.length), some (.int (l0.length : Int)), x] ∧ H' = H ++ [((l0.map fun x => x * s) ++ (wlz s m d1 d2 ++ (t1.map fun x => x * s))).map .int]) ?_ ?_ _ _ _ ⟨[], l1, [], o, _, rfl, rfl, rfl, rfl, rfl, ?_⟩
  · rintro x rest ρ H' k ⟨d1, t1, d2, t2, x0, e1, e2, hd, hx, rfl, rfl⟩ hk
    cases t2 with
    | nil => cases hx
    | cons y t2 =>
      cases t1 with
      | nil => exfalso; rw [e1, e2] at hl; simp at hl; (clear e ha hw hn h1 h2 hQ hn' ha' hw' ed hk e2 hx e1; omega)
      | cons z t1 =>
        rw [range'_len] at hx
        cases hx
        have hwl : (wlz s m d1 d2).length = d2.length := wlz_len hd
        have hy : (o.map V.int)[d2.length]? = some (.int y) := by rw [e2, List.map_append, List.map_cons]; have := getApp (d2.map V.int) (V.int y) (t2.map V.int); rwa [List.length_map] at this
        have hdl : d2.length < (o.map V.int).length := by rw [e2]; simp
        have el : ((l0.map fun x => x * s) ++ (wlz s m d1 d2 ++ ((z :: t1).map fun x => x * s))).map V.int = (((l0.map fun x => x * s) ++ wlz s m d1 d2).map V.int) ++ V.int (z * s) :: (t1.map fun x => x * s).map V.int := by simp
        have ep : (((l0.map fun x => x * s) ++ wlz s m d1 d2).map V.int).length = l0.length + d2.length := by rw [List.length_map, List.length_append, List.length_map, hwl]
        have ei : ((l0.length : Nat) : Int) + ((d2.length : Nat) : Int) = ((l0.length + d2.length : Nat) : Int) := by (clear e ha hw hl hn h1 h2 hQ hn' ha' hw' ed hd e2 e1 hk hwl hy hdl el ep; omega)
        rw [el]
        dsimp only [lWl, qS1, qS2, qS3, qS4, qS5, qS6, qS7, qS8, qS9, qS10, qS11, qS12, qS13, qS14, qS15, qS16, qS17, qS18, qE1, qE2, qE3, qE4, qE5, qE6, qE7, qE8, qE9, qE10, qE11, qE12, qE13, qE14, qE15, qE16, qE17, qE18, qE19, qE20, qE21, qE22, qEs1, qEs2, wpAll, qO1, qO2, qI1, qI2, qI3, w_add, w_addl, w_sub, w_mul, w_mull, w_fdiv, w_mod, w_pow, w_lt, w_le, w_gt, w_ge, w_eq, w_ne, w_eqt, w_eql, w_net, w_nel, w_isn, w_ist, w_isi, w_isl, w_abs, w_lent, w_lenl, w_intb, w_list, w_tuple, w_min, w_idxt0, w_idxt1, w_idxu0, w_idxu1, w_idxu2, w_idxl, w_slcl, w_slct, w_tb, w_ti, w_tn, w_tt, w_tl, w_itt, w_itl, w_bindT1, w_bindT2, w_srcl, w_srct, w_cut2, w_cut1, w_cut1', w_cut0, w_ty1, w_ty2, w_ty3, w_ty4, w_ty5, w_ty6, w_ty7, w_ty8, w_ty9, w_ty10, w_ty11, w_ty12, w_ty13, w_ty14, w_ty15, w_ty16, w_ty17, w_ty18, w_ty19, w_ty20, w_ty21, w_mapc, w_mapn, w_appc, w_appn, w_repc, w_repn, w_start, w_lenc, w_ifT, w_ifF, w_ifFF, w_ifTF, w_nT, w_nF, w_anyT, w_anyF, w_d22, ifSome_some, ifLst_lst, ifTup_tup, ifInt_int, lget, lset, lsets, Nat.reduceSub, Nat.reduceAdd, List.length_nil, ↓reduceIte, w_idxg]
        rw [ei]
        refine ifSome.mk (getApp _ _ _) (ifSome.mk (place_nat (k := l0.length + d2.length) (by rw [List.length_append, ep]; simp)) (ifSome.mk (v := .int (z * s)) (by rw [← ep]; exact getApp _ _ _) ?_))
        refine ifSome.mk (itemsKeep (preApp _ _) hw) (ifSome.mk (place_nat hdl) (ifSome.mk hy ⟨h2 y (by rw [e2]; simp), ?_⟩))
        refine ⟨⟨Nat.le_refl _, Option.some_ne_none _⟩, ?_⟩
        refine ifSome.mk (getApp _ _ _) (ifSome.mk (place_nat (k := l0.length + d2.length) (by rw [List.length_append, ep]; simp)) ?_)
        rw [setApp, ← ep, setApp]
        refine hk _ _ ⟨d1 ++ [z], t1, d2 ++ [y], t2, _, by rw [e1, List.append_assoc]; rfl, by rw [e2, List.append_assoc]; rfl, by simp [hd], by rw [List.length_append]; rfl, rfl, ?_⟩
        have ez : wlz s m (d1 ++ [z]) (d2 ++ [y]) = wlz s m d1 d2 ++ [z * s - m * y] := by unfold wlz; rw [List.zipWith_append hd]; rfl
        rw [ez]; simp
  · rintro ρ H' ⟨d1, t1, d2, t2, x0, e1, e2, hd, hx, rfl, rfl⟩
    cases t2 with
    | cons y t2 => rw [range'_len] at hx; cases hx
    | nil =>
      have ht : t1 = [] := by
        rw [e1, e2] at hl
        exact List.eq_nil_of_length_eq_zero (by simp at hl; (clear e ha hw hn h1 h2 hQ hn' ha' hw' ed e1 e2 hx; omega))
      subst ht
      rw [List.append_nil] at e1 e2
      subst e1 e2
      dsimp only [qS1, qS2, qS3, qS4, qS5, qS6, qS7, qS8, qS9, qS10, qS11, qS12, qS13, qS14, qS15, qS16, qS17, qS18, qE1, qE2, qE3, qE4, qE5, qE6, qE7, qE8, qE9, qE10, qE11, qE12, qE13, qE14, qE15, qE16, qE17, qE18, qE19, qE20, qE21, qE22, qEs1, qEs2, wpAll, qO1, qO2, qI1, qI2, qI3, w_add, w_addl, w_sub, w_mul, w_mull, w_fdiv, w_mod, w_pow, w_lt, w_le, w_gt, w_ge, w_eq, w_ne, w_eqt, w_eql, w_net, w_nel, w_isn, w_ist, w_isi, w_isl, w_abs, w_lent, w_lenl, w_intb, w_list, w_tuple, w_min, w_idxt0, w_idxt1, w_idxu0, w_idxu1, w_idxu2, w_idxl, w_slcl, w_slct, w_tb, w_ti, w_tn, w_tt, w_tl, w_itt, w_itl, w_bindT1, w_bindT2, w_srcl, w_srct, w_cut2, w_cut1, w_cut1', w_cut0, w_ty1, w_ty2, w_ty3, w_ty4, w_ty5, w_ty6, w_ty7, w_ty8, w_ty9, w_ty10, w_ty11, w_ty12, w_ty13, w_ty14, w_ty15, w_ty16, w_ty17, w_ty18, w_ty19, w_ty20, w_ty21, w_mapc, w_mapn, w_appc, w_appn, w_repc, w_repn, w_start, w_lenc, w_ifT, w_ifF, w_ifFF, w_ifTF, w_nT, w_nF, w_anyT, w_anyF, w_d22, ifSome_some, ifLst_lst, ifTup_tup, ifInt_int, lget, lset, lsets, Nat.reduceSub, Nat.reduceAdd, List.length_nil, ↓reduceIte]
      rw [List.map_nil, List.append_nil]
      exact hQ
  · show _ = H ++ [((l0.map fun x => x * s) ++ ([] ++ (l1.map fun x => x * s))).map V.int]
    rw [List.nil_append, ← List.map_append, List.map_map]; rfl
end
end Mine

set_option autoImplicit false
set_option linter.unusedVariables false
set_option linter.unusedSimpArgs false
set_option maxRecDepth 100000
namespace Mine
open PySem
noncomputable def ngQ : PE := .neg (.var 1)
theorem truth_items {H : Hp} {x : V} {xs : List V} (h : items H x = some xs) : truthV H x = some (!xs.isEmpty) := by
  cases x with
  | tup ys => cases h; rfl
  | lst m => show (H[m]?).map _ = _; rw [show H[m]? = some xs from h]; rfl
  | _ => cases h
theorem split_at {xs : List Int} {n : Nat} (h : n ≤ xs.length) : ∃ l0 l1, xs = l0 ++ l1 ∧ l1.length = n ∧ l0.length = xs.length - n :=
  ⟨xs.take (xs.length - n), xs.drop (xs.length - n), (List.take_append_drop _ _).symm, by rw [List.length_drop]; omega, by rw [List.length_take]; omega⟩
theorem last_app {l0 l1 : List Int} {a : Int} (h1 : l1 ≠ []) (h : (l0 ++ l1).getLast? = some a) : l1.getLast? = some a := by
  rw [List.getLast?_append] at h
  cases e : l1.getLast? with
  | none => exact absurd (List.getLast?_eq_none_iff.mp e) h1
  | some b => rw [e] at h; exact h
theorem short_of {D zs : List Int} {k : Nat} (h : D = zs ++ zeros k) (hz : zs = [] ∨ Tr zs) (hl : D.getLast? = some 0) : zs.length < D.length := by
  cases k with
  | zero =>
    exfalso
    rw [show zeros 0 = [] from rfl, List.append_nil] at h
    subst h
    rcases hz with rfl | ⟨l, e, h0⟩
    · cases hl
    · rw [hl] at e; cases e; exact h0 rfl
  | succ k => rw [h]; simp [zeros]
/-! small sums -/
theorem su1 {b y g m n : Nat} (h : b ≤ y) (h1 : m + 1 = g + b) (h2 : n + 1 = g + y) : ((m : Nat) : Int) ≤ ((n : Nat) : Int) := by omega
theorem su2 {b y g m n : Nat} (h : b ≤ y) (h1 : m + 1 = g + b) (h2 : n + 1 = g + y) : m ≤ n := by omega
theorem su3 {y g n : Nat} (h0 : 1 ≤ y) (h1 : 1 ≤ g) (h2 : n + 1 = g + y) : 1 ≤ n := by omega
theorem su4 {i y a b : Nat} (h : i + y ≤ a) (h1 : b ≤ y) : i ≤ a - b := by omega
theorem su5 {g K i d n p : Nat} (hi : i * (K + 1) ≤ d * (K + 1)) (hK : K + (d + 2) * (K + 1) + 2 * (g + 100) ≤ 130000000) (hn : n ≤ 100) : (g + (K + i * (K + 1)) + n) + (g + K + n) ≤ 134217728 := by
  have : (d + 2) * (K + 1) = d * (K + 1) + 2 * (K + 1) := by rw [Nat.add_mul]
  omega
theorem su6 {g y n a i : Nat} (hg : g ≤ 100) (h : n + 1 = g + y) (h1 : i + y ≤ a) (ha : a ≤ 600) : n ≤ 900 := by omega
theorem su7 {K i : Nat} : K + i * (K + 1) + K + 1 ≤ K + (i + 1) * (K + 1) := by rw [Nat.add_mul]; omega
theorem su8 {k l m n g b y : Nat} (h1 : k = n - m) (h2 : l = y - b) (h3 : m + 1 = g + b) (h4 : n + 1 = g + y) (hb : b ≤ y) : k = l := by omega
theorem su9 {i y a z : Nat} (h : i + y ≤ a) (h1 : z < y) : i + 1 + z ≤ a := by omega
theorem su10 {i y a b : Nat} (h : i + y ≤ a) (h1 : b ≤ y) : i + 1 ≤ a - b + 1 := by omega
theorem su11 {m n g b y : Nat} (h1 : m + 1 = g + b) (h2 : n + 1 = g + y) (h : ¬ b ≤ y) : ¬ ((m : Nat) : Int) ≤ ((n : Nat) : Int) := by omega
theorem su12 {m g b : Nat} (h1 : m + 1 = g + b) (h : 1 ≤ b) (h2 : 1 ≤ g) : ¬ ((m : Nat) : Int) ≤ ((0 : Nat) : Int) := by omega
theorem su13 {z d n g y a i : Nat} (h : z < d) (h1 : d = n) (h2 : n + 1 = g + y) (hg : g ≤ 100) (hi : i + y ≤ a) (ha : a ≤ 600) : z ≤ 1000 := by omega
/-- what rest_of gives back -/
structure Rst (A B r : List Int) : Prop where
  tr : r = [] ∨ Tr r
  len : r.length < B.length
  eq : ∃ (c d : Int) (q : Int → Int), c ≠ 0 ∧ d ≠ 0 ∧ PF q ∧ ∀ t, c * ev A t = q t * ev B t + d * ev r t
theorem trim_sm {K k : Nat} {D zs : List Int} (h : D = zs ++ zeros k) (hD : AllSm K D) : AllSm K zs := fun x hx => hD x (by rw [h]; exact List.mem_append_left _ hx)
/-! a common factor G ahead of everything (the sizes are those of what stands behind it) -/
noncomputable def mulT (G xs : List Int) : List Int := match xs with | [] => [] | _ :: _ => mulP G xs
theorem mulT_tr {G xs : List Int} (h : Tr xs) : mulT G xs = mulP G xs := by
  cases xs with
  | nil => exact absurd rfl h.ne
  | cons _ _ => rfl
theorem addP_sm {a : Nat} : ∀ {xs ys : List Int}, AllSm a xs → AllSm a ys → AllSm (a + 1) (addP xs ys)
  | [], ys, _, h => h.mono (Nat.le_succ _)
  | x :: xs, [], h, _ => h.mono (Nat.le_succ _)
  | x :: xs, y :: ys, h1, h2 => .cons (h1.hd.add h2.hd) (addP_sm h1.tl h2.tl)
theorem mulP_sm {a b : Nat} : ∀ {xs ys : List Int}, AllSm a xs → AllSm b ys → AllSm (a + b + xs.length) (mulP xs ys)
  | [], _, _, _ => .nil
  | x :: r, ys, h1, h2 => by
    have i1 := AllSm.smul h1.hd h2
    have i2 := mulP_sm h1.tl h2
    exact (addP_sm (i1.mono (Nat.le_add_right _ r.length)) (.cons .zero i2)).mono (by rw [List.length_cons]; omega)
theorem trim_pre : ∀ xs : List Int, ∃ (ys : List Int) (k : Nat), xs = ys ++ zeros k ∧ (ys = [] ∨ Tr ys)
  | [] => ⟨[], 0, rfl, .inl rfl⟩
  | x :: r => by
    obtain ⟨ys, k, h, t⟩ := trim_pre r
    rcases t with rfl | t
    · by_cases hx : x = 0
      · exact ⟨[], k + 1, by rw [h, hx]; rfl, .inl rfl⟩
      · exact ⟨[x], k, by rw [h]; rfl, .inr (.one hx)⟩
    · exact ⟨x :: ys, k, by rw [h]; rfl, .inr t.cons⟩
theorem tr_of_ev {xs ys : List Int} (hx : xs = [] ∨ Tr xs) (hy : Tr ys) {c : Int} (e : ∀ t, ev xs t = c * ev ys t) (hc : c ≠ 0) : Tr xs := by
  rcases hx with rfl | h
  · obtain ⟨t, ht⟩ := hy.nz
    exact absurd (e t).symm (Int.mul_ne_zero hc ht)
  · exact h
/-- the factor in common -/
structure Fct (G : List Int) (l : Int) (g : Nat) : Prop where
  last : G.getLast? = some l
  pos : 0 < l
  one : gAll G 0 = 1
  sm : AllSm g G
  len : G.length ≤ 100
theorem Fct.tr {G : List Int} {l : Int} {g : Nat} (h : Fct G l g) : Tr G := ⟨l, h.last, by have := h.pos; omega⟩
theorem Fct.red {G zs ws : List Int} {lG lz lw m : Int} {g : Nat} (h : Fct G lG g) (hz : zs.getLast? = some lz) (z0 : lz ≠ 0) (hw : ws.getLast? = some lw) (w0 : lw ≠ 0) (hm : m ≠ 0) (e : ∀ t, ev zs t = m * (ev G t * ev ws t)) : redI zs lz = mulP G (redI ws lw) := by
  have z1 := List.mem_of_getLast? hz
  have w1 := List.mem_of_getLast? hw
  refine prim_eq (redI_gcd z1 z0) (gauss h.one (redI_gcd w1 w0)) (redI_getLast hz) (mulP_last h.last (redI_getLast hw)) (redI_last z1 z0) (Int.mul_pos h.pos (redI_last w1 w0)) (gOf_ne z1 z0) (Int.mul_ne_zero hm (gOf_ne w1 w0)) fun t => ?_
  rw [← ev_red, e, ev_mulP, ev_red (r := ws) (l := lw) t]; grind
section
variable {sub : Nat → Nat → Bool} {P : List Fn} {f n dv tr re wl ro : Nat} {H : Hp} {Q : V → Hp → Prop} {X : Nat → Hp → Prop}
theorem ng_ok {Φ : Call} (g : Int) (ρ : Loc) (H' : Hp) (Z : V → Hp → Prop) (hg : lget ρ 1 = some (.int g)) (hz : Z (.int (-g)) H') : wpE sub Φ ngQ ρ H' Z := by
  dsimp only [ngQ, wpE]
  exact ifSome.mk hg hz
noncomputable def cRest : PE := (.cmp .ge (.bi .len (.cons (.var 2) .nil)) (.bi .len (.cons (.var 1) .nil)))
noncomputable def lRest (tr wl re : Nat) : PS := (.seq (.assign 2 (.call tr (.cons (.call wl (.cons (.var 2) (.cons (.var 1) (.cons (.idx (.var 2) (.neg (.cint 1))) (.cons (.idx (.var 1) (.neg (.cint 1))) .nil))))) .nil)))
 (.seq (.ite (.var 2) (.seq (.assign 2 (.call re (.cons (.var 2) .nil)))
 .skip) .skip)
 .skip))
noncomputable def bRest (tr wl re : Nat) : PS := (.seq (.assign 2 (.bi .list (.cons (.var 0) .nil)))
 (.seq (.whl cRest (lRest tr wl re))
 (.seq (.ret (.var 2)) .skip)))
noncomputable def lenV (H : Hp) (o : Option V) : Nat := match o with | some x => (match items H x with | some xs => xs.length | none => 0) | none => 0
theorem lenV_eq {H : Hp} {x : V} {xs : List V} (h : items H x = some xs) : lenV H (some x) = xs.length := by
  show (match items H x with | some xs => xs.length | none => 0) = _
  rw [h]
theorem s_rest (e : P[f]? = some ⟨2, 3, bRest tr wl re⟩) (et : P[tr]? = some ⟨1, 2, bTrim⟩) (ew : P[wl]? = some ⟨4, 7, bWl⟩) (er : P[re]? = some ⟨1, 3, bRed dv ngQ⟩) (ed : P[dv]? = some ⟨2, 3, bPDiv⟩)
    {v w : V} {G A B : List Int} {lG lb : Int} {g K : Nat} (hG : Fct G lG g) (hv : items H v = some ((mulT G A).map .int)) (hw : items H w = some ((mulP G B).map .int)) (tA : A = [] ∨ Tr A) (hlb : B.getLast? = some lb) (h0 : lb ≠ 0) (hA : A.length ≤ 600) (sA : AllSm K A) (sB : AllSm K B)
    (hK : K + (A.length - B.length + 2) * (K + 1) + 2 * (g + 100) ≤ 130000000)
    (hQ : ∀ H' k r, H <+: H' → H'[k]? = some ((mulT G r).map .int) → Rst A B r → AllSm (K + (A.length - B.length + 1) * (K + 1)) r → Q (.lst k) H') : callN sub P (n + 3) f [v, w] H Q X := by
  have hBne : B ≠ [] := by intro h; rw [h] at hlb; cases hlb
  have hB1 : 1 ≤ B.length := List.length_pos_iff.mpr hBne
  have hG1 : 1 ≤ G.length := List.length_pos_iff.mpr hG.tr.ne
  have tB : Tr B := ⟨lb, hlb, h0⟩
  have hBl := mulP_len hG.tr.ne hBne
  have hBlast := mulP_last hG.last hlb
  have sG := hG.sm
  have nG := hG.len
  have lG0 : lG ≠ 0 := by have := hG.pos; omega
  have sMB : AllSm (g + K + G.length) (mulP G B) := mulP_sm sG sB
  refine callN_mk e rfl ?_
  dsimp only [bRest, qS1, qS2, qS3, qS4, qS5, qS6, qS7, qS8, qS9, qS10, qS11, qS12, qS13, qS14, qS15, qS16, qS17, qS18, qE1, qE2, qE3, qE4, qE5, qE6, qE7, qE8, qE9, qE10, qE11, qE12, qE13, qE14, qE15, qE16, qE17, qE18, qE19, qE20, qE21, qE22, qEs1, qEs2, wpAll, qO1, qO2, qI1, qI2, qI3, w_add, w_addl, w_sub, w_mul, w_mull, w_fdiv, w_mod, w_pow, w_lt, w_le, w_gt, w_ge, w_eq, w_ne, w_eqt, w_eql, w_net, w_nel, w_isn, w_ist, w_isi, w_isl, w_abs, w_lent, w_lenl, w_intb, w_list, w_tuple, w_min, w_idxt0, w_idxt1, w_idxu0, w_idxu1, w_idxu2, w_idxl, w_slcl, w_slct, w_tb, w_ti, w_tn, w_tt, w_tl, w_itt, w_itl, w_bindT1, w_bindT2, w_srcl, w_srct, w_cut2, w_cut1, w_cut1', w_cut0, w_ty1, w_ty2, w_ty3, w_ty4, w_ty5, w_ty6, w_ty7, w_ty8, w_ty9, w_ty10, w_ty11, w_ty12, w_ty13, w_ty14, w_ty15, w_ty16, w_ty17, w_ty18, w_ty19, w_ty20, w_ty21, w_mapc, w_mapn, w_appc, w_appn, w_repc, w_repn, w_start, w_lenc, w_ifT, w_ifF, w_ifFF, w_ifTF, w_nT, w_nF, w_anyT, w_anyF, w_d22, ifSome_some, ifLst_lst, ifTup_tup, ifInt_int, lget, lset, lsets, Nat.reduceSub, Nat.reduceAdd, List.length_nil, ↓reduceIte]
  refine ifSome.mk hv ?_
  refine ⟨fun ρ H' => ∃ (a : Nat) (ys : List Int) (i : Nat), ρ = [some v, some w, some (.lst a)] ∧ H <+: H' ∧ H'[a]? = some ((mulT G ys).map .int) ∧ (ys = [] ∨ Tr ys) ∧ i + ys.length ≤ A.length ∧ i ≤ A.length - B.length + 1 ∧ AllSm (K + i * (K + 1)) ys ∧
    ∃ (c d : Int) (q : Int → Int), c ≠ 0 ∧ d ≠ 0 ∧ PF q ∧ ∀ t, c * ev A t = q t * ev B t + d * ev ys t, fun ρ H' => lenV H' (lget ρ 2),
    ⟨H.length, A, 0, rfl, preApp _ _, getApp _ _ _, tA, Nat.le_of_eq (Nat.zero_add _), Nat.zero_le _, sA.mono (Nat.le_add_right _ _), 1, 1, fun _ => 0, by decide, by decide, .const 0, fun t => by dsimp only; omega⟩, ?_⟩
  rintro ρ H' ⟨a, ys, i, rfl, hp, ha, ty, hi, hi2, sy, c, d, q, hc, hd, pq, heq⟩
  dsimp only [cRest, qS1, qS2, qS3, qS4, qS5, qS6, qS7, qS8, qS9, qS10, qS11, qS12, qS13, qS14, qS15, qS16, qS17, qS18, qE1, qE2, qE3, qE4, qE5, qE6, qE7, qE8, qE9, qE10, qE11, qE12, qE13, qE14, qE15, qE16, qE17, qE18, qE19, qE20, qE21, qE22, qEs1, qEs2, wpAll, qO1, qO2, qI1, qI2, qI3, w_add, w_addl, w_sub, w_mul, w_mull, w_fdiv, w_mod, w_pow, w_lt, w_le, w_gt, w_ge, w_eq, w_ne, w_eqt, w_eql, w_net, w_nel, w_isn, w_ist, w_isi, w_isl, w_abs, w_lent, w_lenl, w_intb, w_list, w_tuple, w_min, w_idxt0, w_idxt1, w_idxu0, w_idxu1, w_idxu2, w_idxl, w_slcl, w_slct, w_tb, w_ti, w_tn, w_tt, w_tl, w_itt, w_itl, w_bindT1, w_bindT2, w_srcl, w_srct, w_cut2, w_cut1, w_cut1', w_cut0, w_ty1, w_ty2, w_ty3, w_ty4, w_ty5, w_ty6, w_ty7, w_ty8, w_ty9, w_ty10, w_ty11, w_ty12, w_ty13, w_ty14, w_ty15, w_ty16, w_ty17, w_ty18, w_ty19, w_ty20, w_ty21, w_mapc, w_mapn, w_appc, w_appn, w_repc, w_repn, w_start, w_lenc, w_ifT, w_ifF, w_ifFF, w_ifTF, w_nT, w_nF, w_anyT, w_anyF, w_d22, ifSome_some, ifLst_lst, ifTup_tup, ifInt_int, lget, lset, lsets, Nat.reduceSub, Nat.reduceAdd, List.length_nil, ↓reduceIte, w_leng]
  refine ifSome.mk ha (ifSome.mk (itemsKeep hp hw) ?_)
  rw [List.length_map, List.length_map]
  have lens : ys = [] ∨ (mulT G ys).length + 1 = G.length + ys.length := by
    rcases ty with h | h
    · exact .inl h
    · exact .inr (by rw [mulT_tr h]; exact mulP_len hG.tr.ne h.ne)
  by_cases hge' : B.length ≤ ys.length
  · have hyn : ys ≠ [] := fun h => by rw [h, List.length_nil] at hge'; omega
    have hly := lens.resolve_left hyn
    rw [decide_eq_true (su1 hge' hBl hly)]
    have ty' : Tr ys := ty.resolve_left hyn
    rw [mulT_tr ty'] at ha hly
    obtain ⟨l, hl, hl0⟩ := id ty'
    obtain ⟨k0, k1, hsp, h1, h2⟩ := split_at (xs := mulP G ys) (n := (mulP G B).length) (su2 hge' hBl hly)
    obtain ⟨l0, l1, rfl, g1, g2⟩ := split_at hge'
    have hl2 := mulP_last hG.last hl
    have hyl : 1 ≤ ((mulP G (l0 ++ l1)).map V.int).length := by rw [List.length_map]; exact su3 (Nat.le_trans hB1 hge') hG1 hly
    have sl : Sm (K + i * (K + 1)) l := sy l (List.mem_of_getLast? hl)
    have slb : Sm K lb := sB lb (List.mem_of_getLast? hlb)
    have sMy : AllSm (g + (K + i * (K + 1)) + G.length) (mulP G (l0 ++ l1)) := mulP_sm sG sy
    have hib : i ≤ A.length - B.length := su4 hi hge'
    have hmul : i * (K + 1) ≤ (A.length - B.length) * (K + 1) := Nat.mul_le_mul_right _ hib
    have hbits : (g + (K + i * (K + 1)) + G.length) + (g + K + G.length) ≤ 134217728 := su5 (p := 0) hmul hK nG
    have hMB1 : 1 ≤ (mulP G B).length := su3 hB1 hG1 hBl
    have hk1 : k1 ≠ [] := fun h => Nat.lt_irrefl 0 (Nat.lt_of_lt_of_le hMB1 (Nat.le_of_eq (by rw [← h1, h]; rfl)))
    dsimp only [lRest, qS1, qS2, qS3, qS4, qS5, qS6, qS7, qS8, qS9, qS10, qS11, qS12, qS13, qS14, qS15, qS16, qS17, qS18, qE1, qE2, qE3, qE4, qE5, qE6, qE7, qE8, qE9, qE10, qE11, qE12, qE13, qE14, qE15, qE16, qE17, qE18, qE19, qE20, qE21, qE22, qEs1, qEs2, wpAll, qO1, qO2, qI1, qI2, qI3, w_add, w_addl, w_sub, w_mul, w_mull, w_fdiv, w_mod, w_pow, w_lt, w_le, w_gt, w_ge, w_eq, w_ne, w_eqt, w_eql, w_net, w_nel, w_isn, w_ist, w_isi, w_isl, w_abs, w_lent, w_lenl, w_intb, w_list, w_tuple, w_min, w_idxt0, w_idxt1, w_idxu0, w_idxu1, w_idxu2, w_idxl, w_slcl, w_slct, w_tb, w_ti, w_tn, w_tt, w_tl, w_itt, w_itl, w_bindT1, w_bindT2, w_srcl, w_srct, w_cut2, w_cut1, w_cut1', w_cut0, w_ty1, w_ty2, w_ty3, w_ty4, w_ty5, w_ty6, w_ty7, w_ty8, w_ty9, w_ty10, w_ty11, w_ty12, w_ty13, w_ty14, w_ty15, w_ty16, w_ty17, w_ty18, w_ty19, w_ty20, w_ty21, w_mapc, w_mapn, w_appc, w_appn, w_repc, w_repn, w_start, w_lenc, w_ifT, w_ifF, w_ifFF, w_ifTF, w_nT, w_nF, w_anyT, w_anyF, w_d22, ifSome_some, ifLst_lst, ifTup_tup, ifInt_int, lget, lset, lsets, Nat.reduceSub, Nat.reduceAdd, List.length_nil, ↓reduceIte, w_idxg]
    refine ifSome.mk ha (ifSome.mk (place_last hyl) (ifSome.mk (v := .int (lG * l)) ?_ ?_))
    · rw [List.length_map, List.getElem?_map, ← List.getLast?_eq_getElem?, hl2]; rfl
    refine ifSome.mk (itemsKeep hp hw) (ifSome.mk (place_last (by rw [List.length_map]; exact hMB1)) (ifSome.mk (v := .int (lG * lb)) ?_ ?_))
    · rw [List.length_map, List.getElem?_map, ← List.getLast?_eq_getElem?, hBlast]; rfl
    rw [hsp] at ha
    refine s_wl ew ha (itemsKeep hp hw) h1 (by rw [← hsp]; exact su6 nG hly hi hA) (fun x hx => IntMulOk.sum (sMy x (by rw [hsp]; exact hx)) (sMB _ (List.mem_of_getLast? hBlast)) hbits) (fun y hy => IntMulOk.sum (sMy _ (List.mem_of_getLast? hl2)) (sMB y hy) hbits) ?_
    have eD := fun t => ev_wlo (s := lG * lb) (m := lG * l) (l0 := k0) h1 t
    have lD : (wlo (lG * lb) (lG * l) k0 k1 (mulP G B)).getLast? = some 0 := by
      have := wlz_last (s := lG * lb) (m := lG * l) h1 (last_app hk1 (by rw [← hsp]; exact hl2)) hBlast
      rw [wlo, List.getLast?_append, this, show lG * l * (lG * lb) - lG * l * (lG * lb) = 0 from Int.sub_self _]; rfl
    have nD : (wlo (lG * lb) (lG * l) k0 k1 (mulP G B)).length = (mulP G (l0 ++ l1)).length := by rw [wlo_len h1, hsp, List.length_append, h1]
    -- the same without the factor
    have sD := wlo_sm (l0 := l0) (l1 := l1) slb sl (fun x hx => sy x (List.mem_append_left _ hx)) (fun x hx => sy x (List.mem_append_right _ hx)) sB
    have eD' := fun t => ev_wlo (s := lb) (m := l) (l0 := l0) g1 t
    have lD' : (wlo lb l l0 l1 B).getLast? = some 0 := by
      have := wlz_last (s := lb) (m := l) g1 (last_app (fun h => Nat.lt_irrefl 0 (Nat.lt_of_lt_of_le hB1 (Nat.le_of_eq (by rw [← g1, h]; rfl)))) hl) hlb
      rw [wlo, List.getLast?_append, this, show l * lb - l * lb = 0 from Int.sub_self _]; rfl
    have nD' : (wlo lb l l0 l1 B).length = (l0 ++ l1).length := by rw [wlo_len g1, List.length_append, g1]
    have sD' : AllSm (K + (i + 1) * (K + 1)) (wlo lb l l0 l1 B) := sD.mono su7
    have hk0 : k0.length = l0.length := su8 h2 g2 hBl hly hge'
    rw [← hsp, hk0] at eD
    clear sD
    revert eD lD nD eD' lD' nD' sD'
    generalize wlo (lG * lb) (lG * l) k0 k1 (mulP G B) = D
    generalize wlo lb l l0 l1 B = D'
    intro eD lD nD eD' lD' nD' sD'
    have eDD : ∀ t, ev D t = lG * (ev G t * ev D' t) := fun t => by rw [eD, eD', ev_mulP, ev_mulP]; grind
    obtain ⟨ws, k', hws, tw⟩ := trim_pre D'
    have ews := fun t => trim_ev hws t
    have hltw := short_of hws tw lD'
    have sws := trim_sm hws sD'
    refine s_trim et (v := .lst H'.length) (getApp _ _ _) fun zs k hz tz => ?_
    have ez := fun t => trim_ev hz t
    have hlt := short_of hz tz lD
    have hpz : H <+: H' ++ [D.map V.int] ++ [zs.map V.int] := preTrans hp (preTrans (preApp _ _) (preApp _ _))
    have hzg : (H' ++ [D.map V.int] ++ [zs.map V.int])[(H' ++ [D.map V.int]).length]? = some (zs.map V.int) := getApp _ _ _
    refine ifSome.mk (truth_items (x := .lst (H' ++ [D.map V.int]).length) hzg) ?_
    have old : lenV H' (some (.lst a)) = (mulP G (l0 ++ l1)).length := by rw [lenV_eq (x := .lst a) ha, List.length_map, hsp]
    have pq' : PF (fun t => q t * lb + d * (l * t ^ l0.length)) := (pq.mul (.const lb)).add (((PF.const l).mul (pf_pow l0.length)).smul d)
    rcases tw with rfl | tw
    · have hz0 : zs = [] := by
        rcases tz with h | h
        · exact h
        · obtain ⟨t, ht⟩ := h.nz
          exact absurd (by rw [← ez, eDD, ews, ev_nil]; omega) ht
      subst hz0
      refine ⟨⟨_, [], i + 1, rfl, hpz, hzg, .inl rfl, su9 hi (by rw [← nD']; exact hltw), su10 hi hge', .nil, c * lb, 1, fun t => q t * lb + d * (l * t ^ l0.length), Int.mul_ne_zero hc h0, by decide, pq', fun t => ?_⟩, ?_⟩
      · have h3 := heq t
        have h4 := eD' t
        rw [ews, ev_nil] at h4
        rw [ev_nil]; grind
      · show lenV _ (some (V.lst _)) < lenV H' (some (V.lst a))
        rw [lenV_eq (x := .lst _) hzg, old, List.length_map, ← nD]; exact hlt
    · have tz' : Tr zs := tr_of_ev tz (tr_mulP hG.tr tw) (c := lG) (fun t => by rw [← ez, eDD, ews, ev_mulP]) lG0
      obtain ⟨lz, hlz, hlz0⟩ := tz'
      obtain ⟨lw, hlw, hlw0⟩ := tw
      have hne : (!(zs.map V.int).isEmpty) = true := by
        cases zs with
        | nil => cases hlz
        | cons _ _ => rfl
      rw [hne]
      dsimp only [qS1, qS2, qS3, qS4, qS5, qS6, qS7, qS8, qS9, qS10, qS11, qS12, qS13, qS14, qS15, qS16, qS17, qS18, qE1, qE2, qE3, qE4, qE5, qE6, qE7, qE8, qE9, qE10, qE11, qE12, qE13, qE14, qE15, qE16, qE17, qE18, qE19, qE20, qE21, qE22, qEs1, qEs2, wpAll, qO1, qO2, qI1, qI2, qI3, w_add, w_addl, w_sub, w_mul, w_mull, w_fdiv, w_mod, w_pow, w_lt, w_le, w_gt, w_ge, w_eq, w_ne, w_eqt, w_eql, w_net, w_nel, w_isn, w_ist, w_isi, w_isl, w_abs, w_lent, w_lenl, w_intb, w_list, w_tuple, w_min, w_idxt0, w_idxt1, w_idxu0, w_idxu1, w_idxu2, w_idxl, w_slcl, w_slct, w_tb, w_ti, w_tn, w_tt, w_tl, w_itt, w_itl, w_bindT1, w_bindT2, w_srcl, w_srct, w_cut2, w_cut1, w_cut1', w_cut0, w_ty1, w_ty2, w_ty3, w_ty4, w_ty5, w_ty6, w_ty7, w_ty8, w_ty9, w_ty10, w_ty11, w_ty12, w_ty13, w_ty14, w_ty15, w_ty16, w_ty17, w_ty18, w_ty19, w_ty20, w_ty21, w_mapc, w_mapn, w_appc, w_appn, w_repc, w_repn, w_start, w_lenc, w_ifT, w_ifF, w_ifFF, w_ifTF, w_nT, w_nF, w_anyT, w_anyF, w_d22, ifSome_some, ifLst_lst, ifTup_tup, ifInt_int, lget, lset, lsets, Nat.reduceSub, Nat.reduceAdd, List.length_nil, ↓reduceIte]
      have hmem := List.mem_of_getLast? hlw
      refine s_red (n := n + 1) (ng := ngQ) ng_ok er (fun a b H' Z X' hz => s_pdiv ed hz) (v := .lst _) hzg hlz hlz0 (su13 hlt nD hly nG hi hA) ?_
      have trw := tr_red hlw hlw0
      have ered : redI zs lz = mulT G (redI ws lw) := by rw [mulT_tr trw]; exact hG.red hlz hlz0 hlw hlw0 lG0 fun t => by rw [← ez, eDD, ews]
      refine ⟨⟨_, redI ws lw, i + 1, rfl, preTrans hpz (preApp _ _), by rw [getApp, ered], .inr trw, by rw [redI_len]; exact su9 hi (by rw [← nD']; exact hltw), su10 hi hge', redI_sm hmem hlw0 sws, c * lb, d * gOf ws lw, fun t => q t * lb + d * (l * t ^ l0.length), Int.mul_ne_zero hc h0, Int.mul_ne_zero hd (gOf_ne hmem hlw0), pq', fun t => ?_⟩, ?_⟩
      · have h3 := heq t
        have h4 := eD' t
        rw [ews, ev_red (r := ws) (l := lw) t] at h4
        grind
      · show lenV _ (some (V.lst _)) < lenV H' (some (V.lst a))
        rw [lenV_eq (x := .lst _) (getApp _ _ _), old, List.length_map, redI_len, ← nD]; exact hlt
  · have hn : ¬ (((mulP G B).length : Nat) : Int) ≤ (((mulT G ys).length : Nat) : Int) := by
      rcases lens with rfl | h
      · exact su12 hBl hB1 hG1
      · exact su11 hBl h hge'
    rw [decide_eq_false hn]
    exact hQ _ _ _ hp ha ⟨ty, Nat.lt_of_not_le hge', c, d, q, hc, hd, pq, heq⟩ (sy.mono (Nat.add_le_add_left (Nat.mul_le_mul_right _ hi2) _))
end
end Mine

set_option autoImplicit false
set_option linter.unusedVariables false
set_option linter.unusedSimpArgs false
set_option maxRecDepth 100000
namespace Mine
open PySem
/-- a combination of two -/
noncomputable def Comb (A B x : List Int) : Prop := ∃ (c : Int) (u v : Int → Int), c ≠ 0 ∧ PF u ∧ PF v ∧ ∀ t, c * ev x t = u t * ev A t + v t * ev B t
/-- the greatest divisor in common -/
structure Gcd (A B g : List Int) (l : Int) : Prop where
  last : g.getLast? = some l
  pos : 0 < l
  one : gAll g 0 = 1
  d1 : Dv (ev g) (ev A)
  d2 : Dv (ev g) (ev B)
  cb : Comb A B g
theorem Comb.rest {A B A1 B1 r : List Int} (h1 : Comb A B A1) (h2 : Comb A B B1) (R : Rst A1 B1 r) : Comb A B r := by
  obtain ⟨c1, u1, v1, hc1, pu1, pv1, e1⟩ := h1
  obtain ⟨c2, u2, v2, hc2, pu2, pv2, e2⟩ := h2
  obtain ⟨c, d, q, hc, hd, pq, e⟩ := R.eq
  refine ⟨c1 * c2 * d, fun t => c2 * c * u1 t + -(c1 * (q t * u2 t)), fun t => c2 * c * v1 t + -(c1 * (q t * v2 t)), Int.mul_ne_zero (Int.mul_ne_zero hc1 hc2) hd,
    (pu1.smul (c2 * c)).add ((pq.mul pu2).smul c1).neg, (pv1.smul (c2 * c)).add ((pq.mul pv2).smul c1).neg, fun t => ?_⟩
  have := e1 t; have := e2 t; have := e t; grind
theorem Rst.back {A B r : List Int} (R : Rst A B r) {h : Int → Int} (h1 : Dv h (ev B)) (h2 : Dv h (ev r)) : Dv h (ev A) := by
  obtain ⟨c, d, q, hc, hd, pq, e⟩ := R.eq
  exact Dv.comb h1 h2 pq (.const d) hc fun t => by rw [e t]
theorem pow3 {d : Nat} (h : 1 ≤ d) : d + 2 ≤ 3 ^ d := by
  induction d with
  | zero => omega
  | succ d ih =>
    rcases Nat.eq_zero_or_pos d with rfl | hd
    · decide
    · have := ih hd
      rw [Nat.pow_succ]; (clear ih h; omega)
theorem grow {N K K1 a b : Nat} (hb : b < a) (ha : a ≤ N) (h : K1 + 1 ≤ 2 * (K + 1) * 3 ^ (N - a)) : K1 + (a - b + 1) * (K1 + 1) + 1 ≤ 2 * (K + 1) * 3 ^ (N - b) := by
  obtain ⟨d, rfl⟩ := Nat.exists_eq_add_of_le (Nat.le_of_lt hb)
  have hd : 1 ≤ d := by (clear ha h; omega)
  have e1 : N - b = (N - (b + d)) + d := by (clear h hd; omega)
  rw [e1, Nat.pow_add, ← Nat.mul_assoc, Nat.add_sub_cancel_left]
  have e2 : K1 + (d + 1) * (K1 + 1) + 1 = (K1 + 1) * (d + 2) := by grind
  rw [e2]
  exact Nat.mul_le_mul h (pow3 hd)
section
variable {sub : Nat → Nat → Bool} {P : List Fn} {f n dv tr re wl ro sp qu co : Nat} {H : Hp} {Q : V → Hp → Prop} {X : Nat → Hp → Prop}
noncomputable def lCommon (ro : Nat) : PS := (.seq (.assign 2 (.call ro (.cons (.var 0) (.cons (.var 1) .nil))))
 (.seq (.assign 0 (.var 1))
 (.seq (.assign 1 (.var 2))
 .skip)))
noncomputable def bCommon (ro re : Nat) : PS := (.seq (.whl (.var 1) (lCommon ro))
 (.seq (.ret (.call re (.cons (.var 0) .nil)))
 .skip))
theorem pow3' {d : Nat} (h : 1 ≤ d) : d + 3 ≤ 2 * 3 ^ d := by
  have := pow3 h
  have : 1 ≤ 3 ^ d := Nat.pow_pos (by decide)
  (clear h; omega)
theorem grow' {N K K1 a b : Nat} (hb : b < a) (ha : a ≤ N) (h : K1 + 1 ≤ 2 * (K + 1) * 3 ^ (N - a)) : K1 + (a - b + 2) * (K1 + 1) ≤ 4 * (K + 1) * 3 ^ N := by
  obtain ⟨d, rfl⟩ := Nat.exists_eq_add_of_le (Nat.le_of_lt hb)
  have hd : 1 ≤ d := by (clear ha h; omega)
  rw [Nat.add_sub_cancel_left]
  have e2 : K1 + (d + 2) * (K1 + 1) + 1 = (K1 + 1) * (d + 3) := by grind
  have h2 := Nat.mul_le_mul h (pow3' hd)
  have h3 : 2 * (K + 1) * 3 ^ (N - (b + d)) * (2 * 3 ^ d) = 4 * (K + 1) * (3 ^ (N - (b + d)) * 3 ^ d) := by grind
  rw [← Nat.pow_add] at h3
  have h4 : 3 ^ (N - (b + d) + d) ≤ 3 ^ N := Nat.pow_le_pow_right (by decide) (by (clear hb h hd e2 h2 h3; omega))
  have h5 := Nat.mul_le_mul_left (4 * (K + 1)) h4
  (clear hb ha h hd h4; omega)
theorem s_common (e : P[f]? = some ⟨2, 3, bCommon ro re⟩) (eo : P[ro]? = some ⟨2, 3, bRest tr wl re⟩) (et : P[tr]? = some ⟨1, 2, bTrim⟩) (ew : P[wl]? = some ⟨4, 7, bWl⟩) (er : P[re]? = some ⟨1, 3, bRed dv ngQ⟩) (ed : P[dv]? = some ⟨2, 3, bPDiv⟩)
    {v w : V} {G A B : List Int} {lG : Int} {g N K : Nat} (hG : Fct G lG g) (hv : items H v = some ((mulP G A).map .int)) (hw : items H w = some ((mulT G B).map .int)) (tA : Tr A) (tB : B = [] ∨ Tr B) (hA : A.length ≤ N) (hB : B.length ≤ N) (hN : N ≤ 100) (sA : AllSm K A) (sB : AllSm K B)
    (hK : 4 * (K + 1) * 3 ^ N + 2 * (g + 100) ≤ 130000000)
    (hQ : ∀ H' k x l, H <+: H' → H'[k]? = some ((mulP G x).map .int) → Gcd A B x l → Q (.lst k) H') : callN sub P (n + 4) f [v, w] H Q X := by
  refine callN_mk e rfl ?_
  dsimp only [bCommon, qS1, qS2, qS3, qS4, qS5, qS6, qS7, qS8, qS9, qS10, qS11, qS12, qS13, qS14, qS15, qS16, qS17, qS18, qE1, qE2, qE3, qE4, qE5, qE6, qE7, qE8, qE9, qE10, qE11, qE12, qE13, qE14, qE15, qE16, qE17, qE18, qE19, qE20, qE21, qE22, qEs1, qEs2, wpAll, qO1, qO2, qI1, qI2, qI3, w_add, w_addl, w_sub, w_mul, w_mull, w_fdiv, w_mod, w_pow, w_lt, w_le, w_gt, w_ge, w_eq, w_ne, w_eqt, w_eql, w_net, w_nel, w_isn, w_ist, w_isi, w_isl, w_abs, w_lent, w_lenl, w_intb, w_list, w_tuple, w_min, w_idxt0, w_idxt1, w_idxu0, w_idxu1, w_idxu2, w_idxl, w_slcl, w_slct, w_tb, w_ti, w_tn, w_tt, w_tl, w_itt, w_itl, w_bindT1, w_bindT2, w_srcl, w_srct, w_cut2, w_cut1, w_cut1', w_cut0, w_ty1, w_ty2, w_ty3, w_ty4, w_ty5, w_ty6, w_ty7, w_ty8, w_ty9, w_ty10, w_ty11, w_ty12, w_ty13, w_ty14, w_ty15, w_ty16, w_ty17, w_ty18, w_ty19, w_ty20, w_ty21, w_mapc, w_mapn, w_appc, w_appn, w_repc, w_repn, w_start, w_lenc, w_ifT, w_ifF, w_ifFF, w_ifTF, w_nT, w_nF, w_anyT, w_anyF, w_d22, ifSome_some, ifLst_lst, ifTup_tup, ifInt_int, lget, lset, lsets, Nat.reduceSub, Nat.reduceAdd, List.length_nil, ↓reduceIte]
  refine ⟨fun ρ H' => ∃ (v1 w1 : V) (A1 B1 : List Int) (K1 : Nat) (o : Option V), ρ = [some v1, some w1, o] ∧ H <+: H' ∧ items H' v1 = some ((mulP G A1).map .int) ∧ items H' w1 = some ((mulT G B1).map .int) ∧ Tr A1 ∧ (B1 = [] ∨ Tr B1) ∧ A1.length ≤ N ∧ B1.length ≤ N ∧
    AllSm K1 A1 ∧ AllSm K1 B1 ∧ ((A1.length ≤ B1.length ∧ K1 ≤ K) ∨ (B1.length < A1.length ∧ K1 + 1 ≤ 2 * (K + 1) * 3 ^ (N - A1.length))) ∧
    (∀ h, Dv h (ev A1) → Dv h (ev B1) → Dv h (ev A) ∧ Dv h (ev B)) ∧ Comb A B A1 ∧ Comb A B B1, fun ρ H' => lenV H' (lget ρ 1), ⟨v, w, A, B, K, none, rfl, List.prefix_refl _, hv, hw, tA, tB, hA, hB, sA, sB, ?_, fun h h1 h2 => ⟨h1, h2⟩, ?_, ?_⟩, ?_⟩
  · by_cases h : A.length ≤ B.length
    · exact .inl ⟨h, Nat.le_refl _⟩
    · refine .inr ⟨by (clear e eo et ew er ed hG hv hw tA tB hA hB hN sA sB hK hQ; omega), ?_⟩
      have : 1 ≤ 3 ^ (N - A.length) := Nat.pow_pos (by decide)
      have := Nat.mul_le_mul_left (2 * (K + 1)) this
      (clear e eo et ew er ed hG hv hw tA tB hA hB hN sA sB hK hQ h; omega)
  · exact ⟨1, fun _ => 1, fun _ => 0, by decide, .const 1, .const 0, fun t => by dsimp only; (clear e eo et ew er ed hG hv hw tA tB hA hB hN sA sB hK hQ; omega)⟩
  · exact ⟨1, fun _ => 0, fun _ => 1, by decide, .const 0, .const 1, fun t => by dsimp only; (clear e eo et ew er ed hG hv hw tA tB hA hB hN sA sB hK hQ; omega)⟩
  rintro ρ H' ⟨v1, w1, A1, B1, K1, o, rfl, hp, hv1, hw1, tA1, tB1, nA, nB, sA1, sB1, hk, back, cA, cB⟩
  dsimp only [qS1, qS2, qS3, qS4, qS5, qS6, qS7, qS8, qS9, qS10, qS11, qS12, qS13, qS14, qS15, qS16, qS17, qS18, qE1, qE2, qE3, qE4, qE5, qE6, qE7, qE8, qE9, qE10, qE11, qE12, qE13, qE14, qE15, qE16, qE17, qE18, qE19, qE20, qE21, qE22, qEs1, qEs2, wpAll, qO1, qO2, qI1, qI2, qI3, w_add, w_addl, w_sub, w_mul, w_mull, w_fdiv, w_mod, w_pow, w_lt, w_le, w_gt, w_ge, w_eq, w_ne, w_eqt, w_eql, w_net, w_nel, w_isn, w_ist, w_isi, w_isl, w_abs, w_lent, w_lenl, w_intb, w_list, w_tuple, w_min, w_idxt0, w_idxt1, w_idxu0, w_idxu1, w_idxu2, w_idxl, w_slcl, w_slct, w_tb, w_ti, w_tn, w_tt, w_tl, w_itt, w_itl, w_bindT1, w_bindT2, w_srcl, w_srct, w_cut2, w_cut1, w_cut1', w_cut0, w_ty1, w_ty2, w_ty3, w_ty4, w_ty5, w_ty6, w_ty7, w_ty8, w_ty9, w_ty10, w_ty11, w_ty12, w_ty13, w_ty14, w_ty15, w_ty16, w_ty17, w_ty18, w_ty19, w_ty20, w_ty21, w_mapc, w_mapn, w_appc, w_appn, w_repc, w_repn, w_start, w_lenc, w_ifT, w_ifF, w_ifFF, w_ifTF, w_nT, w_nF, w_anyT, w_anyF, w_d22, ifSome_some, ifLst_lst, ifTup_tup, ifInt_int, lget, lset, lsets, Nat.reduceSub, Nat.reduceAdd, List.length_nil, ↓reduceIte]
  refine ifSome.mk (truth_items hw1) ?_
  rcases tB1 with rfl | tB1
  · refine (if_neg (show ¬ (!(([] : List Int).map V.int).isEmpty) = true by decide)).mpr ?_
    obtain ⟨l, hl, hl0⟩ := tA1
    have hmem := List.mem_of_getLast? hl
    have hll := mulP_last hG.last hl
    have lG0 : lG * l ≠ 0 := Int.mul_ne_zero (by have := hG.pos; (clear e eo et ew er ed hG hv hw tA tB hA hB hN sA sB hK hQ hp hv1 nA sA1 cA hw1 nB sB1 hk back cB hl hl0 hmem hll; omega)) hl0
    have hln := mulP_len hG.tr.ne (show A1 ≠ [] by intro h; rw [h] at hl; cases hl)
    refine s_red (n := n + 2) (ng := ngQ) ng_ok er (fun a b H' Z X' hz => s_pdiv ed hz) hv1 hll lG0 (by have := hG.len; (clear e eo et ew er ed hG hv hw tA tB hA hB sA sB hK hQ hp hv1 sA1 cA hw1 nB sB1 hk back cB hl hl0 hmem hll lG0; omega)) ?_
    have ered : redI (mulP G A1) (lG * l) = mulP G (redI A1 l) := hG.red hll lG0 hl hl0 (m := 1) (by decide) fun t => by rw [ev_mulP, Int.one_mul]
    rw [ered]
    have hg : Dv (ev (redI A1 l)) (ev A1) := ⟨1, fun _ => gOf A1 l, by decide, .const _, fun t => by rw [Int.one_mul, ev_red (r := A1) (l := l) t, Int.mul_comm]⟩
    obtain ⟨b1, b2⟩ := back _ hg (Dv.zero _)
    refine hQ _ _ _ _ (preTrans hp (preApp _ _)) (getApp _ _ _) ⟨redI_getLast hl, redI_last hmem hl0, redI_gcd hmem hl0, b1, b2, ?_⟩
    obtain ⟨c, u, v, hc, pu, pv, ee⟩ := cA
    exact ⟨c * gOf A1 l, u, v, Int.mul_ne_zero hc (gOf_ne hmem hl0), pu, pv, fun t => by rw [← ee, ev_red (r := A1) (l := l) t, Int.mul_assoc]⟩
  · have hne : (!((mulT G B1).map V.int).isEmpty) = true := by
      cases e1 : mulT G B1 with
      | nil => rw [mulT_tr tB1] at e1; exact absurd e1 (tr_mulP hG.tr tB1).ne
      | cons _ _ => rfl
    rw [hne]
    have hw2 := hw1
    rw [mulT_tr tB1] at hw2
    obtain ⟨lb, hlb, hlb0⟩ := id tB1
    dsimp only [lCommon, qS1, qS2, qS3, qS4, qS5, qS6, qS7, qS8, qS9, qS10, qS11, qS12, qS13, qS14, qS15, qS16, qS17, qS18, qE1, qE2, qE3, qE4, qE5, qE6, qE7, qE8, qE9, qE10, qE11, qE12, qE13, qE14, qE15, qE16, qE17, qE18, qE19, qE20, qE21, qE22, qEs1, qEs2, wpAll, qO1, qO2, qI1, qI2, qI3, w_add, w_addl, w_sub, w_mul, w_mull, w_fdiv, w_mod, w_pow, w_lt, w_le, w_gt, w_ge, w_eq, w_ne, w_eqt, w_eql, w_net, w_nel, w_isn, w_ist, w_isi, w_isl, w_abs, w_lent, w_lenl, w_intb, w_list, w_tuple, w_min, w_idxt0, w_idxt1, w_idxu0, w_idxu1, w_idxu2, w_idxl, w_slcl, w_slct, w_tb, w_ti, w_tn, w_tt, w_tl, w_itt, w_itl, w_bindT1, w_bindT2, w_srcl, w_srct, w_cut2, w_cut1, w_cut1', w_cut0, w_ty1, w_ty2, w_ty3, w_ty4, w_ty5, w_ty6, w_ty7, w_ty8, w_ty9, w_ty10, w_ty11, w_ty12, w_ty13, w_ty14, w_ty15, w_ty16, w_ty17, w_ty18, w_ty19, w_ty20, w_ty21, w_mapc, w_mapn, w_appc, w_appn, w_repc, w_repn, w_start, w_lenc, w_ifT, w_ifF, w_ifFF, w_ifTF, w_nT, w_nF, w_anyT, w_anyF, w_d22, ifSome_some, ifLst_lst, ifTup_tup, ifInt_int, lget, lset, lsets, Nat.reduceSub, Nat.reduceAdd, List.length_nil, ↓reduceIte]
    have hsz : K1 + (A1.length - B1.length + 2) * (K1 + 1) ≤ 4 * (K + 1) * 3 ^ N := by
      rcases hk with ⟨h1, h2⟩ | ⟨h1, h2⟩
      · rw [Nat.sub_eq_zero_of_le h1]
        have : 1 ≤ 3 ^ N := Nat.pow_pos (by decide)
        have := Nat.mul_le_mul_left (4 * (K + 1)) this
        (clear e eo et ew er ed hG hv hw tA tB hA hB hN sA sB hQ hp hv1 hw1 tA1 nA nB sA1 sB1 back cA cB tB1 hne hw2 hlb hlb0 h1; omega)
      · exact grow' h1 nA h2
    refine s_rest eo et ew er ed hG (A := A1) (by rw [mulT_tr tA1]; exact hv1) hw2 (.inr tA1) hlb hlb0 (by (clear e eo et ew er ed hG hv hw tA tB hA hB sA sB hK hQ hp hv1 hw1 tA1 nB sA1 sB1 hk back cA cB tB1 hne hw2 hlb hlb0 hsz; omega)) sA1 sB1 (by (clear e eo et ew er ed hG hv hw tA tB hA hB hN sA sB hQ hp hv1 hw1 tA1 nA nB sA1 sB1 hk back cA cB tB1 hne hw2 hlb hlb0; omega)) fun H2 k r hp2 hr R sr => ?_
    have sB2 : AllSm (K1 + (A1.length - B1.length + 1) * (K1 + 1)) B1 := sB1.mono (Nat.le_add_right _ _)
    refine ⟨⟨w1, .lst k, B1, r, _, _, rfl, preTrans hp hp2, itemsKeep hp2 hw2, hr, tB1, R.tr, nB, by have := R.len; (clear e eo et ew er ed hG hv hw tA tB hA hB hN sA sB hK hQ hp hv1 hw1 tA1 nA sA1 sB1 hk back cA cB tB1 hne hw2 hlb hlb0 hsz hp2 hr R sr sB2; omega), sB2, sr, .inr ⟨R.len, ?_⟩, fun h h1 h2 => back h (R.back h1 h2) h1, cB, cA.rest cB R⟩, ?_⟩
    · rcases hk with ⟨h1, h2⟩ | ⟨h1, h2⟩
      · rw [Nat.sub_eq_zero_of_le h1]
        have : 1 ≤ 3 ^ (N - B1.length) := Nat.pow_pos (by decide)
        have := Nat.mul_le_mul_left (2 * (K + 1)) this
        (clear e eo et ew er ed hG hv hw tA tB hA hB hN sA sB hK hQ hp hv1 hw1 tA1 nA nB sA1 sB1 back cA cB tB1 hne hw2 hlb hlb0 hsz hp2 hr R sr sB2 h1; omega)
      · exact grow h1 nA h2
    · show lenV H2 (some (V.lst k)) < lenV H' (some w1)
      rw [lenV_eq (x := .lst k) hr, lenV_eq hw2, List.length_map, List.length_map]
      have hlb1 := mulP_len hG.tr.ne tB1.ne
      have hG1 : 1 ≤ G.length := List.length_pos_iff.mpr hG.tr.ne
      rcases R.tr with rfl | h
      · show 0 < _; have := List.length_pos_iff.mpr tB1.ne; (clear e eo et ew er ed hG hv hw tA tB hA hB hN sA sB hK hQ hp hv1 hw1 tA1 nA nB sA1 sB1 hk back cA cB tB1 hne hw2 hlb hlb0 hsz hp2 sB2 hr R sr; omega)
      · rw [mulT_tr h]
        have := mulP_len hG.tr.ne h.ne
        have := R.len
        (clear e eo et ew er ed hG hv hw tA tB hA hB hN sA sB hK hQ hp hv1 hw1 tA1 nA nB sA1 sB1 hk back cA cB tB1 hne hw2 hlb hlb0 hsz hp2 hr R sr sB2 hG1 h; omega)

theorem sm_small {i : Int} (h : 0 ≤ i ∧ i ≤ 1000000) : Sm 64 i := by
  have e : (2 : Nat) ^ 64 = 18446744073709551616 := by decide
  unfold Sm; (clear e; omega)
noncomputable def bSlope : PS := (.seq (.ret (.comp (.bin .mul (.var 0) (.idx (.var 1) (.var 0))) 1 [0] (.rng (.cons (.cint 1) (.cons (.bi .len (.cons (.var 0) .nil)) .nil))) .no))
 .skip)
theorem sl_map {k : Nat} : ∀ (r : List Int) (g : Nat → Int), (∀ i, i < r.length → g (k + i) = r.getD i 0) → ((List.range' k r.length).map fun (i : Nat) => V.int ((i : Int) * g i)) = (sl (k : Int) r).map V.int
  | [], _, _ => rfl
  | x :: r, g, h => by
    rw [range'_len]
    show V.int ((k : Int) * g k) :: _ = V.int ((k : Int) * x) :: _
    have h0 := h 0 (by simp)
    rw [Nat.add_zero] at h0
    rw [h0]
    have := @sl_map (k + 1) r g (fun i hi => by
      have := h (i + 1) (by simp; exact hi)
      rw [show k + (i + 1) = k + 1 + i by (clear h h0 hi this; omega)] at this
      rw [this]; rfl)
    rw [this]
    rfl
theorem s_slope (e : P[f]? = some ⟨1, 1, bSlope⟩) {a : Nat} {c : Int} {r : List Int} (ha : H[a]? = some ((c :: r).map .int)) (hl : r.length ≤ 900) (hQ : Q (.lst H.length) (H ++ [(sl 1 r).map .int])) : callN sub P (n + 1) f [.lst a] H Q X := by
  refine callN_mk e rfl ?_
  dsimp only [bSlope, qS1, qS2, qS3, qS4, qS5, qS6, qS7, qS8, qS9, qS10, qS11, qS12, qS13, qS14, qS15, qS16, qS17, qS18, qE1, qE2, qE3, qE4, qE5, qE6, qE7, qE8, qE9, qE10, qE11, qE12, qE13, qE14, qE15, qE16, qE17, qE18, qE19, qE20, qE21, qE22, qEs1, qEs2, wpAll, qO1, qO2, qI1, qI2, qI3, w_add, w_addl, w_sub, w_mul, w_mull, w_fdiv, w_mod, w_pow, w_lt, w_le, w_gt, w_ge, w_eq, w_ne, w_eqt, w_eql, w_net, w_nel, w_isn, w_ist, w_isi, w_isl, w_abs, w_lent, w_lenl, w_intb, w_list, w_tuple, w_min, w_idxt0, w_idxt1, w_idxu0, w_idxu1, w_idxu2, w_idxl, w_slcl, w_slct, w_tb, w_ti, w_tn, w_tt, w_tl, w_itt, w_itl, w_bindT1, w_bindT2, w_srcl, w_srct, w_cut2, w_cut1, w_cut1', w_cut0, w_ty1, w_ty2, w_ty3, w_ty4, w_ty5, w_ty6, w_ty7, w_ty8, w_ty9, w_ty10, w_ty11, w_ty12, w_ty13, w_ty14, w_ty15, w_ty16, w_ty17, w_ty18, w_ty19, w_ty20, w_ty21, w_mapc, w_mapn, w_appc, w_appn, w_repc, w_repn, w_start, w_lenc, w_ifT, w_ifF, w_ifFF, w_ifTF, w_nT, w_nF, w_anyT, w_anyF, w_d22, ifSome_some, ifLst_lst, ifTup_tup, ifInt_int, lget, lset, lsets, Nat.reduceSub, Nat.reduceAdd, List.length_nil, ↓reduceIte]
  refine ifSome.mk ha ?_
  rw [List.length_map, List.length_cons]
  refine rng2 (smallI_of (by decide) (by decide)) (smallI_of (by (clear e ha hQ; omega)) (by (clear e ha hQ; omega))) ⟨by rw [List.length_map, List.length_range']; unfold lim; (clear e ha hQ; omega), ?_⟩
  rw [show (((r.length + 1 : Nat) : Int) - 1).toNat = r.length by (clear e ha hQ; omega)]
  refine compGo_map' (g := fun (i : Nat) => V.int ((1 + (i : Int)) * r.getD i 0)) (fun i hi k' hk' => ?_) ?_
  · have hi' : i < r.length := by have := (List.mem_range'_1.mp hi).2; (clear e ha hl hQ hi hk'; omega)
    show ifSome (H[a]?) fun xs => ifSome (place xs.length (1 + (i : Int))) fun j => ifSome xs[j]? fun v => _
    refine ifSome.mk ha (ifSome.mk (v := i + 1) ?_ (ifSome.mk (v := .int (r.getD i 0)) ?_ ⟨IntMulOk.left (sm_small (by (clear e ha hQ hi hk'; omega))), hk'⟩))
    · rw [List.length_map, List.length_cons, show 1 + (i : Int) = ((i + 1 : Nat) : Int) by (clear e ha hl hQ hi hk' hi'; omega)]; exact place_nat (by (clear e ha hl hQ hi hk'; omega))
    · rw [List.map_cons, List.getElem?_cons_succ, List.getElem?_map, List.getElem?_eq_getElem hi', List.getD_eq_getElem?_getD, List.getElem?_eq_getElem hi']; rfl
  · have h1 := @sl_map 1 r (fun i => r.getD (i - 1) 0) (fun i _ => by show r.getD (1 + i - 1) 0 = _; rw [Nat.add_sub_cancel_left])
    have h2 : ((List.range' 0 r.length).map fun (i : Nat) => V.int ((1 + (i : Int)) * r.getD i 0)) = (sl 1 r).map V.int := by
      rw [show (sl 1 r) = sl ((1 : Nat) : Int) r from rfl, ← h1]
      apply List.ext_getElem
      · simp
      · intro j h3 h4
        simp
    rw [h2]; exact hQ

noncomputable def lQuot (wl : Nat) : PS := (.seq (.assign 4 (.bin .fdiv (.idx (.var 2) (.neg (.cint 1))) (.idx (.var 1) (.neg (.cint 1)))))
 (.seq (.app 3 (.var 4))
 (.seq (.assign 2 (.call wl (.cons (.var 2) (.cons (.var 1) (.cons (.var 4) (.cons (.cint 1) .nil))))))
 (.seq (.pop 2)
 .skip))))
noncomputable def bQuot (wl : Nat) : PS := (.seq (.assign 2 (.bi .list (.cons (.var 0) .nil)))
 (.seq (.assign 3 (.lst .nil))
 (.seq (.whl cRest (lQuot wl))
 (.seq (.rev 3) (.seq (.ret (.var 3)) .skip)))))
theorem getApp2 {β : Type} {H K : List β} {x y : β} {a : Nat} {z : β} (h : a ≠ H.length + 1) (e : (H ++ x :: y :: K)[a]? = some z) (y' : β) : (H ++ x :: y' :: K)[a]? = some z := by
  rcases Nat.lt_trichotomy a (H.length + 1) with h1 | h1 | h1
  · rw [List.getElem?_append, show (x :: y' :: K) = [x] ++ y' :: K from rfl] at *
    by_cases h2 : a < H.length
    · rw [if_pos h2] at e ⊢; exact e
    · rw [if_neg h2] at e ⊢
      obtain rfl : a = H.length := by (clear h e; omega)
      rw [Nat.sub_self] at e ⊢; exact e
  · exact absurd h1 h
  · rw [List.getElem?_append_right (by (clear h e; omega))] at e ⊢
    obtain ⟨j, hj⟩ : ∃ j, a - H.length = j + 2 := ⟨a - H.length - 2, by (clear h e; omega)⟩
    rw [hj] at e ⊢; exact e
theorem qq1 (n : Nat) : n ≠ n + 1 := Nat.ne_of_lt (Nat.lt_succ_self n)
theorem qq2 {a b : Nat} (h : a + 1 = b + 0) : ¬ ((b : Nat) : Int) ≤ ((a : Nat) : Int) := by omega
theorem qq3 {a b c : Nat} (h : a + 1 = b + (c + 1)) : ((b : Nat) : Int) ≤ ((a : Nat) : Int) := by omega
theorem qq5 {a b : Nat} (h : 1 ≤ b) (g : ((b : Nat) : Int) ≤ ((a : Nat) : Int)) : 1 ≤ a := by omega
theorem qq6 {A y b G h : Nat} (h1 : G ≤ h) (h2 : y + 1 = b + G) (h3 : A + 1 = b + h) (h4 : A ≤ 800) : y ≤ 900 := by omega
theorem qq9 {a b : Nat} (h : a + 2 ≤ b) : b ≠ a + 1 ∧ a ≤ b := by omega
theorem qq10 {d y b c : Nat} (h : d + 1 = y) (g : y + 1 = b + (c + 1)) : d + 1 = b + c := by omega
theorem s_quot (e : P[f]? = some ⟨2, 5, bQuot wl⟩) (ew : P[wl]? = some ⟨4, 7, bWl⟩) {v w : V} {A B h : List Int} {lb : Int} {K L : Nat} (hv : items H v = some (A.map .int)) (hw : items H w = some (B.map .int)) (hlb : B.getLast? = some lb) (h0 : lb ≠ 0)
    (eq : ∀ t, ev A t = ev B t * ev h t) (hlen : A.length + 1 = B.length + h.length) (hA : A.length ≤ 800) (sB : AllSm K B) (sh : AllSm L h) (hKL : L + K ≤ 134217728)
    (hQ : ∀ H' k, H <+: H' → H'[k]? = some (h.map .int) → Q (.lst k) H') : callN sub P (n + 2) f [v, w] H Q X := by
  have hB1 : 1 ≤ B.length := by cases B with | nil => cases hlb | cons _ _ => simp
  have hBne : B ≠ [] := by intro h; rw [h] at hB1; simp at hB1
  refine callN_mk e rfl ?_
  dsimp only [bQuot, qS1, qS2, qS3, qS4, qS5, qS6, qS7, qS8, qS9, qS10, qS11, qS12, qS13, qS14, qS15, qS16, qS17, qS18, qE1, qE2, qE3, qE4, qE5, qE6, qE7, qE8, qE9, qE10, qE11, qE12, qE13, qE14, qE15, qE16, qE17, qE18, qE19, qE20, qE21, qE22, qEs1, qEs2, wpAll, qO1, qO2, qI1, qI2, qI3, w_add, w_addl, w_sub, w_mul, w_mull, w_fdiv, w_mod, w_pow, w_lt, w_le, w_gt, w_ge, w_eq, w_ne, w_eqt, w_eql, w_net, w_nel, w_isn, w_ist, w_isi, w_isl, w_abs, w_lent, w_lenl, w_intb, w_list, w_tuple, w_min, w_idxt0, w_idxt1, w_idxu0, w_idxu1, w_idxu2, w_idxl, w_slcl, w_slct, w_tb, w_ti, w_tn, w_tt, w_tl, w_itt, w_itl, w_bindT1, w_bindT2, w_srcl, w_srct, w_cut2, w_cut1, w_cut1', w_cut0, w_ty1, w_ty2, w_ty3, w_ty4, w_ty5, w_ty6, w_ty7, w_ty8, w_ty9, w_ty10, w_ty11, w_ty12, w_ty13, w_ty14, w_ty15, w_ty16, w_ty17, w_ty18, w_ty19, w_ty20, w_ty21, w_mapc, w_mapn, w_appc, w_appn, w_repc, w_repn, w_start, w_lenc, w_ifT, w_ifF, w_ifFF, w_ifTF, w_nT, w_nF, w_anyT, w_anyF, w_d22, ifSome_some, ifLst_lst, ifTup_tup, ifInt_int, lget, lset, lsets, Nat.reduceSub, Nat.reduceAdd, List.length_nil, ↓reduceIte]
  refine ifSome.mk hv ?_
  have eH : H ++ [A.map V.int] ++ [([] : List V)] = H ++ (A.map V.int) :: ([] : List V) :: [] := by rw [List.append_assoc]; rfl
  have eL : (H ++ [A.map V.int]).length = H.length + 1 := by simp
  rw [eH, eL]
  refine ⟨fun ρ H' => ∃ (a : Nat) (ys h1 h2 : List Int) (x : List V) (KK : Hp) (o : Option V), ρ = [some v, some w, some (.lst a), some (.lst (H.length + 1)), o] ∧ H' = H ++ x :: (h2.reverse.map V.int) :: KK ∧ a ≠ H.length + 1 ∧ H.length ≤ a ∧ H'[a]? = some (ys.map .int) ∧ h = h1 ++ h2 ∧
    (∀ t, ev ys t = ev B t * ev h1 t) ∧ ys.length + 1 = B.length + h1.length, fun ρ H' => lenV H' (lget ρ 2), ⟨H.length, A, h, [], _, [], none, rfl, rfl, by exact qq1 _, Nat.le_refl _, getApp _ _ _, (List.append_nil _).symm, eq, hlen⟩, ?_⟩
  rintro ρ H' ⟨a, ys, h1, h2, x, KK, o, rfl, rfl, ha1, ha2, ha, hh, hev, hyl⟩
  have hw' : ∀ (z y : List V) (KK : Hp), items (H ++ z :: y :: KK) w = some (B.map .int) := fun z y KK => itemsKeep (preApp _ _) hw
  dsimp only [cRest, qS1, qS2, qS3, qS4, qS5, qS6, qS7, qS8, qS9, qS10, qS11, qS12, qS13, qS14, qS15, qS16, qS17, qS18, qE1, qE2, qE3, qE4, qE5, qE6, qE7, qE8, qE9, qE10, qE11, qE12, qE13, qE14, qE15, qE16, qE17, qE18, qE19, qE20, qE21, qE22, qEs1, qEs2, wpAll, qO1, qO2, qI1, qI2, qI3, w_add, w_addl, w_sub, w_mul, w_mull, w_fdiv, w_mod, w_pow, w_lt, w_le, w_gt, w_ge, w_eq, w_ne, w_eqt, w_eql, w_net, w_nel, w_isn, w_ist, w_isi, w_isl, w_abs, w_lent, w_lenl, w_intb, w_list, w_tuple, w_min, w_idxt0, w_idxt1, w_idxu0, w_idxu1, w_idxu2, w_idxl, w_slcl, w_slct, w_tb, w_ti, w_tn, w_tt, w_tl, w_itt, w_itl, w_bindT1, w_bindT2, w_srcl, w_srct, w_cut2, w_cut1, w_cut1', w_cut0, w_ty1, w_ty2, w_ty3, w_ty4, w_ty5, w_ty6, w_ty7, w_ty8, w_ty9, w_ty10, w_ty11, w_ty12, w_ty13, w_ty14, w_ty15, w_ty16, w_ty17, w_ty18, w_ty19, w_ty20, w_ty21, w_mapc, w_mapn, w_appc, w_appn, w_repc, w_repn, w_start, w_lenc, w_ifT, w_ifF, w_ifFF, w_ifTF, w_nT, w_nF, w_anyT, w_anyF, w_d22, ifSome_some, ifLst_lst, ifTup_tup, ifInt_int, lget, lset, lsets, Nat.reduceSub, Nat.reduceAdd, List.length_nil, ↓reduceIte, w_leng]
  refine ifSome.mk ha (ifSome.mk (hw' _ _ _) ?_)
  rw [List.length_map, List.length_map]
  rcases List.eq_nil_or_concat h1 with rfl | ⟨g1, hl, rfl⟩
  · have hlt : ¬ ((B.length : Nat) : Int) ≤ ((ys.length : Nat) : Int) := by rw [List.length_nil] at hyl; exact qq2 hyl
    rw [decide_eq_false hlt]
    dsimp only [qS1, qS2, qS3, qS4, qS5, qS6, qS7, qS8, qS9, qS10, qS11, qS12, qS13, qS14, qS15, qS16, qS17, qS18, qE1, qE2, qE3, qE4, qE5, qE6, qE7, qE8, qE9, qE10, qE11, qE12, qE13, qE14, qE15, qE16, qE17, qE18, qE19, qE20, qE21, qE22, qEs1, qEs2, wpAll, qO1, qO2, qI1, qI2, qI3, w_add, w_addl, w_sub, w_mul, w_mull, w_fdiv, w_mod, w_pow, w_lt, w_le, w_gt, w_ge, w_eq, w_ne, w_eqt, w_eql, w_net, w_nel, w_isn, w_ist, w_isi, w_isl, w_abs, w_lent, w_lenl, w_intb, w_list, w_tuple, w_min, w_idxt0, w_idxt1, w_idxu0, w_idxu1, w_idxu2, w_idxl, w_slcl, w_slct, w_tb, w_ti, w_tn, w_tt, w_tl, w_itt, w_itl, w_bindT1, w_bindT2, w_srcl, w_srct, w_cut2, w_cut1, w_cut1', w_cut0, w_ty1, w_ty2, w_ty3, w_ty4, w_ty5, w_ty6, w_ty7, w_ty8, w_ty9, w_ty10, w_ty11, w_ty12, w_ty13, w_ty14, w_ty15, w_ty16, w_ty17, w_ty18, w_ty19, w_ty20, w_ty21, w_mapc, w_mapn, w_appc, w_appn, w_repc, w_repn, w_start, w_lenc, w_ifT, w_ifF, w_ifFF, w_ifTF, w_nT, w_nF, w_anyT, w_anyF, w_d22, ifSome_some, ifLst_lst, ifTup_tup, ifInt_int, lget, lset, lsets, Nat.reduceSub, Nat.reduceAdd, List.length_nil, ↓reduceIte]
    refine ⟨Nat.le_succ _, ifSome.mk (getApp1 _ _ _ _) ?_⟩
    show Q (V.lst (H.length + 1)) ((H ++ x :: (h2.reverse.map V.int) :: KK).set (H.length + 1) (h2.reverse.map V.int).reverse)
    rw [setApp1]
    refine hQ _ _ (preApp _ _) ?_
    rw [getApp1, ← List.map_reverse, List.reverse_reverse, hh]; rfl
  · rw [List.concat_eq_append] at hh hev hyl
    have hge : ((B.length : Nat) : Int) ≤ ((ys.length : Nat) : Int) := by rw [List.length_append, List.length_singleton] at hyl; exact qq3 hyl
    rw [decide_eq_true hge]
    have hg1 : (g1 ++ [hl]).getLast? = some hl := by simp
    have hys : ys = mulP B (g1 ++ [hl]) := ext_vals (by have := mulP_len hBne (show g1 ++ [hl] ≠ [] by simp); (clear e ew hv hw hlb h0 eq hlen hA sB sh hKL hQ hB1 hBne eH eL ha1 ha2 ha hw' hh hev hge hg1; omega)) fun t => by
      show ev ys t = ev _ t
      rw [ev_mulP, hev]
    have hyla : ys.getLast? = some (lb * hl) := by rw [hys]; exact mulP_last hlb hg1
    have hyl1 : 1 ≤ (ys.map V.int).length := by rw [List.length_map]; exact qq5 hB1 hge
    have hyle : ys.length ≤ 900 := by
      have : (g1 ++ [hl]).length ≤ h.length := by rw [hh]; simp
      exact qq6 this hyl hlen hA
    obtain ⟨l0, l1, hsp, hn1, hn2⟩ := split_at (xs := ys) (n := B.length) (by exact Int.ofNat_le.mp hge)
    have shl : Sm L hl := sh hl (by rw [hh]; simp)
    have hl1 : l1 ≠ [] := by intro h; rw [h] at hn1; rw [← hn1] at hB1; exact absurd hB1 (by decide)
    dsimp only [lQuot, qS1, qS2, qS3, qS4, qS5, qS6, qS7, qS8, qS9, qS10, qS11, qS12, qS13, qS14, qS15, qS16, qS17, qS18, qE1, qE2, qE3, qE4, qE5, qE6, qE7, qE8, qE9, qE10, qE11, qE12, qE13, qE14, qE15, qE16, qE17, qE18, qE19, qE20, qE21, qE22, qEs1, qEs2, wpAll, qO1, qO2, qI1, qI2, qI3, w_add, w_addl, w_sub, w_mul, w_mull, w_fdiv, w_mod, w_pow, w_lt, w_le, w_gt, w_ge, w_eq, w_ne, w_eqt, w_eql, w_net, w_nel, w_isn, w_ist, w_isi, w_isl, w_abs, w_lent, w_lenl, w_intb, w_list, w_tuple, w_min, w_idxt0, w_idxt1, w_idxu0, w_idxu1, w_idxu2, w_idxl, w_slcl, w_slct, w_tb, w_ti, w_tn, w_tt, w_tl, w_itt, w_itl, w_bindT1, w_bindT2, w_srcl, w_srct, w_cut2, w_cut1, w_cut1', w_cut0, w_ty1, w_ty2, w_ty3, w_ty4, w_ty5, w_ty6, w_ty7, w_ty8, w_ty9, w_ty10, w_ty11, w_ty12, w_ty13, w_ty14, w_ty15, w_ty16, w_ty17, w_ty18, w_ty19, w_ty20, w_ty21, w_mapc, w_mapn, w_appc, w_appn, w_repc, w_repn, w_start, w_lenc, w_ifT, w_ifF, w_ifFF, w_ifTF, w_nT, w_nF, w_anyT, w_anyF, w_d22, ifSome_some, ifLst_lst, ifTup_tup, ifInt_int, lget, lset, lsets, Nat.reduceSub, Nat.reduceAdd, List.length_nil, ↓reduceIte, w_idxg]
    refine ifSome.mk ha (ifSome.mk (place_last hyl1) (ifSome.mk (v := .int (lb * hl)) ?_ ?_))
    · rw [List.length_map, List.getElem?_map, ← List.getLast?_eq_getElem?, hyla]; rfl
    refine ifSome.mk (hw' _ _ _) (ifSome.mk (place_last (by rw [List.length_map]; exact hB1)) (ifSome.mk (v := .int lb) ?_ ?_))
    · rw [List.length_map, List.getElem?_map, ← List.getLast?_eq_getElem?, hlb]; rfl
    refine ⟨h0, ?_⟩
    rw [show (lb * hl).fdiv lb = hl from Int.mul_fdiv_cancel_left hl h0]
    refine ⟨Nat.le_succ _, ifSome.mk (getApp1 _ _ _ _) ⟨?_, ?_⟩⟩
    · rw [List.length_map, List.length_reverse]
      have : h2.length ≤ h.length := by rw [hh, List.length_append]; exact Nat.le_add_left _ _
      unfold lim; (clear e ew hv hw hlb h0 eq sB sh hKL hQ hBne eH eL ha1 ha2 ha hw' hh hev hg1 hys hyla hyl1 hsp hn2 shl hl1; omega)
    rw [setApp1]
    have ha' := getApp2 ha1 ha (h2.reverse.map V.int ++ [V.int hl])
    rw [hsp] at ha'
    refine s_wl ew ha' (hw' _ _ _) hn1 (by rw [← hsp]; exact hyle) (fun x _ => IntMulOk.right (show Sm 64 1 by unfold Sm; decide)) (fun y hy => IntMulOk.sum shl (sB y hy) hKL) ?_
    have eD := fun t => ev_wlo (s := 1) (m := hl) (l0 := l0) hn1 t
    have lD : (wlo 1 hl l0 l1 B).getLast? = some 0 := by
      have := wlz_last (s := 1) (m := hl) hn1 (last_app hl1 (by rw [← hsp]; exact hyla)) hlb
      rw [wlo, List.getLast?_append, this, show lb * hl * 1 - hl * lb = 0 by grind]; rfl
    have nD : (wlo 1 hl l0 l1 B).length = ys.length := by rw [wlo_len hn1, hsp, List.length_append, hn1]
    revert eD lD nD
    generalize wlo 1 hl l0 l1 B = D
    intro eD lD nD
    obtain ⟨D0, rfl⟩ := List.getLast?_eq_some_iff.mp lD
    generalize hH1 : (H ++ x :: (h2.reverse.map V.int ++ [V.int hl]) :: KK) = H1
    have hle1 : H.length + 2 ≤ H1.length := by rw [← hH1]; simp
    refine ⟨(qq9 hle1).2, ifSome.mk (getApp _ _ _) ⟨D0.map V.int, 0, by rw [List.map_append]; rfl, ?_⟩⟩
    rw [setApp]
    have hl0 : l0.length = g1.length := by rw [hn2]; rw [List.length_append, List.length_singleton] at hyl; (clear e ew hv hw hlb h0 eq hlen hA sB sh hKL hQ hB1 hBne eH eL ha1 ha2 ha hw' hh hev hge hg1 hys hyla hyl1 hyle hsp hn2 shl hl1 ha' eD lD hH1 hle1; omega)
    refine ⟨⟨H1.length, D0, g1, hl :: h2, x, KK ++ [D0.map V.int], _, rfl, ?_, by exact (qq9 hle1).1, by exact (qq9 hle1).2, getApp _ _ _, by rw [hh, List.append_assoc]; rfl, fun t => ?_, ?_⟩, ?_⟩
    · rw [← hH1, List.append_assoc, List.reverse_cons, List.map_append]; rfl
    · have h4 := eD t
      rw [ev_snoc0, ← hsp, hev t, ev_append, ev1, hl0] at h4
      rw [h4]; grind
    · rw [List.length_append, List.length_singleton] at nD hyl; exact qq10 nD hyl
    · show lenV _ (some (V.lst _)) < lenV _ (some (V.lst a))
      rw [lenV_eq (x := .lst _) (getApp _ _ _), lenV_eq (x := .lst a) ha, List.length_map, List.length_map]
      rw [List.length_append, List.length_singleton] at nD; exact Nat.lt_of_succ_le (Nat.le_of_eq nD)
end
end Mine

set_option autoImplicit false
set_option linter.unusedVariables false
set_option linter.unusedSimpArgs false
set_option maxRecDepth 100000
namespace Mine
open PySem
/-! powers -/
noncomputable def pw (F : List Int) : Nat → List Int → List Int
  | 0, K => K
  | n + 1, K => mulP (pw F n K) F
theorem ev_pw (F K : List Int) (t : Int) : ∀ n : Nat, ev (pw F n K) t = ev K t * ev F t ^ n
  | 0 => by rw [pw, Int.pow_zero, Int.mul_one]
  | n + 1 => by rw [pw, ev_mulP, ev_pw F K t n, Int.pow_succ]; grind
theorem evd_pw (F K : List Int) (t : Int) : ∀ n : Nat, evd (pw F (n + 1) K) t = evd K t * ev F t ^ (n + 1) + ev K t * (((n : Int) + 1) * ev F t ^ n * evd F t)
  | 0 => by
    show evd (mulP K F) t = _
    rw [evd_mulP]; grind
  | n + 1 => by
    show evd (mulP (pw F (n + 1) K) F) t = _
    rw [evd_mulP, evd_pw F K t n, ev_pw, Int.pow_succ, Int.pow_succ]
    push_cast
    grind
theorem pw_last {F K : List Int} {l m : Int} (hF : F.getLast? = some l) (hK : K.getLast? = some m) : ∀ n : Nat, (pw F n K).getLast? = some (m * l ^ n)
  | 0 => by rw [pw, Int.pow_zero, Int.mul_one]; exact hK
  | n + 1 => by rw [pw, mulP_last (pw_last hF hK n) hF, Int.pow_succ, Int.mul_assoc]
theorem pw_one {F K : List Int} (hF : gAll F 0 = 1) (hK : gAll K 0 = 1) : ∀ n : Nat, gAll (pw F n K) 0 = 1
  | 0 => hK
  | n + 1 => gauss (pw_one hF hK n) hF
theorem pw_sm {F K : List Int} {a b m : Nat} (hF : AllSm b F) (hK : AllSm a K) : ∀ n : Nat, (∀ j, j < n → (pw F j K).length ≤ m) → AllSm (a + n * (b + m)) (pw F n K)
  | 0, _ => hK.mono (Nat.le_add_right _ _)
  | n + 1, h => (mulP_sm (pw_sm hF hK n fun j hj => h j (by (clear hF hK h; omega))) hF).mono (by have := h n (by (clear hF hK h; omega)); rw [Nat.add_mul]; (clear hF hK h; omega))
theorem pw_len {F K : List Int} (hF : F ≠ []) (hK : K ≠ []) : ∀ n : Nat, pw F n K ≠ [] ∧ (pw F n K).length + n = K.length + n * F.length
  | 0 => ⟨hK, by rw [Nat.zero_mul]; rfl⟩
  | n + 1 => by
    obtain ⟨h1, h2⟩ := pw_len hF hK n
    have h3 := mulP_len h1 hF
    have : 1 ≤ F.length := List.length_pos_iff.mpr hF
    refine ⟨fun h => ?_, ?_⟩
    · rw [pw] at h; rw [h, List.length_nil] at h3
      have := List.length_pos_iff.mpr h1; (clear hF hK h1 h; omega)
    · rw [pw, Nat.add_mul]; (clear hF hK h1 this; omega)
theorem smul_mulP {m : Int} {K F : List Int} (hK : K ≠ []) (hF : F ≠ []) : mulP (smul m K) F = smul m (mulP K F) := by
  have hs : smul m K ≠ [] := by intro h; exact hK (by unfold smul at h; exact List.map_eq_nil_iff.mp h)
  refine ext_vals ?_ fun t => ?_
  · have h1 := mulP_len hK hF
    have h2 := mulP_len hs hF
    rw [smul_len] at h2 ⊢; (clear hK hF hs; omega)
  · show ev _ t = ev _ t
    rw [ev_mulP, ev_smul, ev_smul, ev_mulP, Int.mul_assoc]

/-- a row of factors K = gl * d, its slope gl * El -/
structure FL (K d gl El : List Int) (g k : Nat) : Prop where
  fac : Fac K d (ev gl) (ev El)
  dl : ∃ l, d.getLast? = some l ∧ 0 < l
  d1 : gAll d 0 = 1
  fg : ∃ l, Fct gl l g
  sd : AllSm k d
  se : AllSm k El
theorem FL.start : FL [1] [1] [1] [] 1 1 := by
  have h := Fac.start (c := 1) (by decide)
  have e1 : (fun _ : Int => (1 : Int)) = ev [1] := by funext t; exact (ev1 1 t).symm
  have e2 : (fun _ : Int => (0 : Int)) = ev [] := by funext t; exact (ev_nil t).symm
  rw [e1, e2] at h
  have h1 : AllSm 1 [(1 : Int)] := .cons (by unfold Sm; decide) .nil
  exact ⟨h, ⟨1, rfl, by decide⟩, by decide +kernel, ⟨1, rfl, by decide, by decide +kernel, h1, by decide⟩, h1, .nil⟩
theorem FL.step {K d gl El F : List Int} {l : Int} {g k b : Nat} (h : FL K d gl El g k) (hF : Ftr F l) (sF : AllSm b F) (hc : Cop (ev F) (ev d)) {e : Nat} (he : e ≤ 2) (hlen : gl.length + e * F.length ≤ 100) (hd : d.length ≤ 60) :
    FL (pw F (e + 1) K) (mulP d F) (pw F e gl) (addP (mulP F El) (smul ((e : Int) + 1) (mulP (sl 1 F.tail) d))) (g + e * (b + 100)) (k + b + 100) := by
  obtain ⟨ld, hl, hp⟩ := h.dl
  obtain ⟨lg, hg⟩ := h.fg
  have hF0 : F ≠ [] := by intro h0; have := hF.last; rw [h0] at this; cases this
  have nF : ∃ t, ev F t ≠ 0 := hF.irr.1.nz
  have f1 := h.fac.step nF hF.slope hc e (f' := pw F (e + 1) K) (fun t => ev_pw F K t (e + 1)) (fun t => evd_pw F K t e) (d' := mulP d F) (fun t => ev_mulP t d F) (pf_evd F)
  have e1 : (fun t => ev gl t * ev F t ^ e) = ev (pw F e gl) := by funext t; exact (ev_pw F gl t e).symm
  have esl : ∀ t, ev (sl 1 F.tail) t = evd F t := fun t => by
    cases F with
    | nil => exact absurd rfl hF0
    | cons c r => exact ev_slope t
  have e2 : (fun t => ev F t * ev El t + ((e : Int) + 1) * (evd F t * ev d t)) = ev (addP (mulP F El) (smul ((e : Int) + 1) (mulP (sl 1 F.tail) d))) := by
    funext t
    rw [ev_addP, ev_mulP, ev_smul, ev_mulP, esl]
  rw [e1, e2] at f1
  have hgl0 : gl ≠ [] := hg.tr.ne
  have hpl := fun n => pw_len hF0 hgl0 n
  have hF4 := hF.len'
  have hF2 := hF.len
  refine ⟨f1, ⟨_, mulP_last hl hF.last, Int.mul_pos hp hF.pos⟩, gauss h.d1 hF.one, ⟨_, pw_last hF.last hg.last e, Int.mul_pos hg.pos (Int.pow_pos hF.pos), pw_one hF.one hg.one e, pw_sm sF hg.sm e (fun j hj => ?_), ?_⟩, ?_, ?_⟩
  · have := (hpl j).2
    have : j * F.length ≤ e * F.length := Nat.mul_le_mul_right _ (by (clear h hF sF hc he hlen hd hl hp hg hF0 nF f1 e1 esl e2 hgl0 hpl hF4 hF2 this; omega))
    (clear h hF sF hc hd hl hp hg hF0 nF f1 e1 esl e2 hgl0 hpl hF4 hF2; omega)
  · have := (hpl e).2; (clear h hF sF hc hd hl hp hg hF0 nF f1 e1 esl e2 hgl0 hpl hF4 hF2; omega)
  · exact (mulP_sm h.sd sF).mono (by (clear h hF sF hc he hlen hl hp hg hF0 nF f1 e1 esl e2 hgl0 hpl hF4 hF2; omega))
  · have i1 := mulP_sm sF h.se
    have hs : AllSm (b + 3) (sl 1 F.tail) := by
      have hr : ∀ (r : List Int) (j : Int), 0 ≤ j → j + r.length ≤ 7 → AllSm b r → AllSm (3 + b) (sl j r) := fun r => by
        induction r with
        | nil => intro j _ _ _; exact .nil
        | cons x r ih =>
          intro j h1 h2 h3
          rw [List.length_cons] at h2
          have hj : Sm 3 j := by unfold Sm; (clear h hF sF hc he hlen hd hl hp hg hF0 nF f1 e1 esl e2 hgl0 hpl hF4 hF2 i1 ih h3; omega)
          exact .cons (hj.mul h3.hd) (ih (j + 1) (by (clear h hF sF hc he hlen hd hl hp hg hF0 nF f1 e1 esl e2 hgl0 hpl hF4 hF2 i1 ih h2 h3 hj; omega)) (by (clear h hF sF hc he hlen hd hl hp hg hF0 nF f1 e1 esl e2 hgl0 hpl hF4 hF2 i1 ih h1 h3 hj; omega)) h3.tl)
      have := hr F.tail 1 (by decide) (by rw [List.length_tail]; (clear h hF sF hc he hlen hd hl hp hg hF0 nF f1 e1 esl e2 hgl0 hpl i1 hr; omega)) (fun x hx => sF x (List.mem_of_mem_tail hx))
      exact this.mono (by (clear h hF sF hc he hlen hd hl hp hg hF0 nF f1 e1 esl e2 hgl0 hpl hF4 hF2 i1 hr this; omega))
    have i2 := mulP_sm hs h.sd
    have hlt : (sl 1 F.tail).length ≤ 4 := by rw [sl_len, List.length_tail]; (clear h hF sF hc he hlen hd hl hp hg hF0 nF f1 e1 esl e2 hgl0 hpl i1 hs i2; omega)
    have he1 : Sm 2 ((e : Int) + 1) := by unfold Sm; (clear h hF sF hc hlen hd hl hp hg hF0 nF f1 e1 esl e2 hgl0 hpl hF4 hF2 i1 hs i2 hlt; omega)
    have i3 := AllSm.smul he1 i2
    exact (addP_sm (i1.mono (show _ ≤ k + b + 50 by (clear h hF sF hc he hlen hd hl hp hg hF0 nF f1 e1 esl e2 hgl0 hpl i1 hs i2 hlt he1 i3; omega))) (i3.mono (show _ ≤ k + b + 50 by (clear h hF sF hc he hlen hd hl hp hg hF0 nF f1 e1 esl e2 hgl0 hpl hF4 hF2 i1 hs i2 he1 i3; omega)))).mono (by (clear h hF sF hc he hlen hd hl hp hg hF0 nF f1 e1 esl e2 hgl0 hpl hF4 hF2 i1 hs i2 hlt he1 i3; omega))

/-- the row less its factors that come again -/
theorem FL.K_eq {K d gl El : List Int} {g k : Nat} {m : Int} (h : FL K d gl El g k) (hK : K ≠ []) (hm : m ≠ 0) {l : Int} (hl : (smul m K).getLast? = some l) (hl0 : l ≠ 0) : redI (smul m K) l = mulP gl d := by
  obtain ⟨ld, hd, hp⟩ := h.dl
  obtain ⟨lg, hg⟩ := h.fg
  have hmem := List.mem_of_getLast? hl
  refine prim_eq (redI_gcd hmem hl0) (gauss hg.one h.d1) (redI_getLast hl) (mulP_last hg.last hd) (redI_last hmem hl0) (Int.mul_pos hg.pos hp) (gOf_ne hmem hl0) hm fun t => ?_
  rw [← ev_red, ev_smul, ev_mulP, h.fac.fe]
theorem FL.El_tr {K d gl El : List Int} {g k : Nat} (h : FL K d gl El g k) {c : Int} {r : List Int} (hK : mulP gl d = c :: r) (hr : Tr r) : ∃ E, Tr E ∧ (∀ t, ev E t = ev El t) ∧ AllSm k E ∧ sl 1 r = mulP gl E ∧ E.length < d.length := by
  obtain ⟨ld, hd, hp⟩ := h.dl
  obtain ⟨lg, hg⟩ := h.fg
  have tgd : Tr (mulP gl d) := tr_mulP hg.tr ⟨ld, hd, by (clear h hK hr hd hg; omega)⟩
  obtain ⟨E, j, hE, tE⟩ := trim_pre El
  have eE := fun t => trim_ev hE t
  have evs : ∀ t, ev (sl 1 r) t = ev gl t * ev E t := fun t => by
    rw [ev_slope (c := c), ← hK, ← eE, ← h.fac.fd]
    have e1 := evd_mulP t gl d
    -- K and gl * d have the same values, so the same slopes
    have hKt : ∃ K0 j, K = K0 ++ zeros j ∧ (K0 = [] ∨ Tr K0) := trim_pre K
    obtain ⟨K0, j, hK0, tK0⟩ := hKt
    have : K0 = mulP gl d := ext_tr tK0 (.inr tgd) fun t => by rw [← trim_ev hK0, h.fac.fe, ev_mulP]
    have hz : ∀ (xs : List Int) (j : Nat), evd (xs ++ zeros j) t = evd xs t := fun xs => by
      induction xs with
      | nil =>
        intro j
        induction j with
        | zero => rfl
        | succ j ih => show ev (zeros j) t + t * evd (zeros j) t = 0; rw [ev_zeros]; rw [List.nil_append] at ih; rw [ih]; show 0 + t * 0 = 0; (clear h hK hr hd hp hg tgd hE tE eE e1 hK0 tK0 this ih; omega)
      | cons x xs ih => intro j; show ev (xs ++ zeros j) t + t * evd (xs ++ zeros j) t = _; rw [ih, ev_append, ev_zeros]; show _ = ev xs t + t * evd xs t; grind
    rw [hK0, hz, this]
  have tS := tr_sl (k := 1) (by decide) hr
  have tE' : Tr E := by
    rcases tE with rfl | h
    · obtain ⟨t, ht⟩ := tS.nz
      exact absurd (by rw [evs, ev_nil]; (clear h hK hr hd hp hg tgd tS hE eE evs ht; omega)) ht
    · exact h
  have hS : sl 1 r = mulP gl E := ext_tr (.inr tS) (.inr (tr_mulP hg.tr tE')) fun t => by rw [evs, ev_mulP]
  refine ⟨E, tE', fun t => (eE t).symm, trim_sm hE h.se, hS, ?_⟩
  have h1 := congrArg List.length hS
  have h2 := congrArg List.length hK
  have h3 := mulP_len hg.tr.ne tE'.ne
  have h4 := mulP_len hg.tr.ne (show d ≠ [] by intro h; rw [h] at hd; cases hd)
  rw [sl_len] at h1
  rw [List.length_cons] at h2
  (clear h hK hr hd hp hg tgd hE tE eE evs tS tE' hS; omega)
theorem FL.gcd1 {K d gl El E x : List Int} {g k : Nat} {l : Int} (h : FL K d gl El g k) (hE : ∀ t, ev E t = ev El t) (hx : Gcd d E x l) : x = [1] := by
  obtain ⟨c, u, v, hc, pu, pv, e⟩ := h.fac.co
  have h1 : Dv (ev x) (fun _ => 1) := Dv.comb hx.d1 hx.d2 pu pv hc fun t => by rw [hE, Int.mul_one]; exact e t
  obtain ⟨c', y, hc', py, e'⟩ := h1
  obtain ⟨a, ha, ea⟩ := pf_const (PF.ev x) py hc' fun t => by rw [← e', Int.mul_one]
  have tx : Tr x := ⟨l, hx.last, Int.ne_of_gt hx.pos⟩
  have hxa : x = [a] := ext_tr (.inr tx) (.inr (.one ha)) fun t => by rw [ea, ev1]
  have hla := hx.last
  rw [hxa] at hla
  obtain rfl : a = l := Option.some.inj hla
  have h1 := hx.one
  rw [hxa] at h1
  have h2 : gAll [a] 0 = a.natAbs := by show Nat.gcd 0 a.natAbs = _; exact Nat.gcd_zero_left _
  rw [h2] at h1
  have := hx.pos
  rw [hxa]; congr 1; (clear h hE hc pu pv e hc' py e' ha ea tx hxa hx hla h2; omega)
section
variable {sub : Nat → Nat → Bool} {P : List Fn} {f n dv tr re wl ro sp qu co : Nat} {H : Hp} {Q : V → Hp → Prop} {X : Nat → Hp → Prop}
noncomputable def tPlain (re qu co sp : Nat) : PS := (.seq (.assign 1 (.call re (.cons (.var 1) .nil)))
 (.seq (.ret (.call re (.cons (.call qu (.cons (.var 1) (.cons (.call co (.cons (.var 1) (.cons (.call sp (.cons (.var 1) .nil)) .nil))) .nil))) .nil)))
 .skip))
noncomputable def bPlain (tr re qu co sp : Nat) : PS := (.seq (.assign 1 (.call tr (.cons (.var 0) .nil)))
 (.seq (.ite (.cmp .lt (.bi .len (.cons (.var 1) .nil)) (.cint 2)) (.seq (.raise 2)
 .skip) .skip)
 (tPlain re qu co sp)))
theorem mulP_1 {G : List Int} (h : G ≠ []) : mulP G [1] = G := by
  refine ext_vals (by have := mulP_len h (List.cons_ne_nil (1 : Int) []); simpa using this) fun t => ?_
  show ev _ t = ev _ t
  rw [ev_mulP, ev1, Int.mul_one]
theorem s_plain (e : P[f]? = some ⟨1, 2, bPlain tr re qu co sp⟩) (et : P[tr]? = some ⟨1, 2, bTrim⟩) (er : P[re]? = some ⟨1, 3, bRed dv ngQ⟩) (ed : P[dv]? = some ⟨2, 3, bPDiv⟩) (eq : P[qu]? = some ⟨2, 5, bQuot wl⟩) (ew : P[wl]? = some ⟨4, 7, bWl⟩) (ec : P[co]? = some ⟨2, 3, bCommon ro re⟩) (eo : P[ro]? = some ⟨2, 3, bRest tr wl re⟩) (es : P[sp]? = some ⟨1, 1, bSlope⟩)
    {v : V} {K d gl El : List Int} {m : Int} {g k j : Nat} (h : FL K d gl El g k) (hv : items H v = some ((smul m K ++ zeros j).map .int)) (tK : Tr K) (hm : m ≠ 0) (h2 : 2 ≤ K.length) (hn : K.length ≤ 100) (hd : d.length ≤ 10) (hk : 4 * (k + 1) * 3 ^ 10 + 2 * (g + 100) ≤ 130000000)
    (hQ : ∀ H' i, H <+: H' → H.length ≤ i → H'[i]? = some (d.map .int) → Q (.lst i) H') : callN sub P (n + 5) f [v] H Q X := by
  obtain ⟨ld, hld, hp⟩ := h.dl
  obtain ⟨lg, hg⟩ := h.fg
  have tm := tr_smul hm tK
  obtain ⟨l, hl, hl0⟩ := id tm
  have hK0 : K ≠ [] := tK.ne
  have hd0 : d ≠ [] := by intro h; rw [h] at hld; cases hld
  refine callN_mk e rfl ?_
  dsimp only [bPlain, qS1, qS2, qS3, qS4, qS5, qS6, qS7, qS8, qS9, qS10, qS11, qS12, qS13, qS14, qS15, qS16, qS17, qS18, qE1, qE2, qE3, qE4, qE5, qE6, qE7, qE8, qE9, qE10, qE11, qE12, qE13, qE14, qE15, qE16, qE17, qE18, qE19, qE20, qE21, qE22, qEs1, qEs2, wpAll, qO1, qO2, qI1, qI2, qI3, w_add, w_addl, w_sub, w_mul, w_mull, w_fdiv, w_mod, w_pow, w_lt, w_le, w_gt, w_ge, w_eq, w_ne, w_eqt, w_eql, w_net, w_nel, w_isn, w_ist, w_isi, w_isl, w_abs, w_lent, w_lenl, w_intb, w_list, w_tuple, w_min, w_idxt0, w_idxt1, w_idxu0, w_idxu1, w_idxu2, w_idxl, w_slcl, w_slct, w_tb, w_ti, w_tn, w_tt, w_tl, w_itt, w_itl, w_bindT1, w_bindT2, w_srcl, w_srct, w_cut2, w_cut1, w_cut1', w_cut0, w_ty1, w_ty2, w_ty3, w_ty4, w_ty5, w_ty6, w_ty7, w_ty8, w_ty9, w_ty10, w_ty11, w_ty12, w_ty13, w_ty14, w_ty15, w_ty16, w_ty17, w_ty18, w_ty19, w_ty20, w_ty21, w_mapc, w_mapn, w_appc, w_appn, w_repc, w_repn, w_start, w_lenc, w_ifT, w_ifF, w_ifFF, w_ifTF, w_nT, w_nF, w_anyT, w_anyF, w_d22, ifSome_some, ifLst_lst, ifTup_tup, ifInt_int, lget, lset, lsets, Nat.reduceSub, Nat.reduceAdd, List.length_nil, ↓reduceIte]
  refine s_trim et hv fun ys j' hz ty => ?_
  have hys : ys = smul m K := ext_tr ty (.inr tm) fun t => by rw [← trim_ev hz, trim_ev rfl]
  subst hys
  refine ifSome.mk (getApp _ _ _) ?_
  dsimp only [qS1, qS2, qS3, qS4, qS5, qS6, qS7, qS8, qS9, qS10, qS11, qS12, qS13, qS14, qS15, qS16, qS17, qS18, qE1, qE2, qE3, qE4, qE5, qE6, qE7, qE8, qE9, qE10, qE11, qE12, qE13, qE14, qE15, qE16, qE17, qE18, qE19, qE20, qE21, qE22, qEs1, qEs2, wpAll, qO1, qO2, qI1, qI2, qI3, w_add, w_addl, w_sub, w_mul, w_mull, w_fdiv, w_mod, w_pow, w_lt, w_le, w_gt, w_ge, w_eq, w_ne, w_eqt, w_eql, w_net, w_nel, w_isn, w_ist, w_isi, w_isl, w_abs, w_lent, w_lenl, w_intb, w_list, w_tuple, w_min, w_idxt0, w_idxt1, w_idxu0, w_idxu1, w_idxu2, w_idxl, w_slcl, w_slct, w_tb, w_ti, w_tn, w_tt, w_tl, w_itt, w_itl, w_bindT1, w_bindT2, w_srcl, w_srct, w_cut2, w_cut1, w_cut1', w_cut0, w_ty1, w_ty2, w_ty3, w_ty4, w_ty5, w_ty6, w_ty7, w_ty8, w_ty9, w_ty10, w_ty11, w_ty12, w_ty13, w_ty14, w_ty15, w_ty16, w_ty17, w_ty18, w_ty19, w_ty20, w_ty21, w_mapc, w_mapn, w_appc, w_appn, w_repc, w_repn, w_start, w_lenc, w_ifT, w_ifF, w_ifFF, w_ifTF, w_nT, w_nF, w_anyT, w_anyF, w_d22, ifSome_some, ifLst_lst, ifTup_tup, ifInt_int, lget, lset, lsets, Nat.reduceSub, Nat.reduceAdd, List.length_nil, ↓reduceIte]
  rw [List.length_map, smul_len, decide_eq_false (by (clear e et er ed eq ew ec eo es h hv tK hm hd hk hQ hld hp hg tm hl hl0 hK0 hd0 hz ty; omega))]
  dsimp only [tPlain, qS1, qS2, qS3, qS4, qS5, qS6, qS7, qS8, qS9, qS10, qS11, qS12, qS13, qS14, qS15, qS16, qS17, qS18, qE1, qE2, qE3, qE4, qE5, qE6, qE7, qE8, qE9, qE10, qE11, qE12, qE13, qE14, qE15, qE16, qE17, qE18, qE19, qE20, qE21, qE22, qEs1, qEs2, wpAll, qO1, qO2, qI1, qI2, qI3, w_add, w_addl, w_sub, w_mul, w_mull, w_fdiv, w_mod, w_pow, w_lt, w_le, w_gt, w_ge, w_eq, w_ne, w_eqt, w_eql, w_net, w_nel, w_isn, w_ist, w_isi, w_isl, w_abs, w_lent, w_lenl, w_intb, w_list, w_tuple, w_min, w_idxt0, w_idxt1, w_idxu0, w_idxu1, w_idxu2, w_idxl, w_slcl, w_slct, w_tb, w_ti, w_tn, w_tt, w_tl, w_itt, w_itl, w_bindT1, w_bindT2, w_srcl, w_srct, w_cut2, w_cut1, w_cut1', w_cut0, w_ty1, w_ty2, w_ty3, w_ty4, w_ty5, w_ty6, w_ty7, w_ty8, w_ty9, w_ty10, w_ty11, w_ty12, w_ty13, w_ty14, w_ty15, w_ty16, w_ty17, w_ty18, w_ty19, w_ty20, w_ty21, w_mapc, w_mapn, w_appc, w_appn, w_repc, w_repn, w_start, w_lenc, w_ifT, w_ifF, w_ifFF, w_ifTF, w_nT, w_nF, w_anyT, w_anyF, w_d22, ifSome_some, ifLst_lst, ifTup_tup, ifInt_int, lget, lset, lsets, Nat.reduceSub, Nat.reduceAdd, List.length_nil, ↓reduceIte]
  refine s_red (n := n + 3) (ng := ngQ) ng_ok er (fun a b H' Z X' hz => s_pdiv ed hz) (v := .lst H.length) (getApp _ _ _) hl hl0 (by rw [smul_len]; (clear e et er ed eq ew ec eo es h hv tK hm hd hk hQ hld hp hg tm hl hl0 hK0 hd0 hz ty; omega)) ?_
  rw [h.K_eq hK0 hm hl hl0]
  have nK : (mulP gl d).length = K.length := by
    have := congrArg List.length (h.K_eq hK0 hm hl hl0)
    rw [redI_len, smul_len] at this; exact this.symm
  generalize hH1 : H ++ [(smul m K).map V.int] = H1
  have hp1 : H <+: H1 := by rw [← hH1]; exact preApp _ _
  obtain ⟨c, r, hcr⟩ : ∃ c r, mulP gl d = c :: r := by
    cases e : mulP gl d with
    | nil => rw [e] at nK; simp at nK; (clear et er ed eq ew ec eo es h hv tK hm hd hk hQ hld hp hg tm hl hl0 hK0 hd0 hz ty hH1 hp1 e; omega)
    | cons c r => exact ⟨c, r, rfl⟩
  have hr2 : r ≠ [] := by intro h; rw [hcr, h] at nK; simp at nK; (clear e et er ed eq ew ec eo es hv tK hm hd hk hQ hld hp hg tm hl hl0 hK0 hd0 hz ty hH1 hp1 hcr h; omega)
  have tr' : Tr r := by
    have := tr_mulP hg.tr (show Tr d from ⟨ld, hld, by (clear e et er ed eq ew ec eo es h hv tK hm h2 hn hd hk hQ hld hg tm hl hl0 hK0 hd0 hz ty nK hH1 hp1 hcr hr2; omega)⟩)
    rw [hcr] at this
    cases r with
    | nil => exact absurd rfl hr2
    | cons y r => exact this.tl
  obtain ⟨E, tE, eE, sE, hS, nE⟩ := h.El_tr hcr tr'
  have hk1 : (H1 ++ [(mulP gl d).map V.int])[H1.length]? = some ((mulP gl d).map V.int) := getApp _ _ _
  have hk1' : (H1 ++ [(mulP gl d).map V.int])[H1.length]? = some ((c :: r).map V.int) := by rw [← hcr]; exact hk1
  refine s_slope es (c := c) (r := r) hk1' (by rw [hcr, List.length_cons] at nK; (clear e et er ed eq ew ec eo es h hv tK hm hd hk hQ hld hp hg tm hl hl0 hK0 hd0 hz ty hH1 hp1 hcr hr2 tr' tE eE sE hS nE hk1 hk1'; omega)) ?_
  rw [hS]
  generalize hH2 : H1 ++ [(mulP gl d).map V.int] = H2 at hk1
  have hp2 : H1 <+: H2 := by rw [← hH2]; exact preApp _ _
  refine s_common ec eo et ew er ed hg (A := d) (B := E) (N := 10) (K := k) (v := .lst H1.length) (w := .lst H2.length) (getKeep (preApp _ _) hk1) (by rw [mulT_tr tE]; exact getApp _ _ _) ⟨ld, hld, by (clear e et er ed eq ew ec eo es h hv tK hm h2 hn hd hk hQ hld hg tm hl hl0 hK0 hd0 hz ty nK hH1 hp1 hcr hr2 tr' tE eE sE hS nE hk1' hH2 hk1 hp2; omega)⟩ (.inr tE) hd (by (clear e et er ed eq ew ec eo es h hv tK hm h2 hn hk hQ hld hp hg tm hl hl0 hK0 hd0 hz ty nK hH1 hp1 hcr hr2 tr' tE eE sE hS hk1' hH2 hk1 hp2; omega)) (by decide) h.sd sE hk fun H3 i x lx hp3 hi hx => ?_
  have hx1 := h.gcd1 eE hx
  subst hx1
  rw [mulP_1 hg.tr.ne] at hi
  have hk3 : H3[H1.length]? = some ((mulP gl d).map V.int) := getKeep hp3 (getKeep (preApp _ _) hk1)
  have hlen := mulP_len hg.tr.ne hd0
  refine s_quot eq ew (v := .lst H1.length) (w := .lst i) (K := g) (L := k) hk3 hi hg.last (Int.ne_of_gt hg.pos) (fun t => ev_mulP t gl d) hlen (by (clear e et er ed eq ew ec eo es h hv tK hm hd hk hQ hld hp hg tm hl hl0 hK0 hd0 hz ty hH1 hp1 hcr hr2 tr' tE eE sE hS nE hk1' hH2 hk1 hp2 hp3 hi hx hk3 hlen; omega)) hg.sm h.sd (by
    have : 1 ≤ 3 ^ 10 := by decide
    have := Nat.mul_le_mul_left (4 * (k + 1)) this
    (clear e et er ed eq ew ec eo es h hv tK hm h2 hn hd hQ hld hp hg tm hl hl0 hK0 hd0 hz ty nK hH1 hp1 hcr hr2 tr' tE eE sE hS nE hk1' hH2 hk1 hp2 hp3 hi hx hk3 hlen this; omega)) fun H4 i4 hp4 hi4 => ?_
  refine s_red (n := n + 3) (ng := ngQ) ng_ok er (fun a b H' Z X' hz => s_pdiv ed hz) (v := .lst i4) hi4 hld (by (clear e et er ed eq ew ec eo es h hv tK hm h2 hn hd hk hQ hld hg tm hl hl0 hK0 hd0 hz ty nK hH1 hp1 hcr hr2 tr' tE eE sE hS nE hk1' hH2 hk1 hp2 hp3 hi hx hk3 hlen hp4 hi4; omega)) (by (clear e et er ed eq ew ec eo es h hv tK hm h2 hn hk hQ hld hp hg tm hl hl0 hK0 hd0 hz ty nK hH1 hp1 hcr hr2 tr' tE eE sE hS nE hk1' hH2 hk1 hp2 hp3 hi hx hk3 hp4 hi4; omega)) ?_
  rw [redI_one h.d1 hp]
  have hpp : H <+: H4 := preTrans hp1 (preTrans hp2 (preTrans (preApp _ _) (preTrans hp3 hp4)))
  exact hQ _ _ (preTrans hpp (preApp _ _)) (List.IsPrefix.length_le hpp) (getApp _ _ _)
/-- no row: less than two numbers behind the noughts -/
theorem s_plain_no {W : Nat → Prop} {N : Loc → Hp → Prop} {R : V → Hp → Prop} {Y : Nat → Hp → Prop} (et : P[tr]? = some ⟨1, 2, bTrim⟩) {v : V} {row : List Int} {j : Nat} {x : Int} (hv : items H v = some (row.map .int)) (hr : row = zeros j ∨ row = x :: zeros j) (hY : ∀ H', H <+: H' → Y 2 H') :
    wpS sub (callN sub P (n + 1)) W (bPlain tr re qu co sp) [some v, none] H N R Y := by
  dsimp only [bPlain, qS1, qS2, qS3, qS4, qS5, qS6, qS7, qS8, qS9, qS10, qS11, qS12, qS13, qS14, qS15, qS16, qS17, qS18, qE1, qE2, qE3, qE4, qE5, qE6, qE7, qE8, qE9, qE10, qE11, qE12, qE13, qE14, qE15, qE16, qE17, qE18, qE19, qE20, qE21, qE22, qEs1, qEs2, wpAll, qO1, qO2, qI1, qI2, qI3, w_add, w_addl, w_sub, w_mul, w_mull, w_fdiv, w_mod, w_pow, w_lt, w_le, w_gt, w_ge, w_eq, w_ne, w_eqt, w_eql, w_net, w_nel, w_isn, w_ist, w_isi, w_isl, w_abs, w_lent, w_lenl, w_intb, w_list, w_tuple, w_min, w_idxt0, w_idxt1, w_idxu0, w_idxu1, w_idxu2, w_idxl, w_slcl, w_slct, w_tb, w_ti, w_tn, w_tt, w_tl, w_itt, w_itl, w_bindT1, w_bindT2, w_srcl, w_srct, w_cut2, w_cut1, w_cut1', w_cut0, w_ty1, w_ty2, w_ty3, w_ty4, w_ty5, w_ty6, w_ty7, w_ty8, w_ty9, w_ty10, w_ty11, w_ty12, w_ty13, w_ty14, w_ty15, w_ty16, w_ty17, w_ty18, w_ty19, w_ty20, w_ty21, w_mapc, w_mapn, w_appc, w_appn, w_repc, w_repn, w_start, w_lenc, w_ifT, w_ifF, w_ifFF, w_ifTF, w_nT, w_nF, w_anyT, w_anyF, w_d22, ifSome_some, ifLst_lst, ifTup_tup, ifInt_int, lget, lset, lsets, Nat.reduceSub, Nat.reduceAdd, List.length_nil, ↓reduceIte]
  refine s_trim et hv fun ys k hz ty => ?_
  refine ifSome.mk (getApp _ _ _) ?_
  have hle : ys.length < 2 := by
    rcases ty with rfl | ⟨l, hl, hl0⟩
    · decide
    · refine Nat.lt_of_not_le fun h2 => hl0 ?_
      have hmem : l ∈ ys.tail := by
        cases ys with
        | nil => cases hl
        | cons a b =>
          cases b with
          | nil => simp at h2
          | cons c b => rw [List.getLast?_cons_cons] at hl; exact List.mem_of_getLast? hl
      have hrt : ∀ y ∈ row.tail, y = 0 := fun y hy => by
        rcases hr with rfl | rfl
        · exact List.eq_of_mem_replicate (List.mem_of_mem_tail hy)
        · exact List.eq_of_mem_replicate hy
      refine hrt l ?_
      rw [hz]
      cases ys with
      | nil => cases hl
      | cons a b => exact List.mem_append_left _ hmem
  dsimp only [qS1, qS2, qS3, qS4, qS5, qS6, qS7, qS8, qS9, qS10, qS11, qS12, qS13, qS14, qS15, qS16, qS17, qS18, qE1, qE2, qE3, qE4, qE5, qE6, qE7, qE8, qE9, qE10, qE11, qE12, qE13, qE14, qE15, qE16, qE17, qE18, qE19, qE20, qE21, qE22, qEs1, qEs2, wpAll, qO1, qO2, qI1, qI2, qI3, w_add, w_addl, w_sub, w_mul, w_mull, w_fdiv, w_mod, w_pow, w_lt, w_le, w_gt, w_ge, w_eq, w_ne, w_eqt, w_eql, w_net, w_nel, w_isn, w_ist, w_isi, w_isl, w_abs, w_lent, w_lenl, w_intb, w_list, w_tuple, w_min, w_idxt0, w_idxt1, w_idxu0, w_idxu1, w_idxu2, w_idxl, w_slcl, w_slct, w_tb, w_ti, w_tn, w_tt, w_tl, w_itt, w_itl, w_bindT1, w_bindT2, w_srcl, w_srct, w_cut2, w_cut1, w_cut1', w_cut0, w_ty1, w_ty2, w_ty3, w_ty4, w_ty5, w_ty6, w_ty7, w_ty8, w_ty9, w_ty10, w_ty11, w_ty12, w_ty13, w_ty14, w_ty15, w_ty16, w_ty17, w_ty18, w_ty19, w_ty20, w_ty21, w_mapc, w_mapn, w_appc, w_appn, w_repc, w_repn, w_start, w_lenc, w_ifT, w_ifF, w_ifFF, w_ifTF, w_nT, w_nF, w_anyT, w_anyF, w_d22, ifSome_some, ifLst_lst, ifTup_tup, ifInt_int, lget, lset, lsets, Nat.reduceSub, Nat.reduceAdd, List.length_nil, ↓reduceIte]
  rw [List.length_map, decide_eq_true (by (clear et hv hr hY hz ty; omega))]
  exact hY _ (preApp _ _)
end
end Mine

set_option autoImplicit false
set_option linter.unusedVariables false
set_option linter.unusedSimpArgs false
set_option maxRecDepth 100000
namespace Mine
open PySem
theorem ev_set (t z : Int) : ∀ {xs : List Int} {i : Nat}, i < xs.length → ev (xs.set i (xs.getD i 0 + z)) t = ev xs t + z * t ^ i
  | [], _, h => by simp at h
  | x :: r, 0, _ => by
    show ev ((x + z) :: r) t = _
    rw [ev_cons, ev_cons, Int.pow_zero]; omega
  | x :: r, i + 1, h => by
    show ev (x :: r.set i (r.getD i 0 + z)) t = _
    rw [ev_cons, ev_cons, ev_set t z (by simpa using h), Int.pow_succ]; grind
section
variable {sub : Nat → Nat → Bool} {P : List Fn} {f n dv by_ pa fa : Nat} {H : Hp} {Q : V → Hp → Prop} {X : Nat → Hp → Prop}
theorem s_byG (e : P[f]? = some ⟨2, 5, bBy⟩) {m w : Nat} {row o : List Int} (hm : H[m]? = some (row.map .int)) (hw : H[w]? = some (o.map .int)) (hr0 : row ≠ []) (ho0 : o ≠ []) (hl : row.length + o.length ≤ 800) (hb : ∀ x ∈ row, ∀ y ∈ o, IntMulOk x y)
    (hQ : Q (.lst H.length) (H ++ [(mulP row o).map .int])) : callN sub P (n + 1) f [.lst m, .lst w] H Q X := by
  have hr1 := List.length_pos_iff.mpr hr0
  have ho1 := List.length_pos_iff.mpr ho0
  refine callN_mk e rfl ?_
  dsimp only [bBy, zBy, qS1, qS2, qS3, qS4, qS5, qS6, qS7, qS8, qS9, qS10, qS11, qS12, qS13, qS14, qS15, qS16, qS17, qS18, qE1, qE2, qE3, qE4, qE5, qE6, qE7, qE8, qE9, qE10, qE11, qE12, qE13, qE14, qE15, qE16, qE17, qE18, qE19, qE20, qE21, qE22, qEs1, qEs2, wpAll, qO1, qO2, qI1, qI2, qI3, w_add, w_addl, w_sub, w_mul, w_mull, w_fdiv, w_mod, w_pow, w_lt, w_le, w_gt, w_ge, w_eq, w_ne, w_eqt, w_eql, w_net, w_nel, w_isn, w_ist, w_isi, w_isl, w_abs, w_lent, w_lenl, w_intb, w_list, w_tuple, w_min, w_idxt0, w_idxt1, w_idxu0, w_idxu1, w_idxu2, w_idxl, w_slcl, w_slct, w_tb, w_ti, w_tn, w_tt, w_tl, w_itt, w_itl, w_bindT1, w_bindT2, w_srcl, w_srct, w_cut2, w_cut1, w_cut1', w_cut0, w_ty1, w_ty2, w_ty3, w_ty4, w_ty5, w_ty6, w_ty7, w_ty8, w_ty9, w_ty10, w_ty11, w_ty12, w_ty13, w_ty14, w_ty15, w_ty16, w_ty17, w_ty18, w_ty19, w_ty20, w_ty21, w_mapc, w_mapn, w_appc, w_appn, w_repc, w_repn, w_start, w_lenc, w_ifT, w_ifF, w_ifFF, w_ifTF, w_nT, w_nF, w_anyT, w_anyF, w_d22, ifSome_some, ifLst_lst, ifTup_tup, ifInt_int, lget, lset, lsets, Nat.reduceSub, Nat.reduceAdd, List.length_nil, ↓reduceIte]
  refine ifSome.mk hm (ifSome.mk hw ?_)
  rw [List.length_map, List.length_map]
  refine rng1 (smallI_of (by (clear e hm hw hr0 ho0 hl hb hQ; omega)) (by (clear e hm hw hr0 ho0 hb hQ hr1 ho1; omega))) ⟨by rw [List.length_map, List.length_range']; unfold lim; (clear e hm hw hr0 ho0 hb hQ hr1 ho1; omega), ?_⟩
  refine compGo_rng (g := fun _ => V.int 0) (fun i hi k hk => hk) ?_
  rw [show ((row.length : Int) + ((o.length : Nat) : Int) - 1).toNat = row.length + o.length - 1 by (clear e hm hw hr0 ho0 hb hQ; omega)]
  refine ifSome.mk (getKeep (preApp _ _) hm) ?_
  rw [List.length_map]
  refine rng1 (small_nat (by (clear e hm hw hr0 ho0 hb hQ hr1; omega))) ?_
  rw [Int.toNat_natCast]
  have e0 : (List.range' 0 (row.length + o.length - 1)).map (fun _ => V.int 0) = (zeros (row.length + o.length - 1)).map V.int := by rw [List.map_const', List.length_range', zeros, List.map_replicate]
  rw [e0]
  refine forGo_rule (fun rest ρ H' => ∃ dn td xs o1 o2, row = dn ++ td ∧ rest = (List.range' dn.length td.length).map (fun (i : Nat) => V.int (i : Int)) ∧ ρ = [some (.lst m), some (.lst w), some (.lst H.length), o1, o2] ∧
    H' = H ++ [(xs : List Int).map V.int] ∧ xs.length = row.length + o.length - 1 ∧ ∀ t, ev xs t = ev dn t * ev o t) ?_ ?_ _ _ _ ⟨[], row, zeros (row.length + o.length - 1), _, _, rfl, rfl, rfl, rfl, by simp [zeros], fun t => by rw [ev_zeros, ev_nil]; (clear e hm hw hr0 ho0 hl hb hQ hr1 ho1 e0; omega)⟩
  · rintro x rest ρ H' k ⟨dn, td, xs, o1, o2, hr, hx, rfl, rfl, hxl, hev⟩ hk
    cases td with
    | nil => cases hx
    | cons y td =>
      rw [range'_len] at hx
      cases hx
      have hm' : ∀ l : List V, (H ++ [l])[m]? = some (row.map .int) := fun l => getKeep (preApp _ _) hm
      have hw' : ∀ l : List V, (H ++ [l])[w]? = some (o.map .int) := fun l => getKeep (preApp _ _) hw
      have hy : (row.map V.int)[dn.length]? = some (.int y) := by rw [hr, List.map_append, List.map_cons]; have := getApp (dn.map V.int) (V.int y) (td.map V.int); rwa [List.length_map] at this
      have hdl : dn.length < (row.map V.int).length := by rw [hr]; simp
      have hdl' : dn.length < row.length := by rw [hr]; simp
      dsimp only [lBy2, qS1, qS2, qS3, qS4, qS5, qS6, qS7, qS8, qS9, qS10, qS11, qS12, qS13, qS14, qS15, qS16, qS17, qS18, qE1, qE2, qE3, qE4, qE5, qE6, qE7, qE8, qE9, qE10, qE11, qE12, qE13, qE14, qE15, qE16, qE17, qE18, qE19, qE20, qE21, qE22, qEs1, qEs2, wpAll, qO1, qO2, qI1, qI2, qI3, w_add, w_addl, w_sub, w_mul, w_mull, w_fdiv, w_mod, w_pow, w_lt, w_le, w_gt, w_ge, w_eq, w_ne, w_eqt, w_eql, w_net, w_nel, w_isn, w_ist, w_isi, w_isl, w_abs, w_lent, w_lenl, w_intb, w_list, w_tuple, w_min, w_idxt0, w_idxt1, w_idxu0, w_idxu1, w_idxu2, w_idxl, w_slcl, w_slct, w_tb, w_ti, w_tn, w_tt, w_tl, w_itt, w_itl, w_bindT1, w_bindT2, w_srcl, w_srct, w_cut2, w_cut1, w_cut1', w_cut0, w_ty1, w_ty2, w_ty3, w_ty4, w_ty5, w_ty6, w_ty7, w_ty8, w_ty9, w_ty10, w_ty11, w_ty12, w_ty13, w_ty14, w_ty15, w_ty16, w_ty17, w_ty18, w_ty19, w_ty20, w_ty21, w_mapc, w_mapn, w_appc, w_appn, w_repc, w_repn, w_start, w_lenc, w_ifT, w_ifF, w_ifFF, w_ifTF, w_nT, w_nF, w_anyT, w_anyF, w_d22, ifSome_some, ifLst_lst, ifTup_tup, ifInt_int, lget, lset, lsets, Nat.reduceSub, Nat.reduceAdd, List.length_nil, ↓reduceIte]
      refine ifSome.mk (hw' _) ?_
      rw [List.length_map]
      refine rng1 (small_nat (by (clear e hm hw hr0 ho0 hb hQ ho1 e0 hxl hev hr hk hm' hw' hy hdl hdl'; omega))) ?_
      rw [Int.toNat_natCast]
      refine forGo_rule (fun rest ρ H' => ∃ d2 t2 zs o2, o = d2 ++ t2 ∧ rest = (List.range' d2.length t2.length).map (fun (i : Nat) => V.int (i : Int)) ∧ ρ = [some (.lst m), some (.lst w), some (.lst H.length), some (.int (dn.length : Int)), o2] ∧
        H' = H ++ [(zs : List Int).map V.int] ∧ zs.length = row.length + o.length - 1 ∧ ∀ t, ev zs t = ev dn t * ev o t + y * t ^ dn.length * ev d2 t) ?_ ?_ _ _ _ ⟨[], o, xs, _, rfl, rfl, rfl, rfl, hxl, fun t => by rw [hev, ev_nil]; (clear e hm hw hr0 ho0 hl hb hQ hr1 ho1 e0 hxl hev hr hk hm' hw' hy hdl hdl'; omega)⟩
      · rintro x2 rest2 ρ2 H2 k2 ⟨d2, t2, zs, o3, ho, hx2, rfl, rfl, hzl, hev2⟩ hk2
        cases t2 with
        | nil => cases hx2
        | cons z t2 =>
          rw [range'_len] at hx2
          cases hx2
          have hz : (o.map V.int)[d2.length]? = some (.int z) := by rw [ho, List.map_append, List.map_cons]; have := getApp (d2.map V.int) (V.int z) (t2.map V.int); rwa [List.length_map] at this
          have hd2 : d2.length < o.length := by rw [ho]; simp
          have hi : dn.length + d2.length < zs.length := by (clear e hm hw hr0 ho0 hl hb hQ e0 hxl hev hr hk hm' hw' hy hdl hev2 ho hk2 hz; omega)
          have ei : ((dn.length : Nat) : Int) + ((d2.length : Nat) : Int) = ((dn.length + d2.length : Nat) : Int) := (Int.natCast_add _ _).symm
          dsimp only [lBy1, qS1, qS2, qS3, qS4, qS5, qS6, qS7, qS8, qS9, qS10, qS11, qS12, qS13, qS14, qS15, qS16, qS17, qS18, qE1, qE2, qE3, qE4, qE5, qE6, qE7, qE8, qE9, qE10, qE11, qE12, qE13, qE14, qE15, qE16, qE17, qE18, qE19, qE20, qE21, qE22, qEs1, qEs2, wpAll, qO1, qO2, qI1, qI2, qI3, w_add, w_addl, w_sub, w_mul, w_mull, w_fdiv, w_mod, w_pow, w_lt, w_le, w_gt, w_ge, w_eq, w_ne, w_eqt, w_eql, w_net, w_nel, w_isn, w_ist, w_isi, w_isl, w_abs, w_lent, w_lenl, w_intb, w_list, w_tuple, w_min, w_idxt0, w_idxt1, w_idxu0, w_idxu1, w_idxu2, w_idxl, w_slcl, w_slct, w_tb, w_ti, w_tn, w_tt, w_tl, w_itt, w_itl, w_bindT1, w_bindT2, w_srcl, w_srct, w_cut2, w_cut1, w_cut1', w_cut0, w_ty1, w_ty2, w_ty3, w_ty4, w_ty5, w_ty6, w_ty7, w_ty8, w_ty9, w_ty10, w_ty11, w_ty12, w_ty13, w_ty14, w_ty15, w_ty16, w_ty17, w_ty18, w_ty19, w_ty20, w_ty21, w_mapc, w_mapn, w_appc, w_appn, w_repc, w_repn, w_start, w_lenc, w_ifT, w_ifF, w_ifFF, w_ifTF, w_nT, w_nF, w_anyT, w_anyF, w_d22, ifSome_some, ifLst_lst, ifTup_tup, ifInt_int, lget, lset, lsets, Nat.reduceSub, Nat.reduceAdd, List.length_nil, ↓reduceIte]
          rw [ei]
          refine ifSome.mk (getApp _ _ _) (ifSome.mk (place_nat (k := dn.length + d2.length) (by rw [List.length_map]; exact hi)) (ifSome.mk (v := .int (zs.getD (dn.length + d2.length) 0)) ?_ ?_))
          · rw [List.getElem?_map, List.getElem?_eq_getElem hi, List.getD_eq_getElem?_getD, List.getElem?_eq_getElem hi]; rfl
          refine ifSome.mk (hm' _) (ifSome.mk (place_nat hdl) (ifSome.mk hy ?_))
          refine ifSome.mk (hw' _) (ifSome.mk (place_nat (by rw [List.length_map]; exact hd2)) (ifSome.mk hz ⟨hb y (by rw [hr]; simp) z (by rw [ho]; simp), ?_⟩))
          refine ⟨⟨⟨Nat.le_refl _, Option.some_ne_none _⟩, Option.some_ne_none _⟩, ?_⟩
          refine ifSome.mk (getApp _ _ _) (ifSome.mk (place_nat (k := dn.length + d2.length) (by rw [List.length_map]; exact hi)) ?_)
          rw [setApp]
          refine hk2 _ _ ⟨d2 ++ [z], t2, zs.set (dn.length + d2.length) (zs.getD (dn.length + d2.length) 0 + y * z), _, by rw [ho, List.append_assoc]; rfl, by rw [List.length_append]; rfl, rfl, by rw [List.map_set], by rw [List.length_set]; exact hzl, fun t => ?_⟩
          rw [ev_set t _ hi, hev2, ev_append, ev1, Int.pow_add]; grind
      · rintro ρ2 H2 ⟨d2, t2, zs, o3, ho, hx2, rfl, rfl, hzl, hev2⟩
        cases t2 with
        | cons z t2 => rw [range'_len] at hx2; cases hx2
        | nil =>
          rw [List.append_nil] at ho
          subst ho
          refine hk _ _ ⟨dn ++ [y], td, zs, _, _, by rw [hr, List.append_assoc]; rfl, by rw [List.length_append]; rfl, rfl, rfl, hzl, fun t => ?_⟩
          rw [hev2, ev_append, ev1]; grind
  · rintro ρ H' ⟨dn, td, xs, o1, o2, hr, hx, rfl, rfl, hxl, hev⟩
    cases td with
    | cons y td => rw [range'_len] at hx; cases hx
    | nil =>
      rw [List.append_nil] at hr
      subst hr
      have : xs = mulP row o := ext_vals (by have := mulP_len hr0 ho0; (clear e hm hw hr0 ho0 hb hQ hr1 ho1 e0 hev hx; omega)) fun t => by
        show ev xs t = ev _ t
        rw [hev, ev_mulP]
      rw [this]; exact hQ

/-! the factors -/
theorem gcd_lin {p q : Int} {k : Nat} (h : Low k p q) : gAll [0 - p, q] 0 = 1 := by
  show Nat.gcd (Nat.gcd 0 (0 - p).natAbs) q.natAbs = 1
  rw [Nat.gcd_zero_left, Int.zero_sub, Int.natAbs_neg]; exact h.one
theorem ftr_lin {p q : Int} {k : Nat} (h : Low k p q) : Ftr [0 - p, q] q := ⟨irr1 (Int.ne_of_gt h.pos), by simp, by simp, rfl, h.pos, gcd_lin h⟩
theorem ftr_sq {d : Nat} (hd : d = 2 ∨ d = 3 ∨ d = 5 ∨ d = 6 ∨ d = 7) : Ftr [0 - (d : Int), 0, 1] 1 := by
  refine ⟨irr2 (by decide) (by rw [Int.zero_sub]; exact nr_sq hd), by simp, by simp, rfl, by decide, ?_⟩
  show Nat.gcd (Nat.gcd (Nat.gcd 0 _) _) (1 : Int).natAbs = 1
  exact Nat.gcd_one_right _
theorem ftr_cb {c : Int} (hd : c.natAbs = 2 ∨ c.natAbs = 3 ∨ c.natAbs = 5 ∨ c.natAbs = 7) : Ftr [c, 0, 0, 1] 1 := by
  refine ⟨irr3 (nr_cb hd), by simp, by simp, rfl, by decide, ?_⟩
  show Nat.gcd (Nat.gcd (Nat.gcd (Nat.gcd 0 _) _) _) (1 : Int).natAbs = 1
  exact Nat.gcd_one_right _
theorem ftr_def {a b c : Int} (ha : 0 < a) (h : b * b < 4 * a * c) (g : Int) (hg : g = ((c.gcd ((b.gcd a : Nat) : Int) : Nat) : Int)) : Ftr [c.fdiv g, b.fdiv g, a.fdiv g] (a.fdiv g) ∧ (a.fdiv g) * g = a ∧ (b.fdiv g) * g = b ∧ (c.fdiv g) * g = c := by
  have g0 : 0 < b.gcd a := Int.gcd_pos_of_ne_zero_right b (by (clear h hg; omega))
  have gp : 0 < g := by
    rw [hg]
    exact Int.natCast_pos.mpr (Int.gcd_pos_of_ne_zero_right c (by (clear ha h hg; omega)))
  have dc : g ∣ c := by rw [hg]; exact Int.gcd_dvd_left c _
  have dm : g ∣ ((b.gcd a : Nat) : Int) := by rw [hg]; exact Int.gcd_dvd_right c _
  have db : g ∣ b := Int.dvd_trans dm (Int.gcd_dvd_left b a)
  have da : g ∣ a := Int.dvd_trans dm (Int.gcd_dvd_right b a)
  have ec := Int.fdiv_mul_cancel dc
  have eb := Int.fdiv_mul_cancel db
  have ea := Int.fdiv_mul_cancel da
  generalize c.fdiv g = c' at *
  generalize b.fdiv g = b' at *
  generalize a.fdiv g = a' at *
  have ha' : 0 < a' := Int.pos_of_mul_pos_left (by rw [ea]; exact ha) gp
  have hdisc : b' * b' < 4 * a' * c' := by
    have h1 : (b' * b') * (g * g) < (4 * a' * c') * (g * g) := by
      have i1 : (b' * b') * (g * g) = b * b := by rw [← eb]; grind
      have i2 : (4 * a' * c') * (g * g) = 4 * a * c := by rw [← ea, ← ec]; grind
      rw [i1, i2]; exact h
    exact Int.lt_of_mul_lt_mul_right h1 (Int.le_of_lt (Int.mul_pos gp gp))
  refine ⟨⟨irr2 (by (clear ha h hg g0 gp dc dm db da ec eb ea hdisc; omega)) (nr_def ha' hdisc), by simp, by simp, rfl, ha', prim_of fun d hd => ?_⟩, ea, eb, ec⟩
  have hc := hd c' (by simp)
  have hb := hd b' (by simp)
  have hA := hd a' (by simp)
  have k1 : ((d : Int) * g) ∣ ((b.gcd a : Nat) : Int) := Int.dvd_coe_gcd (by rw [← eb]; exact Int.mul_dvd_mul hb (Int.dvd_refl g)) (by rw [← ea]; exact Int.mul_dvd_mul hA (Int.dvd_refl g))
  have k2 : ((d : Int) * g) ∣ g := by
    conv => rhs; rw [hg]
    exact Int.dvd_coe_gcd (by rw [← ec]; exact Int.mul_dvd_mul hc (Int.dvd_refl g)) k1
  obtain ⟨m, hm⟩ := k2
  have h3 : g * 1 = g * ((d : Int) * m) := by rw [Int.mul_one]; conv => lhs; rw [hm]
                                              grind
  have h4 : (d : Int) * m = 1 := (Int.eq_of_mul_eq_mul_left (by (clear ha h g0 dc dm db da ec eb ea ha' hdisc hd hc hb hA k1; omega)) h3).symm
  have h5 : (d : Int) ∣ 1 := ⟨m, h4.symm⟩
  have h6 := Int.natCast_dvd_natCast.mp (show ((d : Nat) : Int) ∣ ((1 : Nat) : Int) from h5)
  exact Nat.dvd_one.mp h6
end
end Mine

set_option autoImplicit false
set_option linter.unusedVariables false
namespace Mine

/-! values -/
end Mine

set_option autoImplicit false
set_option linter.unusedVariables false
namespace Mine

/-- the row goes up once from below nought to above nought in the stretch -/
structure UP (row : List Int) (p1 q1 p2 q2 : Int) : Prop where
  b1 : 0 < q1
  b2 : 0 < q2
  lt : p1 * q2 < p2 * q1
  lo : hval p1 q1 row < 0
  hi : 0 < hval p2 q2 row
  up : Up (hs (p1 * q2) (p2 * q1) (q1 * q2) row)
end Mine

set_option autoImplicit false
set_option linter.unusedVariables false
set_option linter.unusedSimpArgs false
set_option maxRecDepth 100000
namespace Mine
open PySem
section
variable {sub : Nat → Nat → Bool} {P : List Fn} {f n dv pa be ps pr ta sg : Nat} {H : Hp} {Q : V → Hp → Prop} {X : Nat → Hp → Prop}
end
/-! the plain side of one step -/
end Mine

set_option autoImplicit false
set_option maxRecDepth 100000
namespace Mine
namespace L03
open PySem
/- 0: divisor(one, other) rank 1; vars 0=one, 1=other, 2=rest -/
noncomputable def t_divisor_1 : PS := (.seq (.ret (.var 0))
 .skip)
noncomputable def c_divisor_1 : PE := (.cmp .gt (.var 1) (.cint 0))
noncomputable def l_divisor_1 : PS := (.seq (.assign 2 (.bin .mod (.var 0) (.var 1)))
 (.seq (.assign 0 (.var 1))
 (.seq (.assign 1 (.var 2))
 .skip)))
noncomputable def b_divisor : PS := (.seq (.assign 0 (.bi .abs (.cons (.var 0) .nil)))
 (.seq (.assign 1 (.bi .abs (.cons (.var 1) .nil)))
 (.seq (.whl c_divisor_1 l_divisor_1)
 t_divisor_1)))
noncomputable def v_divisor : List Str := ["one", "other", "rest"]
/- 1: trimmed(row) rank 1; vars 0=row, 1=found -/
noncomputable def t_trimmed_1 : PS := (.seq (.ret (.var 1))
 .skip)
noncomputable def c_trimmed_1 : PE := (.and (.cons (.var 1) (.cons (.cmp .eq (.idx (.var 1) (.neg (.cint 1))) (.cint 0)) .nil)))
noncomputable def l_trimmed_1 : PS := (.seq (.pop 1)
 .skip)
noncomputable def b_trimmed : PS := (.seq (.assign 1 (.bi .list (.cons (.var 0) .nil)))
 (.seq (.whl c_trimmed_1 l_trimmed_1)
 t_trimmed_1))
noncomputable def v_trimmed : List Str := ["row", "found"]
/- 2: reduced(row) rank 2; vars 0=row, 1=many, 2=number -/
noncomputable def e_reduced_1 : PE := (.bin .fdiv (.var 0) (.var 1))
noncomputable def t_reduced_1 : PS := (.seq (.ret (.comp e_reduced_1 1 [1] (.seq (.var 0)) .no))
 .skip)
noncomputable def t_reduced_2 : PS := (.seq (.ite (.cmp .lt (.idx (.var 0) (.neg (.cint 1))) (.cint 0)) (.seq (.assign 1 (.neg (.var 1)))
 .skip) .skip)
 t_reduced_1)
noncomputable def l_reduced_1 : PS := (.seq (.assign 1 (.call 0 (.cons (.var 1) (.cons (.var 2) .nil))))
 .skip)
noncomputable def b_reduced : PS := (.seq (.assign 1 (.cint 0))
 (.seq (.forr 2 (.seq (.var 0)) l_reduced_1)
 t_reduced_2))
noncomputable def v_reduced : List Str := ["row", "many", "number"]
/- 3: slope(row) rank 1; vars 0=row -/
noncomputable def e_slope_1 : PE := (.bin .mul (.var 0) (.idx (.var 1) (.var 0)))
noncomputable def b_slope : PS := (.seq (.ret (.comp e_slope_1 1 [0] (.rng (.cons (.cint 1) (.cons (.bi .len (.cons (.var 0) .nil)) .nil))) .no))
 .skip)
noncomputable def v_slope : List Str := ["row"]
/- 4: without_last(left, other, many, scale) rank 1; vars 0=left, 1=other, 2=many, 3=scale, 4=found, 5=ahead, 6=k -/
noncomputable def t_without_last_1 : PS := (.seq (.ret (.var 4))
 .skip)
noncomputable def l_without_last_1 : PS := (.seq (.setidx 4 (.bin .add (.var 5) (.var 6)) (.bin .sub (.idx (.var 4) (.bin .add (.var 5) (.var 6))) (.bin .mul (.var 2) (.idx (.var 1) (.var 6)))))
 .skip)
noncomputable def e_without_last_1 : PE := (.bin .mul (.var 0) (.var 1))
noncomputable def b_without_last : PS := (.seq (.assign 4 (.comp e_without_last_1 1 [3] (.seq (.var 0)) .no))
 (.seq (.assign 5 (.bin .sub (.bi .len (.cons (.var 0) .nil)) (.bi .len (.cons (.var 1) .nil))))
 (.seq (.forr 6 (.rng (.cons (.bi .len (.cons (.var 1) .nil)) .nil)) l_without_last_1)
 t_without_last_1)))
noncomputable def v_without_last : List Str := ["left", "other", "many", "scale", "found", "ahead", "k"]
/- 5: rest_of(one, other) rank 3; vars 0=one, 1=other, 2=left -/
noncomputable def t_rest_of_1 : PS := (.seq (.ret (.var 2))
 .skip)
noncomputable def c_rest_of_1 : PE := (.cmp .ge (.bi .len (.cons (.var 2) .nil)) (.bi .len (.cons (.var 1) .nil)))
noncomputable def l_rest_of_1 : PS := (.seq (.assign 2 (.call 1 (.cons (.call 4 (.cons (.var 2) (.cons (.var 1) (.cons (.idx (.var 2) (.neg (.cint 1))) (.cons (.idx (.var 1) (.neg (.cint 1))) .nil))))) .nil)))
 (.seq (.ite (.var 2) (.seq (.assign 2 (.call 2 (.cons (.var 2) .nil)))
 .skip) .skip)
 .skip))
noncomputable def b_rest_of : PS := (.seq (.assign 2 (.bi .list (.cons (.var 0) .nil)))
 (.seq (.whl c_rest_of_1 l_rest_of_1)
 t_rest_of_1))
noncomputable def v_rest_of : List Str := ["one", "other", "left"]
/- 6: common(one, other) rank 4; vars 0=one, 1=other, 2=rest -/
noncomputable def t_common_1 : PS := (.seq (.ret (.call 2 (.cons (.var 0) .nil)))
 .skip)
noncomputable def c_common_1 : PE := (.var 1)
noncomputable def l_common_1 : PS := (.seq (.assign 2 (.call 5 (.cons (.var 0) (.cons (.var 1) .nil))))
 (.seq (.assign 0 (.var 1))
 (.seq (.assign 1 (.var 2))
 .skip)))
noncomputable def b_common : PS := (.seq (.whl c_common_1 l_common_1)
 t_common_1)
noncomputable def v_common : List Str := ["one", "other", "rest"]
/- 7: quotient(one, other) rank 2; vars 0=one, 1=other, 2=left, 3=found, 4=many -/
noncomputable def t_quotient_1 : PS := (.seq (.rev 3)
 (.seq (.ret (.var 3))
 .skip))
noncomputable def c_quotient_1 : PE := (.cmp .ge (.bi .len (.cons (.var 2) .nil)) (.bi .len (.cons (.var 1) .nil)))
noncomputable def l_quotient_1 : PS := (.seq (.assign 4 (.bin .fdiv (.idx (.var 2) (.neg (.cint 1))) (.idx (.var 1) (.neg (.cint 1)))))
 (.seq (.app 3 (.var 4))
 (.seq (.assign 2 (.call 4 (.cons (.var 2) (.cons (.var 1) (.cons (.var 4) (.cons (.cint 1) .nil))))))
 (.seq (.pop 2)
 .skip))))
noncomputable def b_quotient : PS := (.seq (.assign 2 (.bi .list (.cons (.var 0) .nil)))
 (.seq (.assign 3 (.lst .nil))
 (.seq (.whl c_quotient_1 l_quotient_1)
 t_quotient_1)))
noncomputable def v_quotient : List Str := ["one", "other", "left", "found", "many"]
/- 8: plain(row) rank 5; vars 0=row, 1=kept -/
noncomputable def t_plain_1 : PS := (.seq (.assign 1 (.call 2 (.cons (.var 1) .nil)))
 (.seq (.ret (.call 2 (.cons (.call 7 (.cons (.var 1) (.cons (.call 6 (.cons (.var 1) (.cons (.call 3 (.cons (.var 1) .nil)) .nil))) .nil))) .nil)))
 .skip))
noncomputable def b_plain : PS := (.seq (.assign 1 (.call 1 (.cons (.var 0) .nil)))
 (.seq (.ite (.cmp .lt (.bi .len (.cons (.var 1) .nil)) (.cint 2)) (.seq (.raise 2)
 .skip) .skip)
 t_plain_1))
noncomputable def v_plain : List Str := ["row", "kept"]
/- 9: _law_whole(_law_found) rank 1; vars 0=_law_found -/
noncomputable def b_law_whole : PS := (.seq (.ret (.and (.cons (.isi (.var 0) [.int]) (.cons (.nt (.isi (.var 0) [.bool])) .nil))))
 .skip)
noncomputable def v_law_whole : List Str := ["_law_found"]
/- 10: _law_cell_at(_law_script, _law_k) rank 1; vars 0=_law_script, 1=_law_k -/
noncomputable def t_law_cell_at_1 : PS := (.seq (.ret (.cint 0))
 .skip)
noncomputable def b_law_cell_at : PS := (.seq (.ite (.cmp .lt (.var 1) (.bi .len (.cons (.var 0) .nil))) (.seq (.ret (.idx (.var 0) (.var 1)))
 .skip) .skip)
 t_law_cell_at_1)
noncomputable def v_law_cell_at : List Str := ["_law_script", "_law_k"]
/- 11: _law_divisor(_law_one, _law_other) rank 1; vars 0=_law_one, 1=_law_other, 2=_law_over -/
noncomputable def t_law_divisor_1 : PS := (.seq (.ret (.bi .abs (.cons (.var 0) .nil)))
 .skip)
noncomputable def c_law_divisor_1 : PE := (.cmp .ne (.var 1) (.cint 0))
noncomputable def l_law_divisor_1 : PS := (.seq (.assign 2 (.bin .mod (.var 0) (.var 1)))
 (.seq (.assign 0 (.var 1))
 (.seq (.assign 1 (.var 2))
 .skip)))
noncomputable def b_law_divisor : PS := (.seq (.whl c_law_divisor_1 l_law_divisor_1)
 t_law_divisor_1)
noncomputable def v_law_divisor : List Str := ["_law_one", "_law_other", "_law_over"]
/- 12: _law_part(_law_top, _law_bottom) rank 2; vars 0=_law_top, 1=_law_bottom, 2=_law_by_here -/
noncomputable def t_law_part_1 : PS := (.seq (.ret (.tup (.cons (.bin .fdiv (.var 0) (.var 2)) (.cons (.bin .fdiv (.var 1) (.var 2)) .nil))))
 .skip)
noncomputable def b_law_part : PS := (.seq (.assign 2 (.call 11 (.cons (.var 0) (.cons (.var 1) .nil))))
 (.seq (.ite (.cmp .lt (.var 1) (.cint 0)) (.seq (.assign 2 (.bin .sub (.cint 0) (.var 2)))
 .skip) .skip)
 t_law_part_1))
noncomputable def v_law_part : List Str := ["_law_top", "_law_bottom", "_law_by_here"]
/- 13: _law_by(_law_row, _law_other) rank 1; vars 0=_law_row, 1=_law_other, 2=_law_found, 3=_law_k, 4=_law_j -/
noncomputable def t_law_by_1 : PS := (.seq (.ret (.var 2))
 .skip)
noncomputable def l_law_by_1 : PS := (.seq (.setidx 2 (.bin .add (.var 3) (.var 4)) (.bin .add (.idx (.var 2) (.bin .add (.var 3) (.var 4))) (.bin .mul (.idx (.var 0) (.var 3)) (.idx (.var 1) (.var 4)))))
 .skip)
noncomputable def l_law_by_2 : PS := (.seq (.forr 4 (.rng (.cons (.bi .len (.cons (.var 1) .nil)) .nil)) l_law_by_1)
 .skip)
noncomputable def e_law_by_1 : PE := (.cint 0)
noncomputable def b_law_by : PS := (.seq (.assign 2 (.comp e_law_by_1 1 [] (.rng (.cons (.bin .sub (.bin .add (.bi .len (.cons (.var 0) .nil)) (.bi .len (.cons (.var 1) .nil))) (.cint 1)) .nil)) .no))
 (.seq (.forr 3 (.rng (.cons (.bi .len (.cons (.var 0) .nil)) .nil)) l_law_by_2)
 t_law_by_1))
noncomputable def v_law_by : List Str := ["_law_row", "_law_other", "_law_found", "_law_k", "_law_j"]
/- 14: _law_factor(_law_cell) rank 3; vars 0=_law_cell, 1=_law_way, 2=_law_over, 3=_law_lead, 4=_law_side, 5=_law_first, 6=_law_by_here, 7=_law_at -/
noncomputable def t_law_factor_1 : PS := (.seq (.ret (.lst (.cons (.bin .sub (.cint 0) (.idx (.var 7) (.cint 0))) (.cons (.idx (.var 7) (.cint 1)) .nil))))
 .skip)
noncomputable def t_law_factor_2 : PS := (.seq (.assign 7 (.call 12 (.cons (.bin .sub (.bin .mod (.var 2) (.cint 15)) (.cint 7)) (.cons (.bin .add (.cint 1) (.bin .mod (.bin .fdiv (.var 2) (.cint 15)) (.cint 4))) .nil))))
 (.seq (.ite (.cmp .eq (.var 1) (.cint 5)) (.seq (.assign 7 (.tup (.cons (.bin .sub (.bin .mod (.bin .fdiv (.var 2) (.cint 2)) (.bin .mul (.cint 2) (.bin .pow (.cint 10) (.cint 9)))) (.bin .pow (.cint 10) (.cint 9))) (.cons (.cint 1) .nil))))
 (.seq (.ite (.cmp .eq (.bin .mod (.var 2) (.cint 2)) (.cint 1)) (.seq (.assign 7 (.call 12 (.cons (.bin .add (.cint 333333) (.bin .mod (.bin .fdiv (.var 2) (.cint 2)) (.cint 7))) (.cons (.bin .pow (.cint 10) (.cint 6)) .nil))))
 .skip) .skip)
 .skip)) .skip)
 t_law_factor_1))
noncomputable def t_law_factor_3 : PS := (.seq (.ite (.cmp .eq (.var 1) (.cint 4)) (.seq (.ret (.lst (.cons (.idx (.lst (.cons (.neg (.cint 2)) (.cons (.neg (.cint 3)) (.cons (.neg (.cint 5)) (.cons (.neg (.cint 7)) (.cons (.cint 2) (.cons (.cint 3) .nil))))))) (.bin .mod (.var 2) (.cint 6))) (.cons (.cint 0) (.cons (.cint 0) (.cons (.cint 1) .nil))))))
 .skip) .skip)
 t_law_factor_2)
noncomputable def t_law_factor_4 : PS := (.seq (.ite (.cmp .eq (.var 1) (.cint 3)) (.seq (.assign 3 (.bin .add (.cint 1) (.bin .mod (.var 2) (.cint 3))))
 (.seq (.assign 4 (.bin .sub (.bin .mod (.bin .fdiv (.var 2) (.cint 3)) (.cint 9)) (.cint 4)))
 (.seq (.assign 5 (.bin .add (.bin .add (.bin .fdiv (.bin .mul (.var 4) (.var 4)) (.bin .mul (.cint 4) (.var 3))) (.cint 1)) (.bin .mod (.bin .fdiv (.var 2) (.cint 27)) (.cint 5))))
 (.seq (.assign 6 (.call 11 (.cons (.var 5) (.cons (.call 11 (.cons (.var 4) (.cons (.var 3) .nil))) .nil))))
 (.seq (.ret (.lst (.cons (.bin .fdiv (.var 5) (.var 6)) (.cons (.bin .fdiv (.var 4) (.var 6)) (.cons (.bin .fdiv (.var 3) (.var 6)) .nil)))))
 .skip))))) .skip)
 t_law_factor_3)
noncomputable def b_law_factor : PS := (.seq (.assign 1 (.bin .mod (.var 0) (.cint 6)))
 (.seq (.assign 2 (.bin .fdiv (.var 0) (.cint 6)))
 (.seq (.ite (.cmp .eq (.var 1) (.cint 2)) (.seq (.ret (.lst (.cons (.bin .sub (.cint 0) (.idx (.lst (.cons (.cint 2) (.cons (.cint 3) (.cons (.cint 5) (.cons (.cint 6) (.cons (.cint 7) .nil)))))) (.bin .mod (.var 2) (.cint 5)))) (.cons (.cint 0) (.cons (.cint 1) .nil)))))
 .skip) .skip)
 t_law_factor_4)))
noncomputable def v_law_factor : List Str := ["_law_cell", "_law_way", "_law_over", "_law_lead", "_law_side", "_law_first", "_law_by_here", "_law_at"]
/- 15: _law_factors(_law_cells) rank 4; vars 0=_law_cells, 1=_law_found, 2=_law_cell -/
noncomputable def t_law_factors_1 : PS := (.seq (.ret (.var 1))
 .skip)
noncomputable def l_law_factors_1 : PS := (.seq (.ite (.cmp .notin (.call 14 (.cons (.var 2) .nil)) (.var 1)) (.seq (.app 1 (.call 14 (.cons (.var 2) .nil)))
 .skip) .skip)
 .skip)
noncomputable def b_law_factors : PS := (.seq (.assign 1 (.lst .nil))
 (.seq (.forr 2 (.seq (.var 0)) l_law_factors_1)
 t_law_factors_1))
noncomputable def v_law_factors : List Str := ["_law_cells", "_law_found", "_law_cell"]
/- 16: _law_made(_law_factors_here, _law_cells, _law_many) rank 2; vars 0=_law_factors_here, 1=_law_cells, 2=_law_many, 3=_law_row, 4=_law_k, 5=_law_often, 6=_law_j -/
noncomputable def t_law_made_1 : PS := (.seq (.ret (.var 3))
 .skip)
noncomputable def l_law_made_1 : PS := (.seq (.assign 3 (.call 13 (.cons (.var 3) (.cons (.idx (.var 0) (.var 4)) .nil))))
 .skip)
noncomputable def t_law_made_2 : PS := (.seq (.forr 6 (.rng (.cons (.var 5) .nil)) l_law_made_1)
 .skip)
noncomputable def l_law_made_2 : PS := (.seq (.assign 5 (.cint 1))
 (.seq (.ite (.cmp .lt (.var 4) (.bi .len (.cons (.var 1) .nil))) (.seq (.assign 5 (.idx (.lst (.cons (.cint 1) (.cons (.cint 2) (.cons (.cint 1) (.cons (.cint 3) (.cons (.cint 1) .nil)))))) (.bin .mod (.idx (.var 1) (.var 4)) (.cint 5))))
 .skip) .skip)
 t_law_made_2))
noncomputable def b_law_made : PS := (.seq (.assign 3 (.lst (.cons (.var 2) .nil)))
 (.seq (.forr 4 (.rng (.cons (.bi .len (.cons (.var 0) .nil)) .nil)) l_law_made_2)
 t_law_made_1))
noncomputable def v_law_made : List Str := ["_law_factors_here", "_law_cells", "_law_many", "_law_row", "_law_k", "_law_often", "_law_j"]
/- 17: _law_refused(_law_row) rank 6; vars 0=_law_row, 1=e -/
noncomputable def b_law_refused : PS := .opaq
noncomputable def v_law_refused : List Str := ["_law_row", "e"]
/- 18: law(_law_script) rank 7; vars 0=_law_script, 1=_law_factors_here, 2=_law_many, 3=_law_row, 4=_law_handed, 5=_law_found, 6=_law_due -/
noncomputable def t_law_1 : PS := (.seq (.app 5 (.cint 7))
 (.seq (.ret (.and (.cons (.cmp .eq (.call 8 (.cons (.var 4) .nil)) (.var 6)) (.cons (.cmp .eq (.call 8 (.cons (.bi .tuple (.cons (.var 3) .nil)) .nil)) (.var 6)) (.cons (.cmp .eq (.var 4) (.var 3)) .nil)))))
 .skip))
noncomputable def t_law_2 : PS := (.seq (.ite (.or (.cons (.cmp .ne (.call 8 (.cons (.lst (.cons (.cint 0) (.cons (.cint 0) (.cons (.cint 1) .nil)))) .nil)) (.lst (.cons (.cint 0) (.cons (.cint 1) .nil)))) (.cons (.cmp .ne (.var 5) (.var 6)) .nil))) (.seq (.ret (.cbool false))
 .skip) .skip)
 t_law_1)
noncomputable def t_law_3 : PS := (.seq (.assign 6 (.call 16 (.cons (.var 1) (.cons (.lst .nil) (.cons (.cint 1) .nil)))))
 (.seq (.ite (.cmp .ne (.var 5) (.var 6)) (.seq (.ret (.cbool false))
 .skip) .skip)
 t_law_2))
noncomputable def d_law_1 : PO := (.some (.nt (.call 9 (.cons (.var 0) .nil))))
noncomputable def e_law_1 : PE := (.var 0)
noncomputable def t_law_4 : PS := (.seq (.assign 4 (.bi .list (.cons (.var 3) .nil)))
 (.seq (.assign 5 (.call 8 (.cons (.var 4) .nil)))
 (.seq (.ite (.or (.cons (.nt (.isi (.var 5) [.list])) (.cons (.cmp .ne (.var 4) (.var 3)) (.cons (.cmp .gt (.bi .len (.cons (.comp e_law_1 1 [] (.seq (.var 5)) d_law_1) .nil)) (.cint 0)) .nil)))) (.seq (.ret (.cbool false))
 .skip) .skip)
 t_law_3)))
noncomputable def e_law_2 : PE := (.cint 0)
noncomputable def b_law : PS := (.seq (.assign 1 (.call 15 (.cons (.slc (.var 0) (.some (.cint 3)) (.some (.bin .add (.cint 3) (.bin .mod (.call 10 (.cons (.var 0) (.cons (.cint 0) .nil))) (.cint 4))))) .nil)))
 (.seq (.assign 2 (.bin .sub (.bin .mod (.call 10 (.cons (.var 0) (.cons (.cint 1) .nil))) (.cint 9)) (.cint 4)))
 (.seq (.assign 3 (.bin .add (.call 16 (.cons (.var 1) (.cons (.slc (.var 0) (.some (.cint 7)) (.some (.cint 10))) (.cons (.var 2) .nil)))) (.comp e_law_2 1 [] (.rng (.cons (.bin .mod (.call 10 (.cons (.var 0) (.cons (.cint 2) .nil))) (.cint 3)) .nil)) .no)))
 (.seq (.ite (.or (.cons (.cmp .eq (.var 2) (.cint 0)) (.cons (.cmp .eq (.var 1) (.lst .nil)) .nil))) (.seq (.randt [(17, (.cons (.bi .list (.cons (.var 3) .nil)) .nil)), (17, (.cons (.bi .tuple (.cons (.var 3) .nil)) .nil)), (17, (.cons (.lst .nil) .nil))])
 .skip) .skip)
 t_law_4))))
noncomputable def v_law : List Str := ["_law_script", "_law_factors_here", "_law_many", "_law_row", "_law_handed", "_law_found", "_law_due"]
noncomputable def fnNames : List Str := ["divisor", "trimmed", "reduced", "slope", "without_last", "rest_of", "common", "quotient", "plain", "_law_whole", "_law_cell_at", "_law_divisor", "_law_part", "_law_by", "_law_factor", "_law_factors", "_law_made", "_law_refused", "law"]
noncomputable def clsNames : List Str := ["PegError", "NoPart", "NoRow", "NoStretch", "NotAlone", "NoQuotient", "ValueError"]
noncomputable def fnTab : List Fn := [⟨2, 3, b_divisor⟩, ⟨1, 2, b_trimmed⟩, ⟨1, 3, b_reduced⟩, ⟨1, 1, b_slope⟩, ⟨4, 7, b_without_last⟩, ⟨2, 3, b_rest_of⟩, ⟨2, 3, b_common⟩, ⟨2, 5, b_quotient⟩, ⟨1, 2, b_plain⟩, ⟨1, 1, b_law_whole⟩, ⟨2, 2, b_law_cell_at⟩, ⟨2, 3, b_law_divisor⟩, ⟨2, 3, b_law_part⟩, ⟨2, 5, b_law_by⟩, ⟨1, 8, b_law_factor⟩, ⟨1, 3, b_law_factors⟩, ⟨3, 7, b_law_made⟩, ⟨1, 2, b_law_refused⟩, ⟨1, 7, b_law⟩]
noncomputable def varTab : List (List Str) := [v_divisor, v_trimmed, v_reduced, v_slope, v_without_last, v_rest_of, v_common, v_quotient, v_plain, v_law_whole, v_law_cell_at, v_law_divisor, v_law_part, v_law_by, v_law_factor, v_law_factors, v_law_made, v_law_refused, v_law]
end L03
end Mine

set_option autoImplicit false
set_option linter.unusedVariables false
set_option linter.unusedSimpArgs false
set_option maxRecDepth 100000
namespace Mine
open PySem
namespace L03
noncomputable def nosub : Nat → Nat → Bool := fun _ _ => false
theorem sq16 {x : Int} (h : -4 ≤ x ∧ x ≤ 4) : 0 ≤ x * x ∧ x * x ≤ 16 := by
  have h1 : 0 ≤ (4 - x) * (4 + x) := Int.mul_nonneg (by omega) (by omega)
  have h2 : (4 - x) * (4 + x) = 16 - x * x := by grind
  refine ⟨?_, by (clear h; omega)⟩
  rcases Int.le_total 0 x with h | h
  · exact Int.mul_nonneg h h
  · exact Int.mul_nonneg_of_nonpos_of_nonpos h h
theorem pick5 {i : Int} (h : 0 ≤ i ∧ i < 5) : ∃ d : Nat, (d = 2 ∨ d = 3 ∨ d = 5 ∨ d = 6 ∨ d = 7) ∧ [2, 3, 5, 6, 7].getD i.toNat (0 : Int) = (d : Int) := by
  obtain ⟨j, rfl⟩ := Int.eq_ofNat_of_zero_le h.1
  have h2 : j < 5 := by omega
  match j, h2 with
  | 0, _ => exact ⟨2, .inl rfl, rfl⟩
  | 1, _ => exact ⟨3, .inr (.inl rfl), rfl⟩
  | 2, _ => exact ⟨5, .inr (.inr (.inl rfl)), rfl⟩
  | 3, _ => exact ⟨6, .inr (.inr (.inr (.inl rfl))), rfl⟩
  | 4, _ => exact ⟨7, .inr (.inr (.inr (.inr rfl))), rfl⟩
theorem pick6 {i : Int} (h : 0 ≤ i ∧ i < 6) : ∃ d : Int, (d.natAbs = 2 ∨ d.natAbs = 3 ∨ d.natAbs = 5 ∨ d.natAbs = 7) ∧ [-2, -3, -5, -7, 2, 3].getD i.toNat (0 : Int) = d := by
  obtain ⟨j, rfl⟩ := Int.eq_ofNat_of_zero_le h.1
  have h2 : j < 6 := by omega
  match j, h2 with
  | 0, _ => exact ⟨-2, .inl rfl, rfl⟩
  | 1, _ => exact ⟨-3, .inr (.inl rfl), rfl⟩
  | 2, _ => exact ⟨-5, .inr (.inr (.inl rfl)), rfl⟩
  | 3, _ => exact ⟨-7, .inr (.inr (.inr rfl)), rfl⟩
  | 4, _ => exact ⟨2, .inl rfl, rfl⟩
  | 5, _ => exact ⟨3, .inr (.inl rfl), rfl⟩
theorem sm40 {x : Int} (h : x.natAbs ≤ 100) : Sm 40 x := Nat.lt_of_le_of_lt h (by decide)
theorem sm39 {x : Int} (h : -1000000000 ≤ x ∧ x ≤ 1000000000) : Sm 39 x := by
  have e : (2 : Nat) ^ 39 = 549755813888 := by decide
  unfold Sm; (clear e; omega)
theorem nat100 {x : Int} (h : -100 ≤ x ∧ x ≤ 100) : x.natAbs ≤ 100 := by omega
theorem gne_of {a b : Int} (hb : 0 < b) : ((a.gcd b : Nat) : Int) ≠ 0 := Int.natCast_ne_zero.mpr (Nat.ne_of_gt (Int.gcd_pos_of_ne_zero_right a (Int.ne_of_gt hb)))
theorem idx_pick {H : Hp} {m : Nat} {xs : List Int} {i : Int} {Q : V → Prop} (hx : H[m]? = some (xs.map .int)) (h0 : 0 ≤ i) (h1 : i < (xs.length : Nat)) (hQ : ∀ y ∈ xs, y = xs.getD i.toNat 0 → Q (.int y)) : ifSome H[m]? fun xs => ifSome (place xs.length i) fun j => ifSome xs[j]? fun v => Q v := by
  obtain ⟨j, rfl⟩ := Int.eq_ofNat_of_zero_le h0
  have hj : j < xs.length := by (clear hx h0 hQ; omega)
  refine ifSome.mk hx (ifSome.mk (place_nat (by rw [List.length_map]; exact hj)) (ifSome.mk (v := .int (xs.getD j 0)) ?_ ?_))
  · rw [List.getElem?_map, List.getElem?_eq_getElem hj, List.getD_eq_getElem?_getD, List.getElem?_eq_getElem hj]; rfl
  · refine hQ _ ?_ rfl
    rw [List.getD_eq_getElem?_getD, List.getElem?_eq_getElem hj]; exact List.getElem_mem _
section
variable {n : Nat}
/-- a cell's factor -/
theorem s_factor (c : Int) : ∃ (F : List Int) (l : Int), Ftr F l ∧ AllSm 40 F ∧ ∀ (H : Hp) (Q : V → Hp → Prop) (X : Nat → Hp → Prop), (∀ H' k, H <+: H' → H.length ≤ k → H'[k]? = some (F.map .int) → Q (.lst k) H') → callN nosub fnTab (n + 3) 14 [.int c] H Q X := by
  have w0 := Int.fmod_nonneg_of_pos c (b := 6) (by decide)
  have w1 := Int.fmod_lt_of_pos c (b := 6) (by decide)
  by_cases h2 : c.fmod 6 = 2
  · have o0 := Int.fmod_nonneg_of_pos (c.fdiv 6) (b := 5) (by decide)
    have o1 := Int.fmod_lt_of_pos (c.fdiv 6) (b := 5) (by decide)
    obtain ⟨d, hd, hpick⟩ := pick5 ⟨o0, o1⟩
    refine ⟨[0 - (d : Int), 0, 1], 1, ftr_sq hd, ?_, fun H Q X hQ => ?_⟩
    · refine .cons ?_ (.cons .zero (.cons (by unfold Sm; decide) .nil))
      exact sm40 (by clear w0 w1 h2 o0 o1 hpick; omega)
    refine callN_mk (d := ⟨1, 8, b_law_factor⟩) rfl rfl ?_
    dsimp only [b_law_factor, qS1, qS2, qS3, qS4, qS5, qS6, qS7, qS8, qS9, qS10, qS11, qS12, qS13, qS14, qS15, qS16, qS17, qS18, qE1, qE2, qE3, qE4, qE5, qE6, qE7, qE8, qE9, qE10, qE11, qE12, qE13, qE14, qE15, qE16, qE17, qE18, qE19, qE20, qE21, qE22, qEs1, qEs2, wpAll, qO1, qO2, qI1, qI2, qI3, w_add, w_addl, w_sub, w_mul, w_mull, w_fdiv, w_mod, w_pow, w_lt, w_le, w_gt, w_ge, w_eq, w_ne, w_eqt, w_eql, w_net, w_nel, w_isn, w_ist, w_isi, w_isl, w_abs, w_lent, w_lenl, w_intb, w_list, w_tuple, w_min, w_idxt0, w_idxt1, w_idxu0, w_idxu1, w_idxu2, w_idxl, w_slcl, w_slct, w_tb, w_ti, w_tn, w_tt, w_tl, w_itt, w_itl, w_bindT1, w_bindT2, w_srcl, w_srct, w_cut2, w_cut1, w_cut1', w_cut0, w_ty1, w_ty2, w_ty3, w_ty4, w_ty5, w_ty6, w_ty7, w_ty8, w_ty9, w_ty10, w_ty11, w_ty12, w_ty13, w_ty14, w_ty15, w_ty16, w_ty17, w_ty18, w_ty19, w_ty20, w_ty21, w_mapc, w_mapn, w_appc, w_appn, w_repc, w_repn, w_start, w_lenc, w_ifT, w_ifF, w_ifFF, w_ifTF, w_nT, w_nF, w_anyT, w_anyF, w_d22, ifSome_some, ifLst_lst, ifTup_tup, ifInt_int, lget, lset, lsets, Nat.reduceSub, Nat.reduceAdd, List.length_nil, ↓reduceIte]
    refine ⟨by decide, DivOk.sm (by decide) (by unfold Sm; decide), ?_⟩
    rw [decide_eq_true h2]
    dsimp only [qS1, qS2, qS3, qS4, qS5, qS6, qS7, qS8, qS9, qS10, qS11, qS12, qS13, qS14, qS15, qS16, qS17, qS18, qE1, qE2, qE3, qE4, qE5, qE6, qE7, qE8, qE9, qE10, qE11, qE12, qE13, qE14, qE15, qE16, qE17, qE18, qE19, qE20, qE21, qE22, qEs1, qEs2, wpAll, qO1, qO2, qI1, qI2, qI3, w_add, w_addl, w_sub, w_mul, w_mull, w_fdiv, w_mod, w_pow, w_lt, w_le, w_gt, w_ge, w_eq, w_ne, w_eqt, w_eql, w_net, w_nel, w_isn, w_ist, w_isi, w_isl, w_abs, w_lent, w_lenl, w_intb, w_list, w_tuple, w_min, w_idxt0, w_idxt1, w_idxu0, w_idxu1, w_idxu2, w_idxl, w_slcl, w_slct, w_tb, w_ti, w_tn, w_tt, w_tl, w_itt, w_itl, w_bindT1, w_bindT2, w_srcl, w_srct, w_cut2, w_cut1, w_cut1', w_cut0, w_ty1, w_ty2, w_ty3, w_ty4, w_ty5, w_ty6, w_ty7, w_ty8, w_ty9, w_ty10, w_ty11, w_ty12, w_ty13, w_ty14, w_ty15, w_ty16, w_ty17, w_ty18, w_ty19, w_ty20, w_ty21, w_mapc, w_mapn, w_appc, w_appn, w_repc, w_repn, w_start, w_lenc, w_ifT, w_ifF, w_ifFF, w_ifTF, w_nT, w_nF, w_anyT, w_anyF, w_d22, ifSome_some, ifLst_lst, ifTup_tup, ifInt_int, lget, lset, lsets, Nat.reduceSub, Nat.reduceAdd, List.length_nil, ↓reduceIte]
    refine ⟨by decide, ?_⟩
    refine idx_pick (xs := [2, 3, 5, 6, 7]) (getApp _ _ _) o0 (by simpa using o1) fun y _ hy => ?_
    rw [hpick] at hy
    subst hy
    dsimp only [qS1, qS2, qS3, qS4, qS5, qS6, qS7, qS8, qS9, qS10, qS11, qS12, qS13, qS14, qS15, qS16, qS17, qS18, qE1, qE2, qE3, qE4, qE5, qE6, qE7, qE8, qE9, qE10, qE11, qE12, qE13, qE14, qE15, qE16, qE17, qE18, qE19, qE20, qE21, qE22, qEs1, qEs2, wpAll, qO1, qO2, qI1, qI2, qI3, w_add, w_addl, w_sub, w_mul, w_mull, w_fdiv, w_mod, w_pow, w_lt, w_le, w_gt, w_ge, w_eq, w_ne, w_eqt, w_eql, w_net, w_nel, w_isn, w_ist, w_isi, w_isl, w_abs, w_lent, w_lenl, w_intb, w_list, w_tuple, w_min, w_idxt0, w_idxt1, w_idxu0, w_idxu1, w_idxu2, w_idxl, w_slcl, w_slct, w_tb, w_ti, w_tn, w_tt, w_tl, w_itt, w_itl, w_bindT1, w_bindT2, w_srcl, w_srct, w_cut2, w_cut1, w_cut1', w_cut0, w_ty1, w_ty2, w_ty3, w_ty4, w_ty5, w_ty6, w_ty7, w_ty8, w_ty9, w_ty10, w_ty11, w_ty12, w_ty13, w_ty14, w_ty15, w_ty16, w_ty17, w_ty18, w_ty19, w_ty20, w_ty21, w_mapc, w_mapn, w_appc, w_appn, w_repc, w_repn, w_start, w_lenc, w_ifT, w_ifF, w_ifFF, w_ifTF, w_nT, w_nF, w_anyT, w_anyF, w_d22, ifSome_some, ifLst_lst, ifTup_tup, ifInt_int, lget, lset, lsets, Nat.reduceSub, Nat.reduceAdd, List.length_nil, ↓reduceIte]
    exact hQ _ _ (preTrans (preApp _ _) (preApp _ _)) (by simp) (getApp _ _ _)
  by_cases h3 : c.fmod 6 = 3
  · generalize ho : c.fdiv 6 = ov
    have a0 := Int.fmod_nonneg_of_pos ov (b := 3) (by decide)
    have a1 := Int.fmod_lt_of_pos ov (b := 3) (by decide)
    have b0 := Int.fmod_nonneg_of_pos (ov.fdiv 3) (b := 9) (by decide)
    have b1 := Int.fmod_lt_of_pos (ov.fdiv 3) (b := 9) (by decide)
    have c0 := Int.fmod_nonneg_of_pos (ov.fdiv 27) (b := 5) (by decide)
    have c1 := Int.fmod_lt_of_pos (ov.fdiv 27) (b := 5) (by decide)
    obtain ⟨ld, hld⟩ : ∃ x, x = 1 + ov.fmod 3 := ⟨_, rfl⟩
    obtain ⟨sd, hsd⟩ : ∃ x, x = (ov.fdiv 3).fmod 9 - 4 := ⟨_, rfl⟩
    obtain ⟨fs, hfs⟩ : ∃ x, x = (sd * sd).fdiv (4 * ld) + 1 + (ov.fdiv 27).fmod 5 := ⟨_, rfl⟩
    have hld1 : 1 ≤ ld ∧ ld ≤ 3 := by (clear w0 w1 h2 h3 ho b0 b1 c0 c1 hsd hfs; omega)
    have hsd1 : -4 ≤ sd ∧ sd ≤ 4 := by (clear w0 w1 h2 h3 ho a0 a1 c0 c1 hld hfs hld1; omega)
    have hss : 0 ≤ sd * sd ∧ sd * sd ≤ 16 := sq16 hsd1
    have hq : (sd * sd).fdiv (4 * ld) = (sd * sd) / (4 * ld) := Int.fdiv_eq_ediv_of_nonneg _ (by (clear w0 w1 h2 h3 ho b0 b1 c0 c1 hsd hfs hld1 hsd1 hss; omega))
    have hq1 := Int.lt_ediv_add_one_mul_self (sd * sd) (show 0 < 4 * ld by (clear w0 w1 h2 h3 ho b0 b1 c0 c1 hsd hfs hld1 hsd1 hss hq; omega))
    have hq0 : 0 ≤ (sd * sd) / (4 * ld) := Int.ediv_nonneg hss.1 (by (clear w0 w1 h2 h3 ho b0 b1 c0 c1 hsd hfs hld1 hsd1 hss hq hq1; omega))
    have hq2 : (sd * sd) / (4 * ld) ≤ 16 := Int.le_trans (Int.ediv_le_self _ hss.1) hss.2
    have hdisc : sd * sd < 4 * ld * fs := by
      have i1 : ((sd * sd) / (4 * ld) + 1) * (4 * ld) ≤ fs * (4 * ld) := Int.mul_le_mul_of_nonneg_right (by rw [hfs, hq]; (clear w0 w1 h2 h3 ho a0 a1 b0 b1 hld hsd hld1 hsd1 hss hq1 hq0 hq2; omega)) (by (clear w0 w1 h2 h3 ho b0 b1 c0 c1 hsd hfs hld1 hsd1 hss hq hq1 hq0 hq2; omega))
      have i2 : fs * (4 * ld) = 4 * ld * fs := Int.mul_comm _ _
      (clear w0 w1 h2 h3 ho a0 a1 b0 b1 c0 c1 hld hsd hfs hld1 hsd1 hss hq hq0 hq2; omega)
    obtain ⟨hF, ea, eb, ec⟩ := ftr_def (show 0 < ld by (clear w0 w1 h2 h3 ho b0 b1 c0 c1 hsd hfs hld1 hsd1 hss hq hq1 hq0 hq2 hdisc; omega)) hdisc _ rfl
    have g0 : 0 < fs.gcd ((sd.gcd ld : Nat) : Int) := Int.gcd_pos_of_ne_zero_right _ (by have : 0 < sd.gcd ld := Int.gcd_pos_of_ne_zero_right _ (by (clear w0 w1 h2 h3 ho b0 b1 c0 c1 hsd hfs hld1 hsd1 hss hq hq1 hq0 hq2 hdisc hF eb ec; omega)); (clear w0 w1 h2 h3 ho a0 a1 b0 b1 c0 c1 hld hsd hfs hld1 hsd1 hss hq hq1 hq0 hq2 hdisc hF ea eb ec; omega))
    refine ⟨_, _, hF, ?_, fun H Q X hQ => ?_⟩
    · have hb : ∀ {x y g : Int}, x * g = y → 0 < g → y.natAbs ≤ 100 → Sm 40 x := fun {x y g} e hg hy => by
        have h1 : x.natAbs ≤ y.natAbs := by rw [← e, Int.natAbs_mul]; exact Nat.le_mul_of_pos_right _ (Int.natAbs_pos.mpr (Int.ne_of_gt hg))
        exact sm40 (Nat.le_trans h1 hy)
      have hg' : (0 : Int) < ((fs.gcd ((sd.gcd ld : Nat) : Int) : Nat) : Int) := Int.natCast_pos.mpr g0
      exact .cons (hb ec hg' (nat100 (by rw [hfs, hq]; (clear w0 w1 h2 h3 ho a0 a1 b0 b1 hld hsd hld1 hsd1 hss hq1 hdisc hF ea eb g0 hb hg'; omega)))) (.cons (hb eb hg' (nat100 (by (clear w0 w1 h2 h3 ho a0 a1 c0 c1 hld hfs hld1 hsd1 hss hq hq1 hq0 hq2 hdisc hF ea ec g0 hb hg'; omega)))) (.cons (hb ea hg' (nat100 (by (clear w0 w1 h2 h3 ho b0 b1 c0 c1 hsd hfs hld1 hsd1 hss hq hq1 hq0 hq2 hdisc hF eb ec g0 hb hg'; omega)))) .nil))
    refine callN_mk (d := ⟨1, 8, b_law_factor⟩) rfl rfl ?_
    dsimp only [b_law_factor, qS1, qS2, qS3, qS4, qS5, qS6, qS7, qS8, qS9, qS10, qS11, qS12, qS13, qS14, qS15, qS16, qS17, qS18, qE1, qE2, qE3, qE4, qE5, qE6, qE7, qE8, qE9, qE10, qE11, qE12, qE13, qE14, qE15, qE16, qE17, qE18, qE19, qE20, qE21, qE22, qEs1, qEs2, wpAll, qO1, qO2, qI1, qI2, qI3, w_add, w_addl, w_sub, w_mul, w_mull, w_fdiv, w_mod, w_pow, w_lt, w_le, w_gt, w_ge, w_eq, w_ne, w_eqt, w_eql, w_net, w_nel, w_isn, w_ist, w_isi, w_isl, w_abs, w_lent, w_lenl, w_intb, w_list, w_tuple, w_min, w_idxt0, w_idxt1, w_idxu0, w_idxu1, w_idxu2, w_idxl, w_slcl, w_slct, w_tb, w_ti, w_tn, w_tt, w_tl, w_itt, w_itl, w_bindT1, w_bindT2, w_srcl, w_srct, w_cut2, w_cut1, w_cut1', w_cut0, w_ty1, w_ty2, w_ty3, w_ty4, w_ty5, w_ty6, w_ty7, w_ty8, w_ty9, w_ty10, w_ty11, w_ty12, w_ty13, w_ty14, w_ty15, w_ty16, w_ty17, w_ty18, w_ty19, w_ty20, w_ty21, w_mapc, w_mapn, w_appc, w_appn, w_repc, w_repn, w_start, w_lenc, w_ifT, w_ifF, w_ifFF, w_ifTF, w_nT, w_nF, w_anyT, w_anyF, w_d22, ifSome_some, ifLst_lst, ifTup_tup, ifInt_int, lget, lset, lsets, Nat.reduceSub, Nat.reduceAdd, List.length_nil, ↓reduceIte]
    refine ⟨by decide, DivOk.sm (by decide) (by unfold Sm; decide), ?_⟩
    rw [decide_eq_false h2, ho]
    dsimp only [t_law_factor_4, qS1, qS2, qS3, qS4, qS5, qS6, qS7, qS8, qS9, qS10, qS11, qS12, qS13, qS14, qS15, qS16, qS17, qS18, qE1, qE2, qE3, qE4, qE5, qE6, qE7, qE8, qE9, qE10, qE11, qE12, qE13, qE14, qE15, qE16, qE17, qE18, qE19, qE20, qE21, qE22, qEs1, qEs2, wpAll, qO1, qO2, qI1, qI2, qI3, w_add, w_addl, w_sub, w_mul, w_mull, w_fdiv, w_mod, w_pow, w_lt, w_le, w_gt, w_ge, w_eq, w_ne, w_eqt, w_eql, w_net, w_nel, w_isn, w_ist, w_isi, w_isl, w_abs, w_lent, w_lenl, w_intb, w_list, w_tuple, w_min, w_idxt0, w_idxt1, w_idxu0, w_idxu1, w_idxu2, w_idxl, w_slcl, w_slct, w_tb, w_ti, w_tn, w_tt, w_tl, w_itt, w_itl, w_bindT1, w_bindT2, w_srcl, w_srct, w_cut2, w_cut1, w_cut1', w_cut0, w_ty1, w_ty2, w_ty3, w_ty4, w_ty5, w_ty6, w_ty7, w_ty8, w_ty9, w_ty10, w_ty11, w_ty12, w_ty13, w_ty14, w_ty15, w_ty16, w_ty17, w_ty18, w_ty19, w_ty20, w_ty21, w_mapc, w_mapn, w_appc, w_appn, w_repc, w_repn, w_start, w_lenc, w_ifT, w_ifF, w_ifFF, w_ifTF, w_nT, w_nF, w_anyT, w_anyF, w_d22, ifSome_some, ifLst_lst, ifTup_tup, ifInt_int, lget, lset, lsets, Nat.reduceSub, Nat.reduceAdd, List.length_nil, ↓reduceIte]
    rw [decide_eq_true h3]
    dsimp only [qS1, qS2, qS3, qS4, qS5, qS6, qS7, qS8, qS9, qS10, qS11, qS12, qS13, qS14, qS15, qS16, qS17, qS18, qE1, qE2, qE3, qE4, qE5, qE6, qE7, qE8, qE9, qE10, qE11, qE12, qE13, qE14, qE15, qE16, qE17, qE18, qE19, qE20, qE21, qE22, qEs1, qEs2, wpAll, qO1, qO2, qI1, qI2, qI3, w_add, w_addl, w_sub, w_mul, w_mull, w_fdiv, w_mod, w_pow, w_lt, w_le, w_gt, w_ge, w_eq, w_ne, w_eqt, w_eql, w_net, w_nel, w_isn, w_ist, w_isi, w_isl, w_abs, w_lent, w_lenl, w_intb, w_list, w_tuple, w_min, w_idxt0, w_idxt1, w_idxu0, w_idxu1, w_idxu2, w_idxl, w_slcl, w_slct, w_tb, w_ti, w_tn, w_tt, w_tl, w_itt, w_itl, w_bindT1, w_bindT2, w_srcl, w_srct, w_cut2, w_cut1, w_cut1', w_cut0, w_ty1, w_ty2, w_ty3, w_ty4, w_ty5, w_ty6, w_ty7, w_ty8, w_ty9, w_ty10, w_ty11, w_ty12, w_ty13, w_ty14, w_ty15, w_ty16, w_ty17, w_ty18, w_ty19, w_ty20, w_ty21, w_mapc, w_mapn, w_appc, w_appn, w_repc, w_repn, w_start, w_lenc, w_ifT, w_ifF, w_ifFF, w_ifTF, w_nT, w_nF, w_anyT, w_anyF, w_d22, ifSome_some, ifLst_lst, ifTup_tup, ifInt_int, lget, lset, lsets, Nat.reduceSub, Nat.reduceAdd, List.length_nil, ↓reduceIte]
    refine ⟨by decide, DivOk.sm (by decide) (by unfold Sm; decide), by decide, ?_⟩
    rw [← hld, ← hsd]
    have s1 : Sm 64 sd := Sm.mono (sm40 (nat100 (by (clear w0 w1 h2 h3 ho a0 a1 c0 c1 hld hfs hld1 hsd1 hss hq hq1 hq0 hq2 hdisc hF ea ec g0 hQ; omega)))) (by decide)
    refine ⟨IntMulOk.left s1, IntMulOk.left (show Sm 64 4 by unfold Sm; decide), (show 4 * ld ≠ 0 by (clear w0 w1 h2 h3 ho b0 b1 c0 c1 hsd hfs hld1 hsd1 hss hq hq1 hq0 hq2 hdisc hF eb ec g0 hQ s1; omega)), DivOk.sm (by decide) (by unfold Sm; decide), by decide, ?_⟩
    rw [← hfs]
    refine s_div rfl ?_
    refine s_div rfl ?_
    have gne : ((fs.gcd ((sd.gcd ld : Nat) : Int) : Nat) : Int) ≠ 0 := by (clear w0 w1 h2 h3 ho a0 a1 b0 b1 c0 c1 hld hsd hfs hld1 hsd1 hss hq hq1 hq0 hq2 hdisc hF ea eb ec hQ s1; omega)
    exact ⟨gne, gne, gne, hQ _ _ (preApp _ _) (Nat.le_refl _) (getApp _ _ _)⟩
  by_cases h4 : c.fmod 6 = 4
  · have o0 := Int.fmod_nonneg_of_pos (c.fdiv 6) (b := 6) (by decide)
    have o1 := Int.fmod_lt_of_pos (c.fdiv 6) (b := 6) (by decide)
    obtain ⟨d, hd, hpick⟩ := pick6 ⟨o0, o1⟩
    refine ⟨[d, 0, 0, 1], 1, ftr_cb hd, ?_, fun H Q X hQ => ?_⟩
    · refine .cons ?_ (.cons .zero (.cons .zero (.cons (by unfold Sm; decide) .nil)))
      exact sm40 (by clear w0 w1 h2 h3 h4 o0 o1 hpick; omega)
    refine callN_mk (d := ⟨1, 8, b_law_factor⟩) rfl rfl ?_
    dsimp only [b_law_factor, qS1, qS2, qS3, qS4, qS5, qS6, qS7, qS8, qS9, qS10, qS11, qS12, qS13, qS14, qS15, qS16, qS17, qS18, qE1, qE2, qE3, qE4, qE5, qE6, qE7, qE8, qE9, qE10, qE11, qE12, qE13, qE14, qE15, qE16, qE17, qE18, qE19, qE20, qE21, qE22, qEs1, qEs2, wpAll, qO1, qO2, qI1, qI2, qI3, w_add, w_addl, w_sub, w_mul, w_mull, w_fdiv, w_mod, w_pow, w_lt, w_le, w_gt, w_ge, w_eq, w_ne, w_eqt, w_eql, w_net, w_nel, w_isn, w_ist, w_isi, w_isl, w_abs, w_lent, w_lenl, w_intb, w_list, w_tuple, w_min, w_idxt0, w_idxt1, w_idxu0, w_idxu1, w_idxu2, w_idxl, w_slcl, w_slct, w_tb, w_ti, w_tn, w_tt, w_tl, w_itt, w_itl, w_bindT1, w_bindT2, w_srcl, w_srct, w_cut2, w_cut1, w_cut1', w_cut0, w_ty1, w_ty2, w_ty3, w_ty4, w_ty5, w_ty6, w_ty7, w_ty8, w_ty9, w_ty10, w_ty11, w_ty12, w_ty13, w_ty14, w_ty15, w_ty16, w_ty17, w_ty18, w_ty19, w_ty20, w_ty21, w_mapc, w_mapn, w_appc, w_appn, w_repc, w_repn, w_start, w_lenc, w_ifT, w_ifF, w_ifFF, w_ifTF, w_nT, w_nF, w_anyT, w_anyF, w_d22, ifSome_some, ifLst_lst, ifTup_tup, ifInt_int, lget, lset, lsets, Nat.reduceSub, Nat.reduceAdd, List.length_nil, ↓reduceIte]
    refine ⟨by decide, DivOk.sm (by decide) (by unfold Sm; decide), ?_⟩
    rw [decide_eq_false h2]
    dsimp only [t_law_factor_4, qS1, qS2, qS3, qS4, qS5, qS6, qS7, qS8, qS9, qS10, qS11, qS12, qS13, qS14, qS15, qS16, qS17, qS18, qE1, qE2, qE3, qE4, qE5, qE6, qE7, qE8, qE9, qE10, qE11, qE12, qE13, qE14, qE15, qE16, qE17, qE18, qE19, qE20, qE21, qE22, qEs1, qEs2, wpAll, qO1, qO2, qI1, qI2, qI3, w_add, w_addl, w_sub, w_mul, w_mull, w_fdiv, w_mod, w_pow, w_lt, w_le, w_gt, w_ge, w_eq, w_ne, w_eqt, w_eql, w_net, w_nel, w_isn, w_ist, w_isi, w_isl, w_abs, w_lent, w_lenl, w_intb, w_list, w_tuple, w_min, w_idxt0, w_idxt1, w_idxu0, w_idxu1, w_idxu2, w_idxl, w_slcl, w_slct, w_tb, w_ti, w_tn, w_tt, w_tl, w_itt, w_itl, w_bindT1, w_bindT2, w_srcl, w_srct, w_cut2, w_cut1, w_cut1', w_cut0, w_ty1, w_ty2, w_ty3, w_ty4, w_ty5, w_ty6, w_ty7, w_ty8, w_ty9, w_ty10, w_ty11, w_ty12, w_ty13, w_ty14, w_ty15, w_ty16, w_ty17, w_ty18, w_ty19, w_ty20, w_ty21, w_mapc, w_mapn, w_appc, w_appn, w_repc, w_repn, w_start, w_lenc, w_ifT, w_ifF, w_ifFF, w_ifTF, w_nT, w_nF, w_anyT, w_anyF, w_d22, ifSome_some, ifLst_lst, ifTup_tup, ifInt_int, lget, lset, lsets, Nat.reduceSub, Nat.reduceAdd, List.length_nil, ↓reduceIte]
    rw [decide_eq_false h3]
    dsimp only [t_law_factor_3, qS1, qS2, qS3, qS4, qS5, qS6, qS7, qS8, qS9, qS10, qS11, qS12, qS13, qS14, qS15, qS16, qS17, qS18, qE1, qE2, qE3, qE4, qE5, qE6, qE7, qE8, qE9, qE10, qE11, qE12, qE13, qE14, qE15, qE16, qE17, qE18, qE19, qE20, qE21, qE22, qEs1, qEs2, wpAll, qO1, qO2, qI1, qI2, qI3, w_add, w_addl, w_sub, w_mul, w_mull, w_fdiv, w_mod, w_pow, w_lt, w_le, w_gt, w_ge, w_eq, w_ne, w_eqt, w_eql, w_net, w_nel, w_isn, w_ist, w_isi, w_isl, w_abs, w_lent, w_lenl, w_intb, w_list, w_tuple, w_min, w_idxt0, w_idxt1, w_idxu0, w_idxu1, w_idxu2, w_idxl, w_slcl, w_slct, w_tb, w_ti, w_tn, w_tt, w_tl, w_itt, w_itl, w_bindT1, w_bindT2, w_srcl, w_srct, w_cut2, w_cut1, w_cut1', w_cut0, w_ty1, w_ty2, w_ty3, w_ty4, w_ty5, w_ty6, w_ty7, w_ty8, w_ty9, w_ty10, w_ty11, w_ty12, w_ty13, w_ty14, w_ty15, w_ty16, w_ty17, w_ty18, w_ty19, w_ty20, w_ty21, w_mapc, w_mapn, w_appc, w_appn, w_repc, w_repn, w_start, w_lenc, w_ifT, w_ifF, w_ifFF, w_ifTF, w_nT, w_nF, w_anyT, w_anyF, w_d22, ifSome_some, ifLst_lst, ifTup_tup, ifInt_int, lget, lset, lsets, Nat.reduceSub, Nat.reduceAdd, List.length_nil, ↓reduceIte]
    rw [decide_eq_true h4]
    dsimp only [qS1, qS2, qS3, qS4, qS5, qS6, qS7, qS8, qS9, qS10, qS11, qS12, qS13, qS14, qS15, qS16, qS17, qS18, qE1, qE2, qE3, qE4, qE5, qE6, qE7, qE8, qE9, qE10, qE11, qE12, qE13, qE14, qE15, qE16, qE17, qE18, qE19, qE20, qE21, qE22, qEs1, qEs2, wpAll, qO1, qO2, qI1, qI2, qI3, w_add, w_addl, w_sub, w_mul, w_mull, w_fdiv, w_mod, w_pow, w_lt, w_le, w_gt, w_ge, w_eq, w_ne, w_eqt, w_eql, w_net, w_nel, w_isn, w_ist, w_isi, w_isl, w_abs, w_lent, w_lenl, w_intb, w_list, w_tuple, w_min, w_idxt0, w_idxt1, w_idxu0, w_idxu1, w_idxu2, w_idxl, w_slcl, w_slct, w_tb, w_ti, w_tn, w_tt, w_tl, w_itt, w_itl, w_bindT1, w_bindT2, w_srcl, w_srct, w_cut2, w_cut1, w_cut1', w_cut0, w_ty1, w_ty2, w_ty3, w_ty4, w_ty5, w_ty6, w_ty7, w_ty8, w_ty9, w_ty10, w_ty11, w_ty12, w_ty13, w_ty14, w_ty15, w_ty16, w_ty17, w_ty18, w_ty19, w_ty20, w_ty21, w_mapc, w_mapn, w_appc, w_appn, w_repc, w_repn, w_start, w_lenc, w_ifT, w_ifF, w_ifFF, w_ifTF, w_nT, w_nF, w_anyT, w_anyF, w_d22, ifSome_some, ifLst_lst, ifTup_tup, ifInt_int, lget, lset, lsets, Nat.reduceSub, Nat.reduceAdd, List.length_nil, ↓reduceIte]
    refine ⟨by decide, ?_⟩
    refine idx_pick (xs := [-2, -3, -5, -7, 2, 3]) (getApp _ _ _) o0 (by simpa using o1) fun y _ hy => ?_
    rw [hpick] at hy
    subst hy
    exact hQ _ _ (preTrans (preApp _ _) (preApp _ _)) (by simp) (getApp _ _ _)
  -- one less by the other
  have e40 : (2 : Nat) ^ 40 = 1099511627776 := by decide
  have start : ∀ (H : Hp) (Q : V → Hp → Prop) (X : Nat → Hp → Prop), wpS nosub (callN nosub fnTab (n + 2)) (fun m => H.length ≤ m) t_law_factor_2 [some (.int c), some (.int (c.fmod 6)), some (.int (c.fdiv 6)), none, none, none, none, none] H (fun _ H' => Q .none H') Q X → callN nosub fnTab (n + 3) 14 [.int c] H Q X := fun H Q X h => by
    refine callN_mk (d := ⟨1, 8, b_law_factor⟩) rfl rfl ?_
    dsimp only [b_law_factor, qS1, qS2, qS3, qS4, qS5, qS6, qS7, qS8, qS9, qS10, qS11, qS12, qS13, qS14, qS15, qS16, qS17, qS18, qE1, qE2, qE3, qE4, qE5, qE6, qE7, qE8, qE9, qE10, qE11, qE12, qE13, qE14, qE15, qE16, qE17, qE18, qE19, qE20, qE21, qE22, qEs1, qEs2, wpAll, qO1, qO2, qI1, qI2, qI3, w_add, w_addl, w_sub, w_mul, w_mull, w_fdiv, w_mod, w_pow, w_lt, w_le, w_gt, w_ge, w_eq, w_ne, w_eqt, w_eql, w_net, w_nel, w_isn, w_ist, w_isi, w_isl, w_abs, w_lent, w_lenl, w_intb, w_list, w_tuple, w_min, w_idxt0, w_idxt1, w_idxu0, w_idxu1, w_idxu2, w_idxl, w_slcl, w_slct, w_tb, w_ti, w_tn, w_tt, w_tl, w_itt, w_itl, w_bindT1, w_bindT2, w_srcl, w_srct, w_cut2, w_cut1, w_cut1', w_cut0, w_ty1, w_ty2, w_ty3, w_ty4, w_ty5, w_ty6, w_ty7, w_ty8, w_ty9, w_ty10, w_ty11, w_ty12, w_ty13, w_ty14, w_ty15, w_ty16, w_ty17, w_ty18, w_ty19, w_ty20, w_ty21, w_mapc, w_mapn, w_appc, w_appn, w_repc, w_repn, w_start, w_lenc, w_ifT, w_ifF, w_ifFF, w_ifTF, w_nT, w_nF, w_anyT, w_anyF, w_d22, ifSome_some, ifLst_lst, ifTup_tup, ifInt_int, lget, lset, lsets, Nat.reduceSub, Nat.reduceAdd, List.length_nil, ↓reduceIte]
    refine ⟨by decide, DivOk.sm (by decide) (by unfold Sm; decide), ?_⟩
    rw [decide_eq_false h2]
    dsimp only [t_law_factor_4, qS1, qS2, qS3, qS4, qS5, qS6, qS7, qS8, qS9, qS10, qS11, qS12, qS13, qS14, qS15, qS16, qS17, qS18, qE1, qE2, qE3, qE4, qE5, qE6, qE7, qE8, qE9, qE10, qE11, qE12, qE13, qE14, qE15, qE16, qE17, qE18, qE19, qE20, qE21, qE22, qEs1, qEs2, wpAll, qO1, qO2, qI1, qI2, qI3, w_add, w_addl, w_sub, w_mul, w_mull, w_fdiv, w_mod, w_pow, w_lt, w_le, w_gt, w_ge, w_eq, w_ne, w_eqt, w_eql, w_net, w_nel, w_isn, w_ist, w_isi, w_isl, w_abs, w_lent, w_lenl, w_intb, w_list, w_tuple, w_min, w_idxt0, w_idxt1, w_idxu0, w_idxu1, w_idxu2, w_idxl, w_slcl, w_slct, w_tb, w_ti, w_tn, w_tt, w_tl, w_itt, w_itl, w_bindT1, w_bindT2, w_srcl, w_srct, w_cut2, w_cut1, w_cut1', w_cut0, w_ty1, w_ty2, w_ty3, w_ty4, w_ty5, w_ty6, w_ty7, w_ty8, w_ty9, w_ty10, w_ty11, w_ty12, w_ty13, w_ty14, w_ty15, w_ty16, w_ty17, w_ty18, w_ty19, w_ty20, w_ty21, w_mapc, w_mapn, w_appc, w_appn, w_repc, w_repn, w_start, w_lenc, w_ifT, w_ifF, w_ifFF, w_ifTF, w_nT, w_nF, w_anyT, w_anyF, w_d22, ifSome_some, ifLst_lst, ifTup_tup, ifInt_int, lget, lset, lsets, Nat.reduceSub, Nat.reduceAdd, List.length_nil, ↓reduceIte]
    rw [decide_eq_false h3]
    dsimp only [t_law_factor_3, qS1, qS2, qS3, qS4, qS5, qS6, qS7, qS8, qS9, qS10, qS11, qS12, qS13, qS14, qS15, qS16, qS17, qS18, qE1, qE2, qE3, qE4, qE5, qE6, qE7, qE8, qE9, qE10, qE11, qE12, qE13, qE14, qE15, qE16, qE17, qE18, qE19, qE20, qE21, qE22, qEs1, qEs2, wpAll, qO1, qO2, qI1, qI2, qI3, w_add, w_addl, w_sub, w_mul, w_mull, w_fdiv, w_mod, w_pow, w_lt, w_le, w_gt, w_ge, w_eq, w_ne, w_eqt, w_eql, w_net, w_nel, w_isn, w_ist, w_isi, w_isl, w_abs, w_lent, w_lenl, w_intb, w_list, w_tuple, w_min, w_idxt0, w_idxt1, w_idxu0, w_idxu1, w_idxu2, w_idxl, w_slcl, w_slct, w_tb, w_ti, w_tn, w_tt, w_tl, w_itt, w_itl, w_bindT1, w_bindT2, w_srcl, w_srct, w_cut2, w_cut1, w_cut1', w_cut0, w_ty1, w_ty2, w_ty3, w_ty4, w_ty5, w_ty6, w_ty7, w_ty8, w_ty9, w_ty10, w_ty11, w_ty12, w_ty13, w_ty14, w_ty15, w_ty16, w_ty17, w_ty18, w_ty19, w_ty20, w_ty21, w_mapc, w_mapn, w_appc, w_appn, w_repc, w_repn, w_start, w_lenc, w_ifT, w_ifF, w_ifFF, w_ifTF, w_nT, w_nF, w_anyT, w_anyF, w_d22, ifSome_some, ifLst_lst, ifTup_tup, ifInt_int, lget, lset, lsets, Nat.reduceSub, Nat.reduceAdd, List.length_nil, ↓reduceIte]
    rw [decide_eq_false h4]
    exact h
  generalize c.fdiv 6 = ov at start
  have a0 := Int.fmod_nonneg_of_pos ov (b := 15) (by decide)
  have a1 := Int.fmod_lt_of_pos ov (b := 15) (by decide)
  have b0 := Int.fmod_nonneg_of_pos (ov.fdiv 15) (b := 4) (by decide)
  have b1 := Int.fmod_lt_of_pos (ov.fdiv 15) (b := 4) (by decide)
  have c0 := Int.fmod_nonneg_of_pos (ov.fdiv 2) (b := 7) (by decide)
  have c1 := Int.fmod_lt_of_pos (ov.fdiv 2) (b := 7) (by decide)
  have d0 := Int.fmod_nonneg_of_pos (ov.fdiv 2) (b := 2000000000) (by decide)
  have d1 := Int.fmod_lt_of_pos (ov.fdiv 2) (b := 2000000000) (by decide)
  have lows : ∀ {a b : Int}, 0 < b → Sm 39 a → Sm 39 b → Low 39 (a.fdiv ((a.gcd b : Nat) : Int)) (b.fdiv ((a.gcd b : Nat) : Int)) := fun {a b} hb ha hs => low_of ha hs hb (Int.fdiv_mul_cancel (Int.gcd_dvd_left a b)) (Int.fdiv_mul_cancel (Int.gcd_dvd_right a b))
  have e39 : (2 : Nat) ^ 39 = 549755813888 := by decide
  have lin_sm : ∀ {p q : Int}, Low 39 p q → AllSm 40 [0 - p, q] := fun {p q} h => .cons (by rw [Int.zero_sub]; exact h.top.neg.mono (by decide)) (.cons (h.bot.mono (by decide)) .nil)
  have part_eq : ∀ {a b : Int} {H : Hp} {Q : V → Hp → Prop} {X : Nat → Hp → Prop}, 0 < b → Q (.tup [.int (a.fdiv ((a.gcd b : Nat) : Int)), .int (b.fdiv ((a.gcd b : Nat) : Int))]) H → callN nosub fnTab (n + 2) 12 [.int a, .int b] H Q X := fun {a b H Q X} hb hq => by
    refine callN_mk (d := ⟨2, 3, b_law_part⟩) rfl rfl ?_
    dsimp only [b_law_part, qS1, qS2, qS3, qS4, qS5, qS6, qS7, qS8, qS9, qS10, qS11, qS12, qS13, qS14, qS15, qS16, qS17, qS18, qE1, qE2, qE3, qE4, qE5, qE6, qE7, qE8, qE9, qE10, qE11, qE12, qE13, qE14, qE15, qE16, qE17, qE18, qE19, qE20, qE21, qE22, qEs1, qEs2, wpAll, qO1, qO2, qI1, qI2, qI3, w_add, w_addl, w_sub, w_mul, w_mull, w_fdiv, w_mod, w_pow, w_lt, w_le, w_gt, w_ge, w_eq, w_ne, w_eqt, w_eql, w_net, w_nel, w_isn, w_ist, w_isi, w_isl, w_abs, w_lent, w_lenl, w_intb, w_list, w_tuple, w_min, w_idxt0, w_idxt1, w_idxu0, w_idxu1, w_idxu2, w_idxl, w_slcl, w_slct, w_tb, w_ti, w_tn, w_tt, w_tl, w_itt, w_itl, w_bindT1, w_bindT2, w_srcl, w_srct, w_cut2, w_cut1, w_cut1', w_cut0, w_ty1, w_ty2, w_ty3, w_ty4, w_ty5, w_ty6, w_ty7, w_ty8, w_ty9, w_ty10, w_ty11, w_ty12, w_ty13, w_ty14, w_ty15, w_ty16, w_ty17, w_ty18, w_ty19, w_ty20, w_ty21, w_mapc, w_mapn, w_appc, w_appn, w_repc, w_repn, w_start, w_lenc, w_ifT, w_ifF, w_ifFF, w_ifTF, w_nT, w_nF, w_anyT, w_anyF, w_d22, ifSome_some, ifLst_lst, ifTup_tup, ifInt_int, lget, lset, lsets, Nat.reduceSub, Nat.reduceAdd, List.length_nil, ↓reduceIte]
    refine s_div rfl ?_
    rw [decide_eq_false (Int.not_lt.mpr (Int.le_of_lt hb))]
    exact ⟨gne_of hb, gne_of hb, hq⟩
  by_cases h5 : c.fmod 6 = 5
  · by_cases hodd : ov.fmod 2 = 1
    · have L := lows (a := 333333 + (ov.fdiv 2).fmod 7) (b := 10 ^ (6 : Int).toNat) (by decide) (sm39 (by (clear w0 w1 h2 h3 h4 e40 start a0 a1 b0 b1 d0 d1 lows e39 lin_sm part_eq h5 hodd; omega))) (by unfold Sm; decide)
      refine ⟨_, _, ftr_lin L, lin_sm L, fun H Q X hQ => start H Q X ?_⟩
      dsimp only [t_law_factor_2, qS1, qS2, qS3, qS4, qS5, qS6, qS7, qS8, qS9, qS10, qS11, qS12, qS13, qS14, qS15, qS16, qS17, qS18, qE1, qE2, qE3, qE4, qE5, qE6, qE7, qE8, qE9, qE10, qE11, qE12, qE13, qE14, qE15, qE16, qE17, qE18, qE19, qE20, qE21, qE22, qEs1, qEs2, wpAll, qO1, qO2, qI1, qI2, qI3, w_add, w_addl, w_sub, w_mul, w_mull, w_fdiv, w_mod, w_pow, w_lt, w_le, w_gt, w_ge, w_eq, w_ne, w_eqt, w_eql, w_net, w_nel, w_isn, w_ist, w_isi, w_isl, w_abs, w_lent, w_lenl, w_intb, w_list, w_tuple, w_min, w_idxt0, w_idxt1, w_idxu0, w_idxu1, w_idxu2, w_idxl, w_slcl, w_slct, w_tb, w_ti, w_tn, w_tt, w_tl, w_itt, w_itl, w_bindT1, w_bindT2, w_srcl, w_srct, w_cut2, w_cut1, w_cut1', w_cut0, w_ty1, w_ty2, w_ty3, w_ty4, w_ty5, w_ty6, w_ty7, w_ty8, w_ty9, w_ty10, w_ty11, w_ty12, w_ty13, w_ty14, w_ty15, w_ty16, w_ty17, w_ty18, w_ty19, w_ty20, w_ty21, w_mapc, w_mapn, w_appc, w_appn, w_repc, w_repn, w_start, w_lenc, w_ifT, w_ifF, w_ifFF, w_ifTF, w_nT, w_nF, w_anyT, w_anyF, w_d22, ifSome_some, ifLst_lst, ifTup_tup, ifInt_int, lget, lset, lsets, Nat.reduceSub, Nat.reduceAdd, List.length_nil, ↓reduceIte]
      refine ⟨by decide, DivOk.sm (by decide) (by unfold Sm; decide), by decide, ?_⟩
      refine part_eq (by (clear w0 w1 h2 h3 h4 e40 start a0 a1 c0 c1 d0 d1 lows e39 lin_sm part_eq h5 hodd L hQ; omega)) ?_
      rw [decide_eq_true h5]
      dsimp only [qS1, qS2, qS3, qS4, qS5, qS6, qS7, qS8, qS9, qS10, qS11, qS12, qS13, qS14, qS15, qS16, qS17, qS18, qE1, qE2, qE3, qE4, qE5, qE6, qE7, qE8, qE9, qE10, qE11, qE12, qE13, qE14, qE15, qE16, qE17, qE18, qE19, qE20, qE21, qE22, qEs1, qEs2, wpAll, qO1, qO2, qI1, qI2, qI3, w_add, w_addl, w_sub, w_mul, w_mull, w_fdiv, w_mod, w_pow, w_lt, w_le, w_gt, w_ge, w_eq, w_ne, w_eqt, w_eql, w_net, w_nel, w_isn, w_ist, w_isi, w_isl, w_abs, w_lent, w_lenl, w_intb, w_list, w_tuple, w_min, w_idxt0, w_idxt1, w_idxu0, w_idxu1, w_idxu2, w_idxl, w_slcl, w_slct, w_tb, w_ti, w_tn, w_tt, w_tl, w_itt, w_itl, w_bindT1, w_bindT2, w_srcl, w_srct, w_cut2, w_cut1, w_cut1', w_cut0, w_ty1, w_ty2, w_ty3, w_ty4, w_ty5, w_ty6, w_ty7, w_ty8, w_ty9, w_ty10, w_ty11, w_ty12, w_ty13, w_ty14, w_ty15, w_ty16, w_ty17, w_ty18, w_ty19, w_ty20, w_ty21, w_mapc, w_mapn, w_appc, w_appn, w_repc, w_repn, w_start, w_lenc, w_ifT, w_ifF, w_ifFF, w_ifTF, w_nT, w_nF, w_anyT, w_anyF, w_d22, ifSome_some, ifLst_lst, ifTup_tup, ifInt_int, lget, lset, lsets, Nat.reduceSub, Nat.reduceAdd, List.length_nil, ↓reduceIte]
      refine ⟨DivOk.sm (by decide) (by unfold Sm; decide), by decide, by decide, by decide, IntMulOk.left (show Sm 64 2 by unfold Sm; decide), by decide, by decide, by decide, by decide, by decide, ?_⟩
      rw [decide_eq_true hodd]
      dsimp only [qS1, qS2, qS3, qS4, qS5, qS6, qS7, qS8, qS9, qS10, qS11, qS12, qS13, qS14, qS15, qS16, qS17, qS18, qE1, qE2, qE3, qE4, qE5, qE6, qE7, qE8, qE9, qE10, qE11, qE12, qE13, qE14, qE15, qE16, qE17, qE18, qE19, qE20, qE21, qE22, qEs1, qEs2, wpAll, qO1, qO2, qI1, qI2, qI3, w_add, w_addl, w_sub, w_mul, w_mull, w_fdiv, w_mod, w_pow, w_lt, w_le, w_gt, w_ge, w_eq, w_ne, w_eqt, w_eql, w_net, w_nel, w_isn, w_ist, w_isi, w_isl, w_abs, w_lent, w_lenl, w_intb, w_list, w_tuple, w_min, w_idxt0, w_idxt1, w_idxu0, w_idxu1, w_idxu2, w_idxl, w_slcl, w_slct, w_tb, w_ti, w_tn, w_tt, w_tl, w_itt, w_itl, w_bindT1, w_bindT2, w_srcl, w_srct, w_cut2, w_cut1, w_cut1', w_cut0, w_ty1, w_ty2, w_ty3, w_ty4, w_ty5, w_ty6, w_ty7, w_ty8, w_ty9, w_ty10, w_ty11, w_ty12, w_ty13, w_ty14, w_ty15, w_ty16, w_ty17, w_ty18, w_ty19, w_ty20, w_ty21, w_mapc, w_mapn, w_appc, w_appn, w_repc, w_repn, w_start, w_lenc, w_ifT, w_ifF, w_ifFF, w_ifTF, w_nT, w_nF, w_anyT, w_anyF, w_d22, ifSome_some, ifLst_lst, ifTup_tup, ifInt_int, lget, lset, lsets, Nat.reduceSub, Nat.reduceAdd, List.length_nil, ↓reduceIte]
      refine ⟨DivOk.sm (by decide) (by unfold Sm; decide), by decide, by decide, by decide, by decide, ?_⟩
      refine part_eq (by decide) ?_
      dsimp only [t_law_factor_1, qS1, qS2, qS3, qS4, qS5, qS6, qS7, qS8, qS9, qS10, qS11, qS12, qS13, qS14, qS15, qS16, qS17, qS18, qE1, qE2, qE3, qE4, qE5, qE6, qE7, qE8, qE9, qE10, qE11, qE12, qE13, qE14, qE15, qE16, qE17, qE18, qE19, qE20, qE21, qE22, qEs1, qEs2, wpAll, qO1, qO2, qI1, qI2, qI3, w_add, w_addl, w_sub, w_mul, w_mull, w_fdiv, w_mod, w_pow, w_lt, w_le, w_gt, w_ge, w_eq, w_ne, w_eqt, w_eql, w_net, w_nel, w_isn, w_ist, w_isi, w_isl, w_abs, w_lent, w_lenl, w_intb, w_list, w_tuple, w_min, w_idxt0, w_idxt1, w_idxu0, w_idxu1, w_idxu2, w_idxl, w_slcl, w_slct, w_tb, w_ti, w_tn, w_tt, w_tl, w_itt, w_itl, w_bindT1, w_bindT2, w_srcl, w_srct, w_cut2, w_cut1, w_cut1', w_cut0, w_ty1, w_ty2, w_ty3, w_ty4, w_ty5, w_ty6, w_ty7, w_ty8, w_ty9, w_ty10, w_ty11, w_ty12, w_ty13, w_ty14, w_ty15, w_ty16, w_ty17, w_ty18, w_ty19, w_ty20, w_ty21, w_mapc, w_mapn, w_appc, w_appn, w_repc, w_repn, w_start, w_lenc, w_ifT, w_ifF, w_ifFF, w_ifTF, w_nT, w_nF, w_anyT, w_anyF, w_d22, ifSome_some, ifLst_lst, ifTup_tup, ifInt_int, lget, lset, lsets, Nat.reduceSub, Nat.reduceAdd, List.length_nil, ↓reduceIte]
      exact hQ _ _ (preApp _ _) (Nat.le_refl _) (getApp _ _ _)
    · have L : Low 39 ((ov.fdiv 2).fmod (2 * 10 ^ (9 : Int).toNat) - 10 ^ (9 : Int).toNat) 1 := ⟨by
        have e1 : (2 * 10 ^ (9 : Int).toNat : Int) = 2000000000 := by decide
        have e2 : (10 ^ (9 : Int).toNat : Int) = 1000000000 := by decide
        rw [e1, e2]; exact sm39 (by (clear w0 w1 h2 h3 h4 e40 start a0 a1 b0 b1 c0 c1 lows e39 lin_sm part_eq h5 hodd e1 e2; omega)), by unfold Sm; decide, by decide, Int.gcd_one⟩
      refine ⟨_, _, ftr_lin L, lin_sm L, fun H Q X hQ => start H Q X ?_⟩
      dsimp only [t_law_factor_2, qS1, qS2, qS3, qS4, qS5, qS6, qS7, qS8, qS9, qS10, qS11, qS12, qS13, qS14, qS15, qS16, qS17, qS18, qE1, qE2, qE3, qE4, qE5, qE6, qE7, qE8, qE9, qE10, qE11, qE12, qE13, qE14, qE15, qE16, qE17, qE18, qE19, qE20, qE21, qE22, qEs1, qEs2, wpAll, qO1, qO2, qI1, qI2, qI3, w_add, w_addl, w_sub, w_mul, w_mull, w_fdiv, w_mod, w_pow, w_lt, w_le, w_gt, w_ge, w_eq, w_ne, w_eqt, w_eql, w_net, w_nel, w_isn, w_ist, w_isi, w_isl, w_abs, w_lent, w_lenl, w_intb, w_list, w_tuple, w_min, w_idxt0, w_idxt1, w_idxu0, w_idxu1, w_idxu2, w_idxl, w_slcl, w_slct, w_tb, w_ti, w_tn, w_tt, w_tl, w_itt, w_itl, w_bindT1, w_bindT2, w_srcl, w_srct, w_cut2, w_cut1, w_cut1', w_cut0, w_ty1, w_ty2, w_ty3, w_ty4, w_ty5, w_ty6, w_ty7, w_ty8, w_ty9, w_ty10, w_ty11, w_ty12, w_ty13, w_ty14, w_ty15, w_ty16, w_ty17, w_ty18, w_ty19, w_ty20, w_ty21, w_mapc, w_mapn, w_appc, w_appn, w_repc, w_repn, w_start, w_lenc, w_ifT, w_ifF, w_ifFF, w_ifTF, w_nT, w_nF, w_anyT, w_anyF, w_d22, ifSome_some, ifLst_lst, ifTup_tup, ifInt_int, lget, lset, lsets, Nat.reduceSub, Nat.reduceAdd, List.length_nil, ↓reduceIte]
      refine ⟨by decide, DivOk.sm (by decide) (by unfold Sm; decide), by decide, ?_⟩
      refine part_eq (by (clear w0 w1 h2 h3 h4 e40 start a0 a1 c0 c1 d0 d1 lows e39 lin_sm part_eq h5 hodd L hQ; omega)) ?_
      rw [decide_eq_true h5]
      dsimp only [qS1, qS2, qS3, qS4, qS5, qS6, qS7, qS8, qS9, qS10, qS11, qS12, qS13, qS14, qS15, qS16, qS17, qS18, qE1, qE2, qE3, qE4, qE5, qE6, qE7, qE8, qE9, qE10, qE11, qE12, qE13, qE14, qE15, qE16, qE17, qE18, qE19, qE20, qE21, qE22, qEs1, qEs2, wpAll, qO1, qO2, qI1, qI2, qI3, w_add, w_addl, w_sub, w_mul, w_mull, w_fdiv, w_mod, w_pow, w_lt, w_le, w_gt, w_ge, w_eq, w_ne, w_eqt, w_eql, w_net, w_nel, w_isn, w_ist, w_isi, w_isl, w_abs, w_lent, w_lenl, w_intb, w_list, w_tuple, w_min, w_idxt0, w_idxt1, w_idxu0, w_idxu1, w_idxu2, w_idxl, w_slcl, w_slct, w_tb, w_ti, w_tn, w_tt, w_tl, w_itt, w_itl, w_bindT1, w_bindT2, w_srcl, w_srct, w_cut2, w_cut1, w_cut1', w_cut0, w_ty1, w_ty2, w_ty3, w_ty4, w_ty5, w_ty6, w_ty7, w_ty8, w_ty9, w_ty10, w_ty11, w_ty12, w_ty13, w_ty14, w_ty15, w_ty16, w_ty17, w_ty18, w_ty19, w_ty20, w_ty21, w_mapc, w_mapn, w_appc, w_appn, w_repc, w_repn, w_start, w_lenc, w_ifT, w_ifF, w_ifFF, w_ifTF, w_nT, w_nF, w_anyT, w_anyF, w_d22, ifSome_some, ifLst_lst, ifTup_tup, ifInt_int, lget, lset, lsets, Nat.reduceSub, Nat.reduceAdd, List.length_nil, ↓reduceIte]
      refine ⟨DivOk.sm (by decide) (by unfold Sm; decide), by decide, by decide, by decide, IntMulOk.left (show Sm 64 2 by unfold Sm; decide), by decide, by decide, by decide, by decide, by decide, ?_⟩
      rw [decide_eq_false hodd]
      dsimp only [t_law_factor_1, qS1, qS2, qS3, qS4, qS5, qS6, qS7, qS8, qS9, qS10, qS11, qS12, qS13, qS14, qS15, qS16, qS17, qS18, qE1, qE2, qE3, qE4, qE5, qE6, qE7, qE8, qE9, qE10, qE11, qE12, qE13, qE14, qE15, qE16, qE17, qE18, qE19, qE20, qE21, qE22, qEs1, qEs2, wpAll, qO1, qO2, qI1, qI2, qI3, w_add, w_addl, w_sub, w_mul, w_mull, w_fdiv, w_mod, w_pow, w_lt, w_le, w_gt, w_ge, w_eq, w_ne, w_eqt, w_eql, w_net, w_nel, w_isn, w_ist, w_isi, w_isl, w_abs, w_lent, w_lenl, w_intb, w_list, w_tuple, w_min, w_idxt0, w_idxt1, w_idxu0, w_idxu1, w_idxu2, w_idxl, w_slcl, w_slct, w_tb, w_ti, w_tn, w_tt, w_tl, w_itt, w_itl, w_bindT1, w_bindT2, w_srcl, w_srct, w_cut2, w_cut1, w_cut1', w_cut0, w_ty1, w_ty2, w_ty3, w_ty4, w_ty5, w_ty6, w_ty7, w_ty8, w_ty9, w_ty10, w_ty11, w_ty12, w_ty13, w_ty14, w_ty15, w_ty16, w_ty17, w_ty18, w_ty19, w_ty20, w_ty21, w_mapc, w_mapn, w_appc, w_appn, w_repc, w_repn, w_start, w_lenc, w_ifT, w_ifF, w_ifFF, w_ifTF, w_nT, w_nF, w_anyT, w_anyF, w_d22, ifSome_some, ifLst_lst, ifTup_tup, ifInt_int, lget, lset, lsets, Nat.reduceSub, Nat.reduceAdd, List.length_nil, ↓reduceIte]
      exact hQ _ _ (preApp _ _) (Nat.le_refl _) (getApp _ _ _)
  · have L := lows (a := ov.fmod 15 - 7) (b := 1 + (ov.fdiv 15).fmod 4) (by (clear w0 w1 h2 h3 h4 e40 start a0 a1 c0 c1 d0 d1 lows e39 lin_sm part_eq h5; omega)) (sm39 (by (clear w0 w1 h2 h3 h4 e40 start b0 b1 c0 c1 d0 d1 lows e39 lin_sm part_eq h5; omega))) (sm39 (by (clear w0 w1 h2 h3 h4 e40 start a0 a1 c0 c1 d0 d1 lows e39 lin_sm part_eq h5; omega)))
    refine ⟨_, _, ftr_lin L, lin_sm L, fun H Q X hQ => start H Q X ?_⟩
    dsimp only [t_law_factor_2, qS1, qS2, qS3, qS4, qS5, qS6, qS7, qS8, qS9, qS10, qS11, qS12, qS13, qS14, qS15, qS16, qS17, qS18, qE1, qE2, qE3, qE4, qE5, qE6, qE7, qE8, qE9, qE10, qE11, qE12, qE13, qE14, qE15, qE16, qE17, qE18, qE19, qE20, qE21, qE22, qEs1, qEs2, wpAll, qO1, qO2, qI1, qI2, qI3, w_add, w_addl, w_sub, w_mul, w_mull, w_fdiv, w_mod, w_pow, w_lt, w_le, w_gt, w_ge, w_eq, w_ne, w_eqt, w_eql, w_net, w_nel, w_isn, w_ist, w_isi, w_isl, w_abs, w_lent, w_lenl, w_intb, w_list, w_tuple, w_min, w_idxt0, w_idxt1, w_idxu0, w_idxu1, w_idxu2, w_idxl, w_slcl, w_slct, w_tb, w_ti, w_tn, w_tt, w_tl, w_itt, w_itl, w_bindT1, w_bindT2, w_srcl, w_srct, w_cut2, w_cut1, w_cut1', w_cut0, w_ty1, w_ty2, w_ty3, w_ty4, w_ty5, w_ty6, w_ty7, w_ty8, w_ty9, w_ty10, w_ty11, w_ty12, w_ty13, w_ty14, w_ty15, w_ty16, w_ty17, w_ty18, w_ty19, w_ty20, w_ty21, w_mapc, w_mapn, w_appc, w_appn, w_repc, w_repn, w_start, w_lenc, w_ifT, w_ifF, w_ifFF, w_ifTF, w_nT, w_nF, w_anyT, w_anyF, w_d22, ifSome_some, ifLst_lst, ifTup_tup, ifInt_int, lget, lset, lsets, Nat.reduceSub, Nat.reduceAdd, List.length_nil, ↓reduceIte]
    refine ⟨by decide, DivOk.sm (by decide) (by unfold Sm; decide), by decide, ?_⟩
    refine part_eq (by (clear w0 w1 h2 h3 h4 e40 start a0 a1 c0 c1 d0 d1 lows e39 lin_sm part_eq h5 L hQ; omega)) ?_
    rw [decide_eq_false h5]
    dsimp only [t_law_factor_1, qS1, qS2, qS3, qS4, qS5, qS6, qS7, qS8, qS9, qS10, qS11, qS12, qS13, qS14, qS15, qS16, qS17, qS18, qE1, qE2, qE3, qE4, qE5, qE6, qE7, qE8, qE9, qE10, qE11, qE12, qE13, qE14, qE15, qE16, qE17, qE18, qE19, qE20, qE21, qE22, qEs1, qEs2, wpAll, qO1, qO2, qI1, qI2, qI3, w_add, w_addl, w_sub, w_mul, w_mull, w_fdiv, w_mod, w_pow, w_lt, w_le, w_gt, w_ge, w_eq, w_ne, w_eqt, w_eql, w_net, w_nel, w_isn, w_ist, w_isi, w_isl, w_abs, w_lent, w_lenl, w_intb, w_list, w_tuple, w_min, w_idxt0, w_idxt1, w_idxu0, w_idxu1, w_idxu2, w_idxl, w_slcl, w_slct, w_tb, w_ti, w_tn, w_tt, w_tl, w_itt, w_itl, w_bindT1, w_bindT2, w_srcl, w_srct, w_cut2, w_cut1, w_cut1', w_cut0, w_ty1, w_ty2, w_ty3, w_ty4, w_ty5, w_ty6, w_ty7, w_ty8, w_ty9, w_ty10, w_ty11, w_ty12, w_ty13, w_ty14, w_ty15, w_ty16, w_ty17, w_ty18, w_ty19, w_ty20, w_ty21, w_mapc, w_mapn, w_appc, w_appn, w_repc, w_repn, w_start, w_lenc, w_ifT, w_ifF, w_ifFF, w_ifTF, w_nT, w_nF, w_anyT, w_anyF, w_d22, ifSome_some, ifLst_lst, ifTup_tup, ifInt_int, lget, lset, lsets, Nat.reduceSub, Nat.reduceAdd, List.length_nil, ↓reduceIte]
    exact hQ _ _ (preApp _ _) (Nat.le_refl _) (getApp _ _ _)
/-- the factors' list: places and rows -/
structure Fcs (H : Hp) (ps : List (Nat × List Int)) : Prop where
  at_ : ∀ p ∈ ps, H[p.1]? = some (p.2.map .int)
  ftr : ∀ p ∈ ps, (∃ l, Ftr p.2 l) ∧ AllSm 40 p.2
  nod : (ps.map (·.2)).Nodup
theorem dat_fcs {H : Hp} : ∀ {ps : List (Nat × List Int)}, (∀ p ∈ ps, H[p.1]? = some (p.2.map .int)) → (ps.map fun p => V.lst p.1).mapM (datOf H 3) = some (ps.map fun p => PyData.list (p.2.map .int))
  | [], _ => rfl
  | p :: r, h => by
    rw [List.map_cons, List.mapM_cons, datOf_ints (n := 2) (h p List.mem_cons_self), dat_fcs (fun q hq => h q (List.mem_cons_of_mem _ hq))]; rfl
theorem noMix_ints : ∀ xs ys : List Int, SeqAt.noMixAll (xs.map .int) (ys.map .int) = true
  | [], [] => rfl
  | [], _ :: _ => rfl
  | _ :: _, [] => rfl
  | x :: xs, y :: ys => by
    rw [List.map_cons, List.map_cons, SeqAt.noMixAll, noMix_ints xs ys]; rfl
theorem any_fcs {F : List Int} : ∀ {ps : List (Nat × List Int)}, ((ps.map fun p => PyData.list (p.2.map .int)).any fun d => PyData.eqv d (.list (F.map .int))) = decide (F ∈ ps.map (·.2))
  | [] => by simp
  | p :: r => by
    rw [List.map_cons, List.any_cons, any_fcs, List.map_cons, PyData.eqv, eqvAll_ints]
    by_cases h : p.2 = F
    · rw [decide_eq_true h, Bool.true_or, decide_eq_true (by rw [h]; exact List.mem_cons_self)]
    · rw [decide_eq_false h, Bool.false_or]
      by_cases h2 : F ∈ r.map (·.2)
      · rw [decide_eq_true h2, decide_eq_true (List.mem_cons_of_mem _ h2)]
      · rw [decide_eq_false h2, decide_eq_false]
        intro h3
        rcases List.mem_cons.mp h3 with h3 | h3
        · exact h h3.symm
        · exact h2 h3
theorem s_factors {m : Nat} {cells : List Int} {H : Hp} {Q : V → Hp → Prop} {X : Nat → Hp → Prop} (hm : H[m]? = some (cells.map .int)) (hl : cells.length ≤ 100)
    (hQ : ∀ H' ps, H <+: H' → H'[H.length]? = some ((ps : List (Nat × List Int)).map fun p => V.lst p.1) → Fcs H' ps → ps.length ≤ cells.length → Q (.lst H.length) H') : callN nosub fnTab (n + 4) 15 [.lst m] H Q X := by
  have hml : m < H.length := (List.getElem?_eq_some_iff.mp hm).1
  refine callN_mk (d := ⟨1, 3, b_law_factors⟩) rfl rfl ?_
  dsimp only [b_law_factors, qS1, qS2, qS3, qS4, qS5, qS6, qS7, qS8, qS9, qS10, qS11, qS12, qS13, qS14, qS15, qS16, qS17, qS18, qE1, qE2, qE3, qE4, qE5, qE6, qE7, qE8, qE9, qE10, qE11, qE12, qE13, qE14, qE15, qE16, qE17, qE18, qE19, qE20, qE21, qE22, qEs1, qEs2, wpAll, qO1, qO2, qI1, qI2, qI3, w_add, w_addl, w_sub, w_mul, w_mull, w_fdiv, w_mod, w_pow, w_lt, w_le, w_gt, w_ge, w_eq, w_ne, w_eqt, w_eql, w_net, w_nel, w_isn, w_ist, w_isi, w_isl, w_abs, w_lent, w_lenl, w_intb, w_list, w_tuple, w_min, w_idxt0, w_idxt1, w_idxu0, w_idxu1, w_idxu2, w_idxl, w_slcl, w_slct, w_tb, w_ti, w_tn, w_tt, w_tl, w_itt, w_itl, w_bindT1, w_bindT2, w_srcl, w_srct, w_cut2, w_cut1, w_cut1', w_cut0, w_ty1, w_ty2, w_ty3, w_ty4, w_ty5, w_ty6, w_ty7, w_ty8, w_ty9, w_ty10, w_ty11, w_ty12, w_ty13, w_ty14, w_ty15, w_ty16, w_ty17, w_ty18, w_ty19, w_ty20, w_ty21, w_mapc, w_mapn, w_appc, w_appn, w_repc, w_repn, w_start, w_lenc, w_ifT, w_ifF, w_ifFF, w_ifTF, w_nT, w_nF, w_anyT, w_anyF, w_d22, ifSome_some, ifLst_lst, ifTup_tup, ifInt_int, lget, lset, lsets, Nat.reduceSub, Nat.reduceAdd, List.length_nil, ↓reduceIte]
  refine ifSome.mk (getKeep (preApp _ _) hm) ?_
  refine forGo_rule (fun rest ρ H' => ∃ td ps K o, rest = (td : List Int).map V.int ∧ ρ = [some (.lst m), some (.lst H.length), o] ∧ H' = H ++ ((ps : List (Nat × List Int)).map fun p => V.lst p.1) :: K ∧ (∀ p ∈ ps, p.1 ≠ H.length) ∧ Fcs H' ps ∧ ps.length + td.length ≤ cells.length) ?_ ?_ _ _ _ ⟨cells, [], [], _, rfl, rfl, rfl, fun p hp => (nomatch hp), ⟨fun p hp => (nomatch hp), fun p hp => (nomatch hp), List.nodup_nil⟩, by simp⟩
  · rintro x rest ρ H' k ⟨td, ps, K, o, hx, rfl, rfl, hne, hF, hlen⟩ hk
    cases td with
    | nil => cases hx
    | cons y td =>
      cases hx
      rw [List.length_cons] at hlen
      obtain ⟨F, l, hFt, hFs, call⟩ := s_factor (n := n) y
      dsimp only [l_law_factors_1, qS1, qS2, qS3, qS4, qS5, qS6, qS7, qS8, qS9, qS10, qS11, qS12, qS13, qS14, qS15, qS16, qS17, qS18, qE1, qE2, qE3, qE4, qE5, qE6, qE7, qE8, qE9, qE10, qE11, qE12, qE13, qE14, qE15, qE16, qE17, qE18, qE19, qE20, qE21, qE22, qEs1, qEs2, wpAll, qO1, qO2, qI1, qI2, qI3, w_add, w_addl, w_sub, w_mul, w_mull, w_fdiv, w_mod, w_pow, w_lt, w_le, w_gt, w_ge, w_eq, w_ne, w_eqt, w_eql, w_net, w_nel, w_isn, w_ist, w_isi, w_isl, w_abs, w_lent, w_lenl, w_intb, w_list, w_tuple, w_min, w_idxt0, w_idxt1, w_idxu0, w_idxu1, w_idxu2, w_idxl, w_slcl, w_slct, w_tb, w_ti, w_tn, w_tt, w_tl, w_itt, w_itl, w_bindT1, w_bindT2, w_srcl, w_srct, w_cut2, w_cut1, w_cut1', w_cut0, w_ty1, w_ty2, w_ty3, w_ty4, w_ty5, w_ty6, w_ty7, w_ty8, w_ty9, w_ty10, w_ty11, w_ty12, w_ty13, w_ty14, w_ty15, w_ty16, w_ty17, w_ty18, w_ty19, w_ty20, w_ty21, w_mapc, w_mapn, w_appc, w_appn, w_repc, w_repn, w_start, w_lenc, w_ifT, w_ifF, w_ifFF, w_ifTF, w_nT, w_nF, w_anyT, w_anyF, w_d22, ifSome_some, ifLst_lst, ifTup_tup, ifInt_int, lget, lset, lsets, Nat.reduceSub, Nat.reduceAdd, List.length_nil, ↓reduceIte]
      refine call _ _ _ fun H1 i hp1 hi1 hi => ?_
      obtain ⟨K1, rfl⟩ := hp1
      have e1 : (H ++ (ps.map fun p => V.lst p.1) :: K) ++ K1 = H ++ (ps.map fun p => V.lst p.1) :: (K ++ K1) := by rw [List.append_assoc]; rfl
      have hF1 : ∀ p ∈ ps, (H ++ (ps.map fun p => V.lst p.1) :: K ++ K1)[p.1]? = some (p.2.map .int) := fun p hp => getKeep (preApp _ _) (hF.at_ p hp)
      have hfd : (H ++ (ps.map fun p => V.lst p.1) :: K ++ K1)[H.length]? = some (ps.map fun p => V.lst p.1) := by rw [e1]; exact getApp _ _ _
      refine ⟨.list (F.map .int), ps.map fun p => PyData.list (p.2.map .int), datOf_ints (n := 2) hi, ?_, fun y hy => ?_, ?_⟩
      · simp only [datOf, hfd, dat_fcs hF1]; rfl
      · obtain ⟨p, _, rfl⟩ := List.mem_map.mp hy
        rw [SeqAt.noMix]; exact noMix_ints _ _
      rw [any_fcs]
      dsimp only [qS1, qS2, qS3, qS4, qS5, qS6, qS7, qS8, qS9, qS10, qS11, qS12, qS13, qS14, qS15, qS16, qS17, qS18, qE1, qE2, qE3, qE4, qE5, qE6, qE7, qE8, qE9, qE10, qE11, qE12, qE13, qE14, qE15, qE16, qE17, qE18, qE19, qE20, qE21, qE22, qEs1, qEs2, wpAll, qO1, qO2, qI1, qI2, qI3, w_add, w_addl, w_sub, w_mul, w_mull, w_fdiv, w_mod, w_pow, w_lt, w_le, w_gt, w_ge, w_eq, w_ne, w_eqt, w_eql, w_net, w_nel, w_isn, w_ist, w_isi, w_isl, w_abs, w_lent, w_lenl, w_intb, w_list, w_tuple, w_min, w_idxt0, w_idxt1, w_idxu0, w_idxu1, w_idxu2, w_idxl, w_slcl, w_slct, w_tb, w_ti, w_tn, w_tt, w_tl, w_itt, w_itl, w_bindT1, w_bindT2, w_srcl, w_srct, w_cut2, w_cut1, w_cut1', w_cut0, w_ty1, w_ty2, w_ty3, w_ty4, w_ty5, w_ty6, w_ty7, w_ty8, w_ty9, w_ty10, w_ty11, w_ty12, w_ty13, w_ty14, w_ty15, w_ty16, w_ty17, w_ty18, w_ty19, w_ty20, w_ty21, w_mapc, w_mapn, w_appc, w_appn, w_repc, w_repn, w_start, w_lenc, w_ifT, w_ifF, w_ifFF, w_ifTF, w_nT, w_nF, w_anyT, w_anyF, w_d22, ifSome_some, ifLst_lst, ifTup_tup, ifInt_int, lget, lset, lsets, Nat.reduceSub, Nat.reduceAdd, List.length_nil, ↓reduceIte]
      by_cases hin : F ∈ ps.map (·.2)
      · rw [decide_eq_true hin]
        dsimp only [qS1, qS2, qS3, qS4, qS5, qS6, qS7, qS8, qS9, qS10, qS11, qS12, qS13, qS14, qS15, qS16, qS17, qS18, qE1, qE2, qE3, qE4, qE5, qE6, qE7, qE8, qE9, qE10, qE11, qE12, qE13, qE14, qE15, qE16, qE17, qE18, qE19, qE20, qE21, qE22, qEs1, qEs2, wpAll, qO1, qO2, qI1, qI2, qI3, w_add, w_addl, w_sub, w_mul, w_mull, w_fdiv, w_mod, w_pow, w_lt, w_le, w_gt, w_ge, w_eq, w_ne, w_eqt, w_eql, w_net, w_nel, w_isn, w_ist, w_isi, w_isl, w_abs, w_lent, w_lenl, w_intb, w_list, w_tuple, w_min, w_idxt0, w_idxt1, w_idxu0, w_idxu1, w_idxu2, w_idxl, w_slcl, w_slct, w_tb, w_ti, w_tn, w_tt, w_tl, w_itt, w_itl, w_bindT1, w_bindT2, w_srcl, w_srct, w_cut2, w_cut1, w_cut1', w_cut0, w_ty1, w_ty2, w_ty3, w_ty4, w_ty5, w_ty6, w_ty7, w_ty8, w_ty9, w_ty10, w_ty11, w_ty12, w_ty13, w_ty14, w_ty15, w_ty16, w_ty17, w_ty18, w_ty19, w_ty20, w_ty21, w_mapc, w_mapn, w_appc, w_appn, w_repc, w_repn, w_start, w_lenc, w_ifT, w_ifF, w_ifFF, w_ifTF, w_nT, w_nF, w_anyT, w_anyF, w_d22, ifSome_some, ifLst_lst, ifTup_tup, ifInt_int, lget, lset, lsets, Nat.reduceSub, Nat.reduceAdd, List.length_nil, ↓reduceIte]
        exact hk _ _ ⟨td, ps, K ++ K1, _, rfl, rfl, e1, hne, ⟨hF1, hF.ftr, hF.nod⟩, by (clear hm hl hQ hml hne hF hk hFt hFs call hi1 hi e1 hF1 hfd hin; omega)⟩
      · rw [decide_eq_false hin]
        dsimp only [qS1, qS2, qS3, qS4, qS5, qS6, qS7, qS8, qS9, qS10, qS11, qS12, qS13, qS14, qS15, qS16, qS17, qS18, qE1, qE2, qE3, qE4, qE5, qE6, qE7, qE8, qE9, qE10, qE11, qE12, qE13, qE14, qE15, qE16, qE17, qE18, qE19, qE20, qE21, qE22, qEs1, qEs2, wpAll, qO1, qO2, qI1, qI2, qI3, w_add, w_addl, w_sub, w_mul, w_mull, w_fdiv, w_mod, w_pow, w_lt, w_le, w_gt, w_ge, w_eq, w_ne, w_eqt, w_eql, w_net, w_nel, w_isn, w_ist, w_isi, w_isl, w_abs, w_lent, w_lenl, w_intb, w_list, w_tuple, w_min, w_idxt0, w_idxt1, w_idxu0, w_idxu1, w_idxu2, w_idxl, w_slcl, w_slct, w_tb, w_ti, w_tn, w_tt, w_tl, w_itt, w_itl, w_bindT1, w_bindT2, w_srcl, w_srct, w_cut2, w_cut1, w_cut1', w_cut0, w_ty1, w_ty2, w_ty3, w_ty4, w_ty5, w_ty6, w_ty7, w_ty8, w_ty9, w_ty10, w_ty11, w_ty12, w_ty13, w_ty14, w_ty15, w_ty16, w_ty17, w_ty18, w_ty19, w_ty20, w_ty21, w_mapc, w_mapn, w_appc, w_appn, w_repc, w_repn, w_start, w_lenc, w_ifT, w_ifF, w_ifFF, w_ifTF, w_nT, w_nF, w_anyT, w_anyF, w_d22, ifSome_some, ifLst_lst, ifTup_tup, ifInt_int, lget, lset, lsets, Nat.reduceSub, Nat.reduceAdd, List.length_nil, ↓reduceIte]
        refine ⟨⟨Nat.le_refl _, fun h => by have := Option.some.inj h; (clear hm hl hQ hne hF hlen hk hFt hFs call hi1 hi e1 hF1 hfd hin h; omega)⟩, ?_⟩
        refine call _ _ _ fun H2 i2 hp2 hi21 hi2 => ?_
        obtain ⟨K2, rfl⟩ := hp2
        have e2 : H ++ (ps.map fun p => V.lst p.1) :: K ++ K1 ++ K2 = H ++ (ps.map fun p => V.lst p.1) :: (K ++ K1 ++ K2) := by rw [e1, List.append_assoc, List.cons_append, List.append_assoc]
        have hi2n : i2 ≠ H.length := by
          have : (H ++ (ps.map fun p => V.lst p.1) :: K ++ K1).length ≤ i2 := hi21
          simp at this; (clear hm hl hQ hml hne hF hlen hk hFt hFs call hi1 hi e1 hF1 hfd hin hi21 hi2 e2; omega)
        have hF2 : ∀ p ∈ ps, (H ++ (ps.map fun p => V.lst p.1) :: K ++ K1 ++ K2)[p.1]? = some (p.2.map .int) := fun p hp => getKeep (preApp _ _) (hF1 p hp)
        have hset : ∀ (z : List V) (j : Nat), j ≠ H.length → ((H ++ (ps.map fun p => V.lst p.1) :: K ++ K1 ++ K2).set H.length z)[j]? = (H ++ (ps.map fun p => V.lst p.1) :: K ++ K1 ++ K2)[j]? := fun z j hj => List.getElem?_set_ne (Ne.symm hj)
        refine ifSome.mk (v := ps.map fun p => V.lst p.1) (by rw [e2]; exact getApp _ _ _) ⟨by rw [List.length_map]; unfold lim; (clear hm hQ hml hne hF hk hFt hFs call hi1 hi e1 hF1 hfd hin hi21 hi2 e2 hi2n hF2 hset; omega), ?_⟩
        refine hk _ _ ⟨td, ps ++ [(i2, F)], K ++ K1 ++ K2, _, rfl, rfl, ?_, fun p hp => ?_, ⟨fun p hp => ?_, fun p hp => ?_, ?_⟩, by rw [List.length_append, List.length_singleton]; (clear hm hl hQ hml hne hF hk hFt hFs call hi1 hi e1 hF1 hfd hin hi21 hi2 e2 hi2n hF2 hset; omega)⟩
        · rw [e2, setApp, List.map_append]; rfl
        · rcases List.mem_append.mp hp with hp | hp
          · exact hne p hp
          · rw [List.mem_singleton.mp hp]; exact hi2n
        · rcases List.mem_append.mp hp with hp | hp
          · rw [hset _ _ (hne p hp)]; exact hF2 p hp
          · rw [List.mem_singleton.mp hp, hset _ _ hi2n]; exact hi2
        · rcases List.mem_append.mp hp with hp | hp
          · exact hF.ftr p hp
          · rw [List.mem_singleton.mp hp]; exact ⟨⟨l, hFt⟩, hFs⟩
        · rw [List.map_append]
          exact List.nodup_append.mpr ⟨hF.nod, List.nodup_cons.mpr ⟨by simp, List.nodup_nil⟩, fun a ha b hb hab => by rw [List.mem_singleton.mp hb] at hab; rw [hab] at ha; exact hin ha⟩
  · rintro ρ H' ⟨td, ps, K, o, hx, rfl, rfl, hne, hF, hlen⟩
    cases td with
    | cons y td => cases hx
    | nil =>
      dsimp only [t_law_factors_1, qS1, qS2, qS3, qS4, qS5, qS6, qS7, qS8, qS9, qS10, qS11, qS12, qS13, qS14, qS15, qS16, qS17, qS18, qE1, qE2, qE3, qE4, qE5, qE6, qE7, qE8, qE9, qE10, qE11, qE12, qE13, qE14, qE15, qE16, qE17, qE18, qE19, qE20, qE21, qE22, qEs1, qEs2, wpAll, qO1, qO2, qI1, qI2, qI3, w_add, w_addl, w_sub, w_mul, w_mull, w_fdiv, w_mod, w_pow, w_lt, w_le, w_gt, w_ge, w_eq, w_ne, w_eqt, w_eql, w_net, w_nel, w_isn, w_ist, w_isi, w_isl, w_abs, w_lent, w_lenl, w_intb, w_list, w_tuple, w_min, w_idxt0, w_idxt1, w_idxu0, w_idxu1, w_idxu2, w_idxl, w_slcl, w_slct, w_tb, w_ti, w_tn, w_tt, w_tl, w_itt, w_itl, w_bindT1, w_bindT2, w_srcl, w_srct, w_cut2, w_cut1, w_cut1', w_cut0, w_ty1, w_ty2, w_ty3, w_ty4, w_ty5, w_ty6, w_ty7, w_ty8, w_ty9, w_ty10, w_ty11, w_ty12, w_ty13, w_ty14, w_ty15, w_ty16, w_ty17, w_ty18, w_ty19, w_ty20, w_ty21, w_mapc, w_mapn, w_appc, w_appn, w_repc, w_repn, w_start, w_lenc, w_ifT, w_ifF, w_ifFF, w_ifTF, w_nT, w_nF, w_anyT, w_anyF, w_d22, ifSome_some, ifLst_lst, ifTup_tup, ifInt_int, lget, lset, lsets, Nat.reduceSub, Nat.reduceAdd, List.length_nil, ↓reduceIte]
      exact hQ _ ps (preApp _ _) (getApp _ _ _) hF (by simpa using hlen)

/-! the row of the factors -/
noncomputable def kk : List (List Int × Nat) → List Int → List Int
  | [], K => K
  | p :: r, K => kk r (pw p.1 (p.2 + 1) K)
noncomputable def dd : List (List Int) → List Int → List Int
  | [], d => d
  | F :: r, d => dd r (mulP d F)
theorem kk_dd : ∀ (fs : List (List Int)) (K : List Int), kk (fs.map fun F => (F, 0)) K = dd fs K
  | [], _ => rfl
  | F :: r, K => kk_dd r (mulP K F)
theorem kk_app : ∀ (a b : List (List Int × Nat)) (K : List Int), kk (a ++ b) K = kk b (kk a K)
  | [], _, _ => rfl
  | p :: r, b, K => kk_app r b _
structure Szs (K d gl : List Int) (g k c : Nat) : Prop where
  tK : Tr K
  nK : K.length ≤ 1 + 9 * c
  nK' : 1 + c ≤ K.length
  nd : d.length ≤ 1 + 3 * c
  ng : gl.length ≤ 1 + 6 * c
  hg : g ≤ 1 + 280 * c
  hk : k ≤ 1 + 140 * c
theorem ch1 {x y e F c : Nat} (h : x + (e + 1) = y + (e + 1) * F) (he : e ≤ 2) (hF : F ≤ 4) (h2 : 2 ≤ F) (hy : y ≤ 1 + 9 * c) (hy' : 1 + c ≤ y) : x ≤ 1 + 9 * (c + 1) ∧ 1 + (c + 1) ≤ x := by
  match e, he with
  | 0, _ => (clear he; omega)
  | 1, _ => (clear he; omega)
  | 2, _ => (clear he; omega)
theorem ch2 {x y e F c : Nat} (h : x + e = y + e * F) (he : e ≤ 2) (hF : F ≤ 4) (h2 : 2 ≤ F) (hc : c ≤ 2) (hy : y ≤ 1 + 6 * c) : x ≤ 1 + 6 * (c + 1) ∧ y + e * F ≤ 100 := by
  match e, he with
  | 0, _ => (clear he hF h2; omega)
  | 1, _ => (clear he; omega)
  | 2, _ => (clear he; omega)
theorem ch3 {x d F c : Nat} (h : x + 1 = d + F) (hF : F ≤ 4) (hd : d ≤ 1 + 3 * c) : x ≤ 1 + 3 * (c + 1) := by omega
theorem ch4 {g e c : Nat} (he : e ≤ 2) (h : g ≤ 1 + 280 * c) : g + e * (40 + 100) ≤ 1 + 280 * (c + 1) := by omega
theorem ch5 {k c : Nat} (h : k ≤ 1 + 140 * c) : k + 40 + 100 ≤ 1 + 140 * (c + 1) := by omega
theorem ch6 {d c : Nat} (h : d ≤ 1 + 3 * c) (hc : c ≤ 2) : d ≤ 60 := by omega
theorem ch7 {c r : Nat} (h : c + (r + 1) ≤ 3) : c ≤ 2 ∧ c + 1 + r ≤ 3 := by omega
theorem chain : ∀ (fes : List (List Int × Nat)) (done : List (List Int)) (K d gl El : List Int) (g k c : Nat), FL K d gl El g k → Szs K d gl g k c → c + fes.length ≤ 3 → (∀ p ∈ fes, (∃ l, Ftr p.1 l) ∧ AllSm 40 p.1 ∧ p.2 ≤ 2) → (done ++ fes.map (·.1)).Nodup →
    (∀ F l, Ftr F l → F ∉ done → Cop (ev F) (ev d)) → ∃ gl' El' g' k', FL (kk fes K) (dd (fes.map (·.1)) d) gl' El' g' k' ∧ Szs (kk fes K) (dd (fes.map (·.1)) d) gl' g' k' (c + fes.length)
  | [], done, K, d, gl, El, g, k, c, h, s, _, _, _, _ => ⟨gl, El, g, k, h, s⟩
  | p :: r, done, K, d, gl, El, g, k, c, h, s, hc, hf, hnd, hcop => by
    obtain ⟨⟨l, hF⟩, sF, he⟩ := hf p List.mem_cons_self
    rw [List.length_cons] at hc
    have hnot : p.1 ∉ done := fun hin => by
      have := (List.nodup_append.mp hnd).2.2 _ hin _ (List.mem_cons_self (a := p.1) (l := r.map (·.1)))
      exact this rfl
    have hF0 : p.1 ≠ [] := by intro h0; have := hF.last; rw [h0] at this; cases this
    obtain ⟨lg, hg⟩ := h.fg
    obtain ⟨ld, hld, _⟩ := h.dl
    have hd0 : d ≠ [] := by intro h0; rw [h0] at hld; cases hld
    have l4 := hF.len'
    have l2 := hF.len
    have hst := h.step hF sF (hcop _ _ hF hnot) (e := p.2) he (ch2 (pw_len hF0 hg.tr.ne p.2).2 he l4 l2 (ch7 hc).1 s.ng).2 (ch6 s.nd (ch7 hc).1)
    have hK0 := s.tK.ne
    have q1 := ch1 (pw_len hF0 hK0 (p.2 + 1)).2 he l4 l2 s.nK s.nK'
    have q2 := ch2 (pw_len hF0 hg.tr.ne p.2).2 he l4 l2 (ch7 hc).1 s.ng
    have trp : ∀ m : Nat, Tr (pw p.1 m K) := fun m => by
      induction m with
      | zero => exact s.tK
      | succ m ih => exact tr_mulP ih hF.irr.1
    have s' : Szs (pw p.1 (p.2 + 1) K) (mulP d p.1) (pw p.1 p.2 gl) (g + p.2 * (40 + 100)) (k + 40 + 100) (c + 1) := ⟨trp _, q1.1, q1.2, ch3 (mulP_len hd0 hF0) l4 s.nd, q2.1, ch4 he s.hg, ch5 s.hk⟩
    have := chain r (done ++ [p.1]) _ _ _ _ _ _ (c + 1) hst s' (ch7 hc).2 (fun q hq => hf q (List.mem_cons_of_mem _ hq)) (by rw [List.append_assoc]; exact hnd) (fun F l hF' hni => by
      have h1 := hcop F l hF' (fun hin => hni (List.mem_append_left _ hin))
      have h2 := hF'.cop hF (fun he => hni (by rw [he]; simp))
      exact (Cop.mul (PF.ev F) (PF.ev d) (PF.ev p.1) h1 h2).congr fun t => (ev_mulP t d p.1).symm)
    obtain ⟨gl', El', g', k', h1, h2⟩ := this
    exact ⟨gl', El', g', k', h1, by rw [List.length_cons, show c + (r.length + 1) = c + 1 + r.length from by rw [Nat.add_assoc, Nat.add_comm 1]]; exact h2⟩
theorem idx_lst {H : Hp} {m i : Nat} {xs : List V} {v : V} {Q : V → Prop} (hx : H[m]? = some xs) (hi : xs[i]? = some v) (hQ : Q v) : ifSome H[m]? fun xs => ifSome (place xs.length (i : Int)) fun j => ifSome xs[j]? fun v => Q v :=
  ifSome.mk hx (ifSome.mk (place_nat (List.getElem?_eq_some_iff.mp hi).1) (ifSome.mk hi hQ))
theorem md1 {x y e F d : Nat} (h : x + (e + 1) = y + (e + 1) * F) (he : e ≤ 2) (hF : F ≤ 4) (h2 : 2 ≤ F) (hy : y ≤ 1 + 9 * d) : x ≤ 1 + 9 * (d + 1) := by
  match e, he with
  | 0, _ => (clear he; omega)
  | 1, _ => (clear he; omega)
  | 2, _ => (clear he; omega)
theorem md2 {x y i F d : Nat} (h : x + i = y + i * F) (hi : i ≤ 2) (hF : F ≤ 4) (hy : y ≤ 1 + 9 * d) (hd : d < 3) : x ≤ 60 ∧ x + F ≤ 800 := by
  match i, hi with
  | 0, _ => (clear hi; omega)
  | 1, _ => (clear hi; omega)
  | 2, _ => (clear hi; omega)
theorem md3 {e d : Nat} (he : e ≤ 2) : 5 + 300 * d + (e + 1) * (40 + 60) ≤ 5 + 300 * (d + 1) := by omega
theorem md4 {j d : Nat} (hj : j ≤ 2) (hd : d < 3) : 4 + (5 + 300 * d + j * (40 + 60)) + 40 ≤ 134217728 := by omega
theorem md5 {i e : Nat} (h : i < e + 1) (he : e ≤ 2) : i ≤ 2 := by omega
theorem md6 {i j : Nat} (h : i < j) (hj : j ≤ 2) : i ≤ 2 := by omega
theorem md7 {j u e : Nat} (h : j + (u + 1) = e + 1) (he : e ≤ 2) : j ≤ 2 ∧ j + 1 + u = e + 1 := by omega
theorem s_made {fi ci : Nat} {ps : List (Nat × List Int)} {cells : List Int} {m : Int} {H : Hp} {Q : V → Hp → Prop} {X : Nat → Hp → Prop} (hf : H[fi]? = some (ps.map fun p => V.lst p.1)) (hF : Fcs H ps) (hps : ps.length ≤ 3) (hc : H[ci]? = some (cells.map .int)) (hcl : cells.length ≤ 100) (hm : Sm 4 m)
    (hQ : ∀ H' k es, H <+: H' → H.length ≤ k → (es : List Nat).length = ps.length → (∀ e ∈ es, e ≤ 2) → (cells = [] → ∀ e ∈ es, e = 0) → H'[k]? = some ((smul m (kk ((ps.map (·.2)).zip es) [1])).map .int) → Q (.lst k) H') : callN nosub fnTab (n + 2) 16 [.lst fi, .lst ci, .int m] H Q X := by
  refine callN_mk (d := ⟨3, 7, b_law_made⟩) rfl rfl ?_
  dsimp only [b_law_made, qS1, qS2, qS3, qS4, qS5, qS6, qS7, qS8, qS9, qS10, qS11, qS12, qS13, qS14, qS15, qS16, qS17, qS18, qE1, qE2, qE3, qE4, qE5, qE6, qE7, qE8, qE9, qE10, qE11, qE12, qE13, qE14, qE15, qE16, qE17, qE18, qE19, qE20, qE21, qE22, qEs1, qEs2, wpAll, qO1, qO2, qI1, qI2, qI3, w_add, w_addl, w_sub, w_mul, w_mull, w_fdiv, w_mod, w_pow, w_lt, w_le, w_gt, w_ge, w_eq, w_ne, w_eqt, w_eql, w_net, w_nel, w_isn, w_ist, w_isi, w_isl, w_abs, w_lent, w_lenl, w_intb, w_list, w_tuple, w_min, w_idxt0, w_idxt1, w_idxu0, w_idxu1, w_idxu2, w_idxl, w_slcl, w_slct, w_tb, w_ti, w_tn, w_tt, w_tl, w_itt, w_itl, w_bindT1, w_bindT2, w_srcl, w_srct, w_cut2, w_cut1, w_cut1', w_cut0, w_ty1, w_ty2, w_ty3, w_ty4, w_ty5, w_ty6, w_ty7, w_ty8, w_ty9, w_ty10, w_ty11, w_ty12, w_ty13, w_ty14, w_ty15, w_ty16, w_ty17, w_ty18, w_ty19, w_ty20, w_ty21, w_mapc, w_mapn, w_appc, w_appn, w_repc, w_repn, w_start, w_lenc, w_ifT, w_ifF, w_ifFF, w_ifTF, w_nT, w_nF, w_anyT, w_anyF, w_d22, ifSome_some, ifLst_lst, ifTup_tup, ifInt_int, lget, lset, lsets, Nat.reduceSub, Nat.reduceAdd, List.length_nil, ↓reduceIte]
  refine ifSome.mk (getKeep (preApp _ _) hf) ?_
  rw [List.length_map]
  refine rng1 (small_nat (by (clear hf hF hc hcl hm hQ; omega))) ?_
  rw [Int.toNat_natCast]
  refine forGo_rule (fun rest ρ H' => ∃ dn td es a o1 o2 o3, ps = dn ++ td ∧ rest = (List.range' dn.length td.length).map (fun (i : Nat) => V.int (i : Int)) ∧ ρ = [some (.lst fi), some (.lst ci), some (.int m), some (.lst a), o1, o2, o3] ∧ H <+: H' ∧ H.length ≤ a ∧
    (es : List Nat).length = dn.length ∧ (∀ e ∈ es, e ≤ 2) ∧ (cells = [] → ∀ e ∈ es, e = 0) ∧ kk ((dn.map (·.2)).zip es) [1] ≠ [] ∧ (kk ((dn.map (·.2)).zip es) [1]).length ≤ 1 + 9 * dn.length ∧ AllSm (5 + 300 * dn.length) (kk ((dn.map (·.2)).zip es) [1]) ∧
    H'[a]? = some ((smul m (kk ((dn.map (·.2)).zip es) [1])).map .int)) ?_ ?_ _ _ _ ⟨[], ps, [], H.length, _, _, _, rfl, rfl, rfl, preApp _ _, Nat.le_refl _, rfl, fun e he => (nomatch he), fun _ e he => (nomatch he), List.cons_ne_nil _ _, Nat.le_refl _, .cons (by unfold Sm; decide) .nil, ?_⟩
  · rintro x rest ρ H' k ⟨dn, td, es, a, o1, o2, o3, hp, hx, rfl, hpre, ha1, hel, he2, he0, hne, hKl, hKs, ha⟩ hk
    cases td with
    | nil => cases hx
    | cons p td =>
      rw [range'_len] at hx
      cases hx
      have hdn : dn.length < 3 := by rw [hp, List.length_append, List.length_cons] at hps; (clear hf hF hc hcl hm hQ hpre ha1 hel he2 he0 hne hKl hKs ha hp hk; omega)
      have hpm : p ∈ ps := by rw [hp]; simp
      obtain ⟨⟨l, hFt⟩, hFs⟩ := hF.ftr p hpm
      have hFat := hF.at_ p hpm
      have hfp : (ps.map fun p => V.lst p.1)[dn.length]? = some (.lst p.1) := by rw [hp, List.map_append, List.map_cons]; have := getApp (dn.map fun p => V.lst p.1) (V.lst p.1) (td.map fun p => V.lst p.1); rwa [List.length_map] at this
      have hF0 : p.2 ≠ [] := by intro h0; have := hFt.last; rw [h0] at this; cases this
      have l4 := hFt.len'
      generalize hK : kk ((dn.map (·.2)).zip es) [1] = K0 at hne hKl hKs ha
      -- so often
      have rest : ∀ (ov : Int) (e : Nat) (H2 : Hp), ov = (e : Int) + 1 → e ≤ 2 → (cells = [] → e = 0) → H' <+: H2 → wpS nosub (callN nosub fnTab (n + 1)) (fun m => (H.length ≤ m ∧ some m ≠ none)) t_law_made_2 [some (.lst fi), some (.lst ci), some (.int m), some (.lst a), some (.int (dn.length : Int)), some (.int ov), o3] H2 k (fun v H' => Q v H') (fun _ _ => False) := fun ov e H2 hov he hce hp2 => by
        dsimp only [t_law_made_2, qS1, qS2, qS3, qS4, qS5, qS6, qS7, qS8, qS9, qS10, qS11, qS12, qS13, qS14, qS15, qS16, qS17, qS18, qE1, qE2, qE3, qE4, qE5, qE6, qE7, qE8, qE9, qE10, qE11, qE12, qE13, qE14, qE15, qE16, qE17, qE18, qE19, qE20, qE21, qE22, qEs1, qEs2, wpAll, qO1, qO2, qI1, qI2, qI3, w_add, w_addl, w_sub, w_mul, w_mull, w_fdiv, w_mod, w_pow, w_lt, w_le, w_gt, w_ge, w_eq, w_ne, w_eqt, w_eql, w_net, w_nel, w_isn, w_ist, w_isi, w_isl, w_abs, w_lent, w_lenl, w_intb, w_list, w_tuple, w_min, w_idxt0, w_idxt1, w_idxu0, w_idxu1, w_idxu2, w_idxl, w_slcl, w_slct, w_tb, w_ti, w_tn, w_tt, w_tl, w_itt, w_itl, w_bindT1, w_bindT2, w_srcl, w_srct, w_cut2, w_cut1, w_cut1', w_cut0, w_ty1, w_ty2, w_ty3, w_ty4, w_ty5, w_ty6, w_ty7, w_ty8, w_ty9, w_ty10, w_ty11, w_ty12, w_ty13, w_ty14, w_ty15, w_ty16, w_ty17, w_ty18, w_ty19, w_ty20, w_ty21, w_mapc, w_mapn, w_appc, w_appn, w_repc, w_repn, w_start, w_lenc, w_ifT, w_ifF, w_ifFF, w_ifTF, w_nT, w_nF, w_anyT, w_anyF, w_d22, ifSome_some, ifLst_lst, ifTup_tup, ifInt_int, lget, lset, lsets, Nat.reduceSub, Nat.reduceAdd, List.length_nil, ↓reduceIte]
        refine rng1 (smallI_of (by (clear hf hF hps hc hcl hm hQ hpre ha1 hel he2 he0 hp hk hdn hpm hFs hFt hFat hfp hF0 l4 hK hne hKl hKs ha hce hp2; omega)) (by (clear hf hF hps hc hcl hm hQ hpre ha1 hel he2 he0 hp hk hdn hpm hFs hFt hFat hfp hF0 l4 hK hne hKl hKs ha hce hp2; omega))) ?_
        rw [hov, show ((e : Int) + 1).toNat = e + 1 by (clear hf hF hps hc hcl hm hQ hpre ha1 hel he2 he0 hp hk hdn hpm hFs hFt hFat hfp hF0 l4 hK hne hKl hKs ha hov hce hp2; omega)]
        refine forGo_rule (fun rest ρ H3 => ∃ j u b o4, j + u = e + 1 ∧ rest = (List.range' j u).map (fun (i : Nat) => V.int (i : Int)) ∧ ρ = [some (.lst fi), some (.lst ci), some (.int m), some (.lst b), some (.int (dn.length : Int)), some (.int ((e : Int) + 1)), o4] ∧ H <+: H3 ∧ H.length ≤ b ∧
          H3[b]? = some ((smul m (pw p.2 j K0)).map .int)) ?_ ?_ _ _ _ ⟨0, e + 1, a, _, Nat.zero_add _, rfl, rfl, preTrans hpre hp2, ha1, getKeep hp2 ha⟩
        · rintro x3 rest3 ρ3 H3 k3 ⟨j, u, b, o4, hju, hx3, rfl, hp3, hb1, hb⟩ hk3
          cases u with
          | zero => cases hx3
          | succ u =>
            rw [List.range'_succ] at hx3
            cases hx3
            have hj : j ≤ 2 := (md7 hju he).1
            obtain ⟨q1, q2⟩ := pw_len hF0 hne j
            have hsl : smul m (pw p.2 j K0) ≠ [] := by intro h; exact q1 (by unfold smul at h; exact List.map_eq_nil_iff.mp h)
            have sp := pw_sm (m := 60) hFs hKs j (fun i hi => (md2 (pw_len hF0 hne i).2 (md6 hi hj) l4 hKl hdn).1)
            have sm1 := AllSm.smul hm sp
            dsimp only [l_law_made_1, qS1, qS2, qS3, qS4, qS5, qS6, qS7, qS8, qS9, qS10, qS11, qS12, qS13, qS14, qS15, qS16, qS17, qS18, qE1, qE2, qE3, qE4, qE5, qE6, qE7, qE8, qE9, qE10, qE11, qE12, qE13, qE14, qE15, qE16, qE17, qE18, qE19, qE20, qE21, qE22, qEs1, qEs2, wpAll, qO1, qO2, qI1, qI2, qI3, w_add, w_addl, w_sub, w_mul, w_mull, w_fdiv, w_mod, w_pow, w_lt, w_le, w_gt, w_ge, w_eq, w_ne, w_eqt, w_eql, w_net, w_nel, w_isn, w_ist, w_isi, w_isl, w_abs, w_lent, w_lenl, w_intb, w_list, w_tuple, w_min, w_idxt0, w_idxt1, w_idxu0, w_idxu1, w_idxu2, w_idxl, w_slcl, w_slct, w_tb, w_ti, w_tn, w_tt, w_tl, w_itt, w_itl, w_bindT1, w_bindT2, w_srcl, w_srct, w_cut2, w_cut1, w_cut1', w_cut0, w_ty1, w_ty2, w_ty3, w_ty4, w_ty5, w_ty6, w_ty7, w_ty8, w_ty9, w_ty10, w_ty11, w_ty12, w_ty13, w_ty14, w_ty15, w_ty16, w_ty17, w_ty18, w_ty19, w_ty20, w_ty21, w_mapc, w_mapn, w_appc, w_appn, w_repc, w_repn, w_start, w_lenc, w_ifT, w_ifF, w_ifFF, w_ifTF, w_nT, w_nF, w_anyT, w_anyF, w_d22, ifSome_some, ifLst_lst, ifTup_tup, ifInt_int, lget, lset, lsets, Nat.reduceSub, Nat.reduceAdd, List.length_nil, ↓reduceIte]
            refine idx_lst (getKeep hp3 hf) hfp ?_
            refine s_byG rfl hb (getKeep hp3 hFat) hsl hF0 (by rw [smul_len]; exact (md2 q2 hj l4 hKl hdn).2) (fun x hx y hy => IntMulOk.sum (sm1 x hx) (hFs y hy) (md4 hj hdn)) ?_
            rw [smul_mulP q1 hF0]
            exact hk3 _ _ ⟨j + 1, u, _, _, (md7 hju he).2, rfl, rfl, preTrans hp3 (preApp _ _), List.IsPrefix.length_le hp3, getApp _ _ _⟩
        · rintro ρ3 H3 ⟨j, u, b, o4, hju, hx3, rfl, hp3, hb1, hb⟩
          cases u with
          | succ u => rw [List.range'_succ] at hx3; cases hx3
          | zero =>
            obtain rfl : j = e + 1 := by (clear hf hF hps hc hcl hm hQ hpre ha1 hel he2 he0 hp hk hdn hpm hFs hFt hFat hfp hF0 l4 hK hne hKl hKs ha hov he hce hp2 hp3 hb1 hb hx3; omega)
            have ez : ((dn ++ [p]).map (·.2)).zip (es ++ [e]) = (dn.map (·.2)).zip es ++ [(p.2, e)] := by
              rw [List.map_append, List.zip_append (by rw [List.length_map, hel])]; rfl
            have ek : kk (((dn ++ [p]).map (·.2)).zip (es ++ [e])) [1] = pw p.2 (e + 1) K0 := by rw [ez, kk_app, hK]; rfl
            obtain ⟨q1, q2⟩ := pw_len hF0 hne (e + 1)
            have sp := pw_sm (m := 60) hFs hKs (e + 1) (fun i hi => (md2 (pw_len hF0 hne i).2 (md5 hi he) l4 hKl hdn).1)
            refine hk _ _ ⟨dn ++ [p], td, es ++ [e], b, _, _, _, by rw [hp, List.append_assoc]; rfl, by rw [List.length_append]; rfl, rfl, hp3, hb1, by simp [hel], fun x hx => ?_, fun hc0 x hx => ?_, by rw [ek]; exact q1, ?_, ?_, by rw [ek]; exact hb⟩
            · rcases List.mem_append.mp hx with hx | hx
              · exact he2 x hx
              · rw [List.mem_singleton.mp hx]; exact he
            · rcases List.mem_append.mp hx with hx | hx
              · exact he0 hc0 x hx
              · rw [List.mem_singleton.mp hx]; exact hce hc0
            · rw [ek, List.length_append, List.length_singleton]; exact md1 q2 he l4 hFt.len hKl
            · rw [ek, List.length_append, List.length_singleton]; exact sp.mono (md3 he)
      dsimp only [l_law_made_2, qS1, qS2, qS3, qS4, qS5, qS6, qS7, qS8, qS9, qS10, qS11, qS12, qS13, qS14, qS15, qS16, qS17, qS18, qE1, qE2, qE3, qE4, qE5, qE6, qE7, qE8, qE9, qE10, qE11, qE12, qE13, qE14, qE15, qE16, qE17, qE18, qE19, qE20, qE21, qE22, qEs1, qEs2, wpAll, qO1, qO2, qI1, qI2, qI3, w_add, w_addl, w_sub, w_mul, w_mull, w_fdiv, w_mod, w_pow, w_lt, w_le, w_gt, w_ge, w_eq, w_ne, w_eqt, w_eql, w_net, w_nel, w_isn, w_ist, w_isi, w_isl, w_abs, w_lent, w_lenl, w_intb, w_list, w_tuple, w_min, w_idxt0, w_idxt1, w_idxu0, w_idxu1, w_idxu2, w_idxl, w_slcl, w_slct, w_tb, w_ti, w_tn, w_tt, w_tl, w_itt, w_itl, w_bindT1, w_bindT2, w_srcl, w_srct, w_cut2, w_cut1, w_cut1', w_cut0, w_ty1, w_ty2, w_ty3, w_ty4, w_ty5, w_ty6, w_ty7, w_ty8, w_ty9, w_ty10, w_ty11, w_ty12, w_ty13, w_ty14, w_ty15, w_ty16, w_ty17, w_ty18, w_ty19, w_ty20, w_ty21, w_mapc, w_mapn, w_appc, w_appn, w_repc, w_repn, w_start, w_lenc, w_ifT, w_ifF, w_ifFF, w_ifTF, w_nT, w_nF, w_anyT, w_anyF, w_d22, ifSome_some, ifLst_lst, ifTup_tup, ifInt_int, lget, lset, lsets, Nat.reduceSub, Nat.reduceAdd, List.length_nil, ↓reduceIte]
      refine ifSome.mk (getKeep hpre hc) ?_
      rw [List.length_map]
      by_cases hlt : ((dn.length : Nat) : Int) < ((cells.length : Nat) : Int)
      · rw [decide_eq_true hlt]
        dsimp only [qS1, qS2, qS3, qS4, qS5, qS6, qS7, qS8, qS9, qS10, qS11, qS12, qS13, qS14, qS15, qS16, qS17, qS18, qE1, qE2, qE3, qE4, qE5, qE6, qE7, qE8, qE9, qE10, qE11, qE12, qE13, qE14, qE15, qE16, qE17, qE18, qE19, qE20, qE21, qE22, qEs1, qEs2, wpAll, qO1, qO2, qI1, qI2, qI3, w_add, w_addl, w_sub, w_mul, w_mull, w_fdiv, w_mod, w_pow, w_lt, w_le, w_gt, w_ge, w_eq, w_ne, w_eqt, w_eql, w_net, w_nel, w_isn, w_ist, w_isi, w_isl, w_abs, w_lent, w_lenl, w_intb, w_list, w_tuple, w_min, w_idxt0, w_idxt1, w_idxu0, w_idxu1, w_idxu2, w_idxl, w_slcl, w_slct, w_tb, w_ti, w_tn, w_tt, w_tl, w_itt, w_itl, w_bindT1, w_bindT2, w_srcl, w_srct, w_cut2, w_cut1, w_cut1', w_cut0, w_ty1, w_ty2, w_ty3, w_ty4, w_ty5, w_ty6, w_ty7, w_ty8, w_ty9, w_ty10, w_ty11, w_ty12, w_ty13, w_ty14, w_ty15, w_ty16, w_ty17, w_ty18, w_ty19, w_ty20, w_ty21, w_mapc, w_mapn, w_appc, w_appn, w_repc, w_repn, w_start, w_lenc, w_ifT, w_ifF, w_ifFF, w_ifTF, w_nT, w_nF, w_anyT, w_anyF, w_d22, ifSome_some, ifLst_lst, ifTup_tup, ifInt_int, lget, lset, lsets, Nat.reduceSub, Nat.reduceAdd, List.length_nil, ↓reduceIte]
        have hlt' : dn.length < cells.length := by (clear hf hF hps hc hcl hm hQ hpre ha1 hel he2 he0 hp hk hdn hpm hFs hFt hFat hfp hF0 l4 hK hne hKl hKs ha rest; omega)
        refine idx_lst (v := .int cells[dn.length]) (getKeep (preTrans hpre (preApp _ _)) hc) (by rw [List.getElem?_map, List.getElem?_eq_getElem hlt']; rfl) ⟨by decide, ?_⟩
        have z0 := Int.fmod_nonneg_of_pos cells[dn.length] (b := 5) (by decide)
        have z1 := Int.fmod_lt_of_pos cells[dn.length] (b := 5) (by decide)
        refine idx_pick (xs := [1, 2, 1, 3, 1]) (getApp _ _ _) z0 (by simpa using z1) fun y hy _ => ?_
        obtain ⟨e, hye, he⟩ : ∃ e : Nat, y = (e : Int) + 1 ∧ e ≤ 2 := by
          have hy' : y = 1 ∨ y = 2 ∨ y = 3 := by
            simp at hy; (clear hf hF hps hc hcl hm hQ hpre ha1 hel he2 he0 hp hk hdn hpm hFs hFt hFat hfp hF0 l4 hK hne hKl hKs ha rest hlt z0 z1; omega)
          rcases hy' with rfl | rfl | rfl
          · exact ⟨0, rfl, by decide⟩
          · exact ⟨1, rfl, by decide⟩
          · exact ⟨2, rfl, by decide⟩
        exact rest y e _ hye he (fun h => by rw [h] at hlt'; simp at hlt') (preApp _ _)
      · rw [decide_eq_false hlt]
        dsimp only [qS1, qS2, qS3, qS4, qS5, qS6, qS7, qS8, qS9, qS10, qS11, qS12, qS13, qS14, qS15, qS16, qS17, qS18, qE1, qE2, qE3, qE4, qE5, qE6, qE7, qE8, qE9, qE10, qE11, qE12, qE13, qE14, qE15, qE16, qE17, qE18, qE19, qE20, qE21, qE22, qEs1, qEs2, wpAll, qO1, qO2, qI1, qI2, qI3, w_add, w_addl, w_sub, w_mul, w_mull, w_fdiv, w_mod, w_pow, w_lt, w_le, w_gt, w_ge, w_eq, w_ne, w_eqt, w_eql, w_net, w_nel, w_isn, w_ist, w_isi, w_isl, w_abs, w_lent, w_lenl, w_intb, w_list, w_tuple, w_min, w_idxt0, w_idxt1, w_idxu0, w_idxu1, w_idxu2, w_idxl, w_slcl, w_slct, w_tb, w_ti, w_tn, w_tt, w_tl, w_itt, w_itl, w_bindT1, w_bindT2, w_srcl, w_srct, w_cut2, w_cut1, w_cut1', w_cut0, w_ty1, w_ty2, w_ty3, w_ty4, w_ty5, w_ty6, w_ty7, w_ty8, w_ty9, w_ty10, w_ty11, w_ty12, w_ty13, w_ty14, w_ty15, w_ty16, w_ty17, w_ty18, w_ty19, w_ty20, w_ty21, w_mapc, w_mapn, w_appc, w_appn, w_repc, w_repn, w_start, w_lenc, w_ifT, w_ifF, w_ifFF, w_ifTF, w_nT, w_nF, w_anyT, w_anyF, w_d22, ifSome_some, ifLst_lst, ifTup_tup, ifInt_int, lget, lset, lsets, Nat.reduceSub, Nat.reduceAdd, List.length_nil, ↓reduceIte]
        exact rest 1 0 H' rfl (by decide) (fun _ => rfl) (List.prefix_refl _)
  · rintro ρ H' ⟨dn, td, es, a, o1, o2, o3, hp, hx, rfl, hpre, ha1, hel, he2, he0, hne, hKl, hKs, ha⟩
    cases td with
    | cons y td => rw [range'_len] at hx; cases hx
    | nil =>
      rw [List.append_nil] at hp
      subst hp
      dsimp only [t_law_made_1, qS1, qS2, qS3, qS4, qS5, qS6, qS7, qS8, qS9, qS10, qS11, qS12, qS13, qS14, qS15, qS16, qS17, qS18, qE1, qE2, qE3, qE4, qE5, qE6, qE7, qE8, qE9, qE10, qE11, qE12, qE13, qE14, qE15, qE16, qE17, qE18, qE19, qE20, qE21, qE22, qEs1, qEs2, wpAll, qO1, qO2, qI1, qI2, qI3, w_add, w_addl, w_sub, w_mul, w_mull, w_fdiv, w_mod, w_pow, w_lt, w_le, w_gt, w_ge, w_eq, w_ne, w_eqt, w_eql, w_net, w_nel, w_isn, w_ist, w_isi, w_isl, w_abs, w_lent, w_lenl, w_intb, w_list, w_tuple, w_min, w_idxt0, w_idxt1, w_idxu0, w_idxu1, w_idxu2, w_idxl, w_slcl, w_slct, w_tb, w_ti, w_tn, w_tt, w_tl, w_itt, w_itl, w_bindT1, w_bindT2, w_srcl, w_srct, w_cut2, w_cut1, w_cut1', w_cut0, w_ty1, w_ty2, w_ty3, w_ty4, w_ty5, w_ty6, w_ty7, w_ty8, w_ty9, w_ty10, w_ty11, w_ty12, w_ty13, w_ty14, w_ty15, w_ty16, w_ty17, w_ty18, w_ty19, w_ty20, w_ty21, w_mapc, w_mapn, w_appc, w_appn, w_repc, w_repn, w_start, w_lenc, w_ifT, w_ifF, w_ifFF, w_ifTF, w_nT, w_nF, w_anyT, w_anyF, w_d22, ifSome_some, ifLst_lst, ifTup_tup, ifInt_int, lget, lset, lsets, Nat.reduceSub, Nat.reduceAdd, List.length_nil, ↓reduceIte]
      exact hQ _ _ es hpre ha1 hel he2 he0 ha
  · rw [getApp]
    show some [V.int m] = some ([V.int (m * 1)])
    rw [Int.mul_one]
end
noncomputable def Psi : Nat → List V → Hp → (V → Hp → Prop) → Prop := fun k vs H Q => k = 17 ∧ vs.length = 1 ∧ wpS nosub (callN nosub fnTab 5) (fun m => H.length ≤ m) b_plain (startLoc 1 2 vs) H (fun _ _ => False) (fun _ _ => False) (fun c H' => c = 2 ∧ Q (.bool true) H)
noncomputable def F (t : PS) (ρ : Loc) (H : Hp) : Prop := wpS nosub (topC Psi (callN nosub fnTab 6)) (fun m => 1 ≤ m) t ρ H (fun _ _ => V.none = .bool true) (fun v _ => v = .bool true) (fun _ _ => False)
section
variable {H : Hp} {K d gl El : List Int} {g k j r fi hd fd du : Nat} {m : Int} {ps : List (Nat × List Int)} {o : Option V}
/-- what the row and its factors are -/
structure RowF (K d gl El : List Int) (g k : Nat) (m : Int) : Prop where
  fl : FL K d gl El g k
  tK : Tr K
  m0 : m ≠ 0
  n2 : 2 ≤ K.length
  nK : K.length ≤ 100
  nd : d.length ≤ 10
  sz : 4 * (k + 1) * 3 ^ 10 + 2 * (g + 100) ≤ 130000000
theorem s_pl (R : RowF K d gl El g k m) {v : V} {Q : V → Hp → Prop} {X : Nat → Hp → Prop} (hv : items H v = some ((smul m K ++ zeros j).map .int)) (hQ : ∀ H' i, H <+: H' → H.length ≤ i → H'[i]? = some (d.map .int) → Q (.lst i) H') : callN nosub fnTab 6 8 [v] H Q X :=
  s_plain (n := 1) (tr := 1) (re := 2) (qu := 7) (co := 6) (sp := 3) (wl := 4) (ro := 5) (dv := 0) rfl rfl rfl rfl rfl rfl rfl rfl rfl R.fl hv R.tK R.m0 R.n2 R.nK R.nd R.sz hQ
theorem smul_1 {xs : List Int} : smul 1 xs = xs := by
  unfold smul; conv => rhs; rw [← List.map_id xs]
  apply List.map_congr_left; intro x _; exact Int.one_mul x
/-- x x -/
theorem sq_row : ∃ K d gl El g k, RowF K d gl El g k 1 ∧ smul 1 K ++ zeros 0 = [0, 0, 1] ∧ d = [0, 1] := by
  have L : Low 1 0 1 := ⟨by unfold Sm; decide, by unfold Sm; decide, by decide, Int.gcd_one⟩
  have hF := ftr_lin L
  have h := FL.start.step hF (show AllSm 1 [(0 : Int) - 0, 1] from .cons (by unfold Sm; decide) (.cons (by unfold Sm; decide) .nil)) (cop_const (x := 1) (.one (by decide))) (e := 1) (by decide) (by decide) (by decide)
  refine ⟨_, _, _, _, _, _, ⟨h, ⟨1, by decide +kernel, by decide⟩, by decide, by decide +kernel, by decide +kernel, by decide +kernel, by decide⟩, by decide +kernel, by decide +kernel⟩
theorem tail1 (R : RowF K d gl El g k m) (hr : H[r]? = some ((smul m K ++ zeros j).map .int)) (hh : H[hd]? = some ((smul m K ++ zeros j).map .int)) (hf : H[fd]? = some (d.map .int)) (hu : H[du]? = some (d.map .int)) (n1 : fd ≠ hd) (n2 : fd ≠ r) (n3 : fd ≠ du) (hf1 : 1 ≤ fd) :
    F t_law_1 [some (.lst 0), some (.lst fi), some (.int m), some (.lst r), some (.lst hd), some (.lst fd), some (.lst du)] H := by
  unfold F
  dsimp only [t_law_1, qS1, qS2, qS3, qS4, qS5, qS6, qS7, qS8, qS9, qS10, qS11, qS12, qS13, qS14, qS15, qS16, qS17, qS18, qE1, qE2, qE3, qE4, qE5, qE6, qE7, qE8, qE9, qE10, qE11, qE12, qE13, qE14, qE15, qE16, qE17, qE18, qE19, qE20, qE21, qE22, qEs1, qEs2, wpAll, qO1, qO2, qI1, qI2, qI3, w_add, w_addl, w_sub, w_mul, w_mull, w_fdiv, w_mod, w_pow, w_lt, w_le, w_gt, w_ge, w_eq, w_ne, w_eqt, w_eql, w_net, w_nel, w_isn, w_ist, w_isi, w_isl, w_abs, w_lent, w_lenl, w_intb, w_list, w_tuple, w_min, w_idxt0, w_idxt1, w_idxu0, w_idxu1, w_idxu2, w_idxl, w_slcl, w_slct, w_tb, w_ti, w_tn, w_tt, w_tl, w_itt, w_itl, w_bindT1, w_bindT2, w_srcl, w_srct, w_cut2, w_cut1, w_cut1', w_cut0, w_ty1, w_ty2, w_ty3, w_ty4, w_ty5, w_ty6, w_ty7, w_ty8, w_ty9, w_ty10, w_ty11, w_ty12, w_ty13, w_ty14, w_ty15, w_ty16, w_ty17, w_ty18, w_ty19, w_ty20, w_ty21, w_mapc, w_mapn, w_appc, w_appn, w_repc, w_repn, w_start, w_lenc, w_ifT, w_ifF, w_ifFF, w_ifTF, w_nT, w_nF, w_anyT, w_anyF, w_d22, ifSome_some, ifLst_lst, ifTup_tup, ifInt_int, lget, lset, lsets, Nat.reduceSub, Nat.reduceAdd, List.length_nil, ↓reduceIte]
  refine ⟨hf1, ifSome.mk hf ⟨by rw [List.length_map]; have := R.nd; unfold lim; (clear R hr hh hf hu n1 n2 n3 hf1; omega), ?_⟩⟩
  generalize hH2 : H.set fd (d.map V.int ++ [V.int 7]) = H2
  have hr2 : H2[r]? = some ((smul m K ++ zeros j).map .int) := by rw [← hH2, List.getElem?_set_ne n2]; exact hr
  have hh2 : H2[hd]? = some ((smul m K ++ zeros j).map .int) := by rw [← hH2, List.getElem?_set_ne n1]; exact hh
  have hu2 : H2[du]? = some (d.map .int) := by rw [← hH2, List.getElem?_set_ne n3]; exact hu
  refine topC_c (by decide) (s_pl R (v := .lst hd) hh2 fun H3 i hp3 _ hi => ?_)
  dsimp only [qS1, qS2, qS3, qS4, qS5, qS6, qS7, qS8, qS9, qS10, qS11, qS12, qS13, qS14, qS15, qS16, qS17, qS18, qE1, qE2, qE3, qE4, qE5, qE6, qE7, qE8, qE9, qE10, qE11, qE12, qE13, qE14, qE15, qE16, qE17, qE18, qE19, qE20, qE21, qE22, qEs1, qEs2, wpAll, qO1, qO2, qI1, qI2, qI3, w_add, w_addl, w_sub, w_mul, w_mull, w_fdiv, w_mod, w_pow, w_lt, w_le, w_gt, w_ge, w_eq, w_ne, w_eqt, w_eql, w_net, w_nel, w_isn, w_ist, w_isi, w_isl, w_abs, w_lent, w_lenl, w_intb, w_list, w_tuple, w_min, w_idxt0, w_idxt1, w_idxu0, w_idxu1, w_idxu2, w_idxl, w_slcl, w_slct, w_tb, w_ti, w_tn, w_tt, w_tl, w_itt, w_itl, w_bindT1, w_bindT2, w_srcl, w_srct, w_cut2, w_cut1, w_cut1', w_cut0, w_ty1, w_ty2, w_ty3, w_ty4, w_ty5, w_ty6, w_ty7, w_ty8, w_ty9, w_ty10, w_ty11, w_ty12, w_ty13, w_ty14, w_ty15, w_ty16, w_ty17, w_ty18, w_ty19, w_ty20, w_ty21, w_mapc, w_mapn, w_appc, w_appn, w_repc, w_repn, w_start, w_lenc, w_ifT, w_ifF, w_ifFF, w_ifTF, w_nT, w_nF, w_anyT, w_anyF, w_d22, ifSome_some, ifLst_lst, ifTup_tup, ifInt_int, lget, lset, lsets, Nat.reduceSub, Nat.reduceAdd, List.length_nil, ↓reduceIte]
  refine eqWp_ints hi (getKeep hp3 hu2) ?_
  rw [decide_eq_true rfl]
  dsimp only [qS1, qS2, qS3, qS4, qS5, qS6, qS7, qS8, qS9, qS10, qS11, qS12, qS13, qS14, qS15, qS16, qS17, qS18, qE1, qE2, qE3, qE4, qE5, qE6, qE7, qE8, qE9, qE10, qE11, qE12, qE13, qE14, qE15, qE16, qE17, qE18, qE19, qE20, qE21, qE22, qEs1, qEs2, wpAll, qO1, qO2, qI1, qI2, qI3, w_add, w_addl, w_sub, w_mul, w_mull, w_fdiv, w_mod, w_pow, w_lt, w_le, w_gt, w_ge, w_eq, w_ne, w_eqt, w_eql, w_net, w_nel, w_isn, w_ist, w_isi, w_isl, w_abs, w_lent, w_lenl, w_intb, w_list, w_tuple, w_min, w_idxt0, w_idxt1, w_idxu0, w_idxu1, w_idxu2, w_idxl, w_slcl, w_slct, w_tb, w_ti, w_tn, w_tt, w_tl, w_itt, w_itl, w_bindT1, w_bindT2, w_srcl, w_srct, w_cut2, w_cut1, w_cut1', w_cut0, w_ty1, w_ty2, w_ty3, w_ty4, w_ty5, w_ty6, w_ty7, w_ty8, w_ty9, w_ty10, w_ty11, w_ty12, w_ty13, w_ty14, w_ty15, w_ty16, w_ty17, w_ty18, w_ty19, w_ty20, w_ty21, w_mapc, w_mapn, w_appc, w_appn, w_repc, w_repn, w_start, w_lenc, w_ifT, w_ifF, w_ifFF, w_ifTF, w_nT, w_nF, w_anyT, w_anyF, w_d22, ifSome_some, ifLst_lst, ifTup_tup, ifInt_int, lget, lset, lsets, Nat.reduceSub, Nat.reduceAdd, List.length_nil, ↓reduceIte]
  refine ifSome.mk (getKeep hp3 hr2) ?_
  refine topC_c (by decide) (s_pl R (v := .tup _) rfl fun H4 i4 hp4 _ hi4 => ?_)
  dsimp only [qS1, qS2, qS3, qS4, qS5, qS6, qS7, qS8, qS9, qS10, qS11, qS12, qS13, qS14, qS15, qS16, qS17, qS18, qE1, qE2, qE3, qE4, qE5, qE6, qE7, qE8, qE9, qE10, qE11, qE12, qE13, qE14, qE15, qE16, qE17, qE18, qE19, qE20, qE21, qE22, qEs1, qEs2, wpAll, qO1, qO2, qI1, qI2, qI3, w_add, w_addl, w_sub, w_mul, w_mull, w_fdiv, w_mod, w_pow, w_lt, w_le, w_gt, w_ge, w_eq, w_ne, w_eqt, w_eql, w_net, w_nel, w_isn, w_ist, w_isi, w_isl, w_abs, w_lent, w_lenl, w_intb, w_list, w_tuple, w_min, w_idxt0, w_idxt1, w_idxu0, w_idxu1, w_idxu2, w_idxl, w_slcl, w_slct, w_tb, w_ti, w_tn, w_tt, w_tl, w_itt, w_itl, w_bindT1, w_bindT2, w_srcl, w_srct, w_cut2, w_cut1, w_cut1', w_cut0, w_ty1, w_ty2, w_ty3, w_ty4, w_ty5, w_ty6, w_ty7, w_ty8, w_ty9, w_ty10, w_ty11, w_ty12, w_ty13, w_ty14, w_ty15, w_ty16, w_ty17, w_ty18, w_ty19, w_ty20, w_ty21, w_mapc, w_mapn, w_appc, w_appn, w_repc, w_repn, w_start, w_lenc, w_ifT, w_ifF, w_ifFF, w_ifTF, w_nT, w_nF, w_anyT, w_anyF, w_d22, ifSome_some, ifLst_lst, ifTup_tup, ifInt_int, lget, lset, lsets, Nat.reduceSub, Nat.reduceAdd, List.length_nil, ↓reduceIte]
  refine eqWp_ints hi4 (getKeep hp4 (getKeep hp3 hu2)) ?_
  rw [decide_eq_true rfl]
  dsimp only [qS1, qS2, qS3, qS4, qS5, qS6, qS7, qS8, qS9, qS10, qS11, qS12, qS13, qS14, qS15, qS16, qS17, qS18, qE1, qE2, qE3, qE4, qE5, qE6, qE7, qE8, qE9, qE10, qE11, qE12, qE13, qE14, qE15, qE16, qE17, qE18, qE19, qE20, qE21, qE22, qEs1, qEs2, wpAll, qO1, qO2, qI1, qI2, qI3, w_add, w_addl, w_sub, w_mul, w_mull, w_fdiv, w_mod, w_pow, w_lt, w_le, w_gt, w_ge, w_eq, w_ne, w_eqt, w_eql, w_net, w_nel, w_isn, w_ist, w_isi, w_isl, w_abs, w_lent, w_lenl, w_intb, w_list, w_tuple, w_min, w_idxt0, w_idxt1, w_idxu0, w_idxu1, w_idxu2, w_idxl, w_slcl, w_slct, w_tb, w_ti, w_tn, w_tt, w_tl, w_itt, w_itl, w_bindT1, w_bindT2, w_srcl, w_srct, w_cut2, w_cut1, w_cut1', w_cut0, w_ty1, w_ty2, w_ty3, w_ty4, w_ty5, w_ty6, w_ty7, w_ty8, w_ty9, w_ty10, w_ty11, w_ty12, w_ty13, w_ty14, w_ty15, w_ty16, w_ty17, w_ty18, w_ty19, w_ty20, w_ty21, w_mapc, w_mapn, w_appc, w_appn, w_repc, w_repn, w_start, w_lenc, w_ifT, w_ifF, w_ifFF, w_ifTF, w_nT, w_nF, w_anyT, w_anyF, w_d22, ifSome_some, ifLst_lst, ifTup_tup, ifInt_int, lget, lset, lsets, Nat.reduceSub, Nat.reduceAdd, List.length_nil, ↓reduceIte]
  refine eqWp_ints (getKeep hp4 (getKeep hp3 hh2)) (getKeep hp4 (getKeep hp3 hr2)) ?_
  rw [decide_eq_true rfl]
theorem tail2 (R : RowF K d gl El g k m) (hr : H[r]? = some ((smul m K ++ zeros j).map .int)) (hh : H[hd]? = some ((smul m K ++ zeros j).map .int)) (hf : H[fd]? = some (d.map .int)) (hu : H[du]? = some (d.map .int)) (n1 : fd ≠ hd) (n2 : fd ≠ r) (n3 : fd ≠ du) (hf1 : 1 ≤ fd) :
    F t_law_2 [some (.lst 0), some (.lst fi), some (.int m), some (.lst r), some (.lst hd), some (.lst fd), some (.lst du)] H := by
  unfold F
  dsimp only [t_law_2, qS1, qS2, qS3, qS4, qS5, qS6, qS7, qS8, qS9, qS10, qS11, qS12, qS13, qS14, qS15, qS16, qS17, qS18, qE1, qE2, qE3, qE4, qE5, qE6, qE7, qE8, qE9, qE10, qE11, qE12, qE13, qE14, qE15, qE16, qE17, qE18, qE19, qE20, qE21, qE22, qEs1, qEs2, wpAll, qO1, qO2, qI1, qI2, qI3, w_add, w_addl, w_sub, w_mul, w_mull, w_fdiv, w_mod, w_pow, w_lt, w_le, w_gt, w_ge, w_eq, w_ne, w_eqt, w_eql, w_net, w_nel, w_isn, w_ist, w_isi, w_isl, w_abs, w_lent, w_lenl, w_intb, w_list, w_tuple, w_min, w_idxt0, w_idxt1, w_idxu0, w_idxu1, w_idxu2, w_idxl, w_slcl, w_slct, w_tb, w_ti, w_tn, w_tt, w_tl, w_itt, w_itl, w_bindT1, w_bindT2, w_srcl, w_srct, w_cut2, w_cut1, w_cut1', w_cut0, w_ty1, w_ty2, w_ty3, w_ty4, w_ty5, w_ty6, w_ty7, w_ty8, w_ty9, w_ty10, w_ty11, w_ty12, w_ty13, w_ty14, w_ty15, w_ty16, w_ty17, w_ty18, w_ty19, w_ty20, w_ty21, w_mapc, w_mapn, w_appc, w_appn, w_repc, w_repn, w_start, w_lenc, w_ifT, w_ifF, w_ifFF, w_ifTF, w_nT, w_nF, w_anyT, w_anyF, w_d22, ifSome_some, ifLst_lst, ifTup_tup, ifInt_int, lget, lset, lsets, Nat.reduceSub, Nat.reduceAdd, List.length_nil, ↓reduceIte]
  obtain ⟨K', d', gl', El', g', k', R', e1, e2⟩ := sq_row
  refine topC_c (by decide) (s_pl R' (v := .lst H.length) (H := H ++ [[V.int 0, V.int 0, V.int 1]]) (j := 0) (by rw [e1]; exact getApp _ _ _) fun H3 i hp3 _ hi => ?_)
  rw [e2] at hi
  dsimp only [qS1, qS2, qS3, qS4, qS5, qS6, qS7, qS8, qS9, qS10, qS11, qS12, qS13, qS14, qS15, qS16, qS17, qS18, qE1, qE2, qE3, qE4, qE5, qE6, qE7, qE8, qE9, qE10, qE11, qE12, qE13, qE14, qE15, qE16, qE17, qE18, qE19, qE20, qE21, qE22, qEs1, qEs2, wpAll, qO1, qO2, qI1, qI2, qI3, w_add, w_addl, w_sub, w_mul, w_mull, w_fdiv, w_mod, w_pow, w_lt, w_le, w_gt, w_ge, w_eq, w_ne, w_eqt, w_eql, w_net, w_nel, w_isn, w_ist, w_isi, w_isl, w_abs, w_lent, w_lenl, w_intb, w_list, w_tuple, w_min, w_idxt0, w_idxt1, w_idxu0, w_idxu1, w_idxu2, w_idxl, w_slcl, w_slct, w_tb, w_ti, w_tn, w_tt, w_tl, w_itt, w_itl, w_bindT1, w_bindT2, w_srcl, w_srct, w_cut2, w_cut1, w_cut1', w_cut0, w_ty1, w_ty2, w_ty3, w_ty4, w_ty5, w_ty6, w_ty7, w_ty8, w_ty9, w_ty10, w_ty11, w_ty12, w_ty13, w_ty14, w_ty15, w_ty16, w_ty17, w_ty18, w_ty19, w_ty20, w_ty21, w_mapc, w_mapn, w_appc, w_appn, w_repc, w_repn, w_start, w_lenc, w_ifT, w_ifF, w_ifFF, w_ifTF, w_nT, w_nF, w_anyT, w_anyF, w_d22, ifSome_some, ifLst_lst, ifTup_tup, ifInt_int, lget, lset, lsets, Nat.reduceSub, Nat.reduceAdd, List.length_nil, ↓reduceIte]
  have hp : H <+: H3 ++ [[V.int 0, V.int 1]] := preTrans (preApp _ _) (preTrans hp3 (preApp _ _))
  refine eqWp_ints (cs := [0, 1]) (ds := [0, 1]) (getKeep (preApp _ _) hi) (getApp _ _ _) ?_
  rw [decide_eq_true rfl]
  dsimp only [qS1, qS2, qS3, qS4, qS5, qS6, qS7, qS8, qS9, qS10, qS11, qS12, qS13, qS14, qS15, qS16, qS17, qS18, qE1, qE2, qE3, qE4, qE5, qE6, qE7, qE8, qE9, qE10, qE11, qE12, qE13, qE14, qE15, qE16, qE17, qE18, qE19, qE20, qE21, qE22, qEs1, qEs2, wpAll, qO1, qO2, qI1, qI2, qI3, w_add, w_addl, w_sub, w_mul, w_mull, w_fdiv, w_mod, w_pow, w_lt, w_le, w_gt, w_ge, w_eq, w_ne, w_eqt, w_eql, w_net, w_nel, w_isn, w_ist, w_isi, w_isl, w_abs, w_lent, w_lenl, w_intb, w_list, w_tuple, w_min, w_idxt0, w_idxt1, w_idxu0, w_idxu1, w_idxu2, w_idxl, w_slcl, w_slct, w_tb, w_ti, w_tn, w_tt, w_tl, w_itt, w_itl, w_bindT1, w_bindT2, w_srcl, w_srct, w_cut2, w_cut1, w_cut1', w_cut0, w_ty1, w_ty2, w_ty3, w_ty4, w_ty5, w_ty6, w_ty7, w_ty8, w_ty9, w_ty10, w_ty11, w_ty12, w_ty13, w_ty14, w_ty15, w_ty16, w_ty17, w_ty18, w_ty19, w_ty20, w_ty21, w_mapc, w_mapn, w_appc, w_appn, w_repc, w_repn, w_start, w_lenc, w_ifT, w_ifF, w_ifFF, w_ifTF, w_nT, w_nF, w_anyT, w_anyF, w_d22, ifSome_some, ifLst_lst, ifTup_tup, ifInt_int, lget, lset, lsets, Nat.reduceSub, Nat.reduceAdd, List.length_nil, ↓reduceIte]
  refine eqWp_ints (getKeep hp hf) (getKeep hp hu) ?_
  rw [decide_eq_true rfl]
  dsimp only [qS1, qS2, qS3, qS4, qS5, qS6, qS7, qS8, qS9, qS10, qS11, qS12, qS13, qS14, qS15, qS16, qS17, qS18, qE1, qE2, qE3, qE4, qE5, qE6, qE7, qE8, qE9, qE10, qE11, qE12, qE13, qE14, qE15, qE16, qE17, qE18, qE19, qE20, qE21, qE22, qEs1, qEs2, wpAll, qO1, qO2, qI1, qI2, qI3, w_add, w_addl, w_sub, w_mul, w_mull, w_fdiv, w_mod, w_pow, w_lt, w_le, w_gt, w_ge, w_eq, w_ne, w_eqt, w_eql, w_net, w_nel, w_isn, w_ist, w_isi, w_isl, w_abs, w_lent, w_lenl, w_intb, w_list, w_tuple, w_min, w_idxt0, w_idxt1, w_idxu0, w_idxu1, w_idxu2, w_idxl, w_slcl, w_slct, w_tb, w_ti, w_tn, w_tt, w_tl, w_itt, w_itl, w_bindT1, w_bindT2, w_srcl, w_srct, w_cut2, w_cut1, w_cut1', w_cut0, w_ty1, w_ty2, w_ty3, w_ty4, w_ty5, w_ty6, w_ty7, w_ty8, w_ty9, w_ty10, w_ty11, w_ty12, w_ty13, w_ty14, w_ty15, w_ty16, w_ty17, w_ty18, w_ty19, w_ty20, w_ty21, w_mapc, w_mapn, w_appc, w_appn, w_repc, w_repn, w_start, w_lenc, w_ifT, w_ifF, w_ifFF, w_ifTF, w_nT, w_nF, w_anyT, w_anyF, w_d22, ifSome_some, ifLst_lst, ifTup_tup, ifInt_int, lget, lset, lsets, Nat.reduceSub, Nat.reduceAdd, List.length_nil, ↓reduceIte]
  exact tail1 R (getKeep hp hr) (getKeep hp hh) (getKeep hp hf) (getKeep hp hu) n1 n2 n3 hf1
theorem tail4 (R : RowF K d gl El g k m) (hr : H[r]? = some ((smul m K ++ zeros j).map .int)) (hfi : H[fi]? = some (ps.map fun p => V.lst p.1)) (hF : Fcs H ps) (hps : ps.length ≤ 3) (hd : d = dd (ps.map (·.2)) [1]) :
    F t_law_4 [some (.lst 0), some (.lst fi), some (.int m), some (.lst r), none, none, none] H := by
  have hrl : r < H.length := (List.getElem?_eq_some_iff.mp hr).1
  unfold F
  dsimp only [t_law_4, qS1, qS2, qS3, qS4, qS5, qS6, qS7, qS8, qS9, qS10, qS11, qS12, qS13, qS14, qS15, qS16, qS17, qS18, qE1, qE2, qE3, qE4, qE5, qE6, qE7, qE8, qE9, qE10, qE11, qE12, qE13, qE14, qE15, qE16, qE17, qE18, qE19, qE20, qE21, qE22, qEs1, qEs2, wpAll, qO1, qO2, qI1, qI2, qI3, w_add, w_addl, w_sub, w_mul, w_mull, w_fdiv, w_mod, w_pow, w_lt, w_le, w_gt, w_ge, w_eq, w_ne, w_eqt, w_eql, w_net, w_nel, w_isn, w_ist, w_isi, w_isl, w_abs, w_lent, w_lenl, w_intb, w_list, w_tuple, w_min, w_idxt0, w_idxt1, w_idxu0, w_idxu1, w_idxu2, w_idxl, w_slcl, w_slct, w_tb, w_ti, w_tn, w_tt, w_tl, w_itt, w_itl, w_bindT1, w_bindT2, w_srcl, w_srct, w_cut2, w_cut1, w_cut1', w_cut0, w_ty1, w_ty2, w_ty3, w_ty4, w_ty5, w_ty6, w_ty7, w_ty8, w_ty9, w_ty10, w_ty11, w_ty12, w_ty13, w_ty14, w_ty15, w_ty16, w_ty17, w_ty18, w_ty19, w_ty20, w_ty21, w_mapc, w_mapn, w_appc, w_appn, w_repc, w_repn, w_start, w_lenc, w_ifT, w_ifF, w_ifFF, w_ifTF, w_nT, w_nF, w_anyT, w_anyF, w_d22, ifSome_some, ifLst_lst, ifTup_tup, ifInt_int, lget, lset, lsets, Nat.reduceSub, Nat.reduceAdd, List.length_nil, ↓reduceIte]
  refine ifSome.mk hr ?_
  have hh : (H ++ [(smul m K ++ zeros j).map V.int])[H.length]? = some ((smul m K ++ zeros j).map V.int) := getApp _ _ _
  refine topC_c (by decide) (s_pl R (v := .lst H.length) hh fun H2 fd hp2 hfd hf => ?_)
  have hpH : H <+: H2 := preTrans (preApp _ _) hp2
  have hh2 := getKeep hp2 hh
  have hr2 := getKeep hpH hr
  have hfd' : H.length + 1 ≤ fd := by rw [List.length_append, List.length_singleton] at hfd; exact hfd
  refine ifSome.mk (v := [true]) rfl ?_
  refine (if_pos (show (![true].any id) = false from rfl)).mpr ?_
  refine eqWp_ints hh2 hr2 ?_
  rw [decide_eq_true rfl]
  dsimp only [qS1, qS2, qS3, qS4, qS5, qS6, qS7, qS8, qS9, qS10, qS11, qS12, qS13, qS14, qS15, qS16, qS17, qS18, qE1, qE2, qE3, qE4, qE5, qE6, qE7, qE8, qE9, qE10, qE11, qE12, qE13, qE14, qE15, qE16, qE17, qE18, qE19, qE20, qE21, qE22, qEs1, qEs2, wpAll, qO1, qO2, qI1, qI2, qI3, w_add, w_addl, w_sub, w_mul, w_mull, w_fdiv, w_mod, w_pow, w_lt, w_le, w_gt, w_ge, w_eq, w_ne, w_eqt, w_eql, w_net, w_nel, w_isn, w_ist, w_isi, w_isl, w_abs, w_lent, w_lenl, w_intb, w_list, w_tuple, w_min, w_idxt0, w_idxt1, w_idxu0, w_idxu1, w_idxu2, w_idxl, w_slcl, w_slct, w_tb, w_ti, w_tn, w_tt, w_tl, w_itt, w_itl, w_bindT1, w_bindT2, w_srcl, w_srct, w_cut2, w_cut1, w_cut1', w_cut0, w_ty1, w_ty2, w_ty3, w_ty4, w_ty5, w_ty6, w_ty7, w_ty8, w_ty9, w_ty10, w_ty11, w_ty12, w_ty13, w_ty14, w_ty15, w_ty16, w_ty17, w_ty18, w_ty19, w_ty20, w_ty21, w_mapc, w_mapn, w_appc, w_appn, w_repc, w_repn, w_start, w_lenc, w_ifT, w_ifF, w_ifFF, w_ifTF, w_nT, w_nF, w_anyT, w_anyF, w_d22, ifSome_some, ifLst_lst, ifTup_tup, ifInt_int, lget, lset, lsets, Nat.reduceSub, Nat.reduceAdd, List.length_nil, ↓reduceIte]
  refine ifSome.mk hf ⟨by rw [List.length_map]; have := R.nd; unfold lim; (clear R hr hfi hF hps hd hrl hh hp2 hfd hf hpH hh2 hr2 hfd'; omega), ?_⟩
  refine compGo_none (fun x hx k' hk' => ?_) ?_
  · obtain ⟨y, _, rfl⟩ := List.mem_map.mp hx
    exact topC_c (by decide) (s_whole rfl hk')
  refine ifSome.mk (v := []) (getApp _ _ _) ?_
  dsimp only [qS1, qS2, qS3, qS4, qS5, qS6, qS7, qS8, qS9, qS10, qS11, qS12, qS13, qS14, qS15, qS16, qS17, qS18, qE1, qE2, qE3, qE4, qE5, qE6, qE7, qE8, qE9, qE10, qE11, qE12, qE13, qE14, qE15, qE16, qE17, qE18, qE19, qE20, qE21, qE22, qEs1, qEs2, wpAll, qO1, qO2, qI1, qI2, qI3, w_add, w_addl, w_sub, w_mul, w_mull, w_fdiv, w_mod, w_pow, w_lt, w_le, w_gt, w_ge, w_eq, w_ne, w_eqt, w_eql, w_net, w_nel, w_isn, w_ist, w_isi, w_isl, w_abs, w_lent, w_lenl, w_intb, w_list, w_tuple, w_min, w_idxt0, w_idxt1, w_idxu0, w_idxu1, w_idxu2, w_idxl, w_slcl, w_slct, w_tb, w_ti, w_tn, w_tt, w_tl, w_itt, w_itl, w_bindT1, w_bindT2, w_srcl, w_srct, w_cut2, w_cut1, w_cut1', w_cut0, w_ty1, w_ty2, w_ty3, w_ty4, w_ty5, w_ty6, w_ty7, w_ty8, w_ty9, w_ty10, w_ty11, w_ty12, w_ty13, w_ty14, w_ty15, w_ty16, w_ty17, w_ty18, w_ty19, w_ty20, w_ty21, w_mapc, w_mapn, w_appc, w_appn, w_repc, w_repn, w_start, w_lenc, w_ifT, w_ifF, w_ifFF, w_ifTF, w_nT, w_nF, w_anyT, w_anyF, w_d22, ifSome_some, ifLst_lst, ifTup_tup, ifInt_int, lget, lset, lsets, Nat.reduceSub, Nat.reduceAdd, List.length_nil, ↓reduceIte]
  refine (if_neg (show ¬ decide ((0 : Int) < ((0 : Nat) : Int)) = true by decide)).mpr ?_
  dsimp only [t_law_3, qS1, qS2, qS3, qS4, qS5, qS6, qS7, qS8, qS9, qS10, qS11, qS12, qS13, qS14, qS15, qS16, qS17, qS18, qE1, qE2, qE3, qE4, qE5, qE6, qE7, qE8, qE9, qE10, qE11, qE12, qE13, qE14, qE15, qE16, qE17, qE18, qE19, qE20, qE21, qE22, qEs1, qEs2, wpAll, qO1, qO2, qI1, qI2, qI3, w_add, w_addl, w_sub, w_mul, w_mull, w_fdiv, w_mod, w_pow, w_lt, w_le, w_gt, w_ge, w_eq, w_ne, w_eqt, w_eql, w_net, w_nel, w_isn, w_ist, w_isi, w_isl, w_abs, w_lent, w_lenl, w_intb, w_list, w_tuple, w_min, w_idxt0, w_idxt1, w_idxu0, w_idxu1, w_idxu2, w_idxl, w_slcl, w_slct, w_tb, w_ti, w_tn, w_tt, w_tl, w_itt, w_itl, w_bindT1, w_bindT2, w_srcl, w_srct, w_cut2, w_cut1, w_cut1', w_cut0, w_ty1, w_ty2, w_ty3, w_ty4, w_ty5, w_ty6, w_ty7, w_ty8, w_ty9, w_ty10, w_ty11, w_ty12, w_ty13, w_ty14, w_ty15, w_ty16, w_ty17, w_ty18, w_ty19, w_ty20, w_ty21, w_mapc, w_mapn, w_appc, w_appn, w_repc, w_repn, w_start, w_lenc, w_ifT, w_ifF, w_ifFF, w_ifTF, w_nT, w_nF, w_anyT, w_anyF, w_d22, ifSome_some, ifLst_lst, ifTup_tup, ifInt_int, lget, lset, lsets, Nat.reduceSub, Nat.reduceAdd, List.length_nil, ↓reduceIte]
  have hp3 : H2 <+: H2 ++ [[]] ++ [[]] := preTrans (preApp _ _) (preApp _ _)
  have hpF : H <+: H2 ++ [[]] ++ [[]] := preTrans hpH hp3
  refine topC_c (by decide) (s_made (n := 4) (ps := ps) (cells := []) (getKeep hpF hfi) ⟨fun p hp => getKeep hpF (hF.at_ p hp), hF.ftr, hF.nod⟩ hps (getApp _ _ _) (by decide) (by unfold Sm; decide) fun H4 du es hp4 hdu hel he2 he0 hu => ?_)
  have ees : (ps.map (·.2)).zip es = (ps.map (·.2)).map fun F => (F, 0) := by
    have h0 := he0 rfl
    clear hu he2 he0 hd hps hF hfi
    induction ps generalizing es with
    | nil => rfl
    | cons p r ih =>
      cases es with
      | nil => simp at hel
      | cons e es =>
        rw [List.map_cons, List.zip_cons_cons, List.map_cons, h0 e List.mem_cons_self, ih es (by simpa using hel) (fun x hx => h0 x (List.mem_cons_of_mem _ hx))]
  rw [ees, kk_dd, smul_1, ← hd] at hu
  have hfl : fd < H2.length := (List.getElem?_eq_some_iff.mp hf).1
  have hdu' : H2.length + 2 ≤ du := by simp at hdu; exact hdu
  have hp5 : H2 <+: H4 := preTrans hp3 hp4
  refine eqWp_ints (getKeep hp5 hf) hu ?_
  rw [decide_eq_true rfl]
  dsimp only [qS1, qS2, qS3, qS4, qS5, qS6, qS7, qS8, qS9, qS10, qS11, qS12, qS13, qS14, qS15, qS16, qS17, qS18, qE1, qE2, qE3, qE4, qE5, qE6, qE7, qE8, qE9, qE10, qE11, qE12, qE13, qE14, qE15, qE16, qE17, qE18, qE19, qE20, qE21, qE22, qEs1, qEs2, wpAll, qO1, qO2, qI1, qI2, qI3, w_add, w_addl, w_sub, w_mul, w_mull, w_fdiv, w_mod, w_pow, w_lt, w_le, w_gt, w_ge, w_eq, w_ne, w_eqt, w_eql, w_net, w_nel, w_isn, w_ist, w_isi, w_isl, w_abs, w_lent, w_lenl, w_intb, w_list, w_tuple, w_min, w_idxt0, w_idxt1, w_idxu0, w_idxu1, w_idxu2, w_idxl, w_slcl, w_slct, w_tb, w_ti, w_tn, w_tt, w_tl, w_itt, w_itl, w_bindT1, w_bindT2, w_srcl, w_srct, w_cut2, w_cut1, w_cut1', w_cut0, w_ty1, w_ty2, w_ty3, w_ty4, w_ty5, w_ty6, w_ty7, w_ty8, w_ty9, w_ty10, w_ty11, w_ty12, w_ty13, w_ty14, w_ty15, w_ty16, w_ty17, w_ty18, w_ty19, w_ty20, w_ty21, w_mapc, w_mapn, w_appc, w_appn, w_repc, w_repn, w_start, w_lenc, w_ifT, w_ifF, w_ifFF, w_ifTF, w_nT, w_nF, w_anyT, w_anyF, w_d22, ifSome_some, ifLst_lst, ifTup_tup, ifInt_int, lget, lset, lsets, Nat.reduceSub, Nat.reduceAdd, List.length_nil, ↓reduceIte]
  exact tail2 R (getKeep hp5 hr2) (getKeep hp5 hh2) (getKeep hp5 hf) hu (by (clear R hr hfi hF hps hd hrl hh hp2 hfd hf hpH hh2 hr2 hp3 hpF hp4 hdu hel he2 he0 hu ees hfl hdu' hp5; omega)) (by (clear R hr hfi hF hps hd hh hp2 hfd hf hpH hh2 hr2 hp3 hpF hp4 hdu hel he2 he0 hu ees hfl hdu' hp5; omega)) (by (clear R hr hfi hF hps hd hrl hh hp2 hfd hf hpH hh2 hr2 hfd' hp3 hpF hp4 hdu hel he2 he0 hu ees hp5; omega)) (by (clear R hr hfi hF hps hd hrl hh hp2 hfd hf hpH hh2 hr2 hp3 hpF hp4 hdu hel he2 he0 hu ees hfl hdu' hp5; omega))
theorem refused {row : List Int} {x : Int} {v : V} {Q : V → Hp → Prop} (hv : items H v = some (row.map .int)) (hr : row = zeros j ∨ row = x :: zeros j) (hQ : Q (.bool true) H) : topC Psi (callN nosub fnTab 6) 1017 [v] H Q fun _ _ => False :=
  topC_t (k := 17) ⟨rfl, rfl, s_plain_no (n := 4) (tr := 1) (re := 2) (qu := 7) (co := 6) (sp := 3) rfl hv hr fun H' _ => ⟨rfl, hQ⟩⟩
theorem refuse3 {row : List Int} {x : Int} {o1 o2 o3 : Option V} (hr : H[r]? = some (row.map .int)) (h : row = zeros j ∨ row = x :: zeros j) :
    F (.randt [(17, (.cons (.bi .list (.cons (.var 3) .nil)) .nil)), (17, (.cons (.bi .tuple (.cons (.var 3) .nil)) .nil)), (17, (.cons (.lst .nil) .nil))]) [some (.lst 0), some (.lst fi), some (.int m), some (.lst r), o1, o2, o3] H := by
  unfold F
  dsimp only [qS1, qS2, qS3, qS4, qS5, qS6, qS7, qS8, qS9, qS10, qS11, qS12, qS13, qS14, qS15, qS16, qS17, qS18, qE1, qE2, qE3, qE4, qE5, qE6, qE7, qE8, qE9, qE10, qE11, qE12, qE13, qE14, qE15, qE16, qE17, qE18, qE19, qE20, qE21, qE22, qEs1, qEs2, wpAll, qO1, qO2, qI1, qI2, qI3, w_add, w_addl, w_sub, w_mul, w_mull, w_fdiv, w_mod, w_pow, w_lt, w_le, w_gt, w_ge, w_eq, w_ne, w_eqt, w_eql, w_net, w_nel, w_isn, w_ist, w_isi, w_isl, w_abs, w_lent, w_lenl, w_intb, w_list, w_tuple, w_min, w_idxt0, w_idxt1, w_idxu0, w_idxu1, w_idxu2, w_idxl, w_slcl, w_slct, w_tb, w_ti, w_tn, w_tt, w_tl, w_itt, w_itl, w_bindT1, w_bindT2, w_srcl, w_srct, w_cut2, w_cut1, w_cut1', w_cut0, w_ty1, w_ty2, w_ty3, w_ty4, w_ty5, w_ty6, w_ty7, w_ty8, w_ty9, w_ty10, w_ty11, w_ty12, w_ty13, w_ty14, w_ty15, w_ty16, w_ty17, w_ty18, w_ty19, w_ty20, w_ty21, w_mapc, w_mapn, w_appc, w_appn, w_repc, w_repn, w_start, w_lenc, w_ifT, w_ifF, w_ifFF, w_ifTF, w_nT, w_nF, w_anyT, w_anyF, w_d22, ifSome_some, ifLst_lst, ifTup_tup, ifInt_int, lget, lset, lsets, Nat.reduceSub, Nat.reduceAdd, List.length_nil, ↓reduceIte, wpT]
  refine ifSome.mk hr ?_
  refine refused (v := .lst H.length) (getApp _ _ _) h ⟨rfl, ?_⟩
  refine ifSome.mk (getKeep (preApp _ _) hr) ?_
  refine refused (v := .tup _) (row := row) rfl h ⟨rfl, ?_⟩
  exact refused (v := .lst _) (row := []) (j := 0) (x := 0) (getApp _ _ _) (.inl rfl) ⟨rfl, rfl⟩
theorem cut_le {n c : Nat} : min (min (3 + c) n) n - min 3 n ≤ c := by omega
theorem spec (ns : List Int) (h : ns.length ≤ 63) : F b_law (startLoc 1 7 [.lst 0]) [ns.map .int] := by
  unfold F
  dsimp only [b_law, qS1, qS2, qS3, qS4, qS5, qS6, qS7, qS8, qS9, qS10, qS11, qS12, qS13, qS14, qS15, qS16, qS17, qS18, qE1, qE2, qE3, qE4, qE5, qE6, qE7, qE8, qE9, qE10, qE11, qE12, qE13, qE14, qE15, qE16, qE17, qE18, qE19, qE20, qE21, qE22, qEs1, qEs2, wpAll, qO1, qO2, qI1, qI2, qI3, w_add, w_addl, w_sub, w_mul, w_mull, w_fdiv, w_mod, w_pow, w_lt, w_le, w_gt, w_ge, w_eq, w_ne, w_eqt, w_eql, w_net, w_nel, w_isn, w_ist, w_isi, w_isl, w_abs, w_lent, w_lenl, w_intb, w_list, w_tuple, w_min, w_idxt0, w_idxt1, w_idxu0, w_idxu1, w_idxu2, w_idxl, w_slcl, w_slct, w_tb, w_ti, w_tn, w_tt, w_tl, w_itt, w_itl, w_bindT1, w_bindT2, w_srcl, w_srct, w_cut2, w_cut1, w_cut1', w_cut0, w_ty1, w_ty2, w_ty3, w_ty4, w_ty5, w_ty6, w_ty7, w_ty8, w_ty9, w_ty10, w_ty11, w_ty12, w_ty13, w_ty14, w_ty15, w_ty16, w_ty17, w_ty18, w_ty19, w_ty20, w_ty21, w_mapc, w_mapn, w_appc, w_appn, w_repc, w_repn, w_start, w_lenc, w_ifT, w_ifF, w_ifFF, w_ifTF, w_nT, w_nF, w_anyT, w_anyF, w_d22, ifSome_some, ifLst_lst, ifTup_tup, ifInt_int, lget, lset, lsets, Nat.reduceSub, Nat.reduceAdd, List.length_nil, ↓reduceIte]
  have h0 : [ns.map V.int][0]? = some (ns.map V.int) := rfl
  refine topC_c (by decide) (s_cell rfl (by decide) h0 ⟨by decide, ?_⟩)
  have c0 := Int.fmod_nonneg_of_pos (cellI ns (0 : Int).toNat) (b := 4) (by decide)
  have c1 := Int.fmod_lt_of_pos (cellI ns (0 : Int).toNat) (b := 4) (by decide)
  generalize (cellI ns (0 : Int).toNat).fmod 4 = c at *
  dsimp only [qS1, qS2, qS3, qS4, qS5, qS6, qS7, qS8, qS9, qS10, qS11, qS12, qS13, qS14, qS15, qS16, qS17, qS18, qE1, qE2, qE3, qE4, qE5, qE6, qE7, qE8, qE9, qE10, qE11, qE12, qE13, qE14, qE15, qE16, qE17, qE18, qE19, qE20, qE21, qE22, qEs1, qEs2, wpAll, qO1, qO2, qI1, qI2, qI3, w_add, w_addl, w_sub, w_mul, w_mull, w_fdiv, w_mod, w_pow, w_lt, w_le, w_gt, w_ge, w_eq, w_ne, w_eqt, w_eql, w_net, w_nel, w_isn, w_ist, w_isi, w_isl, w_abs, w_lent, w_lenl, w_intb, w_list, w_tuple, w_min, w_idxt0, w_idxt1, w_idxu0, w_idxu1, w_idxu2, w_idxl, w_slcl, w_slct, w_tb, w_ti, w_tn, w_tt, w_tl, w_itt, w_itl, w_bindT1, w_bindT2, w_srcl, w_srct, w_cut2, w_cut1, w_cut1', w_cut0, w_ty1, w_ty2, w_ty3, w_ty4, w_ty5, w_ty6, w_ty7, w_ty8, w_ty9, w_ty10, w_ty11, w_ty12, w_ty13, w_ty14, w_ty15, w_ty16, w_ty17, w_ty18, w_ty19, w_ty20, w_ty21, w_mapc, w_mapn, w_appc, w_appn, w_repc, w_repn, w_start, w_lenc, w_ifT, w_ifF, w_ifFF, w_ifTF, w_nT, w_nF, w_anyT, w_anyF, w_d22, ifSome_some, ifLst_lst, ifTup_tup, ifInt_int, lget, lset, lsets, Nat.reduceSub, Nat.reduceAdd, List.length_nil, ↓reduceIte]
  refine ifSome.mk h0 ?_
  rw [List.length_map]
  obtain ⟨cs, hcs, hcl⟩ : ∃ cs : List Int, cut (ns.map V.int) (clampAt ns.length 3) (clampAt ns.length (3 + c)) = cs.map V.int ∧ cs.length ≤ 3 :=
    ⟨(ns.take (clampAt ns.length (3 + c))).drop (clampAt ns.length 3), by rw [cut, List.map_drop, List.map_take], by
      obtain ⟨c', rfl⟩ := Int.eq_ofNat_of_zero_le c0
      rw [List.length_drop, List.length_take, clamp_pos (k := 3) (by decide), clamp_pos (k := 3 + (c' : Int)) (by (clear h h0; omega)), show (3 + (c' : Int)).toNat = 3 + c' by (clear h h0; omega), show (3 : Int).toNat = 3 from rfl]
      exact Nat.le_trans cut_le (by (clear h h0; omega))⟩
  rw [hcs]
  refine topC_c (by decide) (s_factors (n := 2) (cells := cs) (getApp _ _ _) (by (clear h h0 c0 c1 hcs; omega)) fun H1 ps hp1 hfi hF hpl => ?_)
  have hps : ps.length ≤ 3 := by (clear h h0 c0 c1 hcs hp1 hfi hF; omega)
  have h1 : H1[0]? = some (ns.map V.int) := getKeep hp1 (getKeep (preApp _ _) h0)
  refine topC_c (by decide) (s_cell rfl (by decide) h1 ⟨by decide, ?_⟩)
  have m0 := Int.fmod_nonneg_of_pos (cellI ns (1 : Int).toNat) (b := 9) (by decide)
  have m1 := Int.fmod_lt_of_pos (cellI ns (1 : Int).toNat) (b := 9) (by decide)
  obtain ⟨m, hm⟩ : ∃ m, m = (cellI ns (1 : Int).toNat).fmod 9 - 4 := ⟨_, rfl⟩
  dsimp only [qS1, qS2, qS3, qS4, qS5, qS6, qS7, qS8, qS9, qS10, qS11, qS12, qS13, qS14, qS15, qS16, qS17, qS18, qE1, qE2, qE3, qE4, qE5, qE6, qE7, qE8, qE9, qE10, qE11, qE12, qE13, qE14, qE15, qE16, qE17, qE18, qE19, qE20, qE21, qE22, qEs1, qEs2, wpAll, qO1, qO2, qI1, qI2, qI3, w_add, w_addl, w_sub, w_mul, w_mull, w_fdiv, w_mod, w_pow, w_lt, w_le, w_gt, w_ge, w_eq, w_ne, w_eqt, w_eql, w_net, w_nel, w_isn, w_ist, w_isi, w_isl, w_abs, w_lent, w_lenl, w_intb, w_list, w_tuple, w_min, w_idxt0, w_idxt1, w_idxu0, w_idxu1, w_idxu2, w_idxl, w_slcl, w_slct, w_tb, w_ti, w_tn, w_tt, w_tl, w_itt, w_itl, w_bindT1, w_bindT2, w_srcl, w_srct, w_cut2, w_cut1, w_cut1', w_cut0, w_ty1, w_ty2, w_ty3, w_ty4, w_ty5, w_ty6, w_ty7, w_ty8, w_ty9, w_ty10, w_ty11, w_ty12, w_ty13, w_ty14, w_ty15, w_ty16, w_ty17, w_ty18, w_ty19, w_ty20, w_ty21, w_mapc, w_mapn, w_appc, w_appn, w_repc, w_repn, w_start, w_lenc, w_ifT, w_ifF, w_ifFF, w_ifTF, w_nT, w_nF, w_anyT, w_anyF, w_d22, ifSome_some, ifLst_lst, ifTup_tup, ifInt_int, lget, lset, lsets, Nat.reduceSub, Nat.reduceAdd, List.length_nil, ↓reduceIte]
  rw [← hm]
  have sm : Sm 4 m := by unfold Sm; (clear h h0 c0 c1 hcs hcl hp1 hfi hF hpl hps h1; omega)
  refine ifSome.mk h1 ?_
  rw [List.length_map]
  obtain ⟨c2, hc2, hc2l⟩ : ∃ cs : List Int, cut (ns.map V.int) (clampAt ns.length 7) (clampAt ns.length 10) = cs.map V.int ∧ cs.length ≤ 63 :=
    ⟨(ns.take (clampAt ns.length 10)).drop (clampAt ns.length 7), by rw [cut, List.map_drop, List.map_take], by rw [List.length_drop, List.length_take]; (clear h0 c0 c1 hcs hcl hp1 hfi hF hpl hps h1 m0 m1 hm sm; omega)⟩
  rw [hc2]
  have hF2 : Fcs (H1 ++ [c2.map V.int]) ps := ⟨fun p hp => getKeep (preApp _ _) (hF.at_ p hp), hF.ftr, hF.nod⟩
  refine topC_c (by decide) (s_made (n := 4) (ps := ps) (cells := c2) (getKeep (preApp _ _) hfi) hF2 hps (getApp _ _ _) (by (clear h h0 c0 c1 hcs hcl hp1 hfi hF hpl hps h1 m0 m1 hm sm hc2 hF2; omega)) sm fun H3 i es hp3 hi1 hel he2 he0 hi => ?_)
  have hp13 : H1 <+: H3 := preTrans (preApp _ _) hp3
  have h3 : H3[0]? = some (ns.map V.int) := getKeep hp13 h1
  refine topC_c (by decide) (s_cell rfl (by decide) h3 ⟨by decide, ?_⟩)
  have z0 := Int.fmod_nonneg_of_pos (cellI ns (2 : Int).toNat) (b := 3) (by decide)
  have z1 := Int.fmod_lt_of_pos (cellI ns (2 : Int).toNat) (b := 3) (by decide)
  obtain ⟨j, hj⟩ := Int.eq_ofNat_of_zero_le z0
  rw [hj]
  refine rng1 (smallI_of (by (clear h h0 c0 c1 hcs hcl hp1 hfi hF hpl hps h1 m0 m1 hm sm hc2 hc2l hF2 hp3 hi1 hel he2 he0 hi hp13 h3; omega)) (by (clear h h0 c0 c1 hcs hcl hp1 hfi hF hpl hps h1 m0 m1 hm sm hc2 hc2l hF2 hp3 hi1 hel he2 he0 hi hp13 h3; omega))) ⟨by rw [List.length_map, List.length_range']; unfold lim; (clear h h0 c0 c1 hcs hcl hp1 hfi hF hpl hps h1 m0 m1 hm sm hc2 hc2l hF2 hp3 hi1 hel he2 he0 hi hp13 h3; omega), ?_⟩
  refine compGo_rng (g := fun _ => V.int 0) (fun i hi k hk => hk) ?_
  have ez : (List.range' 0 ((j : Int)).toNat).map (fun _ => V.int 0) = (zeros j).map V.int := by rw [List.map_const', List.length_range', zeros, List.map_replicate, Int.toNat_natCast]
  rw [ez]
  -- the row
  have hFtr : ∀ p ∈ (ps.map (·.2)).zip es, (∃ l, Ftr p.1 l) ∧ AllSm 40 p.1 ∧ p.2 ≤ 2 := fun p hp => by
    have hp' : (p.1, p.2) ∈ (ps.map (·.2)).zip es := hp
    obtain ⟨q1, q2⟩ := List.of_mem_zip hp'
    obtain ⟨q, hq, e1⟩ := List.mem_map.mp q1
    have := hF.ftr q hq
    rw [e1] at this
    exact ⟨this.1, this.2, he2 _ q2⟩
  have hfst : ((ps.map (·.2)).zip es).map (·.1) = ps.map (·.2) := List.map_fst_zip (by rw [List.length_map, hel]; exact Nat.le_refl _)
  have hzl : ((ps.map (·.2)).zip es).length = ps.length := by rw [List.length_zip, List.length_map, hel, Nat.min_self]
  obtain ⟨gl, El, g, k, hFL, hS⟩ := chain ((ps.map (·.2)).zip es) [] [1] [1] [1] [] 1 1 0 FL.start ⟨⟨1, rfl, by decide⟩, by decide, by decide, by decide, by decide, by decide, by decide⟩ (by (clear h h0 c0 c1 hcs hcl hp1 hfi hF hpl h1 m0 m1 hm sm hc2 hc2l hF2 hp3 hi1 he2 he0 hi hp13 h3 z0 z1 hj ez hFtr hfst; omega)) hFtr (by rw [List.nil_append, hfst]; exact hF.nod) (fun F l _ _ => cop_const (.one (by decide)))
  rw [hfst, hzl, Nat.zero_add] at hS
  rw [hfst] at hFL
  have tK := hS.tK
  have nK := hS.nK
  have hi5 : (H3 ++ [(zeros j).map V.int])[i]? = _ := getKeep (preApp _ _) hi
  have zl : (zeros j).length = j := by simp [zeros]
  refine ifSome.mk hi5 (ifSome.mk (getApp _ _ _) ⟨by rw [List.length_map, List.length_map, smul_len, zl]; unfold lim; (clear h h0 c0 c1 hcs hcl hp1 hfi hF hpl h1 m0 m1 hm sm hc2 hc2l hF2 hp3 hi1 he2 he0 hi hp13 h3 ez hFtr hfst hFL hS tK hi5; omega), ?_⟩)
  rw [← List.map_append]
  generalize hK : kk ((ps.map (·.2)).zip es) [1] = K at *
  generalize hH4 : H3 ++ [(zeros j).map V.int] = H4
  have hp4 : H3 <+: H4 := by rw [← hH4]; exact preApp _ _
  have hr : (H4 ++ [(smul m K ++ zeros j).map V.int])[H4.length]? = some ((smul m K ++ zeros j).map V.int) := getApp _ _ _
  have hp14 : H1 <+: H4 ++ [(smul m K ++ zeros j).map V.int] := preTrans hp13 (preTrans hp4 (preApp _ _))
  have hfi4 := getKeep hp14 hfi
  by_cases hm0 : m = 0
  · rw [decide_eq_true hm0]
    dsimp only [qS1, qS2, qS3, qS4, qS5, qS6, qS7, qS8, qS9, qS10, qS11, qS12, qS13, qS14, qS15, qS16, qS17, qS18, qE1, qE2, qE3, qE4, qE5, qE6, qE7, qE8, qE9, qE10, qE11, qE12, qE13, qE14, qE15, qE16, qE17, qE18, qE19, qE20, qE21, qE22, qEs1, qEs2, wpAll, qO1, qO2, qI1, qI2, qI3, w_add, w_addl, w_sub, w_mul, w_mull, w_fdiv, w_mod, w_pow, w_lt, w_le, w_gt, w_ge, w_eq, w_ne, w_eqt, w_eql, w_net, w_nel, w_isn, w_ist, w_isi, w_isl, w_abs, w_lent, w_lenl, w_intb, w_list, w_tuple, w_min, w_idxt0, w_idxt1, w_idxu0, w_idxu1, w_idxu2, w_idxl, w_slcl, w_slct, w_tb, w_ti, w_tn, w_tt, w_tl, w_itt, w_itl, w_bindT1, w_bindT2, w_srcl, w_srct, w_cut2, w_cut1, w_cut1', w_cut0, w_ty1, w_ty2, w_ty3, w_ty4, w_ty5, w_ty6, w_ty7, w_ty8, w_ty9, w_ty10, w_ty11, w_ty12, w_ty13, w_ty14, w_ty15, w_ty16, w_ty17, w_ty18, w_ty19, w_ty20, w_ty21, w_mapc, w_mapn, w_appc, w_appn, w_repc, w_repn, w_start, w_lenc, w_ifT, w_ifF, w_ifFF, w_ifTF, w_nT, w_nF, w_anyT, w_anyF, w_d22, ifSome_some, ifLst_lst, ifTup_tup, ifInt_int, lget, lset, lsets, Nat.reduceSub, Nat.reduceAdd, List.length_nil, ↓reduceIte]
    refine refuse3 hr (j := K.length + j) (x := 0) (.inl ?_)
    rw [hm0]
    unfold smul zeros
    rw [← List.replicate_append_replicate]
    congr 1
    rw [show (fun x : Int => 0 * x) = fun _ => 0 from funext fun x => Int.zero_mul x, List.map_const']
  · rw [decide_eq_false hm0]
    dsimp only [qS1, qS2, qS3, qS4, qS5, qS6, qS7, qS8, qS9, qS10, qS11, qS12, qS13, qS14, qS15, qS16, qS17, qS18, qE1, qE2, qE3, qE4, qE5, qE6, qE7, qE8, qE9, qE10, qE11, qE12, qE13, qE14, qE15, qE16, qE17, qE18, qE19, qE20, qE21, qE22, qEs1, qEs2, wpAll, qO1, qO2, qI1, qI2, qI3, w_add, w_addl, w_sub, w_mul, w_mull, w_fdiv, w_mod, w_pow, w_lt, w_le, w_gt, w_ge, w_eq, w_ne, w_eqt, w_eql, w_net, w_nel, w_isn, w_ist, w_isi, w_isl, w_abs, w_lent, w_lenl, w_intb, w_list, w_tuple, w_min, w_idxt0, w_idxt1, w_idxu0, w_idxu1, w_idxu2, w_idxl, w_slcl, w_slct, w_tb, w_ti, w_tn, w_tt, w_tl, w_itt, w_itl, w_bindT1, w_bindT2, w_srcl, w_srct, w_cut2, w_cut1, w_cut1', w_cut0, w_ty1, w_ty2, w_ty3, w_ty4, w_ty5, w_ty6, w_ty7, w_ty8, w_ty9, w_ty10, w_ty11, w_ty12, w_ty13, w_ty14, w_ty15, w_ty16, w_ty17, w_ty18, w_ty19, w_ty20, w_ty21, w_mapc, w_mapn, w_appc, w_appn, w_repc, w_repn, w_start, w_lenc, w_ifT, w_ifF, w_ifFF, w_ifTF, w_nT, w_nF, w_anyT, w_anyF, w_d22, ifSome_some, ifLst_lst, ifTup_tup, ifInt_int, lget, lset, lsets, Nat.reduceSub, Nat.reduceAdd, List.length_nil, ↓reduceIte]
    have hF4 : ∀ p ∈ ps, (H4 ++ [(smul m K ++ zeros j).map V.int] ++ [[]])[p.1]? = some (p.2.map .int) := fun p hp => getKeep (preApp _ _) (getKeep hp14 (hF.at_ p hp))
    have hfi5 : (H4 ++ [(smul m K ++ zeros j).map V.int] ++ [[]])[([ns.map V.int] ++ [cs.map V.int]).length]? = some (ps.map fun p => V.lst p.1) := getKeep (preApp _ _) hfi4
    have hnil : (H4 ++ [(smul m K ++ zeros j).map V.int] ++ [[]])[(H4 ++ [(smul m K ++ zeros j).map V.int]).length]? = some ([] : List V) := getApp _ _ _
    refine ⟨.list (ps.map fun p => PyData.list (p.2.map .int)), .list [], ?_, ?_, ?_⟩
    · simp only [datOf, hfi5, dat_fcs hF4]; rfl
    · simp only [datOf, hnil]; rfl
    have hp5 : H4 ++ [(smul m K ++ zeros j).map V.int] <+: H4 ++ [(smul m K ++ zeros j).map V.int] ++ [[]] := preApp _ _
    cases ps with
    | nil =>
      rw [PyData.eqv, show PyData.eqvAll (([] : List (Nat × List Int)).map fun p => PyData.list (p.2.map .int)) [] = true from rfl]
      dsimp only [qS1, qS2, qS3, qS4, qS5, qS6, qS7, qS8, qS9, qS10, qS11, qS12, qS13, qS14, qS15, qS16, qS17, qS18, qE1, qE2, qE3, qE4, qE5, qE6, qE7, qE8, qE9, qE10, qE11, qE12, qE13, qE14, qE15, qE16, qE17, qE18, qE19, qE20, qE21, qE22, qEs1, qEs2, wpAll, qO1, qO2, qI1, qI2, qI3, w_add, w_addl, w_sub, w_mul, w_mull, w_fdiv, w_mod, w_pow, w_lt, w_le, w_gt, w_ge, w_eq, w_ne, w_eqt, w_eql, w_net, w_nel, w_isn, w_ist, w_isi, w_isl, w_abs, w_lent, w_lenl, w_intb, w_list, w_tuple, w_min, w_idxt0, w_idxt1, w_idxu0, w_idxu1, w_idxu2, w_idxl, w_slcl, w_slct, w_tb, w_ti, w_tn, w_tt, w_tl, w_itt, w_itl, w_bindT1, w_bindT2, w_srcl, w_srct, w_cut2, w_cut1, w_cut1', w_cut0, w_ty1, w_ty2, w_ty3, w_ty4, w_ty5, w_ty6, w_ty7, w_ty8, w_ty9, w_ty10, w_ty11, w_ty12, w_ty13, w_ty14, w_ty15, w_ty16, w_ty17, w_ty18, w_ty19, w_ty20, w_ty21, w_mapc, w_mapn, w_appc, w_appn, w_repc, w_repn, w_start, w_lenc, w_ifT, w_ifF, w_ifFF, w_ifTF, w_nT, w_nF, w_anyT, w_anyF, w_d22, ifSome_some, ifLst_lst, ifTup_tup, ifInt_int, lget, lset, lsets, Nat.reduceSub, Nat.reduceAdd, List.length_nil, ↓reduceIte]
      refine refuse3 (getKeep hp5 hr) (j := j) (x := m * 1) (.inr ?_)
      have : K = [1] := by rw [← hK]; rfl
      rw [this]; rfl
    | cons p ps =>
      rw [PyData.eqv, List.map_cons, show PyData.eqvAll (PyData.list (p.2.map .int) :: ps.map fun p => PyData.list (p.2.map .int)) [] = false from rfl]
      dsimp only [qS1, qS2, qS3, qS4, qS5, qS6, qS7, qS8, qS9, qS10, qS11, qS12, qS13, qS14, qS15, qS16, qS17, qS18, qE1, qE2, qE3, qE4, qE5, qE6, qE7, qE8, qE9, qE10, qE11, qE12, qE13, qE14, qE15, qE16, qE17, qE18, qE19, qE20, qE21, qE22, qEs1, qEs2, wpAll, qO1, qO2, qI1, qI2, qI3, w_add, w_addl, w_sub, w_mul, w_mull, w_fdiv, w_mod, w_pow, w_lt, w_le, w_gt, w_ge, w_eq, w_ne, w_eqt, w_eql, w_net, w_nel, w_isn, w_ist, w_isi, w_isl, w_abs, w_lent, w_lenl, w_intb, w_list, w_tuple, w_min, w_idxt0, w_idxt1, w_idxu0, w_idxu1, w_idxu2, w_idxl, w_slcl, w_slct, w_tb, w_ti, w_tn, w_tt, w_tl, w_itt, w_itl, w_bindT1, w_bindT2, w_srcl, w_srct, w_cut2, w_cut1, w_cut1', w_cut0, w_ty1, w_ty2, w_ty3, w_ty4, w_ty5, w_ty6, w_ty7, w_ty8, w_ty9, w_ty10, w_ty11, w_ty12, w_ty13, w_ty14, w_ty15, w_ty16, w_ty17, w_ty18, w_ty19, w_ty20, w_ty21, w_mapc, w_mapn, w_appc, w_appn, w_repc, w_repn, w_start, w_lenc, w_ifT, w_ifF, w_ifFF, w_ifTF, w_nT, w_nF, w_anyT, w_anyF, w_d22, ifSome_some, ifLst_lst, ifTup_tup, ifInt_int, lget, lset, lsets, Nat.reduceSub, Nat.reduceAdd, List.length_nil, ↓reduceIte]
      have hpl3 : (p :: ps).length ≤ 3 := hps
      have hn := hS.nK'
      have hg := hS.hg
      have hk := hS.hk
      have hnd := hS.nd
      rw [List.length_cons] at hn hg hk hnd nK hpl3
      have e3 : 3 ^ 10 = 59049 := by decide +kernel
      have hsz : 4 * (k + 1) * 3 ^ 10 + 2 * (g + 100) ≤ 130000000 := by rw [e3]; (clear h h0 c0 c1 hcs hcl hp1 h1 m0 m1 hm sm hc2 hc2l hp3 hi1 he2 he0 hp13 h3 z0 z1 hj ez zl hi tK hi5 hH4 hp4 hr hp14 hm0 hnil hp5 nK hfi5 hn hnd e3; omega)
      have RF : RowF K (dd ((p :: ps).map (·.2)) [1]) gl El g k m := ⟨hFL, tK, hm0, by (clear h h0 c0 c1 hcs hcl hp1 h1 m0 m1 hm sm hc2 hc2l hp3 hi1 he2 he0 hp13 h3 z0 z1 hj ez zl hi tK hi5 hH4 hp4 hr hp14 hm0 hnil hp5 hfi hF hpl hps hF2 hel hFtr hfst hzl hK hFL hS hfi4 hF4 hfi5 hg hk hnd e3 hsz; omega), by (clear h h0 c0 c1 hcs hcl hp1 h1 m0 m1 hm sm hc2 hc2l hp3 hi1 he2 he0 hp13 h3 z0 z1 hj ez zl hi tK hi5 hH4 hp4 hr hp14 hm0 hnil hp5 hfi hF hpl hps hF2 hel hFtr hfst hzl hK hFL hS hfi4 hF4 hfi5 hn hg hk hnd e3 hsz; omega), by (clear h h0 c0 c1 hcs hcl hp1 h1 m0 m1 hm sm hc2 hc2l hp3 hi1 he2 he0 hp13 h3 z0 z1 hj ez zl hi tK hi5 hH4 hp4 hr hp14 hm0 hnil hp5 hfi hF hpl hps hF2 hel hFtr hfst hzl hK hFL hS nK hfi4 hF4 hfi5 hn hg hk e3 hsz; omega), hsz⟩
      have g1 := getKeep hp5 hr
      have g2 := getKeep hp5 hfi4
      have g3 : Fcs (H4 ++ [(smul m K ++ zeros j).map V.int] ++ [[]]) (p :: ps) := ⟨hF4, hF.ftr, hF.nod⟩
      exact tail4 RF g1 g2 g3 hps rfl
end
end L03
end Mine

open PySem PyProof.Rows PySem.Calls PySem.W
set_option Elab.async false
set_option maxRecDepth 100000
set_option maxHeartbeats 8000000
set_option linter.unusedVariables false
namespace Mine
theorem boot_size (w : World) : ((boot_heap w.params).isNs mainGlobals, (boot_heap w.params).objs.size, (boot_heap w.params).nsMap mainGlobals "__annotations__") = (true, 11, some (.ref 6)) := by kernel_rfl
noncomputable def vw03 : Program := PySem.W.view PySem.Challenge.pw_uf020007_03 [1, 2, 3, 4, 5, 6, 8, 10, 11, 12, 13, 14, 15, 16, 17, 19, 20, 21, 22, 23, 24, 25, 26, 27, 28]
noncomputable def fdef03 (i : Nat) : Arguments × List Stmt × Scope := match PySem.Challenge.pw_uf020007_03.main.body[i]? with | some (.FunctionDef _ ps b _ _ _ sc _ _ _) => (ps, b, sc) | _ => default
noncomputable def k03_3_0 (P : Params) : List DictEntry := [{ hash := PyData.keyHash P (Str.ofString "__name__"), key := Value.str (Str.ofString "__name__") 165, val := Value.str (Str.ofString "law_uf020007_03") 363 }, { hash := PyData.keyHash P (Str.ofString "__doc__"), key := Value.str (Str.ofString "__doc__") 166, val := Value.none }, { hash := PyData.keyHash P (Str.ofString "__package__"), key := Value.str (Str.ofString "__package__") 167, val := Value.none }, { hash := PyData.keyHash P (Str.ofString "__loader__"), key := Value.str (Str.ofString "__loader__") 168, val := Value.builtin "__main__.__loader__#opaque" }, { hash := PyData.keyHash P (Str.ofString "__spec__"), key := Value.str (Str.ofString "__spec__") 169, val := Value.none }, { hash := PyData.keyHash P (Str.ofString "__annotations__"), key := Value.str (Str.ofString "__annotations__") 170, val := Value.ref 6 }, { hash := PyData.keyHash P (Str.ofString "__builtins__"), key := Value.str (Str.ofString "__builtins__") 171, val := Value.ref 4 }, { hash := PyData.keyHash P (Str.ofString "__file__"), key := Value.str (Str.ofString "__file__") 173, val := Value.str (Str.ofString "/claim/cut.py") 172 }]
noncomputable def k03_3_1 (P : Params) : List DictEntry := [{ hash := PyData.keyHash P (Str.ofString "__cached__"), key := Value.str (Str.ofString "__cached__") 174, val := Value.none }, { hash := PyData.keyHash P (Str.ofString "PegError"), key := Value.str (Str.ofString "PegError") 206, val := Value.ref 24 }, { hash := PyData.keyHash P (Str.ofString "NoPart"), key := Value.str (Str.ofString "NoPart") 222, val := Value.ref 37 }, { hash := PyData.keyHash P (Str.ofString "NoRow"), key := Value.str (Str.ofString "NoRow") 238, val := Value.ref 49 }, { hash := PyData.keyHash P (Str.ofString "NoStretch"), key := Value.str (Str.ofString "NoStretch") 254, val := Value.ref 61 }, { hash := PyData.keyHash P (Str.ofString "NotAlone"), key := Value.str (Str.ofString "NotAlone") 270, val := Value.ref 73 }, { hash := PyData.keyHash P (Str.ofString "NoQuotient"), key := Value.str (Str.ofString "NoQuotient") 286, val := Value.ref 85 }, { hash := PyData.keyHash P (Str.ofString "divisor"), key := Value.str (Str.ofString "divisor") 297, val := Value.ref 94 }]
noncomputable def k03_3_2 (P : Params) : List DictEntry := [{ hash := PyData.keyHash P (Str.ofString "trimmed"), key := Value.str (Str.ofString "trimmed") 307, val := Value.ref 101 }, { hash := PyData.keyHash P (Str.ofString "reduced"), key := Value.str (Str.ofString "reduced") 313, val := Value.ref 106 }, { hash := PyData.keyHash P (Str.ofString "slope"), key := Value.str (Str.ofString "slope") 319, val := Value.ref 111 }, { hash := PyData.keyHash P (Str.ofString "without_last"), key := Value.str (Str.ofString "without_last") 325, val := Value.ref 116 }, { hash := PyData.keyHash P (Str.ofString "rest_of"), key := Value.str (Str.ofString "rest_of") 334, val := Value.ref 123 }, { hash := PyData.keyHash P (Str.ofString "common"), key := Value.str (Str.ofString "common") 343, val := Value.ref 130 }, { hash := PyData.keyHash P (Str.ofString "quotient"), key := Value.str (Str.ofString "quotient") 354, val := Value.ref 137 }, { hash := PyData.keyHash P (Str.ofString "plain"), key := Value.str (Str.ofString "plain") 362, val := Value.ref 144 }]
noncomputable def k03_3_3 (P : Params) : List DictEntry := [{ hash := PyData.keyHash P (Str.ofString "_law_whole"), key := Value.str (Str.ofString "_law_whole") 371, val := Value.ref 151 }, { hash := PyData.keyHash P (Str.ofString "_law_cell_at"), key := Value.str (Str.ofString "_law_cell_at") 379, val := Value.ref 158 }, { hash := PyData.keyHash P (Str.ofString "_law_divisor"), key := Value.str (Str.ofString "_law_divisor") 388, val := Value.ref 165 }, { hash := PyData.keyHash P (Str.ofString "_law_part"), key := Value.str (Str.ofString "_law_part") 397, val := Value.ref 172 }, { hash := PyData.keyHash P (Str.ofString "_law_by"), key := Value.str (Str.ofString "_law_by") 403, val := Value.ref 177 }, { hash := PyData.keyHash P (Str.ofString "_law_factor"), key := Value.str (Str.ofString "_law_factor") 417, val := Value.ref 184 }, { hash := PyData.keyHash P (Str.ofString "_law_factors"), key := Value.str (Str.ofString "_law_factors") 426, val := Value.ref 191 }, { hash := PyData.keyHash P (Str.ofString "_law_made"), key := Value.str (Str.ofString "_law_made") 439, val := Value.ref 198 }]
noncomputable def k03_3_4 (P : Params) : List DictEntry := [{ hash := PyData.keyHash P (Str.ofString "_law_refused"), key := Value.str (Str.ofString "_law_refused") 447, val := Value.ref 205 }, { hash := PyData.keyHash P (Str.ofString "law"), key := Value.str (Str.ofString "law") 453, val := Value.ref 210 }]
noncomputable def k03_3 (P : Params) : Obj := { cls := Value.type "dict", data := Data.dict ⟨k03_3_0 P ++ (k03_3_1 P ++ (k03_3_2 P ++ (k03_3_3 P ++ (k03_3_4 P))))⟩ 34 }
noncomputable def k03_23 (P : Params) : Obj := { cls := Value.type "dict", data := Data.dict #[{ hash := PyData.keyHash P (Str.ofString "__module__"), key := Value.str (Str.ofString "__module__") 196, val := Value.str (Str.ofString "rootpeg.errors") 187 }, { hash := PyData.keyHash P (Str.ofString "__firstlineno__"), key := Value.str (Str.ofString "__firstlineno__") 200, val := Value.int 2 199 }, { hash := PyData.keyHash P (Str.ofString "__static_attributes__"), key := Value.str (Str.ofString "__static_attributes__") 201, val := Value.ref 22 }, { hash := PyData.keyHash P (Str.ofString "__weakref__"), key := Value.str (Str.ofString "__weakref__") 203, val := Value.ref 25 }, { hash := PyData.keyHash P (Str.ofString "__doc__"), key := Value.str (Str.ofString "__doc__") 204, val := Value.none }] 3 }
noncomputable def k03_24 (P : Params) : Obj := { cls := Value.type "type", data := Data.cls { name := Str.ofString "PegError", bases := [Value.type "ValueError"], mro := [Value.ref 24, Value.type "ValueError", Value.type "Exception", Value.type "BaseException", Value.type "object"], ns := 23, qualname := Str.ofString "PegError", subclasses := [Value.ref 37, Value.ref 49, Value.ref 61, Value.ref 73, Value.ref 85] }, slots := #[some (Value.ref 15), none, some (Value.str (Str.ofString "PegError") 189), some (Value.str (Str.ofString "PegError") 197), some (Value.builtin "ValueError.__new__"), some (Value.bool true)] }
noncomputable def k03_36 (P : Params) : Obj := { cls := Value.type "dict", data := Data.dict #[{ hash := PyData.keyHash P (Str.ofString "__module__"), key := Value.str (Str.ofString "__module__") 214, val := Value.str (Str.ofString "rootpeg.errors") 187 }, { hash := PyData.keyHash P (Str.ofString "__firstlineno__"), key := Value.str (Str.ofString "__firstlineno__") 218, val := Value.int 4 217 }, { hash := PyData.keyHash P (Str.ofString "__static_attributes__"), key := Value.str (Str.ofString "__static_attributes__") 219, val := Value.ref 35 }, { hash := PyData.keyHash P (Str.ofString "__doc__"), key := Value.str (Str.ofString "__doc__") 220, val := Value.none }] 2 }
noncomputable def k03_37 (P : Params) : Obj := { cls := Value.type "type", data := Data.cls { name := Str.ofString "NoPart", bases := [Value.ref 24], mro := [Value.ref 37, Value.ref 24, Value.type "ValueError", Value.type "Exception", Value.type "BaseException", Value.type "object"], ns := 36, qualname := Str.ofString "NoPart" }, slots := #[some (Value.ref 28), none, some (Value.str (Str.ofString "NoPart") 207), some (Value.str (Str.ofString "NoPart") 215), some (Value.builtin "ValueError.__new__"), some (Value.bool true)] }
noncomputable def k03_48 (P : Params) : Obj := { cls := Value.type "dict", data := Data.dict #[{ hash := PyData.keyHash P (Str.ofString "__module__"), key := Value.str (Str.ofString "__module__") 230, val := Value.str (Str.ofString "rootpeg.errors") 187 }, { hash := PyData.keyHash P (Str.ofString "__firstlineno__"), key := Value.str (Str.ofString "__firstlineno__") 234, val := Value.int 6 233 }, { hash := PyData.keyHash P (Str.ofString "__static_attributes__"), key := Value.str (Str.ofString "__static_attributes__") 235, val := Value.ref 47 }, { hash := PyData.keyHash P (Str.ofString "__doc__"), key := Value.str (Str.ofString "__doc__") 236, val := Value.none }] 2 }
noncomputable def k03_49 (P : Params) : Obj := { cls := Value.type "type", data := Data.cls { name := Str.ofString "NoRow", bases := [Value.ref 24], mro := [Value.ref 49, Value.ref 24, Value.type "ValueError", Value.type "Exception", Value.type "BaseException", Value.type "object"], ns := 48, qualname := Str.ofString "NoRow" }, slots := #[some (Value.ref 40), none, some (Value.str (Str.ofString "NoRow") 223), some (Value.str (Str.ofString "NoRow") 231), some (Value.builtin "ValueError.__new__"), some (Value.bool true)] }
noncomputable def k03_60 (P : Params) : Obj := { cls := Value.type "dict", data := Data.dict #[{ hash := PyData.keyHash P (Str.ofString "__module__"), key := Value.str (Str.ofString "__module__") 246, val := Value.str (Str.ofString "rootpeg.errors") 187 }, { hash := PyData.keyHash P (Str.ofString "__firstlineno__"), key := Value.str (Str.ofString "__firstlineno__") 250, val := Value.int 8 249 }, { hash := PyData.keyHash P (Str.ofString "__static_attributes__"), key := Value.str (Str.ofString "__static_attributes__") 251, val := Value.ref 59 }, { hash := PyData.keyHash P (Str.ofString "__doc__"), key := Value.str (Str.ofString "__doc__") 252, val := Value.none }] 2 }
noncomputable def k03_61 (P : Params) : Obj := { cls := Value.type "type", data := Data.cls { name := Str.ofString "NoStretch", bases := [Value.ref 24], mro := [Value.ref 61, Value.ref 24, Value.type "ValueError", Value.type "Exception", Value.type "BaseException", Value.type "object"], ns := 60, qualname := Str.ofString "NoStretch" }, slots := #[some (Value.ref 52), none, some (Value.str (Str.ofString "NoStretch") 239), some (Value.str (Str.ofString "NoStretch") 247), some (Value.builtin "ValueError.__new__"), some (Value.bool true)] }
noncomputable def k03_72 (P : Params) : Obj := { cls := Value.type "dict", data := Data.dict #[{ hash := PyData.keyHash P (Str.ofString "__module__"), key := Value.str (Str.ofString "__module__") 262, val := Value.str (Str.ofString "rootpeg.errors") 187 }, { hash := PyData.keyHash P (Str.ofString "__firstlineno__"), key := Value.str (Str.ofString "__firstlineno__") 266, val := Value.int 10 265 }, { hash := PyData.keyHash P (Str.ofString "__static_attributes__"), key := Value.str (Str.ofString "__static_attributes__") 267, val := Value.ref 71 }, { hash := PyData.keyHash P (Str.ofString "__doc__"), key := Value.str (Str.ofString "__doc__") 268, val := Value.none }] 2 }
noncomputable def k03_73 (P : Params) : Obj := { cls := Value.type "type", data := Data.cls { name := Str.ofString "NotAlone", bases := [Value.ref 24], mro := [Value.ref 73, Value.ref 24, Value.type "ValueError", Value.type "Exception", Value.type "BaseException", Value.type "object"], ns := 72, qualname := Str.ofString "NotAlone" }, slots := #[some (Value.ref 64), none, some (Value.str (Str.ofString "NotAlone") 255), some (Value.str (Str.ofString "NotAlone") 263), some (Value.builtin "ValueError.__new__"), some (Value.bool true)] }
noncomputable def k03_84 (P : Params) : Obj := { cls := Value.type "dict", data := Data.dict #[{ hash := PyData.keyHash P (Str.ofString "__module__"), key := Value.str (Str.ofString "__module__") 278, val := Value.str (Str.ofString "rootpeg.errors") 187 }, { hash := PyData.keyHash P (Str.ofString "__firstlineno__"), key := Value.str (Str.ofString "__firstlineno__") 282, val := Value.int 12 281 }, { hash := PyData.keyHash P (Str.ofString "__static_attributes__"), key := Value.str (Str.ofString "__static_attributes__") 283, val := Value.ref 83 }, { hash := PyData.keyHash P (Str.ofString "__doc__"), key := Value.str (Str.ofString "__doc__") 284, val := Value.none }] 2 }
noncomputable def k03_85 (P : Params) : Obj := { cls := Value.type "type", data := Data.cls { name := Str.ofString "NoQuotient", bases := [Value.ref 24], mro := [Value.ref 85, Value.ref 24, Value.type "ValueError", Value.type "Exception", Value.type "BaseException", Value.type "object"], ns := 84, qualname := Str.ofString "NoQuotient" }, slots := #[some (Value.ref 76), none, some (Value.str (Str.ofString "NoQuotient") 271), some (Value.str (Str.ofString "NoQuotient") 279), some (Value.builtin "ValueError.__new__"), some (Value.bool true)] }
noncomputable def k03_143 (P : Params) : Obj := { cls := Value.type "code", data := Data.fields #[Value.str (Str.ofString "plain") 355, Value.str (Str.ofString "plain") 356, Value.str (Str.ofString "/claim/cut.py") 357, Value.int 67 0, Value.int 1 0, Value.int 0 0, Value.int 0 0, Value.int 3 0, Value.ref 138, Value.bool true, Value.int 181 0, Value.ref 139, Value.none, Value.ref 140, Value.ref 141, Value.ref 142, Value.int 360 0, Value.int 67 0, Value.str (Str.ofString "/claim/cut.py") 361] }
noncomputable def k03_144 (P : Params) : Obj := (fun (p : Arguments) (b : List Stmt) (s : Scope) (_ : fdef03 17 = (p, b, s)) => ({ cls := Value.type "function", data := Data.func { name := Str.ofString "plain", qualname := Str.ofString "plain", params := p, body := .stmts b, scope := s, globals := 3, closure := [], defaults := Value.none, kwdefaults := Value.none, pyModule := Value.str (Str.ofString "rootpeg.rows") 298, code := Value.ref 143 } } : Obj)) _ _ _ rfl
noncomputable def k03_204 (P : Params) : Obj := { cls := Value.type "code", data := Data.fields #[Value.str (Str.ofString "_law_refused") 440, Value.str (Str.ofString "_law_refused") 441, Value.str (Str.ofString "/claim/cut.py") 442, Value.int 131 0, Value.int 1 0, Value.int 0 0, Value.int 0 0, Value.int 3 0, Value.ref 199, Value.bool true, Value.int 181 0, Value.ref 200, Value.none, Value.ref 201, Value.ref 202, Value.ref 203, Value.int 445 0, Value.int 131 0, Value.str (Str.ofString "/claim/cut.py") 446] }
noncomputable def k03_205 (P : Params) : Obj := (fun (p : Arguments) (b : List Stmt) (s : Scope) (_ : fdef03 27 = (p, b, s)) => ({ cls := Value.type "function", data := Data.func { name := Str.ofString "_law_refused", qualname := Str.ofString "_law_refused", params := p, body := .stmts b, scope := s, globals := 3, closure := [], defaults := Value.none, kwdefaults := Value.none, pyModule := Value.str (Str.ofString "law_uf020007_03") 363, code := Value.ref 204 } } : Obj)) _ _ _ rfl
noncomputable def K03 : Params → Frag := fun P => [(nat_lit 3, k03_3 P), (nat_lit 23, k03_23 P), (nat_lit 24, k03_24 P), (nat_lit 36, k03_36 P), (nat_lit 37, k03_37 P), (nat_lit 48, k03_48 P), (nat_lit 49, k03_49 P), (nat_lit 60, k03_60 P), (nat_lit 61, k03_61 P), (nat_lit 72, k03_72 P), (nat_lit 73, k03_73 P), (nat_lit 84, k03_84 P), (nat_lit 85, k03_85 P), (nat_lit 143, k03_143 P), (nat_lit 144, k03_144 P), (nat_lit 204, k03_204 P), (nat_lit 205, k03_205 P)]
noncomputable def as03 : List Addr := [3, 23, 24, 36, 37, 48, 49, 60, 61, 72, 73, 84, 85, 143, 144, 204, 205]
noncomputable def E03 (w : World) (os : OsState) := endsT PySem.Challenge.pw_uf020007_03 vw03 [] (fun s => xlAt vw03 [] s && recOk (RowW.records PySem.Challenge.rw_uf020007_03.row.toRowW) s) (fun s => as03.map s.heap.get?) 11 (some (.ref 6)) 4500 w os
noncomputable def G03 (w : World) := some (true, openGood vw03 [], (K03 w.params).map fun p => some p.2)
theorem run03 (w : World) (os : OsState) : E03 w os = G03 w := by kernel_rfl
theorem left03 : LeftO PySem.Challenge.pw_uf020007_03 vw03 [] (fun s => xlAt vw03 [] s && recOk (RowW.records PySem.Challenge.rw_uf020007_03.row.toRowW) s) (fun s => as03.map s.heap.get?) (fun w => (K03 w.params).map fun p => some p.2) 4500 :=
  leftO_of (by kernel_rfl) (by kernel_rfl) (fun s => by kernel_rfl) boot_size run03
end Mine
local macro_rules | `(tactic| walk_at "call builtin:isinstance") => `(tactic| (k_here; (with_reducible show wpAny _ _ (call _ [Value.ref _, Value.ref _]) _ _ _); k_dflt (refine' kia_tup (Mine.kitx_exc ?k5 ?k6 ?k7 ?k8 ?k9) ?X ?I ?p ?ee ?nb ?_; (case p => kit_tp); (case X => k_in); (case I => exact Mine.excAt_N (by k_asm) (by k_mem) (by assumption)); (case ee => kit_is); (case nb => kit_nb); (case k5 => k_is); (case k6 => k_is); (case k7 => k_is); (case k8 => k_is); (case k9 => k_is); k_whole; intro _)))
local macro_rules | `(tactic| walk_at "call builtin:isinstance") => `(tactic| (k_here; (with_reducible show wpAny _ _ (call _ [Value.ref _, _]) _ _ _); k_dflt (refine' kia_one (Mine.kitx_exc ?k5 ?k6 ?k7 ?k8 ?k9) ?X ?I ?ee ?nb ?_; (case X => k_in); (case I => exact Mine.excAt_N (by k_asm) (by k_mem) (by assumption)); (case ee => kit_is); (case nb => kit_nb); (case k5 => k_is); (case k6 => k_is); (case k7 => k_is); (case k8 => k_is); (case k9 => k_is); k_whole; intro _)))
namespace Mine
noncomputable def L03.lawDef : DefT := match ((recsOf Mine.vw03).map toDef)[18]? with | some d => d | none => ⟨default, default, [], default⟩
noncomputable def L03.gc : GC := ⟨L03.fnNames, L03.clsNames, []⟩
theorem L03.chk : chkAll L03.gc ((recsOf vw03).map toDef) L03.fnTab L03.varTab = true := by decide +kernel
theorem L03.nocell (d : DefT) (hd : ((recsOf vw03).map toDef)[8]? = some d) : (d.scope.names.all fun x => !(x.2 == NameKind.cell)) = true := by
  have h0 : (((recsOf vw03).map toDef)[8]?.all fun d => d.scope.names.all fun x => !(x.2 == NameKind.cell)) = true := by decide +kernel
  rw [hd] at h0
  exact h0
end Mine
theorem PySem.Challenge.cw_uf020007_03_holds : PySem.Challenge.rw_uf020007_03.Holds := by
  w_on
  o_law
  refine holds_open (q := Mine.vw03) (loose := []) (XP := XL Mine.vw03 []) (YP := InK Mine.K03) (N := 4500) Mine.left03 (InK.of (fun _ => by kernel_rfl)) InK.keeps (fun s e => xl_of s (Bool.and_eq_true_iff.mp e).1) XL.keeps (by rfl) (by rfl) (by rfl) (fun s e => recFacts_of (Bool.and_eq_true_iff.mp e).2) (by rfl) (by first | assumption | decide +kernel) (by decide +kernel) ⟨rfl, rfl, rfl, rfl, rfl, by decide +kernel⟩ ?hw ?hc
  case hw => w_witness2
  k_fill
  intro w s₀ s₁ mg mb G Y fa o pm cd doc dV kV ho hd hcd hD hmg hg args vals as hpre hlay hrd hwl hlo
  have KX : (Mine.K03 w.params).In s₁.heap := Y
  refine Ground.open G ?_
  intro T B D TE TW
  have GF1 := Mine.gf_plain (gc := Mine.L03.gc) T (by decide +kernel) rfl (by decide +kernel) (by decide +kernel)
  have m7 := mg_of KX T.g (show nsIn (Mine.K03 w.params) mainGlobals (Str.ofString "plain") = some (some (.ref 144)) by k_is)
  have m22 := mg_of KX T.g (show nsIn (Mine.K03 w.params) mainGlobals (Str.ofString "_law_refused") = some (some (.ref 205)) by k_is)
  have c3 := mg_of KX T.g (show nsIn (Mine.K03 w.params) mainGlobals (Str.ofString "NoRow") = some (some (.ref 49)) by k_is)
  have fa7 : Mine.fnAddr mg Mine.L03.fnNames 8 = 144 := by
    show (match mg (Str.ofString "plain") with | some (.ref a) => a | _ => 0) = 144
    rw [m7]
  have fa22 : Mine.fnAddr mg Mine.L03.fnNames 17 = 205 := by
    show (match mg (Str.ofString "_law_refused") with | some (.ref a) => a | _ => 0) = 205
    rw [m22]
  obtain ⟨hP, hdefs⟩ := Mine.defs_of Mine.L03.chk
  have key : ∀ (s : Shared) (α : List Addr) (vals : List Value) (vs : List Mine.V) (H : Mine.Hp) (Q : Mine.V → Mine.Hp → Prop) (E : Value → Shared → Prop) (m : Str → Option Value) (news : List (Addr × Obj)) (Z : Value → Shared → Prop) (fb : Addr) (cd : Value), Mine.L03.Psi 17 vs H Q →
      Fr s₁.heap s₁.heap.objs.size s.heap m → News s₁.heap s₁.heap.objs.size s.heap news → (∀ b o, s.heap.get? b = some o → s₁.heap.get? b = none → b ≠ s₁.heap.objs.size → (b, o) ∈ news) →
      Mine.HR ⟨mg, mb, Mine.fnAddr mg Mine.L03.fnNames, fun _ => .none⟩ α s.heap H → Mine.Reps ⟨mg, mb, Mine.fnAddr mg Mine.L03.fnNames, fun _ => .none⟩ α s.heap vals vs →
      (∀ (v : Value) (d : Mine.V) (h' : Heap) (tk : Nat) (news' : List (Addr × Obj)) (β : List Addr) (K : Mine.Hp), Fr s₁.heap s₁.heap.objs.size h' m → News s₁.heap s₁.heap.objs.size h' news' → (∀ q ∈ news, q ∈ news') → (∀ b ∈ β, s.heap.get? b = none) →
        Mine.HR ⟨mg, mb, Mine.fnAddr mg Mine.L03.fnNames, fun _ => .none⟩ (α ++ β) h' (H ++ K) → Mine.Rep ⟨mg, mb, Mine.fnAddr mg Mine.L03.fnNames, fun _ => .none⟩ (α ++ β) h' v d → Q d (H ++ K) → Z v { s with heap := h', toks := tk }) →
      wpAny (model rw_uf020007_03.row.prog w) (callerA.deeper (envOf (Str.ofString "law") Mine.L03.lawDef.scope s₁.heap.objs.size fb cd)) (call (.ref 205) vals) Z E s := by
    intro s α vals vs H Q E m news Z fb cd hpsi F N full hR hr hZ
    obtain ⟨_, hlen, hw⟩ := hpsi
    obtain ⟨v1, rfl⟩ := Mine.reps1 hr hlen
    have K0 := below_caller s₁.heap
    obtain ⟨_, _, M⟩ := bmod_of_top T
    clear ho hd hcd hD hmg hpre hlay hrd hwl hlo B D TE TW
    have F0 := F
    have N0 := N
    w_top on
    have hD : KtsDicts (([] : List Env).filterMap (·.frame)) s₁.heap := ktsDicts_nil
    refine wpAny_call ?_
    k_dflt (refine' code_defS0 ?k1 ?k2 ?k3 ?k4 ?k5 ?kA ?k6 ?k7 ?k8 ?k9 ?kB ?_ ?cK ?c2 ?c3 ?c4 ?c5; (case kA => exact rfl); (case k2 => k_asm); (case k1 => k_asm); (case k3 => k_asm); (case k4 => k_asm); (case k5 => k_asm); (case k6 => k_is); (case k7 => k_is); (case k8 => k_room); (case k9 => first | exact binds_K (by k_in) rfl (by k_is) rfl rfl rfl | exact BindsTo.of_eq rfl | fail "kts_go: no rule for these arguments"); (case kB => exact locs rfl); (case cK => exact rfl); (case c2 => exact rfl); (case c3 => exact rfl); (case c4 => exact rfl); (case c5 => decide); k_whole; intro g' L' h' FG' F' N' B' X' T' D'; (try dsimp only); (try k_lift B'); (try k_fold))
    iterate 11 (first | (k_unfold; (try dsimp only)) | walk1 | (dsimp only; walk1))
    refine ⟨Frag.In.keeps X' F'.keep, ?_⟩
    have led : ∀ q ∈ news, h'.get? q.1 = some q.2 := fun q hq => (N' q hq).1
    have kB := Mine.keepsB_led F0 full (fun b o e => F'.keep b o (FG'.keep b o e)) led
    have hR' := kB.hr hR
    have hr' := Mine.Reps.mono (fun _ _ e => e) kB.tup hr
    have KB := B'.push F' (name := Str.ofString "_law_refused") (a := 205) (cd := Value.ref 204) (scope := (Mine.fdef03 27).2.2)
    have TT := T'.keeps F'.keep
    have GFh := GF1.keeps (fun b o e => F'.keep b o (FG'.keep b o e))
    have hroom : ∀ e1 e2, Mine.Room rw_uf020007_03.row.prog ((callerA.deeper e1).deeper e2) 6 := fun e1 e2 => ((Mine.callerRoom (prog := rw_uf020007_03.row.prog) (n := 8) rfl (by decide)).down).down
    have e145 : (Value.ref 144) = .ref (Mine.fnAddr mg Mine.L03.fnNames 8) := by rw [fa7]
    refine wpAny_call ?_
    rw [e145]
    refine codeAny_mono (Mine.call_raise (prog := rw_uf020007_03.row.prog) (w := w) (G := ⟨mg, mb, Mine.fnAddr mg Mine.L03.fnNames, fun _ => .none⟩) (gc := Mine.L03.gc) (DT := (recsOf Mine.vw03).map Mine.toDef) (P := Mine.L03.fnTab) (sub := Mine.L03.nosub) (n := 5) (Φ := Mine.callN Mine.L03.nosub Mine.L03.fnTab 5) (f := 8) (vs := vs) (H := H)
      (Q := fun _ _ => False) (Y := fun c H' => c = 2 ∧ Q (.bool true) H) (fd := ⟨1, 2, Mine.L03.b_plain⟩) (hroom _ _) hdefs
      (fun env => (Mine.scall_callN (by rw [hP]; rfl) (by decide) hdefs 5 _ (hroom _ _).down).wp) (Mine.callN_no (by decide) 5) rfl rfl hlen hw α [v1] ?EE GFh hR' hr' KB TT Mine.L03.nocell ?hS ?hX) (fun r s' p => ?_)
    rotate_left 3
    · cases r with
      | error e => exact p
      | ok fl =>
        cases fl with
        | ret v =>
          obtain ⟨h2, tk2, β, K, d, rfl, k2, f2, R2, r2, q2⟩ := p
          exact q2.elim
        | _ => exact p.elim
    · intro k x H' hk hy
      obtain rfl : k = 2 := hy.1
      obtain rfl : Str.ofString "NoRow" = x := Option.some.inj hk
      kernel_rfl
    · intro k x C e t us h'' tk' H' hk hC hy RS US
      obtain ⟨G₂, RS2, FG2, US2⟩ := Mine.raised_news RS N' F' (fun b e => by
        cases e1 : s₁.heap.get? b with
        | none => rfl
        | some o1 => rw [FG'.keep _ _ e1] at e; cases e) (fun q hq hm => by
          rcases kts_mem hm with hm | hm
          · exact (N' q hq).2.1 hm
          · rcases kts_mem hm with hm | hm
            · obtain ⟨oL, _, _, hoL, _⟩ := FG'.ns
              rw [← hm, (N' q hq).2.2] at hoL; cases hoL
            · cases hm) US
      clear F' N' RS US KB TT GFh hR' hr' kB led
      obtain rfl : k = 2 := hy.1
      obtain rfl : Str.ofString "NoRow" = x := Option.some.inj hk
      obtain rfl : 49 = C := by
        have hC' : mg (Str.ofString "NoRow") = some (.ref C) := hC
        rw [c3] at hC'; cases hC'; rfl
      iterate 1 (first | (k_unfold; (try dsimp only)) | walk1 | (dsimp only; walk1))
      k_dflt (refine' hit_SB ?R ?F ?K ?U ?XB ?TB ?D ?T0 ?T ?_; (case R => assumption); (case F => assumption); (case K => assumption); (case U => assumption); (case XB => assumption); (case TB => assumption); (case D => assumption); (case T0 => first | assumption | exact KtsTurn.refl); (case T => kts_test); k_whole)
      intro h2 g2 n2 tk2 T2 F2 N2 G2 N3 K2 X2 P2 D2
      obtain ⟨oe, ot, ws, nt, m1, m2, ec, ed, e0, tc, td⟩ := G2
      have N4 := Mine.news_cons N3 (N2 _ m1)
      clear N2 N3 m1 m2 tc td e0
      (try k_lift K2)
      (try k_sweep)
      k_steps
      rename_i kF kN Tc kX
      exact Mine.bool_end hZ F0 full hR hy.2 kF kN (fun q hq => by repeat (first | exact hq | apply List.Mem.tail))
  wrow_args hpre hlay hrd hwl hlo
  all_goals (
    first | refine callC_kw (enter_call ?_) | refine enter_call ?_ | refine callC_kw (enter_callW ?_) | refine enter_callW ?_ | w_how
    w_top on
    try refine codeAny_mono ?_ (fun _ _ g => GoodW.toG g)
    rename_i hL hlay1 _ _ _ _ _ _ _ hLs _ _ _ hI _ hcond _
    refine Mine.run_lawT rfl (gc := Mine.L03.gc) (P := Mine.L03.fnTab) (VT := Mine.L03.varTab) (sub := Mine.L03.nosub) (k := 18) (n := 6) (x := "law") (Ψ := Mine.L03.Psi)
      GF1 (by decide +kernel) Mine.L03.chk (by decide) hLs hI (by omega) (by decide +kernel) hmg (by decide) (fd := ⟨1, 7, Mine.L03.b_law⟩) rfl rfl ?_ (Mine.L03.spec _ (by omega)) ?_
    · intro d vn cd hd13
      have hdd : d = Mine.L03.lawDef := (Option.some.inj ((show ((recsOf Mine.vw03).map Mine.toDef)[18]? = some Mine.L03.lawDef from rfl).symm.trans hd13)).symm
      subst hdd
      refine Mine.stry_gen (fun k vs H Q hq s α vals E m news Z F N full R r hZ => ?_) (Nat.le_refl _)
      rcases hq with ⟨hq, _⟩ | ⟨_, hq⟩
      · exact absurd hq (by omega)
      · rw [Nat.add_sub_cancel] at hq
        obtain rfl : k = 17 := hq.1
        show wpAny _ _ (call (.ref (Mine.fnAddr mg Mine.L03.fnNames 17)) _) _ _ _
        rw [fa22]
        exact key s α vals vs H Q E m news Z _ cd hq F N full R r hZ
    · intro h' tk kp
      exact ⟨.inl ⟨_, .bool true, [], rfl, by intro cls; rfl, .bool true, (by first | rfl | exact postW_of rfl rfl (by decide +kernel)), unshared_nil⟩, kp, rfl, hg⟩)

